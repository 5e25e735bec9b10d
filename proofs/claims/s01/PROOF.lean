import PyProof.Rows.All
import Wide.All
import OpenK.AllK
import Wide.FinOn
import PyProof.EqAt
import PyProof.EqKinds
import PyProof.TupleCall
import Open.SpecLaws
import KE.OsGo
import KE.KDictZip
import KE.SortData
import HandS.ForSpec
import HandS.ForMost
import HandS.TryMany
import HandS.ExcInit
import HandS.ExcField
import HandS.Conv
import HandS.SortInts
import HandS.Strs
import HandS.TupSets
import HandS.Codes
import HandS.HeadHook1
import HandS.HeadHook2
import HandS.Head4
import HandS.Walk
import KE.IntTextLaws
import PyVbceaj
import PySem.Challenge.RW_errataoffice_s01_answers
set_option Elab.async false
set_option linter.all false
set_option maxRecDepth 100000
set_option maxHeartbeats 4400000
namespace Em
open Vbceaj (Erratum Sheet Numbers)
/-! ### lists -/
theorem take_next {α : Type} {x : α} {i : Nat} {l : List α} (h : l[i]? = some x) : l.take (i + 1) = l.take i ++ [x] := by
  rw [List.take_add_one, h]
  rfl
theorem getElem_map {α β : Type} {f : α → β} {l : List α} {i : Nat} {y : β} (h : (l.map f)[i]? = some y) : ∃ x, l[i]? = some x ∧ y = f x := by
  rw [List.getElem?_map] at h
  cases q : l[i]? with
  | none => rw [q] at h; cases h
  | some x => rw [q] at h; exact ⟨x, rfl, (Option.some.inj h).symm⟩
/-- two strictly rising lists with the same members are one -/
theorem rising_ext : ∀ {l m : List Int}, l.Pairwise (· < ·) → m.Pairwise (· < ·) → (∀ k, k ∈ l ↔ k ∈ m) → l = m
  | [], [], _, _, _ => rfl
  | [], b :: m, _, _, h => by have := (h b).mpr List.mem_cons_self; cases this
  | a :: l, [], _, _, h => by have := (h a).mp List.mem_cons_self; cases this
  | a :: l, b :: m, hl, hm, h => by
    rw [List.pairwise_cons] at hl hm
    have e : a = b := by
      have h1 := (h a).mp List.mem_cons_self
      have h2 := (h b).mpr List.mem_cons_self
      rcases List.mem_cons.mp h1 with e | e
      · exact e
      · rcases List.mem_cons.mp h2 with e' | e'
        · exact e'.symm
        · have := hm.1 a e
          have := hl.1 b e'
          omega
    subst e
    rw [rising_ext hl.2 hm.2 fun k => ?_]
    constructor
    · intro hk
      rcases List.mem_cons.mp ((h k).mp (List.mem_cons_of_mem _ hk)) with e | e
      · have := hl.1 k hk
        omega
      · exact e
    · intro hk
      rcases List.mem_cons.mp ((h k).mpr (List.mem_cons_of_mem _ hk)) with e | e
      · have := hm.1 k hk
        omega
      · exact e
/-! ### sheets -/
def trip (x : Erratum) : List Int := [(x.place : Int), x.old, x.new]
def chunks : List Int → List (List Int)
  | a :: b :: c :: l => [a, b, c] :: chunks l
  | _ => []
theorem chunks_length : ∀ l : List Int, (chunks l).length = l.length / 3
  | a :: b :: c :: l => by
    show (chunks l).length + 1 = (l.length + 1 + 1 + 1) / 3
    rw [chunks_length l]; omega
  | [] => by simp [chunks]
  | [a] => by simp [chunks]
  | [a, b] => by simp [chunks]
theorem chunks_at : ∀ (l : List Int) (i : Nat), i < l.length / 3 → (chunks l)[i]? = some ((l.drop (3 * i)).take 3)
  | a :: b :: c :: l, 0, _ => rfl
  | a :: b :: c :: l, i + 1, h => by
    have e : 3 * (i + 1) = 3 * i + 1 + 1 + 1 := by omega
    show (chunks l)[i]? = some (((a :: b :: c :: l).drop (3 * (i + 1))).take 3)
    rw [e]
    exact chunks_at l i (by simp only [List.length_cons] at h; omega)
  | [], i, h => by simp at h
  | [a], i, h => by simp at h
  | [a, b], i, h => by simp at h
def num (z : Int) : Bool := VbceCore.isBetween z (-Vbceaj.BIG) Vbceaj.BIG
/-- is_sheet's loop over the chunks, behind a place -/
def okFrom (n : Int) : Int → List (List Int) → Bool
  | _, [] => true
  | b, [p, o, w] :: l => (decide (b < p) && decide (p < n) && !decide (o = w) && num o && num w) && okFrom n p l
  | _, _ :: _ => false
/-- a row that tells a sheet -/
def sheetOf (n : Nat) (l : List Int) : Option Sheet := match Vbceaj.triples l with
  | none => none
  | some t => if Vbceaj.isSheet n t = true then some t else none
theorem triples_chunks : ∀ (l : List Int) (t : Sheet), Vbceaj.triples l = some t → l.length % 3 = 0 ∧ chunks l = t.map trip ∧ ∀ x ∈ t, num x.old = true ∧ num x.new = true
  | [], t, h => by
    have e : ([] : Sheet) = t := Option.some.inj h
    subst e
    exact ⟨rfl, rfl, fun x hx => by cases hx⟩
  | [a], t, h => by cases h
  | [a, b], t, h => by cases h
  | p :: a :: b :: l, t, h => by
    unfold Vbceaj.triples at h
    split at h
    · rename_i hc
      cases q : Vbceaj.triples l with
      | none => rw [q] at h; cases h
      | some r =>
        rw [q] at h
        have e := Option.some.inj h
        subst e
        obtain ⟨h1, h2, h3⟩ := triples_chunks l r q
        refine ⟨by simp only [List.length_cons]; omega, ?_, fun x hx => ?_⟩
        · show [p, a, b] :: chunks l = [((p.toNat : Nat) : Int), a, b] :: r.map trip
          rw [h2, Int.toNat_of_nonneg hc.1]
        · rcases List.mem_cons.mp hx with e | e
          · rw [e]; exact ⟨hc.2.1, hc.2.2⟩
          · exact h3 x e
    · cases h
theorem rising_cons {a : Nat} {s : List Nat} (h : Vbceaj.isRising (a :: s) = true) : Vbceaj.isRising s = true ∧ ∀ b ∈ s.head?, a < b := by
  cases s with
  | nil => exact ⟨rfl, fun b hb => by cases hb⟩
  | cons b l =>
    have e : (decide (a < b) && Vbceaj.isRising (b :: l)) = true := h
    rw [Bool.and_eq_true] at e
    exact ⟨e.2, fun c hc => by
      have e2 : b = c := by simpa using hc
      rw [← e2]; exact of_decide_eq_true e.1⟩
theorem rising_mk {a : Nat} {s : List Nat} (h : Vbceaj.isRising s = true) (ha : ∀ b ∈ s.head?, a < b) : Vbceaj.isRising (a :: s) = true := by
  cases s with
  | nil => rfl
  | cons b l =>
    show (decide (a < b) && Vbceaj.isRising (b :: l)) = true
    rw [decide_eq_true (ha b (by simp)), h]
    rfl
theorem rising_pairwise : ∀ {s : List Nat}, Vbceaj.isRising s = true → s.Pairwise (· < ·)
  | [], _ => List.Pairwise.nil
  | [a], _ => List.pairwise_singleton ..
  | a :: b :: l, h => by
    have e : (decide (a < b) && Vbceaj.isRising (b :: l)) = true := h
    rw [Bool.and_eq_true] at e
    have ih := rising_pairwise e.2
    have hab := of_decide_eq_true e.1
    refine List.pairwise_cons.mpr ⟨fun c hc => ?_, ih⟩
    rcases List.mem_cons.mp hc with q | q
    · rw [q]; exact hab
    · exact Nat.lt_trans hab ((List.pairwise_cons.mp ih).1 c q)
/-- what a sheet is -/
structure IsS (n : Nat) (s : Sheet) : Prop where
  ris : Vbceaj.isRising (Vbceaj.places s) = true
  lt : ∀ x ∈ s, x.place < n
  ne : ∀ x ∈ s, x.old ≠ x.new
theorem isS_iff {n : Nat} {s : Sheet} : Vbceaj.isSheet n s = true ↔ IsS n s := by
  unfold Vbceaj.isSheet
  rw [Bool.and_eq_true, List.all_eq_true]
  constructor
  · rintro ⟨h1, h2⟩
    refine ⟨h1, fun x hx => ?_, fun x hx => ?_⟩
    · have := h2 x hx
      rw [Bool.and_eq_true] at this
      exact of_decide_eq_true this.1
    · have := h2 x hx
      rw [Bool.and_eq_true] at this
      simpa using this.2
  · rintro ⟨h1, h2, h3⟩
    refine ⟨h1, fun x hx => ?_⟩
    rw [Bool.and_eq_true]
    exact ⟨decide_eq_true (h2 x hx), by simpa using h3 x hx⟩
theorem IsS.tail {n : Nat} {x : Erratum} {s : Sheet} (h : IsS n (x :: s)) : IsS n s :=
  ⟨(rising_cons h.ris).1, fun y hy => h.lt y (List.mem_cons_of_mem _ hy), fun y hy => h.ne y (List.mem_cons_of_mem _ hy)⟩
theorem IsS.pw {n : Nat} {s : Sheet} (h : IsS n s) : s.Pairwise fun x y => x.place < y.place := List.pairwise_map.mp (rising_pairwise h.ris)
/-- the loop says just what the specification says -/
theorem okFrom_of (n : Nat) : ∀ (l : List Int) (b : Int), -1 ≤ b → l.length % 3 = 0 → (okFrom n b (chunks l) = true ↔ ∃ t, Vbceaj.triples l = some t ∧ IsS n t ∧ ∀ x ∈ t.head?, b < (x.place : Int))
  | [], b, hb, hl => ⟨fun _ => ⟨[], rfl, ⟨rfl, fun x hx => (nomatch hx), fun x hx => (nomatch hx)⟩, fun x hx => (nomatch hx)⟩, fun _ => rfl⟩
  | [a], b, hb, hl => by simp at hl
  | [a, c], b, hb, hl => by simp at hl
  | p :: o :: w :: l, b, hb, hl => by
    have hl' : l.length % 3 = 0 := by simp only [List.length_cons] at hl; omega
    show ((decide (b < p) && decide (p < (n : Int)) && !decide (o = w) && num o && num w) && okFrom n p (chunks l)) = true ↔ _
    constructor
    · intro h
      simp only [Bool.and_eq_true, decide_eq_true_eq, Bool.not_eq_true', decide_eq_false_iff_not] at h
      obtain ⟨⟨⟨⟨⟨h1, h2⟩, h3⟩, h4⟩, h5⟩, h6⟩ := h
      obtain ⟨t, t1, t2, t3⟩ := (okFrom_of n l p (by omega) hl').mp h6
      have p0 : 0 ≤ p := by omega
      refine ⟨{ place := p.toNat, old := o, new := w } :: t, ?_, ⟨?_, fun x hx => ?_, fun x hx => ?_⟩, fun x hx => ?_⟩
      · unfold Vbceaj.triples
        rw [if_pos ⟨p0, h4, h5⟩, t1]
        rfl
      · refine rising_mk t2.ris fun c hc => ?_
        cases t with
        | nil => cases hc
        | cons y t =>
          have e : y.place = c := by simpa [Vbceaj.places] using hc
          have := t3 y (by simp)
          show p.toNat < c
          omega
      · rcases List.mem_cons.mp hx with e | e
        · rw [e]; show p.toNat < n; omega
        · exact t2.lt x e
      · rcases List.mem_cons.mp hx with e | e
        · rw [e]; exact h3
        · exact t2.ne x e
      · have e : ({ place := p.toNat, old := o, new := w } : Erratum) = x := by simpa using hx
        rw [← e]
        show b < ((p.toNat : Nat) : Int)
        omega
    · rintro ⟨t, t1, t2, t3⟩
      unfold Vbceaj.triples at t1
      split at t1
      · rename_i hc
        cases q : Vbceaj.triples l with
        | none => rw [q] at t1; cases t1
        | some r =>
          rw [q] at t1
          have e := Option.some.inj t1
          subst e
          have e1 := t2.lt _ List.mem_cons_self
          have e2 := t2.ne _ List.mem_cons_self
          have e3 := t3 _ (by simp; rfl)
          have hp := hc.1
          have e1' : p.toNat < n := e1
          have e3' : b < ((p.toNat : Nat) : Int) := e3
          simp only [Bool.and_eq_true, decide_eq_true_eq, Bool.not_eq_true', decide_eq_false_iff_not]
          refine ⟨⟨⟨⟨⟨by omega, by omega⟩, e2⟩, hc.2.1⟩, hc.2.2⟩, (okFrom_of n l p (by omega) hl').mpr ⟨r, q, t2.tail, fun x hx => ?_⟩⟩
          have := (rising_cons t2.ris).2 x.place (by
            cases r with
            | nil => cases hx
            | cons y r =>
              have e : y = x := by simpa using hx
              rw [e]; simp [Vbceaj.places])
          have this' : p.toNat < x.place := this
          omega
      · cases t1
/-- is_sheet -/
def isSheetB (n : Nat) (l : List Int) : Bool := decide (l.length % 3 = 0) && okFrom n (-1) (chunks l)
theorem isSheetB_some {n : Nat} {l : List Int} : isSheetB n l = true ↔ ∃ t, sheetOf n l = some t := by
  unfold isSheetB sheetOf
  rw [Bool.and_eq_true]
  constructor
  · rintro ⟨h1, h2⟩
    obtain ⟨t, t1, t2, _⟩ := (okFrom_of n l (-1) (by omega) (of_decide_eq_true h1)).mp h2
    exact ⟨t, by rw [t1]; exact if_pos (isS_iff.mpr t2)⟩
  · rintro ⟨t, ht⟩
    cases q : Vbceaj.triples l with
    | none => rw [q] at ht; cases ht
    | some r =>
      rw [q] at ht
      have ht' : (if Vbceaj.isSheet n r = true then some r else none) = some t := ht
      split at ht'
      · rename_i hs
        obtain ⟨h1, _, _⟩ := triples_chunks l r q
        exact ⟨decide_eq_true h1, (okFrom_of n l (-1) (by omega) h1).mpr ⟨r, q, isS_iff.mp hs, fun x _ => by omega⟩⟩
      · cases ht'
theorem sheetOf_some {n : Nat} {l : List Int} {t : Sheet} (h : sheetOf n l = some t) : Vbceaj.triples l = some t ∧ IsS n t ∧ chunks l = t.map trip ∧ l.length % 3 = 0 ∧ ∀ x ∈ t, num x.old = true ∧ num x.new = true := by
  unfold sheetOf at h
  cases q : Vbceaj.triples l with
  | none => rw [q] at h; cases h
  | some r =>
    rw [q] at h
    have h' : (if Vbceaj.isSheet n r = true then some r else none) = some t := h
    split at h'
    · rename_i hs
      have e := Option.some.inj h'
      subst e
      obtain ⟨h1, h2, h3⟩ := triples_chunks l r q
      exact ⟨rfl, isS_iff.mp hs, h2, h1, h3⟩
    · cases h'
theorem sheetIn_eq (s : Vbceaj.State) (l : List Int) : Vbceaj.sheetIn s l = match sheetOf (Vbceaj.size s) l with
    | none => .error (-4)
    | some t => .ok t := by
  unfold Vbceaj.sheetIn sheetOf
  cases Vbceaj.triples l with
  | none => rfl
  | some t =>
    dsimp only
    by_cases h : Vbceaj.isSheet (Vbceaj.size s) t = true
    · rw [if_pos h, if_pos h]
    · rw [if_neg h, if_neg h]
end Em
namespace Em
open Vbceaj (Erratum Sheet Numbers)
/-- two lists rising by a key, with the same members, are one -/
theorem key_ext {α : Type} (f : α → Int) : ∀ {l m : List α}, l.Pairwise (fun a b => f a < f b) → m.Pairwise (fun a b => f a < f b) → (∀ k, k ∈ l ↔ k ∈ m) → l = m
  | [], [], _, _, _ => rfl
  | [], b :: m, _, _, h => by have := (h b).mpr List.mem_cons_self; cases this
  | a :: l, [], _, _, h => by have := (h a).mp List.mem_cons_self; cases this
  | a :: l, b :: m, hl, hm, h => by
    rw [List.pairwise_cons] at hl hm
    have e : a = b := by
      rcases List.mem_cons.mp ((h a).mp List.mem_cons_self) with e | e
      · exact e
      · rcases List.mem_cons.mp ((h b).mpr List.mem_cons_self) with e' | e'
        · exact e'.symm
        · have := hm.1 a e
          have := hl.1 b e'
          omega
    subst e
    rw [key_ext f hl.2 hm.2 fun k => ?_]
    constructor
    · intro hk
      rcases List.mem_cons.mp ((h k).mp (List.mem_cons_of_mem _ hk)) with e | e
      · have := hl.1 k hk
        rw [e] at this; omega
      · exact e
    · intro hk
      rcases List.mem_cons.mp ((h k).mpr (List.mem_cons_of_mem _ hk)) with e | e
      · have := hm.1 k hk
        rw [e] at this; omega
      · exact e
/-! ### first_wrong, done -/
def fits (l : Numbers) (x : Erratum) : Bool := l[x.place]? == some x.old
theorem unfit_none {l : Numbers} {s : Sheet} (h : ∀ (i : Nat) x, s[i]? = some x → fits l x = true) : Vbceaj.unfit l s = none := by
  unfold Vbceaj.unfit
  rw [List.findIdx?_eq_none_iff]
  intro x hx
  obtain ⟨i, hi⟩ := List.getElem?_of_mem hx
  have := h i x hi
  unfold fits at this
  simp only [bne, this, Bool.not_true]
theorem unfit_some {l : Numbers} {s : Sheet} {i : Nat} {y : Erratum} (h : ∀ (j : Nat) x, j < i → s[j]? = some x → fits l x = true) (hi : s[i]? = some y) (hy : fits l y = false) : Vbceaj.unfit l s = some i := by
  unfold Vbceaj.unfit
  rw [List.findIdx?_eq_some_iff_getElem]
  obtain ⟨hlt, e⟩ := List.getElem?_eq_some_iff.mp hi
  refine ⟨hlt, ?_, fun j hj => ?_⟩
  · rw [e]; unfold fits at hy; simp only [bne, hy, Bool.not_false]
  · have hj' : j < s.length := by omega
    have := h j s[j] hj (by rw [List.getElem?_eq_getElem hj'])
    unfold fits at this
    simp only [bne, this, Bool.not_true]
    exact Bool.false_ne_true
def firstWrong (l : Numbers) (s : Sheet) : Int := match Vbceaj.unfit l s with
  | none => -1
  | some i => (i : Int)
def done (s : Sheet) (l : Numbers) : Numbers := s.foldl Vbceaj.amendOne l
theorem done_length (s : Sheet) : ∀ l : Numbers, (done s l).length = l.length := by
  unfold done
  induction s with
  | nil => intro l; rfl
  | cons x s ih =>
    intro l
    rw [List.foldl_cons, ih]
    exact List.length_set
theorem done_next {s : Sheet} {l : Numbers} {i : Nat} {x : Erratum} (h : s[i]? = some x) : done (s.take (i + 1)) l = (done (s.take i) l).set x.place x.new := by
  unfold done
  rw [take_next h, List.foldl_append]
  rfl
/-! ### between -/
def btw (x : (Int × Int) × Nat) : Option Erratum := if x.1.1 = x.1.2 then none else some { place := x.2, old := x.1.1, new := x.1.2 }
theorem between_eq (l m : Numbers) : Vbceaj.between l m = (l.zip m).zipIdx.filterMap btw := rfl
theorem btw_next {l : List (Int × Int)} {i : Nat} {a b : Int} (h : l[i]? = some (a, b)) : (l.take (i + 1)).zipIdx.filterMap btw = (l.take i).zipIdx.filterMap btw ++ (if a = b then [] else [{ place := i, old := a, new := b }]) := by
  have hlt : i < l.length := (List.getElem?_eq_some_iff.mp h).1
  rw [take_next h, List.zipIdx_append, List.filterMap_append]
  congr 1
  rw [List.length_take, Nat.min_eq_left (Nat.le_of_lt hlt)]
  show List.filterMap btw [((a, b), 0 + i)] = _
  rw [Nat.zero_add]
  by_cases e : a = b
  · rw [if_pos e]
    simp [btw, e]
  · rw [if_neg e]
    simp [btw, e]
/-! ### at? -/
theorem at_some {s : Sheet} {p : Nat} {x : Erratum} (h : Vbceaj.at? s p = some x) : x ∈ s ∧ x.place = p := by
  unfold Vbceaj.at? at h
  refine ⟨List.mem_of_find?_eq_some h, ?_⟩
  have := List.find?_some h
  simpa using this
theorem at_none {s : Sheet} {p : Nat} (h : Vbceaj.at? s p = none) : ∀ x ∈ s, x.place ≠ p := fun x hx e => by
  unfold Vbceaj.at? at h
  have := List.find?_eq_none.mp h x hx
  rw [e] at this
  simp at this
theorem at_of_mem {s : Sheet} (h : s.Pairwise fun x y => x.place < y.place) {x : Erratum} (hx : x ∈ s) : Vbceaj.at? s x.place = some x := by
  induction s with
  | nil => cases hx
  | cons y s ih =>
    rw [List.pairwise_cons] at h
    unfold Vbceaj.at?
    rcases List.mem_cons.mp hx with e | e
    · rw [List.find?_cons_of_pos (by rw [e]; simp), e]
    · have := h.1 x e
      rw [List.find?_cons_of_neg (by simp; omega)]
      exact ih h.2 e
theorem at_isSome {s : Sheet} {p : Nat} : (Vbceaj.at? s p).isSome = true ↔ p ∈ Vbceaj.places s := by
  unfold Vbceaj.at? Vbceaj.places
  rw [List.find?_isSome, List.mem_map]
  constructor
  · rintro ⟨x, hx, e⟩
    exact ⟨x, hx, by simpa using e⟩
  · rintro ⟨x, hx, e⟩
    exact ⟨x, hx, by simpa using e⟩
/-! ### bothPlaces -/
theorem insert_mem (x : Nat) : ∀ (l : List Nat) (k : Nat), k ∈ VbceCore.insertBy (fun a b => decide (a < b)) x l ↔ k = x ∨ k ∈ l
  | [], k => by simp [VbceCore.insertBy]
  | y :: l, k => by
    unfold VbceCore.insertBy
    split
    · simp
    · rw [List.mem_cons, insert_mem x l k, List.mem_cons]
      constructor
      · rintro (h | h | h)
        · exact .inr (.inl h)
        · exact .inl h
        · exact .inr (.inr h)
      · rintro (h | h | h)
        · exact .inr (.inl h)
        · exact .inl h
        · exact .inr (.inr h)
theorem insert_pw (x : Nat) : ∀ (l : List Nat), l.Pairwise (· < ·) → x ∉ l → (VbceCore.insertBy (fun a b => decide (a < b)) x l).Pairwise (· < ·)
  | [], _, _ => List.pairwise_singleton ..
  | y :: l, h, hx => by
    rw [List.pairwise_cons] at h
    unfold VbceCore.insertBy
    split
    · rename_i c
      have c := of_decide_eq_true c
      refine List.pairwise_cons.mpr ⟨fun k hk => ?_, List.pairwise_cons.mpr h⟩
      rcases List.mem_cons.mp hk with e | e
      · rw [e]; exact c
      · exact Nat.lt_trans c (h.1 k e)
    · rename_i c
      have c' : ¬ x < y := fun z => c (decide_eq_true z)
      have ne : x ≠ y := fun e => hx (by rw [e]; exact List.mem_cons_self)
      refine List.pairwise_cons.mpr ⟨fun k hk => ?_, insert_pw x l h.2 fun z => hx (List.mem_cons_of_mem _ z)⟩
      rcases (insert_mem x l k).mp hk with e | e
      · rw [e]; omega
      · exact h.1 k e
theorem sortBy_go : ∀ (l acc : List Nat), acc.Pairwise (· < ·) → l.Nodup → (∀ k ∈ l, k ∉ acc) →
    (l.foldl (fun a x => VbceCore.insertBy (fun a b => decide (a < b)) x a) acc).Pairwise (· < ·) ∧ ∀ k, k ∈ l.foldl (fun a x => VbceCore.insertBy (fun a b => decide (a < b)) x a) acc ↔ k ∈ acc ∨ k ∈ l
  | [], acc, h, _, _ => ⟨h, fun k => by simp⟩
  | x :: l, acc, h, hn, hd => by
    rw [List.nodup_cons] at hn
    obtain ⟨i1, i2⟩ := sortBy_go l _ (insert_pw x acc h (hd x List.mem_cons_self)) hn.2 fun k hk hm => by
      rcases (insert_mem x acc k).mp hm with e | e
      · rw [e] at hk; exact hn.1 hk
      · exact hd k (List.mem_cons_of_mem _ hk) e
    refine ⟨i1, fun k => ?_⟩
    rw [List.foldl_cons, i2, insert_mem, List.mem_cons]
    constructor
    · rintro ((h | h) | h)
      · exact .inr (.inl h)
      · exact .inl h
      · exact .inr (.inr h)
    · rintro (h | h | h)
      · exact .inl (.inr h)
      · exact .inl (.inl h)
      · exact .inr h
theorem IsS.nodup {n : Nat} {s : Sheet} (h : IsS n s) : (Vbceaj.places s).Nodup :=
  (rising_pairwise h.ris).imp fun h e => by rw [e] at h; exact Nat.lt_irrefl _ h
theorem both {n m : Nat} {s t : Sheet} (hs : IsS n s) (ht : IsS m t) : (Vbceaj.bothPlaces s t).Pairwise (· < ·) ∧ ∀ p, p ∈ Vbceaj.bothPlaces s t ↔ p ∈ Vbceaj.places s ∨ p ∈ Vbceaj.places t := by
  unfold Vbceaj.bothPlaces VbceCore.sortBy
  obtain ⟨h1, h2⟩ := sortBy_go (Vbceaj.places s ++ (Vbceaj.places t).filter fun p => !(Vbceaj.places s).contains p) [] List.Pairwise.nil
    (List.nodup_append.mpr ⟨hs.nodup, ht.nodup.sublist List.filter_sublist, fun a ha b hb e => by
      have := (List.mem_filter.mp hb).2
      rw [← e] at this
      simp [ha] at this⟩) (fun k _ h => by cases h)
  refine ⟨h1, fun p => ?_⟩
  rw [h2, List.mem_append, List.mem_filter]
  by_cases hp : p ∈ Vbceaj.places s
  · simp [hp]
  · simp [hp]
/-! ### two sheets -/
def goTogether (s t : Sheet) : Bool := t.all fun y => match Vbceaj.at? s y.place with
  | none => true
  | some x => x.new == y.old
theorem goTogether_eq (s t : Sheet) : (t.any fun y => (Vbceaj.at? s y.place).any fun x => x.new != y.old) = !goTogether s t := by
  unfold goTogether
  rw [List.not_all_eq_any_not]
  congr 1
  funext y
  cases Vbceaj.at? s y.place with
  | none => rfl
  | some x => rfl
def behStep (s t : Sheet) (p : Nat) : Option Erratum := match Vbceaj.at? s p, Vbceaj.at? t p with
  | some x, some y => if x.old = y.new then none else some { place := p, old := x.old, new := y.new }
  | some x, none => some x
  | none, y => y
theorem behind_eq (s t : Sheet) : Vbceaj.behind s t = if goTogether s t = true then some ((Vbceaj.bothPlaces s t).filterMap (behStep s t)) else none := by
  unfold Vbceaj.behind
  rw [goTogether_eq]
  cases goTogether s t <;> rfl
/-- old and new at a place of either -/
def oldAt (s t : Sheet) (p : Nat) : Int := match Vbceaj.at? s p with
  | some x => x.old
  | none => match Vbceaj.at? t p with
    | some y => y.old
    | none => 0
def newAt (s t : Sheet) (p : Nat) : Int := match Vbceaj.at? t p with
  | some y => y.new
  | none => match Vbceaj.at? s p with
    | some x => x.new
    | none => 0
theorem behStep_eq {n m : Nat} {s t : Sheet} (hs : IsS n s) (ht : IsS m t) {p : Nat} (hp : p ∈ Vbceaj.bothPlaces s t) :
    behStep s t p = if oldAt s t p = newAt s t p then none else some { place := p, old := oldAt s t p, new := newAt s t p } := by
  have hm := ((both hs ht).2 p).mp hp
  unfold behStep oldAt newAt
  cases es : Vbceaj.at? s p with
  | none =>
    cases et : Vbceaj.at? t p with
    | none =>
      rcases hm with h | h
      · rw [← at_isSome, es] at h; cases h
      · rw [← at_isSome, et] at h; cases h
    | some y =>
      obtain ⟨y1, y2⟩ := at_some et
      dsimp only
      rw [if_neg (ht.ne y y1), ← y2]
  | some x =>
    obtain ⟨x1, x2⟩ := at_some es
    cases et : Vbceaj.at? t p with
    | none =>
      dsimp only
      rw [if_neg (hs.ne x x1), ← x2]
    | some y => rfl
def clashAt (s t : Sheet) (p : Nat) : Bool := match Vbceaj.at? s p, Vbceaj.at? t p with
  | some x, some y => x != y
  | _, _ => false
theorem clash_eq (s t : Sheet) : Vbceaj.clash s t = ((Vbceaj.bothPlaces s t).filter (clashAt s t)).head? := by
  rw [List.head?_filter]
  rfl
def joinAt (s t : Sheet) (p : Nat) : Option Erratum := match Vbceaj.at? s p with
  | some x => some x
  | none => Vbceaj.at? t p
theorem joined_eq (s t : Sheet) : Vbceaj.joined s t = (Vbceaj.bothPlaces s t).filterMap (joinAt s t) := by
  unfold Vbceaj.joined
  congr 1
theorem joinAt_some {s t : Sheet} {p : Nat} {x : Erratum} (h : joinAt s t p = some x) : (x ∈ s ∨ x ∈ t) ∧ x.place = p := by
  unfold joinAt at h
  cases es : Vbceaj.at? s p with
  | some y =>
    rw [es] at h
    cases h
    exact ⟨.inl (at_some es).1, (at_some es).2⟩
  | none =>
    rw [es] at h
    exact ⟨.inr (at_some h).1, (at_some h).2⟩
/-- without a clash the errata of both are told by their places -/
theorem one_place {n m : Nat} {s t : Sheet} (hs : IsS n s) (ht : IsS m t) (hc : Vbceaj.clash s t = none) {x y : Erratum} (hx : x ∈ s ∨ x ∈ t) (hy : y ∈ s ∨ y ∈ t) (e : x.place = y.place) : x = y := by
  have cl : ∀ a b : Erratum, a ∈ s → b ∈ t → a.place = b.place → a = b := fun a b ha hb e => by
    have h1 := at_of_mem hs.pw ha
    have h2 := at_of_mem ht.pw hb
    have hp : a.place ∈ Vbceaj.bothPlaces s t := ((both hs ht).2 _).mpr (.inl (List.mem_map.mpr ⟨a, ha, rfl⟩))
    have := List.find?_eq_none.mp hc a.place hp
    rw [h1, e, h2] at this
    simpa using this
  rcases hx with hx | hx
  · rcases hy with hy | hy
    · have := at_of_mem hs.pw hx
      rw [e, at_of_mem hs.pw hy] at this
      exact (Option.some.inj this).symm
    · exact cl x y hx hy e
  · rcases hy with hy | hy
    · exact (cl y x hy hx e.symm).symm
    · have := at_of_mem ht.pw hx
      rw [e, at_of_mem ht.pw hy] at this
      exact (Option.some.inj this).symm
theorem joined_mem {n m : Nat} {s t : Sheet} (hs : IsS n s) (ht : IsS m t) (hc : Vbceaj.clash s t = none) (x : Erratum) : x ∈ Vbceaj.joined s t ↔ x ∈ s ∨ x ∈ t := by
  rw [joined_eq, List.mem_filterMap]
  constructor
  · rintro ⟨p, hp, h⟩
    exact (joinAt_some h).1
  · intro hx
    have hp : x.place ∈ Vbceaj.bothPlaces s t := ((both hs ht).2 _).mpr (by
      rcases hx with h | h
      · exact .inl (List.mem_map.mpr ⟨x, h, rfl⟩)
      · exact .inr (List.mem_map.mpr ⟨x, h, rfl⟩))
    refine ⟨x.place, hp, ?_⟩
    cases h : joinAt s t x.place with
    | none =>
      exfalso
      unfold joinAt at h
      cases es : Vbceaj.at? s x.place with
      | some y => rw [es] at h; cases h
      | none =>
        rw [es] at h
        rcases hx with q | q
        · exact at_none es x q rfl
        · exact at_none h x q rfl
    | some y =>
      obtain ⟨h1, h2⟩ := joinAt_some h
      rw [one_place hs ht hc h1 hx h2]
theorem filterMap_pw {f : Nat → Option Erratum} (hf : ∀ p x, f p = some x → x.place = p) : ∀ l : List Nat, l.Pairwise (· < ·) → (l.filterMap f).Pairwise fun x y => x.place < y.place
  | [], _ => List.Pairwise.nil
  | p :: l, h => by
    rw [List.pairwise_cons] at h
    rw [List.filterMap_cons]
    cases e : f p with
    | none => exact filterMap_pw hf l h.2
    | some x =>
      refine List.pairwise_cons.mpr ⟨fun y hy => ?_, filterMap_pw hf l h.2⟩
      obtain ⟨q, hq, hy⟩ := List.mem_filterMap.mp hy
      rw [hf p x e, hf q y hy]
      exact h.1 q hq
theorem joined_pw {n m : Nat} {s t : Sheet} (hs : IsS n s) (ht : IsS m t) : (Vbceaj.joined s t).Pairwise fun x y => x.place < y.place := by
  rw [joined_eq]
  exact filterMap_pw (fun p x h => (joinAt_some h).2) _ (both hs ht).1
def unlike (s t : Sheet) : Bool := t.any fun y => match Vbceaj.at? s y.place with
  | none => false
  | some x => !decide (x.old = y.old)
theorem unlike_eq {n m : Nat} {s t : Sheet} (hs : IsS n s) (ht : IsS m t) : ((Vbceaj.bothPlaces s t).all fun p => match Vbceaj.at? s p, Vbceaj.at? t p with
      | some x, some y => x.old == y.old
      | _, _ => true) = !unlike s t := by
  rw [Bool.eq_iff_iff, List.all_eq_true]
  constructor
  · intro h
    unfold unlike
    rw [Bool.not_eq_true', Bool.eq_false_iff]
    intro hu
    obtain ⟨y, hy, q⟩ := List.any_eq_true.mp hu
    cases es : Vbceaj.at? s y.place with
    | none => rw [es] at q; cases q
    | some x =>
      rw [es] at q
      have := h y.place (((both hs ht).2 _).mpr (.inr (List.mem_map.mpr ⟨y, hy, rfl⟩)))
      rw [es, at_of_mem ht.pw hy] at this
      have this' : x.old = y.old := by simpa using this
      simp [this'] at q
  · intro h p hp
    cases es : Vbceaj.at? s p with
    | none => rfl
    | some x =>
      cases et : Vbceaj.at? t p with
      | none => rfl
      | some y =>
        dsimp only
        obtain ⟨y1, y2⟩ := at_some et
        unfold unlike at h
        rw [Bool.not_eq_true', List.any_eq_false] at h
        have := h y y1
        rw [y2, es] at this
        simpa using this
def leftStep (s : Sheet) (y : Erratum) : Option Erratum := match Vbceaj.at? s y.place with
  | some x => if x.new = y.new then none else some { y with old := x.new }
  | none => some y
theorem left_eq (s t : Sheet) : Vbceaj.leftOf s t = t.filterMap (leftStep s) := rfl
theorem filterMap_next {α β : Type} {f : α → Option β} {l : List α} {i : Nat} {x : α} (h : l[i]? = some x) : (l.take (i + 1)).filterMap f = (l.take i).filterMap f ++ (f x).toList := by
  rw [take_next h, List.filterMap_append]
  congr 1
end Em
namespace Em
open Vbceaj (Erratum Sheet Numbers Edition State)
/-! ### one item more -/
theorem zip_next {α : Type} {l : List α} {i : Nat} {x : α} (h : l[i]? = some x) : (l.take (i + 1)).zipIdx = (l.take i).zipIdx ++ [(x, i)] := by
  have hlt : i < l.length := (List.getElem?_eq_some_iff.mp h).1
  rw [take_next h, List.zipIdx_append, List.length_take, Nat.min_eq_left (Nat.le_of_lt hlt)]
  show _ ++ [(x, 0 + i)] = _
  rw [Nat.zero_add]
theorem flatMap_next {α β : Type} {f : α × Nat → List β} {l : List α} {i : Nat} {x : α} (h : l[i]? = some x) : (l.take (i + 1)).zipIdx.flatMap f = (l.take i).zipIdx.flatMap f ++ f (x, i) := by
  rw [zip_next h, List.flatMap_append]
  congr 1
  simp
theorem filterMapZ_next {α β : Type} {f : α × Nat → Option β} {l : List α} {i : Nat} {x : α} (h : l[i]? = some x) : (l.take (i + 1)).zipIdx.filterMap f = (l.take i).zipIdx.filterMap f ++ (f (x, i)).toList := by
  rw [zip_next h, List.filterMap_append]
  congr 1
/-! ### what was when -/
def states (s : State) : List (Nat × Nat × Numbers) := s.editions.zipIdx.flatMap fun e => (List.range (e.1.sheets.length + 1)).map fun n => (e.2, n, Vbceaj.amended e.1 n)
theorem history_eq (s : State) (p : Nat) : Vbceaj.history s p = (states s).map fun x => (x.1, x.2.1, x.2.2.getD p 0) := by
  unfold Vbceaj.history states
  rw [List.map_flatMap]
  congr 1
  funext e
  rw [List.map_map]
  rfl
theorem since_at {h : List (Nat × Nat × Int)} {x y : Nat × Nat × Int} {i : Nat} (hl : h.getLast? = some x) (hi : h[i]? = some y) (hs : ∀ (j : Nat) z, i ≤ j → h[j]? = some z → z.2.2 = x.2.2) (hb : ∀ z, 0 < i → h[i - 1]? = some z → z.2.2 ≠ x.2.2) :
    ((h.reverse.takeWhile fun y => y.2.2 == x.2.2).getLast?).map (fun y => (y.1, y.2.1)) = some (y.1, y.2.1) := by
  have hlt : i < h.length := (List.getElem?_eq_some_iff.mp hi).1
  have e : h = h.take i ++ h.drop i := (List.take_append_drop i h).symm
  have e2 : h.reverse = (h.drop i).reverse ++ (h.take i).reverse := by
    rw [← List.reverse_append, ← e]
  have a1 : ∀ z ∈ (h.drop i).reverse, (z.2.2 == x.2.2) = true := fun z hz => by
    rw [List.mem_reverse] at hz
    obtain ⟨j, hj⟩ := List.getElem?_of_mem hz
    rw [List.getElem?_drop] at hj
    have := hs (i + j) z (Nat.le_add_right _ _) hj
    rw [this]; simp
  have a2 : (h.take i).reverse.takeWhile (fun y => y.2.2 == x.2.2) = [] := by
    by_cases h0 : i = 0
    · rw [h0]; rfl
    · have hi1 : i - 1 < h.length := by omega
      have g : h[i - 1]? = some h[i - 1] := List.getElem?_eq_getElem hi1
      have ne := hb _ (by omega) g
      have e3 : h.take i = h.take (i - 1) ++ [h[i - 1]] := by
        have := take_next g
        rw [show i - 1 + 1 = i from by omega] at this
        exact this
      rw [e3, List.reverse_append]
      show List.takeWhile _ (h[i - 1] :: _) = []
      rw [List.takeWhile_cons_of_neg (by simpa using ne)]
  rw [e2, List.takeWhile_append_of_pos a1, a2, List.append_nil, List.getLast?_reverse, List.head?_drop, hi]
  rfl
theorem since_eq {s : State} {p : Nat} {x y : Nat × Nat × Numbers} {i : Nat} (hl : (states s)[(states s).length - 1]? = some x) (hi : (states s)[i]? = some y) (hs : ∀ (j : Nat) z, i ≤ j → (states s)[j]? = some z → z.2.2.getD p 0 = x.2.2.getD p 0)
    (hb : ∀ z, 0 < i → (states s)[i - 1]? = some z → z.2.2.getD p 0 ≠ x.2.2.getD p 0) : Vbceaj.since s p = some (y.1, y.2.1) := by
  have e1 : (Vbceaj.history s p).getLast? = some (x.1, x.2.1, x.2.2.getD p 0) := by
    rw [history_eq, List.getLast?_map, List.getLast?_eq_getElem?, hl]
    rfl
  unfold Vbceaj.since
  rw [e1]
  dsimp only
  refine since_at (y := (y.1, y.2.1, y.2.2.getD p 0)) e1 (by rw [history_eq, List.getElem?_map, hi]; rfl) (fun j z hj hz => ?_) (fun z h0 hz => ?_)
  · rw [history_eq] at hz
    obtain ⟨w, hw, e⟩ := getElem_map hz
    rw [e]
    exact hs j w hj hw
  · rw [history_eq] at hz
    obtain ⟨w, hw, e⟩ := getElem_map hz
    rw [e]
    exact hb w h0 hw
/-! ### spoiled -/
def spoOne (truth : Numbers) (e k : Nat) (x : Erratum × Nat) : Option (Nat × Nat × Nat) := if x.1.old = truth.getD x.1.place 0 then some (e, k, x.2) else none
def spoSh (truth : Numbers) (e : Nat) (t : Sheet × Nat) : List (Nat × Nat × Nat) := t.1.zipIdx.filterMap (spoOne truth e t.2)
def spoEd (truth : Numbers) (e : Edition × Nat) : List (Nat × Nat × Nat) := e.1.sheets.zipIdx.flatMap (spoSh truth e.2)
theorem spoiled_eq (s : State) (truth : Numbers) : Vbceaj.spoiled s truth = s.editions.zipIdx.flatMap (spoEd truth) := rfl
/-! ### often -/
def allPl (eds : List Edition) : List Nat := eds.flatMap fun e => e.sheets.flatMap fun t => Vbceaj.places t
def cntP (s : State) (p : Nat) : Nat := (s.editions.map fun e => (e.sheets.filter fun t => (Vbceaj.at? t p).isSome).length).foldl (fun a b => a + b) 0
theorem foldl_add (l : List Nat) : ∀ a, l.foldl (fun a b => a + b) a = a + l.foldl (fun a b => a + b) 0 := by
  induction l with
  | nil => intro a; rfl
  | cons x l ih =>
    intro a
    rw [List.foldl_cons, List.foldl_cons, ih, ih (0 + x)]
    omega
theorem count_sheet {n : Nat} {t : Sheet} (h : IsS n t) (p : Nat) : (Vbceaj.places t).count p = if (Vbceaj.at? t p).isSome then 1 else 0 := by
  by_cases hp : p ∈ Vbceaj.places t
  · rw [if_pos (at_isSome.mpr hp)]
    exact h.nodup.count.trans (if_pos hp)
  · rw [if_neg (fun z => hp (at_isSome.mp z))]
    exact List.count_eq_zero.mpr hp
theorem count_sheets {n : Nat} (p : Nat) : ∀ {ts : List Sheet}, (∀ t ∈ ts, IsS n t) → (ts.flatMap fun t => Vbceaj.places t).count p = (ts.filter fun t => (Vbceaj.at? t p).isSome).length
  | [], _ => rfl
  | t :: ts, h => by
    rw [List.flatMap_cons, List.count_append, count_sheet (h t List.mem_cons_self), count_sheets p fun u hu => h u (List.mem_cons_of_mem _ hu), List.filter_cons]
    split
    · rw [List.length_cons]; omega
    · omega
theorem count_all {n : Nat} (p : Nat) : ∀ {eds : List Edition}, (∀ e ∈ eds, ∀ t ∈ e.sheets, IsS n t) → (allPl eds).count p = (eds.map fun e => (e.sheets.filter fun t => (Vbceaj.at? t p).isSome).length).foldl (fun a b => a + b) 0
  | [], _ => rfl
  | e :: eds, h => by
    have ih := count_all (n := n) p (eds := eds) fun u hu => h u (List.mem_cons_of_mem _ hu)
    unfold allPl at ih ⊢
    rw [List.flatMap_cons, List.count_append, count_sheets p (h e List.mem_cons_self), ih, List.map_cons, List.foldl_cons, foldl_add _ (0 + _)]
    omega
theorem count_cast (l : List Nat) (p : Nat) : (l.map fun (n : Nat) => (n : Int)).count (p : Int) = l.count p := by
  induction l with
  | nil => rfl
  | cons a l ih =>
    rw [List.map_cons, List.count_cons, List.count_cons, ih]
    congr 1
    by_cases e : a = p
    · simp [e]
    · have : ¬ (a : Int) = (p : Int) := by omega
      simp [e, this]
theorem often_pw (s : State) : (Vbceaj.often s).Pairwise fun x y => x.1 < y.1 := by
  unfold Vbceaj.often
  rw [List.pairwise_filterMap]
  refine (List.pairwise_lt_range (n := Vbceaj.size s)).imp ?_
  intro a b hab x hx y hy
  dsimp only at hx hy
  split at hx
  · split at hy
    · rw [← Option.some.inj hx, ← Option.some.inj hy]; exact hab
    · cases hy
  · cases hx
theorem often_mem (s : State) (x : Nat × Nat) : x ∈ Vbceaj.often s ↔ x.1 < Vbceaj.size s ∧ 2 ≤ cntP s x.1 ∧ x.2 = cntP s x.1 := by
  unfold Vbceaj.often
  rw [List.mem_filterMap]
  constructor
  · rintro ⟨p, hp, h⟩
    dsimp only at h
    split at h
    · rename_i hc
      rw [← Option.some.inj h]
      exact ⟨List.mem_range.mp hp, hc, rfl⟩
    · cases h
  · rintro ⟨h1, h2, h3⟩
    refine ⟨x.1, List.mem_range.mpr h1, ?_⟩
    dsimp only
    have h2' : 2 ≤ (s.editions.map fun e => (e.sheets.filter fun t => (Vbceaj.at? t x.1).isSome).length).foldl (fun a b => a + b) 0 := h2
    rw [if_pos h2']
    show some (x.1, cntP s x.1) = some x
    rw [← h3]
/-- what the program counts and sorts is what the specification tells -/
theorem often_is {s : State} {ns : List Int} (hw : ∀ e ∈ s.editions, ∀ t ∈ e.sheets, IsS (Vbceaj.size s) t) (hp : ns.Pairwise (· < ·)) (hm : ∀ k, k ∈ ns ↔ k ∈ (allPl s.editions).map fun (n : Nat) => (n : Int)) :
    (ns.filter fun k => decide (1 < ((allPl s.editions).map fun (n : Nat) => (n : Int)).count k)).map (fun k => (k, ((((allPl s.editions).map fun (n : Nat) => (n : Int)).count k : Nat) : Int))) = (Vbceaj.often s).map fun x => ((x.1 : Int), (x.2 : Int)) := by
  have cn : ∀ p : Nat, ((allPl s.editions).map fun (n : Nat) => (n : Int)).count (p : Int) = cntP s p := fun p => (count_cast _ p).trans (count_all p hw)
  refine key_ext (fun x => x.1) ?_ ?_ fun k => ?_
  · rw [List.pairwise_map]
    exact hp.sublist List.filter_sublist
  · rw [List.pairwise_map]
    refine (often_pw s).imp fun {a b} h => ?_
    show (a.1 : Int) < (b.1 : Int)
    omega
  · rw [List.mem_map, List.mem_map]
    constructor
    · rintro ⟨q, hq, rfl⟩
      rw [List.mem_filter] at hq
      obtain ⟨p, hpm, rfl⟩ := List.mem_map.mp ((hm q).mp hq.1)
      have c2 := of_decide_eq_true hq.2
      rw [cn] at c2
      refine ⟨(p, cntP s p), (often_mem s _).mpr ⟨?_, c2, rfl⟩, ?_⟩
      · unfold allPl at hpm
        obtain ⟨e, he, hpe⟩ := List.mem_flatMap.mp hpm
        obtain ⟨t, ht, hpt⟩ := List.mem_flatMap.mp hpe
        obtain ⟨x, hx, ex⟩ := List.mem_map.mp hpt
        rw [← ex]
        exact (hw e he t ht).lt x hx
      · dsimp only
        rw [cn]
    · rintro ⟨x, hx, rfl⟩
      obtain ⟨h1, h2, h3⟩ := (often_mem s x).mp hx
      refine ⟨(x.1 : Int), ?_, ?_⟩
      · rw [List.mem_filter]
        have c : 1 < ((allPl s.editions).map fun (n : Nat) => (n : Int)).count (x.1 : Int) := by rw [cn]; exact h2
        refine ⟨(hm _).mpr ?_, decide_eq_true c⟩
        exact List.count_pos_iff.mp (by omega)
      · rw [cn, h3]
end Em
namespace Em
open VbceCore (Word Bytes)
/-! ### signs and words -/
def sg (c : Nat) : Nat := if 97 ≤ c ∧ c ≤ 122 then c else if 48 ≤ c ∧ c ≤ 57 then c else if c = 45 then 45 else 63
structure PW where
  signs : List Nat
  place : Nat
  le : Bool
def toPW (w : Word) : PW := if w.2 = [10] then ⟨[], w.1, true⟩ else ⟨w.2.map sg, w.1, false⟩
def plainW (w : List Nat) (q : Nat) : PW := ⟨w, q, false⟩
/-- the words: the ones told, the last one as far as it goes, what the rest makes -/
def fin (pre : List PW) (w : List Nat) (q p : Nat) (r : Bytes) : List PW := pre ++ match VbceCore.cut p r with
  | [] => []
  | (_, b) :: l => plainW (w ++ b.map sg) q :: l.map toPW
theorem cut_first : ∀ (r : Bytes) (p : Nat), ∃ b l, VbceCore.cut p r = (p, b) :: l ∧ 10 ∉ b
  | [], p => ⟨[], [], rfl, by simp⟩
  | c :: r, p => by
    unfold VbceCore.cut
    by_cases h1 : c = 32
    · rw [if_pos h1]; exact ⟨[], _, rfl, by simp⟩
    · rw [if_neg h1]
      by_cases h2 : c = 10
      · rw [if_pos h2]; exact ⟨[], _, rfl, by simp⟩
      · rw [if_neg h2]
        obtain ⟨b, l, e, hb⟩ := cut_first r (p + 1)
        rw [e]
        refine ⟨c :: b, l, rfl, ?_⟩
        simp only [List.mem_cons, not_or]
        exact ⟨fun z => h2 z.symm, hb⟩
theorem toPW_of {p : Nat} {b : List Nat} (h : 10 ∉ b) : toPW (p, b) = plainW (b.map sg) p := by
  unfold toPW
  rw [if_neg (fun e : b = [10] => h (by rw [e]; simp))]
  rfl
theorem fin_fresh (pre : List PW) (p : Nat) (r : Bytes) : fin pre [] p p r = pre ++ (VbceCore.cut p r).map toPW := by
  unfold fin
  obtain ⟨b, l, e, hb⟩ := cut_first r p
  rw [e]
  show pre ++ plainW ([] ++ b.map sg) p :: l.map toPW = pre ++ toPW (p, b) :: l.map toPW
  rw [toPW_of hb]
  rfl
theorem fin_line (pre : List PW) (w : List Nat) (q p : Nat) (r : Bytes) : fin pre w q p (10 :: r) = fin (pre ++ [plainW w q, ⟨[], p, true⟩]) [] (p + 1) (p + 1) r := by
  rw [fin_fresh]
  show pre ++ (plainW (w ++ [].map sg) q :: (toPW (p, [10]) :: (VbceCore.cut (p + 1) r).map toPW)) = _
  rw [List.map_nil, List.append_nil, List.append_assoc]
  rfl
theorem fin_blank (pre : List PW) (w : List Nat) (q p : Nat) (r : Bytes) : fin pre w q p (32 :: r) = fin (pre ++ [plainW w q]) [] (p + 1) (p + 1) r := by
  rw [fin_fresh]
  show pre ++ (plainW (w ++ [].map sg) q :: (VbceCore.cut (p + 1) r).map toPW) = _
  rw [List.map_nil, List.append_nil, List.append_assoc]
  rfl
theorem fin_sign (pre : List PW) (w : List Nat) (q p c : Nat) (r : Bytes) (h1 : c ≠ 32) (h2 : c ≠ 10) : fin pre w q p (c :: r) = fin pre (w ++ [sg c]) q (p + 1) r := by
  unfold fin
  obtain ⟨b, l, e, hb⟩ := cut_first r (p + 1)
  have e2 : VbceCore.cut p (c :: r) = (p, c :: b) :: l := by
    rw [VbceCore.cut.eq_def]
    dsimp only
    rw [if_neg h1, if_neg h2, e]
  rw [e2, e]
  dsimp only
  rw [List.map_cons, List.append_assoc]
  rfl
theorem fin_end (pre : List PW) (w : List Nat) (q p : Nat) : fin pre w q p [] = pre ++ [plainW w q] := by
  show pre ++ (plainW (w ++ [].map sg) q :: [].map toPW) = _
  rw [List.map_nil, List.append_nil]
  rfl
/-! ### a literal word -/
def letters (b : List Nat) : Bool := b.all fun c => decide (97 ≤ c) && decide (c ≤ 122)
theorem sg_letter {c d : Nat} (h1 : 97 ≤ d) (h2 : d ≤ 122) : sg c = d ↔ c = d := by
  unfold sg
  split
  · exact Iff.rfl
  · split
    · constructor <;> intro h <;> omega
    · split <;> constructor <;> intro h <;> omega
theorem map_sg : ∀ {b l : List Nat}, letters l = true → (b.map sg = l ↔ b = l)
  | [], [], _ => by simp
  | [], d :: l, _ => by simp
  | c :: b, [], _ => by simp
  | c :: b, d :: l, h => by
    have h' : ((decide (97 ≤ d) && decide (d ≤ 122)) && letters l) = true := h
    rw [Bool.and_eq_true, Bool.and_eq_true, decide_eq_true_eq, decide_eq_true_eq] at h'
    rw [List.map_cons, List.cons_eq_cons, List.cons_eq_cons, sg_letter h'.1.1 h'.1.2, map_sg h'.2]
theorem word_is {w : Word} {l : List Nat} (hl : letters l = true) : w.2 = l ↔ (toPW w).le = false ∧ (toPW w).signs = l := by
  unfold toPW
  split
  · rename_i h
    rw [h]
    constructor
    · intro e
      rw [← e] at hl
      exact absurd hl (by decide)
    · rintro ⟨e, _⟩
      cases e
  · exact ⟨fun e => ⟨rfl, (map_sg hl).mpr e⟩, fun e => (map_sg hl).mp e.2⟩
/-! ### numbers -/
def isDig (c : Nat) : Bool := decide (48 ≤ c) && decide (c ≤ 57)
theorem sg_dig (c : Nat) : isDig (sg c) = isDig c := by
  unfold sg isDig
  split
  · rfl
  · split
    · rfl
    · split
      · rename_i h; rw [h]
      · rename_i h1 h2 h3
        rw [Bool.eq_iff_iff]
        simp only [Bool.and_eq_true, decide_eq_true_eq]
        constructor <;> intro h <;> omega
theorem sg_eq {c : Nat} (h : isDig c = true) : sg c = c := by
  unfold isDig at h
  rw [Bool.and_eq_true, decide_eq_true_eq, decide_eq_true_eq] at h
  unfold sg
  rw [if_neg (by omega), if_pos h]
def dval (cs : List Nat) : Nat := cs.foldl (fun acc c => acc * 10 + (c - 48)) 0
def allDig (b : List Nat) : Bool := b.all isDig
theorem allDig_map (b : List Nat) : allDig (b.map sg) = allDig b := by
  unfold allDig
  rw [List.all_map]
  congr 1
  funext c
  exact sg_dig c
theorem map_dig : ∀ {b : List Nat}, allDig b = true → b.map sg = b
  | [], _ => rfl
  | c :: b, h => by
    have h' : (isDig c && allDig b) = true := h
    rw [Bool.and_eq_true] at h'
    rw [List.map_cons, sg_eq h'.1, map_dig h'.2]
/-- is_plain -/
def plain (b : List Nat) : Bool := (decide (1 ≤ b.length) && decide (b.length ≤ 13)) && allDig b && (decide (b = [48]) || !decide (b.head? = some 48))
theorem natOf_eq (b : List Nat) : VbceCore.natOf b = if b = [] ∨ 300 < b.length ∨ allDig b = false ∨ (b.head? = some 48 ∧ 1 < b.length) then none else some (dval b) := by
  unfold VbceCore.natOf VbceCore.MOSTDIGITS
  have e1 : VbceCore.valueOf 10 (b.map fun c => c - 48) = dval b := by
    unfold VbceCore.valueOf dval
    rw [List.foldl_map]
  have e2 : (b.isEmpty = true ∨ 300 < b.length ∨ b.all VbceCore.isDigit = false ∨ VbceCore.isZeroLed b = true) ↔ (b = [] ∨ 300 < b.length ∨ allDig b = false ∨ (b.head? = some 48 ∧ 1 < b.length)) := by
    have a1 : b.isEmpty = true ↔ b = [] := List.isEmpty_iff
    have a2 : VbceCore.isZeroLed b = true ↔ (b.head? = some 48 ∧ 1 < b.length) := by
      unfold VbceCore.isZeroLed
      rw [Bool.and_eq_true, beq_iff_eq, decide_eq_true_eq]
    have a3 : b.all VbceCore.isDigit = allDig b := rfl
    rw [a1, a2, a3]
  rw [e1]
  by_cases h : b = [] ∨ 300 < b.length ∨ allDig b = false ∨ (b.head? = some 48 ∧ 1 < b.length)
  · rw [if_pos (e2.mpr h), if_pos h]
  · rw [if_neg (fun z => h (e2.mp z)), if_neg h]
theorem natOf_plain {b : List Nat} (h : plain b = true) : VbceCore.natOf b = some (dval b) := by
  unfold plain at h
  simp only [Bool.and_eq_true, decide_eq_true_eq, Bool.or_eq_true, Bool.not_eq_true', decide_eq_false_iff_not] at h
  obtain ⟨⟨⟨h1, h2⟩, h3⟩, h4⟩ := h
  rw [natOf_eq, if_neg]
  rintro (e | e | e | ⟨e1, e2⟩)
  · rw [e] at h1; simp at h1
  · omega
  · rw [h3] at e; cases e
  · rcases h4 with h4 | h4
    · rw [h4] at e2; simp at e2
    · exact h4 e1
theorem dval_app (b : List Nat) (c : Nat) : dval (b ++ [c]) = dval b * 10 + (c - 48) := by
  unfold dval
  rw [List.foldl_append]
  rfl
theorem dval_ge : ∀ (b : List Nat) (a : Nat), a * 10 ^ b.length ≤ b.foldl (fun acc c => acc * 10 + (c - 48)) a
  | [], a => by simp
  | c :: b, a => by
    rw [List.foldl_cons, List.length_cons, Nat.pow_succ]
    refine Nat.le_trans ?_ (dval_ge b (a * 10 + (c - 48)))
    rw [show a * (10 ^ b.length * 10) = (a * 10) * 10 ^ b.length by rw [Nat.mul_comm (10 ^ b.length) 10, Nat.mul_assoc]]
    exact Nat.mul_le_mul_right _ (Nat.le_add_right _ _)
theorem natOf_great {b : List Nat} (h : plain b = false) {n : Nat} (hn : VbceCore.natOf b = some n) : 10 ^ 13 ≤ n := by
  rw [natOf_eq] at hn
  split at hn
  · cases hn
  · rename_i hc
    have e := Option.some.inj hn
    subst e
    simp only [not_or, not_and] at hc
    obtain ⟨c1, c2, c3, c4⟩ := hc
    cases b with
    | nil => exact absurd rfl c1
    | cons c b =>
      have c3' : allDig (c :: b) = true := by simpa using c3
      have d1 : (isDig c && allDig b) = true := c3'
      rw [Bool.and_eq_true] at d1
      have d2 := d1.1
      unfold isDig at d2
      rw [Bool.and_eq_true, decide_eq_true_eq, decide_eq_true_eq] at d2
      unfold plain at h
      rw [c3'] at h
      simp only [Bool.and_true, Bool.and_eq_false_iff, decide_eq_false_iff_not, Bool.or_eq_false_iff, Bool.not_eq_false', decide_eq_true_eq, List.head?_cons, Option.some.injEq] at h
      by_cases h48 : c = 48
      · have := c4 (by rw [h48]; rfl)
        have hl : b = [] := by
          cases b with
          | nil => rfl
          | cons x b => simp at this
        rw [hl, h48] at h
        rcases h with (h | h) | h
        · simp at h
        · simp at h
        · exact absurd rfl h.1
      · have hlen : 14 ≤ (c :: b).length := by
          rcases h with (h | h) | h
          · simp at h
          · omega
          · exact absurd h.2 h48
        have g := dval_ge b (0 * 10 + (c - 48))
        have g2 : 10 ^ 13 ≤ 10 ^ b.length := Nat.pow_le_pow_right (by decide) (by simp only [List.length_cons] at hlen; omega)
        have g3 : 1 * 10 ^ b.length ≤ (0 * 10 + (c - 48)) * 10 ^ b.length := Nat.mul_le_mul_right _ (by omega)
        rw [Nat.one_mul] at g3
        exact Nat.le_trans g2 (Nat.le_trans g3 g)
theorem natOf_ten : VbceCore.natOf [10] = none := by decide
theorem sg10 {b : List Nat} : plain (b.map sg) = plain b := by
  unfold plain
  rw [List.length_map, allDig_map]
  by_cases h : allDig b = true
  · rw [map_dig h]
  · have h' : allDig b = false := by simpa using h
    rw [h']
    simp
/-- a number read: the word, its least, its end -/
def numAt (w : PW) (lo hi : Nat) : Option Nat := if (!w.le && plain w.signs && (decide (lo ≤ dval w.signs) && decide (dval w.signs ≤ hi))) = true then some (dval w.signs) else none
theorem natFromTo_eq {e lo hi : Nat} (hh : hi < 10 ^ 13) (w : Word) (r : List Word) : Vbceaj.natFromTo e lo hi (w :: r) = match numAt (toPW w) lo hi with
    | some n => .ok (n, r)
    | none => .error w.1 := by
  show (match VbceCore.natOf w.2 with
    | some n => if lo ≤ n ∧ n ≤ hi then Except.ok (n, r) else Except.error w.1
    | none => Except.error w.1) = _
  unfold toPW numAt
  by_cases h10 : w.2 = [10]
  · rw [if_pos h10, h10, natOf_ten]
    rfl
  · rw [if_neg h10]
    dsimp only
    rw [sg10]
    by_cases hp : plain w.2 = true
    · have hd : allDig w.2 = true := by
        unfold plain at hp
        simp only [Bool.and_eq_true] at hp
        exact hp.1.2
      rw [natOf_plain hp, map_dig hd, hp]
      dsimp only
      by_cases hc : lo ≤ dval w.2 ∧ dval w.2 ≤ hi
      · rw [if_pos hc, if_pos (by simp [hc.1, hc.2])]
      · rw [if_neg hc, if_neg (fun z => hc (by simpa using z))]
    · have hp' : plain w.2 = false := by simpa using hp
      rw [hp']
      cases q : VbceCore.natOf w.2 with
      | none => rfl
      | some n =>
        have := natOf_great hp' q
        dsimp only
        rw [if_neg (by omega)]
        rfl
/-- a whole number read -/
def wholeOf (b : List Nat) : Option Int := if b.head? = some 45 then (if (!decide (b.tail = [48]) && plain b.tail && num (-(dval b.tail : Int))) = true then some (-(dval b.tail : Int)) else none)
  else (if (plain b && num (dval b : Int)) = true then some (dval b : Int) else none)
def wholeAt (w : PW) : Option Int := if w.le = true then none else wholeOf w.signs
theorem num_big {n : Nat} (h : 10 ^ 13 ≤ n) : num (n : Int) = false ∧ num (-(n : Int)) = false := by
  unfold num VbceCore.isBetween Vbceaj.BIG
  constructor
  · rw [Bool.and_eq_false_iff]; right; rw [decide_eq_false_iff_not]; omega
  · rw [Bool.and_eq_false_iff]; left; rw [decide_eq_false_iff_not]; omega
theorem dval_pos {b : List Nat} (h : plain b = true) (hz : b ≠ [48]) : dval b ≠ 0 := by
  unfold plain at h
  simp only [Bool.and_eq_true, decide_eq_true_eq, Bool.or_eq_true, Bool.not_eq_true', decide_eq_false_iff_not] at h
  obtain ⟨⟨⟨h1, h2⟩, h3⟩, h4⟩ := h
  cases b with
  | nil => simp at h1
  | cons c b =>
    have d1 : (isDig c && allDig b) = true := h3
    rw [Bool.and_eq_true] at d1
    have d2 := d1.1
    unfold isDig at d2
    rw [Bool.and_eq_true, decide_eq_true_eq, decide_eq_true_eq] at d2
    have hc : c ≠ 48 := by
      rcases h4 with h4 | h4
      · exact absurd h4 hz
      · intro e; exact h4 (by rw [e]; rfl)
    have g := dval_ge b (0 * 10 + (c - 48))
    have g3 : 1 * 10 ^ b.length ≤ (0 * 10 + (c - 48)) * 10 ^ b.length := Nat.mul_le_mul_right _ (by omega)
    have g4 : 0 < 10 ^ b.length := Nat.pow_pos (by decide)
    have g5 : dval (c :: b) = b.foldl (fun acc c => acc * 10 + (c - 48)) (0 * 10 + (c - 48)) := rfl
    omega
theorem head_sg (b : List Nat) : (b.map sg).head? = some 45 ↔ b.head? = some 45 := by
  cases b with
  | nil => simp
  | cons c b =>
    rw [List.map_cons, List.head?_cons, List.head?_cons, Option.some.injEq, Option.some.injEq]
    unfold sg
    split
    · exact Iff.rfl
    · split
      · exact Iff.rfl
      · split <;> constructor <;> intro h <;> omega
theorem intOf_neg (r : List Nat) : VbceCore.intOf (45 :: r) = (VbceCore.natOf r).bind fun n => if n = 0 then none else some (-(n : Int)) := rfl
theorem intOf_pos {b : List Nat} (h : b.head? ≠ some 45) : VbceCore.intOf b = (VbceCore.natOf b).map fun (n : Nat) => (n : Int) := by
  unfold VbceCore.intOf
  split
  · exact absurd rfl h
  · rfl
theorem plain_eq48 (b : List Nat) : (b.map sg = [48]) ↔ b = [48] := by
  constructor
  · intro h
    have : allDig b = true := by rw [← allDig_map, h]; rfl
    rw [map_dig this] at h
    exact h
  · intro h; rw [h]; rfl
theorem intIn_eq {e : Nat} (w : Word) (r : List Word) : Vbceaj.intIn e (w :: r) = match wholeAt (toPW w) with
    | some z => .ok (z, r)
    | none => .error w.1 := by
  show (match VbceCore.intOf w.2 with
    | some z => if VbceCore.isBetween z (-Vbceaj.BIG) Vbceaj.BIG = true then Except.ok (z, r) else Except.error w.1
    | none => Except.error w.1) = _
  unfold wholeAt toPW
  by_cases h10 : w.2 = [10]
  · rw [if_pos h10, h10, intOf_pos (by decide), natOf_ten]
    rfl
  · rw [if_neg h10]
    dsimp only
    rw [if_neg Bool.false_ne_true]
    unfold wholeOf
    by_cases h45 : w.2.head? = some 45
    · rw [if_pos ((head_sg _).mpr h45)]
      obtain ⟨b, hb⟩ : ∃ b, w.2 = 45 :: b := by
        cases q : w.2 with
        | nil => rw [q] at h45; cases h45
        | cons c b => rw [q] at h45; exact ⟨b, by rw [Option.some.inj h45]⟩
      rw [hb, intOf_neg, List.map_cons, List.tail_cons, sg10]
      by_cases hp : plain b = true
      · have hd : allDig b = true := by
          unfold plain at hp
          simp only [Bool.and_eq_true] at hp
          exact hp.1.2
        rw [natOf_plain hp, map_dig hd, hp, Option.bind_some]
        by_cases hz : b = [48]
        · subst hz; rfl
        · rw [if_neg (dval_pos hp hz)]
          dsimp only
          by_cases hn : num (-(dval b : Int)) = true
          · rw [if_pos (show VbceCore.isBetween (-(dval b : Int)) (-Vbceaj.BIG) Vbceaj.BIG = true from hn), if_pos (by simp [hz, hn])]
          · rw [if_neg (show ¬ VbceCore.isBetween (-(dval b : Int)) (-Vbceaj.BIG) Vbceaj.BIG = true from hn), if_neg (fun z => hn (by simp at z; exact z.2))]
      · have hp' : plain b = false := by simpa using hp
        rw [hp']
        cases q : VbceCore.natOf b with
        | none => simp
        | some n =>
          have big := natOf_great hp' q
          rw [Option.bind_some, if_neg (by omega)]
          dsimp only
          rw [if_neg (fun z => by have := (num_big big).2; unfold num at this; rw [this] at z; cases z)]
          simp
    · rw [if_neg (fun z => h45 ((head_sg _).mp z)), intOf_pos h45, sg10]
      by_cases hp : plain w.2 = true
      · have hd : allDig w.2 = true := by
          unfold plain at hp
          simp only [Bool.and_eq_true] at hp
          exact hp.1.2
        rw [natOf_plain hp, map_dig hd, hp]
        dsimp only [Option.map_some]
        by_cases hn : num (dval w.2 : Int) = true
        · rw [if_pos (show VbceCore.isBetween (dval w.2 : Int) (-Vbceaj.BIG) Vbceaj.BIG = true from hn), if_pos (by simp [hn])]
        · rw [if_neg (show ¬ VbceCore.isBetween (dval w.2 : Int) (-Vbceaj.BIG) Vbceaj.BIG = true from hn), if_neg (fun z => hn (by simpa using z))]
      · have hp' : plain w.2 = false := by simpa using hp
        rw [hp']
        cases q : VbceCore.natOf w.2 with
        | none => simp
        | some n =>
          have big := natOf_great hp' q
          dsimp only [Option.map_some]
          rw [if_neg (fun z => by have := (num_big big).1; unfold num at this; rw [this] at z; cases z)]
          simp
/-! ### numbers told -/
theorem up_fuel : ∀ (f g n : Nat), n < 10 ^ f → n < 10 ^ g → VbceCore.digitsUp 10 f n = VbceCore.digitsUp 10 g n
  | 0, 0, n, _, _ => rfl
  | 0, g + 1, n, h, _ => by
    have : n = 0 := by simp at h; exact h
    subst this
    rfl
  | f + 1, 0, n, _, h => by
    have : n = 0 := by simp at h; exact h
    subst this
    rfl
  | f + 1, g + 1, n, hf, hg => by
    unfold VbceCore.digitsUp
    by_cases h0 : n = 0
    · rw [if_pos h0, if_pos h0]
    · rw [if_neg h0, if_neg h0]
      rw [Nat.pow_succ] at hf hg
      rw [up_fuel f g (n / 10) (by omega) (by omega)]
theorem fuel_ok (n : Nat) : n < 10 ^ VbceCore.lengthFuel n := by
  unfold VbceCore.lengthFuel
  have h1 : n < 2 ^ (n.log2 + 1) := Nat.lt_log2_self
  have h2 : 2 ^ (n.log2 + 1) ≤ 10 ^ (n.log2 + 1) := Nat.pow_le_pow_left (by decide) _
  have h3 : 10 ^ (n.log2 + 1) ≤ 10 ^ (n.log2 + 2) := Nat.pow_le_pow_right (by decide) (by omega)
  omega
theorem natText_lt {n : Nat} (h : n < 10) : VbceCore.natText n = [48 + n] := by
  have : n = 0 ∨ n = 1 ∨ n = 2 ∨ n = 3 ∨ n = 4 ∨ n = 5 ∨ n = 6 ∨ n = 7 ∨ n = 8 ∨ n = 9 := by omega
  rcases this with h | h | h | h | h | h | h | h | h | h <;> subst h <;> decide
theorem natText_step {n : Nat} (h : 10 ≤ n) : VbceCore.natText n = VbceCore.natText (n / 10) ++ [48 + n % 10] := by
  have hd : n / 10 ≠ 0 := by omega
  have e : VbceCore.digitsUp 10 (VbceCore.lengthFuel n) n = n % 10 :: VbceCore.digitsUp 10 (VbceCore.lengthFuel (n / 10)) (n / 10) := by
    have e1 : VbceCore.digitsUp 10 (VbceCore.lengthFuel n) n = VbceCore.digitsUp 10 (VbceCore.lengthFuel (n / 10) + 1) n := by
      refine up_fuel _ _ _ (fuel_ok n) ?_
      have := fuel_ok (n / 10)
      rw [Nat.pow_succ]
      omega
    rw [e1]
    show (if n = 0 then [] else n % 10 :: VbceCore.digitsUp 10 (VbceCore.lengthFuel (n / 10)) (n / 10)) = _
    rw [if_neg (by omega)]
  unfold VbceCore.natText VbceCore.digitsFast
  rw [if_neg (by omega), if_neg hd, e, List.reverse_cons, List.map_append, List.map_cons, List.map_nil, Nat.add_comm (n % 10) 48]
end Em
namespace EX
open PySem PySem.Spec PyProof.Rows L2
section
variable {X : Cx}
/-- a module's number, text, object -/
theorem pe_gint {x : Str} {n : Int} {pos : Pos} (hg : Gl X x) (h : ∃ t, X.mg x = some (.int n t)) (hd : (x == ("__debug__" : Str)) = false := by decide) : PE X (.Name x pos) (tC (.int n)) := by
  obtain ⟨t, h⟩ := h
  exact pe_glob hg h ⟨t, rfl⟩ hd
theorem pe_gstr {x z : Str} {pos : Pos} (hg : Gl X x) (h : ∃ t, X.mg x = some (.str z t)) (hd : (x == ("__debug__" : Str)) = false := by decide) : PE X (.Name x pos) (tC (.str z)) := by
  obtain ⟨t, h⟩ := h
  exact pe_glob hg h ⟨t, rfl⟩ hd
theorem pe_gref {x : Str} {a : Addr} {pos : Pos} (hg : Gl X x) (h : X.mg x = some (.ref a)) (hd : (x == ("__debug__" : Str)) = false := by decide) : PE X (.Name x pos) (tC (.ref a)) :=
  pe_glob hg h rfl hd
end
/-! ### xs.extend(t), t a tuple -/
theorem ext_tup (l : Addr) (items : Array Value) (n : Nat) (b : Addr) (dd : Option Addr) (sl : Array (Option Value)) (items2 : Array Value) (n2 : Nat) (h0 : ¬ (!items.isEmpty && Builtin.List.listTooLong (items.size + items2.size)) = true) (h1 : items.size ≤ sizeLine) (h2 : items.size + items2.size ≤ sizeLine + 1) :
    Meets (Builtin.«list.extend» ⟨[.ref l, .ref b], []⟩) (fun _ R s => s.heap.get? l = some { cls := .type "list", dict := none, data := .seq items n, slots := #[] } ∧ s.heap.get? b = some { cls := .type "tuple", dict := dd, data := .seq items2 n2, slots := sl } ∧
      R (.ok (.ret Value.none)) { s with heap := s.heap.update l (Obj.mapSeq fun x => x ++ items2), toks := s.toks }) := by
  refine .of_wp fun _ _ _ _ ⟨hp, g, d, tk, os⟩ ⟨hl, hb, k⟩ => ?_
  have both : (items ++ items2).size ≤ sizeLine + 1 := (Array.size_append (xs := items) (ys := items2)).symm ▸ h2
  have t1 := sub_tuple_tuple
  have t2 := sub_list_list
  have t3 := sub_tuple_list
  have t4 := sub_list_tuple
  wp_walk using (wpAny_updateSeq hl rfl (hz := h1) (_hz' := both)), wpAny_loadPart' hl, wpAny_loadPart' hb
  exact ⟨_, rfl, k⟩
section
variable {X : Cx}
def rExtT (K : PySem.W.Frag) : V → List V → Hp → VK → Prop := fun x vs H Q => ∃ l b xs zs, x = .ref l ∧ vs = [.ref b] ∧ H l = some (.lst xs) ∧ SqT K H b zs ∧ xs.length + zs.length ≤ sizeLine ∧ Q .non (upd H l (.lst (xs ++ zs)))
theorem mt_extendT : MtM X "list.extend" (rExtT X.K) := by
  rintro pins s σ H _ _ v us Q I rx rv ⟨l, b, xs, zs, rfl, rfl, atl, atb, fits, q⟩
  obtain ⟨_, rfl, ru⟩ := rv.one
  cases rx
  cases ru
  have ⟨len1, ls, c, v1, n1, o1⟩ := I.lstM atl
  have ⟨ts, v2, ⟨⟨_, dd, _, sl⟩, o2, (cls2 : _ = _), c2, (dat2 : _ = _)⟩, _⟩ := I.tuple atb
  subst cls2 dat2
  have n2 := v2.length
  have s1 : ls.toArray.size = xs.length := List.size_toArray.trans n1.symm
  have s2 : ts.toArray.size = zs.length := List.size_toArray.trans n2.symm
  have short : Builtin.List.listTooLong (ls.toArray.size + ts.toArray.size) = false := decide_eq_false (by have := sizeLine_eq; omega)
  have put := I.lset (f := fun z => z ++ ts.toArray) (its' := ls ++ ts) (t' := s.toks) atl o1 (by simp) (v1.append v2) (by simpa using fits)
  exact call_meets F.slot_list_extend ⟨_, o1, rfl⟩ F.entry_list_extend (F.args_list_extend_2 _ _) (ext_tup l ls.toArray c b dd sl ts.toArray c2 (by rw [short, Bool.and_false]; decide) (by omega) (by omega)) ⟨o1, o2, .non, _, put, rfl, q⟩
end
end EX
namespace EX
open PySem PySem.Spec PyProof.Rows L2
/-! ### try: body, except c1 as n: .., except c2 as n: .. (the same name) -/
/-- a clause: its class, its suite's reading -/
abbrev Clause := Value × (Addr → Value → Option Addr → TS)
/-- the ends behind a suite: slot i, the name's, is empty again -/
abbrev unnamed (i : Nat) (D : Ends) : Ends := ⟨fun τ G => D.nx (τ.set i none) G, D.rt, fun τ G => D.bk (τ.set i none) G, fun τ G => D.ct (τ.set i none) G⟩
/-- what the clauses wish of an exception of the body, the first that fits -/
def wTwo (K : PySem.W.Frag) (i : Nat) (Wout : WX) (D : Ends) : List Clause → WX
  | [] => Wout
  | c :: r => fun cls d σ H => ∃ b, PySem.W.exmOne K cls c.1 = some b ∧
      (b = true → ∀ a, H a = none → c.2 a cls d (unnamed i D) (σ.set i (some (.ref a))) H) ∧ (b = false → wTwo K i Wout D r cls d σ H)
/-- the suite reads so, whatever the exception -/
abbrev SuiteIs (X : Cx) (suite : List Stmt) (ts : Addr → Value → Option Addr → TS) : Prop :=
  ∀ (a : Addr) (oe : Obj) (cls : Value) (d : Option Addr) (pn : List (Addr × Obj)), Zc cls d oe → (∃ vs, oe.data = .fields vs) → PSs (X.suite a ((a, oe) :: pn)) suite (ts a cls d)
inductive HdsAs (X : Cx) (n : Str) : List ExceptHandler → List Clause → Prop
  | nil : HdsAs X n [] []
  | cons {x : Str} {p q : Pos} {st : Stmt} {sts : List Stmt} {c : Value} {ts : Addr → Value → Option Addr → TS} {hds : List ExceptHandler} {cs : List Clause} (named : Names X x c) (reads : SuiteIs X (st :: sts) ts) (more : HdsAs X n hds cs) :
      HdsAs X n (.ExceptHandler (some (.Name x p)) (some n) (st :: sts) q :: hds) ((c, ts) :: cs)
/-- an exception of the body, come down in the frame of the try: what is tracked has no part in it -/
structure Down (X : Cx) (pins : List (Addr × Obj)) (σ : L2.St) (H : Hp) (cls : Value) (d : Option Addr) (a : Addr) (s : Shared) : Prop where
  off : H a = none
  origin : ∃ B sI, Inv X pins σ H sI ∧ (∀ b o, sI.heap.get? b = some o → b ∉ frs X.stack → B.get? b = some o) ∧ sI.heap.UpToSlots s.heap ∧ HandSPX.FlyingZ B X.stack a (Zc cls d) s.heap ∧ s.os = sI.os ∧ AllBare s.gens
/-- the frame that the try stands in -/
structure InFrame (X : Cx) : Prop where
  top : X.stack = X.env :: X.outer
  own : X.env.frame = some X.env.locals
/-- the clauses' name, a local of slot i -/
structure SlotOf (X : Cx) (n : Str) (i : Nat) : Prop where
  nd : X.N.Nodup
  at_ : X.N[i]? = some n
  kind : X.env.kindOf n = some .local
section
variable {X : Cx} {pins : List (Addr × Obj)} {σ : L2.St} {H : Hp} {cls : Value} {d : Option Addr} {a : Addr} {s : Shared} {n : Str} {i : Nat} {D : Ends} {W : WX}
theorem Down.state (dn : Down X pins σ H cls d a s) : Inv X pins σ H s := by
  obtain ⟨B, sI, I, low, up, fl, os, ag⟩ := dn.origin
  exact I.landed low fl.1 up os ag
/-- in a suite: the exception is held, apart from the frames -/
theorem Down.held (dn : Down X pins σ H cls d a s) (F : InFrame X) : ∃ oe, s.heap.get? a = some oe ∧ Zc cls d oe ∧ (∃ vs, oe.data = .fields vs) ∧ Inv (X.suite a ((a, oe) :: (X.pn ++ pins))) [] σ H s := by
  obtain ⟨B, _, _, _, _, fl, _⟩ := id dn.origin
  obtain ⟨oe, vs, at_, z, dv⟩ := fl.there
  have out : a ∉ frs X.stack := fun m => by
    obtain ⟨_, o, eo, nf⟩ := fl.2.2.1.mem m
    exact nf vs ((congrArg Obj.data (Option.some.inj (eo.symm.trans at_))).trans dv)
  have cut : frs (X.env :: X.outer) = X.env.locals :: frs X.outer := by
    unfold frs
    rw [List.filterMap_cons, F.own]
  rw [F.top, cut, List.mem_cons, not_or] at out
  exact ⟨oe, at_, z, ⟨vs, dv⟩, dn.state.suite at_ dv dn.off out.1 out.2⟩
/-- its flight is noted as none once more -/
theorem Down.still {M : Model} {A : Around} {E : Value → Shared → Prop} {Q : Unit → Shared → Prop} (dn : Down X pins σ H cls d a s) (k : ∀ s', Down X pins σ H cls d a s' → Q () s') : wpAny M A (setFlight (.ref a) none) Q E s := by
  obtain ⟨B, sI, I, low, up, fl, os, ag⟩ := dn.origin
  exact HandSPX.lands_againZ fl fun h' fl' up' => k _ ⟨dn.off, B, sI, I, low, up.trans up', fl', os, ag⟩
/-- no clause is left: it leaves the try -/
theorem Down.leaves {Q : Flow → Shared → Prop} (dn : Down X pins σ H cls d a s) (F : InFrame X) (tk : Takes X W) (w : W cls d σ H) : wpAny (model X.prog X.w) X.A (handleBy (.ref a) X.env []) Q X.xe s := by
  obtain ⟨B, sI, I, low, up, fl, os, ag⟩ := dn.origin
  have go : wpAny (model X.prog X.w) X.A (setFlight (.ref a) X.env.frame) (fun _ => wpAny (model X.prog X.w) X.A (throw (.ref a) : Sem Flow) Q X.xe) X.xe s := by
    rw [F.own]
    exact HandSPX.setFlight_upZ fl fun h' held up' => wpAny_throw (tk _ _ ⟨a, B, sI, pins, σ, H, cls, d, rfl, I, low, up.trans up', .inr (.inr held), dn.off, os, ag, w⟩)
  obtain ⟨oe, vs, T, _, _, at_, _, dv, tb, _⟩ := fl.2.2.2
  refine wpAny_handleBy_nil (wpAny_bind (wpAny_field at_ dv tb ?_))
  rw [if_neg (by simp)]
  first
    | exact wpAny_bind go
    | exact wpAny_bind (wpAny_pure (wpAny_bind go))
/-- the class that a clause names is read, and asked of the exception -/
theorem Down.asks {x : Str} {c : Value} {p : Pos} {b : Bool} {Q : Bool → Shared → Prop} {E E' : Value → Shared → Prop} (dn : Down X pins σ H cls d a s) (F : InFrame X) (nm : Names X x c) (hit : PySem.W.exmOne X.K cls c = some b) (q : Q b s) :
    wpAny (model X.prog X.w) (X.A.mark (some (.ref a))) (eval (.Name x p) X.env) (fun v s₁ => wpAny (model X.prog X.w) (X.A.mark (some (.ref a))) (excMatches (.ref a) v) Q E' s₁) E s := by
  obtain ⟨oe, at_, z, _, S⟩ := dn.held F
  have ty : PySem.W.Looks (model X.prog X.w) s.heap (typeOf (.ref a)) cls := fun _ _ _ _ k q => wpAny_typeOf_ref (k _ _ at_) (z.1.symm ▸ q)
  have ask := (PySem.W.exm_one (M := model X.prog X.w) dn.state.kIn ty hit).here (A := X.A.mark (some (.ref a))) (E := E') q
  rcases nm with ⟨gl, nd, own | ⟨no, bt, nn⟩⟩
  · exact ld_glob S gl own ask nd
  · exact ld_blt S gl no bt ask nn nd
/-- behind a suite, whatever its end: the name goes -/
theorem suite_end {q : Addr × Obj} {p : Pos} (ok : X.Ok) (sl : SlotOf X n i) : ∀ {f : Flow} {s : Shared}, SP (X.suite a (q :: (X.pn ++ pins))) [] (unnamed i D) f s →
    wpAny (model X.prog X.w) X.A (do bindName X.env n .none; unbindBehindTheSuite X.env n p) (fun _ s' => SP X pins D f s') X.xe s
  | .next, _, ⟨_, _, J, e⟩ => gone_ok (J.unsuite ok) sl.nd sl.at_ sl.kind fun _ J' => ⟨_, _, J', e⟩
  | .brk, _, ⟨_, _, J, e⟩ => gone_ok (J.unsuite ok) sl.nd sl.at_ sl.kind fun _ J' => ⟨_, _, J', e⟩
  | .cont, _, ⟨_, _, J, e⟩ => gone_ok (J.unsuite ok) sl.nd sl.at_ sl.kind fun _ J' => ⟨_, _, J', e⟩
  | .ret _, _, ⟨_, _, _, J, r, e⟩ => gone_ok (J.unsuite ok) sl.nd sl.at_ sl.kind fun _ J' => ⟨_, _, _, J', r, e⟩
theorem try_end {xe : Value → Shared → Prop} (ok : X.Ok) : ∀ {f : Flow} {s : Shared}, SP (X.tr (X.pn ++ pins) xe) [] D f s → SP X pins D f s
  | .next, _, ⟨_, _, J, e⟩ => ⟨_, _, J.ofTry ok, e⟩
  | .brk, _, ⟨_, _, J, e⟩ => ⟨_, _, J.ofTry ok, e⟩
  | .cont, _, ⟨_, _, J, e⟩ => ⟨_, _, J.ofTry ok, e⟩
  | .ret _, _, ⟨_, _, _, J, r, e⟩ => ⟨_, _, _, J.ofTry ok, r, e⟩
/-- the clauses, one after the other -/
theorem Down.handled (F : InFrame X) (sl : SlotOf X n i) (ok : X.Ok) (tk : Takes X W) {hds : List ExceptHandler} {cs : List Clause} (hh : HdsAs X n hds cs) :
    ∀ {s : Shared}, Down X pins σ H cls d a s → wTwo X.K i W D cs cls d σ H → wpAny (model X.prog X.w) X.A (handleBy (.ref a) X.env hds) (SP X pins D) X.xe s := by
  induction hh with
  | nil => exact fun dn w => dn.leaves F tk w
  | cons named reads more next =>
    intro s dn w
    rcases w with ⟨b, hit, yes, no⟩
    refine wpAny_handleBy_cons (codeAny_handlers_test (dn.asks F named hit ?_)) (fun z => nomatch z)
    cases b
    · exact next dn (no rfl)
    · refine codeAny_handlers_suite_as (dn.still fun s₁ dn₁ => ?_)
      obtain ⟨oe, _, z, fs, S⟩ := dn₁.held F
      exact store_ok (X := X.suite a _) (v := .ref a) S sl.nd sl.at_ (.inl sl.kind) rfl (fun s₂ S₂ => wpAny_mono ((reads a oe cls d (X.pn ++ pins) z fs).run _ _ _ _ _ S₂ (yes rfl a dn₁.off)) (fun _ _ e => suite_end ok sl e) fun _ _ z => z.elim) (.inr sl.kind)
/-- down from the air -/
theorem down_of {xe : Value → Shared → Prop} {E : Value → Shared → Prop} {u : Value} {Q : Unit → Shared → Prop} (F : InFrame X) (ok : X.Ok) (x : XE (X.tr (X.pn ++ pins) xe) W u s)
    (k : ∀ a σ H cls d s', u = .ref a → Down X pins σ H cls d a s' → W cls d σ H → Q () s') : wpAny (model X.prog X.w) X.A (noteFrame u X.env) (fun _ => wpAny (model X.prog X.w) X.A (setFlight u none) Q E) E s := by
  rcases x with ⟨a, B, sI, _, σ, H, cls, d, rfl, I, low, up, sky, new, os, ag, w⟩
  have fr : X.A.frames = some (X.env :: X.outer) := ok.frames.trans (congrArg some F.top)
  have sk : Sky B (X.env :: X.outer) a (Zc cls d) X.env.locals s.heap := F.top ▸ sky
  exact Sky.land Zc.steady fr F.own sk fun h' fl up' => k a σ H cls d _ rfl ⟨new, B, sI, I.ofTry ok, low, up.trans up', F.top.symm ▸ fl, os, ag⟩ w
end
/-- what the try does with an exception of its body -/
abbrev catches (X : Cx) (hds : List ExceptHandler) (Q : Flow → Shared → Prop) (u : Value) : Shared → Prop :=
  wpAny (model X.prog X.w) X.A (noteFrame u X.env) (fun _ => wpAny (model X.prog X.w) X.A (setFlight u none) (fun _ => wpAny (model X.prog X.w) X.A (handleBy u X.env hds) Q X.xe) X.xe) X.xe
theorem ps_try_two {X : Cx} {n : Str} {i : Nat} {body : List Stmt} {hd : ExceptHandler} {hds : List ExceptHandler} {cs : List Clause} {pos : Pos} {tb : WX → TS} {Wout : WX} (top : X.stack = X.env :: X.outer) (own : X.env.frame = some X.env.locals) (nd : X.N.Nodup) (at_ : X.N[i]? = some n) (kind : X.env.kindOf n = some .local) (tk : Takes X Wout)
    (reads : ∀ (W : WX) (pn : List (Addr × Obj)) (xe : Value → Shared → Prop), Takes (X.tr pn xe) W → PassesOwn (model X.prog X.w) X.A X.env xe → PSs (X.tr pn xe) body (tb W)) (hh : HdsAs X n (hd :: hds) cs) : PS X (.Try body (hd :: hds) [] [] pos) (fun D σ H => tb (wTwo X.K i Wout D cs) D σ H) where
  run pins s σ H D I h := by
    have F : InFrame X := ⟨top, own⟩
    refine wpAny_Try_except (wpAny_mono ((reads (wTwo X.K i Wout D cs) (X.pn ++ pins) (catches X (hd :: hds) (SP X pins D)) (fun u s' x => down_of F I.ok x fun a σ' H' cls d s₁ e dn w => ?_) PassesOwn.looking).run [] s σ H D (I.toTry _) h) (fun f s₁ e => ?_) fun _ _ e => e)
    · rw [e]
      exact dn.handled F ⟨nd, at_, kind⟩ I.ok tk hh w
    · have e' : SP X pins D f s₁ := try_end I.ok e
      cases f
      · exact wpAny_execs_nil e'
      all_goals exact e'
/-! ### o.m(e, ..) within a try -/
def tMethS (C : Addr) (m : Str) (sp : Sp) (E : L2.St → XK) (ta : TE) (t : TA) : TE := fun σ H Q => ta σ H fun x H1 => ∃ a dx fs, x = .ref a ∧ H1 a = some (.ins C dx fs) ∧ fs.lookup m = none ∧ t σ H1 fun vs H2 => sp (x :: vs) H2 Q (E σ)
theorem pe_methS {X : Cx} {CX : CXT} {k : Nat} {f C : Addr} {fd : FuncData} {ps : List Str} {sp : Sp} {E : L2.St → XK} {m : Str} {pos apos : Pos} {e o : Expr} {es : List Expr} {ta : TE} {t : TA} {pl : Sem Bool} (he : PE X o ta) (c : Cls X.K C) (hm : Meth X.K C m f)
    (F : FnOk X.prog X.w X.K X.mg X.base CX k f fd ps sp) (hr : Room k X.A) (hb : Binds X.K fd ps []) (hx : ∀ σ, PassesAt CX X σ (E σ)) (ha : PA X (e :: es) t)
    (hst : starEach (e :: es) X.env = (false, eval e X.env) :: starEach es X.env := by rfl) (hpl : (backTo pos (starEach es X.env)).any (·.1) = false := by rfl)
    (ht : eval (.Call (.Attribute o m apos) (e :: es) [] pos) X.env = (do
      let ov ← eval o X.env
      standAt apos.atName
      let (f, first) ← holding [ov] (getMethod ov m pl)
      callWith pos f first (backTo pos (starEach (e :: es) X.env)) (backToKw pos (keywordEach [] X.env))) := by rfl) :
    PE X (.Call (.Attribute o m apos) (e :: es) [] pos) (tMethS C m sp E ta t) := by
  refine ⟨fun pins s σ H Q I h => ?_⟩
  refine PySem.W.methodCall_KW (pl := pl) (thn (he.run pins s σ H _ I h) fun u s1 ⟨x, H1, I1, rx, a, dx, fs, ex, ea, l, q⟩ => ?_) ht
  subst ex
  obtain rfl : u = Value.ref a := rx
  refine getmeth_ok I1 ea c hm l ?_
  refine PySem.W.callWith_K (first := [.ref a]) (h₀ := X.base) I.ok.mod.kin hm.kp (thn (ha.run pos pins s1 σ H1 _ I1 q) fun us s2 ⟨vs, H2, I2, r, q2⟩ => ⟨I2.kIn, ?_⟩) hst hpl
  exact run_fnS (us := .ref a :: us) (vs := .ref a :: vs) F hr hb (hx σ) I2 (.cons rfl r) q2
end EX
namespace EX
open PySem PySem.Spec PyProof.Rows L2
/-! ### set(xs), xs a list -/
abbrev newSet (w : World) : Obj := { cls := .type "set", dict := none, data := .set #[] 0 (.fresh 0 0 (!w.params.followText "set-order")) }
abbrev newIt (l : Addr) : Obj := { cls := .type "list_iterator", data := .fields #[.ref l, .int 0 0] }
section
variable {P : Program} {s : Shared} {A : Around} {w : World} {E : Value → Shared → Prop}
/-- what is wanted of the loop; packed, so that no tactic looks into it -/
structure LoopIs (P : Program) (w : World) (h0 : Heap) (l : Addr) (Good : Heap → Prop) : Prop where
  run : ∀ (A' : Around) (g : Array GenState) (d : Drawn) (tk : Nat) (os : OsState) (R : Result → Shared → Prop), A'.in1.handled = none → A'.in1.units < cLine →
      (∀ h' tk', Good h' → (∀ b o, h0.get? b = some o → h'.get? b = some o) → R (.ok (.ret .none)) ⟨h', g, d, tk', os⟩) →
      codeAny (model P w) A' (.builtin "set.update.loop" ⟨[.ref h0.objs.size, .ref (h0.push (newSet w)).objs.size], []⟩) R ⟨(h0.push (newSet w)).push (newIt l), g, d, tk, os⟩
structure BehindIs (s : Shared) (Good : Heap → Prop) (Q : Value → Shared → Prop) : Prop where
  go : ∀ (h' : Heap) (tk : Nat), Good h' → (∀ b o, s.heap.get? b = some o → h'.get? b = some o) → Q (.ref s.heap.objs.size) { s with heap := h', toks := tk }
/-- T(args), T's new and init as they are called -/
theorem type_by {T newId initId : String} {args : List Value} {Q Mid : Value → Shared → Prop} (ft : TypeCalled T newId initId) (one : checkTypeCall T ⟨args, []⟩ = pure ())
    (new : codeAny (model P w) A.in1 (.call (.builtin newId) ⟨.type T :: args, []⟩) (wants Mid E) s)
    (init : ∀ v s₁, Mid v s₁ → s₁.TypeIs v T ∧ codeAny (model P w) A.in1 (.call (.builtin initId) ⟨v :: args, []⟩) (wants (fun r s₂ => r = .none ∧ Q v s₂) E) s₁) :
    wpAny (model P w) A (call (.type T) args) Q E s := by
  have ⟨k1, k2, ⟨_, _, k3⟩, k4, _, k5, slot⟩ := ft
  refine wpAny_call (codeAny_of_tree (wpAny_pure ⟨Code.quiet_builtin _ (by decide +kernel), codeAny_builtin F.entry_type_call ?_⟩))
  rw [Around.under_plain (weight_type_call_type ..) rfl]
  repeat (any_goals (first | with_reducible assumption | wp_step))
  refine codeAny_mono new fun r s₁ m => ?_
  rcases r with x | f
  · exact m
  · cases f
    case ret v =>
      have ⟨ty, ini⟩ := init v s₁ m
      have look := slot.lookup
      have bind := slot.bind v
      repeat (any_goals (first | with_reducible assumption | wp_step))
      refine codeAny_mono ini fun r s₂ m => ?_
      rcases r with x | f
      · exact m
      · cases f
        case ret u =>
          have ⟨nothing, done⟩ := m
          subst nothing
          repeat (any_goals (first | with_reducible assumption | wp_step))
        all_goals exact m.elim
    all_goals exact m.elim
set_option maxHeartbeats 8000000 in
/-- the call, by what the loop over the list makes of the new set -/
theorem set_by_loop {l : Addr} {items : Array Value} (Good : Heap → Prop) {Q : Value → Shared → Prop} (hh : A.handled = none) (hl : s.heap.IsList l items) (hu : A.units + 3 < cLine) (loop : LoopIs P w s.heap l Good) (h : BehindIs s Good Q) :
    wpAny (model P w) A (call (.type "set") [Value.ref l]) Q E s := by
  refine type_by (Mid := fun v s₁ => v = .ref s.heap.objs.size ∧ s₁ = { s with heap := s.heap.push (newSet w) }) F.called_set (F.typeCall_set_1 _) (code_set_led1 _ ⟨rfl, rfl⟩) ?_
  rintro _ _ ⟨rfl, rfl⟩
  have mine : (s.heap.push (newSet w)).get? s.heap.objs.size = some (newSet w) := Heap.get?_push_size _ rfl
  obtain ⟨⟨_, dl, _, sl⟩, ol, (cl : _ = _), cnt, (el : _ = _)⟩ := hl
  subst cl el
  have ol2 : (s.heap.push (newSet w)).get? l = some { cls := .type "list", dict := dl, data := .seq items cnt, slots := sl } := Heap.get?_push_of_some _ ol
  have at_ : (s.heap.push (newSet w)).IsList l items := ⟨_, ol2, rfl, cnt, rfl⟩
  have noSet := F.sub_list_set
  have noFrozen := F.sub_list_frozenset
  have noDict : (Value.type "list" == Value.type "dict") = false := rfl
  refine ⟨⟨_, mine, rfl⟩, codeAny_call_builtin F.called_set.init.plain F.entry_set_init (check_set_init_1 ⟨_, mine, rfl⟩ ?_)⟩
  unfold Builtin.«set.__init__» Builtin.Frozenset.updateFrom noKeywords
  generalize iterIs : pyIter = it
  wp_walk
  subst iterIs
  refine wpAny_pyIter_list at_ (wpAny_bind (wpAny_runValue (loop.run _ _ _ _ _ _ (by simpa using hh) hu fun h' tk good kept => ?_)))
  exact wpAny_pure (wpAny_pure ⟨rfl, h.go h' tk good kept⟩)
end
end EX
namespace EX
open PySem PySem.Spec PyProof.Rows L2
/-! ### set(xs), xs a list: the loop, whatever the items -/
/-- the items go into the set at S, one after the other: C i is what a heap is like when the first i are in; h0 stood before -/
structure Fills (P : Program) (w : World) (A : Around) (S : Addr) (h0 : Heap) (items : Array Value) (C : Nat → Heap → Prop) : Prop where
  stay : ∀ (i : Nat) (h h' : Heap), C i h → (∀ o, h.get? S = some o → h'.get? S = some o) → (∀ b o, h0.get? b = some o → h'.get? b = some o) → C i h'
  put : ∀ (i : Nat) (v : Value) (s : Shared) (Q : Bool → Shared → Prop) (E : Value → Shared → Prop), items[i]? = some v → C i s.heap → (∀ b o, h0.get? b = some o → s.heap.get? b = some o) →
    (∀ u h' tk, Heap.SameBut S s.heap h' → C (i + 1) h' → Q u { s with heap := h', toks := tk }) → wpAny (model P w) A (setAdd S v) Q E s
/-- the loop's heap, i items taken from the list at l by the iterator at I -/
structure AtItem (h0 : Heap) (l I : Addr) (items : Array Value) (i : Nat) (h : Heap) : Prop where
  it : h.IsListIter I l i
  src : h.IsList l items
  old : ∀ b o, h0.get? b = some o → h.get? b = some o
structure Apart3 (h0 : Heap) (l I S : Addr) : Prop where
  lI : l ≠ I
  SI : S ≠ I
  Sl : S ≠ l
  newI : h0.get? I = none
  newS : h0.get? S = none
theorem ne_new {h0 : Heap} {a b : Addr} {o : Obj} (new : h0.get? a = none) (e : h0.get? b = some o) : b ≠ a := by
  rintro rfl
  rw [new] at e
  cases e
section
variable {P : Program} {s : Shared} {A : Around} {w : World} {E : Value → Shared → Prop} {l I S : Addr} {items : Array Value} {h0 : Heap} {C : Nat → Heap → Prop}
theorem fill {g : Array GenState} {d : Drawn} {os : OsState} {R : Result → Shared → Prop} (hh : A.in1.handled = none) (ap : Apart3 h0 l I S) (fl : Fills P w A.in1 S h0 items C)
    (fin : ∀ h' tk', C items.size h' → (∀ b o, h0.get? b = some o → h'.get? b = some o) → R (.ok (.ret .none)) ⟨h', g, d, tk', os⟩) (i : Nat) (h : Heap) (tk : Nat) (le : i ≤ items.size) (at_ : AtItem h0 l I items i h) (c : C i h) :
    codeAny (model P w) A (.builtin "set.update.loop" ⟨[.ref S, .ref I], []⟩) R ⟨h, g, d, tk, os⟩ := by
  refine codeAny_builtin (b := Builtin.«set.update.loop») F.entry_set_update_loop ?_
  rw [Around.under_plainId F.plain_set_update_loop]
  by_cases more : i < items.size
  · refine wpAny_bind (wpAny_pyNext_list_item at_.it at_.src (Array.getElem?_eq_getElem more) fun h1 it1 same1 => ?_)
    have old1 : ∀ b o, h0.get? b = some o → h1.get? b = some o := fun b o e => (same1.2 b (ne_new ap.newI e)).trans (at_.old b o e)
    have c1 := fl.stay i h h1 c (fun o e => (same1.2 S ap.SI).trans e) old1
    refine wpAny_bind (wpAny_holding (fl.put i _ _ _ _ (Array.getElem?_eq_getElem more) c1 old1 fun u h2 tk2 same2 c2 => ?_))
    refine wpAny_pure ⟨plainId_quiet F.plain_set_update_loop _, fill hh ap fl fin (i + 1) h2 tk2 more ⟨?_, ?_, fun b o e => (same2.2 b (ne_new ap.newS e)).trans (old1 b o e)⟩ c2⟩
    · exact it1.at fun o e => (same2.2 I ap.SI.symm).trans e
    · exact at_.src.at fun o e => (same2.2 l ap.Sl.symm).trans ((same1.2 l ap.lI).trans e)
  · have all : i = items.size := by omega
    refine wpAny_bind (wpAny_pyNext_list_end hh at_.it at_.src (Array.getElem?_eq_none (Nat.le_of_not_lt more)) fun h1 ext => ?_)
    have old1 : ∀ b o, h0.get? b = some o → h1.get? b = some o := fun b o e => ext b o (ne_new ap.newI e) (at_.old b o e)
    exact wpAny_pure (fin h1 tk (all ▸ fl.stay i h h1 c (fun o e => ext S o ap.SI e) old1) old1)
termination_by items.size - i
theorem free_at {h : Heap} {b : Addr} (hb : h.objs.size ≤ b) : h.get? b = none :=
  match q : h.get? b with
  | none => rfl
  | some _ => absurd (Heap.lt_size q) (Nat.not_lt.mpr hb)
/-- set(xs): the set holds what the items have made of it -/
theorem set_filled {Q : Value → Shared → Prop} (hh : A.handled = none) (hu : A.units + 3 < cLine) (src : s.heap.IsList l items) (fl : ∀ A' : Around, A'.units < cLine → Fills P w A' s.heap.objs.size s.heap items C)
    (first : ∀ h, h.get? s.heap.objs.size = some (newSet w) → C 0 h) (k : ∀ h' tk, C items.size h' → (∀ b o, s.heap.get? b = some o → h'.get? b = some o) → Q (.ref s.heap.objs.size) { s with heap := h', toks := tk }) :
    wpAny (model P w) A (call (.type "set") [Value.ref l]) Q E s := by
  refine set_by_loop (C items.size) hh src hu ⟨fun A' g d tk os R none room fin => ?_⟩ ⟨k⟩
  obtain ⟨ol, eol, rol⟩ := src
  have lt : l < s.heap.objs.size := Heap.lt_size eol
  have two : (s.heap.push (newSet w)).objs.size = s.heap.objs.size + 1 := Heap.size_push ..
  have up : ∀ b o, s.heap.get? b = some o → ((s.heap.push (newSet w)).push (newIt l)).get? b = some o := fun b o e => Heap.get?_push_of_some _ (Heap.get?_push_of_some _ e)
  refine fill none ⟨?_, ?_, Nat.ne_of_gt lt, free_at (by rw [two]; exact Nat.le_succ _), free_at (Nat.le_refl _)⟩ (fl A'.in1 room) (fun h' tk' c old => fin h' tk' c old) 0 _ tk (Nat.zero_le _) ⟨⟨_, Heap.get?_push_size _ rfl, rfl, rfl⟩, ⟨ol, up l ol eol, rol⟩, up⟩ (first _ (Heap.get?_push_of_some _ (Heap.get?_push_size _ rfl)))
  · rw [two]; exact Nat.ne_of_lt (Nat.lt_succ_of_lt lt)
  · rw [two]; exact Nat.ne_of_lt (Nat.lt_succ_self _)
/-! whole numbers -/
theorem fills_ints {ns : List Int} (are : IntsAre items.toList ns) (room : ns.length + 1 < scanBound) : Fills P w A S h0 items (fun i h => ∃ c, c ≤ i ∧ SetR w h S (fun j => decide (j ∈ ns.take i)) c) where
  stay i h h' := fun ⟨c, le, R⟩ same _ => ⟨c, le, R.at same⟩
  put i v s Q E hv := fun ⟨c, le, R⟩ _ k => by
    have lt : i < ns.length := by
      have l1 := (Array.getElem?_eq_some_iff.mp hv).1
      have l2 := IntsAre.length are
      rw [Array.length_toList] at l2
      omega
    have ⟨t, e⟩ := IntsAre.int_at are i v (Array.getElem?_toList.trans hv)
    have e2 : ns.getD i 0 = ns[i] := by simp [lt]
    subst e
    rw [e2]
    refine wpAny_holding (wpAny_bind ((intKind P w).pyHash (k := ns[i]) (intKind_is ..) ?_))
    refine setR_add_hashed (s := { s with toks := s.toks + 1 }) R (by omega) fun h' same R' => k _ h' _ same ⟨_, ?_, R'.congr fun j => ?_⟩
    · split <;> omega
    · rw [take_next (List.getElem?_eq_getElem lt)]
      simp only [List.mem_append, List.mem_singleton, Bool.decide_or]
/-! tuples of ints, few of them unlike -/
/-- no more than so many unlike tuples -/
def FewT (ks : List (Addr × List Int)) : Prop := ∀ L : List (List Int), L.Nodup → (∀ k ∈ L, k ∈ ks.map (·.2)) → L.length ≤ 62
/-- the set at S holds the unlike ones of the first i rows -/
def HoldsT (P : Program) (w : World) (S : Addr) (ks : List (Addr × List Int)) (i : Nat) (h : Heap) : Prop := ∃ L es ep t, SetTR P w h S L es ep t ∧ Got ks i L
theorem fills_tups {ks : List (Addr × List Int)} (are : items.toList = ks.map fun p => Value.ref p.1) (rows : ∀ p ∈ ks, IsT P w h0 p.2 p.1) (few : FewT ks) (hu : A.units < cLine) : Fills P w A S h0 items (HoldsT P w S ks) where
  stay i h h' := fun ⟨L, es, ep, t, R, g⟩ same old => ⟨L, es, ep, t, R.keep same fun p hp => isT_keep (rows p (List.mem_of_mem_take (g.sub p hp))) old, g⟩
  put i v s Q E hv := fun ⟨L, es, ep, t, R, g⟩ old k => by
    have e : (ks.map fun p => Value.ref p.1)[i]? = some v := are ▸ Array.getElem?_toList.trans hv
    obtain ⟨p, at_, rfl⟩ := Option.map_eq_some_iff.mp ((List.getElem?_map ..).symm.trans e)
    have row := isT_keep (rows p (List.mem_of_getElem? at_)) old
    have short : L.length ≤ 62 := by
      have := few (L.map Prod.snd) R.nd fun r hr => by
        have ⟨q, hq, z⟩ := List.mem_map.mp hr
        exact z ▸ List.mem_map_of_mem (List.mem_of_mem_take (g.sub q hq))
      simpa using this
    refine wpAny_holding (wpAny_bind (wpAny_pyHash_tuple hu row (add_at (s := { s with toks := s.toks + (p.2.length + 1) }) R row hu (by omega) fun u h' L' es' ep' t' same R' again more => ?_)))
    refine k u h' _ same ⟨L', es', ep', t', R', ?_⟩
    by_cases c : p.2 ∈ L.map (·.2)
    · exact again c ▸ g.same at_ c
    · exact g.more at_ (more c)
end
section
variable {X : Cx}
/-- set(xs), xs a list of ints -/
def rSetOfI (K : PySem.W.Frag) (w : World) : List V → Hp → VK → Prop := fun xs H Q => ∃ (l : Addr) (ns : List Int), xs = [V.ref l] ∧ SqL K H l (ns.map V.int) ∧ ns.length ≤ 1000 ∧
  ∀ a n, H a = none → (∃ L : List Int, L.Nodup ∧ L.length = n ∧ ∀ k, k ∈ L → k ∈ ns) → Q (.ref a) (upd H a (SetO w a (fun j => decide (j ∈ ns)) n))
theorem cr_setOfI (hc : X.calm = true) (hu : X.A.units + 64 < cLine) : CallR X (.type "set") (rSetOfI X.K X.w) := by
  rintro pins s σ H _ us Q I r ⟨l, ns, rfl, src, few, q⟩
  obtain ⟨its, rv, pl, _⟩ := I.list src
  have are : IntsAre its.toArray.toList ns := by simpa using rv.ints
  have len : its.toArray.size = ns.length := by rw [← IntsAre.length are, Array.length_toList]
  rw [Vals.ref1 r]
  refine set_filled (P := X.prog) (w := X.w) (I.ok.hd hc) (by omega) pl.isList (fun _ _ => fills_ints are (by unfold scanBound; omega)) (fun h e => ⟨0, Nat.le_refl 0, setR_new_at e⟩) fun h' tk ⟨c, _, R⟩ old => ?_
  rw [len, List.take_length] at R
  refine ⟨V.ref s.heap.objs.size, _, I.laid (t' := tk) old (Nat.le_refl _) (setO_new R), rfl, q _ c (I.hok.fresh (Nat.le_refl _)) ?_⟩
  obtain ⟨_, es, _, _, _, _, _, _, nd, mem, _, _, sz, _⟩ := R
  exact ⟨_, nd, by rw [List.length_map, Array.length_toList, sz], fun k hk => of_decide_eq_true ((mem k).mpr hk)⟩
/-- set(xs), xs a list of tuples of ints, few of them unlike -/
def rSetOfTN (K : PySem.W.Frag) (P : Program) (w : World) : List V → Hp → VK → Prop := fun xs H Q => ∃ (l : Addr) (ks : List (Addr × List Int)), xs = [V.ref l] ∧ SqL K H l (ks.map fun p => V.ref p.1) ∧ (∀ p ∈ ks, SqT K H p.1 (p.2.map V.int)) ∧ FewT ks ∧ ∀ a L, H a = none → (∀ p ∈ L, p ∈ ks) → (∀ p ∈ ks, p.2 ∈ L.map (·.2)) → Q (.ref a) (upd H a (SetTO P w a L))
theorem cr_setOfTN (hc : X.calm = true) (hu : X.A.units + 64 < cLine) : CallR X (.type "set") (rSetOfTN X.K X.prog X.w) := by
  rintro pins s σ H _ us Q I r ⟨l, ks, rfl, src, rows, few, q⟩
  obtain ⟨its, rv, pl, _⟩ := I.list src
  have are : its.toArray.toList = ks.map fun p => Value.ref p.1 := by simpa using refs_of_vals rv
  have len : its.toArray.size = ks.length := by rw [← Array.length_toList, are, List.length_map]
  rw [Vals.ref1 r]
  refine set_filled (P := X.prog) (w := X.w) (I.ok.hd hc) (by omega) pl.isList (fun A' room => fills_tups are (fun p hp => I.isT (rows p hp)) few room) (fun h e => ⟨_, _, _, _, setTR_fresh e, Got.zero ks⟩) fun h' tk ⟨L, es, ep, t, R, g⟩ old => ?_
  rw [len] at g
  have all := List.take_length (l := ks)
  exact ⟨V.ref s.heap.objs.size, _, I.laid (t' := tk) old (Nat.le_refl _) (setTO_new R.t0), rfl, q _ L (I.hok.fresh (Nat.le_refl _)) (fun p hp => all ▸ g.sub p hp) fun p hp => g.all p (all.symm ▸ hp)⟩
end
end EX
namespace EX
open PySem PySem.Spec PyProof.Rows L2
/-! ### sorted(a set of tuples of ints) -/
def hdI (l : List Int) : Int := l.headD 0
def encT (q : Addr × List Int) : PyData := .tuple (q.2.map PyData.int)
theorem reads_ints {h : Heap} : ∀ {xs : List Value} {ns : List Int}, IntsAre xs ns → ReadsAll h xs (ns.map PyData.int) []
  | _, _, .nil => .nil
  | _, _, .cons n t r => ReadsAll.cons (.int n t) (reads_ints r)
theorem reads_tup {h : Heap} {a : Addr} {k : List Int} (x : TS.TupInts h (.ref a) k) : Reads h (.ref a) (.tuple (k.map PyData.int)) [] := by
  obtain ⟨b, xs, e, ⟨o, ho, hc, n, hd⟩, i⟩ := x
  cases e
  exact .tuple ho hc hd (reads_ints i)
theorem le_heads {p q : Addr × List Int} (hp : p.2 ≠ []) (hq : q.2 ≠ []) (h : PySem.W.dataLe false encT p q = true) : hdI p.2 ≤ hdI q.2 := by
  rw [PySem.W.dataLe_eq] at h
  have h' : (!PySem.W.dataLt (encT q) (encT p)) = true := h
  obtain ⟨x, l, ep⟩ : ∃ x l, p.2 = x :: l := by
    cases e : p.2 with
    | nil => exact absurd e hp
    | cons x l => exact ⟨x, l, rfl⟩
  obtain ⟨y, m, eq⟩ : ∃ x l, q.2 = x :: l := by
    cases e : q.2 with
    | nil => exact absurd e hq
    | cons x l => exact ⟨x, l, rfl⟩
  rw [ep, eq]
  show x ≤ y
  by_cases c : y < x
  · exfalso
    have d : PySem.W.dataLt (encT q) (encT p) = true := by
      unfold encT
      rw [ep, eq, PySem.W.dataLt_tuple, List.map_cons, List.map_cons, PySem.W.dataLt_cons (by simp [PySem.W.alike]), PySem.W.dataLt_int]
      have ne : PyData.eqv (.int y) (.int x) = false := by
        simp only [PyData.eqv, beq_eq_false_iff_ne]
        omega
      rw [ne, if_neg Bool.false_ne_true]
      exact decide_eq_true c
    rw [d] at h'
    cases h'
  · omega
theorem each_refs : ∀ (L : List (Addr × List Int)), PySem.W.EachIs (fun (v : Value) (b : Addr × List Int) => v = .ref b.1) (L.map fun q => Value.ref q.1) L
  | [] => .nil
  | q :: L => .cons rfl (each_refs L)
theorem refs_each : ∀ {vs : List Value} {L : List (Addr × List Int)}, PySem.W.EachIs (fun (v : Value) (b : Addr × List Int) => v = .ref b.1) vs L → vs = L.map fun q => Value.ref q.1
  | _, [], .nil => rfl
  | _, q :: L, .cons e t => by rw [e, refs_each t, List.map_cons]
theorem each_of {R : Value → Addr × List Int → Prop} : ∀ (L : List (Addr × List Int)), (∀ q ∈ L, R (.ref q.1) q) → PySem.W.EachIs R (L.map fun q => Value.ref q.1) L
  | [], _ => .nil
  | q :: L, h => .cons (h q List.mem_cons_self) (each_of L fun r hr => h r (List.mem_cons_of_mem _ hr))
/-- what is a rearrangement of images is the image of a rearrangement -/
theorem perm_lift {α β : Type} {f : α → β} {us vs : List β} (pm : us.Perm vs) : ∀ L : List α, vs = L.map f → ∃ L1 : List α, us = L1.map f ∧ L1.Perm L := by
  induction pm with
  | nil => exact fun L e => ⟨L, e, .refl L⟩
  | cons u _ more =>
    intro L e
    cases L with
    | nil => cases e
    | cons x L =>
      have ⟨e1, e2⟩ := List.cons.inj e
      have ⟨L1, e3, p1⟩ := more L e2
      exact ⟨x :: L1, by rw [List.map_cons, e1, e3], p1.cons x⟩
  | swap u v l =>
    intro L e
    match L, e with
    | x :: y :: L, e =>
      have ⟨e1, e2⟩ := List.cons.inj e
      have ⟨e3, e4⟩ := List.cons.inj e2
      exact ⟨y :: x :: L, by rw [List.map_cons, List.map_cons, e1, e3, e4], .swap x y L⟩
  | trans _ _ first then_ =>
    intro L e
    have ⟨L2, e2, p2⟩ := then_ L e
    have ⟨L1, e1, p1⟩ := first L2 e2
    exact ⟨L1, e1, p1.trans p2⟩
abbrev refOf (q : Addr × List Int) : Value := .ref q.1
section
variable {P : Program} {s : Shared} {A : Around} {w : World} {E : Value → Shared → Prop}
/-- xs.sort(), xs a list of rows that begin somewhere -/
theorem sort_rows {b : Addr} {L : List (Addr × List Int)} {Q : Value → Shared → Prop} (at_ : s.heap.get? b = some (seqObj "list" (L.map refOf).toArray 0)) (rows : ∀ q ∈ L, TS.TupInts s.heap (refOf q) q.2) (begun : ∀ q ∈ L, q.2 ≠ []) (len : L.length ≤ sizeLine) (hu : A.units + 2 < cLine)
    (k : ∀ (h' : Heap) (c : Nat) (L' : List (Addr × List Int)), (∀ d o, d ≠ b → s.heap.get? d = some o → h'.get? d = some o) → h'.get? b = some (seqObj "list" (L'.map refOf).toArray c) → L'.Perm L → L'.Pairwise (fun q r => hdI q.2 ≤ hdI r.2) → Q .none { s with heap := h' }) :
    wpAny (model P w) A (call (.builtin "list.sort") [.ref b]) Q E s := by
  have deep : ∀ q : Addr × List Int, (encT q).depth = 1 := fun q => by
    unfold encT
    rw [PyData.depth, PySem.W.depth_ints]
  have alike : PySem.W.AllAlike (L.map encT) := .of fun q r => by
    unfold encT
    rw [PySem.W.alike]
    exact PySem.W.alike_ints q.2 r.2
  have first : PySem.W.Sortable (L.map encT) := .inl fun d hd => by
    have ⟨q, hq, e⟩ := List.mem_map.mp hd
    match z : q.2 with
    | [] => exact absurd z (begun q hq)
    | x :: xs => exact ⟨.int x, xs.map .int, by rw [← e]; unfold encT; rw [z]; rfl⟩
  refine PySem.W.list_sort_data (enc := encT) at_ (each_refs L) (each_of L fun q hq => ⟨[], reads_tup (rows q hq), List.not_mem_nil⟩) alike first len (fun q _ => by rw [deep]; exact hu) fun out _ is => ?_
  have ⟨c, put⟩ := sortedHeap_at (vs := L.map refOf) (out := out.toArray) at_
  have same : (L.mergeSort (PySem.W.dataLe false encT)).Perm L := List.mergeSort_perm ..
  rw [refs_each is] at put ⊢
  refine k _ c _ (fun d o nd e => (sortedHeap_old nd (Heap.lt_size e)).trans e) put same ?_
  exact (PySem.W.sort_pairwise (PySem.W.sortLe_total ..) L).imp_of_mem fun hq hr le => le_heads (begun _ (same.mem_iff.mp hq)) (begun _ (same.mem_iff.mp hr)) le
/-- sorted(a set of such rows) -/
theorem sorted_setTN {a : Addr} {L : List (Addr × List Int)} {es : Array (Int × Value)} {ep : Nat} {t : SetTable} {Q : Value → Shared → Prop} (R : SetTR P w s.heap a L es ep t) (hh : A.handled = none) (hu : A.units + 64 < cLine) (begun : ∀ p ∈ L, p.2 ≠ [])
    (k : ∀ (s' : Shared) (p : Addr) (c : Nat) (L' : List (Addr × List Int)), (∀ b o, s.heap.get? b = some o → s'.heap.get? b = some o) → s'.gens = s.gens → s'.os = s.os → s.heap.objs.size ≤ p → s'.heap.get? p = some (seqObj "list" (L'.map refOf).toArray c) →
      L'.Perm L → L'.Pairwise (fun q r => hdI q.2 ≤ hdI r.2) → Q (.ref p) s') : wpAny (model P w) A (call (.builtin "sorted") [.ref a]) Q E s := by
  have few : L.length < 64 := R.few
  have ⟨o, eo, exact_, dat⟩ := R.ob
  have held : es.toList.map (·.2) = L.map refOf := by
    rw [R.rows]
    exact List.map_map ..
  refine Calls.call_function_entry kind_sorted plain_sorted entry_sorted (args_sorted1 _) (wpAny_bind (m := checkCount "sorted" 1 1 _) (wpAny_pure ?_))
  refine wpAny_bind (collect_set (A := A.in1) hh ⟨o, eo, exact_.1, dat⟩ R.fits (by rw [R.size]; unfold scanBound; omega) R.tab.ris R.led fun s1 vs old above gens os pm => ?_)
  have ⟨L1, e1, p1⟩ := perm_lift pm L held
  subst e1
  have len : L1.length < 64 := p1.length_eq ▸ few
  refine wpAny_bind (wpAny_newList ?_ (by rw [List.length_map, sizeLine_eq]; omega))
  have new : (s1.heap.push (seqObj "list" (L1.map refOf).toArray 0)).get? s1.heap.objs.size = some (seqObj "list" (L1.map refOf).toArray 0) := Heap.get?_push_size _ rfl
  have up : ∀ b u, s.heap.get? b = some u → (s1.heap.push (seqObj "list" (L1.map refOf).toArray 0)).get? b = some u := fun b u e => Heap.get?_push_of_some _ (old b u e)
  refine wpAny_bind (wpAny_holding (sort_rows (s := { s1 with heap := s1.heap.push (seqObj "list" (L1.map refOf).toArray 0) }) new (fun q hq => tupInts_of (isT_keep (R.tup q (p1.mem_iff.mp hq)) up)) (fun q hq => begun q (p1.mem_iff.mp hq)) (by rw [sizeLine_eq]; omega) ?_ fun h' c L' keep at_ pm' pw => ?_))
  · show A.units + 1 + 2 < cLine
    omega
  · exact wpAny_pure ⟨_, rfl, k _ _ c L' (fun b u e => keep b u (Nat.ne_of_lt (Heap.lt_size (old b u e))) (up b u e)) gens os above at_ (pm'.trans p1) pw⟩
end
section
variable {X : Cx}
def rSortedTN (K : PySem.W.Frag) (P : Program) (w : World) : List V → Hp → VK → Prop := fun vs H Q => ∃ (a : Addr) (L : List (Addr × List Int)), vs = [V.ref a] ∧ H a = some (SetTO P w a L) ∧ (∀ p ∈ L, SqT K H p.1 (p.2.map V.int)) ∧ (∀ p ∈ L, p.2 ≠ []) ∧
  ∀ (L' : List (Addr × List Int)) (p : Addr), L'.Perm L → (L'.map (·.2)).Nodup → L'.Pairwise (fun q r => hdI q.2 ≤ hdI r.2) → H p = none → Q (.ref p) (upd H p (.lst (L'.map fun q => V.ref q.1)))
theorem cr_sortedTN (hc : X.calm = true) (hu : X.A.units + 64 < cLine) : CallR X (.builtin "sorted") (rSortedTN X.K X.prog X.w) := by
  rintro pins s σ H _ us Q I r ⟨a, L, rfl, at_, rows, begun, q⟩
  have ⟨es, ep, t, R⟩ := SetT0.full (I.hok a _ at_).1 fun p hp => I.isT (rows p hp)
  rw [Vals.ref1 r]
  refine sorted_setTN R (I.ok.hd hc) hu begun fun ⟨h', g', d', t', o'⟩ p c L' old gens os new put pm pw => ?_
  dsimp only at old gens os put
  subst gens os
  have free := I.hok.fresh new
  have len : (L'.map fun q => V.ref q.1).length ≤ sizeLine := by
    have := R.few
    rw [List.length_map, pm.length_eq, sizeLine_eq]
    omega
  have J := I.call (H' := upd H p (.lst (L'.map fun q => V.ref q.1))) (h' := h') (g' := s.gens) (d' := d') (t' := t') (ch := []) (Un.laid old new free) (I.hok.laid old new ⟨len, _, c, vals_of_refs L', put⟩) I.bare (by simp)
  exact ⟨.ref p, _, J, rfl, q L' p pm ((pm.map (·.2)).nodup_iff.mpr R.nd) pw free⟩
end
end EX
namespace EX
open PySem PySem.Spec PyProof.Rows L2
/-! ### list(zip(xs, ys)) -/
/-- where a zip of two lists lies: itself, its iterators' tuple, its result's tuple, the iterators, the lists -/
structure ZA where
  z : Addr
  ti : Addr
  to : Addr
  i1 : Addr
  i2 : Addr
  l1 : Addr
  l2 : Addr
/-- what a turn writes at -/
abbrev ZA.wr (a : ZA) : List Addr := [a.z, a.to, a.i1, a.i2]
/-- the list at S that is filled lies apart -/
structure ZFar (a : ZA) (S : Addr) : Prop where
  d : ZipApart a.z a.ti a.to a.i1 a.i2 a.l1 a.l2
  out : S ∉ [a.z, a.ti, a.to, a.i1, a.i2, a.l1, a.l2]
/-- whose hand the result's tuple is in: the zip's own, or (T: the last that went out) not -/
inductive Hand (h : Heap) (a : ZA) (S : Addr) : Prop
  | own (u v : Value) (zz : IsZip h a.z a.ti a.to .none) (pair : IsPair h a.to u v)
  | lent (T : Addr) (f : Bool) (o : Obj) (zz : IsZipHeld h a.z a.ti a.to T f) (there : h.get? T = some o) (nz : T ≠ a.z) (n1 : T ≠ a.i1) (n2 : T ≠ a.i2) (nS : T ≠ S)
/-- the zip behind i turns -/
structure ZAt (h : Heap) (a : ZA) (S : Addr) (xs ys : Array Value) (i : Nat) : Prop where
  its : IsPair h a.ti (.ref a.i1) (.ref a.i2)
  it1 : h.IsListIter a.i1 a.l1 i
  it2 : h.IsListIter a.i2 a.l2 i
  src1 : h.IsList a.l1 xs
  src2 : h.IsList a.l2 ys
  hand : Hand h a S
/-- as ascend above lo; there the first pairs stand -/
structure ZPairs (xs ys : Array Value) (lo : Addr) (h : Heap) (as : List Addr) : Prop where
  rise : as.Pairwise (· < ·)
  above : ∀ a ∈ as, lo < a
  pairs : ∀ (j : Nat) (a : Addr), as[j]? = some a → ∃ x y, xs[j]? = some x ∧ ys[j]? = some y ∧ h.get? a = some { cls := .type "tuple", data := .seq #[x, y] }
/-- the list at S, of these references -/
abbrev RefsAt (h : Heap) (S : Addr) (as : List Addr) : Prop := ∃ c, h.get? S = some { cls := .type "list", dict := none, data := .seq (as.map Value.ref).toArray c, slots := #[] }
section
variable {prog : Program} {w : World} {A : Around} {s : Shared} {E : Value → Shared → Prop} {a : ZA} {S : Addr} {xs ys : Array Value}
theorem ZFar.not_wr (F : ZFar a S) : S ∉ a.wr := fun m => F.out (by simp at m ⊢; rcases m with e | e | e | e <;> simp [e])
theorem ZAt.grown {h h' : Heap} {i : Nat} (x : ZAt h a S xs ys i) (F : ZFar a S) (k : ∀ b o, b ≠ S → h.get? b = some o → h'.get? b = some o) : ZAt h' a S xs ys i := by
  have out := F.out
  simp only [List.mem_cons, not_or, List.not_mem_nil, not_false_eq_true, and_true] at out
  have ⟨nz, nti, nto, n1, n2, m1, m2⟩ := out
  refine ⟨k _ _ (Ne.symm nti) x.its, x.it1.at fun o => k _ o (Ne.symm n1), x.it2.at fun o => k _ o (Ne.symm n2), x.src1.at fun o => k _ o (Ne.symm m1), x.src2.at fun o => k _ o (Ne.symm m2), ?_⟩
  cases x.hand with
  | own u v zz pair => exact .own u v (k _ _ (Ne.symm nz) zz) (k _ _ (Ne.symm nto) pair)
  | lent T f o zz there a1 a2 a3 nS => exact .lent T f o (k _ _ (Ne.symm nz) zz) (k _ _ nS there) a1 a2 a3 nS
/-- a turn, as long as both lists go on -/
theorem ZAt.next {i : Nat} {Q : Option Value → Shared → Prop} (st : ZAt s.heap a S xs ys i) (F : ZFar a S) (low : S < s.heap.objs.size) (on : i < min xs.size ys.size)
    (k : ∀ h' x y, ZAt h' a S xs ys (i + 1) → xs[i]? = some x → ys[i]? = some y → h'.get? s.heap.objs.size = some { cls := .type "tuple", data := .seq #[x, y] } → h'.objs.size = s.heap.objs.size + 1 →
      (∀ b o, b ∉ a.wr → s.heap.get? b = some o → h'.get? b = some o) → Q (some (.ref s.heap.objs.size)) { s with heap := h' }) : wpAny (model prog w) A (pyNext (.ref a.z)) Q E s := by
  have D := F.d
  have gx : xs[i]? = some (xs[i]'(by omega)) := Array.getElem?_eq_getElem _
  have gy : ys[i]? = some (ys[i]'(by omega)) := Array.getElem?_eq_getElem _
  have new : ∀ b o, s.heap.get? b = some o → s.heap.objs.size ≠ b := fun b o e => Nat.ne_of_gt (Heap.lt_size e)
  have new1 : s.heap.objs.size ≠ a.i1 := st.it1.elim fun o e => new _ o e.1
  have new2 : s.heap.objs.size ≠ a.i2 := st.it2.elim fun o e => new _ o e.1
  have go : ∀ {h' : Heap}, (∀ b o, b ∉ a.wr → s.heap.get? b = some o → h'.get? b = some o) → h'.IsListIter a.i1 a.l1 (i + 1) → h'.IsListIter a.i2 a.l2 (i + 1) → IsPair h' s.heap.objs.size xs[i] ys[i] → h'.objs.size = s.heap.objs.size + 1 → Hand h' a S →
      Q (some (.ref s.heap.objs.size)) { s with heap := h' } := fun {h'} far a1 a2 p sz hand =>
    k h' _ _ ⟨far _ _ (by simp [D.TIz, D.TITO, D.TIi1, D.TIi2]) st.its, a1, a2, st.src1.at fun o => far _ o (by simp [D.l1z, D.l1TO, D.l1i1, D.l1i2]), st.src2.at fun o => far _ o (by simp [D.l2z, D.l2TO, D.l2i1, D.l2i2]), hand⟩ gx gy p sz far
  cases st.hand with
  | own u v zz pair =>
    refine wpAny_pyNext_zip_item D zz st.its pair st.it1 st.it2 st.src1 st.src2 gx gy fun h' z' _ a1 a2 p sz far => go (fun b o nb => ?_) a1 a2 p sz (.lent _ false _ z' p (new _ _ zz) new1 new2 (Nat.ne_of_gt low))
    simp at nb
    exact far b o nb.1 nb.2.1 nb.2.2.1 nb.2.2.2
  | lent T f o zz there b1 b2 b3 nS =>
    refine wpAny_pyNext_zip_item_held D zz there st.its st.it1 st.it2 st.src1 st.src2 gx gy fun h' z' a1 a2 p sz far => go (fun b o nb => ?_) a1 a2 p sz (.lent T true o z' (far T o b1 b2 b3 there) b1 b2 b3 nS)
    simp at nb
    exact far b o nb.1 nb.2.2.1 nb.2.2.2
/-- one of the lists is at its end -/
theorem ZAt.stops {i : Nat} {Q : Option Value → Shared → Prop} (hh : A.handled = none) (st : ZAt s.heap a S xs ys i) (F : ZFar a S) (all : min xs.size ys.size ≤ i)
    (k : ∀ h', (∀ b o, b ∉ a.wr → s.heap.get? b = some o → h'.get? b = some o) → Q none { s with heap := h' }) : wpAny (model prog w) A (pyNext (.ref a.z)) Q E s := by
  have short : xs[i]? = none ∨ ys[i]? = none := by
    rw [Array.getElem?_eq_none_iff, Array.getElem?_eq_none_iff]
    omega
  cases st.hand with
  | own u v zz pair =>
    refine wpAny_pyNext_zip_end hh F.d zz st.its pair st.it1 st.it2 st.src1 st.src2 short fun h' far => k h' fun b o nb => ?_
    simp at nb
    exact far b o nb.1 nb.2.1 nb.2.2.1 nb.2.2.2
  | lent T f o zz there _ _ _ _ =>
    refine wpAny_pyNext_zip_end_held hh F.d zz there st.its st.it1 st.it2 st.src1 st.src2 short fun h' far => k h' fun b o nb => ?_
    simp at nb
    exact far b o nb.1 nb.2.2.1 nb.2.2.2
/-- the list is filled: i pairs are in it; h₁ stood before -/
structure ZLoop (h₁ : Heap) (a : ZA) (S lo : Addr) (xs ys : Array Value) (i : Nat) (as : List Addr) (h : Heap) : Prop where
  at_ : ZAt h a S xs ys i
  old : ∀ b o, b ∉ S :: a.wr → h₁.get? b = some o → h.get? b = some o
  list : RefsAt h S as
  len : as.length = i
  pairs : ZPairs xs ys lo h as
  room : lo < h.objs.size
theorem ZPairs.grown {lo : Addr} {h h' : Heap} {as : List Addr} (p : ZPairs xs ys lo h as) (k : ∀ b o, lo < b → h.get? b = some o → h'.get? b = some o) : ZPairs xs ys lo h' as :=
  ⟨p.rise, p.above, fun j b e => have ⟨x, y, e1, e2, e3⟩ := p.pairs j b e; ⟨x, y, e1, e2, k b _ (p.above b (List.mem_of_getElem? e)) e3⟩⟩
theorem ZPairs.more {lo b : Addr} {h : Heap} {as : List Addr} {x y : Value} (p : ZPairs xs ys lo h as) (top : ∀ c ∈ as, c < b) (up : lo < b) (e1 : xs[as.length]? = some x) (e2 : ys[as.length]? = some y) (e3 : h.get? b = some { cls := .type "tuple", data := .seq #[x, y] }) : ZPairs xs ys lo h (as ++ [b]) where
  rise := List.pairwise_append.mpr ⟨p.rise, List.pairwise_singleton .., by simpa using top⟩
  above c m := (List.mem_append.mp m).elim (p.above c) fun m => (List.mem_singleton.mp m) ▸ up
  pairs j c e := by
    by_cases l : j < as.length
    · exact p.pairs j c ((List.getElem?_append_left l).symm.trans e)
    · have j_ : j = as.length := by
        have := (List.getElem?_eq_some_iff.mp e).1
        simp at this
        omega
      subst j_
      have c_ : c = b := by simpa using e.symm
      exact c_ ▸ ⟨x, y, e1, e2, e3⟩
variable {h₁ : Heap} {lo : Addr}
/-- a turn, and its pair on the list's end -/
theorem ZLoop.step {i : Nat} {as : List Addr} {h h' : Heap} {x y : Value} (F : ZFar a S) (hlo : ∀ b ∈ S :: a.wr, b ≤ lo) (zl : ZLoop h₁ a S lo xs ys i as h) (st : ZAt h' a S xs ys (i + 1)) (e1 : xs[i]? = some x) (e2 : ys[i]? = some y) (pair : h'.get? h.objs.size = some { cls := .type "tuple", data := .seq #[x, y] })
    (sz : h'.objs.size = h.objs.size + 1) (far : ∀ b o, b ∉ a.wr → h.get? b = some o → h'.get? b = some o) : ZLoop h₁ a S lo xs ys (i + 1) (as ++ [h.objs.size]) (h'.update S (Obj.mapSeq fun l => l.push (.ref h.objs.size))) := by
  have ⟨c, at_⟩ := zl.list
  have low : S < h.objs.size := Heap.lt_size at_
  have but : ∀ b o, b ≠ S → h'.get? b = some o → (h'.update S (Obj.mapSeq fun l => l.push (.ref h.objs.size))).get? b = some o := fun b o nb e => (Heap.get?_update_other _ _ nb.symm).trans e
  have high : ∀ b, lo < b → b ∉ S :: a.wr := fun b lb m => Nat.not_lt.mpr (hlo b m) lb
  have keep : ∀ b o, b ∉ S :: a.wr → h.get? b = some o → (h'.update S (Obj.mapSeq fun l => l.push (.ref h.objs.size))).get? b = some o := fun b o nb e => but b o (fun z => nb (z ▸ List.mem_cons_self)) (far b o (fun z => nb (List.mem_cons_of_mem _ z)) e)
  have put := Heap.get?_update_self (Obj.mapSeq fun l => l.push (Value.ref h.objs.size)) (far S _ F.not_wr at_) rfl
  refine ⟨st.grown F but, fun b o nb e => keep b o nb (zl.old b o nb e), ⟨_, put.trans (by simp [Obj.mapSeq]; rfl)⟩, by rw [List.length_append, zl.len]; rfl, ?_, ?_⟩
  · have tops : ∀ b ∈ as, b < h.objs.size := fun b m => have ⟨j, e⟩ := List.mem_iff_getElem?.mp m; have ⟨_, _, _, _, e'⟩ := zl.pairs.pairs j b e; Heap.lt_size e'
    exact (zl.pairs.grown fun b o lb => keep b o (high b lb)).more tops zl.room (zl.len ▸ e1) (zl.len ▸ e2) (but _ _ (Nat.ne_of_gt low) pair)
  · rw [Heap.size_update, sz]
    exact Nat.lt_succ_of_lt zl.room
/-- list.extend's loop -/
theorem zip_fill {R : Result → Shared → Prop} {res : Value} {g : Array GenState} {d : Drawn} {tk : Nat} {os : OsState} (hh : A.handled = none) (F : ZFar a S) (hlo : ∀ b ∈ S :: a.wr, b ≤ lo) (room : min xs.size ys.size ≤ sizeLine)
    (fin : ∀ h' as, (∀ b o, b ∉ S :: a.wr → h₁.get? b = some o → h'.get? b = some o) → RefsAt h' S as → as.length = min xs.size ys.size → ZPairs xs ys lo h' as → R (.ok (.ret res)) ⟨h', g, d, tk, os⟩) (i : Nat) (as : List Addr) (h : Heap) (le : i ≤ min xs.size ys.size) (zl : ZLoop h₁ a S lo xs ys i as h) :
    codeAny (model prog w) A (.builtin "list.extend.loop" ⟨[.ref S, .ref a.z, res], []⟩) R ⟨h, g, d, tk, os⟩ := by
  have ⟨c, at_⟩ := zl.list
  refine codeAny_builtin (b := Builtin.«list.extend.loop») PySem.F.entry_extend_loop ?_
  rw [Around.under_plainId PySem.F.plain_extend_loop]
  by_cases on : i < min xs.size ys.size
  · refine wpAny_bind (zl.at_.next F (Heap.lt_size at_) on fun h' x y st e1 e2 pair sz far => wpAny_bind (?_ : wpAny _ _ (updateSeq S _) _ _ _))
    have len : (as.map Value.ref).toArray.size = i := by simpa using zl.len
    exact wpAny_updateSeq (far S _ F.not_wr at_) rfl (wpAny_pure ⟨plainId_quiet PySem.F.plain_extend_loop _, zip_fill hh F hlo room fin (i + 1) _ _ on (zl.step F hlo st e1 e2 pair sz far)⟩) (by omega) (by rw [Array.size_push]; omega)
  · refine wpAny_bind (zl.at_.stops (A := A.in1) hh F (Nat.le_of_not_lt on) fun h' far => wpAny_pure (fin h' as (fun b o nb e => far b o (fun z => nb (List.mem_cons_of_mem _ z)) (zl.old b o nb e)) ⟨c, far S _ F.not_wr at_⟩ (by rw [zl.len]; omega) (zl.pairs.grown fun b o lb => far b o fun m => ?_)))
    exact Nat.not_lt.mpr (hlo b (List.mem_cons_of_mem _ m)) lb
termination_by min xs.size ys.size - i
end
end EX
namespace EX
open PySem PySem.Spec PyProof.Rows L2
theorem zip_no_len : typeLookup (.type "zip") "__len__" = pure none := am_miss_of_fast (by decide +kernel)
theorem zip_no_hint : typeLookup (.type "zip") "__length_hint__" = pure none := am_miss_of_fast (by decide +kernel)
section
variable {prog : Program} {w : World} {A : Around} {s : Shared} {E : Value → Shared → Prop} {a : ZA} {S : Addr} {xs ys : Array Value}
/-- a list's items changed: the object stands, the rest stays -/
theorem items_set {M : Model} {f : Array Value → Array Value} {items : Array Value} {c : Nat} {Q : Unit → Shared → Prop} (at_ : s.heap.get? S = some { cls := .type "list", data := .seq items c }) (short : items.size ≤ 1) (short' : (f items).size ≤ 1)
    (k : ∀ h' c', h'.get? S = some { cls := .type "list", data := .seq (f items) c' } → (∀ b o, b ≠ S → s.heap.get? b = some o → h'.get? b = some o) → h'.objs.size = s.heap.objs.size → Q () { s with heap := h' }) : wpAny M A (updateSeq S f) Q E s :=
  have line : 1 ≤ sizeLine := by rw [sizeLine_eq]; decide
  wpAny_updateSeq at_ rfl (k _ _ (Heap.get?_update_self _ at_ rfl) (fun b o nb e => (Heap.get?_update_other _ _ nb.symm).trans e) (Heap.size_update ..)) (Nat.le_trans short line) (Nat.le_trans short' (Nat.le_succ_of_le line))
theorem zip_hint (is : s.TypeIs (.ref a.z) "zip") {Q : Bool → Shared → Prop} (q : Q true s) : wpAny (model prog w) A (Builtin.List.listLengthHint (.ref a.z)) Q E s := by
  refine wpAny_bind (wpAny_specialOf is zip_no_len (wp_if_neg (by decide) (wp_if_neg (by decide) ?_)))
  exact wpAny_bind (wpAny_specialOf is zip_no_hint (wpAny_pure q))
/-- what stands when the list at S is still empty -/
structure Before (h₁ : Heap) (a : ZA) (S : Addr) (xs ys : Array Value) (h : Heap) : Prop where
  at_ : ZAt h a S xs ys 0
  own : IsZip h a.z a.ti a.to .none
  empty : ∃ c, h.get? S = some { cls := .type "list", data := .seq #[] c }
  old : ∀ b o, b ≠ S → h₁.get? b = some o → h.get? b = some o
  room : S < h.objs.size
theorem Before.grown {h₁ h h' : Heap} {c : Nat} (b : Before h₁ a S xs ys h) (F : ZFar a S) (e : h'.get? S = some { cls := .type "list", data := .seq #[] c }) (k : ∀ b o, b ≠ S → h.get? b = some o → h'.get? b = some o) (sz : h'.objs.size = h.objs.size) : Before h₁ a S xs ys h' :=
  ⟨b.at_.grown F k, k _ _ (fun z => F.out (z ▸ List.mem_cons_self)) b.own, ⟨c, e⟩, fun d o nd e => k d o nd (b.old d o nd e), sz ▸ b.room⟩
/-- list.extend of a zip -/
theorem zip_extend {h₁ : Heap} {R : Result → Shared → Prop} {res : Value} (hh : A.handled = none) (F : ZFar a S) (bf : Before h₁ a S xs ys s.heap) (under : ∀ b ∈ S :: a.wr, b ≤ S) (fits : min xs.size ys.size ≤ sizeLine)
    (k : ∀ h' as, (∀ b o, b ∉ S :: a.wr → h₁.get? b = some o → h'.get? b = some o) → RefsAt h' S as → as.length = min xs.size ys.size → ZPairs xs ys S h' as → R (.ok (.ret res)) { s with heap := h' }) :
    wpAny (model prog w) A.in1 (Builtin.List.listExtendWith (.ref S) (.ref a.z) res) (fun r s' => match r with | .done f => R (.ok f) s' | .again c => c.quiet = true ∧ codeAny (model prog w) A c R s') (fun x s' => R (.error x) s') s := by
  have is : s.TypeIs (.ref a.z) "zip" := ⟨_, bf.own, rfl⟩
  have unlike : (Builtin.List.listSameRef (.ref S) (.ref a.z) || Value.type "zip" == Value.type "list" || Value.type "zip" == Value.type "tuple") = false := by
    have : S ≠ a.z := fun z => F.out (z ▸ List.mem_cons_self)
    simp [Builtin.List.listSameRef, this]
  refine wpAny_bind (wpAny_typeOf (T := "zip") is ?_)
  rw [unlike, if_neg (by decide)]
  refine wpAny_bind (wpAny_pyIter_zip bf.own (wpAny_bind (wpAny_holding (zip_hint is ?_))))
  have ⟨c, e0⟩ := bf.empty
  refine wp_if_pos (Bool.true_or _) (wpAny_bind (wpAny_rule (wpAny_bind (wpAny_bind (?_ : wpAny _ _ (updateSeq S (·.push .none)) _ _ _)))))
  refine items_set e0 (by decide) (by decide) fun g1 c1 e1 k1 z1 => (?_ : wpAny _ _ (updateSeq S (·.pop)) _ _ _)
  refine items_set e1 (by decide) (by decide) fun g2 c2 e2 k2 z2 => ?_
  have b2 := bf.grown F e2 (fun b o nb e => k2 b o nb (k1 b o nb e)) (z2.trans z1)
  exact wpAny_pure ⟨plainId_quiet PySem.F.plain_extend_loop _, zip_fill (lo := S) (h₁ := h₁) hh F under fits k 0 [] g2 (Nat.zero_le _) ⟨b2.at_, fun b o nb e => b2.old b o (fun z => nb (z ▸ List.mem_cons_self)) e, b2.empty, rfl, ⟨.nil, nofun, nofun⟩, b2.room⟩⟩
/-- list(z), z a new zip -/
theorem zip_list {Q : Value → Shared → Prop} (hh : A.handled = none) (F : ZFar a s.heap.objs.size) (st : ZAt s.heap a s.heap.objs.size xs ys 0) (own : IsZip s.heap a.z a.ti a.to .none) (under : ∀ b ∈ s.heap.objs.size :: a.wr, b ≤ s.heap.objs.size) (fits : min xs.size ys.size ≤ sizeLine)
    (k : ∀ h' as, (∀ b o, b ∉ a.wr → s.heap.get? b = some o → h'.get? b = some o) → RefsAt h' s.heap.objs.size as → as.length = min xs.size ys.size → ZPairs xs ys s.heap.objs.size h' as → Q (.ref s.heap.objs.size) { s with heap := h' }) :
    wpAny (model prog w) A (call (.type "list") [Value.ref a.z]) Q E s := by
  refine callType_codes (Q₁ := fun v s₁ => v = .ref s.heap.objs.size ∧ s₁ = { s with heap := s.heap.push { cls := .type "list", data := .seq #[] } }) PySem.F.called_list (PySem.F.typeCall_list_1 _) PySem.F.entry_list_init (code_list_new _ ⟨rfl, rfl⟩) ?_
  rintro _ _ ⟨rfl, rfl⟩
  have new : (s.heap.push { cls := .type "list", data := .seq #[] }).get? s.heap.objs.size = some { cls := .type "list", data := .seq #[] } := Heap.get?_push_size _ rfl
  have up : ∀ b o, b ≠ s.heap.objs.size → s.heap.get? b = some o → (s.heap.push { cls := .type "list", data := .seq #[] }).get? b = some o := fun b o _ e => Heap.get?_push_of_some _ e
  have b0 : Before s.heap a s.heap.objs.size xs ys (s.heap.push { cls := .type "list", data := .seq #[] }) := ⟨st.grown F up, up _ _ (fun z => F.out (z ▸ List.mem_cons_self)) own, ⟨_, new⟩, up, by rw [Heap.size_push]; exact Nat.lt_succ_self _⟩
  refine ⟨⟨_, new, rfl⟩, PySem.F.args_list_init_2 .., ?_⟩
  refine wpAny_bind (wpAny_bind (wpAny_seqItems new rfl (wpAny_pure ?_)))
  refine wpAny_bind (m := updateSeq s.heap.objs.size fun _ => #[]) (items_set new (by decide) (by decide) fun g1 c1 e1 k1 z1 => wpAny_bind (m := letGo []) (wpAny_letGo ?_))
  refine zip_extend (A := A.in1) (h₁ := s.heap) hh F (b0.grown F e1 k1 z1) under fits fun h' as old list len pairs => ⟨rfl, k h' as (fun b o nb e => old b o (fun m => ?_) e) list len pairs⟩
  rcases List.mem_cons.mp m with z | m
  · exact Nat.lt_irrefl _ (z ▸ Heap.lt_size e)
  · exact nb m
end
/-! new things, all at once -/
/-- H, and these tracked -/
def track (l : List (Addr × HO)) (H : Hp) : Hp := l.foldr (fun p G => upd G p.1 p.2) H
theorem track_off {b : Addr} {H : Hp} : ∀ {l : List (Addr × HO)}, b ∉ l.map Prod.fst → track l H b = H b
  | [], _ => rfl
  | _ :: _, out => (upd_ne fun z => out (List.mem_cons.mpr (.inl z))).trans (track_off fun m => out (List.mem_cons_of_mem _ m))
theorem track_on {H : Hp} {q : Addr × HO} : ∀ {l : List (Addr × HO)}, (l.map Prod.fst).Nodup → q ∈ l → track l H q.1 = some q.2
  | p :: l, nd, m => by
    have ⟨apart, nd'⟩ := List.nodup_cons.mp nd
    by_cases z : q = p
    · exact z ▸ upd_same
    · have m' := (List.mem_cons.mp m).resolve_left z
      exact (upd_ne fun z => apart (by rw [← z]; exact List.mem_map_of_mem m')).trans (track_on nd' m')
section
variable {X : Cx} {pins : List (Addr × Obj)} {σ : L2.St} {H : Hp} {s : Shared} {h' : Heap} {l : List (Addr × HO)}
theorem track_same (I : Inv X pins σ H s) (new : ∀ p ∈ l, s.heap.objs.size ≤ p.1) : Same H (track l H) := fun b u e => by
  refine (track_off fun m => ?_).trans e
  have ⟨p, hp, z⟩ := List.mem_map.mp m
  have none := I.hok.fresh (z ▸ new p hp)
  rw [e] at none
  cases none
theorem tracked (I : Inv X pins σ H s) (keep : ∀ b u, s.heap.get? b = some u → h'.get? b = some u) (new : ∀ p ∈ l, s.heap.objs.size ≤ p.1) (ok : ∀ p ∈ l, ObjOk X.prog X.w (track l H) h' p.1 p.2) (nd : (l.map Prod.fst).Nodup) : Inv X pins σ (track l H) { s with heap := h', toks := s.toks } := by
  have same := track_same I new
  refine I.un (t' := s.toks) ⟨fun b o e _ _ _ => keep b o e, fun b o e _ _ _ => ⟨o.slots, keep b o e⟩, fun b o e n _ => ?_, fun b o e _ => ⟨o, keep b o e⟩, fun b ts e => same b _ e, fun b o u e => same b _ e, fun b ps e => ⟨#[], (same b _ e).trans (by rw [Array.append_empty])⟩⟩ fun b u e => ?_
  · refine (track_off fun m => ?_).trans n
    have ⟨p, hp, z⟩ := List.mem_map.mp m
    exact Nat.not_lt.mpr (z ▸ new p hp) (Heap.lt_size e)
  · by_cases m : b ∈ l.map Prod.fst
    · have ⟨p, hp, z⟩ := List.mem_map.mp m
      subst z
      rw [track_on nd hp] at e
      cases e
      exact ok p hp
    · exact (I.hok b u ((track_off m).symm.trans e)).stay (fun d v _ y => keep d v y) (fun d y => same d _ y) fun d _ y => same d _ y
end
theorem refs_vals : ∀ as : List Addr, Vals (as.map V.ref) (as.map Value.ref)
  | [] => .nil
  | _ :: as => .cons rfl (refs_vals as)
theorem refs_two {a b : Addr} : ∀ {us : List Value}, Vals [V.ref a, V.ref b] us → us = [.ref a, .ref b]
  | [_, _], .cons r1 (.cons r2 .nil) => by
    cases r1
    cases r2
    rfl
/-- list(zip(e1, e2)): a new list of new pairs -/
def tListZip (K : PySem.W.Frag) (ta : TA) : TE := fun σ H Q => ta σ H fun vs H1 => ∃ a b xs ys, vs = [.ref a, .ref b] ∧ SqL K H1 a xs ∧ SqL K H1 b ys ∧
  ∀ (H' : Hp) (p : Addr) (ks : List (Addr × List V)), Same H1 H' → H1 p = none → H' p = some (.lst (ks.map fun q => V.ref q.1)) → (∀ q ∈ ks, H' q.1 = some (.tup q.2)) → ks.map (·.2) = (xs.zip ys).map (fun q => [q.1, q.2]) → Q (.ref p) H'
section
variable {X : Cx} {e e2 : Expr} {ta : TA} {p p2 q pos : Pos} {pins : List (Addr × Obj)} {σ : L2.St} {H : Hp} {s : Shared} {h' : Heap}
/-- the new list and its pairs, tracked -/
theorem pairs_tracked {S : Addr} {as : List Addr} {its its2 : List Value} {xs ys : List V} (I : Inv X pins σ H s) (keep : ∀ b u, s.heap.get? b = some u → h'.get? b = some u) (high : s.heap.objs.size ≤ S) (list : RefsAt h' S as) (len : as.length = min its.length its2.length) (fits : as.length ≤ sizeLine)
    (zp : ZPairs its.toArray its2.toArray S h' as) (r1 : Vals xs its) (r2 : Vals ys its2) :
    ∃ (H' : Hp) (ks : List (Addr × List V)), Inv X pins σ H' { s with heap := h', toks := s.toks } ∧ Same H H' ∧ H S = none ∧ H' S = some (.lst (ks.map fun q => V.ref q.1)) ∧ (∀ q ∈ ks, H' q.1 = some (.tup q.2)) ∧ ks.map (·.2) = (xs.zip ys).map fun q => [q.1, q.2] := by
  have n1 := r1.length
  have n2 := r2.length
  have even : as.length = ((xs.zip ys).map fun q => [q.1, q.2]).length := by rw [List.length_map, List.length_zip, len, n1, n2]
  generalize ek : as.zip ((xs.zip ys).map fun q => [q.1, q.2]) = ks
  have k1 : ks.map (·.1) = as := by rw [← ek, List.map_fst_zip (Nat.le_of_eq even)]
  have k2 : ks.map (·.2) = (xs.zip ys).map fun q => [q.1, q.2] := by rw [← ek, List.map_snd_zip (Nat.le_of_eq even.symm)]
  have refs : ks.map (fun q => V.ref q.1) = as.map V.ref := by rw [← k1, List.map_map]; rfl
  let l : List (Addr × HO) := (S, .lst (as.map V.ref)) :: ks.map fun q => (q.1, .tup q.2)
  have firsts : l.map Prod.fst = S :: as := by
    show S :: (ks.map fun q => (q.1, HO.tup q.2)).map Prod.fst = _
    rw [List.map_map]
    exact congrArg (S :: ·) k1
  have nd : (l.map Prod.fst).Nodup := by
    rw [firsts]
    exact List.nodup_cons.mpr ⟨fun m => Nat.lt_irrefl _ (zp.above S m), zp.rise.imp Nat.ne_of_lt⟩
  have new : ∀ p ∈ l, s.heap.objs.size ≤ p.1 := fun p hp => by
    have : p.1 ∈ S :: as := firsts ▸ List.mem_map_of_mem hp
    rcases List.mem_cons.mp this with z | m
    · exact z ▸ high
    · exact Nat.le_trans high (Nat.le_of_lt (zp.above _ m))
  have ok : ∀ p ∈ l, ObjOk X.prog X.w (track l H) h' p.1 p.2 := fun p hp => by
    rcases List.mem_cons.mp hp with z | m
    · subst z
      have ⟨c, at_⟩ := list
      exact ⟨by rw [List.length_map]; exact fits, _, c, refs_vals as, at_⟩
    · obtain ⟨⟨b, ps⟩, hk, z⟩ := List.mem_map.mp m
      subst z
      obtain ⟨j, at_⟩ := List.mem_iff_getElem?.mp (ek.symm ▸ hk)
      have ⟨g1, g2⟩ := List.getElem?_zip_eq_some.mp at_
      rw [List.getElem?_map] at g2
      obtain ⟨⟨u, v⟩, g3, g4⟩ := Option.map_eq_some_iff.mp g2
      have ⟨gu, gv⟩ := List.getElem?_zip_eq_some.mp g3
      obtain ⟨x, y, f1, f2, f3⟩ := zp.pairs j b g1
      obtain ⟨x', gx, rx⟩ := r1.get gu
      obtain ⟨y', gy, ry⟩ := r2.get gv
      rw [List.getElem?_toArray] at f1 f2
      cases gx.symm.trans f1
      cases gy.symm.trans f2
      subst g4
      exact ⟨by show 2 ≤ sizeLine; decide, [_, _], .cons rx (.cons ry .nil), ⟨_, f3, rfl, _, rfl⟩⟩
  refine ⟨track l H, ks, tracked I keep new ok nd, track_same I new, I.hok.fresh high, ?_, fun q hq => ?_, k2⟩
  · rw [refs]
    exact track_on (q := (S, .lst (as.map V.ref))) nd List.mem_cons_self
  · exact track_on (q := (q.1, .tup q.2)) nd (List.mem_cons_of_mem _ (List.mem_map_of_mem hq))
theorem pe_listZip (hc : X.calm = true) (hg : Gl X "list") (hm : X.mg "list" = none) (hg2 : Gl X "zip") (hm2 : X.mg "zip" = none) (ha : PA X [e, e2] ta)
    (hs : starEach [.Call (.Name "zip" p2) [e, e2] [] q] X.env = (false, eval (.Call (.Name "zip" p2) [e, e2] [] q) X.env) :: starEach [] X.env := by rfl)
    (hs2 : starEach [e, e2] X.env = (false, eval e X.env) :: starEach [e2] X.env := by rfl) (hpl : (backTo q (starEach [e2] X.env)).any (·.1) = false := by rfl) :
    PE X (.Call (.Name "list" p) [.Call (.Name "zip" p2) [e, e2] [] q] [] pos) (tListZip X.K ta) := by
  refine ⟨fun pins s σ H Q I h => wpAny_Call_Name_kw (ld_blt I hg hm (u := .type "list") (by decide +kernel) (callWith_type1 ?_ hs rfl))⟩
  rw [hs]
  refine Calls.spliced_cons (Call_ (ld_blt I hg2 hm2 boot_zip (callWith_type1 (thn (ha.run q pins s σ H _ I h) fun us s1 ⟨vs, H1, I1, r, a, b, xs, ys, args, srcx, srcy, k⟩ => ?_) hs2 hpl)))
  subst args
  obtain ⟨its, r1, pl1, fit1⟩ := I1.list srcx
  obtain ⟨its2, r2, pl2, fit2⟩ := I1.list srcy
  rw [refs_two r]
  refine call_zip_2 pl1.isList pl2.isList fun h' zz ti to i1 i2 sz up => Calls.spliced_nil ?_
  have n1 := r1.length
  have room : min its.toArray.size its2.toArray.size ≤ sizeLine := by rw [List.size_toArray, List.size_toArray]; omega
  have lo1 := pl1.lt
  have lo2 := pl2.lt
  have F : ZFar ⟨s1.heap.objs.size + 4, s1.heap.objs.size + 2, s1.heap.objs.size + 3, s1.heap.objs.size, s1.heap.objs.size + 1, a, b⟩ h'.objs.size := by
    refine ⟨PySem.W.ktu_apart _ a b lo1 lo2, fun m => ?_⟩
    rw [sz] at m
    simp only [List.mem_cons, List.not_mem_nil, or_false] at m
    rcases m with z | z | z | z | z | z | z
    all_goals exact absurd z (Nat.ne_of_gt (by first | exact Nat.lt_add_right 5 lo1 | exact Nat.lt_add_right 5 lo2 | exact Nat.lt_add_of_pos_right (by decide) | exact Nat.add_lt_add_left (by decide) _))
  have st : ZAt h' ⟨s1.heap.objs.size + 4, s1.heap.objs.size + 2, s1.heap.objs.size + 3, s1.heap.objs.size, s1.heap.objs.size + 1, a, b⟩ h'.objs.size its.toArray its2.toArray 0 :=
    ⟨ti, i1, i2, pl1.isList.at fun o => up a o, pl2.isList.at fun o => up b o, .own _ _ zz to⟩
  refine zip_list (s := { s1 with heap := h' }) (a := ⟨_, _, _, _, _, a, b⟩) (I1.ok.hd hc) F st zz (fun c m => ?_) room fun h'' as old list len pairs => ?_
  · simp only [ZA.wr, List.mem_cons, List.not_mem_nil, or_false] at m
    show c ≤ h'.objs.size
    rw [sz] at m ⊢
    rcases m with z | z | z | z | z
    all_goals (rw [z]; first | exact Nat.le_refl _ | exact Nat.add_le_add_left (by decide) _ | exact Nat.le_add_right _ _)
  · have keep : ∀ c o, s1.heap.get? c = some o → h''.get? c = some o := fun c o e => old c o (fun m => by
      have lt := Heap.lt_size e
      simp only [ZA.wr, List.mem_cons, List.not_mem_nil, or_false] at m
      rcases m with z | z | z | z
      all_goals exact absurd lt (Nat.not_lt.mpr (by rw [z]; first | exact Nat.le_refl _ | exact Nat.le_add_right _ _))) (up c o e)
    have ⟨H', ks, J, same, new, top, each, what⟩ := pairs_tracked I1 keep (by rw [sz]; exact Nat.le_add_right _ _) list (by simpa using len) (by rw [len]; exact room) pairs r1 r2
    exact ⟨.ref h'.objs.size, H', J, rfl, k H' _ ks same new top each what⟩
end
end EX
namespace EX
open PySem PySem.Spec PyProof.Rows L2
def top (i : Nat) : Stmt := PySem.Challenge.pw_errataoffice_s01_answers.main.body.getD i (.Pass ⟨0, 0, 0, 0⟩)
/-! what stands where: a def of the module, a method, an __init__, an exception's __init__ -/
def Df (K : PySem.W.Frag) (mg : Str → Option Value) (x : Str) (st : Stmt) : Prop := ∃ f fd, mg x = some (.ref f) ∧ Fun K x x st f fd
def Dm (K : PySem.W.Frag) (C : Addr) (m q : Str) (st : Stmt) : Prop := ∃ f fd, Meth K C m f ∧ Fun K m q st f fd
def Di (K : PySem.W.Frag) (C : Addr) (q : Str) (st : Stmt) : Prop := ∃ f fd, Mk K C f ∧ Fun K "__init__" q st f fd
def Dx (K : PySem.W.Frag) (C : Addr) (q : Str) (st : Stmt) : Prop := ∃ f fd, OexC K C ∧ PySem.W.findIn K (.ref C) "__init__" = some (some (.ref f)) ∧ PySem.W.typeIn K (.ref f) = some (.type "function") ∧ Fun K "__init__" q st f fd
/-! what each keeps -/
section
variable (P : Program) (w : World) (K : PySem.W.Frag) (mg : Str → Option Value) (base : Heap) (CX : CXT) (k : Nat) (C : Addr) (x : Str) (ps : List Str) (sp : Sp)
def OkF : Prop := ∃ f fd, mg x = some (.ref f) ∧ PySem.W.keepIn K (.ref f) = true ∧ FnOk P w K mg base CX k f fd ps sp ∧ Binds K fd ps []
def OkM : Prop := ∃ f fd, Meth K C x f ∧ FnOk P w K mg base CX k f fd ps sp ∧ Binds K fd ps []
def OkI : Prop := ∃ f fd, Mk K C f ∧ FnOk P w K mg base CX k f fd ps sp ∧ Binds K fd ps []
def OkX : Prop := ∃ f fd, OexC K C ∧ PySem.W.findIn K (.ref C) "__init__" = some (some (.ref f)) ∧ PySem.W.typeIn K (.ref f) = some (.type "function") ∧ FnOk P w K mg base CX k f fd ps sp ∧ Binds K fd ps []
end
abbrev s_is_number : Stmt := top 3
theorem sc_is_number : FnScope ["number"] ["number"] (defScope s_is_number) := ⟨rfl, rfl, rfl, by decide +kernel, rfl, by decide +kernel, by decide +kernel⟩
abbrev s_errata_of : Stmt := top 4
theorem sc_errata_of : FnScope ["row", "at"] ["row"] (defScope s_errata_of) := ⟨rfl, rfl, rfl, by decide +kernel, rfl, by decide +kernel, by decide +kernel⟩
abbrev s_is_sheet : Stmt := top 5
theorem sc_is_sheet : FnScope ["row", "places", "before", "place", "old", "new"] ["row", "places"] (defScope s_is_sheet) := ⟨rfl, rfl, rfl, by decide +kernel, rfl, by decide +kernel, by decide +kernel⟩
abbrev s_first_wrong : Stmt := top 6
theorem sc_first_wrong : FnScope ["sheet", "numbers", "which", "erratum"] ["sheet", "numbers"] (defScope s_first_wrong) := ⟨rfl, rfl, rfl, by decide +kernel, rfl, by decide +kernel, by decide +kernel⟩
abbrev s_done : Stmt := top 7
theorem sc_done : FnScope ["sheet", "numbers", "found", "place", "old", "new"] ["sheet", "numbers"] (defScope s_done) := ⟨rfl, rfl, rfl, by decide +kernel, rfl, by decide +kernel, by decide +kernel⟩
abbrev s_between : Stmt := top 8
theorem sc_between : FnScope ["some", "others", "pairs", "place", "old", "new"] ["some", "others"] (defScope s_between) := ⟨rfl, rfl, rfl, by decide +kernel, rfl, by decide +kernel, by decide +kernel⟩
abbrev s_by_places : Stmt := top 9
theorem sc_by_places : FnScope ["sheet", "found", "place", "old", "new"] ["sheet"] (defScope s_by_places) := ⟨rfl, rfl, rfl, by decide +kernel, rfl, by decide +kernel, by decide +kernel⟩
abbrev s_all_places : Stmt := top 10
theorem sc_all_places : FnScope ["one", "other", "erratum"] ["one", "other"] (defScope s_all_places) := ⟨rfl, rfl, rfl, by decide +kernel, rfl, by decide +kernel, by decide +kernel⟩
abbrev s_do_go_together : Stmt := top 11
theorem sc_do_go_together : FnScope ["first", "second", "ahead", "place", "old", "new"] ["first", "second"] (defScope s_do_go_together) := ⟨rfl, rfl, rfl, by decide +kernel, rfl, by decide +kernel, by decide +kernel⟩
abbrev s_behind : Stmt := top 12
theorem sc_behind : FnScope ["first", "second", "one", "other", "found", "place", "old", "new"] ["first", "second"] (defScope s_behind) := ⟨rfl, rfl, rfl, by decide +kernel, rfl, by decide +kernel, by decide +kernel⟩
abbrev s_clashes : Stmt := top 13
theorem sc_clashes : FnScope ["first", "second", "one", "other", "places", "place"] ["first", "second"] (defScope s_clashes) := ⟨rfl, rfl, rfl, by decide +kernel, rfl, by decide +kernel, by decide +kernel⟩
abbrev s_joined : Stmt := top 14
theorem sc_joined : FnScope ["first", "second"] ["first", "second"] (defScope s_joined) := ⟨rfl, rfl, rfl, by decide +kernel, rfl, by decide +kernel, by decide +kernel⟩
abbrev s_have_unlike_olds : Stmt := top 15
theorem sc_have_unlike_olds : FnScope ["first", "second", "one", "place", "old", "new"] ["first", "second"] (defScope s_have_unlike_olds) := ⟨rfl, rfl, rfl, by decide +kernel, rfl, by decide +kernel, by decide +kernel⟩
abbrev s_left : Stmt := top 16
theorem sc_left : FnScope ["first", "second", "one", "found", "place", "old", "new", "here"] ["first", "second"] (defScope s_left) := ⟨rfl, rfl, rfl, by decide +kernel, rfl, by decide +kernel, by decide +kernel⟩
abbrev s_turned : Stmt := top 17
theorem sc_turned : FnScope ["sheet", "place", "old", "new"] ["sheet"] (defScope s_turned) := ⟨rfl, rfl, rfl, by decide +kernel, rfl, by decide +kernel, by decide +kernel⟩
abbrev s_told : Stmt := top 18
theorem sc_told : FnScope ["sheet", "found", "erratum"] ["sheet"] (defScope s_told) := ⟨rfl, rfl, rfl, by decide +kernel, rfl, by decide +kernel, by decide +kernel⟩
abbrev s_Edition_init : Stmt := inClass (top 22) 0
theorem sc_Edition_init : FnScope ["self", "numbers"] ["self", "numbers"] (defScope s_Edition_init) := ⟨rfl, rfl, rfl, by decide +kernel, rfl, by decide +kernel, by decide +kernel⟩
abbrev s_Edition_with_sheets : Stmt := inClass (top 22) 1
theorem sc_Edition_with_sheets : FnScope ["self", "many", "found", "sheet"] ["self", "many"] (defScope s_Edition_with_sheets) := ⟨rfl, rfl, rfl, by decide +kernel, rfl, by decide +kernel, by decide +kernel⟩
abbrev s_Edition_whole : Stmt := inClass (top 22) 2
theorem sc_Edition_whole : FnScope ["self"] ["self"] (defScope s_Edition_whole) := ⟨rfl, rfl, rfl, by decide +kernel, rfl, by decide +kernel, by decide +kernel⟩
abbrev s_Copy_init : Stmt := inClass (top 23) 0
theorem sc_Copy_init : FnScope ["self", "edition", "numbers"] ["self", "edition", "numbers"] (defScope s_Copy_init) := ⟨rfl, rfl, rfl, by decide +kernel, rfl, by decide +kernel, by decide +kernel⟩
abbrev s_Book_init : Stmt := inClass (top 24) 0
theorem sc_Book_init : FnScope ["self", "pages", "lines", "numbers"] ["self", "pages", "lines", "numbers"] (defScope s_Book_init) := ⟨rfl, rfl, rfl, by decide +kernel, rfl, by decide +kernel, by decide +kernel⟩
abbrev s_Book_is_there : Stmt := inClass (top 24) 1
theorem sc_Book_is_there : FnScope ["self"] ["self"] (defScope s_Book_is_there) := ⟨rfl, rfl, rfl, by decide +kernel, rfl, by decide +kernel, by decide +kernel⟩
abbrev s_Book_places : Stmt := inClass (top 24) 2
theorem sc_Book_places : FnScope ["self"] ["self"] (defScope s_Book_places) := ⟨rfl, rfl, rfl, by decide +kernel, rfl, by decide +kernel, by decide +kernel⟩
abbrev s_Book_newest : Stmt := inClass (top 24) 3
theorem sc_Book_newest : FnScope ["self"] ["self"] (defScope s_Book_newest) := ⟨rfl, rfl, rfl, by decide +kernel, rfl, by decide +kernel, by decide +kernel⟩
abbrev s_Book_mending : Stmt := inClass (top 24) 4
theorem sc_Book_mending : FnScope ["self", "copy"] ["self", "copy"] (defScope s_Book_mending) := ⟨rfl, rfl, rfl, by decide +kernel, rfl, by decide +kernel, by decide +kernel⟩
abbrev s_Book_next_faults : Stmt := inClass (top 24) 5
theorem sc_Book_next_faults : FnScope ["self", "edition", "number", "sheet", "newest", "which"] ["self", "edition", "number", "sheet"] (defScope s_Book_next_faults) := ⟨rfl, rfl, rfl, by decide +kernel, rfl, by decide +kernel, by decide +kernel⟩
abbrev s_Book_states : Stmt := inClass (top 24) 6
theorem sc_Book_states : FnScope ["self", "found", "number", "edition", "many"] ["self"] (defScope s_Book_states) := ⟨rfl, rfl, rfl, by decide +kernel, rfl, by decide +kernel, by decide +kernel⟩
abbrev s_Book_since : Stmt := inClass (top 24) 7
theorem sc_Book_since : FnScope ["self", "place", "states", "last", "at"] ["self", "place"] (defScope s_Book_since) := ⟨rfl, rfl, rfl, by decide +kernel, rfl, by decide +kernel, by decide +kernel⟩
abbrev s_Book_spoiling : Stmt := inClass (top 24) 8
theorem sc_Book_spoiling : FnScope ["self", "numbers", "found", "number", "edition", "sheet_number", "sheet", "which", "erratum"] ["self", "numbers"] (defScope s_Book_spoiling) := ⟨rfl, rfl, rfl, by decide +kernel, rfl, by decide +kernel, by decide +kernel⟩
abbrev s_Book_often : Stmt := inClass (top 24) 9
theorem sc_Book_often : FnScope ["self", "counts", "edition", "sheet", "erratum", "place"] ["self"] (defScope s_Book_often) := ⟨rfl, rfl, rfl, by decide +kernel, rfl, by decide +kernel, by decide +kernel⟩
abbrev s_Fault_init : Stmt := inClass (top 33) 0
theorem sc_Fault_init : FnScope ["self", "place"] ["self", "place"] (defScope s_Fault_init) := ⟨rfl, rfl, rfl, by decide +kernel, rfl, by decide +kernel, by decide +kernel⟩
abbrev s_sign_of : Stmt := top 34
theorem sc_sign_of : FnScope ["byte"] ["byte"] (defScope s_sign_of) := ⟨rfl, rfl, rfl, by decide +kernel, rfl, by decide +kernel, by decide +kernel⟩
abbrev s_Word_init : Stmt := inClass (top 35) 0
theorem sc_Word_init : FnScope ["self", "signs", "place", "is_line_end"] ["self", "signs", "place", "is_line_end"] (defScope s_Word_init) := ⟨rfl, rfl, rfl, by decide +kernel, rfl, by decide +kernel, by decide +kernel⟩
abbrev s_words_of : Stmt := top 36
theorem sc_words_of : FnScope ["data", "found", "place", "byte"] ["data"] (defScope s_words_of) := ⟨rfl, rfl, rfl, by decide +kernel, rfl, by decide +kernel, by decide +kernel⟩
abbrev s_is_plain : Stmt := top 37
theorem sc_is_plain : FnScope ["word", "sign"] ["word"] (defScope s_is_plain) := ⟨rfl, rfl, rfl, by decide +kernel, rfl, by decide +kernel, by decide +kernel⟩
abbrev s_Reader_init : Stmt := inClass (top 38) 0
theorem sc_Reader_init : FnScope ["self", "data", "pages", "lines"] ["self", "data", "pages", "lines"] (defScope s_Reader_init) := ⟨rfl, rfl, rfl, by decide +kernel, rfl, by decide +kernel, by decide +kernel⟩
abbrev s_Reader_need : Stmt := inClass (top 38) 1
theorem sc_Reader_need : FnScope ["self", "is_so"] ["self", "is_so"] (defScope s_Reader_need) := ⟨rfl, rfl, rfl, by decide +kernel, rfl, by decide +kernel, by decide +kernel⟩
abbrev s_Reader_coming : Stmt := inClass (top 38) 2
theorem sc_Reader_coming : FnScope ["self"] ["self"] (defScope s_Reader_coming) := ⟨rfl, rfl, rfl, by decide +kernel, rfl, by decide +kernel, by decide +kernel⟩
abbrev s_Reader_literal : Stmt := inClass (top 38) 3
theorem sc_Reader_literal : FnScope ["self", "signs"] ["self", "signs"] (defScope s_Reader_literal) := ⟨rfl, rfl, rfl, by decide +kernel, rfl, by decide +kernel, by decide +kernel⟩
abbrev s_Reader_read_number : Stmt := inClass (top 38) 4
theorem sc_Reader_read_number : FnScope ["self", "least", "end", "signs"] ["self", "least", "end"] (defScope s_Reader_read_number) := ⟨rfl, rfl, rfl, by decide +kernel, rfl, by decide +kernel, by decide +kernel⟩
abbrev s_Reader_whole : Stmt := inClass (top 38) 5
theorem sc_Reader_whole : FnScope ["self", "signs", "figures"] ["self"] (defScope s_Reader_whole) := ⟨rfl, rfl, rfl, by decide +kernel, rfl, by decide +kernel, by decide +kernel⟩
abbrev s_Reader_head : Stmt := inClass (top 38) 6
theorem sc_Reader_head : FnScope ["self", "edition"] ["self"] (defScope s_Reader_head) := ⟨rfl, rfl, rfl, by decide +kernel, rfl, by decide +kernel, by decide +kernel⟩
abbrev s_Reader_erratum : Stmt := inClass (top 38) 7
theorem sc_Reader_erratum : FnScope ["self", "before", "page", "line", "old", "new"] ["self", "before"] (defScope s_Reader_erratum) := ⟨rfl, rfl, rfl, by decide +kernel, rfl, by decide +kernel, by decide +kernel⟩
abbrev s_Reader_read : Stmt := inClass (top 38) 8
theorem sc_Reader_read : FnScope ["self", "edition", "number", "sheet", "before"] ["self"] (defScope s_Reader_read) := ⟨rfl, rfl, rfl, by decide +kernel, rfl, by decide +kernel, by decide +kernel⟩
abbrev s_sheet_text : Stmt := top 39
theorem sc_sheet_text : FnScope ["edition", "number", "sheet", "lines", "found", "place", "old", "new", "where", "sign"] ["edition", "number", "sheet", "lines"] (defScope s_sheet_text) := ⟨rfl, rfl, rfl, by decide +kernel, rfl, by decide +kernel, by decide +kernel⟩
abbrev s_Refused_init : Stmt := inClass (top 58) 0
theorem sc_Refused_init : FnScope ["self", "number"] ["self", "number"] (defScope s_Refused_init) := ⟨rfl, rfl, rfl, by decide +kernel, rfl, by decide +kernel, by decide +kernel⟩
abbrev s_refuse_if : Stmt := top 59
theorem sc_refuse_if : FnScope ["is_so", "number"] ["is_so", "number"] (defScope s_refuse_if) := ⟨rfl, rfl, rfl, by decide +kernel, rfl, by decide +kernel, by decide +kernel⟩
abbrev s_in_range : Stmt := top 60
theorem sc_in_range : FnScope ["number", "least", "most"] ["number", "least", "most"] (defScope s_in_range) := ⟨rfl, rfl, rfl, by decide +kernel, rfl, by decide +kernel, by decide +kernel⟩
abbrev s_look_at_bytes : Stmt := top 61
theorem sc_look_at_bytes : FnScope ["data", "byte"] ["data"] (defScope s_look_at_bytes) := ⟨rfl, rfl, rfl, by decide +kernel, rfl, by decide +kernel, by decide +kernel⟩
abbrev s_flat : Stmt := top 62
theorem sc_flat : FnScope ["rows", "found", "row"] ["rows"] (defScope s_flat) := ⟨rfl, rfl, rfl, by decide +kernel, rfl, by decide +kernel, by decide +kernel⟩
abbrev s_no_book : Stmt := top 63
theorem sc_no_book : FnScope [] [] (defScope s_no_book) := ⟨rfl, rfl, rfl, by decide +kernel, rfl, by decide +kernel, by decide +kernel⟩
abbrev s_Office_init : Stmt := inClass (top 64) 0
theorem sc_Office_init : FnScope ["self"] ["self"] (defScope s_Office_init) := ⟨rfl, rfl, rfl, by decide +kernel, rfl, by decide +kernel, by decide +kernel⟩
abbrev s_Office_clear : Stmt := inClass (top 64) 1
theorem sc_Office_clear : FnScope ["self"] ["self"] (defScope s_Office_clear) := ⟨rfl, rfl, rfl, by decide +kernel, rfl, by decide +kernel, by decide +kernel⟩
abbrev s_Office_look_at_book : Stmt := inClass (top 64) 2
theorem sc_Office_look_at_book : FnScope ["self"] ["self"] (defScope s_Office_look_at_book) := ⟨rfl, rfl, rfl, by decide +kernel, rfl, by decide +kernel, by decide +kernel⟩
abbrev s_Office_look_at_numbers : Stmt := inClass (top 64) 3
theorem sc_Office_look_at_numbers : FnScope ["self", "row", "number"] ["self", "row"] (defScope s_Office_look_at_numbers) := ⟨rfl, rfl, rfl, by decide +kernel, rfl, by decide +kernel, by decide +kernel⟩
abbrev s_Office_sheet_of : Stmt := inClass (top 64) 4
theorem sc_Office_sheet_of : FnScope ["self", "row"] ["self", "row"] (defScope s_Office_sheet_of) := ⟨rfl, rfl, rfl, by decide +kernel, rfl, by decide +kernel, by decide +kernel⟩
abbrev s_Office_copy_of : Stmt := inClass (top 64) 5
theorem sc_Office_copy_of : FnScope ["self", "number"] ["self", "number"] (defScope s_Office_copy_of) := ⟨rfl, rfl, rfl, by decide +kernel, rfl, by decide +kernel, by decide +kernel⟩
abbrev s_Office_edition_of : Stmt := inClass (top 64) 6
theorem sc_Office_edition_of : FnScope ["self", "number"] ["self", "number"] (defScope s_Office_edition_of) := ⟨rfl, rfl, rfl, by decide +kernel, rfl, by decide +kernel, by decide +kernel⟩
abbrev s_Office_place_of : Stmt := inClass (top 64) 7
theorem sc_Office_place_of : FnScope ["self", "page", "line"] ["self", "page", "line"] (defScope s_Office_place_of) := ⟨rfl, rfl, rfl, by decide +kernel, rfl, by decide +kernel, by decide +kernel⟩
abbrev s_Office_new_book : Stmt := inClass (top 64) 8
theorem sc_Office_new_book : FnScope ["self", "pages", "lines", "row", "number"] ["self", "pages", "lines", "row"] (defScope s_Office_new_book) := ⟨rfl, rfl, rfl, by decide +kernel, rfl, by decide +kernel, by decide +kernel⟩
abbrev s_Office_read : Stmt := inClass (top 64) 9
theorem sc_Office_read : FnScope ["self", "data"] ["self", "data"] (defScope s_Office_read) := ⟨rfl, rfl, rfl, by decide +kernel, rfl, by decide +kernel, by decide +kernel⟩
abbrev s_Office_issue : Stmt := inClass (top 64) 10
theorem sc_Office_issue : FnScope ["self", "data", "edition", "number", "sheet", "faults"] ["self", "data"] (defScope s_Office_issue) := ⟨rfl, rfl, rfl, by decide +kernel, rfl, by decide +kernel, by decide +kernel⟩
abbrev s_Office_look : Stmt := inClass (top 64) 11
theorem sc_Office_look : FnScope ["self", "data", "edition", "number", "sheet", "e", "faults"] ["self", "data"] (defScope s_Office_look) := ⟨rfl, rfl, rfl, by decide +kernel, rfl, by decide +kernel, by decide +kernel⟩
abbrev s_Office_next_edition : Stmt := inClass (top 64) 12
theorem sc_Office_next_edition : FnScope ["self", "row", "sheet", "numbers", "which"] ["self", "row"] (defScope s_Office_next_edition) := ⟨rfl, rfl, rfl, by decide +kernel, rfl, by decide +kernel, by decide +kernel⟩
abbrev s_Office_buy : Stmt := inClass (top 64) 13
theorem sc_Office_buy : FnScope ["self", "number", "copies", "copy"] ["self", "number"] (defScope s_Office_buy) := ⟨rfl, rfl, rfl, by decide +kernel, rfl, by decide +kernel, by decide +kernel⟩
abbrev s_Office_pen : Stmt := inClass (top 64) 14
theorem sc_Office_pen : FnScope ["self", "number", "many", "copy", "sheets", "numbers", "place", "which"] ["self", "number", "many"] (defScope s_Office_pen) := ⟨rfl, rfl, rfl, by decide +kernel, rfl, by decide +kernel, by decide +kernel⟩
abbrev s_Office_scratch : Stmt := inClass (top 64) 15
theorem sc_Office_scratch : FnScope ["self", "some", "copy", "place", "before"] ["self", "some"] (defScope s_Office_scratch) := ⟨rfl, rfl, rfl, by decide +kernel, rfl, by decide +kernel, by decide +kernel⟩
abbrev s_Office_stands : Stmt := inClass (top 64) 16
theorem sc_Office_stands : FnScope ["self", "some", "edition", "place"] ["self", "some"] (defScope s_Office_stands) := ⟨rfl, rfl, rfl, by decide +kernel, rfl, by decide +kernel, by decide +kernel⟩
abbrev s_Office_told_copy : Stmt := inClass (top 64) 17
theorem sc_Office_told_copy : FnScope ["self", "number", "copy"] ["self", "number"] (defScope s_Office_told_copy) := ⟨rfl, rfl, rfl, by decide +kernel, rfl, by decide +kernel, by decide +kernel⟩
abbrev s_Office_diff : Stmt := inClass (top 64) 18
theorem sc_Office_diff : FnScope ["self", "one", "other", "first"] ["self", "one", "other"] (defScope s_Office_diff) := ⟨rfl, rfl, rfl, by decide +kernel, rfl, by decide +kernel, by decide +kernel⟩
abbrev s_Office_mend : Stmt := inClass (top 64) 19
theorem sc_Office_mend : FnScope ["self", "number"] ["self", "number"] (defScope s_Office_mend) := ⟨rfl, rfl, rfl, by decide +kernel, rfl, by decide +kernel, by decide +kernel⟩
abbrev s_Office_amend : Stmt := inClass (top 64) 20
theorem sc_Office_amend : FnScope ["self", "number", "row", "copy", "sheet", "which"] ["self", "number", "row"] (defScope s_Office_amend) := ⟨rfl, rfl, rfl, by decide +kernel, rfl, by decide +kernel, by decide +kernel⟩
abbrev s_Office_told_behind : Stmt := inClass (top 64) 21
theorem sc_Office_told_behind : FnScope ["self", "rows", "first", "second"] ["self", "rows"] (defScope s_Office_told_behind) := ⟨rfl, rfl, rfl, by decide +kernel, rfl, by decide +kernel, by decide +kernel⟩
abbrev s_Office_told_joined : Stmt := inClass (top 64) 22
theorem sc_Office_told_joined : FnScope ["self", "rows", "first", "second", "places"] ["self", "rows"] (defScope s_Office_told_joined) := ⟨rfl, rfl, rfl, by decide +kernel, rfl, by decide +kernel, by decide +kernel⟩
abbrev s_Office_told_left : Stmt := inClass (top 64) 23
theorem sc_Office_told_left : FnScope ["self", "rows", "first", "second"] ["self", "rows"] (defScope s_Office_told_left) := ⟨rfl, rfl, rfl, by decide +kernel, rfl, by decide +kernel, by decide +kernel⟩
abbrev s_Office_wrong : Stmt := inClass (top 64) 24
theorem sc_Office_wrong : FnScope ["self", "row"] ["self", "row"] (defScope s_Office_wrong) := ⟨rfl, rfl, rfl, by decide +kernel, rfl, by decide +kernel, by decide +kernel⟩
abbrev s_Office_spoiled : Stmt := inClass (top 64) 25
theorem sc_Office_spoiled : FnScope ["self", "row", "found"] ["self", "row"] (defScope s_Office_spoiled) := ⟨rfl, rfl, rfl, by decide +kernel, rfl, by decide +kernel, by decide +kernel⟩
abbrev s_Office_history : Stmt := inClass (top 64) 26
theorem sc_Office_history : FnScope ["self", "page", "line", "place", "states", "number", "many", "numbers"] ["self", "page", "line"] (defScope s_Office_history) := ⟨rfl, rfl, rfl, by decide +kernel, rfl, by decide +kernel, by decide +kernel⟩
abbrev s_Office_since : Stmt := inClass (top 64) 27
theorem sc_Office_since : FnScope ["self", "page", "line"] ["self", "page", "line"] (defScope s_Office_since) := ⟨rfl, rfl, rfl, by decide +kernel, rfl, by decide +kernel, by decide +kernel⟩
abbrev s_Office_often : Stmt := inClass (top 64) 28
theorem sc_Office_often : FnScope ["self", "found"] ["self"] (defScope s_Office_often) := ⟨rfl, rfl, rfl, by decide +kernel, rfl, by decide +kernel, by decide +kernel⟩
abbrev s_Office_told_sheet : Stmt := inClass (top 64) 29
theorem sc_Office_told_sheet : FnScope ["self", "edition", "number", "sheets"] ["self", "edition", "number"] (defScope s_Office_told_sheet) := ⟨rfl, rfl, rfl, by decide +kernel, rfl, by decide +kernel, by decide +kernel⟩
abbrev s_Office_current : Stmt := inClass (top 64) 30
theorem sc_Office_current : FnScope ["self", "number", "copy", "edition", "is_so"] ["self", "number"] (defScope s_Office_current) := ⟨rfl, rfl, rfl, by decide +kernel, rfl, by decide +kernel, by decide +kernel⟩
abbrev s_Office_told_all : Stmt := inClass (top 64) 31
theorem sc_Office_told_all : FnScope ["self", "book", "sheets", "edition"] ["self"] (defScope s_Office_told_all) := ⟨rfl, rfl, rfl, by decide +kernel, rfl, by decide +kernel, by decide +kernel⟩
abbrev s_of_book : Stmt := top 65
theorem sc_of_book : FnScope ["office", "deed", "some", "rows"] ["office", "deed", "some", "rows"] (defScope s_of_book) := ⟨rfl, rfl, rfl, by decide +kernel, rfl, by decide +kernel, by decide +kernel⟩
abbrev s_of_copies : Stmt := top 66
theorem sc_of_copies : FnScope ["office", "deed", "some", "rows"] ["office", "deed", "some", "rows"] (defScope s_of_copies) := ⟨rfl, rfl, rfl, by decide +kernel, rfl, by decide +kernel, by decide +kernel⟩
abbrev s_of_lists : Stmt := top 67
theorem sc_of_lists : FnScope ["office", "deed", "rows"] ["office", "deed", "rows"] (defScope s_of_lists) := ⟨rfl, rfl, rfl, by decide +kernel, rfl, by decide +kernel, by decide +kernel⟩
abbrev s_of_times : Stmt := top 68
theorem sc_of_times : FnScope ["office", "deed", "some"] ["office", "deed", "some"] (defScope s_of_times) := ⟨rfl, rfl, rfl, by decide +kernel, rfl, by decide +kernel, by decide +kernel⟩
abbrev s_answered : Stmt := top 69
theorem sc_answered : FnScope ["office", "deed", "some", "rows"] ["office", "deed", "some", "rows"] (defScope s_answered) := ⟨rfl, rfl, rfl, by decide +kernel, rfl, by decide +kernel, by decide +kernel⟩
abbrev s_answer : Stmt := top 70
theorem sc_answer : FnScope ["office", "deed", "some", "rows", "e"] ["office", "deed", "some", "rows"] (defScope s_answer) := ⟨rfl, rfl, rfl, by decide +kernel, rfl, by decide +kernel, by decide +kernel⟩
abbrev s_answers : Stmt := top 71
theorem sc_answers : FnScope ["calls", "office", "found", "at", "deed", "end", "some", "rows", "number", "begin", "row"] ["calls"] (defScope s_answers) := ⟨rfl, rfl, rfl, by decide +kernel, rfl, by decide +kernel, by decide +kernel⟩
structure Ad where
  mk ::
  cEdition : Addr
  cCopy : Addr
  cBook : Addr
  cFault : Addr
  cWord : Addr
  cReader : Addr
  cRefused : Addr
  cOffice : Addr
structure Txt (K : PySem.W.Frag) (mg : Str → Option Value) (Z : Ad) : Prop where
  d_is_number : Df K mg "is_number" s_is_number
  d_errata_of : Df K mg "errata_of" s_errata_of
  d_is_sheet : Df K mg "is_sheet" s_is_sheet
  d_first_wrong : Df K mg "first_wrong" s_first_wrong
  d_done : Df K mg "done" s_done
  d_between : Df K mg "between" s_between
  d_by_places : Df K mg "by_places" s_by_places
  d_all_places : Df K mg "all_places" s_all_places
  d_do_go_together : Df K mg "do_go_together" s_do_go_together
  d_behind : Df K mg "behind" s_behind
  d_clashes : Df K mg "clashes" s_clashes
  d_joined : Df K mg "joined" s_joined
  d_have_unlike_olds : Df K mg "have_unlike_olds" s_have_unlike_olds
  d_left : Df K mg "left" s_left
  d_turned : Df K mg "turned" s_turned
  d_told : Df K mg "told" s_told
  d_Edition_init : Di K Z.cEdition "Edition.__init__" s_Edition_init
  d_Edition_with_sheets : Dm K Z.cEdition "with_sheets" "Edition.with_sheets" s_Edition_with_sheets
  d_Edition_whole : Dm K Z.cEdition "whole" "Edition.whole" s_Edition_whole
  d_Copy_init : Di K Z.cCopy "Copy.__init__" s_Copy_init
  d_Book_init : Di K Z.cBook "Book.__init__" s_Book_init
  d_Book_is_there : Dm K Z.cBook "is_there" "Book.is_there" s_Book_is_there
  d_Book_places : Dm K Z.cBook "places" "Book.places" s_Book_places
  d_Book_newest : Dm K Z.cBook "newest" "Book.newest" s_Book_newest
  d_Book_mending : Dm K Z.cBook "mending" "Book.mending" s_Book_mending
  d_Book_next_faults : Dm K Z.cBook "next_faults" "Book.next_faults" s_Book_next_faults
  d_Book_states : Dm K Z.cBook "states" "Book.states" s_Book_states
  d_Book_since : Dm K Z.cBook "since" "Book.since" s_Book_since
  d_Book_spoiling : Dm K Z.cBook "spoiling" "Book.spoiling" s_Book_spoiling
  d_Book_often : Dm K Z.cBook "often" "Book.often" s_Book_often
  d_Fault_init : Dx K Z.cFault "Fault.__init__" s_Fault_init
  d_sign_of : Df K mg "sign_of" s_sign_of
  d_Word_init : Di K Z.cWord "Word.__init__" s_Word_init
  d_words_of : Df K mg "words_of" s_words_of
  d_is_plain : Df K mg "is_plain" s_is_plain
  d_Reader_init : Di K Z.cReader "Reader.__init__" s_Reader_init
  d_Reader_need : Dm K Z.cReader "need" "Reader.need" s_Reader_need
  d_Reader_coming : Dm K Z.cReader "coming" "Reader.coming" s_Reader_coming
  d_Reader_literal : Dm K Z.cReader "literal" "Reader.literal" s_Reader_literal
  d_Reader_read_number : Dm K Z.cReader "read_number" "Reader.read_number" s_Reader_read_number
  d_Reader_whole : Dm K Z.cReader "whole" "Reader.whole" s_Reader_whole
  d_Reader_head : Dm K Z.cReader "head" "Reader.head" s_Reader_head
  d_Reader_erratum : Dm K Z.cReader "erratum" "Reader.erratum" s_Reader_erratum
  d_Reader_read : Dm K Z.cReader "read" "Reader.read" s_Reader_read
  d_sheet_text : Df K mg "sheet_text" s_sheet_text
  d_Refused_init : Dx K Z.cRefused "Refused.__init__" s_Refused_init
  d_refuse_if : Df K mg "refuse_if" s_refuse_if
  d_in_range : Df K mg "in_range" s_in_range
  d_look_at_bytes : Df K mg "look_at_bytes" s_look_at_bytes
  d_flat : Df K mg "flat" s_flat
  d_no_book : Df K mg "no_book" s_no_book
  d_Office_init : Di K Z.cOffice "Office.__init__" s_Office_init
  d_Office_clear : Dm K Z.cOffice "clear" "Office.clear" s_Office_clear
  d_Office_look_at_book : Dm K Z.cOffice "look_at_book" "Office.look_at_book" s_Office_look_at_book
  d_Office_look_at_numbers : Dm K Z.cOffice "look_at_numbers" "Office.look_at_numbers" s_Office_look_at_numbers
  d_Office_sheet_of : Dm K Z.cOffice "sheet_of" "Office.sheet_of" s_Office_sheet_of
  d_Office_copy_of : Dm K Z.cOffice "copy_of" "Office.copy_of" s_Office_copy_of
  d_Office_edition_of : Dm K Z.cOffice "edition_of" "Office.edition_of" s_Office_edition_of
  d_Office_place_of : Dm K Z.cOffice "place_of" "Office.place_of" s_Office_place_of
  d_Office_new_book : Dm K Z.cOffice "new_book" "Office.new_book" s_Office_new_book
  d_Office_read : Dm K Z.cOffice "read" "Office.read" s_Office_read
  d_Office_issue : Dm K Z.cOffice "issue" "Office.issue" s_Office_issue
  d_Office_look : Dm K Z.cOffice "look" "Office.look" s_Office_look
  d_Office_next_edition : Dm K Z.cOffice "next_edition" "Office.next_edition" s_Office_next_edition
  d_Office_buy : Dm K Z.cOffice "buy" "Office.buy" s_Office_buy
  d_Office_pen : Dm K Z.cOffice "pen" "Office.pen" s_Office_pen
  d_Office_scratch : Dm K Z.cOffice "scratch" "Office.scratch" s_Office_scratch
  d_Office_stands : Dm K Z.cOffice "stands" "Office.stands" s_Office_stands
  d_Office_told_copy : Dm K Z.cOffice "told_copy" "Office.told_copy" s_Office_told_copy
  d_Office_diff : Dm K Z.cOffice "diff" "Office.diff" s_Office_diff
  d_Office_mend : Dm K Z.cOffice "mend" "Office.mend" s_Office_mend
  d_Office_amend : Dm K Z.cOffice "amend" "Office.amend" s_Office_amend
  d_Office_told_behind : Dm K Z.cOffice "told_behind" "Office.told_behind" s_Office_told_behind
  d_Office_told_joined : Dm K Z.cOffice "told_joined" "Office.told_joined" s_Office_told_joined
  d_Office_told_left : Dm K Z.cOffice "told_left" "Office.told_left" s_Office_told_left
  d_Office_wrong : Dm K Z.cOffice "wrong" "Office.wrong" s_Office_wrong
  d_Office_spoiled : Dm K Z.cOffice "spoiled" "Office.spoiled" s_Office_spoiled
  d_Office_history : Dm K Z.cOffice "history" "Office.history" s_Office_history
  d_Office_since : Dm K Z.cOffice "since" "Office.since" s_Office_since
  d_Office_often : Dm K Z.cOffice "often" "Office.often" s_Office_often
  d_Office_told_sheet : Dm K Z.cOffice "told_sheet" "Office.told_sheet" s_Office_told_sheet
  d_Office_current : Dm K Z.cOffice "current" "Office.current" s_Office_current
  d_Office_told_all : Dm K Z.cOffice "told_all" "Office.told_all" s_Office_told_all
  d_of_book : Df K mg "of_book" s_of_book
  d_of_copies : Df K mg "of_copies" s_of_copies
  d_of_lists : Df K mg "of_lists" s_of_lists
  d_of_times : Df K mg "of_times" s_of_times
  d_answered : Df K mg "answered" s_answered
  d_answer : Df K mg "answer" s_answer
  d_answers : Df K mg "answers" s_answers
  g_Edition : mg "Edition" = some (.ref Z.cEdition)
  cl_Edition : Cls K Z.cEdition
  n_Edition_numbers : NoAttr K Z.cEdition "numbers"
  n_Edition_sheets : NoAttr K Z.cEdition "sheets"
  g_Copy : mg "Copy" = some (.ref Z.cCopy)
  cl_Copy : Cls K Z.cCopy
  n_Copy_edition : NoAttr K Z.cCopy "edition"
  n_Copy_many : NoAttr K Z.cCopy "many"
  n_Copy_numbers : NoAttr K Z.cCopy "numbers"
  g_Book : mg "Book" = some (.ref Z.cBook)
  cl_Book : Cls K Z.cBook
  n_Book_pages : NoAttr K Z.cBook "pages"
  n_Book_lines : NoAttr K Z.cBook "lines"
  n_Book_editions : NoAttr K Z.cBook "editions"
  n_Book_copies : NoAttr K Z.cBook "copies"
  g_Fault : mg "Fault" = some (.ref Z.cFault)
  xf_Fault : XfC K Z.cFault
  nx_Fault : PySem.W.findIn K (.ref Z.cFault) "place" = some none
  g_Word : mg "Word" = some (.ref Z.cWord)
  cl_Word : Cls K Z.cWord
  n_Word_signs : NoAttr K Z.cWord "signs"
  n_Word_place : NoAttr K Z.cWord "place"
  n_Word_is_line_end : NoAttr K Z.cWord "is_line_end"
  g_Reader : mg "Reader" = some (.ref Z.cReader)
  cl_Reader : Cls K Z.cReader
  n_Reader_words : NoAttr K Z.cReader "words"
  n_Reader_size : NoAttr K Z.cReader "size"
  n_Reader_pages : NoAttr K Z.cReader "pages"
  n_Reader_lines : NoAttr K Z.cReader "lines"
  n_Reader_at : NoAttr K Z.cReader "at"
  g_Refused : mg "Refused" = some (.ref Z.cRefused)
  xf_Refused : XfC K Z.cRefused
  nx_Refused : PySem.W.findIn K (.ref Z.cRefused) "number" = some none
  g_Office : mg "Office" = some (.ref Z.cOffice)
  cl_Office : Cls K Z.cOffice
  n_Office_book : NoAttr K Z.cOffice "book"
  ex_ff : PySem.W.exmOne K (.ref Z.cFault) (.ref Z.cFault) = some true
  ex_rr : PySem.W.exmOne K (.ref Z.cRefused) (.ref Z.cRefused) = some true
  ex_fr : PySem.W.exmOne K (.ref Z.cFault) (.ref Z.cRefused) = some false
  g_MOST_NUMBER : ∃ t, mg "MOST_NUMBER" = some (.int (1000000000000) t)
  g_ALL_DONE : ∃ t, mg "ALL_DONE" = some (.int (-1) t)
  g_MOST_SHEETS : ∃ t, mg "MOST_SHEETS" = some (.int (8) t)
  g_MOST_EDITIONS : ∃ t, mg "MOST_EDITIONS" = some (.int (8) t)
  g_LINE_END : ∃ t, mg "LINE_END" = some (.int (10) t)
  g_BLANK : ∃ t, mg "BLANK" = some (.int (32) t)
  g_FIGURES : ∃ t, mg "FIGURES" = some (.str "0123456789" t)
  g_LETTERS : ∃ t, mg "LETTERS" = some (.str "abcdefghijklmnopqrstuvwxyz" t)
  g_UNKNOWN : ∃ t, mg "UNKNOWN" = some (.str "?" t)
  g_MOST_FIGURES : ∃ t, mg "MOST_FIGURES" = some (.int (13) t)
  g_MOST_EDITION : ∃ t, mg "MOST_EDITION" = some (.int (7) t)
  g_NO_BYTE : ∃ t, mg "NO_BYTE" = some (.int (-1) t)
  g_BAD_NUMBER : ∃ t, mg "BAD_NUMBER" = some (.int (-3) t)
  g_NOT_AS_TOLD : ∃ t, mg "NOT_AS_TOLD" = some (.int (-4) t)
  g_NOT_THERE : ∃ t, mg "NOT_THERE" = some (.int (-5) t)
  g_OTHER_SHEET : ∃ t, mg "OTHER_SHEET" = some (.int (-6) t)
  g_UNLIKE_OLDS : ∃ t, mg "UNLIKE_OLDS" = some (.int (-7) t)
  g_FULL : ∃ t, mg "FULL" = some (.int (-8) t)
  g_NO_MORE : ∃ t, mg "NO_MORE" = some (.int (-9) t)
  g_FAULT : ∃ t, mg "FAULT" = some (.int (-1000) t)
  g_WRONG_OLD : ∃ t, mg "WRONG_OLD" = some (.int (-100000) t)
  g_MOST_PAGES : ∃ t, mg "MOST_PAGES" = some (.int (6) t)
  g_MOST_LINES : ∃ t, mg "MOST_LINES" = some (.int (10) t)
  g_LAST_COPY : ∃ t, mg "LAST_COPY" = some (.int (9) t)
  g_LAST_EDITION : ∃ t, mg "LAST_EDITION" = some (.int (7) t)
  g_LAST_SHEET : ∃ t, mg "LAST_SHEET" = some (.int (7) t)
  g_NUMBERS : ∃ a, mg "NUMBERS" = some (.ref a) ∧ ∀ H : Hp, SqT K H a (([0, 2, 0, 0, 1, 2, 4, 4, 1, 2, 1, 1, 0, 0, 0, 0, 0, 0, 2, 2, 0, 2, 0, 1, 0] : List Int).map V.int)
  g_ROWS : ∃ a, mg "ROWS" = some (.ref a) ∧ ∀ H : Hp, SqT K H a (([0, 1, 1, 1, 0, 0, 0, 0, 0, 0, 0, 1, 2, 2, 1, 2, 1, 1, 0, 0, 0, 0, 1, 0, 0] : List Int).map V.int)
  b_len : mg "len" = none
  b_range : mg "range" = none
  b_enumerate : mg "enumerate" = none
  b_zip : mg "zip" = none
  b_sorted : mg "sorted" = none
  b_set : mg "set" = none
  b_list : mg "list" = none
  b_tuple : mg "tuple" = none
  b_str : mg "str" = none
  b_int : mg "int" = none
  b_ord : mg "ord" = none
  b_sum : mg "sum" = none
  b_max : mg "max" = none
  b_all : mg "all" = none
  b_any : mg "any" = none
  b_ValueError : mg "ValueError" = none
  veinit : PySem.W.findCls K (.type "ValueError") (.type "type") "__init__" = some (.val (.builtin "ValueError.__init__"))
end EX
namespace EX
open PySem PySem.Spec PyProof.Rows L2
/-! ### what is looked at behind the top -/
/-- an own exception's class; its __init__; what reading its fields wants; a tuple of ints -/
inductive Mo where
  | oex (x : Str)
  | sub (x : Str)
  | xf (x : Str)
  | tup (x : Str) (l : List Int)
def oexB (K : PySem.W.Frag) (C : Addr) : Bool := match K.lookup C with
  | some ⟨.type t, _, .cls cd, sl⟩ => (match cd.mro, sl.toList with
    | .ref c :: bm, [_, _, _, _, some (.builtin n), _] => decide (t = "type") && (decide (c = C) && (decide (n = "ValueError.__new__") && (cd.hasDict && (!cd.hasDel && PySem.HandSPX.refsVE bm))))
    | _, _ => false)
  | _ => false
def Mo.ok (K : PySem.W.Frag) : Mo → Bool
  | .oex x => oexB K (He.ga K x) && (decide (PySem.W.findIn K (.ref (He.ga K x)) "__setattr__" = some (some (.builtin "object.__setattr__"))) && (decide (PySem.W.subIn K (.ref (He.ga K x)) (.type "BaseException") = some true) && decide (PySem.W.typeIn K (.ref (He.ga K x)) = some (.type "type"))))
  | .sub x => decide (PySem.W.typeIn K (.ref (He.ma K (He.ga K x) "__init__")) = some (.type "function"))
  | .xf x => xfB K (He.ga K x)
  | .tup x l => He.tupB K x (l.map He.Dv.int)
theorem oexB_cls {K : PySem.W.Frag} {C : Addr} (h : oexB K C = true) : ∃ nm q N bs bm sn sub ab col dd k0 k1 k2 k3 k5, K.lookup C = some (excClassObj nm q C N bs bm true sn sub ab col dd k0 k1 k2 k3 k5 "ValueError.__new__") ∧ PySem.HandSPX.refsVE bm = true := by
  unfold oexB at h
  split at h
  · rename_i t dd cd sl ho
    split at h
    · rename_i c bm k0 k1 k2 k3 n k5 hm hs
      obtain ⟨e1, h⟩ := Bool.and_eq_true_iff.mp h
      obtain ⟨e2, h⟩ := Bool.and_eq_true_iff.mp h
      obtain ⟨e3, h⟩ := Bool.and_eq_true_iff.mp h
      obtain ⟨e4, h⟩ := Bool.and_eq_true_iff.mp h
      obtain ⟨e5, e6⟩ := Bool.and_eq_true_iff.mp h
      obtain ⟨nm, bs, mro, N, q, hd, sn, sub, ab, col, del⟩ := cd
      dsimp only at hm e4 e5
      have x1 := of_decide_eq_true e1
      have x2 := of_decide_eq_true e2
      have x3 := of_decide_eq_true e3
      have x5 : del = false := by cases del with
        | false => rfl
        | true => cases e5
      have x6 : sl = #[k0, k1, k2, k3, some (.builtin n), k5] := by
        cases sl with
        | mk l => exact congrArg Array.mk hs
      subst x1 x2 x3 x5 x6 hm e4
      exact ⟨nm, q, N, bs, bm, sn, sub, ab, col, dd, k0, k1, k2, k3, k5, ho, e6⟩
    · cases h
  · cases h
def oD (a : Str × Option Str) (n q : Str) (st : Stmt) : He.FnD := ⟨a, n, q, defArgs st, defBody st, defScope st⟩
def oFa0 : List He.Fa := [.glo "is_number", .keep "is_number", .glo "errata_of", .keep "errata_of", .glo "is_sheet", .keep "is_sheet", .glo "first_wrong", .keep "first_wrong", .glo "done", .keep "done", .glo "between", .keep "between", .glo "by_places", .keep "by_places", .glo "all_places", .keep "all_places", .glo "do_go_together", .keep "do_go_together", .glo "behind", .keep "behind", .glo "clashes", .keep "clashes", .glo "joined", .keep "joined", .glo "have_unlike_olds", .keep "have_unlike_olds", .glo "left", .keep "left", .glo "turned", .keep "turned"]
def oFa1 : List He.Fa := [.glo "told", .keep "told", .meth "Edition" "__init__", .mkr "Edition", .meth "Edition" "with_sheets", .meth "Edition" "whole", .meth "Copy" "__init__", .mkr "Copy", .meth "Book" "__init__", .mkr "Book", .meth "Book" "is_there", .meth "Book" "places", .meth "Book" "newest", .meth "Book" "mending", .meth "Book" "next_faults", .meth "Book" "states", .meth "Book" "since", .meth "Book" "spoiling", .meth "Book" "often", .meth "Fault" "__init__", .keep "Fault", .glo "sign_of", .keep "sign_of", .meth "Word" "__init__", .mkr "Word", .glo "words_of", .keep "words_of", .glo "is_plain", .keep "is_plain", .meth "Reader" "__init__"]
def oFa2 : List He.Fa := [.mkr "Reader", .meth "Reader" "need", .meth "Reader" "coming", .meth "Reader" "literal", .meth "Reader" "read_number", .meth "Reader" "whole", .meth "Reader" "head", .meth "Reader" "erratum", .meth "Reader" "read", .glo "sheet_text", .keep "sheet_text", .meth "Refused" "__init__", .keep "Refused", .glo "refuse_if", .keep "refuse_if", .glo "in_range", .keep "in_range", .glo "look_at_bytes", .keep "look_at_bytes", .glo "flat", .keep "flat", .glo "no_book", .keep "no_book", .meth "Office" "__init__", .mkr "Office", .meth "Office" "clear", .meth "Office" "look_at_book", .meth "Office" "look_at_numbers", .meth "Office" "sheet_of", .meth "Office" "copy_of"]
def oFa3 : List He.Fa := [.meth "Office" "edition_of", .meth "Office" "place_of", .meth "Office" "new_book", .meth "Office" "read", .meth "Office" "issue", .meth "Office" "look", .meth "Office" "next_edition", .meth "Office" "buy", .meth "Office" "pen", .meth "Office" "scratch", .meth "Office" "stands", .meth "Office" "told_copy", .meth "Office" "diff", .meth "Office" "mend", .meth "Office" "amend", .meth "Office" "told_behind", .meth "Office" "told_joined", .meth "Office" "told_left", .meth "Office" "wrong", .meth "Office" "spoiled", .meth "Office" "history", .meth "Office" "since", .meth "Office" "often", .meth "Office" "told_sheet", .meth "Office" "current", .meth "Office" "told_all", .glo "of_book", .keep "of_book", .glo "of_copies", .keep "of_copies"]
def oFa4 : List He.Fa := [.glo "of_lists", .keep "of_lists", .glo "of_times", .keep "of_times", .glo "answered", .keep "answered", .glo "answer", .keep "answer", .glo "answers", .keep "answers", .glo "Edition", .cls "Edition", .noat "Edition" "numbers", .noat "Edition" "sheets", .glo "Copy", .cls "Copy", .noat "Copy" "edition", .noat "Copy" "many", .noat "Copy" "numbers", .glo "Book", .cls "Book", .noat "Book" "pages", .noat "Book" "lines", .noat "Book" "editions", .noat "Book" "copies", .glo "Fault", .noat "Fault" "place", .glo "Word", .cls "Word", .noat "Word" "signs"]
def oFa5 : List He.Fa := [.noat "Word" "place", .noat "Word" "is_line_end", .glo "Reader", .cls "Reader", .noat "Reader" "words", .noat "Reader" "size", .noat "Reader" "pages", .noat "Reader" "lines", .noat "Reader" "at", .glo "Refused", .noat "Refused" "number", .glo "Office", .cls "Office", .noat "Office" "book", .exm "Fault" "Fault" true, .exm "Refused" "Refused" true, .exm "Fault" "Refused" false, .int "MOST_NUMBER" (1000000000000), .int "ALL_DONE" (-1), .int "MOST_SHEETS" (8), .int "MOST_EDITIONS" (8), .int "LINE_END" (10), .int "BLANK" (32), .str "FIGURES" "0123456789", .str "LETTERS" "abcdefghijklmnopqrstuvwxyz", .str "UNKNOWN" "?", .int "MOST_FIGURES" (13), .int "MOST_EDITION" (7), .int "NO_BYTE" (-1), .int "BAD_NUMBER" (-3)]
def oFa6 : List He.Fa := [.int "NOT_AS_TOLD" (-4), .int "NOT_THERE" (-5), .int "OTHER_SHEET" (-6), .int "UNLIKE_OLDS" (-7), .int "FULL" (-8), .int "NO_MORE" (-9), .int "FAULT" (-1000), .int "WRONG_OLD" (-100000), .int "MOST_PAGES" (6), .int "MOST_LINES" (10), .int "LAST_COPY" (9), .int "LAST_EDITION" (7), .int "LAST_SHEET" (7), .glo "NUMBERS", .glo "ROWS", .free "len", .free "range", .free "enumerate", .free "zip", .free "sorted", .free "set", .free "list", .free "tuple", .free "str", .free "int", .free "ord", .free "sum", .free "max", .free "all", .free "any"]
def oFa7 : List He.Fa := [.free "ValueError"]
def oFa : List He.Fa := (oFa0 ++ (oFa1 ++ (oFa2 ++ (oFa3 ++ (oFa4 ++ (oFa5 ++ (oFa6 ++ oFa7)))))))
def oFn0 : List He.FnD := [oD ("is_number", none) "is_number" "is_number" s_is_number, oD ("errata_of", none) "errata_of" "errata_of" s_errata_of, oD ("is_sheet", none) "is_sheet" "is_sheet" s_is_sheet, oD ("first_wrong", none) "first_wrong" "first_wrong" s_first_wrong, oD ("done", none) "done" "done" s_done, oD ("between", none) "between" "between" s_between, oD ("by_places", none) "by_places" "by_places" s_by_places, oD ("all_places", none) "all_places" "all_places" s_all_places, oD ("do_go_together", none) "do_go_together" "do_go_together" s_do_go_together, oD ("behind", none) "behind" "behind" s_behind, oD ("clashes", none) "clashes" "clashes" s_clashes, oD ("joined", none) "joined" "joined" s_joined, oD ("have_unlike_olds", none) "have_unlike_olds" "have_unlike_olds" s_have_unlike_olds, oD ("left", none) "left" "left" s_left, oD ("turned", none) "turned" "turned" s_turned, oD ("told", none) "told" "told" s_told, oD ("Edition", some "__init__") "__init__" "Edition.__init__" s_Edition_init, oD ("Edition", some "with_sheets") "with_sheets" "Edition.with_sheets" s_Edition_with_sheets, oD ("Edition", some "whole") "whole" "Edition.whole" s_Edition_whole, oD ("Copy", some "__init__") "__init__" "Copy.__init__" s_Copy_init, oD ("Book", some "__init__") "__init__" "Book.__init__" s_Book_init, oD ("Book", some "is_there") "is_there" "Book.is_there" s_Book_is_there, oD ("Book", some "places") "places" "Book.places" s_Book_places, oD ("Book", some "newest") "newest" "Book.newest" s_Book_newest, oD ("Book", some "mending") "mending" "Book.mending" s_Book_mending, oD ("Book", some "next_faults") "next_faults" "Book.next_faults" s_Book_next_faults, oD ("Book", some "states") "states" "Book.states" s_Book_states, oD ("Book", some "since") "since" "Book.since" s_Book_since, oD ("Book", some "spoiling") "spoiling" "Book.spoiling" s_Book_spoiling, oD ("Book", some "often") "often" "Book.often" s_Book_often]
def oFn1 : List He.FnD := [oD ("Fault", some "__init__") "__init__" "Fault.__init__" s_Fault_init, oD ("sign_of", none) "sign_of" "sign_of" s_sign_of, oD ("Word", some "__init__") "__init__" "Word.__init__" s_Word_init, oD ("words_of", none) "words_of" "words_of" s_words_of, oD ("is_plain", none) "is_plain" "is_plain" s_is_plain, oD ("Reader", some "__init__") "__init__" "Reader.__init__" s_Reader_init, oD ("Reader", some "need") "need" "Reader.need" s_Reader_need, oD ("Reader", some "coming") "coming" "Reader.coming" s_Reader_coming, oD ("Reader", some "literal") "literal" "Reader.literal" s_Reader_literal, oD ("Reader", some "read_number") "read_number" "Reader.read_number" s_Reader_read_number, oD ("Reader", some "whole") "whole" "Reader.whole" s_Reader_whole, oD ("Reader", some "head") "head" "Reader.head" s_Reader_head, oD ("Reader", some "erratum") "erratum" "Reader.erratum" s_Reader_erratum, oD ("Reader", some "read") "read" "Reader.read" s_Reader_read, oD ("sheet_text", none) "sheet_text" "sheet_text" s_sheet_text, oD ("Refused", some "__init__") "__init__" "Refused.__init__" s_Refused_init, oD ("refuse_if", none) "refuse_if" "refuse_if" s_refuse_if, oD ("in_range", none) "in_range" "in_range" s_in_range, oD ("look_at_bytes", none) "look_at_bytes" "look_at_bytes" s_look_at_bytes, oD ("flat", none) "flat" "flat" s_flat, oD ("no_book", none) "no_book" "no_book" s_no_book, oD ("Office", some "__init__") "__init__" "Office.__init__" s_Office_init, oD ("Office", some "clear") "clear" "Office.clear" s_Office_clear, oD ("Office", some "look_at_book") "look_at_book" "Office.look_at_book" s_Office_look_at_book, oD ("Office", some "look_at_numbers") "look_at_numbers" "Office.look_at_numbers" s_Office_look_at_numbers, oD ("Office", some "sheet_of") "sheet_of" "Office.sheet_of" s_Office_sheet_of, oD ("Office", some "copy_of") "copy_of" "Office.copy_of" s_Office_copy_of, oD ("Office", some "edition_of") "edition_of" "Office.edition_of" s_Office_edition_of, oD ("Office", some "place_of") "place_of" "Office.place_of" s_Office_place_of, oD ("Office", some "new_book") "new_book" "Office.new_book" s_Office_new_book]
def oFn2 : List He.FnD := [oD ("Office", some "read") "read" "Office.read" s_Office_read, oD ("Office", some "issue") "issue" "Office.issue" s_Office_issue, oD ("Office", some "look") "look" "Office.look" s_Office_look, oD ("Office", some "next_edition") "next_edition" "Office.next_edition" s_Office_next_edition, oD ("Office", some "buy") "buy" "Office.buy" s_Office_buy, oD ("Office", some "pen") "pen" "Office.pen" s_Office_pen, oD ("Office", some "scratch") "scratch" "Office.scratch" s_Office_scratch, oD ("Office", some "stands") "stands" "Office.stands" s_Office_stands, oD ("Office", some "told_copy") "told_copy" "Office.told_copy" s_Office_told_copy, oD ("Office", some "diff") "diff" "Office.diff" s_Office_diff, oD ("Office", some "mend") "mend" "Office.mend" s_Office_mend, oD ("Office", some "amend") "amend" "Office.amend" s_Office_amend, oD ("Office", some "told_behind") "told_behind" "Office.told_behind" s_Office_told_behind, oD ("Office", some "told_joined") "told_joined" "Office.told_joined" s_Office_told_joined, oD ("Office", some "told_left") "told_left" "Office.told_left" s_Office_told_left, oD ("Office", some "wrong") "wrong" "Office.wrong" s_Office_wrong, oD ("Office", some "spoiled") "spoiled" "Office.spoiled" s_Office_spoiled, oD ("Office", some "history") "history" "Office.history" s_Office_history, oD ("Office", some "since") "since" "Office.since" s_Office_since, oD ("Office", some "often") "often" "Office.often" s_Office_often, oD ("Office", some "told_sheet") "told_sheet" "Office.told_sheet" s_Office_told_sheet, oD ("Office", some "current") "current" "Office.current" s_Office_current, oD ("Office", some "told_all") "told_all" "Office.told_all" s_Office_told_all, oD ("of_book", none) "of_book" "of_book" s_of_book, oD ("of_copies", none) "of_copies" "of_copies" s_of_copies, oD ("of_lists", none) "of_lists" "of_lists" s_of_lists, oD ("of_times", none) "of_times" "of_times" s_of_times, oD ("answered", none) "answered" "answered" s_answered, oD ("answer", none) "answer" "answer" s_answer, oD ("answers", none) "answers" "answers" s_answers]
def oFn : List He.FnD := (oFn0 ++ (oFn1 ++ oFn2))
def oEx0 : List Mo := [.oex "Fault", .sub "Fault", .oex "Refused", .sub "Refused", .xf "Fault", .xf "Refused", .tup "NUMBERS" [0, 2, 0, 0, 1, 2, 4, 4, 1, 2, 1, 1, 0, 0, 0, 0, 0, 0, 2, 2, 0, 2, 0, 1, 0], .tup "ROWS" [0, 1, 1, 1, 0, 0, 0, 0, 0, 0, 0, 1, 2, 2, 1, 2, 1, 1, 0, 0, 0, 0, 1, 0, 0]]
def oEx : List Mo := oEx0
def oNm0 : List Str := ["MOST_NUMBER", "ALL_DONE", "is_number", "errata_of", "is_sheet", "first_wrong", "done", "between", "by_places", "all_places", "do_go_together", "behind", "clashes", "joined", "have_unlike_olds", "left", "turned", "told", "MOST_SHEETS", "MOST_EDITIONS", "Edition", "Copy", "Book", "LINE_END", "BLANK", "FIGURES", "LETTERS", "UNKNOWN", "MOST_FIGURES", "MOST_EDITION"]
def oNm1 : List Str := ["Fault", "sign_of", "Word", "words_of", "is_plain", "Reader", "sheet_text", "NO_BYTE", "BAD_NUMBER", "NOT_AS_TOLD", "NOT_THERE", "OTHER_SHEET", "UNLIKE_OLDS", "FULL", "NO_MORE", "FAULT", "WRONG_OLD", "MOST_PAGES", "MOST_LINES", "LAST_COPY", "LAST_EDITION", "LAST_SHEET", "NUMBERS", "ROWS", "Refused", "refuse_if", "in_range", "look_at_bytes", "flat", "no_book"]
def oNm2 : List Str := ["Office", "of_book", "of_copies", "of_lists", "of_times", "answered", "answer"]
def oNm : List Str := (oNm0 ++ (oNm1 ++ oNm2))
/-! ### a def, as the text's facts want it -/
section
variable {K : PySem.W.Frag} {h : Heap} {mg : Str → Option Value} {x C m n q : Str} {st : Stmt} {a : Str × Option Str}
abbrev FnAt (K : PySem.W.Frag) (d : He.FnD) : Prop := ∃ oc od osl kV doc pm an cdv ct, K.lookup (He.fAd K d.at_) = some ⟨oc, od, .func (PySem.W.fnOf d.name d.qual d.params d.body d.scope .none kV doc pm an cdv ct), osl⟩ ∧ PySem.W.codeIn K cdv d.qual = true
theorem oFun (k : PySem.W.keepIn K (.ref (He.fAd K a)) = true) (e : FnAt K (oD a n q st)) : ∃ fd, Fun K n q st (He.fAd K a) fd := by
  obtain ⟨oc, od, osl, kV, doc, pm, an, cdv, ct, l, c⟩ := e
  exact ⟨_, fun_mk l c k⟩
theorem mkDf (X : K.In h) (G : h.Ns mainGlobals mg) (c1 : (He.Fa.glo x).ok K = true) (c2 : (He.Fa.keep x).ok K = true) (e : FnAt K (oD (x, none) x x st)) : Df K mg x st := by
  obtain ⟨fd, F⟩ := oFun (a := (x, none)) c2 e
  exact ⟨_, fd, He.glo_ok X G c1, F⟩
theorem mkDm (c1 : (He.Fa.meth C m).ok K = true) (e : FnAt K (oD (C, some m) m q st)) : Dm K (He.ga K C) m q st := by
  have M := He.meth_ok c1
  obtain ⟨fd, F⟩ := oFun (a := (C, some m)) M.kp e
  exact ⟨_, fd, M, F⟩
theorem mkDi (c0 : (He.Fa.mkr C).ok K = true) (c1 : (He.Fa.meth C "__init__").ok K = true) (e : FnAt K (oD (C, some "__init__") "__init__" q st)) : Di K (He.ga K C) q st := by
  have M := He.meth_ok c1
  obtain ⟨fd, F⟩ := oFun (a := (C, some "__init__")) M.kp e
  exact ⟨_, fd, He.mkr_ok c0, F⟩
theorem mkDx (m1 : (Mo.oex C).ok K = true) (c0 : (He.Fa.keep C).ok K = true) (c1 : (He.Fa.meth C "__init__").ok K = true) (m2 : (Mo.sub C).ok K = true) (e : FnAt K (oD (C, some "__init__") "__init__" q st)) : Dx K (He.ga K C) q st := by
  have M := He.meth_ok c1
  obtain ⟨fd, F⟩ := oFun (a := (C, some "__init__")) M.kp e
  obtain ⟨e1, e2⟩ := Bool.and_eq_true_iff.mp m1
  obtain ⟨e2, e3⟩ := Bool.and_eq_true_iff.mp e2
  obtain ⟨e3, e4⟩ := Bool.and_eq_true_iff.mp e3
  exact ⟨_, fd, ⟨oexB_cls e1, of_decide_eq_true e2, of_decide_eq_true e3, of_decide_eq_true e4, c0⟩, M.at_, of_decide_eq_true m2, F⟩
theorem mkTu {l : List Int} (X : K.In h) (G : h.Ns mainGlobals mg) (c1 : (He.Fa.glo x).ok K = true) (m1 : (Mo.tup x l).ok K = true) : ∃ a, mg x = some (.ref a) ∧ ∀ H : Hp, SqT K H a (l.map V.int) := by
  refine ⟨_, He.glo_ok X G c1, fun H => ?_⟩
  have z := He.tupB_ok m1 H
  rw [List.map_map] at z
  exact z
end
/-! ### all of it -/
def oSays (K : PySem.W.Frag) : Prop := (oEx.all fun m => m.ok K) = true ∧ He.SaysE oFa oFn K
theorem txt_of {K : PySem.W.Frag} {h : Heap} {mg : Str → Option Value} (X : K.In h) (G : h.Ns mainGlobals mg) (s : oSays K) : Txt K mg ⟨He.ga K "Edition", He.ga K "Copy", He.ga K "Book", He.ga K "Fault", He.ga K "Word", He.ga K "Reader", He.ga K "Refused", He.ga K "Office"⟩ := by
  have c := s.2
  have m : ∀ (i : Nat) {f : Mo}, (oEx[i]? = some f) → f.ok K = true := fun i f e => List.all_eq_true.mp s.1 f (List.mem_of_getElem? e)
  exact {
    d_is_number := mkDf X G (c.fact 0) (c.fact 1) (c.def_ 0),
    d_errata_of := mkDf X G (c.fact 2) (c.fact 3) (c.def_ 1),
    d_is_sheet := mkDf X G (c.fact 4) (c.fact 5) (c.def_ 2),
    d_first_wrong := mkDf X G (c.fact 6) (c.fact 7) (c.def_ 3),
    d_done := mkDf X G (c.fact 8) (c.fact 9) (c.def_ 4),
    d_between := mkDf X G (c.fact 10) (c.fact 11) (c.def_ 5),
    d_by_places := mkDf X G (c.fact 12) (c.fact 13) (c.def_ 6),
    d_all_places := mkDf X G (c.fact 14) (c.fact 15) (c.def_ 7),
    d_do_go_together := mkDf X G (c.fact 16) (c.fact 17) (c.def_ 8),
    d_behind := mkDf X G (c.fact 18) (c.fact 19) (c.def_ 9),
    d_clashes := mkDf X G (c.fact 20) (c.fact 21) (c.def_ 10),
    d_joined := mkDf X G (c.fact 22) (c.fact 23) (c.def_ 11),
    d_have_unlike_olds := mkDf X G (c.fact 24) (c.fact 25) (c.def_ 12),
    d_left := mkDf X G (c.fact 26) (c.fact 27) (c.def_ 13),
    d_turned := mkDf X G (c.fact 28) (c.fact 29) (c.def_ 14),
    d_told := mkDf X G (c.fact 30) (c.fact 31) (c.def_ 15),
    d_Edition_init := mkDi (c.fact 33) (c.fact 32) (c.def_ 16),
    d_Edition_with_sheets := mkDm (c.fact 34) (c.def_ 17),
    d_Edition_whole := mkDm (c.fact 35) (c.def_ 18),
    d_Copy_init := mkDi (c.fact 37) (c.fact 36) (c.def_ 19),
    d_Book_init := mkDi (c.fact 39) (c.fact 38) (c.def_ 20),
    d_Book_is_there := mkDm (c.fact 40) (c.def_ 21),
    d_Book_places := mkDm (c.fact 41) (c.def_ 22),
    d_Book_newest := mkDm (c.fact 42) (c.def_ 23),
    d_Book_mending := mkDm (c.fact 43) (c.def_ 24),
    d_Book_next_faults := mkDm (c.fact 44) (c.def_ 25),
    d_Book_states := mkDm (c.fact 45) (c.def_ 26),
    d_Book_since := mkDm (c.fact 46) (c.def_ 27),
    d_Book_spoiling := mkDm (c.fact 47) (c.def_ 28),
    d_Book_often := mkDm (c.fact 48) (c.def_ 29),
    d_Fault_init := mkDx (m 0 rfl) (c.fact 50) (c.fact 49) (m 1 rfl) (c.def_ 30),
    d_sign_of := mkDf X G (c.fact 51) (c.fact 52) (c.def_ 31),
    d_Word_init := mkDi (c.fact 54) (c.fact 53) (c.def_ 32),
    d_words_of := mkDf X G (c.fact 55) (c.fact 56) (c.def_ 33),
    d_is_plain := mkDf X G (c.fact 57) (c.fact 58) (c.def_ 34),
    d_Reader_init := mkDi (c.fact 60) (c.fact 59) (c.def_ 35),
    d_Reader_need := mkDm (c.fact 61) (c.def_ 36),
    d_Reader_coming := mkDm (c.fact 62) (c.def_ 37),
    d_Reader_literal := mkDm (c.fact 63) (c.def_ 38),
    d_Reader_read_number := mkDm (c.fact 64) (c.def_ 39),
    d_Reader_whole := mkDm (c.fact 65) (c.def_ 40),
    d_Reader_head := mkDm (c.fact 66) (c.def_ 41),
    d_Reader_erratum := mkDm (c.fact 67) (c.def_ 42),
    d_Reader_read := mkDm (c.fact 68) (c.def_ 43),
    d_sheet_text := mkDf X G (c.fact 69) (c.fact 70) (c.def_ 44),
    d_Refused_init := mkDx (m 2 rfl) (c.fact 72) (c.fact 71) (m 3 rfl) (c.def_ 45),
    d_refuse_if := mkDf X G (c.fact 73) (c.fact 74) (c.def_ 46),
    d_in_range := mkDf X G (c.fact 75) (c.fact 76) (c.def_ 47),
    d_look_at_bytes := mkDf X G (c.fact 77) (c.fact 78) (c.def_ 48),
    d_flat := mkDf X G (c.fact 79) (c.fact 80) (c.def_ 49),
    d_no_book := mkDf X G (c.fact 81) (c.fact 82) (c.def_ 50),
    d_Office_init := mkDi (c.fact 84) (c.fact 83) (c.def_ 51),
    d_Office_clear := mkDm (c.fact 85) (c.def_ 52),
    d_Office_look_at_book := mkDm (c.fact 86) (c.def_ 53),
    d_Office_look_at_numbers := mkDm (c.fact 87) (c.def_ 54),
    d_Office_sheet_of := mkDm (c.fact 88) (c.def_ 55),
    d_Office_copy_of := mkDm (c.fact 89) (c.def_ 56),
    d_Office_edition_of := mkDm (c.fact 90) (c.def_ 57),
    d_Office_place_of := mkDm (c.fact 91) (c.def_ 58),
    d_Office_new_book := mkDm (c.fact 92) (c.def_ 59),
    d_Office_read := mkDm (c.fact 93) (c.def_ 60),
    d_Office_issue := mkDm (c.fact 94) (c.def_ 61),
    d_Office_look := mkDm (c.fact 95) (c.def_ 62),
    d_Office_next_edition := mkDm (c.fact 96) (c.def_ 63),
    d_Office_buy := mkDm (c.fact 97) (c.def_ 64),
    d_Office_pen := mkDm (c.fact 98) (c.def_ 65),
    d_Office_scratch := mkDm (c.fact 99) (c.def_ 66),
    d_Office_stands := mkDm (c.fact 100) (c.def_ 67),
    d_Office_told_copy := mkDm (c.fact 101) (c.def_ 68),
    d_Office_diff := mkDm (c.fact 102) (c.def_ 69),
    d_Office_mend := mkDm (c.fact 103) (c.def_ 70),
    d_Office_amend := mkDm (c.fact 104) (c.def_ 71),
    d_Office_told_behind := mkDm (c.fact 105) (c.def_ 72),
    d_Office_told_joined := mkDm (c.fact 106) (c.def_ 73),
    d_Office_told_left := mkDm (c.fact 107) (c.def_ 74),
    d_Office_wrong := mkDm (c.fact 108) (c.def_ 75),
    d_Office_spoiled := mkDm (c.fact 109) (c.def_ 76),
    d_Office_history := mkDm (c.fact 110) (c.def_ 77),
    d_Office_since := mkDm (c.fact 111) (c.def_ 78),
    d_Office_often := mkDm (c.fact 112) (c.def_ 79),
    d_Office_told_sheet := mkDm (c.fact 113) (c.def_ 80),
    d_Office_current := mkDm (c.fact 114) (c.def_ 81),
    d_Office_told_all := mkDm (c.fact 115) (c.def_ 82),
    d_of_book := mkDf X G (c.fact 116) (c.fact 117) (c.def_ 83),
    d_of_copies := mkDf X G (c.fact 118) (c.fact 119) (c.def_ 84),
    d_of_lists := mkDf X G (c.fact 120) (c.fact 121) (c.def_ 85),
    d_of_times := mkDf X G (c.fact 122) (c.fact 123) (c.def_ 86),
    d_answered := mkDf X G (c.fact 124) (c.fact 125) (c.def_ 87),
    d_answer := mkDf X G (c.fact 126) (c.fact 127) (c.def_ 88),
    d_answers := mkDf X G (c.fact 128) (c.fact 129) (c.def_ 89),
    g_Edition := He.glo_ok X G (c.fact 130),
    cl_Edition := He.cls_ok (c.fact 131),
    n_Edition_numbers := He.noat_ok (c.fact 132),
    n_Edition_sheets := He.noat_ok (c.fact 133),
    g_Copy := He.glo_ok X G (c.fact 134),
    cl_Copy := He.cls_ok (c.fact 135),
    n_Copy_edition := He.noat_ok (c.fact 136),
    n_Copy_many := He.noat_ok (c.fact 137),
    n_Copy_numbers := He.noat_ok (c.fact 138),
    g_Book := He.glo_ok X G (c.fact 139),
    cl_Book := He.cls_ok (c.fact 140),
    n_Book_pages := He.noat_ok (c.fact 141),
    n_Book_lines := He.noat_ok (c.fact 142),
    n_Book_editions := He.noat_ok (c.fact 143),
    n_Book_copies := He.noat_ok (c.fact 144),
    g_Fault := He.glo_ok X G (c.fact 145),
    xf_Fault := xfB_ok (m 4 rfl),
    nx_Fault := He.noat_ok (c.fact 146),
    g_Word := He.glo_ok X G (c.fact 147),
    cl_Word := He.cls_ok (c.fact 148),
    n_Word_signs := He.noat_ok (c.fact 149),
    n_Word_place := He.noat_ok (c.fact 150),
    n_Word_is_line_end := He.noat_ok (c.fact 151),
    g_Reader := He.glo_ok X G (c.fact 152),
    cl_Reader := He.cls_ok (c.fact 153),
    n_Reader_words := He.noat_ok (c.fact 154),
    n_Reader_size := He.noat_ok (c.fact 155),
    n_Reader_pages := He.noat_ok (c.fact 156),
    n_Reader_lines := He.noat_ok (c.fact 157),
    n_Reader_at := He.noat_ok (c.fact 158),
    g_Refused := He.glo_ok X G (c.fact 159),
    xf_Refused := xfB_ok (m 5 rfl),
    nx_Refused := He.noat_ok (c.fact 160),
    g_Office := He.glo_ok X G (c.fact 161),
    cl_Office := He.cls_ok (c.fact 162),
    n_Office_book := He.noat_ok (c.fact 163),
    ex_ff := He.exm_ok (c.fact 164),
    ex_rr := He.exm_ok (c.fact 165),
    ex_fr := He.exm_ok (c.fact 166),
    g_MOST_NUMBER := He.int_ok X G (c.fact 167),
    g_ALL_DONE := He.int_ok X G (c.fact 168),
    g_MOST_SHEETS := He.int_ok X G (c.fact 169),
    g_MOST_EDITIONS := He.int_ok X G (c.fact 170),
    g_LINE_END := He.int_ok X G (c.fact 171),
    g_BLANK := He.int_ok X G (c.fact 172),
    g_FIGURES := He.str_ok X G (c.fact 173),
    g_LETTERS := He.str_ok X G (c.fact 174),
    g_UNKNOWN := He.str_ok X G (c.fact 175),
    g_MOST_FIGURES := He.int_ok X G (c.fact 176),
    g_MOST_EDITION := He.int_ok X G (c.fact 177),
    g_NO_BYTE := He.int_ok X G (c.fact 178),
    g_BAD_NUMBER := He.int_ok X G (c.fact 179),
    g_NOT_AS_TOLD := He.int_ok X G (c.fact 180),
    g_NOT_THERE := He.int_ok X G (c.fact 181),
    g_OTHER_SHEET := He.int_ok X G (c.fact 182),
    g_UNLIKE_OLDS := He.int_ok X G (c.fact 183),
    g_FULL := He.int_ok X G (c.fact 184),
    g_NO_MORE := He.int_ok X G (c.fact 185),
    g_FAULT := He.int_ok X G (c.fact 186),
    g_WRONG_OLD := He.int_ok X G (c.fact 187),
    g_MOST_PAGES := He.int_ok X G (c.fact 188),
    g_MOST_LINES := He.int_ok X G (c.fact 189),
    g_LAST_COPY := He.int_ok X G (c.fact 190),
    g_LAST_EDITION := He.int_ok X G (c.fact 191),
    g_LAST_SHEET := He.int_ok X G (c.fact 192),
    g_NUMBERS := mkTu X G (c.fact 193) (m 6 rfl),
    g_ROWS := mkTu X G (c.fact 194) (m 7 rfl),
    b_len := He.free_ok X G (c.fact 195),
    b_range := He.free_ok X G (c.fact 196),
    b_enumerate := He.free_ok X G (c.fact 197),
    b_zip := He.free_ok X G (c.fact 198),
    b_sorted := He.free_ok X G (c.fact 199),
    b_set := He.free_ok X G (c.fact 200),
    b_list := He.free_ok X G (c.fact 201),
    b_tuple := He.free_ok X G (c.fact 202),
    b_str := He.free_ok X G (c.fact 203),
    b_int := He.free_ok X G (c.fact 204),
    b_ord := He.free_ok X G (c.fact 205),
    b_sum := He.free_ok X G (c.fact 206),
    b_max := He.free_ok X G (c.fact 207),
    b_all := He.free_ok X G (c.fact 208),
    b_any := He.free_ok X G (c.fact 209),
    b_ValueError := He.free_ok X G (c.fact 210),
    veinit := by rfl
  }
end EX
namespace EX
open PySem PySem.Spec PyProof.Rows L2
/-! ### the run of the top -/
def oK (g : Addr → Option Obj) : PySem.W.Frag := He.frG g (He.asG g 4)
def oAll (g : Addr → Option Obj) : Bool × He.Al := (oEx.all fun m => m.ok (oK g), He.obsE oFa oFn (oK g))
def oHook : PySem.W.Hook where
  α := Bool × He.Al
  obs s := oAll s.heap.get?
  val _ := (true, He.valE oFn)
  says _ hp := ∃ K : PySem.W.Frag, K.In hp ∧ oSays K
  of _ _ e := ⟨_, He.frG_in, congrArg Prod.fst e, congrArg Prod.snd e⟩
  keeps _ _ _ old kp := by
    obtain ⟨K, a, b⟩ := old
    exact ⟨K, PySem.W.Frag.In.keeps a kp, b⟩
abbrev oQ : Program := PySem.W.view PySem.Challenge.pw_errataoffice_s01_answers [71]
def oOb (s : PySem.W.SharedT) : Bool × He.Al := oAll (HandSHeadRun.getT s)
theorem oOb_eq (s : PySem.W.SharedT) : oOb s = oHook.obs s.abs := congrArg oAll (funext (HandSHeadRun.getT_eq s))
abbrev oP : Program := PySem.Challenge.pw_errataoffice_s01_answers
noncomputable abbrev oE (w : World) (os : OsState) : Option PySem.W.SharedT := HandSHeadRun.endF (HandSHeadRun.stepQ (HandSHeadRun.denQ HandSHeadRun.tabQ) oP w) 30000 oP w os
theorem oRun1 (w : World) (os : OsState) : (oE w os).map (fun s => (HandSHeadRun.looksF oP (PySem.W.boot_heap w.params) s.abs, HandSHeadRun.seenQ oQ oNm (importedModules oP.main.body) (fun s => PySem.W.xlAt oQ [] s && PySem.W.recOk [] s) s.abs)) = some (true, PySem.W.openGood oQ oNm) := by
  kernel_rfl
theorem oRun2 (w : World) (os : OsState) : (oE w os).map (fun s => (oEx.all (fun m => m.ok (oK (HandSHeadRun.getT s))), oFa.all fun m => m.ok (oK (HandSHeadRun.getT s)))) = some (true, true) := by
  kernel_rfl
theorem oRun3 (w : World) (os : OsState) : (oE w os).map (fun s => (oFn.all (fun d => (He.Fa.code d.at_ d.qual).ok (oK (HandSHeadRun.getT s))), oFn.map fun d => He.fnObs (oK (HandSHeadRun.getT s)) d.at_)) = some (true, oFn.map He.FnD.val) := by
  kernel_rfl
theorem oRun (w : World) : HandSHeadRun.RunEqS PySem.Challenge.rw_errataoffice_s01_answers oQ oHook oOb 30000 oNm w := by
  intro os
  obtain ⟨s, h0, h1⟩ := Option.map_eq_some_iff.mp (oRun1 w os)
  obtain ⟨s2, h2, h3⟩ := Option.map_eq_some_iff.mp (oRun2 w os)
  obtain ⟨s3, h4, h5⟩ := Option.map_eq_some_iff.mp (oRun3 w os)
  have e2 : s2 = s := Option.some.inj (h2.symm.trans h0)
  have e3 : s3 = s := Option.some.inj (h4.symm.trans h0)
  rw [e2] at h3
  rw [e3] at h5
  obtain ⟨a1, a2⟩ := Prod.mk.inj h1
  obtain ⟨a3, a4⟩ := Prod.mk.inj h3
  obtain ⟨a5, a6⟩ := Prod.mk.inj h5
  refine Option.map_eq_some_iff.mpr ⟨s, h0, Prod.ext a1 (Prod.ext a2 ?_)⟩
  show ((oEx.all fun m => m.ok (oK (HandSHeadRun.getT s))), ((oFa.all fun m => m.ok (oK (HandSHeadRun.getT s))) && oFn.all fun d => (He.Fa.code d.at_ d.qual).ok (oK (HandSHeadRun.getT s)), oFn.map fun d => He.fnObs (oK (HandSHeadRun.getT s)) d.at_)) = (true, (true, oFn.map He.FnD.val))
  rw [a3, a4, a5, a6]
  rfl
end EX
namespace EX
open PySem PySem.Spec PyProof.Rows L2
/-! ### what is told of a heap -/
def LI (H : Hp) (p : Addr) (l : List Int) : Prop := H p = some (.lst (l.map V.int))
def TupI (H : Hp) (a : Addr) (x : List Int) : Prop := H a = some (.tup (x.map V.int))
/-- a list of objects, each as told by V0 -/
def LR {α : Type} (V0 : Hp → Addr → α → Prop) (H : Hp) (p : Addr) (L : List α) : Prop := ∃ ks : List (Addr × α), ks.map (·.2) = L ∧ H p = some (.lst (ks.map fun k => V.ref k.1)) ∧ ∀ k ∈ ks, V0 H k.1 k.2
def Mono {α : Type} (V0 : Hp → Addr → α → Prop) : Prop := ∀ H H' a x, Same H H' → V0 H a x → V0 H' a x
theorem LR.same {α : Type} {V0 : Hp → Addr → α → Prop} (m : Mono V0) {H H' : Hp} {p : Addr} {L : List α} (h : LR V0 H p L) (s : Same H H') : LR V0 H' p L := by
  obtain ⟨ks, e, h1, h2⟩ := h
  exact ⟨ks, e, s _ _ h1, fun k hk => m _ _ _ _ s (h2 k hk)⟩
/-- a list of tuples of ints -/
def RT (H : Hp) (p : Addr) (L : List (List Int)) : Prop := LR TupI H p L
/-- a list of lists of ints -/
def RL (H : Hp) (p : Addr) (L : List (List Int)) : Prop := LR LI H p L
/-- a sheet -/
def RS (H : Hp) (p : Addr) (s : Vbceaj.Sheet) : Prop := RT H p (s.map Em.trip)
theorem mTup : Mono TupI := fun _ _ _ _ s h => s _ _ h
theorem mLI : Mono LI := fun _ _ _ _ s h => s _ _ h
theorem LI.same {H H' : Hp} {p : Addr} {l : List Int} (h : LI H p l) (s : Same H H') : LI H' p l := s p _ h
theorem RT.same {H H' : Hp} {p : Addr} {L : List (List Int)} (h : RT H p L) (s : Same H H') : RT H' p L := LR.same mTup h s
theorem RL.same {H H' : Hp} {p : Addr} {L : List (List Int)} (h : RL H p L) (s : Same H H') : RL H' p L := LR.same mLI h s
theorem RS.same {H H' : Hp} {p : Addr} {x : Vbceaj.Sheet} (h : RS H p x) (s : Same H H') : RS H' p x := RT.same h s
theorem mRS : Mono RS := fun _ _ _ _ s h => RS.same h s
theorem LR.get {α : Type} {ks : List (Addr × α)} {L : List α} (e : ks.map (·.2) = L) {i : Nat} {y : V} (h : (ks.map fun k => V.ref k.1)[i]? = some y) : ∃ k, ks[i]? = some k ∧ y = .ref k.1 ∧ L[i]? = some k.2 ∧ k ∈ ks := by
  obtain ⟨k, h1, h2⟩ := Em.getElem_map h
  exact ⟨k, h1, h2, by rw [← e, List.getElem?_map, h1]; rfl, List.mem_of_getElem? h1⟩
theorem LR.at_ {α : Type} {V0 : Hp → Addr → α → Prop} {H : Hp} {ks : List (Addr × α)} {L : List α} (e : ks.map (·.2) = L) (hk : ∀ k ∈ ks, V0 H k.1 k.2) {i : Nat} {x : α} (h : L[i]? = some x) : ∃ a, (ks.map fun k => V.ref k.1)[i]? = some (.ref a) ∧ V0 H a x := by
  rw [← e] at h
  obtain ⟨k, h1, h2⟩ := Em.getElem_map h
  refine ⟨k.1, by rw [List.getElem?_map, h1]; rfl, ?_⟩
  rw [h2]
  exact hk k (List.mem_of_getElem? h1)
theorem LR.len {α : Type} {ks : List (Addr × α)} {L : List α} (e : ks.map (·.2) = L) : (ks.map fun k => V.ref k.1).length = L.length := by rw [← e, List.length_map, List.length_map]
theorem same_new {H : Hp} {p : Addr} {o : HO} (h : H p = none) : Same H (upd H p o) := fun b u e => by rw [upd_ne (ne_of_none e h)]; exact e
/-- a store at p, which was new -/
theorem same_at {H H1 : Hp} {p : Addr} {o : HO} (s : Same H H1) (h : H p = none) : Same H (upd H1 p o) := fun b u e => by rw [upd_ne (ne_of_none e h)]; exact s b u e
theorem if_dec {c : Bool} {A B : Prop} (h1 : c = true → A) (h2 : c = false → B) : if c = true then A else B := by
  cases c with
  | true => exact iteT (h1 rfl)
  | false => exact iteF (h2 rfl)
theorem ixN_nat {n k : Nat} (h : k < n) : ixN n (k : Int) = some k := by
  unfold ixN
  simp [h]
theorem few {n : Nat} (h : n ≤ 100000) : n < sizeLine := Nat.lt_of_le_of_lt h (by decide)
/-! ### a list that grows -/
def rem (D : Addr) (H : Hp) : Hp := fun b => if b = D then none else H b
theorem rem_ne {D b : Addr} {H : Hp} (h : b ≠ D) : rem D H b = H b := if_neg h
theorem rem_same {D : Addr} {H H' : Hp} (s : Same H H') : Same (rem D H) (rem D H') := fun b o e => by
  by_cases q : b = D
  · rw [rem, if_pos q] at e; cases e
  · rw [rem_ne q] at e ⊢; exact s _ _ e
theorem rem_upd {D : Addr} {H : Hp} {o : HO} : rem D (upd H D o) = rem D H := by
  funext b
  by_cases q : b = D
  · rw [rem, if_pos q, rem, if_pos q]
  · rw [rem_ne q, rem_ne q, upd_ne q]
theorem rem_up {D : Addr} {H : Hp} : Same (rem D H) H := fun b o e => by
  by_cases q : b = D
  · rw [rem, if_pos q] at e; cases e
  · rw [rem_ne q] at e; exact e
theorem same_rem {D : Addr} {H H' : Hp} (s : Same H H') (h : H D = none) : Same H (rem D H') := fun b o e => by
  rw [rem_ne (ne_of_none e h)]
  exact s _ _ e
/-- the list at D, new since H1, holds what B tells of the turn -/
def Grow (H1 : Hp) (D : Addr) (B : Nat → Hp → List V → Prop) (i : Nat) (H : Hp) : Prop := ∃ acc, H D = some (.lst acc) ∧ Same H1 H ∧ B i (rem D H) acc ∧ acc.length ≤ i
theorem Grow.same {H1 H : Hp} {D : Addr} {B : Nat → Hp → List V → Prop} {i : Nat} (g : Grow H1 D B i H) : Same H1 H := by
  obtain ⟨_, _, s, _⟩ := g
  exact s
theorem Grow.start {H1 : Hp} {D : Addr} {B : Nat → Hp → List V → Prop} (hD : H1 D = none) (h : B 0 (rem D (upd H1 D (.lst []))) []) : Grow H1 D B 0 (upd H1 D (.lst [])) := ⟨[], upd_same, same_new hD, h, Nat.le_refl _⟩
/-- one item more -/
theorem Grow.put {H1 H H4 : Hp} {D : Addr} {B : Nat → Hp → List V → Prop} {i : Nat} {acc : List V} {y : V} (hD : H1 D = none) (h : H D = some (.lst acc)) (s : Same H1 H) (hl : acc.length ≤ i) (hi : i ≤ 100000) (s4 : Same H H4) (b : B (i + 1) (rem D H4) (acc ++ [y])) :
    ∃ acc, H4 D = some (.lst acc) ∧ acc.length < sizeLine ∧ Grow H1 D B (i + 1) (upd H4 D (.lst (acc ++ [y]))) :=
  ⟨acc, s4 _ _ h, few (Nat.le_trans hl hi), acc ++ [y], upd_same, same_at (s.trans s4) hD, by rw [rem_upd]; exact b, by rw [List.length_append]; exact Nat.succ_le_succ hl⟩
theorem Grow.keep {H1 H H4 : Hp} {D : Addr} {B : Nat → Hp → List V → Prop} {i : Nat} {acc : List V} (h : H D = some (.lst acc)) (s : Same H1 H) (hl : acc.length ≤ i) (s4 : Same H H4) (b : B (i + 1) (rem D H4) acc) : Grow H1 D B (i + 1) H4 :=
  ⟨acc, s4 _ _ h, s.trans s4, b, Nat.le_succ_of_le hl⟩
/-- the items so far: plain ints -/
def BI (L : Nat → List Int) : Nat → Hp → List V → Prop := fun i _ acc => acc = (L i).map V.int
theorem BI.put {L : Nat → List Int} {i : Nat} {H H' : Hp} {acc : List V} {z : Int} (b : BI L i H acc) (e : L (i + 1) = L i ++ [z]) : BI L (i + 1) H' (acc ++ [.int z]) := by
  show _ = _
  rw [e, List.map_append, show acc = (L i).map V.int from b]; rfl
theorem BI.keep {L : Nat → List Int} {i : Nat} {H H' : Hp} {acc : List V} (b : BI L i H acc) (e : L (i + 1) = L i) : BI L (i + 1) H' acc := by
  show _ = _
  rw [e]; exact b
theorem BI.done {L : Nat → List Int} {n : Nat} {H1 H : Hp} {D : Addr} (g : Grow H1 D (BI L) n H) : LI H D (L n) := by
  obtain ⟨acc, h, s, b, _⟩ := g
  rw [show acc = (L n).map V.int from b] at h
  exact h
/-- truths -/
def BB (L : Nat → List Bool) : Nat → Hp → List V → Prop := fun i _ acc => acc = (L i).map V.bl
theorem BB.put {L : Nat → List Bool} {i : Nat} {H H' : Hp} {acc : List V} {z : Bool} (b : BB L i H acc) (e : L (i + 1) = L i ++ [z]) : BB L (i + 1) H' (acc ++ [.bl z]) := by
  show _ = _
  rw [e, List.map_append, show acc = (L i).map V.bl from b]; rfl
theorem BB.done {L : Nat → List Bool} {n : Nat} {H1 H : Hp} {D : Addr} (g : Grow H1 D (BB L) n H) : H D = some (.lst ((L n).map V.bl)) := by
  obtain ⟨acc, h, s, b, _⟩ := g
  rw [show acc = (L n).map V.bl from b] at h
  exact h
/-- objects -/
def BO {α : Type} (V0 : Hp → Addr → α → Prop) (L : Nat → List α) : Nat → Hp → List V → Prop := fun i H acc => ∃ ks : List (Addr × α), ks.map (·.2) = L i ∧ acc = ks.map (fun k => V.ref k.1) ∧ ∀ k ∈ ks, V0 H k.1 k.2
theorem BO.zero {α : Type} {V0 : Hp → Addr → α → Prop} {L : Nat → List α} {H : Hp} (e : L 0 = []) : BO V0 L 0 H [] := ⟨[], e.symm, rfl, fun _ h => nomatch h⟩
theorem BO.put {α : Type} {V0 : Hp → Addr → α → Prop} {L : Nat → List α} {i : Nat} {H H' : Hp} {acc : List V} {t : Addr} {x : α} (b : BO V0 L i H acc) (m : Mono V0) (s : Same H H') (h : V0 H' t x) (e : L (i + 1) = L i ++ [x]) : BO V0 L (i + 1) H' (acc ++ [.ref t]) := by
  obtain ⟨ks, e1, e2, hk⟩ := b
  refine ⟨ks ++ [(t, x)], by rw [List.map_append, e1, e]; rfl, by rw [List.map_append, e2]; rfl, fun k hm => ?_⟩
  rcases List.mem_append.mp hm with hm | hm
  · exact m _ _ _ _ s (hk k hm)
  · rw [List.mem_singleton.mp hm]; exact h
theorem BO.keep {α : Type} {V0 : Hp → Addr → α → Prop} {L : Nat → List α} {i : Nat} {H H' : Hp} {acc : List V} (b : BO V0 L i H acc) (m : Mono V0) (s : Same H H') (e : L (i + 1) = L i) : BO V0 L (i + 1) H' acc := by
  obtain ⟨ks, e1, e2, hk⟩ := b
  exact ⟨ks, by rw [e1, e], e2, fun k hm => m _ _ _ _ s (hk k hm)⟩
theorem BO.done {α : Type} {V0 : Hp → Addr → α → Prop} {L : Nat → List α} {n : Nat} {H1 H : Hp} {D : Addr} (m : Mono V0) (g : Grow H1 D (BO V0 L) n H) : LR V0 H D (L n) := by
  obtain ⟨acc, h, s, ⟨ks, e1, e2, hk⟩, _⟩ := g
  rw [e2] at h
  exact ⟨ks, e1, h, fun k hm => m _ _ _ _ rem_up (hk k hm)⟩
/-- a new tuple at t, beside D -/
theorem tup_rem {H : Hp} {D t : Addr} {x : List Int} {vs : List V} {acc : List V} (h : H D = some (.lst acc)) (ht : H t = none) (e : vs = x.map V.int) : TupI (rem D (upd H t (.tup vs))) t x := by
  show rem D _ t = _
  rw [rem_ne (Ne.symm (ne_of_none h ht)), upd_same, e]
theorem tup3 {K : PySem.W.Frag} {a : Addr} {x y z : V} {i j k : Nat} {σ : L2.St} {H : Hp} {Q : L2.St → Hp → Prop} (h : H a = some (.tup [x, y, z])) (q : Q (((σ.set i (some x)).set j (some y)).set k (some z)) H) :
    gTup K 3 (gCons (gName i) (gCons (gName j) (gCons (gName k) gNil))) (.ref a) σ H Q := ⟨a, _, rfl, SqT.of h, rfl, _, _, rfl, _, _, rfl, _, _, rfl, rfl, q⟩
theorem tup2 {K : PySem.W.Frag} {a : Addr} {x y : V} {i j : Nat} {σ : L2.St} {H : Hp} {Q : L2.St → Hp → Prop} (h : H a = some (.tup [x, y])) (q : Q ((σ.set i (some x)).set j (some y)) H) :
    gTup K 2 (gCons (gName i) (gCons (gName j) gNil)) (.ref a) σ H Q := ⟨a, _, rfl, SqT.of h, rfl, _, _, rfl, _, _, rfl, rfl, q⟩
theorem atI0 {x : V} {l : List V} : atI (x :: l) 0 = some x := atI_nat (j := 0) rfl
theorem atI1 {x y : V} {l : List V} : atI (x :: y :: l) 1 = some y := atI_nat (j := 1) rfl
theorem atI2 {x y z : V} {l : List V} : atI (x :: y :: z :: l) 2 = some z := atI_nat (j := 2) rfl
theorem tyes {A B : Hp → Prop} {σ : L2.St} {H : Hp} (h : A H) : tYes σ H (fun b H3 => if b = true then A H3 else B H3) := by
  show if true = true then A H else B H
  rw [if_pos rfl]
  exact h
/-! ### rules that tell K aloud (within a comprehension) -/
section
variable {X : Cx} {K : PySem.W.Frag}
theorem ix_listK (e : X.K = K) : IxR X (rIxL K) := by subst e; exact ix_list
theorem ix_tupK (e : X.K = K) : IxR X (rIxT K) := by subst e; exact ix_tup
theorem sl_listK (e : X.K = K) : SlR X (rSlL K) := by subst e; exact sl_list
def rLenQ (K : PySem.W.Frag) : List V → Hp → VK → Prop := fun xs H Q => ∃ p ys, xs = [.ref p] ∧ (SqL K H p ys ∨ SqT K H p ys) ∧ Q (.int ys.length) H
theorem call_len_seqK (e : X.K = K) : CallR X (.builtin "len") (rLenQ K) := by subst e; exact call_len_seq
def rTupQ (K : PySem.W.Frag) : List V → Hp → VK → Prop := fun xs H Q => ∃ p ys, xs = [.ref p] ∧ ((SqL K H p ys ∧ ∀ l, H l = none → Q (.ref l) (upd H l (.tup ys))) ∨ (SqT K H p ys ∧ Q (.ref p) H))
theorem call_tuple_ofK (e : X.K = K) : CallR X (.type "tuple") (rTupQ K) := by subst e; exact call_tuple_of
theorem op_neDK (e : X.K = K) (hu : X.A.units + 64 < cLine) : OpR X (compareOp .NotEq) (rNeD K) := by subst e; exact op_neD hu
theorem pe_fldK {e : Expr} {f : Str} {pos : Pos} {ta : TE} (eK : X.K = K) (he : PE X e ta) (hb : attributeBase e f X.env (eval e X.env) = eval e X.env) : PE X (.Attribute e f pos) (tFld K ta f) := by subst eK; exact pe_fld he hb
end
end EX
namespace EX
open PySem PySem.Spec PyProof.Rows L2
section
variable {P : Program} {w : World} {K : PySem.W.Frag} {mg : Str → Option Value} {base : Heap} {Z : Ad}
def spIsNum : Sp := fun vs H Q _ => ∃ z : Int, vs = [.int z] ∧ Q (.bl (Em.num z)) H
theorem ok_is_number (T : Txt K mg Z) : OkF P w K mg base CX0 1 "is_number" ["number"] (spIsNum) := by
  obtain ⟨f0, fd0, g0, F0⟩ := T.d_is_number
  refine ⟨f0, fd0, g0, F0.kp, F0.ok sc_is_number (fun vs H Q E h => ?_) (fun cdv A outer s H vs Q E hr h => ?_), (F0.binds fun _ _ _ _ _ _ us hl => match us, hl with | [_], _ => rfl)⟩
  · obtain ⟨z, rfl, _⟩ := h
    rfl
  · obtain ⟨z, rfl, k⟩ := h
    refine ⟨_, (pss_one (ps_ret (pe_chain op_le op_le (pe_un un_neg (pe_gint rfl T.g_MOST_NUMBER)) (pv 0) (pe_gint rfl T.g_MOST_NUMBER)))), ?_⟩
    have e : Em.num z = (decide (-1000000000000 ≤ z) && decide (z ≤ 1000000000000)) := rfl
    refine ⟨_, rfl, _, rfl, _, _, rfl, rfl, _, rfl, if_dec (fun h1 => ⟨_, _, rfl, rfl, ?_⟩) (fun h1 => ?_)⟩
    · have := k; rw [e, h1] at this; exact this
    · have := k; rw [e, h1] at this; exact this
def spErr : Sp := fun vs H Q _ => ∃ (a : Addr) (l : List Int), vs = [.ref a] ∧ LI H a l ∧ l.length % 3 = 0 ∧ l.length ≤ 2000 ∧ ∀ H' p, Same H H' → H p = none → RT H' p (Em.chunks l) → Q (.ref p) H'
theorem rs3 {n : Nat} (h : n % 3 = 0) : Builtin.Range.rangeSize 0 (n : Int) 3 = ((n / 3 : Nat) : Int) := by
  unfold Builtin.Range.rangeSize
  rw [if_pos (by decide)]
  by_cases z : n = 0
  · rw [z]; rfl
  · rw [if_pos (by omega)]
    omega
theorem rg3 {n : Nat} (h : n % 3 = 0) (hn : n ≤ 2000) : RgC 0 (n : Int) 3 (n / 3) := by
  refine ⟨by decide, by decide, ?_, ?_⟩
  · have e : Builtin.Range.rangeSize 0 (n : Int) 3 = ((n / 3 : Nat) : Int) := rs3 h
    unfold Builtin.Range.small
    rw [e, if_pos (by decide)]
    have f : ∀ z : Int, -5000 ≤ z → z ≤ 5000 → Builtin.Range.rangeFitsLong z = true := fun z h1 h2 => by
      unfold Builtin.Range.rangeFitsLong
      simp
      omega
    rw [f 0 (by decide) (by decide), f n (by omega) (by omega), f 3 (by decide) (by decide), f _ (by omega) (by omega), f _ (by omega) (by omega)]
    simp
  · exact rs3 h
theorem cut3 {l : List Int} {i : Nat} (h : i < l.length / 3) (h0 : l.length % 3 = 0) : cutV (l.map V.int) (some (0 + (i : Int) * 3)) (some (0 + (i : Int) * 3 + 3)) = ((l.drop (3 * i)).take 3).map V.int := by
  unfold cutV
  have e1 : (0 + (i : Int) * 3) = ((3 * i : Nat) : Int) := by omega
  have e2 : ((3 * i : Nat) : Int) + 3 = ((3 * i + 3 : Nat) : Int) := by omega
  rw [e1, e2, HT.sIx_nat, HT.sIx_nat, List.length_map, List.map_take, List.map_drop, Nat.min_eq_left (by omega), Nat.min_eq_left (by omega)]
  congr 1
  omega
theorem ok_errata_of (T : Txt K mg Z) : OkF P w K mg base CX0 1 "errata_of" ["row"] (spErr) := by
  obtain ⟨f0, fd0, g0, F0⟩ := T.d_errata_of
  refine ⟨f0, fd0, g0, F0.kp, F0.ok sc_errata_of (fun vs H Q E h => ?_) (fun cdv A outer s H vs Q E hr h => ?_), (F0.binds fun _ _ _ _ _ _ us hl => match us, hl with | [_], _ => rfl)⟩
  · obtain ⟨a, l, rfl, _⟩ := h
    rfl
  · obtain ⟨a, l, rfl, ha, h3, hl, k⟩ := h
    refine ⟨_, (pss_one (ps_ret (pe_lc (own := [("at", 1)]) (g := gName 1) (tt := tYes) rfl sc_errata_of.nd (pi_range3 (by rfl) T.b_range (pa_cons pe_int (pa_cons (pe_callB call_len_seq (by rfl) T.b_len (by decide +kernel) (pa_cons (pv 0) pa_nil)) (pa_cons pe_int pa_nil)))) (blkOk_by (N := ["row", "at"]) (sc := defScope s_errata_of) (by decide +kernel)) (fun _ _ _ _ _ => (pg_name (i := 1) sc_errata_of.nd rfl (.inl rfl))) (fun _ _ _ _ _ => pts_nil) (fun _ _ _ _ _ => (pe_callTy (call_tuple_ofK (K := K) rfl) (by rfl) T.b_tuple (by decide +kernel) (pa_cons (pe_slice (sl_listK (K := K) rfl) (pv 0) (po_some (pv 1)) (po_some (pe_op op_add (pv 1) pe_int))) pa_nil)))))), ?_⟩
    refine ⟨_, rfl, a, _, rfl, .inl (SqL.of ha), _, _, _, l.length / 3, rfl, ?_, fun D hD => ?_⟩
    · rw [List.length_map]; exact rg3 h3 hl
    have ln : (Em.chunks l).length = l.length / 3 := Em.chunks_length l
    refine lc_it (walk_rangeC) (Grow H D (BO TupI fun i => (Em.chunks l).take i)) (Grow.start hD (BO.zero rfl)) (fun _ _ _ _ => trivial) ?_ ?_
    · rintro i x H1 H2 hi ⟨acc, hacc, s1, b, hle⟩ ⟨rfl, rfl⟩
      refine ⟨rfl, tyes ?_⟩
      refine ⟨_, rfl, _, rfl, _, rfl, _, rfl, _, _, rfl, rfl, _, rfl, a, _, rfl, SqL.of (s1 _ _ ha), fun p np => ⟨p, _, rfl, .inl ⟨SqL.of upd_same, fun t nt => ?_⟩⟩⟩
      have npt : t ≠ p := fun z => by rw [z, upd_same] at nt; cases nt
      have nt' : H2 t = none := by rw [upd_ne npt] at nt; exact nt
      have e3 : (Em.chunks l)[i]? = some ((l.drop (3 * i)).take 3) := Em.chunks_at l i hi
      refine Grow.put hD hacc s1 hle (by omega) (same_at (same_new np) nt') (b.put mTup (rem_same (same_at (same_new np) nt')) (tup_rem (acc := acc) ?_ nt (cut3 hi h3)) (Em.take_next e3))
      rw [upd_ne (ne_of_none hacc np)]; exact hacc
    · intro H1 g
      have e := BO.done mTup g
      rw [← ln, List.take_length] at e
      exact k _ D g.same hD e
def spDone : Sp := fun vs H Q _ => ∃ (a n : Addr) (s : Vbceaj.Sheet) (l : List Int), vs = [.ref a, .ref n] ∧ RS H a s ∧ LI H n l ∧ (∀ x ∈ s, x.place < l.length) ∧
  ∀ H' p, Same H H' → H p = none → LI H' p (Em.done s l) → Q (.ref p) H'
theorem ok_done (T : Txt K mg Z) : OkF P w K mg base CX0 1 "done" ["sheet", "numbers"] (spDone) := by
  obtain ⟨f0, fd0, g0, F0⟩ := T.d_done
  refine ⟨f0, fd0, g0, F0.kp, F0.ok sc_done (fun vs H Q E h => ?_) (fun cdv A outer s H vs Q E hr h => ?_), (F0.binds fun _ _ _ _ _ _ us hl => match us, hl with | [_, _], _ => rfl)⟩
  · obtain ⟨a, n, s, l, rfl, _⟩ := h
    rfl
  · obtain ⟨a, n, sh, l, rfl, ⟨ks, e, ha, hk⟩, hn, hp, k⟩ := h
    refine ⟨_, (pss_cons (ps_set (i := 2) sc_done.nd rfl (Or.inl rfl) (pe_callTy call_list_of (by rfl) T.b_list (by decide +kernel) (pa_cons (pv 1) pa_nil)))
  (pss_cons (ps_for PassesOwn.never rfl (pi_list (pv 0)) (pg_tup rfl (pgs_cons (pg_name (i := 3) sc_done.nd rfl (.inl rfl)) (pgs_cons (pg_name (i := 4) sc_done.nd rfl (.inl rfl)) (pgs_cons (pg_name (i := 5) sc_done.nd rfl (.inl rfl)) pgs_nil))))
  (pss_one (ps_asg (pv 5) (pg_sub (pv 2) (pv 3) set_list))))
  (pss_one (ps_ret (pv 2))))), ?_⟩
    refine ⟨_, rfl, n, _, rfl, .inl (SqL.of hn), fun p np => ?_⟩
    have s0 : Same H (upd H p (.lst (l.map V.int))) := same_new np
    refine ⟨_, rfl, a, rfl, ⟨_, SqL.of (s0 _ _ ha)⟩, for_list (K := K) (a := a) (xs := ks.map fun k => V.ref k.1) (fun i σ H2 => ∃ x y z : Option V, σ = [some (.ref a), some (.ref n), some (.ref p), x, y, z] ∧ Same H H2 ∧ LI H2 p (Em.done (sh.take i) l))
      ⟨none, none, none, rfl, s0, upd_same⟩ (fun i σ H2 _ ⟨_, _, _, _, s2, _⟩ => SqL.of (s2 _ _ ha)) ?_ ?_⟩
    · rintro i y σ H2 hi ⟨x1, y1, z1, rfl, s2, h2⟩
      obtain ⟨kk, hi, rfl, hx, hm⟩ := LR.get e hi
      obtain ⟨x, hx', e2⟩ := Em.getElem_map hx
      have ht : H2 kk.1 = some (.tup (kk.2.map V.int)) := s2 _ _ (hk _ hm)
      rw [e2] at ht
      refine tup3 ht ?_
      have hl : x.place < ((Em.done (sh.take i) l).map V.int).length := by rw [List.length_map, Em.done_length]; exact hp x (List.mem_of_getElem? hx')
      refine ⟨_, rfl, _, rfl, _, rfl, p, _, _, _, rfl, rfl, h2, ixN_nat hl, _, _, _, rfl, same_at s2 np, ?_⟩
      show upd H2 p _ p = _
      rw [upd_same, Em.done_next hx']
      simp
    · rintro σ H2 ⟨x1, y1, z1, rfl, s2, h2⟩
      refine ⟨_, rfl, k _ p s2 np ?_⟩
      rw [LR.len e, List.length_map, List.take_length] at h2
      exact h2
end
end EX
namespace EX
open PySem PySem.Spec PyProof.Rows L2
theorem chainQ {g1 g2 : Int → Int → Bool} {ta tb tc : TE} {σ : L2.St} {H : Hp} {Q : Bool → Hp → Prop} {a b c : Int} (ha : ∀ Q : VK, Q (.int a) H → ta σ H Q) (hb : ∀ Q : VK, Q (.int b) H → tb σ H Q) (hc : ∀ Q : VK, Q (.int c) H → tc σ H Q) (q : Q (g1 a b && g2 b c) H) :
    tTest (tChain (rI0 fun i j => .bl (g1 i j)) (rI0 fun i j => .bl (g2 i j)) ta tb tc) σ H Q := by
  refine ha _ (hb _ ⟨_, _, rfl, rfl, _, rfl, if_dec (fun h1 => hc _ ⟨_, _, rfl, rfl, _, rfl, ?_⟩) (fun h1 => ⟨_, rfl, ?_⟩)⟩)
  · rw [h1, Bool.true_and] at q; exact q
  · rw [h1, Bool.false_and] at q; exact q
theorem vq {i : Nat} {v : V} {σ : L2.St} {H : Hp} (h : σ[i]? = some (some v)) : ∀ Q : VK, Q v H → tVar i σ H Q := fun Q q => ⟨v, h, q⟩
theorem dV {i j : Int} : decide (V.int i = V.int j) = decide (i = j) := by
  by_cases h : i = j
  · rw [h]; simp
  · rw [decide_eq_false h, decide_eq_false]
    intro z; cases z; exact h rfl
theorem three {l : List Int} (h : l.length = 3) : ∃ p o w, l = [p, o, w] := by
  match l, h with
  | [p, o, w], _ => exact ⟨p, o, w, rfl⟩
theorem chunk_is {l : List Int} {i : Nat} {x : List Int} (h : (Em.chunks l)[i]? = some x) (h3 : l.length % 3 = 0) : ∃ p o w, x = [p, o, w] := by
  have hi : i < l.length / 3 := by
    have := (List.getElem?_eq_some_iff.mp h).1
    rw [Em.chunks_length] at this; exact this
  rw [Em.chunks_at l i hi] at h
  injection h with h
  rw [← h]
  exact three (by rw [List.length_take, List.length_drop]; omega)
section
variable {P : Program} {w : World} {K : PySem.W.Frag} {mg : Str → Option Value} {base : Heap} {Z : Ad}
def spIsSh : Sp := fun vs H Q _ => ∃ (a : Addr) (l : List Int) (n : Nat), vs = [.ref a, .int n] ∧ LI H a l ∧ l.length ≤ 2000 ∧ ∀ H', Same H H' → Q (.bl (Em.isSheetB n l)) H'
theorem ok_is_sheet (T : Txt K mg Z) : OkF P w K mg base CX0 2 "is_sheet" ["row", "places"] (spIsSh) := by
  obtain ⟨f0, fd0, g0, F0⟩ := T.d_is_sheet
  obtain ⟨f_errata_of, fd_errata_of, g_errata_of, k_errata_of, G_errata_of, B_errata_of⟩ := ok_errata_of (P := P) (w := w) (base := base) T
  obtain ⟨f_is_number, fd_is_number, g_is_number, k_is_number, G_is_number, B_is_number⟩ := ok_is_number (P := P) (w := w) (base := base) T
  refine ⟨f0, fd0, g0, F0.kp, F0.ok sc_is_sheet (fun vs H Q E h => ?_) (fun cdv A outer s H vs Q E hr h => ?_), (F0.binds fun _ _ _ _ _ _ us hl => match us, hl with | [_, _], _ => rfl)⟩
  · obtain ⟨a, l, n, rfl, _⟩ := h
    rfl
  · obtain ⟨a, l, n, rfl, ha, hl, k⟩ := h
    refine ⟨_, (pss_cons (ps_if (pt_cmpR op_ne (pe_op op_mod (pe_callB call_len_seq (by rfl) T.b_len (by decide +kernel) (pa_cons (pv 0) pa_nil)) pe_int) pe_int (nomark _)) (pss_one (ps_ret pe_bl)) pss_nil)
  (pss_cons (ps_set (i := 2) sc_is_sheet.nd rfl (Or.inl rfl) (pe_un un_neg pe_int))
  (pss_cons (ps_for PassesOwn.never rfl (pi_list (pe_call G_errata_of (hr.mono (by decide)) rfl g_errata_of k_errata_of B_errata_of .nil pass0 (pa_cons (pv 0) pa_nil))) (pg_tup rfl (pgs_cons (pg_name (i := 3) sc_is_sheet.nd rfl (.inl rfl)) (pgs_cons (pg_name (i := 4) sc_is_sheet.nd rfl (.inl rfl)) (pgs_cons (pg_name (i := 5) sc_is_sheet.nd rfl (.inl rfl)) pgs_nil))))
  (pss_cons (ps_if (PW.pt (pw_or (pt_not (pt_chain op_lt op_lt (pv 2) (pv 3) (pv 1))) (pw_or (pt_cmpR op_eq (pv 4) (pv 5) (nomark _)) (pw_or (pt_not (pt_val (pe_call G_is_number (hr.mono (by decide)) rfl g_is_number k_is_number B_is_number .nil pass0 (pa_cons (pv 4) pa_nil)))) (pw_or1 (pt_not (pt_val (pe_call G_is_number (hr.mono (by decide)) rfl g_is_number k_is_number B_is_number .nil pass0 (pa_cons (pv 5) pa_nil))))))))) (pss_one (ps_ret pe_bl)) pss_nil)
  (pss_one (ps_set (i := 2) sc_is_sheet.nd rfl (Or.inl rfl) (pv 3)))))
  (pss_one (ps_ret pe_bl))))), ?_⟩
    refine ⟨_, rfl, a, _, rfl, .inl (SqL.of ha), _, _, rfl, rfl, (by show (0 : Int) < 3; decide), rfl, _, rfl, ?_⟩
    have e0 : Em.isSheetB n l = (decide (l.length % 3 = 0) && Em.okFrom n (-1) (Em.chunks l)) := rfl
    rw [dV, List.length_map]
    refine if_dec (fun hm => ?_) (fun hm => ?_)
    · have hz : ¬ l.length % 3 = 0 := by simp at hm; omega
      have := k H (Same.refl H)
      rw [e0, decide_eq_false hz, Bool.false_and] at this
      exact this
    have h3 : l.length % 3 = 0 := by simp at hm; omega
    have e1 : Em.isSheetB n l = Em.okFrom n (-1) (Em.chunks l) := by rw [e0, decide_eq_true h3, Bool.true_and]
    refine ⟨_, rfl, ?_⟩
    refine ⟨_, rfl, a, l, rfl, ha, h3, hl, fun H1 p s1 np hR => ?_⟩
    obtain ⟨ks, e, hp, hk⟩ := hR
    refine ⟨p, rfl, ⟨_, SqL.of hp⟩, for_list (K := K) (a := p) (xs := ks.map fun k => V.ref k.1) (fun i σ H2 => ∃ (b : Int) (x y z : Option V), σ = [some (.ref a), some (.int n), some (.int b), x, y, z] ∧ Same H1 H2 ∧ Em.okFrom n (-1) (Em.chunks l) = Em.okFrom n b ((Em.chunks l).drop i))
      ⟨-1, none, none, none, rfl, Same.refl _, rfl⟩ (fun i σ H2 _ ⟨_, _, _, _, _, s2, _⟩ => SqL.of (s2 _ _ hp)) ?_ ?_⟩
    · rintro i y σ H2 hi ⟨b, x1, y1, z1, rfl, s2, h2⟩
      obtain ⟨kk, hi, rfl, hx, hm⟩ := LR.get e hi
      obtain ⟨pl, od, nw, e2⟩ := chunk_is hx h3
      have ht : H2 kk.1 = some (.tup (kk.2.map V.int)) := s2 _ _ (hk _ hm)
      rw [e2] at ht
      refine tup3 ht ?_
      have ed : (Em.chunks l).drop i = [pl, od, nw] :: (Em.chunks l).drop (i + 1) := by
        rw [← e2]
        exact List.drop_eq_getElem_cons (List.getElem?_eq_some_iff.mp hx).1 |>.trans (by rw [(List.getElem?_eq_some_iff.mp hx).2])
      rw [ed] at h2
      have e3 : Em.okFrom n b ([pl, od, nw] :: (Em.chunks l).drop (i + 1)) = ((decide (b < pl) && decide (pl < n) && !decide (od = nw) && Em.num od && Em.num nw) && Em.okFrom n pl ((Em.chunks l).drop (i + 1))) := rfl
      rw [e3] at h2
      have kf : (decide (b < pl) && decide (pl < n) && !decide (od = nw) && Em.num od && Em.num nw) = false → Q (.bl false) H2 := fun z => by
        rw [z, Bool.false_and] at h2
        have := k H2 (s1.trans s2)
        rw [e1, h2] at this; exact this
      refine chainQ (g1 := fun i j => decide (i < j)) (g2 := fun i j => decide (i < j)) (vq rfl) (vq rfl) (vq rfl) (if_dec (fun c1 => iteT (kf ?_)) fun c1 => ?_)
      · revert c1; cases (decide (b < pl) && decide (pl < n)) <;> simp
      refine ⟨_, rfl, _, rfl, rfl, _, rfl, ?_⟩
      rw [dV]
      refine if_dec (fun c2 => iteT (kf ?_)) fun c2 => ?_
      · rw [c2]; simp
      refine ⟨_, rfl, _, rfl, _, rfl, if_dec (fun c3 => iteT (kf ?_)) fun c3 => ?_⟩
      · have : Em.num od = false := by revert c3; cases Em.num od <;> simp
        rw [this]; simp
      refine ⟨_, rfl, _, rfl, _, rfl, if_dec (fun c4 => kf ?_) fun c4 => ?_⟩
      · have : Em.num nw = false := by revert c4; cases Em.num nw <;> simp
        rw [this]; simp
      refine ⟨_, rfl, pl, _, _, _, rfl, s2, ?_⟩
      rw [h2]
      have q1 : (decide (b < pl) && decide (pl < n)) = true := by revert c1; cases (decide (b < pl) && decide (pl < n)) <;> simp
      have q3 : Em.num od = true := by revert c3; cases Em.num od <;> simp
      have q4 : Em.num nw = true := by revert c4; cases Em.num nw <;> simp
      rw [q1, c2, q3, q4]; rfl
    · rintro σ H2 ⟨b, x1, y1, z1, rfl, s2, h2⟩
      rw [LR.len e, List.drop_length] at h2
      have := k H2 (s1.trans s2)
      rw [e1, h2] at this
      exact this
end
end EX
namespace EX
open PySem PySem.Spec PyProof.Rows L2
theorem ifT {c : Bool} {A B : Prop} (hc : c = true) (h : A) : if c = true then A else B := by
  rw [if_pos hc]
  exact h
theorem ifF {c : Bool} {A B : Prop} (hc : c = false) (h : B) : if c = true then A else B := by
  rw [hc, if_neg Bool.false_ne_true]
  exact h
section
variable {P : Program} {w : World} {K : PySem.W.Frag} {mg : Str → Option Value} {base : Heap} {Z : Ad}
def spFW : Sp := fun vs H Q _ => ∃ (a n : Addr) (s : Vbceaj.Sheet) (l : List Int), vs = [.ref a, .ref n] ∧ RS H a s ∧ LI H n l ∧ (∀ x ∈ s, x.place < l.length) ∧ ∀ H', Same H H' → Q (.int (Em.firstWrong l s)) H'
theorem ok_first_wrong (T : Txt K mg Z) : OkF P w K mg base CX0 1 "first_wrong" ["sheet", "numbers"] (spFW) := by
  obtain ⟨f0, fd0, g0, F0⟩ := T.d_first_wrong
  refine ⟨f0, fd0, g0, F0.kp, F0.ok sc_first_wrong (fun vs H Q E h => ?_) (fun cdv A outer s H vs Q E hr h => ?_), (F0.binds fun _ _ _ _ _ _ us hl => match us, hl with | [_, _], _ => rfl)⟩
  · obtain ⟨a, n, s, l, rfl, _⟩ := h
    rfl
  · obtain ⟨a, n, sh, l, rfl, ⟨ks, e, ha, hk⟩, hn, hp, k⟩ := h
    refine ⟨_, (pss_cons (ps_for PassesOwn.never rfl (pi_enum (by rfl) T.b_enumerate (pa_cons (pv 0) pa_nil)) (pg_tup rfl (pgs_cons (pg_name (i := 2) sc_first_wrong.nd rfl (.inl rfl)) (pgs_cons (pg_name (i := 3) sc_first_wrong.nd rfl (.inl rfl)) pgs_nil)))
  (pss_one (ps_if (pt_cmpR op_ne (pe_ix ix_list (pv 1) (pe_ix ix_tup (pv 3) pe_int (fun _ _ => rfl)) (fun _ _ => rfl)) (pe_ix ix_tup (pv 3) pe_int (fun _ _ => rfl)) (nomark _)) (pss_one (ps_ret (pv 2))) pss_nil)))
  (pss_one (ps_ret (pe_gint rfl T.g_ALL_DONE)))), ?_⟩
    refine ⟨_, rfl, a, _, rfl, SqL.of ha, for_it (walk_enum (xs := ks.map fun k => V.ref k.1)) (fun i σ H2 => ∃ x y : Option V, σ = [some (.ref a), some (.ref n), x, y] ∧ Same H H2 ∧ ∀ (j : Nat) x, j < i → sh[j]? = some x → Em.fits l x = true)
      ⟨none, none, rfl, Same.refl _, fun j x hj _ => absurd hj (Nat.not_lt_zero _)⟩ (fun i σ H2 _ ⟨_, _, _, s2, _⟩ => SqL.of (s2 _ _ ha)) ?_ ?_⟩
    · rintro i v σ H2 H3 hi ⟨x1, y1, rfl, s2, hf⟩ ⟨t, x', y', rfl, nt, rfl, e1, e2⟩
      injection e1 with e1
      subst e1
      obtain ⟨kk, hi, rfl, hx, hm⟩ := LR.get e e2
      obtain ⟨x, hx', e3⟩ := Em.getElem_map hx
      have s3 : Same H (upd H2 t (.tup [.int (i : Nat), .ref kk.1])) := same_at s2 (s2.free nt)
      have ht : (upd H2 t (.tup [.int (i : Nat), .ref kk.1])) kk.1 = some (.tup (kk.2.map V.int)) := s3 _ _ (hk _ hm)
      rw [e3] at ht
      have hl := hp x (List.mem_of_getElem? hx')
      refine tup2 upd_same ?_
      have hv : (l.map V.int)[x.place]? = some (.int l[x.place]) := by rw [List.getElem?_map, List.getElem?_eq_getElem hl]; rfl
      refine ⟨_, rfl, _, rfl, kk.1, _, _, _, rfl, rfl, SqT.of ht, atI0, n, _, _, _, rfl, rfl, SqL.of (s3 _ _ hn), atI_nat hv, _, rfl, kk.1, _, _, _, rfl, rfl, SqT.of ht, atI1, rfl, _, rfl, ?_⟩
      rw [dV]
      have ef : Em.fits l x = decide (l[x.place] = x.old) := by
        unfold Em.fits
        rw [List.getElem?_eq_getElem hl]
        show (some l[x.place] == some x.old) = _
        by_cases q : l[x.place] = x.old <;> simp [q]
      refine if_dec (fun c => ?_) fun c => ?_
      · have z : Em.fits l x = false := by rw [ef]; revert c; cases decide (l[x.place] = x.old) <;> simp
        have u := Em.unfit_some (fun j y hj hy => hf j y hj hy) hx' z
        have := k _ s3
        unfold Em.firstWrong at this
        rw [u] at this
        exact ⟨_, rfl, this⟩
      · refine ⟨_, _, rfl, s3, fun j y hj hy => ?_⟩
        by_cases z : j = i
        · subst z
          rw [hx'] at hy
          injection hy with hy
          rw [← hy, ef]
          revert c; cases decide (l[x.place] = x.old) <;> simp
        · exact hf j y (by omega) hy
    · rintro σ H2 ⟨x1, y1, rfl, s2, hf⟩
      have u := Em.unfit_none (l := l) (s := sh) fun i x hx => hf i x (by rw [LR.len e, List.length_map]; exact (List.getElem?_eq_some_iff.mp hx).1) hx
      have := k _ s2
      unfold Em.firstWrong at this
      rw [u] at this
      exact this
def spBtw : Sp := fun vs H Q _ => ∃ (a b : Addr) (l m : List Int), vs = [.ref a, .ref b] ∧ LI H a l ∧ LI H b m ∧ l.length ≤ 1000 ∧ ∀ H' p, Same H H' → H p = none → RS H' p (Vbceaj.between l m) → Q (.ref p) H'
def PairI (H : Hp) (a : Addr) (x : Int × Int) : Prop := H a = some (.tup [.int x.1, .int x.2])
theorem zip_pairs (l m : List Int) : ((l.map V.int).zip (m.map V.int)).map (fun q => [q.1, q.2]) = (l.zip m).map fun x => [V.int x.1, V.int x.2] := by
  rw [List.zip_map, List.map_map]; rfl
theorem ok_between (T : Txt K mg Z) : OkF P w K mg base CX0 1 "between" ["some", "others"] (spBtw) := by
  obtain ⟨f0, fd0, g0, F0⟩ := T.d_between
  refine ⟨f0, fd0, g0, F0.kp, F0.ok sc_between (fun vs H Q E h => ?_) (fun cdv A outer s H vs Q E hr h => ?_), (F0.binds fun _ _ _ _ _ _ us hl => match us, hl with | [_, _], _ => rfl)⟩
  · obtain ⟨a, b, l, m, rfl, _⟩ := h
    rfl
  · obtain ⟨a, b, l, m, rfl, ha, hb, hl, k⟩ := h
    refine ⟨_, (pss_cons (ps_set (i := 2) sc_between.nd rfl (Or.inl rfl) (pe_listZip rfl rfl T.b_list rfl T.b_zip (pa_cons (pv 0) (pa_cons (pv 1) pa_nil))))
  (pss_one (ps_ret (pe_lc (own := [("place", 3), ("old", 4), ("new", 5)]) (g := gTup K 2 (gCons (gName 3) (gCons (gTup K 2 (gCons (gName 4) (gCons (gName 5) (gNil)))) (gNil)))) rfl sc_between.nd (pi_enum (by rfl) T.b_enumerate (pa_cons (pv 2) pa_nil)) (blkOk_by (N := ["some", "others", "pairs", "place", "old", "new"]) (sc := defScope s_between) (by decide +kernel)) (fun _ _ _ _ _ => (pg_tup rfl (pgs_cons (pg_name (i := 3) sc_between.nd rfl (.inl rfl)) (pgs_cons (pg_tup rfl (pgs_cons (pg_name (i := 4) sc_between.nd rfl (.inl rfl)) (pgs_cons (pg_name (i := 5) sc_between.nd rfl (.inl rfl)) pgs_nil))) pgs_nil)))) (fun _ _ _ _ _ => pts_one (pt_cmpR op_ne (pv 4) (pv 5) (nomark _))) (fun _ _ _ _ _ => (pe_tup (pa_cons (pv 3) (pa_cons (pv 4) (pa_cons (pv 5) pa_nil))))))))), ?_⟩
    refine ⟨_, rfl, _, rfl, a, b, _, _, rfl, SqL.of ha, SqL.of hb, fun H1 p ks s1 np hp hk e => ?_⟩
    rw [zip_pairs] at e
    refine ⟨_, rfl, p, _, rfl, SqL.of hp, fun D hD => ?_⟩
    have ln : ks.length = (l.zip m).length := by have := congrArg List.length e; simpa using this
    refine lc_it (walk_enum (xs := ks.map fun q => V.ref q.1)) (Grow H1 D (BO TupI fun i => (((l.zip m).take i).zipIdx.filterMap Em.btw).map Em.trip)) (Grow.start hD (BO.zero rfl)) (fun i H2 _ g => SqL.of (g.same _ _ hp)) ?_ ?_
    · rintro i v H2 H3 hi ⟨acc, hacc, s2, bo, hle⟩ ⟨t, x', y', rfl, nt, rfl, e1, e2⟩
      injection e1 with e1
      subst e1
      obtain ⟨kk, hi2, rfl⟩ := Em.getElem_map e2
      have hi3 : (ks.map (·.2))[i]? = some kk.2 := by rw [List.getElem?_map, hi2]; rfl
      rw [e] at hi3
      obtain ⟨x, hx, e3⟩ := Em.getElem_map hi3
      have s3 : Same H1 (upd H2 t (.tup [.int (i : Nat), .ref kk.1])) := same_at s2 (s2.free nt)
      have ht : (upd H2 t (.tup [.int (i : Nat), .ref kk.1])) kk.1 = some (.tup kk.2) := s3 _ _ (hk _ (List.mem_of_getElem? hi2))
      rw [e3] at ht
      refine ⟨t, _, rfl, SqT.of upd_same, rfl, _, _, rfl, _, _, rfl, tup2 ht ⟨rfl, ?_⟩⟩
      refine ⟨rfl, _, rfl, _, rfl, rfl, _, rfl, ?_⟩
      rw [dV]
      have nx := Em.btw_next (l := l.zip m) (i := i) (a := x.1) (b := x.2) hx
      have s4 : Same H2 (upd H2 t (.tup [.int (i : Nat), .ref kk.1])) := same_new nt
      by_cases q : x.1 = x.2
      · rw [decide_eq_true q]
        refine iteF ?_
        exact Grow.keep hacc s2 hle s4 (bo.keep mTup (rem_same s4) (by rw [nx, if_pos q, List.append_nil]))
      · rw [decide_eq_false q]
        refine ifT rfl ?_
        refine ⟨_, rfl, _, rfl, _, rfl, (by show 3 ≤ sizeLine; decide), fun t2 nt2 => ?_⟩
        have ntt : t2 ≠ t := fun z => by rw [z, upd_same] at nt2; cases nt2
        have nt2' : H2 t2 = none := by rw [upd_ne ntt] at nt2; exact nt2
        have s5 : Same H2 (upd (upd H2 t (.tup [.int (i : Nat), .ref kk.1])) t2 (.tup [.int (i : Nat), .int x.1, .int x.2])) := same_at s4 nt2'
        have il : i ≤ 100000 := by
          have : ks.length ≤ l.length := by rw [ln, List.length_zip]; omega
          rw [List.length_map] at hi
          omega
        refine Grow.put hD hacc s2 hle il s5 (bo.put (x := Em.trip { place := i, old := x.1, new := x.2 }) mTup (rem_same s5) (tup_rem (acc := acc) ?_ nt2 rfl) (by rw [nx, if_neg q, List.map_append]; rfl))
        exact s4 _ _ hacc
    · intro H2 g
      have z := BO.done mTup g
      rw [List.length_map, ln, List.take_length] at z
      exact k _ D (s1.trans g.same) (s1.free hD) z
def spTold : Sp := fun vs H Q _ => ∃ (a : Addr) (s : Vbceaj.Sheet), vs = [.ref a] ∧ RS H a s ∧ s.length ≤ 1000 ∧ ∀ H' p, Same H H' → H p = none → LI H' p (Vbceaj.sheetRow s) → Q (.ref p) H'
theorem ok_told (T : Txt K mg Z) : OkF P w K mg base CX0 1 "told" ["sheet"] (spTold) := by
  obtain ⟨f0, fd0, g0, F0⟩ := T.d_told
  refine ⟨f0, fd0, g0, F0.kp, F0.ok sc_told (fun vs H Q E h => ?_) (fun cdv A outer s H vs Q E hr h => ?_), (F0.binds fun _ _ _ _ _ _ us hl => match us, hl with | [_], _ => rfl)⟩
  · obtain ⟨a, s, rfl, _⟩ := h
    rfl
  · obtain ⟨a, sh, rfl, ⟨ks, e, ha, hk⟩, hl, k⟩ := h
    refine ⟨_, (pss_cons (ps_set (i := 1) sc_told.nd rfl (Or.inl rfl) (pe_lst (pa_cons (pe_callB call_len_seq (by rfl) T.b_len (by decide +kernel) (pa_cons (pv 0) pa_nil)) pa_nil)))
  (pss_cons (ps_for PassesOwn.never rfl (pi_list (pv 0)) (pg_name (i := 2) sc_told.nd rfl (.inl rfl))
  (pss_one (ps_expr (pe_bm PySem.F.plainAttrs_list PySem.F.slot_list_extend PySem.F.type_list_extend mt_extendT (pv 1) (pa_cons (pv 2) pa_nil)))))
  (pss_one (ps_ret (pv 1))))), ?_⟩
    refine ⟨_, rfl, a, _, rfl, .inl (SqL.of ha), (by show 1 ≤ sizeLine; decide), fun p np => ?_⟩
    have le := (LR.len e).trans (List.length_map _)
    refine ⟨_, rfl, a, rfl, ⟨_, SqL.of (same_new np _ _ ha)⟩, for_list (K := K) (a := a) (xs := ks.map fun k => V.ref k.1) (fun i σ H2 => ∃ x : Option V, σ = [some (.ref a), some (.ref p), x] ∧ Same H H2 ∧ LI H2 p ((sh.length : Int) :: (sh.take i).flatMap Em.trip))
      ⟨none, rfl, same_new np, by rw [le]; exact upd_same⟩ (fun i σ H2 _ ⟨_, _, s2, _⟩ => SqL.of (s2 _ _ ha)) ?_ ?_⟩
    · rintro i y σ H2 hi ⟨x1, rfl, s2, h2⟩
      obtain ⟨kk, hi, rfl, hx, hm⟩ := LR.get e hi
      obtain ⟨x, hx', e2⟩ := Em.getElem_map hx
      have ht : H2 kk.1 = some (.tup (kk.2.map V.int)) := s2 _ _ (hk _ hm)
      rw [e2] at ht
      have lt : (sh.take i).length ≤ 1000 := Nat.le_trans (by rw [List.length_take]; omega) hl
      have lf : ((sh.take i).flatMap Em.trip).length = 3 * (sh.take i).length := by
        generalize sh.take i = q
        induction q with
        | nil => rfl
        | cons y q ih => rw [List.flatMap_cons, List.length_append, ih]; show 3 + _ = _; rw [List.length_cons]; omega
      refine ⟨_, rfl, .inl ⟨rfl, _, Or.inl (Or.inl h2)⟩, _, rfl, p, kk.1, _, _, rfl, rfl, h2, SqT.of ht, ?_, _, rfl, same_at s2 np, ?_⟩
      · refine Nat.le_of_lt (few ?_)
        rw [List.length_map, List.length_map, List.length_cons, lf]
        show _ + 3 ≤ _
        omega
      · show upd H2 p _ p = _
        rw [upd_same, Em.take_next hx', List.flatMap_append, ← List.map_append]
        simp
    · rintro σ H2 ⟨x1, rfl, s2, h2⟩
      refine ⟨_, rfl, k _ p s2 np ?_⟩
      rw [le, List.take_length] at h2
      exact h2
def spTurned : Sp := fun vs H Q _ => ∃ (a : Addr) (s : Vbceaj.Sheet), vs = [.ref a] ∧ RS H a s ∧ s.length ≤ 1000 ∧ ∀ H' p, Same H H' → H p = none → RS H' p (Vbceaj.turned s) → Q (.ref p) H'
theorem ok_turned (T : Txt K mg Z) : OkF P w K mg base CX0 1 "turned" ["sheet"] (spTurned) := by
  obtain ⟨f0, fd0, g0, F0⟩ := T.d_turned
  refine ⟨f0, fd0, g0, F0.kp, F0.ok sc_turned (fun vs H Q E h => ?_) (fun cdv A outer s H vs Q E hr h => ?_), (F0.binds fun _ _ _ _ _ _ us hl => match us, hl with | [_], _ => rfl)⟩
  · obtain ⟨a, s, rfl, _⟩ := h
    rfl
  · obtain ⟨a, sh, rfl, ⟨ks, e, ha, hk⟩, hl, k⟩ := h
    refine ⟨_, (pss_one (ps_ret (pe_lc (own := [("place", 1), ("old", 2), ("new", 3)]) (g := gTup K 3 (gCons (gName 1) (gCons (gName 2) (gCons (gName 3) (gNil))))) (tt := tYes) rfl sc_turned.nd (pi_list (pv 0)) (blkOk_by (N := ["sheet", "place", "old", "new"]) (sc := defScope s_turned) (by decide +kernel)) (fun _ _ _ _ _ => (pg_tup rfl (pgs_cons (pg_name (i := 1) sc_turned.nd rfl (.inl rfl)) (pgs_cons (pg_name (i := 2) sc_turned.nd rfl (.inl rfl)) (pgs_cons (pg_name (i := 3) sc_turned.nd rfl (.inl rfl)) pgs_nil))))) (fun _ _ _ _ _ => pts_nil) (fun _ _ _ _ _ => (pe_tup (pa_cons (pv 1) (pa_cons (pv 3) (pa_cons (pv 2) pa_nil)))))))), ?_⟩
    have le := (LR.len e).trans (List.length_map _)
    refine ⟨_, rfl, a, rfl, ⟨_, SqL.of ha⟩, fun D hD => ?_⟩
    refine lc_it (walk_list (xs := ks.map fun k => V.ref k.1)) (Grow H D (BO TupI fun i => (Vbceaj.turned (sh.take i)).map Em.trip)) (Grow.start hD (BO.zero rfl)) (fun i H2 _ g => SqL.of (g.same _ _ ha)) ?_ ?_
    · rintro i v H2 H3 hi ⟨acc, hacc, s2, bo, hle⟩ ⟨rfl, e2⟩
      obtain ⟨kk, hi, rfl, hx, hm⟩ := LR.get e e2
      obtain ⟨x, hx', e3⟩ := Em.getElem_map hx
      have ht : H3 kk.1 = some (.tup (kk.2.map V.int)) := s2 _ _ (hk _ hm)
      rw [e3] at ht
      refine tup3 ht ⟨rfl, tyes ?_⟩
      refine ⟨_, rfl, _, rfl, _, rfl, (by show 3 ≤ sizeLine; decide), fun t nt => ?_⟩
      have il : i ≤ 100000 := by
        have := (List.getElem?_eq_some_iff.mp hx').1
        omega
      refine Grow.put hD hacc s2 hle il (same_new nt) (bo.put (x := Em.trip { place := x.place, old := x.new, new := x.old }) mTup (rem_same (same_new nt)) (tup_rem hacc nt rfl) ?_)
      show (Vbceaj.turned (sh.take (i + 1))).map Em.trip = _
      rw [Em.take_next hx']
      unfold Vbceaj.turned
      rw [List.map_append, List.map_append]
      rfl
    · intro H2 g
      have z := BO.done mTup g
      rw [le, List.take_length] at z
      exact k _ D g.same hD z
end
end EX
namespace EX
open PySem PySem.Spec PyProof.Rows L2
open Vbceaj (Sheet Erratum)
/-- a dict of a sheet's errata by their places -/
def ByP (H : Hp) (d : Addr) (kvs : List (Key × V)) (s : Sheet) : Prop := H d = some (.dK kvs) ∧ kvs.length ≤ s.length ∧ ∀ p : Nat, match Vbceaj.at? s p with
  | none => valV kvs (Sum.inl (p : Int)) = none
  | some x => ∃ t, valV kvs (Sum.inl (p : Int)) = some (.ref t) ∧ H t = some (.tup [.int x.old, .int x.new])
theorem ByP.same {H H' : Hp} {d : Addr} {kvs : List (Key × V)} {s : Sheet} (b : ByP H d kvs s) (k : Same H H') : ByP H' d kvs s := by
  refine ⟨k _ _ b.1, b.2.1, fun p => ?_⟩
  have := b.2.2 p
  cases q : Vbceaj.at? s p with
  | none => rw [q] at this; exact this
  | some x =>
    rw [q] at this
    obtain ⟨t, h1, h2⟩ := this
    exact ⟨t, h1, k _ _ h2⟩
theorem ByP.none {H : Hp} {d : Addr} {kvs : List (Key × V)} {s : Sheet} (b : ByP H d kvs s) {p : Nat} (h : Vbceaj.at? s p = none) : valV kvs (Sum.inl (p : Int)) = none := by
  have := b.2.2 p
  rw [h] at this; exact this
theorem ByP.some {H : Hp} {d : Addr} {kvs : List (Key × V)} {s : Sheet} (b : ByP H d kvs s) {p : Nat} {x : Erratum} (h : Vbceaj.at? s p = some x) : ∃ t, valV kvs (Sum.inl (p : Int)) = some (.ref t) ∧ H t = some (.tup [.int x.old, .int x.new]) := by
  have := b.2.2 p
  rw [h] at this; exact this
theorem ByP.get {H : Hp} {d : Addr} {kvs : List (Key × V)} {s : Sheet} (b : ByP H d kvs s) {p : Nat} : DGet H d (.int p) (valV kvs (Sum.inl (p : Int))) := DGet.k (k := Sum.inl (p : Int)) b.1
theorem ByP.isD {H : Hp} {d : Addr} {kvs : List (Key × V)} {s : Sheet} (b : ByP H d kvs s) : IsD H d := .inl ⟨kvs, .inl b.1⟩
theorem ByP.isSome {H : Hp} {d : Addr} {kvs : List (Key × V)} {s : Sheet} (b : ByP H d kvs s) (p : Nat) : (valV kvs (Sum.inl (p : Int))).isSome = (Vbceaj.at? s p).isSome := by
  cases q : Vbceaj.at? s p with
  | none => rw [b.none q]; rfl
  | some x =>
    obtain ⟨t, h1, _⟩ := b.some q
    rw [h1]; rfl
theorem putL (c : List (Key × V)) (k : Key) (x : V) : (putK c k x).length ≤ c.length + 1 := by
  unfold putK
  split
  · rw [List.length_map]; exact Nat.le_succ _
  · rw [List.length_append]; exact Nat.le_refl _
theorem at_take {s : Sheet} (h : s.Pairwise fun x y => x.place < y.place) {i : Nat} {x : Erratum} (hx : s[i]? = some x) (p : Nat) : Vbceaj.at? (s.take (i + 1)) p = if p = x.place then some x else Vbceaj.at? (s.take i) p := by
  rw [Em.take_next hx]
  unfold Vbceaj.at?
  rw [List.find?_append]
  by_cases e : p = x.place
  · rw [if_pos e]
    have : (s.take i).find? (fun x => x.place == p) = none := by
      rw [List.find?_eq_none]
      intro y hy
      obtain ⟨j, hj⟩ := List.mem_iff_getElem?.mp hy
      have hji : j < i := by
        have := (List.getElem?_eq_some_iff.mp hj).1
        rw [List.length_take] at this; omega
      rw [List.getElem?_take_of_lt hji] at hj
      obtain ⟨h1, e1⟩ := List.getElem?_eq_some_iff.mp hj
      obtain ⟨h2, e2⟩ := List.getElem?_eq_some_iff.mp hx
      have := List.pairwise_iff_getElem.mp h j i h1 h2 hji
      rw [e1, e2] at this
      simp
      omega
    rw [this]
    simp [e]
  · rw [if_neg e]
    have : ([x] : Sheet).find? (fun x => x.place == p) = none := by simp; omega
    rw [this, Option.or_none]
section
variable {P : Program} {w : World} {K : PySem.W.Frag} {mg : Str → Option Value} {base : Heap} {Z : Ad}
def spByP : Sp := fun vs H Q _ => ∃ (a : Addr) (s : Sheet), vs = [.ref a] ∧ RS H a s ∧ (s.Pairwise fun x y => x.place < y.place) ∧ s.length ≤ 1000 ∧ ∀ H' d kvs, Same H H' → H d = none → ByP H' d kvs s → Q (.ref d) H'
theorem ok_by_places (T : Txt K mg Z) : OkF P w K mg base CX0 1 "by_places" ["sheet"] (spByP) := by
  obtain ⟨f0, fd0, g0, F0⟩ := T.d_by_places
  refine ⟨f0, fd0, g0, F0.kp, F0.ok sc_by_places (fun vs H Q E h => ?_) (fun cdv A outer s H vs Q E hr h => ?_), (F0.binds fun _ _ _ _ _ _ us hl => match us, hl with | [_], _ => rfl)⟩
  · obtain ⟨a, s, rfl, _⟩ := h
    rfl
  · obtain ⟨a, sh, rfl, ⟨ks, e, ha, hk⟩, hp, hl, k⟩ := h
    have hu := hu_of hr
    refine ⟨_, (pss_cons (ps_set (i := 1) sc_by_places.nd rfl (Or.inl rfl) pe_dnewK)
  (pss_cons (ps_for PassesOwn.never rfl (pi_list (pv 0)) (pg_tup rfl (pgs_cons (pg_name (i := 2) sc_by_places.nd rfl (.inl rfl)) (pgs_cons (pg_name (i := 3) sc_by_places.nd rfl (.inl rfl)) (pgs_cons (pg_name (i := 4) sc_by_places.nd rfl (.inl rfl)) pgs_nil))))
  (pss_one (ps_dput hu (pv 1) (pv 2) (pe_tup (pa_cons (pv 3) (pa_cons (pv 4) pa_nil))) rfl)))
  (pss_one (ps_ret (pv 1))))), ?_⟩
    intro d hd
    have le := (LR.len e).trans (List.length_map _)
    refine ⟨_, rfl, a, rfl, ⟨_, SqL.of (same_new hd _ _ ha)⟩, for_list (K := K) (a := a) (xs := ks.map fun k => V.ref k.1) (fun i σ H2 => ∃ (x y z : Option V) (kvs : List (Key × V)), σ = [some (.ref a), some (.ref d), x, y, z] ∧ Same H H2 ∧ ByP H2 d kvs (sh.take i))
      ⟨none, none, none, [], rfl, same_new hd, upd_same, Nat.le_refl _, fun p => rfl⟩ (fun i σ H2 _ ⟨_, _, _, _, _, s2, _⟩ => SqL.of (s2 _ _ ha)) ?_ ?_⟩
    · rintro i y σ H2 hi ⟨x1, y1, z1, kvs, rfl, s2, b⟩
      obtain ⟨kk, hi, rfl, hx, hm⟩ := LR.get e hi
      obtain ⟨x, hx', e2⟩ := Em.getElem_map hx
      have ht : H2 kk.1 = some (.tup (kk.2.map V.int)) := s2 _ _ (hk _ hm)
      rw [e2] at ht
      refine tup3 ht ?_
      have hil := (List.getElem?_eq_some_iff.mp hx').1
      refine ⟨_, rfl, _, rfl, (by show 2 ≤ sizeLine; decide), fun t nt => ?_⟩
      have s3 := same_new (o := .tup [V.int x.old, V.int x.new]) nt
      have hd3 : (upd H2 t (.tup [.int x.old, .int x.new])) d = some (.dK kvs) := s3 _ _ b.1
      have lk : kvs.length ≤ i := by have := b.2.1; rw [List.length_take] at this; omega
      refine ⟨_, rfl, _, rfl, d, _, rfl, DPut.k (k := Sum.inl (x.place : Int)) hd3 (few (by omega)), ?_⟩
      have dt : t ≠ d := fun z => by rw [z, b.1] at nt; cases nt
      refine ⟨_, _, _, _, rfl, same_at (s2.trans s3) hd, upd_same, ?_, fun p => ?_⟩
      · refine Nat.le_trans (putL _ _ _) ?_
        rw [List.length_take]; omega
      · rw [at_take hp hx', valV_put]
        by_cases q : p = x.place
        · subst q
          rw [if_pos rfl, if_pos rfl]
          refine ⟨t, rfl, ?_⟩
          rw [upd_ne dt, upd_same]
        · rw [if_neg q, if_neg (fun z => q (by injection z with z; omega))]
          cases r : Vbceaj.at? (sh.take i) p with
          | none => exact b.none r
          | some y =>
            obtain ⟨u, h1, h2⟩ := b.some r
            refine ⟨u, h1, ?_⟩
            have ud : u ≠ d := fun z => by rw [z, b.1] at h2; cases h2
            rw [upd_ne ud]
            exact s3 _ _ h2
    · rintro σ H2 ⟨x1, y1, z1, kvs, rfl, s2, b⟩
      refine ⟨_, rfl, k _ d kvs s2 hd ?_⟩
      rw [le, List.take_length] at b
      exact b
def spAllP : Sp := fun vs H Q _ => ∃ (a b : Addr) (s t : Sheet) (n : Nat), vs = [.ref a, .ref b] ∧ RS H a s ∧ RS H b t ∧ Em.IsS n s ∧ Em.IsS n t ∧ n ≤ 60 ∧ s.length ≤ 100 ∧ t.length ≤ 100 ∧ ∀ H' p, Same H H' → H p = none → LI H' p ((Vbceaj.bothPlaces s t).map fun (n : Nat) => (n : Int)) → Q (.ref p) H'
theorem nodup_lt : ∀ (n : Nat) (L : List Int), L.Nodup → (∀ x ∈ L, 0 ≤ x ∧ x < n) → L.length ≤ n
  | 0, [], _, _ => Nat.le_refl _
  | 0, x :: L, _, h => by have := h x List.mem_cons_self; omega
  | n + 1, L, hn, h => by
    have ih := nodup_lt n (L.erase (n : Int)) (hn.erase _) fun x hx => by
      have h1 := h x (List.mem_of_mem_erase hx)
      have h2 : x ≠ (n : Int) := (hn.mem_erase_iff.mp hx).1
      omega
    by_cases q : (n : Int) ∈ L
    · rw [List.length_erase_of_mem q] at ih
      omega
    · rw [List.erase_of_not_mem q] at ih
      omega
theorem LR.cat {α : Type} {V0 : Hp → Addr → α → Prop} {H : Hp} {ks js : List (Addr × α)} {L M : List α} (e : ks.map (·.2) = L) (e' : js.map (·.2) = M) (hk : ∀ k ∈ ks, V0 H k.1 k.2) (hj : ∀ k ∈ js, V0 H k.1 k.2) :
    (ks ++ js).map (·.2) = L ++ M ∧ (∀ k ∈ ks ++ js, V0 H k.1 k.2) ∧ (ks.map fun k => V.ref k.1) ++ (js.map fun k => V.ref k.1) = (ks ++ js).map fun k => V.ref k.1 :=
  ⟨by rw [List.map_append, e, e'], fun k hk' => (List.mem_append.mp hk').elim (hk k) (hj k), by rw [List.map_append]⟩
theorem ok_all_places (T : Txt K mg Z) : OkF P w K mg base CX0 1 "all_places" ["one", "other"] (spAllP) := by
  obtain ⟨f0, fd0, g0, F0⟩ := T.d_all_places
  refine ⟨f0, fd0, g0, F0.kp, F0.ok sc_all_places (fun vs H Q E h => ?_) (fun cdv A outer s H vs Q E hr h => ?_), (F0.binds fun _ _ _ _ _ _ us hl => match us, hl with | [_, _], _ => rfl)⟩
  · obtain ⟨a, b, s, t, n, rfl, _⟩ := h
    rfl
  · obtain ⟨a, b, s1, s2, n, rfl, ⟨ks, e, ha, hk⟩, ⟨js, e', hb, hj⟩, i1, i2, hn, l1, l2, k⟩ := h
    refine ⟨_, (pss_one (ps_ret (pe_callB (cr_sortedSet rfl) (by rfl) T.b_sorted (by decide +kernel) (pa_cons (pe_callTy (cr_setOfI rfl hr.units) (by rfl) T.b_set (by decide +kernel) (pa_cons (pe_lc (own := [("erratum", 2)]) (g := gName 2) (tt := tYes) rfl sc_all_places.nd (pi_list (pe_op op_cat (pv 0) (pv 1))) (blkOk_by (N := ["one", "other", "erratum"]) (sc := defScope s_all_places) (by decide +kernel)) (fun _ _ _ _ _ => (pg_name (i := 2) sc_all_places.nd rfl (.inl rfl))) (fun _ _ _ _ _ => pts_nil) (fun _ _ _ _ _ => (pe_ix (ix_tupK (K := K) rfl) (pv 2) pe_int (fun _ _ => rfl)))) pa_nil)) pa_nil)))), ?_⟩
    obtain ⟨c1, c2, c3⟩ := LR.cat e e' hk hj
    have lc : (ks ++ js).length = s1.length + s2.length := by have := congrArg List.length c1; simpa using this
    refine ⟨_, rfl, _, rfl, a, b, _, _, rfl, rfl, ha, hb, Nat.le_of_lt (few (by rw [LR.len e, LR.len e', List.length_map, List.length_map]; omega)), fun p np => ?_⟩
    rw [c3]
    refine ⟨p, rfl, ⟨_, SqL.of upd_same⟩, fun D hD => ?_⟩
    have sp := same_new (o := .lst ((ks ++ js).map fun k => V.ref k.1)) np
    rw [← List.map_append] at c1
    refine lc_it (walk_list (xs := (ks ++ js).map fun k => V.ref k.1)) (Grow (upd H p (.lst ((ks ++ js).map fun k => V.ref k.1))) D (BI fun i => ((s1 ++ s2).take i).map fun x => (x.place : Int))) (Grow.start hD rfl) (fun i H2 _ g => SqL.of (g.same _ _ upd_same)) ?_ ?_
    · rintro i v H2 H3 hi ⟨acc, hacc, s3, bo, hle⟩ ⟨rfl, e2⟩
      obtain ⟨kk, hi2, rfl, hx, hm⟩ := LR.get c1 e2
      obtain ⟨x, hx', e3⟩ := Em.getElem_map hx
      have ht : H3 kk.1 = some (.tup (kk.2.map V.int)) := s3 _ _ (sp _ _ (c2 _ hm))
      rw [e3] at ht
      refine ⟨rfl, tyes ?_⟩
      refine ⟨_, rfl, kk.1, _, _, _, rfl, rfl, SqT.of ht, atI0, ?_⟩
      have hi4 := (List.getElem?_eq_some_iff.mp hi2).1
      refine Grow.put hD hacc s3 hle (by omega) (Same.refl _) (bo.put ?_)
      rw [Em.take_next hx', List.map_append]; rfl
    · intro H2 g
      have z := BI.done g
      rw [List.length_map, lc, ← List.length_append, List.take_length] at z
      have gs := g.same
      have mem : ∀ j : Int, j ∈ ((s1 ++ s2).map fun x => (x.place : Int)) ↔ ∃ p : Nat, j = p ∧ p ∈ Vbceaj.bothPlaces s1 s2 := fun j => by
        constructor
        · intro h
          obtain ⟨x, hx, rfl⟩ := List.mem_map.mp h
          refine ⟨x.place, rfl, ((Em.both i1 i2).2 _).mpr ?_⟩
          rcases List.mem_append.mp hx with h | h
          · exact .inl (List.mem_map.mpr ⟨x, h, rfl⟩)
          · exact .inr (List.mem_map.mpr ⟨x, h, rfl⟩)
        · rintro ⟨p, rfl, h⟩
          rcases ((Em.both i1 i2).2 _).mp h with h | h
          · obtain ⟨x, hx, rfl⟩ := List.mem_map.mp h
            exact List.mem_map.mpr ⟨x, List.mem_append_left _ hx, rfl⟩
          · obtain ⟨x, hx, rfl⟩ := List.mem_map.mp h
            exact List.mem_map.mpr ⟨x, List.mem_append_right _ hx, rfl⟩
      refine ⟨D, _, rfl, SqL.of z, by rw [List.length_map, List.length_append]; omega, fun sa m hsa hL => ?_⟩
      obtain ⟨L, hL1, hL2, hL3⟩ := hL
      have hm : m < 64 := by
        rw [← hL2]
        refine Nat.lt_of_le_of_lt (nodup_lt 60 L hL1 fun x hx => ?_) (by decide)
        obtain ⟨p, rfl, hp⟩ := (mem x).mp (hL3 x hx)
        have : p < n := by
          rcases ((Em.both i1 i2).2 _).mp hp with h | h
          · obtain ⟨y, hy, rfl⟩ := List.mem_map.mp h; exact i1.lt y hy
          · obtain ⟨y, hy, rfl⟩ := List.mem_map.mp h; exact i2.lt y hy
        omega
      refine ⟨sa, _, m, rfl, upd_same, hm, fun ns q hpw hmem hlen hq => ?_⟩
      have hqs : q ≠ sa := fun z => by rw [z, upd_same] at hq; cases hq
      have hq2 : H2 q = none := by rw [upd_ne hqs] at hq; exact hq
      have s5 : Same H (upd (upd H2 sa (SetO w sa (fun j => decide (j ∈ (s1 ++ s2).map fun x => (x.place : Int))) m)) q (.lst (ns.map V.int))) := same_at (same_at (sp.trans gs) ((sp.trans gs).free hsa)) ((sp.trans gs).free hq2)
      refine k _ q s5 ((sp.trans gs).free hq2) ?_
      have en : ns = (Vbceaj.bothPlaces s1 s2).map fun (n : Nat) => (n : Int) := by
        refine Em.rising_ext hpw (List.pairwise_map.mpr ((Em.both i1 i2).1.imp fun h => by omega)) fun j => ?_
        rw [hmem j, decide_eq_true_eq, mem j, List.mem_map]
        constructor
        · rintro ⟨p, rfl, h⟩; exact ⟨p, h, rfl⟩
        · rintro ⟨p, h, rfl⟩; exact ⟨p, rfl, h⟩
      rw [← en]
      exact upd_same
end
end EX
namespace EX
open PySem PySem.Spec PyProof.Rows L2
open Vbceaj (Sheet Erratum)
section
variable {P : Program} {w : World} {K : PySem.W.Frag} {mg : Str → Option Value} {base : Heap} {Z : Ad}
def spTwoB (f : Sheet → Sheet → Bool) : Sp := fun vs H Q _ => ∃ (a b : Addr) (s t : Sheet), vs = [.ref a, .ref b] ∧ RS H a s ∧ RS H b t ∧ (s.Pairwise fun x y => x.place < y.place) ∧ s.length ≤ 100 ∧ t.length ≤ 100 ∧ ∀ H', Same H H' → Q (.bl (f s t)) H'
theorem all_take {t : Sheet} {f : Erratum → Bool} : (t.map f).all id = t.all f := by rw [List.all_map]; rfl
theorem any_take {t : Sheet} {f : Erratum → Bool} : (t.map f).any id = t.any f := by rw [List.any_map]; rfl
def gof (s : Sheet) (y : Erratum) : Bool := match Vbceaj.at? s y.place with
  | none => true
  | some x => x.new == y.old
def unf (s : Sheet) (y : Erratum) : Bool := match Vbceaj.at? s y.place with
  | none => false
  | some x => !decide (x.old = y.old)
theorem ok_do_go_together (T : Txt K mg Z) : OkF P w K mg base CX0 2 "do_go_together" ["first", "second"] (spTwoB Em.goTogether) := by
  obtain ⟨f0, fd0, g0, F0⟩ := T.d_do_go_together
  obtain ⟨f_by_places, fd_by_places, g_by_places, k_by_places, G_by_places, B_by_places⟩ := ok_by_places (P := P) (w := w) (base := base) T
  refine ⟨f0, fd0, g0, F0.kp, F0.ok sc_do_go_together (fun vs H Q E h => ?_) (fun cdv A outer s H vs Q E hr h => ?_), (F0.binds fun _ _ _ _ _ _ us hl => match us, hl with | [_, _], _ => rfl)⟩
  · obtain ⟨a, b, s, t, rfl, _⟩ := h
    rfl
  · obtain ⟨a, b, sh, th, rfl, hs, ⟨ks, e, hb, hk⟩, pw, l1, l2, k⟩ := h
    have hu := hu_of hr
    refine ⟨_, (pss_cons (ps_set (i := 2) sc_do_go_together.nd rfl (Or.inr rfl) (pe_call G_by_places (hr.mono (by decide)) rfl g_by_places k_by_places B_by_places .nil pass0 (pa_cons (pv 0) pa_nil)))
  (pss_one (ps_ret (pe_callB (cr_all rfl) (by rfl) T.b_all (by decide +kernel) (pa_cons (pe_lc (own := [("place", 3), ("old", 4), ("new", 5)]) (g := gTup K 3 (gCons (gName 3) (gCons (gName 4) (gCons (gName 5) (gNil))))) (tt := tYes) rfl sc_do_go_together.nd (pi_list (pv 1)) (blkOk_by (N := ["first", "second", "ahead", "place", "old", "new"]) (sc := defScope s_do_go_together) (by decide +kernel)) (fun _ _ _ _ _ => (pg_tup rfl (pgs_cons (pg_name (i := 3) sc_do_go_together.nd rfl (.inl rfl)) (pgs_cons (pg_name (i := 4) sc_do_go_together.nd rfl (.inl rfl)) (pgs_cons (pg_name (i := 5) sc_do_go_together.nd rfl (.inl rfl)) pgs_nil))))) (fun _ _ _ _ _ => pts_nil) (fun _ _ _ _ _ => (pe_or (pe_cmp (pc_dnotin hu (pv 3) (pv 2))) (pe_one (pe_cmpR op_eq (pe_ix (ix_tupK (K := K) rfl) (pe_dget hu (pv 2) (pv 3) (fun _ _ => rfl)) pe_int (fun _ _ => rfl)) (pv 4) (nomark _)))))) pa_nil))))), ?_⟩
    have le := (LR.len e).trans (List.length_map _)
    refine ⟨_, rfl, a, sh, rfl, hs, pw, by omega, fun H1 d kvs s1 nd bp => ?_⟩
    refine ⟨_, rfl, b, rfl, ⟨_, SqL.of (s1 _ _ hb)⟩, fun D hD => ?_⟩
    refine lc_it (walk_list (xs := ks.map fun k => V.ref k.1)) (Grow H1 D (BB fun i => (th.take i).map (gof sh))) (Grow.start hD rfl) (fun i H2 _ g => SqL.of (g.same _ _ (s1 _ _ hb))) ?_ ?_
    · rintro i v H2 H3 hi ⟨acc, hacc, s3, bo, hle⟩ ⟨rfl, e2⟩
      obtain ⟨kk, hi2, rfl, hx, hm⟩ := LR.get e e2
      obtain ⟨y, hx', e3⟩ := Em.getElem_map hx
      have ht : H3 kk.1 = some (.tup (kk.2.map V.int)) := s3 _ _ (s1 _ _ (hk _ hm))
      rw [e3] at ht
      have hi4 := (List.getElem?_eq_some_iff.mp hx').1
      have b3 := bp.same s3
      have fin : ∀ c, c = gof sh y → ∃ acc, H3 D = some (.lst acc) ∧ acc.length < sizeLine ∧ Grow H1 D (BB fun i => (th.take i).map (gof sh)) (i + 1) (upd H3 D (.lst (acc ++ [.bl c]))) := fun c hc =>
        Grow.put hD hacc s3 hle (by omega) (Same.refl _) (bo.put (by show (th.take (i + 1)).map (gof sh) = _; rw [Em.take_next hx', List.map_append, hc]; rfl))
      refine tup3 ht ⟨rfl, tyes ?_⟩
      refine ⟨_, rfl, _, rfl, d, _, rfl, b3.get (p := y.place), _, rfl, ?_⟩
      rw [b3.isSome]
      cases q : Vbceaj.at? sh y.place with
      | none =>
        refine ifT rfl ?_
        exact fin true (by unfold gof; rw [q])
      | some x =>
        refine ifF rfl ?_
        obtain ⟨t, h1, h2⟩ := b3.some q
        refine ⟨_, rfl, _, rfl, d, .ref t, rfl, (by have := b3.get (p := y.place); rw [h1] at this; exact this), t, _, _, _, rfl, rfl, SqT.of h2, atI1, _, rfl, rfl, ?_⟩
        rw [dV]
        exact fin _ (by unfold gof; rw [q]; show decide (x.new = y.old) = (x.new == y.old); by_cases z : x.new = y.old <;> simp [z])
    · intro H2 g
      have z := BB.done g
      rw [le, List.take_length] at z
      refine ⟨D, _, rfl, SqL.of z, ?_⟩
      rw [all_take]
      exact k _ (s1.trans g.same)
theorem ok_have_unlike_olds (T : Txt K mg Z) : OkF P w K mg base CX0 2 "have_unlike_olds" ["first", "second"] (spTwoB Em.unlike) := by
  obtain ⟨f0, fd0, g0, F0⟩ := T.d_have_unlike_olds
  obtain ⟨f_by_places, fd_by_places, g_by_places, k_by_places, G_by_places, B_by_places⟩ := ok_by_places (P := P) (w := w) (base := base) T
  refine ⟨f0, fd0, g0, F0.kp, F0.ok sc_have_unlike_olds (fun vs H Q E h => ?_) (fun cdv A outer s H vs Q E hr h => ?_), (F0.binds fun _ _ _ _ _ _ us hl => match us, hl with | [_, _], _ => rfl)⟩
  · obtain ⟨a, b, s, t, rfl, _⟩ := h
    rfl
  · obtain ⟨a, b, sh, th, rfl, hs, ⟨ks, e, hb, hk⟩, pw, l1, l2, k⟩ := h
    have hu := hu_of hr
    refine ⟨_, (pss_cons (ps_set (i := 2) sc_have_unlike_olds.nd rfl (Or.inr rfl) (pe_call G_by_places (hr.mono (by decide)) rfl g_by_places k_by_places B_by_places .nil pass0 (pa_cons (pv 0) pa_nil)))
  (pss_one (ps_ret (pe_callB (cr_any rfl) (by rfl) T.b_any (by decide +kernel) (pa_cons (pe_lc (own := [("place", 3), ("old", 4), ("new", 5)]) (g := gTup K 3 (gCons (gName 3) (gCons (gName 4) (gCons (gName 5) (gNil))))) (tt := tYes) rfl sc_have_unlike_olds.nd (pi_list (pv 1)) (blkOk_by (N := ["first", "second", "one", "place", "old", "new"]) (sc := defScope s_have_unlike_olds) (by decide +kernel)) (fun _ _ _ _ _ => (pg_tup rfl (pgs_cons (pg_name (i := 3) sc_have_unlike_olds.nd rfl (.inl rfl)) (pgs_cons (pg_name (i := 4) sc_have_unlike_olds.nd rfl (.inl rfl)) (pgs_cons (pg_name (i := 5) sc_have_unlike_olds.nd rfl (.inl rfl)) pgs_nil))))) (fun _ _ _ _ _ => pts_nil) (fun _ _ _ _ _ => (pe_and (pe_cmp (pc_din hu (pv 3) (pv 2))) (pe_one (pe_cmpR op_ne (pe_ix (ix_tupK (K := K) rfl) (pe_dget hu (pv 2) (pv 3) (fun _ _ => rfl)) pe_int (fun _ _ => rfl)) (pv 4) (nomark _)))))) pa_nil))))), ?_⟩
    have le := (LR.len e).trans (List.length_map _)
    refine ⟨_, rfl, a, sh, rfl, hs, pw, by omega, fun H1 d kvs s1 nd bp => ?_⟩
    refine ⟨_, rfl, b, rfl, ⟨_, SqL.of (s1 _ _ hb)⟩, fun D hD => ?_⟩
    refine lc_it (walk_list (xs := ks.map fun k => V.ref k.1)) (Grow H1 D (BB fun i => (th.take i).map (unf sh))) (Grow.start hD rfl) (fun i H2 _ g => SqL.of (g.same _ _ (s1 _ _ hb))) ?_ ?_
    · rintro i v H2 H3 hi ⟨acc, hacc, s3, bo, hle⟩ ⟨rfl, e2⟩
      obtain ⟨kk, hi2, rfl, hx, hm⟩ := LR.get e e2
      obtain ⟨y, hx', e3⟩ := Em.getElem_map hx
      have ht : H3 kk.1 = some (.tup (kk.2.map V.int)) := s3 _ _ (s1 _ _ (hk _ hm))
      rw [e3] at ht
      have hi4 := (List.getElem?_eq_some_iff.mp hx').1
      have b3 := bp.same s3
      have fin : ∀ c, c = unf sh y → ∃ acc, H3 D = some (.lst acc) ∧ acc.length < sizeLine ∧ Grow H1 D (BB fun i => (th.take i).map (unf sh)) (i + 1) (upd H3 D (.lst (acc ++ [.bl c]))) := fun c hc =>
        Grow.put hD hacc s3 hle (by omega) (Same.refl _) (bo.put (by show (th.take (i + 1)).map (unf sh) = _; rw [Em.take_next hx', List.map_append, hc]; rfl))
      refine tup3 ht ⟨rfl, tyes ?_⟩
      refine ⟨_, rfl, _, rfl, d, _, rfl, b3.get (p := y.place), _, rfl, ?_⟩
      rw [b3.isSome]
      cases q : Vbceaj.at? sh y.place with
      | none =>
        refine ifF rfl ?_
        exact fin false (by unfold unf; rw [q])
      | some x =>
        refine ifT rfl ?_
        obtain ⟨t, h1, h2⟩ := b3.some q
        refine ⟨_, rfl, _, rfl, d, .ref t, rfl, (by have := b3.get (p := y.place); rw [h1] at this; exact this), t, _, _, _, rfl, rfl, SqT.of h2, atI0, _, rfl, rfl, ?_⟩
        rw [dV]
        exact fin _ (by unfold unf; rw [q])
    · intro H2 g
      have z := BB.done g
      rw [le, List.take_length] at z
      refine ⟨D, _, rfl, SqL.of z, ?_⟩
      rw [any_take]
      exact k _ (s1.trans g.same)
/-- two sheets give a third -/
def spTwoS (f : Sheet → Sheet → Sheet) (ask : Sheet → Sheet → Prop) : Sp := fun vs H Q _ => ∃ (a b : Addr) (s t : Sheet) (n : Nat), vs = [.ref a, .ref b] ∧ RS H a s ∧ RS H b t ∧ Em.IsS n s ∧ Em.IsS n t ∧ n ≤ 60 ∧ s.length ≤ 100 ∧ t.length ≤ 100 ∧ ask s t ∧ ∀ H' p, Same H H' → H p = none → RS H' p (f s t) → Q (.ref p) H'
theorem ok_left (T : Txt K mg Z) : OkF P w K mg base CX0 2 "left" ["first", "second"] (spTwoS Vbceaj.leftOf (fun _ _ => True)) := by
  obtain ⟨f0, fd0, g0, F0⟩ := T.d_left
  obtain ⟨f_by_places, fd_by_places, g_by_places, k_by_places, G_by_places, B_by_places⟩ := ok_by_places (P := P) (w := w) (base := base) T
  refine ⟨f0, fd0, g0, F0.kp, F0.ok sc_left (fun vs H Q E h => ?_) (fun cdv A outer s H vs Q E hr h => ?_), (F0.binds fun _ _ _ _ _ _ us hl => match us, hl with | [_, _], _ => rfl)⟩
  · obtain ⟨a, b, s, t, n, rfl, _⟩ := h
    rfl
  · obtain ⟨a, b, sh, th, n, rfl, hs, ⟨ks, e, hb, hk⟩, i1, i2, hn, l1, l2, _, k⟩ := h
    have hu := hu_of hr
    refine ⟨_, (pss_cons (ps_set (i := 2) sc_left.nd rfl (Or.inl rfl) (pe_call G_by_places (hr.mono (by decide)) rfl g_by_places k_by_places B_by_places .nil pass0 (pa_cons (pv 0) pa_nil)))
  (pss_cons (ps_set (i := 3) sc_left.nd rfl (Or.inl rfl) (pe_lst pa_nil))
  (pss_cons (ps_for PassesOwn.never rfl (pi_list (pv 1)) (pg_tup rfl (pgs_cons (pg_name (i := 4) sc_left.nd rfl (.inl rfl)) (pgs_cons (pg_name (i := 5) sc_left.nd rfl (.inl rfl)) (pgs_cons (pg_name (i := 6) sc_left.nd rfl (.inl rfl)) pgs_nil))))
  (pss_cons (ps_set (i := 7) sc_left.nd rfl (Or.inl rfl) (pv 5))
  (pss_cons (ps_if (pt_cmp (pc_din hu (pv 4) (pv 2))) (pss_one (ps_set (i := 7) sc_left.nd rfl (Or.inl rfl) (pe_ix ix_tup (pe_dget hu (pv 2) (pv 4) (fun _ _ => rfl)) pe_int (fun _ _ => rfl)))) pss_nil)
  (pss_one (ps_if (pt_cmpR op_ne (pv 7) (pv 6) (nomark _)) (pss_one (ps_expr (pe_bm PySem.F.plainAttrs_list PySem.F.slot_list_append PySem.F.type_list_append mt_append (pv 3) (pa_cons (pe_tup (pa_cons (pv 4) (pa_cons (pv 7) (pa_cons (pv 6) pa_nil)))) pa_nil)))) pss_nil)))))
  (pss_one (ps_ret (pv 3)))))), ?_⟩
    have le := (LR.len e).trans (List.length_map _)
    refine ⟨_, rfl, a, sh, rfl, hs, i1.pw, by omega, fun H1 d kvs s1 nd bp => ?_⟩
    refine ⟨(by show 0 ≤ sizeLine; decide), fun p np => ?_⟩
    refine ⟨_, rfl, b, rfl, ⟨_, SqL.of (same_new np _ _ (s1 _ _ hb))⟩, for_list (K := K) (a := b) (xs := ks.map fun k => V.ref k.1) (fun i σ H2 => ∃ (x y z u : Option V), σ = [some (.ref a), some (.ref b), some (.ref d), some (.ref p), x, y, z, u] ∧ Grow H1 p (BO TupI fun i => ((th.take i).filterMap (Em.leftStep sh)).map Em.trip) i H2)
      ⟨none, none, none, none, rfl, Grow.start np (BO.zero rfl)⟩ (fun i σ H2 _ ⟨_, _, _, _, _, g⟩ => SqL.of (g.same _ _ (s1 _ _ hb))) ?_ ?_⟩
    · rintro i v σ H2 hi ⟨x1, y1, z1, u1, rfl, acc, hacc, s3, bo, hle⟩
      obtain ⟨kk, hi2, rfl, hx, hm⟩ := LR.get e hi
      obtain ⟨y, hx', e3⟩ := Em.getElem_map hx
      have ht : H2 kk.1 = some (.tup (kk.2.map V.int)) := s3 _ _ (s1 _ _ (hk _ hm))
      rw [e3] at ht
      have hi4 := (List.getElem?_eq_some_iff.mp hx').1
      have b3 := bp.same s3
      have nx := Em.filterMap_next (f := Em.leftStep sh) hx'
      refine tup3 ht ?_
      refine ⟨_, rfl, _, rfl, _, rfl, d, _, rfl, b3.get (p := y.place), _, rfl, ?_⟩
      rw [b3.isSome]
      have go : ∀ (hr : Int), Em.leftStep sh y = (if hr = y.new then none else some { y with old := hr }) → (hr = y.new → ∀ H4, Same H2 H4 → Grow H1 p (BO TupI fun i => ((th.take i).filterMap (Em.leftStep sh)).map Em.trip) (i + 1) H4) ∧
          (hr ≠ y.new → ∀ t, H2 t = none → ∃ acc', (upd H2 t (.tup [.int y.place, .int hr, .int y.new])) p = some (.lst acc') ∧ acc'.length < sizeLine ∧ Grow H1 p (BO TupI fun i => ((th.take i).filterMap (Em.leftStep sh)).map Em.trip) (i + 1) (upd (upd H2 t (.tup [.int y.place, .int hr, .int y.new])) p (.lst (acc' ++ [.ref t])))) := by
        intro hr hs
        refine ⟨fun q H4 s4 => Grow.keep hacc s3 hle s4 (bo.keep mTup (rem_same s4) ?_), fun q t nt => ?_⟩
        · show ((th.take (i + 1)).filterMap (Em.leftStep sh)).map Em.trip = _
          rw [nx, hs, if_pos q]; simp
        · refine Grow.put np hacc s3 hle (by omega) (same_new nt) (bo.put (x := Em.trip { y with old := hr }) mTup (rem_same (same_new nt)) (tup_rem hacc nt rfl) ?_)
          show ((th.take (i + 1)).filterMap (Em.leftStep sh)).map Em.trip = _
          rw [nx, hs, if_neg q, List.map_append]; rfl
      cases q : Vbceaj.at? sh y.place with
      | none =>
        refine ifF rfl ?_
        obtain ⟨g1, g2⟩ := go y.old (by
          unfold Em.leftStep; rw [q]
          show some y = _
          rw [if_neg (i2.ne y (List.mem_of_getElem? hx'))])
        refine ⟨_, rfl, _, rfl, rfl, _, rfl, ?_⟩
        rw [dV, decide_eq_false (i2.ne y (List.mem_of_getElem? hx'))]
        refine ifT rfl ?_
        refine ⟨_, rfl, .inl ⟨rfl, _, SqL.of hacc⟩, _, rfl, _, rfl, _, rfl, (by show 3 ≤ sizeLine; decide), fun t nt => ?_⟩
        obtain ⟨acc', q1, q2, q3⟩ := g2 (i2.ne y (List.mem_of_getElem? hx')) t nt
        exact ⟨p, _, _, rfl, rfl, q1, q2, _, _, _, _, rfl, q3⟩
      | some x =>
        refine ifT rfl ?_
        obtain ⟨t0, h1, h2⟩ := b3.some q
        obtain ⟨g1, g2⟩ := go x.new (by unfold Em.leftStep; rw [q])
        refine ⟨_, rfl, _, rfl, d, .ref t0, rfl, (by have := b3.get (p := y.place); rw [h1] at this; exact this), t0, _, _, _, rfl, rfl, SqT.of h2, atI1, ?_⟩
        refine ⟨_, rfl, _, rfl, rfl, _, rfl, ?_⟩
        rw [dV]
        by_cases z : x.new = y.new
        · rw [decide_eq_true z]
          refine ifF rfl ?_
          exact ⟨_, _, _, _, rfl, g1 z _ (Same.refl _)⟩
        · rw [decide_eq_false z]
          refine ifT rfl ?_
          refine ⟨_, rfl, .inl ⟨rfl, _, SqL.of hacc⟩, _, rfl, _, rfl, _, rfl, (by show 3 ≤ sizeLine; decide), fun t nt => ?_⟩
          obtain ⟨acc', q1, q2, q3⟩ := g2 z t nt
          exact ⟨p, _, _, rfl, rfl, q1, q2, _, _, _, _, rfl, q3⟩
    · rintro σ H2 ⟨x1, y1, z1, u1, rfl, g⟩
      have z := BO.done mTup g
      rw [le, List.take_length, ← Em.left_eq] at z
      exact ⟨_, rfl, k _ p (s1.trans g.same) (s1.free np) z⟩
end
end EX
namespace EX
open PySem PySem.Spec PyProof.Rows L2
open Vbceaj (Sheet Erratum)
theorem get_old {H : Hp} {d d' : Addr} {kvs kvs' : List (Key × V)} {s t : Sheet} (b : ByP H d kvs s) (b' : ByP H d' kvs' t) {p : Nat} (hp : p ∈ Vbceaj.places s ∨ p ∈ Vbceaj.places t) :
    ∃ (u : Addr) (x : Int), (valV kvs (Sum.inl (p : Int))).getD ((valV kvs' (Sum.inl (p : Int))).getD .non) = .ref u ∧ H u = some (.tup [.int (Em.oldAt s t p), .int x]) := by
  unfold Em.oldAt
  cases q : Vbceaj.at? s p with
  | some x =>
    obtain ⟨u, h1, h2⟩ := b.some q
    exact ⟨u, x.new, by rw [h1]; rfl, h2⟩
  | none =>
    rw [b.none q]
    cases q' : Vbceaj.at? t p with
    | some y =>
      obtain ⟨u, h1, h2⟩ := b'.some q'
      exact ⟨u, y.new, by rw [h1]; rfl, h2⟩
    | none =>
      rcases hp with h | h
      · have := Em.at_isSome.mpr h; rw [q] at this; cases this
      · have := Em.at_isSome.mpr h; rw [q'] at this; cases this
theorem get_new {H : Hp} {d d' : Addr} {kvs kvs' : List (Key × V)} {s t : Sheet} (b : ByP H d kvs s) (b' : ByP H d' kvs' t) {p : Nat} (hp : p ∈ Vbceaj.places s ∨ p ∈ Vbceaj.places t) :
    ∃ (u : Addr) (x : Int), (valV kvs' (Sum.inl (p : Int))).getD ((valV kvs (Sum.inl (p : Int))).getD .non) = .ref u ∧ H u = some (.tup [.int x, .int (Em.newAt s t p)]) := by
  unfold Em.newAt
  cases q' : Vbceaj.at? t p with
  | some y =>
    obtain ⟨u, h1, h2⟩ := b'.some q'
    exact ⟨u, y.old, by rw [h1]; rfl, h2⟩
  | none =>
    rw [b'.none q']
    cases q : Vbceaj.at? s p with
    | some x =>
      obtain ⟨u, h1, h2⟩ := b.some q
      exact ⟨u, x.old, by rw [h1]; rfl, h2⟩
    | none =>
      rcases hp with h | h
      · have := Em.at_isSome.mpr h; rw [q] at this; cases this
      · have := Em.at_isSome.mpr h; rw [q'] at this; cases this
def behF (s t : Sheet) : Sheet := (Vbceaj.bothPlaces s t).filterMap (Em.behStep s t)
theorem both_len {n m : Nat} {s t : Sheet} (hs : Em.IsS n s) (ht : Em.IsS m t) (hn : n ≤ 60) (hm : m ≤ 60) : (Vbceaj.bothPlaces s t).length ≤ 60 := by
  have h := nodup_lt 60 ((Vbceaj.bothPlaces s t).map fun (n : Nat) => (n : Int)) (List.pairwise_map.mpr ((Em.both hs ht).1.imp fun h => by omega)) fun x hx => by
    obtain ⟨p, hp, rfl⟩ := List.mem_map.mp hx
    rcases ((Em.both hs ht).2 _).mp hp with h | h
    · obtain ⟨y, hy, rfl⟩ := List.mem_map.mp h; have := hs.lt y hy; omega
    · obtain ⟨y, hy, rfl⟩ := List.mem_map.mp h; have := ht.lt y hy; omega
  rw [List.length_map] at h
  exact h
theorem eqv_pair {a b c d : Int} : PyData.eqv (.tuple [.int a, .int b]) (.tuple [.int c, .int d]) = (decide (a = c) && decide (b = d)) := by
  show ((a == c) && ((b == d) && true)) = _
  rw [Bool.and_true]
  congr 1 <;> (by_cases h : _ = _ <;> simp)
section
variable {P : Program} {w : World} {K : PySem.W.Frag} {mg : Str → Option Value} {base : Heap} {Z : Ad}
theorem ok_behind (T : Txt K mg Z) : OkF P w K mg base CX0 2 "behind" ["first", "second"] (spTwoS behF (fun _ _ => True)) := by
  obtain ⟨f0, fd0, g0, F0⟩ := T.d_behind
  obtain ⟨f_by_places, fd_by_places, g_by_places, k_by_places, G_by_places, B_by_places⟩ := ok_by_places (P := P) (w := w) (base := base) T
  obtain ⟨f_all_places, fd_all_places, g_all_places, k_all_places, G_all_places, B_all_places⟩ := ok_all_places (P := P) (w := w) (base := base) T
  refine ⟨f0, fd0, g0, F0.kp, F0.ok sc_behind (fun vs H Q E h => ?_) (fun cdv A outer s H vs Q E hr h => ?_), (F0.binds fun _ _ _ _ _ _ us hl => match us, hl with | [_, _], _ => rfl)⟩
  · obtain ⟨a, b, s, t, n, rfl, _⟩ := h
    rfl
  · obtain ⟨a, b, sh, th, n, rfl, hs, ht, i1, i2, hn, l1, l2, _, k⟩ := h
    have hu := hu_of hr
    refine ⟨_, (pss_cons (ps_par (i := 2) (j := 3) (by rfl) sc_behind.nd rfl rfl (by decide) rfl rfl (pa_cons (pe_call G_by_places (hr.mono (by decide)) rfl g_by_places k_by_places B_by_places .nil pass0 (pa_cons (pv 0) pa_nil)) (pa_cons (pe_call G_by_places (hr.mono (by decide)) rfl g_by_places k_by_places B_by_places .nil pass0 (pa_cons (pv 1) pa_nil)) pa_nil)) (by rfl))
  (pss_cons (ps_set (i := 4) sc_behind.nd rfl (Or.inl rfl) (pe_lst pa_nil))
  (pss_cons (ps_for PassesOwn.never rfl (pi_list (pe_call G_all_places (hr.mono (by decide)) rfl g_all_places k_all_places B_all_places .nil pass0 (pa_cons (pv 0) (pa_cons (pv 1) pa_nil)))) (pg_name (i := 5) sc_behind.nd rfl (.inl rfl))
  (pss_cons (ps_set (i := 6) sc_behind.nd rfl (Or.inl rfl) (pe_ix ix_tup (pe_dget2 hu (pv 2) (pv 5) (pe_dget1 hu (pv 3) (pv 5) ⟨rfl, rfl, rfl, rfl⟩) ⟨rfl, rfl, rfl, rfl⟩) pe_int (fun _ _ => rfl)))
  (pss_cons (ps_set (i := 7) sc_behind.nd rfl (Or.inl rfl) (pe_ix ix_tup (pe_dget2 hu (pv 3) (pv 5) (pe_dget1 hu (pv 2) (pv 5) ⟨rfl, rfl, rfl, rfl⟩) ⟨rfl, rfl, rfl, rfl⟩) pe_int (fun _ _ => rfl)))
  (pss_one (ps_if (pt_cmpR op_ne (pv 6) (pv 7) (nomark _)) (pss_one (ps_expr (pe_bm PySem.F.plainAttrs_list PySem.F.slot_list_append PySem.F.type_list_append mt_append (pv 4) (pa_cons (pe_tup (pa_cons (pv 5) (pa_cons (pv 6) (pa_cons (pv 7) pa_nil)))) pa_nil)))) pss_nil)))))
  (pss_one (ps_ret (pv 4)))))), ?_⟩
    refine ⟨_, rfl, a, sh, rfl, hs, i1.pw, by omega, fun H1 d kvs s1 nd bp => ?_⟩
    refine ⟨_, rfl, b, th, rfl, ht.same s1, i2.pw, by omega, fun H2 d' kvs' s2 nd' bp' => ?_⟩
    refine ⟨_, _, rfl, (by show 0 ≤ sizeLine; decide), fun p np => ?_⟩
    have s3 := same_new (o := .lst []) np
    have s03 : Same H (upd H2 p (.lst [])) := (s1.trans s2).trans s3
    refine ⟨_, rfl, _, rfl, a, b, sh, th, n, rfl, hs.same s03, ht.same s03, i1, i2, hn, l1, l2, fun H3 q s4 nq hq => ?_⟩
    have lb := both_len i1 i2 hn hn
    have qp : q ≠ p := fun z => by rw [z, upd_same] at nq; cases nq
    have hp3 : H3 p = some (.lst []) := s4 _ _ upd_same
    have g0 : Grow (rem p H3) p (BO TupI fun i => (((Vbceaj.bothPlaces sh th).take i).filterMap (Em.behStep sh th)).map Em.trip) 0 H3 := ⟨[], hp3, rem_up, BO.zero rfl, Nat.le_refl _⟩
    have hq' : (rem p H3) q = some (.lst (((Vbceaj.bothPlaces sh th).map fun (n : Nat) => (n : Int)).map V.int)) := by rw [rem_ne qp]; exact hq
    have np2 : H p = none := (s1.trans s2).free np
    have np3 : (rem p H3) p = none := if_pos rfl
    have sr : Same H2 (rem p H3) := same_rem (s3.trans s4) np
    refine ⟨q, rfl, ⟨_, SqL.of hq⟩, for_list (K := K) (a := q) (xs := ((Vbceaj.bothPlaces sh th).map fun (n : Nat) => (n : Int)).map V.int) (fun i σ H4 => ∃ (x y z : Option V), σ = [some (.ref a), some (.ref b), some (.ref d), some (.ref d'), some (.ref p), x, y, z] ∧ Grow (rem p H3) p (BO TupI fun i => (((Vbceaj.bothPlaces sh th).take i).filterMap (Em.behStep sh th)).map Em.trip) i H4)
      ⟨none, none, none, rfl, g0⟩ (fun i σ H4 _ ⟨_, _, _, _, g⟩ => SqL.of (g.same _ _ hq')) ?_ ?_⟩
    · rintro i v σ H4 hi ⟨x1, y1, z1, rfl, acc, hacc, s5, bo, hle⟩
      obtain ⟨z, hz, rfl⟩ := Em.getElem_map hi
      obtain ⟨pl, hpl, rfl⟩ := Em.getElem_map hz
      have hm := List.mem_of_getElem? hpl
      have hpp := ((Em.both i1 i2).2 pl).mp hm
      have b4 := (bp.same s2).same (sr.trans s5)
      have b4' := bp'.same (sr.trans s5)
      obtain ⟨u, x, o1, o2⟩ := get_old b4 b4' hpp
      obtain ⟨u', x', o1', o2'⟩ := get_new b4 b4' hpp
      have nx := Em.filterMap_next (f := Em.behStep sh th) hpl
      have bs := Em.behStep_eq i1 i2 hm
      have il := (List.getElem?_eq_some_iff.mp hpl).1
      refine ⟨_, rfl, d, rfl, b4.isD, _, rfl, _, rfl, d', rfl, b4'.isD, _, rfl, _, b4'.get (p := pl), _, b4.get (p := pl), ?_⟩
      refine ⟨u, _, _, _, o1, rfl, SqT.of o2, atI0, ?_⟩
      refine ⟨_, rfl, d', rfl, b4'.isD, _, rfl, _, rfl, d, rfl, b4.isD, _, rfl, _, b4.get (p := pl), _, b4'.get (p := pl), ?_⟩
      refine ⟨u', _, _, _, o1', rfl, SqT.of o2', atI1, ?_⟩
      refine ⟨_, rfl, _, rfl, rfl, _, rfl, ?_⟩
      rw [dV]
      by_cases e : Em.oldAt sh th pl = Em.newAt sh th pl
      · rw [decide_eq_true e]
        refine ifF rfl ?_
        refine ⟨_, _, _, rfl, Grow.keep hacc s5 hle (Same.refl _) (bo.keep mTup (Same.refl _) ?_)⟩
        show (((Vbceaj.bothPlaces sh th).take (i + 1)).filterMap (Em.behStep sh th)).map Em.trip = _
        rw [nx, bs, if_pos e]; simp
      · rw [decide_eq_false e]
        refine ifT rfl ?_
        refine ⟨_, rfl, .inl ⟨rfl, _, SqL.of hacc⟩, _, rfl, _, rfl, _, rfl, (by show 3 ≤ sizeLine; decide), fun t nt => ?_⟩
        obtain ⟨acc', q1, q2, q3⟩ := Grow.put (y := .ref t) np3 hacc s5 hle (by omega) (same_new nt) (bo.put (x := Em.trip { place := pl, old := Em.oldAt sh th pl, new := Em.newAt sh th pl }) mTup (rem_same (same_new nt)) (tup_rem hacc nt rfl) (by
          show (((Vbceaj.bothPlaces sh th).take (i + 1)).filterMap (Em.behStep sh th)).map Em.trip = _
          rw [nx, bs, if_neg e, List.map_append]; rfl))
        exact ⟨p, _, _, rfl, rfl, q1, q2, _, _, _, rfl, q3⟩
    · rintro σ H4 ⟨x1, y1, z1, rfl, g⟩
      have z := BO.done mTup g
      rw [List.length_map, List.length_map, List.take_length] at z
      exact ⟨_, rfl, k _ p ((s1.trans s2).trans (sr.trans g.same)) np2 z⟩
def spClash : Sp := fun vs H Q _ => ∃ (a b : Addr) (s t : Sheet) (n : Nat), vs = [.ref a, .ref b] ∧ RS H a s ∧ RS H b t ∧ Em.IsS n s ∧ Em.IsS n t ∧ n ≤ 60 ∧ s.length ≤ 100 ∧ t.length ≤ 100 ∧ ∀ H' p, Same H H' → H p = none → LI H' p (((Vbceaj.bothPlaces s t).filter (Em.clashAt s t)).map fun (n : Nat) => (n : Int)) → Q (.ref p) H'
theorem ok_clashes (T : Txt K mg Z) : OkF P w K mg base CX0 2 "clashes" ["first", "second"] (spClash) := by
  obtain ⟨f0, fd0, g0, F0⟩ := T.d_clashes
  obtain ⟨f_by_places, fd_by_places, g_by_places, k_by_places, G_by_places, B_by_places⟩ := ok_by_places (P := P) (w := w) (base := base) T
  obtain ⟨f_all_places, fd_all_places, g_all_places, k_all_places, G_all_places, B_all_places⟩ := ok_all_places (P := P) (w := w) (base := base) T
  refine ⟨f0, fd0, g0, F0.kp, F0.ok sc_clashes (fun vs H Q E h => ?_) (fun cdv A outer s H vs Q E hr h => ?_), (F0.binds fun _ _ _ _ _ _ us hl => match us, hl with | [_, _], _ => rfl)⟩
  · obtain ⟨a, b, s, t, n, rfl, _⟩ := h
    rfl
  · obtain ⟨a, b, sh, th, n, rfl, hs, ht, i1, i2, hn, l1, l2, k⟩ := h
    have hu := hu_of hr
    refine ⟨_, (pss_cons (ps_asg (pe_tup (pa_cons (pe_call G_by_places (hr.mono (by decide)) rfl g_by_places k_by_places B_by_places .nil pass0 (pa_cons (pv 0) pa_nil)) (pa_cons (pe_call G_by_places (hr.mono (by decide)) rfl g_by_places k_by_places B_by_places .nil pass0 (pa_cons (pv 1) pa_nil)) pa_nil))) (pg_tup rfl (pgs_cons (pg_name (i := 2) sc_clashes.nd rfl (.inr rfl)) (pgs_cons (pg_name (i := 3) sc_clashes.nd rfl (.inr rfl)) pgs_nil))))
  (pss_cons (ps_set (i := 4) sc_clashes.nd rfl (Or.inl rfl) (pe_call G_all_places (hr.mono (by decide)) rfl g_all_places k_all_places B_all_places .nil pass0 (pa_cons (pv 0) (pa_cons (pv 1) pa_nil))))
  (pss_one (ps_ret (pe_lc (own := [("place", 5)]) (g := gName 5) rfl sc_clashes.nd (pi_list (pv 4)) (blkOk_by (N := ["first", "second", "one", "other", "places", "place"]) (sc := defScope s_clashes) (by decide +kernel)) (fun _ _ _ _ _ => (pg_name (i := 5) sc_clashes.nd rfl (.inl rfl))) (fun _ _ _ _ _ => pts_one (PW.pt (pw_and (pt_cmp (pc_din hu (pv 5) (pv 2))) (pw_and (pt_cmp (pc_din hu (pv 5) (pv 3))) (pw_and1 (pt_cmpR (op_neDK (K := K) rfl hr.units) (pe_dget hu (pv 2) (pv 5) (fun _ _ => rfl)) (pe_dget hu (pv 3) (pv 5) (fun _ _ => rfl)) (nomark _))))))) (fun _ _ _ _ _ => (pv 5))))))), ?_⟩
    refine ⟨_, rfl, a, sh, rfl, hs, i1.pw, by omega, fun H1 d kvs s1 nd bp => ?_⟩
    refine ⟨_, rfl, b, th, rfl, ht.same s1, i2.pw, by omega, fun H2 d' kvs' s2 nd' bp' => ?_⟩
    refine ⟨(by show 2 ≤ sizeLine; decide), fun t0 nt0 => tup2 upd_same ?_⟩
    have s3 := (s1.trans s2).trans (same_new (o := .tup [.ref d, .ref d']) nt0)
    refine ⟨_, rfl, _, rfl, a, b, sh, th, n, rfl, hs.same s3, ht.same s3, i1, i2, hn, l1, l2, fun H3 q s4 nq hq => ?_⟩
    have lb := both_len i1 i2 hn hn
    have sr : Same H2 H3 := (same_new (o := .tup [.ref d, .ref d']) nt0).trans s4
    refine ⟨_, rfl, q, rfl, ⟨_, SqL.of hq⟩, fun D hD => ?_⟩
    refine lc_it (walk_list (xs := ((Vbceaj.bothPlaces sh th).map fun (n : Nat) => (n : Int)).map V.int)) (Grow H3 D (BI fun i => (((Vbceaj.bothPlaces sh th).take i).filter (Em.clashAt sh th)).map fun (n : Nat) => (n : Int))) (Grow.start hD rfl) (fun i H2 _ g => SqL.of (g.same _ _ hq)) ?_ ?_
    · rintro i v H4 H5 hi ⟨acc, hacc, s5, bo, hle⟩ ⟨rfl, e2⟩
      obtain ⟨z, hz, rfl⟩ := Em.getElem_map e2
      obtain ⟨pl, hpl, rfl⟩ := Em.getElem_map hz
      have hi4 := (List.getElem?_eq_some_iff.mp hpl).1
      have b4 := (bp.same s2).same (sr.trans s5)
      have b4' := bp'.same (sr.trans s5)
      have nx : ((Vbceaj.bothPlaces sh th).take (i + 1)).filter (Em.clashAt sh th) = ((Vbceaj.bothPlaces sh th).take i).filter (Em.clashAt sh th) ++ (if Em.clashAt sh th pl = true then [pl] else []) := by
        rw [Em.take_next hpl, List.filter_append]
        congr 1
        cases c : Em.clashAt sh th pl <;> simp [c]
      have no : Em.clashAt sh th pl = false → Grow H3 D (BI fun i => (((Vbceaj.bothPlaces sh th).take i).filter (Em.clashAt sh th)).map fun (n : Nat) => (n : Int)) (i + 1) H5 := fun c =>
        Grow.keep hacc s5 hle (Same.refl _) (bo.keep (by
          show (((Vbceaj.bothPlaces sh th).take (i + 1)).filter (Em.clashAt sh th)).map _ = _
          rw [nx, c, if_neg (by decide), List.append_nil]))
      refine ⟨rfl, ?_⟩
      refine ⟨_, rfl, _, rfl, d, _, rfl, b4.get (p := pl), _, rfl, ?_⟩
      rw [b4.isSome]
      cases q1 : Vbceaj.at? sh pl with
      | none =>
        refine ifF rfl (ifF rfl (no ?_))
        unfold Em.clashAt; rw [q1]
      | some x =>
        refine ifT rfl ?_
        refine ⟨_, rfl, _, rfl, d', _, rfl, b4'.get (p := pl), _, rfl, ?_⟩
        rw [b4'.isSome]
        cases q2 : Vbceaj.at? th pl with
        | none =>
          refine ifF rfl (ifF rfl (no ?_))
          unfold Em.clashAt; rw [q1, q2]
        | some y =>
          refine ifT rfl ?_
          obtain ⟨t1, h1, h2⟩ := b4.some q1
          obtain ⟨t2, h3, h4⟩ := b4'.some q2
          refine ⟨_, rfl, _, rfl, d, .ref t1, rfl, (by have := b4.get (p := pl); rw [h1] at this; exact this), _, rfl, _, rfl, d', .ref t2, rfl, (by have := b4'.get (p := pl); rw [h3] at this; exact this), ?_⟩
          refine ⟨_, _, .tup (SqT.of h2) (.cons (.int _) (.cons (.int _) .nil)), .tup (SqT.of h4) (.cons (.int _) (.cons (.int _) .nil)), rfl, rfl, _, rfl, ?_⟩
          rw [eqv_pair]
          have px : x.place = pl := (Em.at_some q1).2
          have py : y.place = pl := (Em.at_some q2).2
          have ec : Em.clashAt sh th pl = !(decide (x.old = y.old) && decide (x.new = y.new)) := by
            unfold Em.clashAt; rw [q1, q2]
            show (!(x == y)) = _
            congr 1
            obtain ⟨p1, o1, n1⟩ := x
            obtain ⟨p2, o2, n2⟩ := y
            rw [Bool.eq_iff_iff]
            simp only [beq_iff_eq, Erratum.mk.injEq, Bool.and_eq_true, decide_eq_true_eq]
            exact ⟨fun h => h.2, fun h => ⟨px.trans py.symm, h⟩⟩
          rw [← ec]
          refine if_dec (fun c => ?_) fun c => no c
          refine ⟨_, rfl, Grow.put hD hacc s5 hle (by omega) (Same.refl _) (bo.put ?_)⟩
          show (((Vbceaj.bothPlaces sh th).take (i + 1)).filter (Em.clashAt sh th)).map _ = _
          rw [nx, if_pos c, List.map_append]; rfl
    · intro H4 g
      have z := BI.done g
      rw [List.length_map, List.length_map, List.take_length] at z
      have s6 : Same H H3 := (s1.trans s2).trans sr
      exact k _ D (s6.trans g.same) (s6.free hD) z
end
end EX
namespace EX
open PySem PySem.Spec PyProof.Rows L2
open Vbceaj (Sheet Erratum)
theorem trip_inj {x y : Erratum} (h : Em.trip x = Em.trip y) : x = y := by
  obtain ⟨p1, o1, n1⟩ := x
  obtain ⟨p2, o2, n2⟩ := y
  unfold Em.trip at h
  simp only [List.cons.injEq, Int.natCast_inj, and_true] at h
  obtain ⟨h1, h2, h3⟩ := h
  rw [h1, h2, h3]
theorem hd_trip (x : Erratum) : hdI (Em.trip x) = (x.place : Int) := rfl
/-- unlike errata of two sheets that don't clash stand at unlike places -/
theorem fewU {n : Nat} {s t : Sheet} (i1 : Em.IsS n s) (i2 : Em.IsS n t) (hn : n ≤ 60) (hc : Vbceaj.clash s t = none) (L : List (List Int)) (hL : L.Nodup) (hs : ∀ k ∈ L, k ∈ (s ++ t).map Em.trip) : (L.map hdI).Nodup ∧ L.length ≤ 60 := by
  have h1 : (L.map hdI).Nodup := by
    refine List.pairwise_map.mpr (hL.imp_of_mem fun {a b} ha hb hab e => ?_)
    obtain ⟨x, hx, rfl⟩ := List.mem_map.mp (hs a ha)
    obtain ⟨y, hy, rfl⟩ := List.mem_map.mp (hs b hb)
    rw [hd_trip, hd_trip] at e
    exact hab (by rw [Em.one_place i1 i2 hc (List.mem_append.mp hx) (List.mem_append.mp hy) (by omega)])
  refine ⟨h1, ?_⟩
  have := nodup_lt 60 (L.map hdI) h1 fun z hz => by
    obtain ⟨k, hk, rfl⟩ := List.mem_map.mp hz
    obtain ⟨x, hx, rfl⟩ := List.mem_map.mp (hs k hk)
    rw [hd_trip]
    rcases List.mem_append.mp hx with h | h
    · have := i1.lt x h; omega
    · have := i2.lt x h; omega
  rw [List.length_map] at this
  exact this
section
variable {P : Program} {w : World} {K : PySem.W.Frag} {mg : Str → Option Value} {base : Heap} {Z : Ad}
theorem ok_joined (T : Txt K mg Z) : OkF P w K mg base CX0 1 "joined" ["first", "second"] (spTwoS Vbceaj.joined (fun s t => Vbceaj.clash s t = none)) := by
  obtain ⟨f0, fd0, g0, F0⟩ := T.d_joined
  refine ⟨f0, fd0, g0, F0.kp, F0.ok sc_joined (fun vs H Q E h => ?_) (fun cdv A outer s H vs Q E hr h => ?_), (F0.binds fun _ _ _ _ _ _ us hl => match us, hl with | [_, _], _ => rfl)⟩
  · obtain ⟨a, b, s, t, n, rfl, _⟩ := h
    rfl
  · obtain ⟨a, b, sh, th, n, rfl, ⟨ks, e, ha, hk⟩, ⟨js, e', hb, hj⟩, i1, i2, hn, l1, l2, hc, k⟩ := h
    refine ⟨_, (pss_one (ps_ret (pe_callB (cr_sortedTN rfl hr.units) (by rfl) T.b_sorted (by decide +kernel) (pa_cons (pe_callTy (cr_setOfTN rfl hr.units) (by rfl) T.b_set (by decide +kernel) (pa_cons (pe_op op_cat (pv 0) (pv 1)) pa_nil)) pa_nil)))), ?_⟩
    obtain ⟨c1, c2, c3⟩ := LR.cat e e' hk hj
    rw [← List.map_append] at c1
    refine ⟨_, rfl, _, rfl, a, b, _, _, rfl, rfl, ha, hb, Nat.le_of_lt (few (by rw [LR.len e, LR.len e', List.length_map, List.length_map]; omega)), fun p np => ?_⟩
    rw [c3]
    have sp := same_new (o := .lst ((ks ++ js).map fun k => V.ref k.1)) np
    refine ⟨p, ks ++ js, rfl, SqL.of upd_same, fun q hq => SqT.of (sp _ _ (c2 q hq)), fun L hL hs => ?_, fun sa L hsa hsub hall => ?_⟩
    · rw [c1] at hs
      exact Nat.le_trans (fewU i1 i2 hn hc L hL hs).2 (by decide)
    have s2 : Same H (upd (upd H p (.lst ((ks ++ js).map fun k => V.ref k.1))) sa (SetTO P w sa L)) := sp.trans (same_new hsa)
    refine ⟨sa, L, rfl, upd_same, fun q hq => SqT.of (s2 _ _ (c2 q (hsub q hq))), fun q hq z => ?_, fun L' q hperm hnd hpw hq => ?_⟩
    · have : q.2 ∈ (ks ++ js).map (·.2) := List.mem_map.mpr ⟨q, hsub q hq, rfl⟩
      rw [c1, z] at this
      obtain ⟨x, hx, h⟩ := List.mem_map.mp this
      cases h
    have mem : ∀ k, k ∈ L'.map (·.2) ↔ k ∈ (sh ++ th).map Em.trip := fun k => by
      rw [← c1]
      constructor
      · intro h
        obtain ⟨x, hx, rfl⟩ := List.mem_map.mp h
        exact List.mem_map.mpr ⟨x, hsub x (hperm.mem_iff.mp hx), rfl⟩
      · intro h
        obtain ⟨x, hx, rfl⟩ := List.mem_map.mp h
        obtain ⟨y, hy, e⟩ := List.mem_map.mp (hall x hx)
        exact List.mem_map.mpr ⟨y, hperm.mem_iff.mpr hy, e⟩
    have en : L'.map (·.2) = (Vbceaj.joined sh th).map Em.trip := by
      refine Em.key_ext hdI ?_ ?_ fun k => ?_
      · have h1 := (fewU i1 i2 hn hc _ hnd fun k hk => (mem k).mp hk).1
        have h2 : (L'.map (·.2)).Pairwise fun a b => hdI a ≤ hdI b := List.pairwise_map.mpr hpw
        have h3 : (L'.map (·.2)).Pairwise fun a b => hdI a ≠ hdI b := List.pairwise_map.mp h1
        exact (h2.and h3).imp fun h => by omega
      · exact List.pairwise_map.mpr ((Em.joined_pw i1 i2).imp fun h => by rw [hd_trip, hd_trip]; omega)
      · rw [mem k, List.mem_map, List.mem_map]
        constructor
        · rintro ⟨x, hx, rfl⟩
          exact ⟨x, (Em.joined_mem i1 i2 hc x).mpr (List.mem_append.mp hx), rfl⟩
        · rintro ⟨x, hx, rfl⟩
          exact ⟨x, List.mem_append.mpr ((Em.joined_mem i1 i2 hc x).mp hx), rfl⟩
    exact k _ q (s2.trans (same_new hq)) (s2.free hq) ⟨L', en, upd_same, fun x hx => same_new hq _ _ (s2 _ _ (c2 x (hsub x (hperm.mem_iff.mp hx))))⟩
end
end EX
namespace EX
open PySem PySem.Spec PyProof.Rows L2
open Vbceaj (Sheet Erratum)
def fEd (n ss : Addr) : List (Str × V) := [("numbers", V.ref n), ("sheets", V.ref ss)]
def fCp (e m : Int) (n : Addr) : List (Str × V) := [("edition", V.int e), ("many", V.int m), ("numbers", V.ref n)]
def fBk (p l : Int) (le lc : Addr) : List (Str × V) := [("pages", V.int p), ("lines", V.int l), ("editions", V.ref le), ("copies", V.ref lc)]
/-- all that stood but what stands at p -/
def But (p : Addr) (H H' : Hp) : Prop := ∀ b u, H b = some u → b ≠ p → H' b = some u
structure EdR (Z : Ad) (H : Hp) (e : Addr) (x : Vbceaj.Edition) : Prop where
  ob : ∃ dx n ss, H e = some (.ins Z.cEdition dx (fEd n ss)) ∧ LI H n x.numbers ∧ LR RS H ss x.sheets
structure CpR (Z : Ad) (H : Hp) (c : Addr) (x : Vbceaj.Copy) : Prop where
  ob : ∃ dx n, H c = some (.ins Z.cCopy dx (fCp x.edition x.pen n)) ∧ LI H n x.now
theorem EdR.same {Z : Ad} {H H' : Hp} {e : Addr} {x : Vbceaj.Edition} (h : EdR Z H e x) (s : Same H H') : EdR Z H' e x := by
  obtain ⟨dx, n, ss, h1, h2, h3⟩ := h.ob
  exact ⟨dx, n, ss, s _ _ h1, h2.same s, h3.same mRS s⟩
theorem CpR.same {Z : Ad} {H H' : Hp} {e : Addr} {x : Vbceaj.Copy} (h : CpR Z H e x) (s : Same H H') : CpR Z H' e x := by
  obtain ⟨dx, n, h1, h2⟩ := h.ob
  exact ⟨dx, n, s _ _ h1, h2.same s⟩
theorem mEd {Z : Ad} : Mono (EdR Z) := fun _ _ _ _ s h => h.same s
theorem mCp {Z : Ad} : Mono (CpR Z) := fun _ _ _ _ s h => h.same s
/-- an edition as it may be, for n places -/
structure EdOk (n : Nat) (x : Vbceaj.Edition) : Prop where
  num : x.numbers.length = n
  sh : ∀ t ∈ x.sheets, Em.IsS n t
  fw : x.sheets.length ≤ 8
theorem am_zero (x : Vbceaj.Edition) : Vbceaj.amended x 0 = x.numbers := rfl
theorem am_next {x : Vbceaj.Edition} {i : Nat} {t : Sheet} (h : x.sheets[i]? = some t) : Vbceaj.amended x (i + 1) = Em.done t (Vbceaj.amended x i) := by
  unfold Vbceaj.amended
  rw [Em.take_next h, List.foldl_append]
  rfl
theorem am_len {n : Nat} {x : Vbceaj.Edition} (h : x.numbers.length = n) (i : Nat) : (Vbceaj.amended x i).length = n := by
  unfold Vbceaj.amended
  generalize x.sheets.take i = L
  have : ∀ (L : List Sheet) (l : List Int), l.length = n → (L.foldl (fun l s => s.foldl Vbceaj.amendOne l) l).length = n := by
    intro L
    induction L with
    | nil => intro l h; exact h
    | cons s L ih =>
      intro l h
      exact ih _ ((Em.done_length s l).trans h)
  exact this L _ h
theorem am_big {x : Vbceaj.Edition} {i : Nat} (h : x.sheets.length ≤ i) : Vbceaj.amended x i = Vbceaj.whole x := by
  unfold Vbceaj.whole Vbceaj.amended
  rw [List.take_of_length_le h, List.take_length]
section
variable {P : Program} {w : World} {K : PySem.W.Frag} {mg : Str → Option Value} {base : Heap} {Z : Ad}
def spEdI (Z : Ad) : Sp := fun vs H Q _ => ∃ (p dx n : Addr), vs = [.ref p, .ref n] ∧ H p = some (.ins Z.cEdition dx []) ∧ ∀ ss H', H ss = none → H' p = some (.ins Z.cEdition dx (fEd n ss)) → H' ss = some (.lst []) → But p H H' → Q .non H'
theorem ok_Edition_init (T : Txt K mg Z) : OkI P w K mg base CX0 1 Z.cEdition ["self", "numbers"] (spEdI Z) := by
  obtain ⟨f0, fd0, M0, F0⟩ := T.d_Edition_init
  refine ⟨f0, fd0, M0, F0.ok sc_Edition_init (fun vs H Q E h => ?_) (fun cdv A outer s H vs Q E hr h => ?_), (F0.binds fun _ _ _ _ _ _ us hl => match us, hl with | [_, _], _ => rfl)⟩
  · obtain ⟨p, dx, n, rfl, _⟩ := h
    rfl
  · obtain ⟨p, dx, n, rfl, hp, k⟩ := h
    refine ⟨_, (pss_cons (ps_fld (pv 0) (pv 1) rfl)
  (pss_one (ps_fld (pv 0) (pe_lst pa_nil) rfl))), ?_⟩
    refine ⟨_, rfl, _, rfl, p, _, dx, _, rfl, hp, T.cl_Edition, T.n_Edition_numbers, (by show 0 < 1000; decide), (by show 0 ≤ sizeLine; decide), fun ss nss => ?_⟩
    have ps : p ≠ ss := fun z => by rw [← z, upd_same] at nss; cases nss
    refine ⟨_, rfl, p, _, dx, _, rfl, (by rw [upd_ne ps, upd_same]), T.cl_Edition, T.n_Edition_sheets, (by show 1 < 1000; decide), ?_⟩
    rw [upd_ne ps.symm] at nss
    refine k ss _ nss upd_same (by rw [upd_ne ps.symm, upd_same]) fun b u e h => ?_
    rw [upd_ne h, upd_ne (ne_of_none e nss), upd_ne h]
    exact e
def spCpI (Z : Ad) : Sp := fun vs H Q _ => ∃ (p dx n : Addr) (e : Int) (l : List Int), vs = [.ref p, .int e, .ref n] ∧ H p = some (.ins Z.cCopy dx []) ∧ LI H n l ∧ ∀ n' H', H n' = none → H' p = some (.ins Z.cCopy dx (fCp e 0 n')) → LI H' n' l → But p H H' → Q .non H'
theorem ok_Copy_init (T : Txt K mg Z) : OkI P w K mg base CX0 1 Z.cCopy ["self", "edition", "numbers"] (spCpI Z) := by
  obtain ⟨f0, fd0, M0, F0⟩ := T.d_Copy_init
  refine ⟨f0, fd0, M0, F0.ok sc_Copy_init (fun vs H Q E h => ?_) (fun cdv A outer s H vs Q E hr h => ?_), (F0.binds fun _ _ _ _ _ _ us hl => match us, hl with | [_, _, _], _ => rfl)⟩
  · obtain ⟨p, dx, n, e, l, rfl, _⟩ := h
    rfl
  · obtain ⟨p, dx, n, e, l, rfl, hp, hn, k⟩ := h
    refine ⟨_, (pss_cons (ps_fld (pv 0) (pv 1) rfl)
  (pss_cons (ps_fld (pv 0) pe_int rfl)
  (pss_one (ps_fld (pv 0) (pe_callTy call_list_of (by rfl) T.b_list (by decide +kernel) (pa_cons (pv 2) pa_nil)) rfl)))), ?_⟩
    have pn : n ≠ p := ne_of hn hp (by intro z; cases z)
    refine ⟨_, rfl, _, rfl, p, _, dx, _, rfl, hp, T.cl_Copy, T.n_Copy_edition, (by show 0 < 1000; decide), ?_⟩
    refine ⟨_, rfl, p, _, dx, _, rfl, upd_same, T.cl_Copy, T.n_Copy_many, (by show 1 < 1000; decide), ?_⟩
    refine ⟨_, rfl, n, _, rfl, .inl (SqL.of (by rw [upd_ne pn, upd_ne pn]; exact hn)), fun n' nn => ?_⟩
    have pn' : p ≠ n' := fun z => by rw [← z, upd_same] at nn; cases nn
    refine ⟨_, rfl, p, _, dx, _, rfl, (by rw [upd_ne pn', upd_same]), T.cl_Copy, T.n_Copy_numbers, (by show 2 < 1000; decide), ?_⟩
    rw [upd_ne pn'.symm, upd_ne pn'.symm] at nn
    refine k n' _ nn upd_same (by show upd _ _ _ _ = _; rw [upd_ne pn'.symm, upd_same]) fun b u e h => ?_
    rw [upd_ne h, upd_ne (ne_of_none e nn), upd_ne h, upd_ne h]
    exact e
theorem cut_to {α : Type} {xs : List V} {m : Nat} : cutV xs none (some (m : Int)) = xs.take m := by
  unfold cutV
  rw [HT.sIx_nat, HT.sIx_none, List.drop_zero, Nat.sub_zero]
  by_cases h : m ≤ xs.length
  · rw [Nat.min_eq_left h]
  · rw [Nat.min_eq_right (by omega), List.take_length, List.take_of_length_le (by omega)]
/-- a list of numbers: new, or the edition's own -/
def OwnN (Z : Ad) (H : Hp) (e p : Addr) : Prop := H p = none ∨ ∃ dx ss, H e = some (.ins Z.cEdition dx (fEd p ss))
def spWith (Z : Ad) : Sp := fun vs H Q _ => ∃ (e : Addr) (m n : Nat) (x : Vbceaj.Edition), vs = [.ref e, .int m] ∧ EdR Z H e x ∧ EdOk n x ∧ ∀ H' p, Same H H' → LI H' p (Vbceaj.amended x m) → OwnN Z H e p → Q (.ref p) H'
theorem ok_Edition_with_sheets (T : Txt K mg Z) : OkM P w K mg base CX0 2 Z.cEdition "with_sheets" ["self", "many"] (spWith Z) := by
  obtain ⟨f0, fd0, M0, F0⟩ := T.d_Edition_with_sheets
  obtain ⟨f_done, fd_done, g_done, k_done, G_done, B_done⟩ := ok_done (P := P) (w := w) (base := base) T
  refine ⟨f0, fd0, M0, F0.ok sc_Edition_with_sheets (fun vs H Q E h => ?_) (fun cdv A outer s H vs Q E hr h => ?_), (F0.binds fun _ _ _ _ _ _ us hl => match us, hl with | [_, _], _ => rfl)⟩
  · obtain ⟨e, m, n, x, rfl, _⟩ := h
    rfl
  · obtain ⟨e, m, n, x, rfl, ⟨dx, nu, ss, he, hn, ⟨ks, ek, hs, hk⟩⟩, ok, k⟩ := h
    refine ⟨_, (pss_cons (ps_set (i := 2) sc_Edition_with_sheets.nd rfl (Or.inl rfl) (pe_fld (pv 0) rfl))
  (pss_cons (ps_for PassesOwn.never rfl (pi_list (pe_slice sl_list (pe_fld (pv 0) rfl) po_none (po_some (pv 1)))) (pg_name (i := 3) sc_Edition_with_sheets.nd rfl (.inl rfl))
  (pss_one (ps_set (i := 2) sc_Edition_with_sheets.nd rfl (Or.inl rfl) (pe_call G_done (hr.mono (by decide)) rfl g_done k_done B_done .nil pass0 (pa_cons (pv 3) (pa_cons (pv 2) pa_nil))))))
  (pss_one (ps_ret (pv 2))))), ?_⟩
    refine ⟨_, rfl, e, _, dx, _, _, rfl, he, T.cl_Edition, T.n_Edition_numbers, rfl, ?_⟩
    refine ⟨_, rfl, e, _, dx, _, _, rfl, he, T.cl_Edition, T.n_Edition_sheets, rfl, _, rfl, _, rfl, ss, _, rfl, SqL.of hs, fun p np => ?_⟩
    rw [cut_to (α := Nat)]
    refine ⟨p, rfl, ⟨_, SqL.of upd_same⟩, for_list (K := K) (a := p) (xs := (ks.map fun k => V.ref k.1).take m) (fun i σ H2 => ∃ (y : Option V) (q : Addr), σ = [some (.ref e), some (.int m), some (.ref q), y] ∧ Same (upd H p (.lst ((ks.map fun k => V.ref k.1).take m))) H2 ∧ LI H2 q (Vbceaj.amended x i) ∧ OwnN Z H e q)
      ⟨none, nu, rfl, Same.refl _, hn.same (same_new np), .inr ⟨dx, ss, he⟩⟩ (fun i σ H2 _ ⟨_, _, _, s2, _, _⟩ => SqL.of (s2 _ _ upd_same)) ?_ ?_⟩
    · rintro i v σ H2 hi ⟨y, q, rfl, s2, hq, hw⟩
      have him : i < m := by have := (List.getElem?_eq_some_iff.mp hi).1; rw [List.length_take] at this; omega
      rw [List.getElem?_take_of_lt him] at hi
      obtain ⟨kk, hi2, rfl, hx, hm⟩ := LR.get ek hi
      have s3 := (same_new np).trans s2
      refine ⟨_, rfl, _, rfl, kk.1, q, kk.2, _, rfl, (hk kk hm).same s3, hq, fun z hz => ?_, fun H3 p' s4 np' hp' => ?_⟩
      · rw [am_len ok.num]
        exact (ok.sh kk.2 (List.mem_of_getElem? hx)).lt z hz
      · exact ⟨_, _, rfl, s2.trans s4, by rw [am_next hx]; exact hp', .inl (s3.free np')⟩
    · rintro σ H2 ⟨y, q, rfl, s2, hq, hw⟩
      refine ⟨_, rfl, k _ q ((same_new np).trans s2) ?_ hw⟩
      rw [List.length_take, LR.len ek] at hq
      by_cases h : m ≤ x.sheets.length
      · rw [Nat.min_eq_left h] at hq; exact hq
      · rw [Nat.min_eq_right (by omega), am_big (Nat.le_refl _)] at hq
        rw [am_big (by omega)]; exact hq
def spWhole (Z : Ad) : Sp := fun vs H Q _ => ∃ (e : Addr) (n : Nat) (x : Vbceaj.Edition), vs = [.ref e] ∧ EdR Z H e x ∧ EdOk n x ∧ ∀ H' p, Same H H' → LI H' p (Vbceaj.whole x) → OwnN Z H e p → Q (.ref p) H'
theorem ok_Edition_whole (T : Txt K mg Z) : OkM P w K mg base CX0 3 Z.cEdition "whole" ["self"] (spWhole Z) := by
  obtain ⟨f0, fd0, M0, F0⟩ := T.d_Edition_whole
  obtain ⟨f_Edition_with_sheets, fd_Edition_with_sheets, M_Edition_with_sheets, G_Edition_with_sheets, B_Edition_with_sheets⟩ := ok_Edition_with_sheets (P := P) (w := w) (base := base) T
  refine ⟨f0, fd0, M0, F0.ok sc_Edition_whole (fun vs H Q E h => ?_) (fun cdv A outer s H vs Q E hr h => ?_), (F0.binds fun _ _ _ _ _ _ us hl => match us, hl with | [_], _ => rfl)⟩
  · obtain ⟨e, n, x, rfl, _⟩ := h
    rfl
  · obtain ⟨e, n, x, rfl, hx, ok, k⟩ := h
    obtain ⟨dx, nu, ss, he, hn, ⟨ks, ek, hs, hk⟩⟩ := hx.ob
    refine ⟨_, (pss_one (ps_ret (pe_meth (pv 0) T.cl_Edition M_Edition_with_sheets G_Edition_with_sheets (hr.mono (by decide)) B_Edition_with_sheets .nil pass0 (pa_cons (pe_callB call_len_seq (by rfl) T.b_len (by decide +kernel) (pa_cons (pe_fld (pv 0) rfl) pa_nil)) pa_nil)))), ?_⟩
    refine ⟨_, rfl, e, dx, _, rfl, he, rfl, _, rfl, e, _, dx, _, _, rfl, he, T.cl_Edition, T.n_Edition_sheets, rfl, ss, _, rfl, .inl (SqL.of hs), e, x.sheets.length, n, x, ?_, hx, ok, fun H' p s hp hw => k H' p s hp hw⟩
    rw [LR.len ek]; rfl
end
end EX
namespace EX
open PySem PySem.Spec PyProof.Rows L2
open Vbceaj (Sheet Erratum State)
structure BkR (Z : Ad) (H : Hp) (b : Addr) (S : State) : Prop where
  ob : ∃ dx le lc, H b = some (.ins Z.cBook dx (fBk S.pages S.lines le lc)) ∧ LR (EdR Z) H le S.editions ∧ LR (CpR Z) H lc S.copies
theorem BkR.same {Z : Ad} {H H' : Hp} {b : Addr} {S : State} (h : BkR Z H b S) (s : Same H H') : BkR Z H' b S := by
  obtain ⟨dx, le, lc, h1, h2, h3⟩ := h.ob
  exact ⟨dx, le, lc, s _ _ h1, h2.same mEd s, h3.same mCp s⟩
/-- a state as it may be -/
structure Good (S : State) : Prop where
  pg : S.pages ≤ 6
  ln : S.lines ≤ 10
  none : S.editions = [] → S.pages = 0 ∧ S.copies = []
  some : S.editions ≠ [] → 0 < S.pages ∧ 0 < S.lines
  ed : ∀ x ∈ S.editions, EdOk (Vbceaj.size S) x
  nw : ∀ x ∈ S.editions, ∀ t ∈ x.sheets, ∀ y ∈ t, Em.num y.old = true ∧ Em.num y.new = true
  el : S.editions.length ≤ 8
  cl : S.copies.length ≤ 10
  cp : ∀ x ∈ S.copies, x.edition < S.editions.length ∧ x.now.length = Vbceaj.size S ∧ x.pen ≤ (Vbceaj.edition S x.edition).sheets.length
theorem Good.sz {S : State} (g : Good S) : Vbceaj.size S ≤ 60 := by
  have := Nat.mul_le_mul g.pg g.ln
  exact this
theorem newest_at {S : State} (h : S.editions ≠ []) : S.editions[S.editions.length - 1]? = some (Vbceaj.edition S (Vbceaj.newest S)) := by
  have hl : 0 < S.editions.length := List.length_pos_iff.mpr h
  unfold Vbceaj.edition Vbceaj.newest
  rw [List.getD_eq_getElem?_getD, List.getElem?_eq_getElem (by omega)]
  rfl
theorem Good.new {S : State} (g : Good S) (h : S.editions ≠ []) : EdOk (Vbceaj.size S) (Vbceaj.edition S (Vbceaj.newest S)) := g.ed _ (List.mem_of_getElem? (newest_at h))
/-- what a new book leaves -/
def BkNew (Z : Ad) (H H' : Hp) (p dx : Addr) (pg ln : Int) (l : List Int) : Prop := ∃ le lc, H le = none ∧ H lc = none ∧ le ≠ lc ∧ H' p = some (.ins Z.cBook dx (fBk pg ln le lc)) ∧ H' lc = some (.lst []) ∧ But p H H' ∧
  ((pg ≤ 0 ∧ H' le = some (.lst [])) ∨ (0 < pg ∧ ∃ e ss n' dx', H e = none ∧ H ss = none ∧ H n' = none ∧ ss ≠ le ∧ ss ≠ lc ∧ n' ≠ le ∧ n' ≠ lc ∧ n' ≠ ss ∧ H' le = some (.lst [.ref e]) ∧ H' e = some (.ins Z.cEdition dx' (fEd n' ss)) ∧ H' ss = some (.lst []) ∧ LI H' n' l))
section
variable {P : Program} {w : World} {K : PySem.W.Frag} {mg : Str → Option Value} {base : Heap} {Z : Ad}
def spBkI (Z : Ad) : Sp := fun vs H Q _ => ∃ (p dx n : Addr) (pg ln : Int) (l : List Int), vs = [.ref p, .int pg, .int ln, .ref n] ∧ H p = some (.ins Z.cBook dx []) ∧ LI H n l ∧ ∀ H', BkNew Z H H' p dx pg ln l → Q .non H'
theorem ok_Book_init (T : Txt K mg Z) : OkI P w K mg base CX0 3 Z.cBook ["self", "pages", "lines", "numbers"] (spBkI Z) := by
  obtain ⟨f0, fd0, M0, F0⟩ := T.d_Book_init
  obtain ⟨f_Edition_init, fd_Edition_init, M_Edition_init, G_Edition_init, B_Edition_init⟩ := ok_Edition_init (P := P) (w := w) (base := base) T
  refine ⟨f0, fd0, M0, F0.ok sc_Book_init (fun vs H Q E h => ?_) (fun cdv A outer s H vs Q E hr h => ?_), (F0.binds fun _ _ _ _ _ _ us hl => match us, hl with | [_, _, _, _], _ => rfl)⟩
  · obtain ⟨p, dx, n, pg, ln, l, rfl, _⟩ := h
    rfl
  · obtain ⟨p, dx, n, pg, ln, l, rfl, hp, hn, k⟩ := h
    refine ⟨_, (pss_cons (ps_fld (pv 0) (pv 1) rfl)
  (pss_cons (ps_fld (pv 0) (pv 2) rfl)
  (pss_cons (ps_fld (pv 0) (pe_lst pa_nil) rfl)
  (pss_cons (ps_fld (pv 0) (pe_lst pa_nil) rfl)
  (pss_one (ps_if (pt_cmpR op_gt (pv 1) pe_int (nomark _)) (pss_one (ps_expr (pe_bm PySem.F.plainAttrs_list PySem.F.slot_list_append PySem.F.type_list_append mt_append (pe_fld (pv 0) rfl) (pa_cons (pe_make M_Edition_init G_Edition_init (hr.mono (by decide)) rfl T.g_Edition B_Edition_init .nil pass0 (pa_cons (pe_callTy call_list_of (by rfl) T.b_list (by decide +kernel) (pa_cons (pv 3) pa_nil)) pa_nil)) pa_nil)))) pss_nil)))))), ?_⟩
    have pn : n ≠ p := ne_of hn hp (by intro z; cases z)
    refine ⟨_, rfl, _, rfl, p, _, dx, _, rfl, hp, T.cl_Book, T.n_Book_pages, (by show 0 < 1000; decide), ?_⟩
    refine ⟨_, rfl, _, rfl, p, _, dx, _, rfl, upd_same, T.cl_Book, T.n_Book_lines, (by show 1 < 1000; decide), ?_⟩
    refine ⟨(by show 0 ≤ sizeLine; decide), fun le nle => ?_⟩
    have ple : p ≠ le := fun z => by rw [← z, upd_same] at nle; cases nle
    have nle0 : H le = none := by rw [upd_ne ple.symm, upd_ne ple.symm] at nle; exact nle
    refine ⟨_, rfl, p, _, dx, _, rfl, (by rw [upd_ne ple, upd_same]), T.cl_Book, T.n_Book_editions, (by show 2 < 1000; decide), ?_⟩
    refine ⟨(by show 0 ≤ sizeLine; decide), fun lc nlc => ?_⟩
    have plc : p ≠ lc := fun z => by rw [← z, upd_same] at nlc; cases nlc
    rw [upd_ne plc.symm] at nlc
    have lelc : le ≠ lc := fun z => by rw [← z, upd_same] at nlc; cases nlc
    rw [upd_ne lelc.symm, upd_ne plc.symm, upd_ne plc.symm] at nlc
    refine ⟨_, rfl, p, _, dx, _, rfl, (by rw [upd_ne plc, upd_same]), T.cl_Book, T.n_Book_copies, (by show 3 < 1000; decide), ?_⟩
    have bt : ∀ b u, H b = some u → b ≠ p → b ≠ le ∧ b ≠ lc := fun b u e _ => ⟨ne_of_none e nle0, ne_of_none e nlc⟩
    refine ⟨_, rfl, _, _, rfl, rfl, _, rfl, if_dec (fun c => ?_) fun c => ?_⟩
    · have hpos : 0 < pg := of_decide_eq_true c
      refine ⟨_, rfl, p, _, dx, _, _, rfl, upd_same, T.cl_Book, T.n_Book_editions, rfl, .inl ⟨rfl, _, SqL.of (show _ = some (HO.lst []) by rw [upd_ne ple.symm, upd_ne lelc, upd_ne ple.symm, upd_same])⟩, ?_⟩
      refine ⟨_, rfl, n, l.map V.int, rfl, .inl (SqL.of ?_), fun n' nn => ?_⟩
      · have := bt n _ hn pn
        rw [upd_ne pn, upd_ne this.2, upd_ne pn, upd_ne this.1, upd_ne pn, upd_ne pn]; exact hn
      have pn' : p ≠ n' := fun z => by rw [← z, upd_same] at nn; cases nn
      rw [upd_ne pn'.symm] at nn
      have nlc' : lc ≠ n' := fun z => by rw [← z, upd_same] at nn; cases nn
      rw [upd_ne nlc'.symm, upd_ne pn'.symm] at nn
      have nle' : le ≠ n' := fun z => by rw [← z, upd_same] at nn; cases nn
      rw [upd_ne nle'.symm, upd_ne pn'.symm, upd_ne pn'.symm] at nn
      intro x dx' hx hdx hne
      have xn' : x ≠ n' := fun z => by rw [z, upd_same] at hx; cases hx
      rw [upd_ne xn'] at hx
      have xp : x ≠ p := fun z => by rw [z, upd_same] at hx; cases hx
      rw [upd_ne xp] at hx
      have xlc : x ≠ lc := fun z => by rw [z, upd_same] at hx; cases hx
      rw [upd_ne xlc, upd_ne xp] at hx
      have xle : x ≠ le := fun z => by rw [z, upd_same] at hx; cases hx
      rw [upd_ne xle, upd_ne xp, upd_ne xp] at hx
      have dn' : dx' ≠ n' := fun z => by rw [z, upd_same] at hdx; cases hdx
      rw [upd_ne dn'] at hdx
      have dp : dx' ≠ p := fun z => by rw [z, upd_same] at hdx; cases hdx
      rw [upd_ne dp] at hdx
      have dlc : dx' ≠ lc := fun z => by rw [z, upd_same] at hdx; cases hdx
      rw [upd_ne dlc, upd_ne dp] at hdx
      have dle : dx' ≠ le := fun z => by rw [z, upd_same] at hdx; cases hdx
      rw [upd_ne dle, upd_ne dp, upd_ne dp] at hdx
      refine ⟨x, dx', n', rfl, upd_same, fun ss H' nss h1 h2 h3 => ⟨rfl, ?_⟩⟩
      have sx : ss ≠ x := fun z => by rw [z, upd_same] at nss; cases nss
      rw [upd_ne sx] at nss
      have sd : ss ≠ dx' := fun z => by rw [z, upd_same] at nss; cases nss
      rw [upd_ne sd] at nss
      have sn' : ss ≠ n' := fun z => by rw [z, upd_same] at nss; cases nss
      rw [upd_ne sn'] at nss
      have sp' : ss ≠ p := fun z => by rw [z, upd_same] at nss; cases nss
      rw [upd_ne sp'] at nss
      have slc : ss ≠ lc := fun z => by rw [z, upd_same] at nss; cases nss
      rw [upd_ne slc, upd_ne sp'] at nss
      have sle : ss ≠ le := fun z => by rw [z, upd_same] at nss; cases nss
      rw [upd_ne sle, upd_ne sp', upd_ne sp'] at nss
      have g1 : H' le = some (.lst []) := h3 _ _ (by rw [upd_ne xle.symm, upd_ne dle.symm, upd_ne nle', upd_ne ple.symm, upd_ne lelc, upd_ne ple.symm, upd_same]) xle.symm
      have g2 : H' lc = some (.lst []) := h3 _ _ (by rw [upd_ne xlc.symm, upd_ne dlc.symm, upd_ne nlc', upd_ne plc.symm, upd_same]) xlc.symm
      have g3 : H' p = some (.ins Z.cBook dx (fBk pg ln le lc)) := h3 _ _ (by rw [upd_ne xp.symm, upd_ne dp.symm, upd_ne pn', upd_same]; rfl) xp.symm
      have g4 : H' n' = some (.lst (l.map V.int)) := h3 _ _ (by rw [upd_ne xn'.symm, upd_ne dn'.symm, upd_same]) xn'.symm
      refine ⟨le, _, _, rfl, rfl, g1, few (by show 0 ≤ 100000; decide), ?_⟩
      refine k _ ⟨le, lc, nle0, nlc, lelc, by rw [upd_ne ple]; exact g3, by rw [upd_ne lelc.symm]; exact g2, fun b u e h => ?_, .inr ⟨hpos, x, ss, n', dx', hx, nss, nn, sle, slc, nle'.symm, nlc'.symm, sn'.symm, upd_same, by rw [upd_ne xle]; exact h1, by rw [upd_ne sle]; exact h2, by show upd _ _ _ _ = _; rw [upd_ne nle'.symm]; exact g4⟩⟩
      have q := bt b u e h
      rw [upd_ne q.1]
      refine h3 _ _ ?_ (ne_of_none e hx)
      rw [upd_ne (ne_of_none e hx), upd_ne (ne_of_none e hdx), upd_ne (ne_of_none e nn), upd_ne h, upd_ne q.2, upd_ne h, upd_ne q.1, upd_ne h, upd_ne h]
      exact e
    · have hneg : pg ≤ 0 := by have := of_decide_eq_false c; omega
      refine k _ ⟨le, lc, nle0, nlc, lelc, upd_same, by rw [upd_ne plc.symm, upd_same], fun b u e h => ?_, .inl ⟨hneg, by rw [upd_ne ple.symm, upd_ne lelc, upd_ne ple.symm, upd_same]⟩⟩
      have q := bt b u e h
      rw [upd_ne h, upd_ne q.2, upd_ne h, upd_ne q.1, upd_ne h, upd_ne h]
      exact e
def spThere (Z : Ad) : Sp := fun vs H Q _ => ∃ (b : Addr) (S : State), vs = [.ref b] ∧ BkR Z H b S ∧ Good S ∧ Q (.bl (!S.editions.isEmpty)) H
theorem ok_Book_is_there (T : Txt K mg Z) : OkM P w K mg base CX0 1 Z.cBook "is_there" ["self"] (spThere Z) := by
  obtain ⟨f0, fd0, M0, F0⟩ := T.d_Book_is_there
  refine ⟨f0, fd0, M0, F0.ok sc_Book_is_there (fun vs H Q E h => ?_) (fun cdv A outer s H vs Q E hr h => ?_), (F0.binds fun _ _ _ _ _ _ us hl => match us, hl with | [_], _ => rfl)⟩
  · obtain ⟨b, S, rfl, _⟩ := h
    rfl
  · obtain ⟨b, S, rfl, hb, g, k⟩ := h
    obtain ⟨dx, le, lc, h1, h2, h3⟩ := hb.ob
    refine ⟨_, (pss_one (ps_ret (pe_cmpR op_gt (pe_fld (pv 0) rfl) pe_int (nomark _)))), ?_⟩
    refine ⟨_, rfl, b, _, dx, _, _, rfl, h1, T.cl_Book, T.n_Book_pages, rfl, _, _, rfl, rfl, ?_⟩
    have e : decide ((0 : Int) < (S.pages : Int)) = !S.editions.isEmpty := by
      cases q : S.editions with
      | nil => rw [(g.none q).1]; rfl
      | cons x l =>
        have := (g.some (by rw [q]; intro z; cases z)).1
        exact decide_eq_true (by omega)
    show Q (.bl (decide ((0 : Int) < (S.pages : Int)))) H
    rw [e]
    exact k
def spPlaces (Z : Ad) : Sp := fun vs H Q _ => ∃ (b : Addr) (S : State), vs = [.ref b] ∧ BkR Z H b S ∧ Good S ∧ Q (.int (Vbceaj.size S : Nat)) H
theorem ok_Book_places (T : Txt K mg Z) : OkM P w K mg base CX0 1 Z.cBook "places" ["self"] (spPlaces Z) := by
  obtain ⟨f0, fd0, M0, F0⟩ := T.d_Book_places
  refine ⟨f0, fd0, M0, F0.ok sc_Book_places (fun vs H Q E h => ?_) (fun cdv A outer s H vs Q E hr h => ?_), (F0.binds fun _ _ _ _ _ _ us hl => match us, hl with | [_], _ => rfl)⟩
  · obtain ⟨b, S, rfl, _⟩ := h
    rfl
  · obtain ⟨b, S, rfl, hb, g, k⟩ := h
    obtain ⟨dx, le, lc, h1, h2, h3⟩ := hb.ob
    refine ⟨_, (pss_one (ps_ret (pe_op op_mul (pe_fld (pv 0) rfl) (pe_fld (pv 0) rfl)))), ?_⟩
    refine ⟨_, rfl, b, _, dx, _, _, rfl, h1, T.cl_Book, T.n_Book_pages, rfl, _, rfl, b, _, dx, _, _, rfl, h1, T.cl_Book, T.n_Book_lines, rfl, _, _, rfl, rfl, .inl ⟨by have := g.pg; omega, by have := g.pg; omega⟩, ?_⟩
    have e : (S.pages : Int) * (S.lines : Int) = ((Vbceaj.size S : Nat) : Int) := by unfold Vbceaj.size; exact (Int.natCast_mul _ _).symm
    show Q (.int ((S.pages : Int) * (S.lines : Int))) H
    rw [e]
    exact k
theorem atI_end {α : Type} {xs : List α} {v : α} (h : xs[xs.length - 1]? = some v) (hl : xs ≠ []) : atI xs (-1) = some v := by
  obtain ⟨l, y, rfl⟩ : ∃ l y, xs = l ++ [y] := ⟨xs.dropLast, xs.getLast hl, (List.dropLast_concat_getLast hl).symm⟩
  rw [List.length_append] at h
  simp at h
  rw [← h]
  exact atI_last l y
/-- the newest edition: where it stands -/
def spNewest (Z : Ad) : Sp := fun vs H Q _ => ∃ (b le lc dx : Addr) (es : List Addr) (pg ln : Int) (e : Addr), vs = [.ref b] ∧ H b = some (.ins Z.cBook dx (fBk pg ln le lc)) ∧ H le = some (.lst (es.map V.ref)) ∧ es[es.length - 1]? = some e ∧ Q (.ref e) H
theorem ok_Book_newest (T : Txt K mg Z) : OkM P w K mg base CX0 1 Z.cBook "newest" ["self"] (spNewest Z) := by
  obtain ⟨f0, fd0, M0, F0⟩ := T.d_Book_newest
  refine ⟨f0, fd0, M0, F0.ok sc_Book_newest (fun vs H Q E h => ?_) (fun cdv A outer s H vs Q E hr h => ?_), (F0.binds fun _ _ _ _ _ _ us hl => match us, hl with | [_], _ => rfl)⟩
  · obtain ⟨b, le, lc, dx, es, pg, ln, e, rfl, _⟩ := h
    rfl
  · obtain ⟨b, le, lc, dx, es, pg, ln, e, rfl, h1, h2, h3, k⟩ := h
    refine ⟨_, (pss_one (ps_ret (pe_ix ix_list (pe_fld (pv 0) rfl) (pe_un un_neg pe_int) (fun _ _ => rfl)))), ?_⟩
    have z : (es.map V.ref)[(es.map V.ref).length - 1]? = some (.ref e) := by rw [List.length_map, List.getElem?_map, h3]; rfl
    refine ⟨_, rfl, b, _, dx, _, _, rfl, h1, T.cl_Book, T.n_Book_editions, rfl, _, rfl, le, _, _, _, rfl, rfl, SqL.of h2, atI_end z (fun q => by rw [q] at z; simp at z), k⟩
theorem newest_of {Z : Ad} {H : Hp} {le : Addr} {S : State} (h : LR (EdR Z) H le S.editions) (hn : S.editions ≠ []) : ∃ (es : List Addr) (e : Addr), H le = some (.lst (es.map V.ref)) ∧ es[es.length - 1]? = some e ∧ EdR Z H e (Vbceaj.edition S (Vbceaj.newest S)) := by
  obtain ⟨ks, ek, hl, hk⟩ := h
  have hlen : (ks.map (·.1)).length = S.editions.length := by rw [← ek, List.length_map, List.length_map]
  have hx := newest_at hn
  rw [← ek] at hx
  obtain ⟨k, h1, h2⟩ := Em.getElem_map hx
  refine ⟨ks.map (·.1), k.1, by rw [hl, List.map_map]; rfl, ?_, ?_⟩
  · rw [hlen, List.getElem?_map]
    rw [ek] at h1
    rw [h1]; rfl
  · rw [h2]; exact hk k (List.mem_of_getElem? h1)
def spMend (Z : Ad) : Sp := fun vs H Q _ => ∃ (b c : Addr) (S : State) (x : Vbceaj.Copy), vs = [.ref b, .ref c] ∧ BkR Z H b S ∧ Good S ∧ S.editions ≠ [] ∧ CpR Z H c x ∧ x.now.length ≤ 1000 ∧ ∀ H' p, Same H H' → H p = none → RS H' p (Vbceaj.between x.now (Vbceaj.whole (Vbceaj.edition S (Vbceaj.newest S)))) → Q (.ref p) H'
theorem ok_Book_mending (T : Txt K mg Z) : OkM P w K mg base CX0 4 Z.cBook "mending" ["self", "copy"] (spMend Z) := by
  obtain ⟨f0, fd0, M0, F0⟩ := T.d_Book_mending
  obtain ⟨f_between, fd_between, g_between, k_between, G_between, B_between⟩ := ok_between (P := P) (w := w) (base := base) T
  obtain ⟨f_Edition_whole, fd_Edition_whole, M_Edition_whole, G_Edition_whole, B_Edition_whole⟩ := ok_Edition_whole (P := P) (w := w) (base := base) T
  obtain ⟨f_Book_newest, fd_Book_newest, M_Book_newest, G_Book_newest, B_Book_newest⟩ := ok_Book_newest (P := P) (w := w) (base := base) T
  refine ⟨f0, fd0, M0, F0.ok sc_Book_mending (fun vs H Q E h => ?_) (fun cdv A outer s H vs Q E hr h => ?_), (F0.binds fun _ _ _ _ _ _ us hl => match us, hl with | [_, _], _ => rfl)⟩
  · obtain ⟨b, c, S, x, rfl, _⟩ := h
    rfl
  · obtain ⟨b, c, S, x, rfl, hb, g, hn, hc, hl, k⟩ := h
    obtain ⟨dx, le, lc, h1, h2, h3⟩ := hb.ob
    obtain ⟨es, e, h4, h5, h6⟩ := newest_of h2 hn
    obtain ⟨dc, n, h7, h8⟩ := hc.ob
    refine ⟨_, (pss_one (ps_ret (pe_call G_between (hr.mono (by decide)) rfl g_between k_between B_between .nil pass0 (pa_cons (pe_fld (pv 1) rfl) (pa_cons (pe_meth0 (pe_meth0 (pv 0) T.cl_Book M_Book_newest G_Book_newest (hr.mono (by decide)) B_Book_newest .nil pass0) T.cl_Edition M_Edition_whole G_Edition_whole (hr.mono (by decide)) B_Edition_whole .nil pass0) pa_nil))))), ?_⟩
    refine ⟨_, rfl, c, _, dc, _, _, rfl, h7, T.cl_Copy, T.n_Copy_numbers, rfl, ?_⟩
    refine ⟨_, rfl, b, dx, _, rfl, h1, rfl, b, le, lc, dx, es, _, _, e, rfl, h1, h4, h5, ?_⟩
    obtain ⟨de, n', ss, h9, _⟩ := h6.ob
    refine ⟨e, de, _, rfl, h9, rfl, e, _, _, rfl, h6, g.new hn, fun H1 p s1 hp _ => ?_⟩
    exact ⟨n, p, _, _, rfl, h8.same s1, hp, hl, fun H2 q s2 nq hq => k H2 q (s1.trans s2) (s1.free nq) hq⟩
end
end EX
namespace EX
open PySem PySem.Spec PyProof.Rows L2
open Vbceaj (Sheet Erratum State)
/-- what hinders a sheet -/
def nfL (S : State) (a m : Nat) (t : Sheet) : List Int :=
  if 8 ≤ (Vbceaj.edition S (Vbceaj.newest S)).sheets.length then [2, 8] else if a ≠ Vbceaj.newest S ∨ m ≠ (Vbceaj.edition S (Vbceaj.newest S)).sheets.length then [2, 6] else match Vbceaj.unfit (Vbceaj.whole (Vbceaj.edition S (Vbceaj.newest S))) t with
    | some i => [3, (i : Int)]
    | none => []
theorem newest_of2 {Z : Ad} {H : Hp} {le : Addr} {S : State} (h : LR (EdR Z) H le S.editions) (hn : S.editions ≠ []) : ∃ (es : List Addr) (e : Addr), H le = some (.lst (es.map V.ref)) ∧ es[es.length - 1]? = some e ∧ EdR Z H e (Vbceaj.edition S (Vbceaj.newest S)) ∧ es.length = S.editions.length := by
  obtain ⟨es, e, h1, h2, h3⟩ := newest_of h hn
  refine ⟨es, e, h1, h2, h3, ?_⟩
  obtain ⟨ks, ek, hl, hk⟩ := h
  rw [h1] at hl
  injection hl with hl
  injection hl with hl
  have := congrArg List.length hl
  rw [LR.len ek, List.length_map] at this
  exact this
theorem am_lenW {n : Nat} {x : Vbceaj.Edition} (h : x.numbers.length = n) : (Vbceaj.whole x).length = n := am_len h _
theorem walk_rangeN {j : Int} {n : Nat} (h : j.toNat = n) : Walk (Itr 0 j.toNat) n (fun _ => True) (fun i H x H' => H' = H ∧ x = .int (i : Nat)) := by
  subst h
  exact ⟨fun _ _ hi _ => hi, fun _ _ => Nat.le_refl _, fun i H x H' _ _ y => ⟨y.1, y.2.trans (by rw [Int.zero_add])⟩⟩
section
variable {P : Program} {w : World} {K : PySem.W.Frag} {mg : Str → Option Value} {base : Heap} {Z : Ad}
def spNF (Z : Ad) : Sp := fun vs H Q _ => ∃ (b t : Addr) (a m : Nat) (S : State) (sh : Sheet), vs = [.ref b, .int a, .int m, .ref t] ∧ BkR Z H b S ∧ Good S ∧ S.editions ≠ [] ∧ RS H t sh ∧ (∀ x ∈ sh, x.place < Vbceaj.size S) ∧ ∀ H' p, Same H H' → H p = none → LI H' p (nfL S a m sh) → Q (.ref p) H'
theorem ok_Book_next_faults (T : Txt K mg Z) : OkM P w K mg base CX0 4 Z.cBook "next_faults" ["self", "edition", "number", "sheet"] (spNF Z) := by
  obtain ⟨f0, fd0, M0, F0⟩ := T.d_Book_next_faults
  obtain ⟨f_Book_newest, fd_Book_newest, M_Book_newest, G_Book_newest, B_Book_newest⟩ := ok_Book_newest (P := P) (w := w) (base := base) T
  obtain ⟨f_first_wrong, fd_first_wrong, g_first_wrong, k_first_wrong, G_first_wrong, B_first_wrong⟩ := ok_first_wrong (P := P) (w := w) (base := base) T
  obtain ⟨f_Edition_whole, fd_Edition_whole, M_Edition_whole, G_Edition_whole, B_Edition_whole⟩ := ok_Edition_whole (P := P) (w := w) (base := base) T
  refine ⟨f0, fd0, M0, F0.ok sc_Book_next_faults (fun vs H Q E h => ?_) (fun cdv A outer s H vs Q E hr h => ?_), (F0.binds fun _ _ _ _ _ _ us hl => match us, hl with | [_, _, _, _], _ => rfl)⟩
  · obtain ⟨b, t, a, m, S, sh, rfl, _⟩ := h
    rfl
  · obtain ⟨b, t, a, m, S, sh, rfl, hb, g, hn, ht, hp, k⟩ := h
    obtain ⟨dx, le, lc, h1, h2, h3⟩ := hb.ob
    obtain ⟨es, e, h4, h5, h6, h7⟩ := newest_of2 h2 hn
    obtain ⟨de, nu, ss, h8, h9, ⟨ks, ek, hs, hk⟩⟩ := h6.ob
    refine ⟨_, (pss_cons (ps_set (i := 4) sc_Book_next_faults.nd rfl (Or.inl rfl) (pe_meth0 (pv 0) T.cl_Book M_Book_newest G_Book_newest (hr.mono (by decide)) B_Book_newest .nil pass0))
  (pss_cons (ps_if (pt_cmpR op_ge (pe_callB call_len_seq (by rfl) T.b_len (by decide +kernel) (pa_cons (pe_fld (pv 4) rfl) pa_nil)) (pe_gint rfl T.g_MOST_SHEETS) (nomark _)) (pss_one (ps_ret (pe_lst (pa_cons pe_int (pa_cons pe_int pa_nil))))) pss_nil)
  (pss_cons (ps_if (PW.pt (pw_or (pt_cmpR op_ne (pv 1) (pe_op op_sub (pe_callB call_len_seq (by rfl) T.b_len (by decide +kernel) (pa_cons (pe_fld (pv 0) rfl) pa_nil)) pe_int) (nomark _)) (pw_or1 (pt_cmpR op_ne (pv 2) (pe_callB call_len_seq (by rfl) T.b_len (by decide +kernel) (pa_cons (pe_fld (pv 4) rfl) pa_nil)) (nomark _))))) (pss_one (ps_ret (pe_lst (pa_cons pe_int (pa_cons pe_int pa_nil))))) pss_nil)
  (pss_cons (ps_set (i := 5) sc_Book_next_faults.nd rfl (Or.inl rfl) (pe_call G_first_wrong (hr.mono (by decide)) rfl g_first_wrong k_first_wrong B_first_wrong .nil pass0 (pa_cons (pv 3) (pa_cons (pe_meth0 (pv 4) T.cl_Edition M_Edition_whole G_Edition_whole (hr.mono (by decide)) B_Edition_whole .nil pass0) pa_nil))))
  (pss_cons (ps_if (pt_cmpR op_ne (pv 5) (pe_gint rfl T.g_ALL_DONE) (nomark _)) (pss_one (ps_ret (pe_lst (pa_cons pe_int (pa_cons (pv 5) pa_nil))))) pss_nil)
  (pss_one (ps_ret (pe_lst pa_nil)))))))), ?_⟩
    refine ⟨_, rfl, b, dx, _, rfl, h1, rfl, b, le, lc, dx, es, _, _, e, rfl, h1, h4, h5, ?_⟩
    have ls : ((ks.map fun k => V.ref k.1).length : Int) = ((Vbceaj.edition S (Vbceaj.newest S)).sheets.length : Int) := by rw [LR.len ek]
    have le' : ((es.map V.ref).length : Int) = (S.editions.length : Int) := by rw [List.length_map, h7]
    have hpos : 0 < S.editions.length := List.length_pos_iff.mpr hn
    refine ⟨_, rfl, e, _, de, _, _, rfl, h8, T.cl_Edition, T.n_Edition_sheets, rfl, ss, _, rfl, .inl (SqL.of hs), _, _, rfl, rfl, _, rfl, if_dec (fun c => ?_) fun c => ?_⟩
    · have c' := of_decide_eq_true c
      rw [ls] at c'
      refine ⟨(by show 2 ≤ sizeLine; decide), fun p np => k _ p (same_new np) np ?_⟩
      unfold nfL
      rw [if_pos (by omega)]
      exact upd_same
    have c1 : ¬ 8 ≤ (Vbceaj.edition S (Vbceaj.newest S)).sheets.length := by have := of_decide_eq_false c; rw [ls] at this; omega
    have six : (a ≠ Vbceaj.newest S ∨ m ≠ (Vbceaj.edition S (Vbceaj.newest S)).sheets.length) → ∀ p, H p = none → Q (.ref p) (upd H p (.lst [.int 2, .int 6])) := fun z p np => k _ p (same_new np) np (by
      unfold nfL
      rw [if_neg c1, if_pos z]
      exact upd_same)
    refine ⟨_, rfl, _, rfl, b, _, dx, _, _, rfl, h1, T.cl_Book, T.n_Book_editions, rfl, le, _, rfl, .inl (SqL.of h4), _, _, rfl, rfl, rfl, _, rfl, ?_⟩
    rw [dV, le']
    have nw : Vbceaj.newest S = S.editions.length - 1 := rfl
    refine if_dec (fun c => ifT rfl ⟨(by show 2 ≤ sizeLine; decide), fun p np => six (.inl ?_) p np⟩) fun c => ?_
    · intro z
      rw [z, nw, decide_eq_true (by omega)] at c; cases c
    have c2 : a = Vbceaj.newest S := by
      by_cases z : (a : Int) = (S.editions.length : Int) - 1
      · omega
      · rw [decide_eq_false z] at c; cases c
    refine ⟨_, rfl, _, rfl, e, _, de, _, _, rfl, h8, T.cl_Edition, T.n_Edition_sheets, rfl, ss, _, rfl, .inl (SqL.of hs), rfl, _, rfl, ?_⟩
    rw [dV, ls]
    refine if_dec (fun c => ⟨(by show 2 ≤ sizeLine; decide), fun p np => six (.inr ?_) p np⟩) fun c => ?_
    · intro z
      rw [z, decide_eq_true rfl] at c; cases c
    have c3 : m = (Vbceaj.edition S (Vbceaj.newest S)).sheets.length := by
      by_cases z : (m : Int) = ((Vbceaj.edition S (Vbceaj.newest S)).sheets.length : Int)
      · omega
      · rw [decide_eq_false z] at c; cases c
    have ok := g.new hn
    refine ⟨_, rfl, _, rfl, e, de, _, rfl, h8, rfl, e, _, _, rfl, h6, ok, fun H1 q s1 hq _ => ?_⟩
    refine ⟨t, q, sh, _, rfl, ht.same s1, hq, fun x hx => by rw [am_lenW ok.num]; exact hp x hx, fun H2 s2 => ?_⟩
    have en : nfL S a m sh = match Vbceaj.unfit (Vbceaj.whole (Vbceaj.edition S (Vbceaj.newest S))) sh with
      | some i => [3, (i : Int)]
      | none => [] := by
      unfold nfL
      rw [if_neg c1, if_neg (by rw [c2, c3]; simp)]
    refine ⟨_, rfl, rfl, _, rfl, ?_⟩
    rw [dV]
    cases u : Vbceaj.unfit (Vbceaj.whole (Vbceaj.edition S (Vbceaj.newest S))) sh with
    | none =>
      rw [u] at en
      unfold Em.firstWrong
      rw [u]
      refine ifF rfl ⟨(by show 0 ≤ sizeLine; decide), fun p np => k _ p ((s1.trans s2).trans (same_new np)) ((s1.trans s2).free np) ?_⟩
      rw [en]
      exact upd_same
    | some i =>
      rw [u] at en
      unfold Em.firstWrong
      rw [u]
      refine ifT ?_ ⟨_, rfl, (by show 2 ≤ sizeLine; decide), fun p np => k _ p ((s1.trans s2).trans (same_new np)) ((s1.trans s2).free np) ?_⟩
      · rw [decide_eq_false (show ¬ ((i : Int) = -1) by omega)]; rfl
      rw [en]
      exact upd_same
/-- a state of the book told: an edition, how many sheets, the numbers -/
def St3 (H : Hp) (a : Addr) (x : Nat × Nat × List Int) : Prop := ∃ n, H a = some (.tup [.int x.1, .int x.2.1, .ref n]) ∧ LI H n x.2.2
theorem mSt3 : Mono St3 := fun _ _ _ _ s ⟨n, h1, h2⟩ => ⟨n, s _ _ h1, s _ _ h2⟩
def spStates (Z : Ad) : Sp := fun vs H Q _ => ∃ (b : Addr) (S : State), vs = [.ref b] ∧ BkR Z H b S ∧ Good S ∧ ∀ H' p, Same H H' → H p = none → LR St3 H' p (Em.states S) → Q (.ref p) H'
def stOf (e : Vbceaj.Edition × Nat) : List (Nat × Nat × List Int) := (List.range (e.1.sheets.length + 1)).map fun n => (e.2, n, Vbceaj.amended e.1 n)
theorem states_len {n : Nat} : ∀ {l : List (Vbceaj.Edition × Nat)}, (∀ x ∈ l, EdOk n x.1) → (l.flatMap stOf).length ≤ 9 * l.length
  | [], _ => Nat.le_refl _
  | x :: l, h => by
    have ih := states_len (l := l) fun y hy => h y (List.mem_cons_of_mem _ hy)
    rw [List.flatMap_cons, List.length_append, List.length_cons]
    have : (stOf x).length = x.1.sheets.length + 1 := by unfold stOf; rw [List.length_map, List.length_range]
    have := (h x List.mem_cons_self).fw
    omega
theorem ed_zip {n : Nat} {l : List Vbceaj.Edition} (h : ∀ x ∈ l, EdOk n x) (k i : Nat) : ∀ x ∈ (l.take i).zipIdx k, EdOk n x.1 := fun x hx =>
  h _ (List.mem_of_mem_take (List.fst_mem_of_mem_zipIdx hx))
theorem ok_Book_states (T : Txt K mg Z) : OkM P w K mg base CX0 3 Z.cBook "states" ["self"] (spStates Z) := by
  obtain ⟨f0, fd0, M0, F0⟩ := T.d_Book_states
  obtain ⟨f_Edition_with_sheets, fd_Edition_with_sheets, M_Edition_with_sheets, G_Edition_with_sheets, B_Edition_with_sheets⟩ := ok_Edition_with_sheets (P := P) (w := w) (base := base) T
  refine ⟨f0, fd0, M0, F0.ok sc_Book_states (fun vs H Q E h => ?_) (fun cdv A outer s H vs Q E hr h => ?_), (F0.binds fun _ _ _ _ _ _ us hl => match us, hl with | [_], _ => rfl)⟩
  · obtain ⟨b, S, rfl, _⟩ := h
    rfl
  · obtain ⟨b, S, rfl, hb, g, k⟩ := h
    obtain ⟨dx, le, lc, h1, ⟨ks, ek, hl, hk⟩, h3⟩ := hb.ob
    refine ⟨_, (pss_cons (ps_set (i := 1) sc_Book_states.nd rfl (Or.inl rfl) (pe_lst pa_nil))
  (pss_cons (ps_for PassesOwn.never rfl (pi_enum (by rfl) T.b_enumerate (pa_cons (pe_fld (pv 0) rfl) pa_nil)) (pg_tup rfl (pgs_cons (pg_name (i := 2) sc_Book_states.nd rfl (.inl rfl)) (pgs_cons (pg_name (i := 3) sc_Book_states.nd rfl (.inl rfl)) pgs_nil)))
  (pss_one (ps_for PassesOwn.never rfl (pi_range1 (by rfl) T.b_range (pa_cons (pe_op op_add (pe_callB call_len_seq (by rfl) T.b_len (by decide +kernel) (pa_cons (pe_fld (pv 3) rfl) pa_nil)) pe_int) pa_nil)) (pg_name (i := 4) sc_Book_states.nd rfl (.inl rfl))
  (pss_one (ps_expr (pe_bm PySem.F.plainAttrs_list PySem.F.slot_list_append PySem.F.type_list_append mt_append (pv 1) (pa_cons (pe_tup (pa_cons (pv 2) (pa_cons (pv 4) (pa_cons (pe_meth (pv 3) T.cl_Edition M_Edition_with_sheets G_Edition_with_sheets (hr.mono (by decide)) B_Edition_with_sheets .nil pass0 (pa_cons (pv 4) pa_nil)) pa_nil)))) pa_nil)))))))
  (pss_one (ps_ret (pv 1))))), ?_⟩
    refine ⟨(by show 0 ≤ sizeLine; decide), fun p np => ?_⟩
    have s0 := same_new (o := .lst []) np
    refine ⟨_, rfl, b, _, dx, _, _, rfl, s0 _ _ h1, T.cl_Book, T.n_Book_editions, rfl, le, _, rfl, SqL.of (s0 _ _ hl), for_it (walk_enum (xs := ks.map fun k => V.ref k.1)) (fun i σ H2 => ∃ x y z : Option V, σ = [some (.ref b), some (.ref p), x, y, z] ∧ ∃ acc, H2 p = some (.lst acc) ∧ Same H H2 ∧ BO St3 (fun j => ((S.editions.take j).zipIdx).flatMap stOf) i (rem p H2) acc)
      ⟨none, none, none, rfl, [], upd_same, s0, BO.zero rfl⟩ (fun i σ H2 _ ⟨_, _, _, _, _, _, s2, _⟩ => SqL.of (s2 _ _ hl)) ?_ ?_⟩
    · rintro i v σ H2 H3 hi ⟨x1, y1, z1, rfl, acc, hacc, s2, bo⟩ ⟨t, x', y', rfl, nt, rfl, e1, e2⟩
      injection e1 with e1
      subst e1
      obtain ⟨kk, hi2, rfl, hx, hm⟩ := LR.get ek e2
      have s3 : Same H (upd H2 t (.tup [.int (i : Nat), .ref kk.1])) := same_at s2 (s2.free nt)
      have hE := (hk kk hm).same s3
      have ok := g.ed kk.2 (List.mem_of_getElem? hx)
      obtain ⟨de, nu, ss, h4, h5, ⟨js, ej, h6, h7⟩⟩ := hE.ob
      refine tup2 upd_same ?_
      have ls : ((js.map fun k => V.ref k.1).length : Int) = (kk.2.sheets.length : Int) := by rw [LR.len ej]
      have b0 : BO St3 (fun j => ((S.editions.take i).zipIdx).flatMap stOf ++ ((List.range j).map fun n => ((i : Nat), n, Vbceaj.amended kk.2 n))) 0 (rem p (upd H2 t (.tup [.int (i : Nat), .ref kk.1]))) acc := by
        obtain ⟨qs, q1, q2, q3⟩ := bo
        exact ⟨qs, by rw [q1]; simp, q2, fun k hm => mSt3 _ _ _ _ (rem_same (same_new nt)) (q3 k hm)⟩
      have hj : ((((js.map fun k => V.ref k.1).length : Int)) + 1).toNat = kk.2.sheets.length + 1 := by rw [ls]; omega
      have fw := ok.fw
      refine ⟨_, rfl, kk.1, _, de, _, _, rfl, h4, T.cl_Edition, T.n_Edition_sheets, rfl, ss, _, rfl, .inl (SqL.of h6), _, _, rfl, rfl, _, rfl, by rw [ls]; omega, by rw [ls]; omega, for_it (walk_rangeN hj) (fun j σ H4 => ∃ z : Option V, σ = [some (.ref b), some (.ref p), some (.int (i : Nat)), some (.ref kk.1), z] ∧ ∃ acc, H4 p = some (.lst acc) ∧ Same H H4 ∧ BO St3 (fun j => ((S.editions.take i).zipIdx).flatMap stOf ++ ((List.range j).map fun n => ((i : Nat), n, Vbceaj.amended kk.2 n))) j (rem p H4) acc)
        ⟨z1, rfl, acc, same_new nt _ _ hacc, s3, b0⟩ (fun _ _ _ _ _ => trivial) ?_ ?_⟩
      · rintro j v σ H4 H5 hj2 ⟨z2, rfl, acc2, hacc2, s4, bo2⟩ ⟨rfl, rfl⟩
        have hE4 := (hk kk hm).same s4
        obtain ⟨de', nu', ss', h4', _⟩ := hE4.ob
        refine ⟨_, rfl, .inl ⟨rfl, _, SqL.of hacc2⟩, ?_⟩
        refine ⟨_, rfl, _, rfl, _, rfl, kk.1, de', _, rfl, h4', rfl, _, rfl, kk.1, j, _, kk.2, rfl, hE4, ok, fun H6 q s6 hq hw => ?_⟩
        refine ⟨(by show 3 ≤ sizeLine; decide), fun t2 nt2 => ?_⟩
        have s7 := s6.trans (same_new (o := .tup [.int (i : Nat), .int (j : Nat), .ref q]) nt2)
        have hl2 : acc2.length ≤ 1000 := by
          obtain ⟨qs, q1, q2, q3⟩ := bo2
          have a1 := congrArg List.length q1
          have a2 := states_len (l := (S.editions.take i).zipIdx) (ed_zip g.ed 0 i)
          have a3 := g.el
          rw [List.length_zipIdx, List.length_take] at a2
          rw [q2, List.length_map]
          rw [List.length_map, List.length_append, List.length_map, List.length_range] at a1
          omega
        have qp : q ≠ p := by
          rcases hw with hw | ⟨dw, sw, hw⟩
          · exact Ne.symm (ne_of_none hacc2 hw)
          · obtain ⟨d0, n0, s0', k1, k2, _⟩ := (hk kk hm).ob
            rw [s4 _ _ k1] at hw
            injection hw with hw
            injection hw with _ _ hw
            have : n0 = q := by
              unfold fEd at hw
              injection hw with hw
              injection hw with _ hw
              injection hw
            rw [← this]
            exact ne_of_none k2 np
        refine ⟨p, _, _, rfl, rfl, s7 _ _ hacc2, few (by omega), _, rfl, _, upd_same, same_at (s4.trans s7) np, ?_⟩
        rw [rem_upd]
        refine bo2.put mSt3 (rem_same s7) (x := ((i : Nat), j, Vbceaj.amended kk.2 j)) ⟨q, ?_, ?_⟩ ?_
        · rw [rem_ne (Ne.symm (ne_of_none (s6 _ _ hacc2) nt2)), upd_same]
        · show rem p _ q = _
          rw [rem_ne qp]
          exact same_new nt2 _ _ hq
        · show _ ++ (List.range (j + 1)).map _ = _
          rw [List.range_succ, List.map_append, ← List.append_assoc]; rfl
      · rintro σ H4 ⟨z2, rfl, acc2, hacc2, s4, bo2⟩
        refine ⟨_, _, _, rfl, acc2, hacc2, s4, ?_⟩
        obtain ⟨qs, q1, q2, q3⟩ := bo2
        refine ⟨qs, q1.trans ?_, q2, q3⟩
        show _ = ((S.editions.take (i + 1)).zipIdx).flatMap stOf
        rw [Em.flatMap_next hx]; rfl
    · rintro σ H2 ⟨x1, y1, z1, rfl, acc, hacc, s2, bo⟩
      obtain ⟨qs, q1, q2, q3⟩ := bo
      rw [LR.len ek] at q1
      dsimp only at q1
      rw [List.take_length] at q1
      rw [q2] at hacc
      exact ⟨_, rfl, k _ p s2 np ⟨qs, q1, hacc, fun x hx => mSt3 _ _ _ _ rem_up (q3 x hx)⟩⟩
end
end EX
namespace EX
open PySem PySem.Spec PyProof.Rows L2
open Vbceaj (Sheet Erratum State)
theorem isS_len {n : Nat} {t : Sheet} (h : Em.IsS n t) (hn : n ≤ 60) : t.length ≤ 60 := by
  have := nodup_lt 60 ((Vbceaj.places t).map fun (n : Nat) => (n : Int)) (List.pairwise_map.mpr (h.nodup.imp fun h e => h (by omega))) fun x hx => by
    obtain ⟨p, hp, rfl⟩ := List.mem_map.mp hx
    obtain ⟨y, hy, rfl⟩ := List.mem_map.mp hp
    have := h.lt y hy
    omega
  rw [List.length_map] at this
  unfold Vbceaj.places at this
  rw [List.length_map] at this
  exact this
theorem states_val {S : State} (g : Good S) {z : Nat × Nat × List Int} (h : z ∈ Em.states S) : z.2.2.length = Vbceaj.size S := by
  unfold Em.states at h
  obtain ⟨x, hx, hz⟩ := List.mem_flatMap.mp h
  obtain ⟨n, hn, rfl⟩ := List.mem_map.mp hz
  exact am_len (g.ed _ (List.fst_mem_of_mem_zipIdx hx)).num n
theorem states_pos {S : State} (h : S.editions ≠ []) : 0 < (Em.states S).length := by
  unfold Em.states
  cases q : S.editions with
  | nil => exact absurd q h
  | cons x l =>
    rw [List.zipIdx_cons, List.flatMap_cons, List.length_append, List.length_map, List.length_range]
    omega
theorem getD_at {l : List Int} {p : Nat} (h : p < l.length) : (l.map V.int)[p]? = some (.int (l.getD p 0)) := by
  rw [List.getElem?_map, List.getD_eq_getElem?_getD, List.getElem?_eq_getElem h]; rfl
section
variable {P : Program} {w : World} {K : PySem.W.Frag} {mg : Str → Option Value} {base : Heap} {Z : Ad}
def spSince (Z : Ad) : Sp := fun vs H Q _ => ∃ (b : Addr) (pl : Nat) (S : State), vs = [.ref b, .int pl] ∧ BkR Z H b S ∧ Good S ∧ S.editions ≠ [] ∧ pl < Vbceaj.size S ∧ ∀ H' p y, Same H H' → H p = none → Vbceaj.since S pl = some y → LI H' p [(y.1 : Int), (y.2 : Int)] → Q (.ref p) H'
theorem ok_Book_since (T : Txt K mg Z) : OkM P w K mg base CX0 4 Z.cBook "since" ["self", "place"] (spSince Z) := by
  obtain ⟨f0, fd0, M0, F0⟩ := T.d_Book_since
  obtain ⟨f_Book_states, fd_Book_states, M_Book_states, G_Book_states, B_Book_states⟩ := ok_Book_states (P := P) (w := w) (base := base) T
  refine ⟨f0, fd0, M0, F0.ok sc_Book_since (fun vs H Q E h => ?_) (fun cdv A outer s H vs Q E hr h => ?_), (F0.binds fun _ _ _ _ _ _ us hl => match us, hl with | [_, _], _ => rfl)⟩
  · obtain ⟨b, pl, S, rfl, _⟩ := h
    rfl
  · obtain ⟨b, pl, S, rfl, hb, g, hn, hpl, k⟩ := h
    obtain ⟨dx, le, lc, h1, _⟩ := hb.ob
    refine ⟨_, (pss_cons (ps_set (i := 2) sc_Book_since.nd rfl (Or.inl rfl) (pe_meth0 (pv 0) T.cl_Book M_Book_states G_Book_states (hr.mono (by decide)) B_Book_states .nil pass0))
  (pss_cons (ps_set (i := 3) sc_Book_since.nd rfl (Or.inl rfl) (pe_ix ix_list (pe_ix ix_tup (pe_ix ix_list (pv 2) (pe_un un_neg pe_int) (fun _ _ => rfl)) pe_int (fun _ _ => rfl)) (pv 1) (fun _ _ => rfl)))
  (pss_cons (ps_set (i := 4) sc_Book_since.nd rfl (Or.inl rfl) (pe_op op_sub (pe_callB call_len_seq (by rfl) T.b_len (by decide +kernel) (pa_cons (pv 2) pa_nil)) pe_int))
  (pss_cons (ps_while PassesOwn.never (PW.pt (pw_and (pt_cmpR op_gt (pv 4) pe_int (nomark _)) (pw_and1 (pt_cmpR op_eq (pe_ix ix_list (pe_ix ix_tup (pe_ix ix_list (pv 2) (pe_op op_sub (pv 4) pe_int) (fun _ _ => rfl)) pe_int (fun _ _ => rfl)) (pv 1) (fun _ _ => rfl)) (pv 3) (nomark _)))))
  (pss_one (ps_aug (i := 4) sc_Book_since.nd rfl (.inl rfl) pe_int ip_sub)))
  (pss_one (ps_ret (pe_lst (pa_cons (pe_ix ix_tup (pe_ix ix_list (pv 2) (pv 4) (fun _ _ => rfl)) pe_int (fun _ _ => rfl)) (pa_cons (pe_ix ix_tup (pe_ix ix_list (pv 2) (pv 4) (fun _ _ => rfl)) pe_int (fun _ _ => rfl)) pa_nil))))))))), ?_⟩
    refine ⟨_, rfl, b, dx, _, rfl, h1, rfl, b, S, rfl, hb, g, fun H1 q s1 nq ⟨ks, ek, hq, hk⟩ => ?_⟩
    have hpos := states_pos hn
    have hlen := LR.len ek
    obtain ⟨x, hx⟩ : ∃ x, (Em.states S)[(Em.states S).length - 1]? = some x := ⟨_, List.getElem?_eq_getElem (by omega)⟩
    -- what stands at a place
    have look : ∀ {H2 : Hp} {i : Nat} {z : Nat × Nat × List Int}, Same H1 H2 → (Em.states S)[i]? = some z → ∃ (t n : Addr), (ks.map fun k => V.ref k.1)[i]? = some (.ref t) ∧ H2 t = some (.tup [.int z.1, .int z.2.1, .ref n]) ∧ H2 n = some (.lst (z.2.2.map V.int)) ∧ (z.2.2.map V.int)[pl]? = some (.int (z.2.2.getD pl 0)) := fun s2 hz => by
      obtain ⟨t, e1, n, e2, e3⟩ := LR.at_ ek hk hz
      exact ⟨t, n, e1, s2 _ _ e2, s2 _ _ e3, getD_at (by rw [states_val g (List.mem_of_getElem? hz)]; exact hpl)⟩
    obtain ⟨t0, n0, e1, e2, e3, e4⟩ := look (Same.refl H1) hx
    have e1' : (ks.map fun k => V.ref k.1)[(ks.map fun k => V.ref k.1).length - 1]? = some (.ref t0) := by rw [hlen]; exact e1
    refine ⟨_, rfl, _, rfl, q, _, _, _, rfl, rfl, SqL.of hq, atI_end e1' (fun z => by rw [z] at e1; simp at e1), t0, _, _, _, rfl, rfl, SqT.of e2, atI2, _, rfl, n0, _, _, _, rfl, rfl, SqL.of e3, atI_nat e4, ?_⟩
    refine ⟨_, rfl, q, _, rfl, .inl (SqL.of hq), _, _, rfl, rfl, ?_⟩
    have e5 : (((ks.map fun k => V.ref k.1).length : Int)) - 1 = (((Em.states S).length - 1 : Nat) : Int) := by rw [hlen]; omega
    refine ⟨fun m σ H2 => σ = [some (.ref b), some (.int pl), some (.ref q), some (.int (x.2.2.getD pl 0)), some (.int m)] ∧ Same H1 H2 ∧ m < (Em.states S).length ∧ ∀ (j : Nat) z, m ≤ j → (Em.states S)[j]? = some z → z.2.2.getD pl 0 = x.2.2.getD pl 0,
      ⟨(Em.states S).length - 1, by
        refine ⟨?_, Same.refl _, by omega, fun j z hj hz => ?_⟩
        · show [_, _, _, _, some (V.int _)] = _
          rw [e5]
        · have : j = (Em.states S).length - 1 := by have := (List.getElem?_eq_some_iff.mp hz).1; omega
          rw [this, hx] at hz
          injection hz with hz
          rw [hz]⟩, ?_⟩
    rintro m σ H2 ⟨rfl, s2, hm, hs⟩
    -- the end: since there
    have fin : ∀ (y : Nat × Nat × List Int), (Em.states S)[m]? = some y → (∀ z, 0 < m → (Em.states S)[m - 1]? = some z → z.2.2.getD pl 0 ≠ x.2.2.getD pl 0) → ∀ p, H2 p = none → Q (.ref p) (upd H2 p (.lst [.int y.1, .int y.2.1])) := fun y hy hb p np =>
      k _ p (y.1, y.2.1) ((s1.trans s2).trans (same_new np)) ((s1.trans s2).free np) (Em.since_eq hx hy hs hb) upd_same
    obtain ⟨y, hy⟩ : ∃ y, (Em.states S)[m]? = some y := ⟨_, List.getElem?_eq_getElem hm⟩
    obtain ⟨t1, n1, f1, f2, f3, f4⟩ := look s2 hy
    refine ⟨_, rfl, _, _, rfl, rfl, _, rfl, if_dec (fun c => ?_) fun c => ?_⟩
    · have hm0 : 0 < m := by have := of_decide_eq_true c; omega
      obtain ⟨z, hz⟩ : ∃ z, (Em.states S)[m - 1]? = some z := ⟨_, List.getElem?_eq_getElem (by omega)⟩
      obtain ⟨t2, n2, j1, j2, j3, j4⟩ := look s2 hz
      have em : (m : Int) - 1 = ((m - 1 : Nat) : Int) := by omega
      refine ⟨_, rfl, _, rfl, _, _, rfl, rfl, q, _, _, _, rfl, rfl, SqL.of (s2 _ _ hq), by rw [em]; exact atI_nat j1, t2, _, _, _, rfl, rfl, SqT.of j2, atI2, _, rfl, n2, _, _, _, rfl, rfl, SqL.of j3, atI_nat j4, _, rfl, rfl, _, rfl, ?_⟩
      rw [dV]
      refine if_dec (fun c2 => ?_) fun c2 => ?_
      · have c2' := of_decide_eq_true c2
        refine ⟨fun σ' H' => σ' = [some (.ref b), some (.int pl), some (.ref q), some (.int (x.2.2.getD pl 0)), some (.int ((m - 1 : Nat) : Int))] ∧ Same H1 H', fun σ' H' ⟨e, s3⟩ => ⟨m - 1, by omega, e, s3, by omega, fun j z' hj hz' => ?_⟩, ?_⟩
        · by_cases q : j = m - 1
          · rw [q, hz] at hz'
            injection hz' with hz'
            rw [← hz']; exact c2'
          · exact hs j z' (by omega) hz'
        · refine ⟨_, rfl, _, _, rfl, rfl, ?_, s2⟩
          show [_, _, _, _, some (V.int ((m : Int) - 1))] = _
          rw [em]
      · have c2' := of_decide_eq_false c2
        refine ⟨_, rfl, _, rfl, q, _, _, _, rfl, rfl, SqL.of (s2 _ _ hq), atI_nat f1, t1, _, _, _, rfl, rfl, SqT.of f2, atI0, _, rfl, _, rfl, q, _, _, _, rfl, rfl, SqL.of (s2 _ _ hq), atI_nat f1, t1, _, _, _, rfl, rfl, SqT.of f2, atI1, (by show 2 ≤ sizeLine; decide), fun p np => fin y hy (fun z' _ hz' => ?_) p np⟩
        rw [hz] at hz'
        injection hz' with hz'
        rw [← hz']; exact c2'
    · have hm0 : m = 0 := by have := of_decide_eq_false c; omega
      refine ifF rfl ?_
      exact ⟨_, rfl, _, rfl, q, _, _, _, rfl, rfl, SqL.of (s2 _ _ hq), atI_nat f1, t1, _, _, _, rfl, rfl, SqT.of f2, atI0, _, rfl, _, rfl, q, _, _, _, rfl, rfl, SqL.of (s2 _ _ hq), atI_nat f1, t1, _, _, _, rfl, rfl, SqT.of f2, atI1, (by show 2 ≤ sizeLine; decide), fun p np => fin y hy (fun z' h' hz' => absurd h' (by omega)) p np⟩
end
end EX
namespace EX
open PySem PySem.Spec PyProof.Rows L2
open Vbceaj (Sheet Erratum State)
def tr3 (y : Nat × Nat × Nat) : List Int := [(y.1 : Int), (y.2.1 : Int), (y.2.2 : Int)]
theorem spo_len (truth : List Int) (e k : Nat) : ∀ (t : List (Erratum × Nat)), (t.filterMap (Em.spoOne truth e k)).length ≤ t.length := fun t => List.length_filterMap_le _ t
theorem spoSh_len {n : Nat} (hn : n ≤ 60) (truth : List Int) (e : Nat) : ∀ {l : List (Sheet × Nat)}, (∀ t ∈ l, Em.IsS n t.1) → (l.flatMap (Em.spoSh truth e)).length ≤ 60 * l.length
  | [], _ => Nat.le_refl _
  | t :: l, h => by
    have ih := spoSh_len hn truth e (l := l) fun y hy => h y (List.mem_cons_of_mem _ hy)
    have h1 := isS_len (h t List.mem_cons_self) hn
    have h2 := spo_len truth e t.2 t.1.zipIdx
    rw [List.length_zipIdx] at h2
    rw [List.flatMap_cons, List.length_append, List.length_cons]
    show (t.1.zipIdx.filterMap _).length + _ ≤ _
    omega
theorem spoEd_len {n : Nat} (hn : n ≤ 60) (truth : List Int) : ∀ {l : List (Vbceaj.Edition × Nat)}, (∀ x ∈ l, EdOk n x.1) → (l.flatMap (Em.spoEd truth)).length ≤ 480 * l.length
  | [], _ => Nat.le_refl _
  | x :: l, h => by
    have ih := spoEd_len hn truth (l := l) fun y hy => h y (List.mem_cons_of_mem _ hy)
    have h1 := h x List.mem_cons_self
    have h2 := spoSh_len hn truth x.2 (l := x.1.sheets.zipIdx) fun t ht => h1.sh _ (List.fst_mem_of_mem_zipIdx ht)
    rw [List.length_zipIdx] at h2
    have h3 := h1.fw
    rw [List.flatMap_cons, List.length_append, List.length_cons]
    show (x.1.sheets.zipIdx.flatMap _).length + _ ≤ _
    omega
section
variable {P : Program} {w : World} {K : PySem.W.Frag} {mg : Str → Option Value} {base : Heap} {Z : Ad}
def spSpo (Z : Ad) : Sp := fun vs H Q _ => ∃ (b n : Addr) (S : State) (l : List Int), vs = [.ref b, .ref n] ∧ BkR Z H b S ∧ Good S ∧ LI H n l ∧ l.length = Vbceaj.size S ∧ ∀ H' p, Same H H' → H p = none → RL H' p ((Vbceaj.spoiled S l).map tr3) → Q (.ref p) H'
theorem ok_Book_spoiling (T : Txt K mg Z) : OkM P w K mg base CX0 1 Z.cBook "spoiling" ["self", "numbers"] (spSpo Z) := by
  obtain ⟨f0, fd0, M0, F0⟩ := T.d_Book_spoiling
  refine ⟨f0, fd0, M0, F0.ok sc_Book_spoiling (fun vs H Q E h => ?_) (fun cdv A outer s H vs Q E hr h => ?_), (F0.binds fun _ _ _ _ _ _ us hl => match us, hl with | [_, _], _ => rfl)⟩
  · obtain ⟨b, n, S, l, rfl, _⟩ := h
    rfl
  · obtain ⟨b, n, S, l, rfl, hb, g, hl, hll, k⟩ := h
    obtain ⟨dx, le, lc, h1, ⟨ks, ek, he, hk⟩, h3⟩ := hb.ob
    refine ⟨_, (pss_cons (ps_set (i := 2) sc_Book_spoiling.nd rfl (Or.inl rfl) (pe_lst pa_nil))
  (pss_cons (ps_for PassesOwn.never rfl (pi_enum (by rfl) T.b_enumerate (pa_cons (pe_fld (pv 0) rfl) pa_nil)) (pg_tup rfl (pgs_cons (pg_name (i := 3) sc_Book_spoiling.nd rfl (.inl rfl)) (pgs_cons (pg_name (i := 4) sc_Book_spoiling.nd rfl (.inl rfl)) pgs_nil)))
  (pss_one (ps_for PassesOwn.never rfl (pi_enum (by rfl) T.b_enumerate (pa_cons (pe_fld (pv 4) rfl) pa_nil)) (pg_tup rfl (pgs_cons (pg_name (i := 5) sc_Book_spoiling.nd rfl (.inl rfl)) (pgs_cons (pg_name (i := 6) sc_Book_spoiling.nd rfl (.inl rfl)) pgs_nil)))
  (pss_one (ps_for PassesOwn.never rfl (pi_enum (by rfl) T.b_enumerate (pa_cons (pv 6) pa_nil)) (pg_tup rfl (pgs_cons (pg_name (i := 7) sc_Book_spoiling.nd rfl (.inl rfl)) (pgs_cons (pg_name (i := 8) sc_Book_spoiling.nd rfl (.inl rfl)) pgs_nil)))
  (pss_one (ps_if (pt_cmpR op_eq (pe_ix ix_tup (pv 8) pe_int (fun _ _ => rfl)) (pe_ix ix_list (pv 1) (pe_ix ix_tup (pv 8) pe_int (fun _ _ => rfl)) (fun _ _ => rfl)) (nomark _)) (pss_one (ps_expr (pe_bm PySem.F.plainAttrs_list PySem.F.slot_list_append PySem.F.type_list_append mt_append (pv 2) (pa_cons (pe_lst (pa_cons (pv 3) (pa_cons (pv 5) (pa_cons (pv 7) pa_nil)))) pa_nil)))) pss_nil)))))))
  (pss_one (ps_ret (pv 2))))), ?_⟩
    refine ⟨(by show 0 ≤ sizeLine; decide), fun p np => ?_⟩
    have s0 := same_new (o := .lst []) np
    have g60 := g.sz
    refine ⟨_, rfl, b, _, dx, _, _, rfl, s0 _ _ h1, T.cl_Book, T.n_Book_editions, rfl, le, _, rfl, SqL.of (s0 _ _ he), for_it (walk_enum (xs := ks.map fun k => V.ref k.1)) (fun i σ H2 => ∃ x1 x2 x3 x4 x5 x6 : Option V, σ = [some (.ref b), some (.ref n), some (.ref p), x1, x2, x3, x4, x5, x6] ∧ ∃ acc, H2 p = some (.lst acc) ∧ Same H H2 ∧ BO LI (fun j => (((S.editions.take j).zipIdx).flatMap (Em.spoEd l)).map tr3) i (rem p H2) acc)
      ⟨none, none, none, none, none, none, rfl, [], upd_same, s0, BO.zero rfl⟩ (fun i σ H2 _ ⟨_, _, _, _, _, _, _, _, _, s2, _⟩ => SqL.of (s2 _ _ he)) ?_ ?_⟩
    · rintro i v σ H2 H3 hi ⟨x1, x2, x3, x4, x5, x6, rfl, acc, hacc, s2, bo⟩ ⟨t, x', y', rfl, nt, rfl, e1, e2⟩
      injection e1 with e1
      subst e1
      obtain ⟨kk, hi2, rfl, hx, hm⟩ := LR.get ek e2
      have s3 : Same H (upd H2 t (.tup [.int (i : Nat), .ref kk.1])) := same_at s2 (s2.free nt)
      have hE := hk kk hm
      have ok := g.ed kk.2 (List.mem_of_getElem? hx)
      obtain ⟨de, nu, ss, h4, h5, ⟨js, ej, h6, h7⟩⟩ := hE.ob
      have il := (List.getElem?_eq_some_iff.mp hx).1
      refine tup2 upd_same ?_
      refine ⟨_, rfl, kk.1, _, de, _, _, rfl, s3 _ _ h4, T.cl_Edition, T.n_Edition_sheets, rfl, ss, _, rfl, SqL.of (s3 _ _ h6), for_it (walk_enum (xs := js.map fun k => V.ref k.1)) (fun j σ H4 => ∃ x3 x4 x5 x6 : Option V, σ = [some (.ref b), some (.ref n), some (.ref p), some (.int (i : Nat)), some (.ref kk.1), x3, x4, x5, x6] ∧ ∃ acc, H4 p = some (.lst acc) ∧ Same H H4 ∧ BO LI (fun j => (((S.editions.take i).zipIdx).flatMap (Em.spoEd l)).map tr3 ++ (((kk.2.sheets.take j).zipIdx).flatMap (Em.spoSh l i)).map tr3) j (rem p H4) acc)
        ⟨x3, x4, x5, x6, rfl, acc, same_new nt _ _ hacc, s3, ?_⟩ (fun i σ H2 _ ⟨_, _, _, _, _, _, _, s2, _⟩ => SqL.of (s2 _ _ h6)) ?_ ?_⟩
      · obtain ⟨qs, q1, q2, q3⟩ := bo
        exact ⟨qs, by rw [q1]; simp, q2, fun k hm => mLI _ _ _ _ (rem_same (same_new nt)) (q3 k hm)⟩
      · rintro j v σ H4 H5 hj ⟨x3, x4, x5, x6, rfl, acc2, hacc2, s4, bo2⟩ ⟨t2, x', y', rfl, nt2, rfl, e1, e2⟩
        injection e1 with e1
        subst e1
        obtain ⟨jj, hj2, rfl, hy, hm2⟩ := LR.get ej e2
        have s5 : Same H (upd H4 t2 (.tup [.int (j : Nat), .ref jj.1])) := same_at s4 (s4.free nt2)
        obtain ⟨us, eu, h8, h9⟩ := h7 jj hm2
        have iS := ok.sh jj.2 (List.mem_of_getElem? hy)
        have jl := (List.getElem?_eq_some_iff.mp hy).1
        refine tup2 upd_same ?_
        refine ⟨_, rfl, jj.1, _, rfl, SqL.of (s5 _ _ h8), for_it (walk_enum (xs := us.map fun k => V.ref k.1)) (fun m σ H6 => ∃ x5 x6 : Option V, σ = [some (.ref b), some (.ref n), some (.ref p), some (.int (i : Nat)), some (.ref kk.1), some (.int (j : Nat)), some (.ref jj.1), x5, x6] ∧ ∃ acc, H6 p = some (.lst acc) ∧ Same H H6 ∧ BO LI (fun m => ((((S.editions.take i).zipIdx).flatMap (Em.spoEd l)).map tr3 ++ (((kk.2.sheets.take j).zipIdx).flatMap (Em.spoSh l i)).map tr3) ++ (((jj.2.take m).zipIdx).filterMap (Em.spoOne l i j)).map tr3) m (rem p H6) acc)
          ⟨x5, x6, rfl, acc2, same_new nt2 _ _ hacc2, s5, ?_⟩ (fun i σ H2 _ ⟨_, _, _, _, _, s2, _⟩ => SqL.of (s2 _ _ h8)) ?_ ?_⟩
        · obtain ⟨qs, q1, q2, q3⟩ := bo2
          exact ⟨qs, by rw [q1]; simp, q2, fun k hm => mLI _ _ _ _ (rem_same (same_new nt2)) (q3 k hm)⟩
        · rintro m v σ H6 H7 hm3 ⟨x5, x6, rfl, acc3, hacc3, s6, bo3⟩ ⟨t3, x', y', rfl, nt3, rfl, e1, e2⟩
          injection e1 with e1
          subst e1
          obtain ⟨uu, hu2, rfl, hz, hm4⟩ := LR.get eu e2
          obtain ⟨x, hz', e3⟩ := Em.getElem_map hz
          have s7 : Same H (upd H6 t3 (.tup [.int (m : Nat), .ref uu.1])) := same_at s6 (s6.free nt3)
          have s67 := same_new (o := .tup [.int (m : Nat), .ref uu.1]) nt3
          have ht : (upd H6 t3 (.tup [.int (m : Nat), .ref uu.1])) uu.1 = some (.tup (uu.2.map V.int)) := s7 _ _ (h9 _ hm4)
          rw [e3] at ht
          have hp : x.place < l.length := by rw [hll]; exact iS.lt x (List.mem_of_getElem? hz')
          have nx := Em.filterMapZ_next (f := Em.spoOne l i j) hz'
          refine tup2 upd_same ?_
          refine ⟨_, rfl, uu.1, _, _, _, rfl, rfl, SqT.of ht, atI1, _, rfl, _, rfl, uu.1, _, _, _, rfl, rfl, SqT.of ht, atI0, n, _, _, _, rfl, rfl, SqL.of (s7 _ _ hl), atI_nat (getD_at hp), rfl, _, rfl, ?_⟩
          rw [dV]
          have ml := (List.getElem?_eq_some_iff.mp hz').1
          by_cases q : x.old = l.getD x.place 0
          · rw [decide_eq_true q]
            have eo : Em.spoOne l i j (x, m) = some (i, j, m) := by unfold Em.spoOne; exact if_pos q
            have hl3 : acc3.length ≤ 5000 := by
              obtain ⟨qs, q1, q2, q3⟩ := bo3
              have a1 := congrArg List.length q1
              rw [List.length_map, List.length_append, List.length_append, List.length_map, List.length_map, List.length_map] at a1
              have a2 := spoEd_len g60 l (l := (S.editions.take i).zipIdx) (ed_zip g.ed 0 i)
              have a3 := spoSh_len g60 l i (l := (kk.2.sheets.take j).zipIdx) fun t ht => ok.sh _ (List.mem_of_mem_take (List.fst_mem_of_mem_zipIdx ht))
              have a4 := spo_len l i j (jj.2.take m).zipIdx
              have a5 := isS_len iS g60
              have a6 := g.el
              have a7 := ok.fw
              rw [List.length_zipIdx, List.length_take] at a2 a3 a4
              rw [q2, List.length_map]
              omega
            refine ifT rfl ?_
            refine ⟨_, rfl, .inl ⟨rfl, _, SqL.of (s67 _ _ hacc3)⟩, ?_⟩
            refine ⟨_, rfl, _, rfl, _, rfl, (by show 3 ≤ sizeLine; decide), fun t4 nt4 => ?_⟩
            have s8 := s67.trans (same_new (o := .lst [.int (i : Nat), .int (j : Nat), .int (m : Nat)]) nt4)
            refine ⟨p, _, _, rfl, rfl, s8 _ _ hacc3, few (by omega), _, _, rfl, _, upd_same, same_at (s6.trans s8) np, ?_⟩
            rw [rem_upd]
            refine bo3.put mLI (rem_same s8) (x := tr3 (i, j, m)) ?_ ?_
            · show rem p _ t4 = _
              rw [rem_ne (Ne.symm (ne_of_none (s67 _ _ hacc3) nt4)), upd_same]; rfl
            · show _ ++ List.map tr3 _ = _
              rw [nx, eo, List.map_append, ← List.append_assoc]; rfl
          · rw [decide_eq_false q]
            have eo : Em.spoOne l i j (x, m) = none := by unfold Em.spoOne; exact if_neg q
            refine ifF rfl ?_
            refine ⟨_, _, rfl, _, s67 _ _ hacc3, s7, bo3.keep mLI (rem_same s67) ?_⟩
            rw [nx, eo]; simp
        · rintro σ H6 ⟨x5, x6, rfl, acc3, hacc3, s6, qs, q1, q2, q3⟩
          refine ⟨_, _, _, _, rfl, acc3, hacc3, s6, qs, q1.trans ?_, q2, q3⟩
          rw [LR.len eu, List.length_map]
          dsimp only
          rw [List.take_length, Em.flatMap_next hy, List.map_append, List.append_assoc]; rfl
      · rintro σ H4 ⟨x3, x4, x5, x6, rfl, acc2, hacc2, s4, qs, q1, q2, q3⟩
        refine ⟨_, _, _, _, _, _, rfl, acc2, hacc2, s4, qs, q1.trans ?_, q2, q3⟩
        rw [LR.len ej]
        dsimp only
        rw [List.take_length, Em.flatMap_next hx, List.map_append]; rfl
    · rintro σ H2 ⟨x1, x2, x3, x4, x5, x6, rfl, acc, hacc, s2, qs, q1, q2, q3⟩
      rw [LR.len ek] at q1
      dsimp only at q1
      rw [List.take_length] at q1
      rw [q2] at hacc
      exact ⟨_, rfl, k _ p s2 np ⟨qs, q1, hacc, fun x hx => mLI _ _ _ _ rem_up (q3 x hx)⟩⟩
end
end EX
namespace EX
open PySem PySem.Spec PyProof.Rows L2
open Vbceaj (Sheet Erratum State)
/-- how often each number of L -/
structure CntP (kvs : List (Key × V)) (L : List Int) : Prop where
  keys : ∃ ks : List Int, kvs.map (·.1) = ks.map Sum.inl ∧ ks.Nodup ∧ ∀ k, k ∈ ks ↔ k ∈ L
  val : ∀ k : Int, valV kvs (Sum.inl k) = if L.count k = 0 then none else some (.int (L.count k : Nat))
theorem CntP.getD {kvs : List (Key × V)} {L : List Int} (c : CntP kvs L) (k : Int) : (valV kvs (Sum.inl k)).getD (.int 0) = .int (L.count k : Nat) := by
  rw [c.val]
  by_cases h : L.count k = 0
  · rw [if_pos h, h]; rfl
  · rw [if_neg h]; rfl
theorem putK_keys (kvs : List (Key × V)) (k : Key) (v : V) : (k ∈ kvs.map (·.1) → (putK kvs k v).map (·.1) = kvs.map (·.1)) ∧ (k ∉ kvs.map (·.1) → (putK kvs k v).map (·.1) = kvs.map (·.1) ++ [k]) := by
  unfold putK
  refine ⟨fun h => ?_, fun h => ?_⟩
  · have q : (kvs.any fun kv => decide (kv.1 = k)) = true := by
      obtain ⟨x, hx, e⟩ := List.mem_map.mp h
      exact List.any_eq_true.mpr ⟨x, hx, decide_eq_true e⟩
    rw [if_pos q, List.map_map]
    refine List.map_congr_left fun x _ => ?_
    show (if x.1 = k then (x.1, v) else x).1 = x.1
    split <;> rfl
  · have q : ¬ (kvs.any fun kv => decide (kv.1 = k)) = true := by
      intro z
      obtain ⟨x, hx, e⟩ := List.any_eq_true.mp z
      exact h (List.mem_map.mpr ⟨x, hx, of_decide_eq_true e⟩)
    rw [if_neg q, List.map_append]; rfl
theorem CntP.put {kvs : List (Key × V)} {L : List Int} (c : CntP kvs L) (k : Int) : CntP (putK kvs (Sum.inl k) (.int ((L.count k : Nat) + 1))) (L ++ [k]) := by
  obtain ⟨ks, h1, h2, h3⟩ := c.keys
  refine ⟨?_, fun j => ?_⟩
  · by_cases h : (Sum.inl k : Key) ∈ kvs.map (·.1)
    · rw [(putK_keys _ _ _).1 h]
      refine ⟨ks, h1, h2, fun j => ?_⟩
      rw [h1] at h
      obtain ⟨y, hy, e⟩ := List.mem_map.mp h
      injection e with e
      rw [h3 j, List.mem_append, List.mem_singleton]
      exact ⟨.inl, fun z => z.elim id fun z => by rw [z, ← h3, ← e]; exact hy⟩
    · rw [(putK_keys _ _ _).2 h]
      have hk : k ∉ ks := fun z => h (by rw [h1]; exact List.mem_map.mpr ⟨k, z, rfl⟩)
      refine ⟨ks ++ [k], by rw [h1, List.map_append]; rfl, List.nodup_append.mpr ⟨h2, by simp, fun a ha b hb e => ?_⟩, fun j => ?_⟩
      · rw [List.mem_singleton.mp hb] at e
        exact hk (e ▸ ha)
      · rw [List.mem_append, List.mem_append, h3 j]
  · rw [valV_put, List.count_append]
    by_cases h : j = k
    · subst h
      rw [if_pos rfl, List.count_singleton_self, if_neg (by omega)]
      congr 2
    · rw [if_neg (fun z => h (by injection z)), c.val j]
      have : List.count j [k] = 0 := by rw [List.count_eq_zero]; simp; exact h
      rw [this, Nat.add_zero]
theorem CntP.few {kvs : List (Key × V)} {L : List Int} (c : CntP kvs L) (h : ∀ x ∈ L, 0 ≤ x ∧ x < (60 : Nat)) : kvs.length ≤ 60 := by
  obtain ⟨ks, h1, h2, h3⟩ := c.keys
  have := nodup_lt 60 ks h2 fun x hx => h x ((h3 x).mp hx)
  have e := congrArg List.length h1
  rw [List.length_map, List.length_map] at e
  omega
def pI (t : Sheet) : List Int := t.map fun x => (x.place : Int)
def shI (l : List Sheet) : List Int := l.flatMap pI
def edI (l : List Vbceaj.Edition) : List Int := l.flatMap fun e => shI e.sheets
theorem edI_eq (l : List Vbceaj.Edition) : edI l = (Em.allPl l).map fun (n : Nat) => (n : Int) := by
  unfold edI Em.allPl shI pI
  rw [List.map_flatMap]
  congr 1
  funext e
  rw [List.map_flatMap]
  congr 1
  funext t
  unfold Vbceaj.places
  rw [List.map_map]; rfl
theorem sh_lt {n : Nat} (hn : n ≤ 60) {l : List Sheet} (h : ∀ t ∈ l, Em.IsS n t) : ∀ x ∈ shI l, 0 ≤ x ∧ x < (60 : Nat) := fun x hx => by
  obtain ⟨t, ht, hx⟩ := List.mem_flatMap.mp hx
  obtain ⟨y, hy, rfl⟩ := List.mem_map.mp hx
  have := (h t ht).lt y hy
  omega
theorem ed_lt {n : Nat} (hn : n ≤ 60) {l : List Vbceaj.Edition} (h : ∀ e ∈ l, EdOk n e) : ∀ x ∈ edI l, 0 ≤ x ∧ x < (60 : Nat) := fun x hx => by
  obtain ⟨e, he, hx⟩ := List.mem_flatMap.mp hx
  exact sh_lt hn (h e he).sh x hx
section
variable {P : Program} {w : World} {K : PySem.W.Frag} {mg : Str → Option Value} {base : Heap} {Z : Ad}
def spOft (Z : Ad) : Sp := fun vs H Q _ => ∃ (b : Addr) (S : State), vs = [.ref b] ∧ BkR Z H b S ∧ Good S ∧ ∀ H' p, Same H H' → H p = none → RL H' p ((Vbceaj.often S).map fun x => [(x.1 : Int), (x.2 : Int)]) → Q (.ref p) H'
theorem ok_Book_often (T : Txt K mg Z) : OkM P w K mg base CX0 1 Z.cBook "often" ["self"] (spOft Z) := by
  obtain ⟨f0, fd0, M0, F0⟩ := T.d_Book_often
  refine ⟨f0, fd0, M0, F0.ok sc_Book_often (fun vs H Q E h => ?_) (fun cdv A outer s H vs Q E hr h => ?_), (F0.binds fun _ _ _ _ _ _ us hl => match us, hl with | [_], _ => rfl)⟩
  · obtain ⟨b, S, rfl, _⟩ := h
    rfl
  · obtain ⟨b, S, rfl, hb, g, k⟩ := h
    obtain ⟨dx, le, lc, h1, ⟨ks, ek, he, hk⟩, h3⟩ := hb.ob
    have hu := hu_of hr
    refine ⟨_, (pss_cons (ps_set (i := 1) sc_Book_often.nd rfl (Or.inr rfl) pe_dnewK)
  (pss_cons (ps_for PassesOwn.never rfl (pi_list (pe_fld (pv 0) rfl)) (pg_name (i := 2) sc_Book_often.nd rfl (.inl rfl))
  (pss_one (ps_for PassesOwn.never rfl (pi_list (pe_fld (pv 2) rfl)) (pg_name (i := 3) sc_Book_often.nd rfl (.inl rfl))
  (pss_one (ps_for PassesOwn.never rfl (pi_list (pv 3)) (pg_name (i := 4) sc_Book_often.nd rfl (.inl rfl))
  (pss_one (ps_dput hu (pv 1) (pe_ix ix_tup (pv 4) pe_int (fun _ _ => rfl)) (pe_op op_add (pe_dget2 hu (pv 1) (pe_ix ix_tup (pv 4) pe_int (fun _ _ => rfl)) pe_int ⟨rfl, rfl, rfl, rfl⟩) pe_int) rfl)))))))
  (pss_one (ps_ret (pe_lc (own := [("place", 5)]) (g := gName 5) rfl sc_Book_often.nd (pi_list (pe_callB cr_sortedI (by rfl) T.b_sorted (by decide +kernel) (pa_cons (pe_callTy (call_list_dK rfl) (by rfl) T.b_list (by decide +kernel) (pa_cons (pv 1) pa_nil)) pa_nil))) (blkOk_by (N := ["self", "counts", "edition", "sheet", "erratum", "place"]) (sc := defScope s_Book_often) (by decide +kernel)) (fun _ _ _ _ _ => (pg_name (i := 5) sc_Book_often.nd rfl (.inl rfl))) (fun _ _ _ _ _ => pts_one (pt_cmpR op_gt (pe_dget hu (pv 1) (pv 5) (fun _ _ => rfl)) pe_int (nomark _))) (fun _ _ _ _ _ => (pe_lst (pa_cons (pv 5) (pa_cons (pe_dget hu (pv 1) (pv 5) (fun _ _ => rfl)) pa_nil))))))))), ?_⟩
    intro d nd
    have s0 := same_new (o := .dK []) nd
    have g60 := g.sz
    refine ⟨_, rfl, b, _, dx, _, _, rfl, s0 _ _ h1, T.cl_Book, T.n_Book_editions, rfl, ?_⟩
    refine ⟨le, rfl, ⟨_, SqL.of (s0 _ _ he)⟩, for_it (walk_list (xs := ks.map fun k => V.ref k.1)) (fun i σ H2 => ∃ x1 x2 x3 x4 : Option V, σ = [some (.ref b), some (.ref d), x1, x2, x3, x4] ∧ Same H H2 ∧ ∃ kvs, H2 d = some (.dK kvs) ∧ CntP kvs (edI (S.editions.take i)))
      ⟨none, none, none, none, rfl, s0, [], upd_same, ⟨[], rfl, List.nodup_nil, fun _ => Iff.rfl⟩, fun _ => rfl⟩ (fun i σ H2 _ ⟨_, _, _, _, _, s2, _⟩ => SqL.of (s2 _ _ he)) ?_ ?_⟩
    · rintro i v σ H2 H3 hi ⟨x1, x2, x3, x4, rfl, s2, kvs, hd, cn⟩ ⟨rfl, e2⟩
      obtain ⟨kk, hi2, rfl, hx, hm⟩ := LR.get ek e2
      have ok := g.ed kk.2 (List.mem_of_getElem? hx)
      obtain ⟨de, nu, ss, h4, h5, ⟨js, ej, h6, h7⟩⟩ := (hk kk hm).ob
      refine ⟨_, rfl, kk.1, _, de, _, _, rfl, s2 _ _ h4, T.cl_Edition, T.n_Edition_sheets, rfl, ?_⟩
      refine ⟨ss, rfl, ⟨_, SqL.of (s2 _ _ h6)⟩, for_it (walk_list (xs := js.map fun k => V.ref k.1)) (fun j σ H4 => ∃ x2 x3 x4 : Option V, σ = [some (.ref b), some (.ref d), some (.ref kk.1), x2, x3, x4] ∧ Same H H4 ∧ ∃ kvs, H4 d = some (.dK kvs) ∧ CntP kvs (edI (S.editions.take i) ++ shI (kk.2.sheets.take j)))
        ⟨x2, x3, x4, rfl, s2, kvs, hd, by show CntP kvs (_ ++ []); rw [List.append_nil]; exact cn⟩ (fun i σ H2 _ ⟨_, _, _, _, s2, _⟩ => SqL.of (s2 _ _ h6)) ?_ ?_⟩
      · rintro j v σ H4 H5 hj ⟨x2, x3, x4, rfl, s4, kvs, hd, cn⟩ ⟨rfl, e2⟩
        obtain ⟨jj, hj2, rfl, hy, hm2⟩ := LR.get ej e2
        obtain ⟨us, eu, h8, h9⟩ := h7 jj hm2
        have iS := ok.sh jj.2 (List.mem_of_getElem? hy)
        refine ⟨_, rfl, jj.1, rfl, ⟨_, SqL.of (s4 _ _ h8)⟩, for_it (walk_list (xs := us.map fun k => V.ref k.1)) (fun m σ H6 => ∃ x3 x4 : Option V, σ = [some (.ref b), some (.ref d), some (.ref kk.1), some (.ref jj.1), x3, x4] ∧ Same H H6 ∧ ∃ kvs, H6 d = some (.dK kvs) ∧ CntP kvs ((edI (S.editions.take i) ++ shI (kk.2.sheets.take j)) ++ pI (jj.2.take m)))
          ⟨x3, x4, rfl, s4, kvs, hd, by show CntP kvs (_ ++ []); rw [List.append_nil]; exact cn⟩ (fun i σ H2 _ ⟨_, _, _, s2, _⟩ => SqL.of (s2 _ _ h8)) ?_ ?_⟩
        · rintro m v σ H6 H7 hm3 ⟨x3, x4, rfl, s6, kvs, hd, cn⟩ ⟨rfl, e2⟩
          obtain ⟨uu, hu2, rfl, hz, hm4⟩ := LR.get eu e2
          obtain ⟨x, hz', e3⟩ := Em.getElem_map hz
          have ht : H7 uu.1 = some (.tup (uu.2.map V.int)) := s6 _ _ (h9 _ hm4)
          rw [e3] at ht
          have few60 : kvs.length ≤ 60 := cn.few fun z hz => by
            rcases List.mem_append.mp hz with hz | hz
            · rcases List.mem_append.mp hz with hz | hz
              · exact ed_lt g60 (fun e he => g.ed e (List.mem_of_mem_take he)) z hz
              · exact sh_lt g60 (fun t ht => ok.sh t (List.mem_of_mem_take ht)) z hz
            · obtain ⟨y, hy, rfl⟩ := List.mem_map.mp hz
              have := iS.lt y (List.mem_of_mem_take hy)
              omega
          refine ⟨_, rfl, d, rfl, .inl ⟨kvs, .inl hd⟩, _, rfl, uu.1, _, _, _, rfl, rfl, SqT.of ht, atI0, _, DGet.k (k := Sum.inl (x.place : Int)) hd, ?_⟩
          rw [cn.getD]
          refine ⟨_, _, rfl, rfl, _, rfl, _, rfl, uu.1, _, _, _, rfl, rfl, SqT.of ht, atI0, d, _, rfl, DPut.k (k := Sum.inl (x.place : Int)) hd (few (by omega)), _, _, rfl, same_at s6 nd, _, upd_same, ?_⟩
          have := cn.put x.place
          rw [List.append_assoc _ _ [(x.place : Int)]] at this
          have e4 : pI (jj.2.take (m + 1)) = pI (jj.2.take m) ++ [(x.place : Int)] := by rw [Em.take_next hz']; unfold pI; rw [List.map_append]; rfl
          rw [e4]
          exact this
        · rintro σ H6 ⟨x3, x4, rfl, s6, kvs, hd, cn⟩
          refine ⟨_, _, _, rfl, s6, kvs, hd, ?_⟩
          rw [LR.len eu, List.length_map, List.take_length, List.append_assoc] at cn
          have e4 : shI (kk.2.sheets.take (j + 1)) = shI (kk.2.sheets.take j) ++ pI jj.2 := by rw [Em.take_next hy]; unfold shI; rw [List.flatMap_append]; simp
          rw [e4]; exact cn
      · rintro σ H4 ⟨x2, x3, x4, rfl, s4, kvs, hd, cn⟩
        refine ⟨_, _, _, _, rfl, s4, kvs, hd, ?_⟩
        rw [LR.len ej, List.take_length] at cn
        have e4 : edI (S.editions.take (i + 1)) = edI (S.editions.take i) ++ shI kk.2.sheets := by rw [Em.take_next hx]; unfold edI; rw [List.flatMap_append]; simp
        rw [e4]; exact cn
    · rintro σ H2 ⟨x1, x2, x3, x4, rfl, s2, kvs, hd, cn⟩
      rw [LR.len ek, List.take_length] at cn
      obtain ⟨ks', q1, q2, q3⟩ := cn.keys
      refine ⟨_, rfl, d, kvs, rfl, hd, fun q nq => ?_⟩
      have eq : (kvs.map fun kv => kV kv.1) = ks'.map V.int := by
        have := congrArg (List.map kV) q1
        rw [List.map_map, List.map_map] at this
        exact this
      rw [eq]
      refine ⟨q, ks', rfl, SqL.of upd_same, fun ns r hperm hle nr => ?_⟩
      have s3 : Same H2 (upd (upd H2 q (.lst (ks'.map V.int))) r (.lst (ns.map V.int))) := (same_new nq).trans (same_new nr)
      have hpw : ns.Pairwise (· < ·) := by
        have nn : ns.Nodup := hperm.nodup_iff.mpr q2
        exact (hle.and nn).imp fun h => by omega
      have hmem : ∀ k, k ∈ ns ↔ k ∈ (Em.allPl S.editions).map fun (n : Nat) => (n : Int) := fun k => by rw [hperm.mem_iff, q3 k, edI_eq]
      have of := Em.often_is (s := S) (ns := ns) (fun e he t ht => (g.ed e he).sh t ht) hpw hmem
      refine ⟨r, rfl, ⟨_, SqL.of upd_same⟩, fun D hD => ?_⟩
      rw [← edI_eq] at of hmem
      have few60 : ns.length ≤ 60 := nodup_lt 60 ns (hperm.nodup_iff.mpr q2) fun x hx => ed_lt g60 (fun e he => g.ed e he) x ((hmem x).mp hx)
      refine lc_it (walk_list (xs := ns.map V.int)) (Grow (upd (upd H2 q (.lst (ks'.map V.int))) r (.lst (ns.map V.int))) D (BO LI fun i => ((ns.take i).filter fun k => decide (1 < (edI S.editions).count k)).map fun k => [k, ((edI S.editions).count k : Nat)])) (Grow.start hD (BO.zero rfl)) (fun i H2 _ g => SqL.of (g.same _ _ upd_same)) ?_ ?_
      · rintro i v H4 H5 hi ⟨acc, hacc, s5, bo, hle'⟩ ⟨rfl, e2⟩
        obtain ⟨z, hz, rfl⟩ := Em.getElem_map e2
        have hd5 := s5 _ _ (s3 _ _ hd)
        have hi4 := (List.getElem?_eq_some_iff.mp hz).1
        have cz : ¬ (edI S.editions).count z = 0 := by
          have := (hmem z).mp (List.mem_of_getElem? hz)
          have := List.count_pos_iff.mpr this
          omega
        have gz := cn.val z
        rw [if_neg cz] at gz
        have dg : DGet H5 d (.int z) (some (.int ((edI S.editions).count z : Nat))) := by have := DGet.k (k := Sum.inl z) hd5; rw [gz] at this; exact this
        have nx : (ns.take (i + 1)).filter (fun k => decide (1 < (edI S.editions).count k)) = (ns.take i).filter (fun k => decide (1 < (edI S.editions).count k)) ++ (if 1 < (edI S.editions).count z then [z] else []) := by
          rw [Em.take_next hz, List.filter_append]
          congr 1
          by_cases c : 1 < (edI S.editions).count z <;> simp [c]
        refine ⟨rfl, ?_⟩
        refine ⟨_, rfl, _, rfl, d, _, rfl, dg, _, _, rfl, rfl, _, rfl, if_dec (fun c => ?_) fun c => ?_⟩
        · have c' : 1 < (edI S.editions).count z := by have := of_decide_eq_true c; omega
          refine ⟨_, rfl, _, rfl, _, rfl, d, _, rfl, dg, (by show 2 ≤ sizeLine; decide), fun t nt => ?_⟩
          refine Grow.put hD hacc s5 hle' (by omega) (same_new nt) (bo.put (x := [z, ((edI S.editions).count z : Nat)]) mLI (rem_same (same_new nt)) ?_ ?_)
          · show rem D _ t = _
            rw [rem_ne (Ne.symm (ne_of_none hacc nt)), upd_same]; rfl
          · show List.map _ (List.filter _ (ns.take (i + 1))) = _
            rw [nx, if_pos c', List.map_append]; rfl
        · have c' : ¬ 1 < (edI S.editions).count z := by have := of_decide_eq_false c; omega
          refine Grow.keep hacc s5 hle' (Same.refl _) (bo.keep mLI (Same.refl _) ?_)
          show List.map _ (List.filter _ (ns.take (i + 1))) = _
          rw [nx, if_neg c', List.append_nil]
      · intro H4 g4
        have z := BO.done mLI g4
        rw [List.length_map, List.take_length] at z
        have s6 : Same H H4 := (s2.trans s3).trans g4.same
        refine k _ D s6 ((s2.trans s3).free hD) ?_
        have e5 : (Vbceaj.often S).map (fun x => [(x.1 : Int), (x.2 : Int)]) = ((ns.filter fun k => decide (1 < (edI S.editions).count k)).map fun k => [k, ((edI S.editions).count k : Nat)]) := by
          have := congrArg (List.map fun (x : Int × Int) => [x.1, x.2]) of
          rw [List.map_map, List.map_map] at this
          exact this.symm
        rw [e5]
        exact z
end
end EX
namespace EX
open PySem PySem.Spec PyProof.Rows L2
open SX (S)
theorem S_mk (l : List Nat) : (⟨l.toArray⟩ : Str) = S l := rfl
theorem S_tl (l : List Nat) : (S l).cps.toList = l := by simp [S]
theorem dS {a b : List Nat} : decide (V.str (S a) = V.str (S b)) = decide (a = b) := by
  by_cases h : a = b
  · rw [h]; simp
  · rw [decide_eq_false h, decide_eq_false]
    intro z
    injection z with z
    exact h (SX.S_inj z)
def fWd (w : Em.PW) : List (Str × V) := [("signs", V.str (S w.signs)), ("place", V.int w.place), ("is_line_end", V.bl w.le)]
def Wd (Z : Ad) (H : Hp) (a : Addr) (w : Em.PW) : Prop := ∃ dx, H a = some (.ins Z.cWord dx (fWd w))
theorem mWd {Z : Ad} : Mono (Wd Z) := fun _ _ _ _ s ⟨dx, h⟩ => ⟨dx, s _ _ h⟩
theorem letters_at : ∀ k < 26, (Str.ofString "abcdefghijklmnopqrstuvwxyz").cps.toList[k]? = some (97 + k) := by decide +kernel
theorem figures_at : ∀ k < 10, (Str.ofString "0123456789").cps.toList[k]? = some (48 + k) := by decide +kernel
theorem fig_mem (c : Nat) : decide (c ∈ (Str.ofString "0123456789").cps.toList) = Em.isDig c := by
  have e : (Str.ofString "0123456789").cps.toList = [48, 49, 50, 51, 52, 53, 54, 55, 56, 57] := by decide +kernel
  rw [e]
  unfold Em.isDig
  rw [Bool.eq_iff_iff]
  simp
  omega
section
variable {P : Program} {w : World} {K : PySem.W.Frag} {mg : Str → Option Value} {base : Heap} {Z : Ad}
/-- an exception's __init__ : it has a number under a name -/
def spExc (K : PySem.W.Frag) (C : Addr) (f : Str) : Sp := fun vs H Q _ => ∃ (a : Addr) (z : Int), vs = [.ref a, .int z] ∧ H a = some (exo a C none) ∧ ∀ dx, H dx = none → dx ≠ a → Q .non (upd (upd H dx (exd dx [(f, .int z)])) a (exo a C (some dx)))
theorem ok_Fault_init (T : Txt K mg Z) : OkX P w K mg base CX0 1 Z.cFault ["self", "place"] (spExc K Z.cFault "place") := by
  obtain ⟨f0, fd0, X0, I0, Y0, F0⟩ := T.d_Fault_init
  refine ⟨f0, fd0, X0, I0, Y0, F0.ok sc_Fault_init (fun vs H Q E h => ?_) (fun cdv A outer s H vs Q E hr h => ?_), (F0.binds fun _ _ _ _ _ _ us hl => match us, hl with | [_, _], _ => rfl)⟩
  · obtain ⟨a, z, rfl, _⟩ := h
    rfl
  · obtain ⟨a, z, rfl, ha, k⟩ := h
    refine ⟨_, (pss_cons (ps_expr (pe_veinit rfl T.b_ValueError T.veinit (pa_cons (pv 0) (pa_cons pe_str pa_nil))))
  (pss_one (ps_ost (pv 0) (pv 1)))), ?_⟩
    refine ⟨_, rfl, a, _, _, rfl, (by show 1 ≤ 1000; decide), X0, ha, ?_⟩
    exact ⟨_, rfl, _, rfl, a, _, rfl, X0, T.nx_Fault, .inl ⟨ha, fun dx h1 h2 => k dx h1 h2⟩⟩
theorem ok_Refused_init (T : Txt K mg Z) : OkX P w K mg base CX0 1 Z.cRefused ["self", "number"] (spExc K Z.cRefused "number") := by
  obtain ⟨f0, fd0, X0, I0, Y0, F0⟩ := T.d_Refused_init
  refine ⟨f0, fd0, X0, I0, Y0, F0.ok sc_Refused_init (fun vs H Q E h => ?_) (fun cdv A outer s H vs Q E hr h => ?_), (F0.binds fun _ _ _ _ _ _ us hl => match us, hl with | [_, _], _ => rfl)⟩
  · obtain ⟨a, z, rfl, _⟩ := h
    rfl
  · obtain ⟨a, z, rfl, ha, k⟩ := h
    refine ⟨_, (pss_cons (ps_expr (pe_veinit rfl T.b_ValueError T.veinit (pa_cons (pv 0) (pa_cons pe_str pa_nil))))
  (pss_one (ps_ost (pv 0) (pv 1)))), ?_⟩
    refine ⟨_, rfl, a, _, _, rfl, (by show 1 ≤ 1000; decide), X0, ha, ?_⟩
    exact ⟨_, rfl, _, rfl, a, _, rfl, X0, T.nx_Refused, .inl ⟨ha, fun dx h1 h2 => k dx h1 h2⟩⟩
def spSign : Sp := fun vs H Q _ => ∃ c : Nat, vs = [.int c] ∧ Q (.str (S [Em.sg c])) H
theorem ok_sign_of (T : Txt K mg Z) : OkF P w K mg base CX0 1 "sign_of" ["byte"] (spSign) := by
  obtain ⟨f0, fd0, g0, F0⟩ := T.d_sign_of
  refine ⟨f0, fd0, g0, F0.kp, F0.ok sc_sign_of (fun vs H Q E h => ?_) (fun cdv A outer s H vs Q E hr h => ?_), (F0.binds fun _ _ _ _ _ _ us hl => match us, hl with | [_], _ => rfl)⟩
  · obtain ⟨c, rfl, _⟩ := h
    rfl
  · obtain ⟨c, rfl, k⟩ := h
    refine ⟨_, (pss_cons (ps_if (pt_chain op_le op_le pe_int (pv 0) pe_int) (pss_one (ps_ret (pe_ix ix_str (pe_gstr rfl T.g_LETTERS) (pe_op op_sub (pv 0) pe_int) (fun _ _ => rfl)))) pss_nil)
  (pss_cons (ps_if (pt_chain op_le op_le pe_int (pv 0) pe_int) (pss_one (ps_ret (pe_ix ix_str (pe_gstr rfl T.g_FIGURES) (pe_op op_sub (pv 0) pe_int) (fun _ _ => rfl)))) pss_nil)
  (pss_cons (ps_if (pt_cmpR op_eq (pv 0) pe_int (nomark _)) (pss_one (ps_ret pe_str)) pss_nil)
  (pss_one (ps_ret (pe_gstr rfl T.g_UNKNOWN)))))), ?_⟩
    unfold Em.sg at k
    refine chainQ (g1 := fun i j => decide (i ≤ j)) (g2 := fun i j => decide (i ≤ j)) (a := 97) (b := c) (c := 122) (fun Q q => q) (vq rfl) (fun Q q => q) (if_dec (fun c1 => ?_) fun c1 => ?_)
    · have h1 : 97 ≤ c ∧ c ≤ 122 := by
        rw [Bool.and_eq_true, decide_eq_true_eq, decide_eq_true_eq] at c1; omega
      rw [if_pos h1] at k
      refine ⟨_, rfl, _, _, rfl, rfl, _, _, c, rfl, rfl, by decide +kernel, ?_, k⟩
      have e : (c : Int) - 97 = ((c - 97 : Nat) : Int) := by omega
      show atI _ ((c : Int) - 97) = _
      rw [e]
      refine atI_nat ?_
      rw [letters_at (c - 97) (by omega)]
      congr 1; omega
    have h1 : ¬ (97 ≤ c ∧ c ≤ 122) := by
      rw [Bool.and_eq_false_iff, decide_eq_false_iff_not, decide_eq_false_iff_not] at c1; omega
    rw [if_neg h1] at k
    refine @chainQ (fun i j => decide (i ≤ j)) (fun i j => decide (i ≤ j)) (tC (.int 48)) (tVar 0) (tC (.int 57)) _ _ _ 48 c 57 (fun Q q => q) (vq rfl) (fun Q q => q) ?_
    refine if_dec (fun c2 => ?_) fun c2 => ?_
    · have h2 : 48 ≤ c ∧ c ≤ 57 := by
        rw [Bool.and_eq_true, decide_eq_true_eq, decide_eq_true_eq] at c2; omega
      rw [if_pos h2] at k
      refine ⟨_, rfl, _, _, rfl, rfl, _, _, c, rfl, rfl, by decide +kernel, ?_, k⟩
      have e : (c : Int) - 48 = ((c - 48 : Nat) : Int) := by omega
      show atI _ ((c : Int) - 48) = _
      rw [e]
      refine atI_nat ?_
      rw [figures_at (c - 48) (by omega)]
      congr 1; omega
    have h2 : ¬ (48 ≤ c ∧ c ≤ 57) := by
      rw [Bool.and_eq_false_iff, decide_eq_false_iff_not, decide_eq_false_iff_not] at c2; omega
    rw [if_neg h2] at k
    refine ⟨_, rfl, rfl, _, rfl, ?_⟩
    rw [dV]
    refine if_dec (fun c3 => ?_) fun c3 => ?_
    · have h3 : c = 45 := by have := of_decide_eq_true c3; omega
      rw [if_pos h3] at k
      exact k
    · have h3 : ¬ c = 45 := by have := of_decide_eq_false c3; omega
      rw [if_neg h3] at k
      exact k
def spWdI (Z : Ad) : Sp := fun vs H Q _ => ∃ (p dx : Addr) (x : Em.PW), vs = [.ref p, .str (S x.signs), .int x.place, .bl x.le] ∧ H p = some (.ins Z.cWord dx []) ∧ ∀ H', H' p = some (.ins Z.cWord dx (fWd x)) → But p H H' → Q .non H'
theorem ok_Word_init (T : Txt K mg Z) : OkI P w K mg base CX0 1 Z.cWord ["self", "signs", "place", "is_line_end"] (spWdI Z) := by
  obtain ⟨f0, fd0, M0, F0⟩ := T.d_Word_init
  refine ⟨f0, fd0, M0, F0.ok sc_Word_init (fun vs H Q E h => ?_) (fun cdv A outer s H vs Q E hr h => ?_), (F0.binds fun _ _ _ _ _ _ us hl => match us, hl with | [_, _, _, _], _ => rfl)⟩
  · obtain ⟨p, dx, x, rfl, _⟩ := h
    rfl
  · obtain ⟨p, dx, x, rfl, hp, k⟩ := h
    refine ⟨_, (pss_cons (ps_fld (pv 0) (pv 1) rfl)
  (pss_cons (ps_fld (pv 0) (pv 2) rfl)
  (pss_one (ps_fld (pv 0) (pv 3) rfl)))), ?_⟩
    refine ⟨_, rfl, _, rfl, p, _, dx, _, rfl, hp, T.cl_Word, T.n_Word_signs, (by show 0 < 1000; decide), ?_⟩
    refine ⟨_, rfl, _, rfl, p, _, dx, _, rfl, upd_same, T.cl_Word, T.n_Word_place, (by show 1 < 1000; decide), ?_⟩
    refine ⟨_, rfl, _, rfl, p, _, dx, _, rfl, upd_same, T.cl_Word, T.n_Word_is_line_end, (by show 2 < 1000; decide), ?_⟩
    refine k _ upd_same fun b u e h => ?_
    rw [upd_ne h, upd_ne h, upd_ne h]
    exact e
def spPlain : Sp := fun vs H Q _ => ∃ l : List Nat, vs = [.str (S l)] ∧ l.length ≤ 10000 ∧ ∀ H', Same H H' → Q (.bl (Em.plain l)) H'
theorem ok_is_plain (T : Txt K mg Z) : OkF P w K mg base CX0 1 "is_plain" ["word"] (spPlain) := by
  obtain ⟨f0, fd0, g0, F0⟩ := T.d_is_plain
  refine ⟨f0, fd0, g0, F0.kp, F0.ok sc_is_plain (fun vs H Q E h => ?_) (fun cdv A outer s H vs Q E hr h => ?_), (F0.binds fun _ _ _ _ _ _ us hl => match us, hl with | [_], _ => rfl)⟩
  · obtain ⟨l, rfl, _⟩ := h
    rfl
  · obtain ⟨l, rfl, hl, k⟩ := h
    refine ⟨_, (pss_cons (ps_if (PW.pt (pw_or (pt_not (pt_chain op_le op_le pe_int (pe_callB call_len_str (by rfl) T.b_len (by decide +kernel) (pa_cons (pv 0) pa_nil)) (pe_gint rfl T.g_MOST_FIGURES))) (pw_or1 (pt_not (pt_val (pe_callB (cr_all rfl) (by rfl) T.b_all (by decide +kernel) (pa_cons (pe_lc (own := [("sign", 1)]) (g := gName 1) (tt := tYes) rfl sc_is_plain.nd (pi_str (pv 0)) (blkOk_by (N := ["word", "sign"]) (sc := defScope s_is_plain) (by decide +kernel)) (fun _ _ _ _ _ => (pg_name (i := 1) sc_is_plain.nd rfl (.inl rfl))) (fun _ _ _ _ _ => pts_nil) (fun _ _ _ _ _ => (pe_cmpR op_in_sign (pv 1) (pe_gstr rfl T.g_FIGURES) (by rfl)))) pa_nil))))))) (pss_one (ps_ret pe_bl)) pss_nil)
  (pss_one (ps_ret (pe_or (pe_cmpR op_eq (pv 0) pe_str (nomark _)) (pe_one (pe_cmpR op_ne (pe_ix ix_str (pv 0) pe_int (fun _ _ => rfl)) pe_str (nomark _))))))), ?_⟩
    have ez : (S l).length ≤ sizeLine := by rw [SX.S_len]; exact Nat.le_of_lt (few (by omega))
    have ep : Em.plain l = ((decide (1 ≤ l.length) && decide (l.length ≤ 13)) && Em.allDig l && (decide (l = [48]) || !decide (l.head? = some 48))) := rfl
    refine chainQ (g1 := fun i j => decide (i ≤ j)) (g2 := fun i j => decide (i ≤ j)) (a := 1) (b := (S l).length) (c := 13) (fun Q q => q) (fun Q q => ⟨_, rfl, _, rfl, ez, q⟩) (fun Q q => q) (if_dec (fun c1 => iteT ?_) fun c1 => ?_)
    · have h1 : (decide (1 ≤ l.length) && decide (l.length ≤ 13)) = false := by
        rw [SX.S_len] at c1
        rw [Bool.eq_false_iff]
        intro z
        rw [Bool.and_eq_true, decide_eq_true_eq, decide_eq_true_eq] at z
        rw [decide_eq_true (show (1 : Int) ≤ (l.length : Int) by omega), decide_eq_true (show (l.length : Int) ≤ 13 by omega)] at c1
        cases c1
      have := k H (Same.refl H)
      rw [ep, h1] at this
      exact this
    have h1 : 1 ≤ l.length ∧ l.length ≤ 13 := by
      rw [SX.S_len] at c1
      revert c1
      by_cases z : 1 ≤ l.length ∧ l.length ≤ 13
      · exact fun _ => z
      · intro c1
        exfalso
        have : (decide ((1 : Int) ≤ (l.length : Int)) && decide ((l.length : Int) ≤ 13)) = true := by
          revert c1; cases (decide ((1 : Int) ≤ (l.length : Int)) && decide ((l.length : Int) ≤ 13)) <;> simp
        rw [Bool.and_eq_true, decide_eq_true_eq, decide_eq_true_eq] at this
        omega
    refine ⟨_, rfl, _, rfl, fun D hD => ?_⟩
    refine lc_it (walk_str) (Grow H D (BB fun i => (l.take i).map Em.isDig)) (Grow.start hD rfl) (fun _ _ _ _ => trivial) ?_ ?_
    · rintro i v H1 H2 hi ⟨acc, hacc, s1, bo, hle⟩ ⟨rfl, c, hc, rfl⟩
      have hc' : l[i]? = some c := by simpa [S] using hc
      have il := (List.getElem?_eq_some_iff.mp hc').1
      refine ⟨rfl, tyes ?_⟩
      refine ⟨_, rfl, c, _, rfl, rfl, ?_⟩
      rw [fig_mem]
      refine Grow.put hD hacc s1 hle (by omega) (Same.refl _) (bo.put ?_)
      rw [Em.take_next hc', List.map_append]; rfl
    · intro H1 g
      have z := BB.done g
      have lz : (S l).cps.size = l.length := by simp [S]
      rw [lz, List.take_length] at z
      have ea : (l.map Em.isDig).all id = Em.allDig l := by rw [List.all_map]; rfl
      have s1 := g.same
      refine ⟨D, _, rfl, SqL.of z, _, rfl, ?_⟩
      rw [ea]
      refine if_dec (fun c2 => ?_) fun c2 => ?_
      · have h2 : Em.allDig l = false := by revert c2; cases Em.allDig l <;> simp
        have := k H1 s1
        rw [ep, h2, Bool.and_false, Bool.false_and] at this
        exact this
      · have h2 : Em.allDig l = true := by revert c2; cases Em.allDig l <;> simp
        have kk := k H1 s1
        rw [ep, h2, decide_eq_true h1.1, decide_eq_true h1.2, Bool.and_self, Bool.and_self, Bool.true_and] at kk
        refine ⟨_, rfl, rfl, _, rfl, ?_⟩
        have e48 : (Str.ofString "0") = S [48] := by rfl
        rw [e48, dS]
        refine if_dec (fun c3 => ?_) fun c3 => ?_
        · rw [c3, Bool.true_or] at kk
          exact kk
        · rw [c3, Bool.false_or] at kk
          obtain ⟨c, r, rfl⟩ : ∃ c r, l = c :: r := by
            cases l with
            | nil => exact absurd h1.1 (by simp)
            | cons c r => exact ⟨c, r, rfl⟩
          refine ⟨_, rfl, _, _, c, rfl, rfl, ez, by rw [S_tl]; exact atI_nat (j := 0) rfl, rfl, ?_⟩
          have e4 : decide (V.str ⟨#[c]⟩ = V.str (S [48])) = decide (some c = some 48) := by
            show decide (V.str (S [c]) = V.str (S [48])) = _
            rw [dS]
            by_cases z : c = 48 <;> simp [z]
          rw [e4]
          exact kk
end
end EX
namespace EX
open PySem PySem.Spec PyProof.Rows L2
open SX (S)
open Em (PW plainW)
structure WSt (Z : Ad) (H0 H2 : Hp) (p : Addr) (ks : List (Addr × PW)) : Prop where
  lst : H2 p = some (.lst (ks.map fun k => V.ref k.1))
  wd : ∀ k ∈ ks, Wd Z H2 k.1 k.2
  fr : ∀ k ∈ ks, H0 k.1 = none
  nd : (ks.map (·.1)).Nodup
  sm : Same H0 H2
theorem mk_same {H H' : Hp} {x dx : Addr} {o1 o2 : HO} (hx : H x = none) (hdx : H dx = none) (h2 : But x (upd (upd H dx o1) x o2) H') : Same H H' := fun b u e => by
  have bx := ne_of_none e hx
  exact h2 b u (by rw [upd_ne bx, upd_ne (ne_of_none e hdx)]; exact e) bx
theorem WSt.add {Z : Ad} {H0 H2 H4 : Hp} {p x dx : Addr} {ks : List (Addr × PW)} {w : PW} (h : WSt Z H0 H2 p ks) (np : H0 p = none) (hx : H2 x = none) (s4 : Same H2 H4) (h4 : H4 x = some (.ins Z.cWord dx (fWd w))) :
    WSt Z H0 (upd H4 p (.lst ((ks.map fun k => V.ref k.1) ++ [.ref x]))) p (ks ++ [(x, w)]) := by
  have kp : ∀ k : Addr × PW, Wd Z H4 k.1 k.2 → k.1 ≠ p := fun k ⟨d, hk⟩ z => by
    rw [z, s4 _ _ h.lst] at hk; cases hk
  refine ⟨by rw [List.map_append]; exact upd_same, fun k hk => ?_, fun k hk => ?_, ?_, same_at (h.sm.trans s4) np⟩
  · have : Wd Z H4 k.1 k.2 := by
      rcases List.mem_append.mp hk with hk | hk
      · exact mWd _ _ _ _ s4 (h.wd k hk)
      · rw [List.mem_singleton.mp hk]; exact ⟨dx, h4⟩
    obtain ⟨d, q⟩ := this
    exact ⟨d, by rw [upd_ne (kp k ⟨d, q⟩)]; exact q⟩
  · rcases List.mem_append.mp hk with hk | hk
    · exact h.fr k hk
    · rw [List.mem_singleton.mp hk]; exact h.sm.free hx
  · rw [List.map_append]
    refine List.nodup_append.mpr ⟨h.nd, by simp, fun a ha b hb e => ?_⟩
    have hb' : b = x := by simpa using hb
    obtain ⟨k, hk, rfl⟩ := List.mem_map.mp ha
    obtain ⟨d, q⟩ := h.wd k hk
    rw [e, hb', hx] at q; cases q
theorem WSt.sign {Z : Ad} {H0 H2 : Hp} {p a dx : Addr} {pk : List (Addr × PW)} {w w' : PW} (h : WSt Z H0 H2 p (pk ++ [(a, w)])) :
    WSt Z H0 (upd H2 a (.ins Z.cWord dx (fWd w'))) p (pk ++ [(a, w')]) := by
  have ha : (a, w) ∈ pk ++ [(a, w)] := by simp
  obtain ⟨d0, q0⟩ := h.wd _ ha
  have pa : p ≠ a := fun z => by rw [z] at h; have := h.lst; rw [q0] at this; cases this
  have nd := h.nd
  rw [List.map_append] at nd
  have na : ∀ k ∈ pk, k.1 ≠ a := fun k hk z => (List.nodup_append.mp nd).2.2 k.1 (List.mem_map.mpr ⟨k, hk, rfl⟩) a (by simp) z
  refine ⟨?_, fun k hk => ?_, fun k hk => ?_, ?_, same_at h.sm (h.fr _ ha)⟩
  · rw [upd_ne pa, h.lst, List.map_append, List.map_append]; rfl
  · rcases List.mem_append.mp hk with hk | hk
    · obtain ⟨d, q⟩ := h.wd k (List.mem_append_left _ hk)
      exact ⟨d, by rw [upd_ne (na k hk)]; exact q⟩
    · rw [List.mem_singleton.mp hk]
      exact ⟨dx, upd_same⟩
  · rcases List.mem_append.mp hk with hk | hk
    · exact h.fr k (List.mem_append_left _ hk)
    · rw [List.mem_singleton.mp hk]; exact h.fr (a, w) ha
  · rw [List.map_append]; exact nd
section
variable {P : Program} {w : World} {K : PySem.W.Frag} {mg : Str → Option Value} {base : Heap} {Z : Ad}
def natsI (b : List Nat) : List Int := b.map fun (n : Nat) => (n : Int)
def wordsL (b : List Nat) : List PW := (VbceCore.cut 0 b).map Em.toPW
def spWords (Z : Ad) : Sp := fun vs H Q _ => ∃ (a : Addr) (b : List Nat), vs = [.ref a] ∧ LI H a (natsI b) ∧ b.length ≤ 2000 ∧ ∀ H' p, Same H H' → H p = none → LR (Wd Z) H' p (wordsL b) → Q (.ref p) H'
theorem ok_words_of (T : Txt K mg Z) : OkF P w K mg base CX0 3 "words_of" ["data"] (spWords Z) := by
  obtain ⟨f0, fd0, g0, F0⟩ := T.d_words_of
  obtain ⟨f_Word_init, fd_Word_init, M_Word_init, G_Word_init, B_Word_init⟩ := ok_Word_init (P := P) (w := w) (base := base) T
  obtain ⟨f_sign_of, fd_sign_of, g_sign_of, k_sign_of, G_sign_of, B_sign_of⟩ := ok_sign_of (P := P) (w := w) (base := base) T
  refine ⟨f0, fd0, g0, F0.kp, F0.ok sc_words_of (fun vs H Q E h => ?_) (fun cdv A outer s H vs Q E hr h => ?_), (F0.binds fun _ _ _ _ _ _ us hl => match us, hl with | [_], _ => rfl)⟩
  · obtain ⟨a, b, rfl, _⟩ := h
    rfl
  · obtain ⟨a, b, rfl, ha, hb, k⟩ := h
    refine ⟨_, (pss_cons (ps_set (i := 1) sc_words_of.nd rfl (Or.inl rfl) (pe_lst (pa_cons (pe_make M_Word_init G_Word_init (hr.mono (by decide)) rfl T.g_Word B_Word_init .nil pass0 (pa_cons pe_str (pa_cons pe_int (pa_cons pe_bl pa_nil)))) pa_nil)))
  (pss_cons (ps_for PassesOwn.never rfl (pi_enum (by rfl) T.b_enumerate (pa_cons (pv 0) pa_nil)) (pg_tup rfl (pgs_cons (pg_name (i := 2) sc_words_of.nd rfl (.inl rfl)) (pgs_cons (pg_name (i := 3) sc_words_of.nd rfl (.inl rfl)) pgs_nil)))
  (pss_one (ps_if (pt_cmpR op_eq (pv 3) (pe_gint rfl T.g_LINE_END) (nomark _)) (pss_cons (ps_expr (pe_bm PySem.F.plainAttrs_list PySem.F.slot_list_append PySem.F.type_list_append mt_append (pv 1) (pa_cons (pe_make M_Word_init G_Word_init (hr.mono (by decide)) rfl T.g_Word B_Word_init .nil pass0 (pa_cons pe_str (pa_cons (pv 2) (pa_cons pe_bl pa_nil)))) pa_nil)))
  (pss_one (ps_expr (pe_bm PySem.F.plainAttrs_list PySem.F.slot_list_append PySem.F.type_list_append mt_append (pv 1) (pa_cons (pe_make M_Word_init G_Word_init (hr.mono (by decide)) rfl T.g_Word B_Word_init .nil pass0 (pa_cons pe_str (pa_cons (pe_op op_add (pv 2) pe_int) (pa_cons pe_bl pa_nil)))) pa_nil))))) (pss_one (ps_if (pt_cmpR op_eq (pv 3) (pe_gint rfl T.g_BLANK) (nomark _)) (pss_one (ps_expr (pe_bm PySem.F.plainAttrs_list PySem.F.slot_list_append PySem.F.type_list_append mt_append (pv 1) (pa_cons (pe_make M_Word_init G_Word_init (hr.mono (by decide)) rfl T.g_Word B_Word_init .nil pass0 (pa_cons pe_str (pa_cons (pe_op op_add (pv 2) pe_int) (pa_cons pe_bl pa_nil)))) pa_nil)))) (pss_one (ps_fld (pe_ix ix_list (pv 1) (pe_un un_neg pe_int) (fun _ _ => rfl)) (pe_op op_add_str (pe_fld (pe_ix ix_list (pv 1) (pe_un un_neg pe_int) (fun _ _ => rfl)) rfl) (pe_call G_sign_of (hr.mono (by decide)) rfl g_sign_of k_sign_of B_sign_of .nil pass0 (pa_cons (pv 3) pa_nil))) rfl)))))))
  (pss_one (ps_ret (pv 1))))), ?_⟩
    intro x dx hx hdx hne
    refine ⟨x, dx, ⟨[], 0, false⟩, rfl, upd_same, fun H1 h1 h2 => ⟨rfl, (by show 1 ≤ sizeLine; decide), fun p np1 => ?_⟩⟩
    have s1 : Same H H1 := mk_same hx hdx h2
    have np := s1.free np1
    have xp : x ≠ p := ne_of_none h1 np1
    have w0 : WSt Z H (upd H1 p (.lst [.ref x])) p ([] ++ [(x, ⟨[], 0, false⟩)]) :=
      ⟨upd_same, fun k hk => by rw [List.mem_singleton.mp hk]; exact ⟨dx, by rw [upd_ne xp]; exact h1⟩, fun k hk => by rw [List.mem_singleton.mp hk]; exact hx, by simp, same_at s1 np⟩
    have f0 : Em.fin [] [] 0 0 (b.drop 0) = wordsL b := by rw [Em.fin_fresh]; rfl
    refine ⟨_, rfl, a, _, rfl, SqL.of (w0.sm _ _ ha), for_it (walk_enum (xs := (natsI b).map V.int)) (fun i σ H2 => ∃ (x3 x4 : Option V) (pk : List (Addr × PW)) (c : Addr) (u : List Nat) (q : Nat), σ = [some (.ref a), some (.ref p), x3, x4] ∧ WSt Z H H2 p (pk ++ [(c, plainW u q)]) ∧ Em.fin (pk.map (·.2)) u q i (b.drop i) = wordsL b ∧ pk.length ≤ 2 * i ∧ u.length ≤ i)
      ⟨none, none, [], x, [], 0, rfl, w0, f0, Nat.le_refl _, Nat.le_refl _⟩ (fun i σ H2 _ ⟨_, _, _, _, _, _, _, w2, _⟩ => SqL.of (w2.sm _ _ ha)) ?_ ?_⟩
    · rintro i v σ H2 H3 hi ⟨x3, x4, pk, c, u, q, rfl, w2, hf, hk, hu⟩ ⟨t, x', y', rfl, nt, rfl, e1, e2⟩
      injection e1 with e1
      subst e1
      obtain ⟨z, hz, rfl⟩ := Em.getElem_map e2
      obtain ⟨ch, hch, rfl⟩ := Em.getElem_map hz
      have il := (List.getElem?_eq_some_iff.mp hch).1
      have ed : b.drop i = ch :: b.drop (i + 1) := (List.drop_eq_getElem_cons il).trans (by rw [(List.getElem?_eq_some_iff.mp hch).2])
      rw [ed] at hf
      have st := same_new (o := .tup [.int (i : Nat), .int (ch : Nat)]) nt
      -- the same words with the pair beside them
      have w3 : WSt Z H (upd H2 t (.tup [.int (i : Nat), .int (ch : Nat)])) p (pk ++ [(c, plainW u q)]) := ⟨st _ _ w2.lst, fun k hk => mWd _ _ _ _ st (w2.wd k hk), w2.fr, w2.nd, w2.sm.trans st⟩
      have lenk : ((pk ++ [(c, plainW u q)]).map fun k => V.ref k.1).length ≤ 2 * i + 1 := by rw [List.length_map, List.length_append]; show _ + 1 ≤ _; omega
      refine tup2 upd_same ?_
      refine ⟨_, rfl, rfl, _, rfl, ?_⟩
      rw [dV]
      refine if_dec (fun c1 => ?_) fun c1 => ?_
      · have e10 : ch = 10 := by have := of_decide_eq_true c1; omega
        rw [e10, Em.fin_line] at hf
        refine ⟨_, rfl, .inl ⟨rfl, _, SqL.of w3.lst⟩, ?_⟩
        refine ⟨_, rfl, fun y dy hy hdy _ => ⟨y, dy, ⟨[], i, true⟩, rfl, upd_same, fun H4 h4 b4 => ⟨rfl, ?_⟩⟩⟩
        have s4 := mk_same hy hdy b4
        refine ⟨p, _, _, rfl, rfl, s4 _ _ w3.lst, few (by omega), ?_⟩
        have w4 := w3.add (w := ⟨[], i, true⟩) np hy s4 h4
        refine ⟨_, rfl, .inl ⟨rfl, _, SqL.of w4.lst⟩, ?_⟩
        refine ⟨_, rfl, _, _, rfl, rfl, fun y2 dy2 hy2 hdy2 _ => ⟨y2, dy2, ⟨[], i + 1, false⟩, rfl, upd_same, fun H5 h5 b5 => ⟨rfl, ?_⟩⟩⟩
        have s5 := mk_same hy2 hdy2 b5
        refine ⟨p, _, _, rfl, rfl, s5 _ _ w4.lst, few (by rw [List.map_append, List.length_append]; show _ + 1 ≤ _; omega), ?_⟩
        have w5 := w4.add (w := ⟨[], i + 1, false⟩) np hy2 s5 h5
        refine ⟨_, _, (pk ++ [(c, plainW u q)]) ++ [(y, ⟨[], i, true⟩)], y2, [], i + 1, rfl, w5, ?_, ?_, Nat.zero_le _⟩
        · rw [← hf, List.map_append, List.map_append, List.append_assoc]; rfl
        · rw [List.length_append, List.length_append]; show _ + 1 + 1 ≤ _; omega
      have n10 : ch ≠ 10 := by intro z; rw [z] at c1; cases c1
      refine ⟨_, rfl, rfl, _, rfl, ?_⟩
      rw [dV]
      refine if_dec (fun c2 => ?_) fun c2 => ?_
      · have e32 : ch = 32 := by have := of_decide_eq_true c2; omega
        rw [e32, Em.fin_blank] at hf
        refine ⟨_, rfl, .inl ⟨rfl, _, SqL.of w3.lst⟩, ?_⟩
        refine ⟨_, rfl, _, _, rfl, rfl, fun y dy hy hdy _ => ⟨y, dy, ⟨[], i + 1, false⟩, rfl, upd_same, fun H4 h4 b4 => ⟨rfl, ?_⟩⟩⟩
        have s4 := mk_same hy hdy b4
        refine ⟨p, _, _, rfl, rfl, s4 _ _ w3.lst, few (by omega), ?_⟩
        have w4 := w3.add (w := ⟨[], i + 1, false⟩) np hy s4 h4
        refine ⟨_, _, pk ++ [(c, plainW u q)], y, [], i + 1, rfl, w4, ?_, ?_, Nat.zero_le _⟩
        · rw [← hf, List.map_append]; rfl
        · rw [List.length_append]; show _ + 1 ≤ _; omega
      have n32 : ch ≠ 32 := by intro z; rw [z] at c2; cases c2
      rw [Em.fin_sign _ _ _ _ _ _ n32 n10] at hf
      obtain ⟨dc, hc⟩ := w3.wd (c, plainW u q) (by simp)
      have ll : ((pk ++ [(c, plainW u q)]).map fun k => V.ref k.1)[((pk ++ [(c, plainW u q)]).map fun k => V.ref k.1).length - 1]? = some (.ref c) := by
        rw [List.length_map, List.length_append]
        simp
      have nn : ((pk ++ [(c, plainW u q)]).map fun k => V.ref k.1) ≠ [] := by simp
      refine ⟨_, rfl, _, rfl, p, _, _, _, rfl, rfl, SqL.of w3.lst, atI_end ll nn, c, _, dc, _, _, rfl, hc, T.cl_Word, T.n_Word_signs, rfl, ?_⟩
      refine ⟨_, rfl, ch, rfl, ?_⟩
      refine ⟨_, _, rfl, rfl, Nat.le_of_lt (few (by rw [SX.S_len, SX.S_len]; show u.length + 1 ≤ _; omega)), ?_⟩
      refine ⟨_, rfl, _, rfl, p, _, _, _, rfl, rfl, SqL.of w3.lst, atI_end ll nn, c, _, dc, _, rfl, hc, T.cl_Word, T.n_Word_signs, (by show 3 < 1000; decide), ?_⟩
      rw [SX.S_cat]
      have w4 := w3.sign (w' := plainW (u ++ [Em.sg ch]) q) (dx := dc)
      refine ⟨_, _, pk, c, u ++ [Em.sg ch], q, rfl, w4, hf, by omega, by rw [List.length_append]; show _ + 1 ≤ _; omega⟩
    · rintro σ H2 ⟨x3, x4, pk, c, u, q, rfl, w2, hf, hk, hu⟩
      have e9 : b.drop ((natsI b).map V.int).length = [] := by unfold natsI; rw [List.length_map, List.length_map, List.drop_length]
      rw [e9, Em.fin_end] at hf
      exact ⟨_, rfl, k _ p w2.sm np ⟨pk ++ [(c, plainW u q)], by rw [List.map_append]; exact hf, w2.lst, w2.wd⟩⟩
end
end EX
namespace EX
open PySem PySem.Spec PyProof.Rows L2
open SX (S)
open Em (PW plainW)
def fRd (wl : Addr) (sz pg ln k : Nat) : List (Str × V) := [("words", V.ref wl), ("size", V.int sz), ("pages", V.int pg), ("lines", V.int ln), ("at", V.int k)]
/-- a reader that stands at the k-th word -/
structure RdA (Z : Ad) (H : Hp) (r wl : Addr) (L : List PW) (sz pg ln k : Nat) : Prop where
  ob : ∃ dx, H r = some (.ins Z.cReader dx (fRd wl sz pg ln k)) ∧ LR (Wd Z) H wl L
  le : ∀ w ∈ L, w.signs.length ≤ 2000
theorem RdA.same {Z : Ad} {H H' : Hp} {r wl : Addr} {L : List PW} {sz pg ln k : Nat} (h : RdA Z H r wl L sz pg ln k) (s : Same H H') : RdA Z H' r wl L sz pg ln k := by
  obtain ⟨dx, h1, h2⟩ := h.ob
  exact ⟨⟨dx, s _ _ h1, h2.same mWd s⟩, h.le⟩
theorem But.refl {p : Addr} {H : Hp} : But p H H := fun _ _ e _ => e
theorem But.trans {p : Addr} {H H1 H2 : Hp} (a : But p H H1) (b : But p H1 H2) : But p H H2 := fun c u e h => b c u (a c u e h) h
theorem But.of {p : Addr} {H H' : Hp} (s : Same H H') : But p H H' := fun b u e _ => s b u e
theorem But.upd {p : Addr} {H : Hp} {o : HO} : But p H (upd H p o) := fun b u e h => by rw [upd_ne h]; exact e
/-- a store at the reader itself -/
theorem RdA.go {Z : Ad} {H : Hp} {r wl : Addr} {L : List PW} {sz pg ln k k' : Nat} (h : RdA Z H r wl L sz pg ln k) {dx : Addr} (h1 : H r = some (.ins Z.cReader dx (fRd wl sz pg ln k))) : RdA Z (upd H r (.ins Z.cReader dx (fRd wl sz pg ln k'))) r wl L sz pg ln k' := by
  obtain ⟨dx', h1', ⟨ks, e, h2, h3⟩⟩ := h.ob
  refine ⟨⟨dx, upd_same, ks, e, ?_, fun x hx => ?_⟩, h.le⟩
  · rw [upd_ne (fun z => by rw [z, h1] at h2; cases h2)]; exact h2
  · obtain ⟨d, hd⟩ := h3 x hx
    refine ⟨d, ?_⟩
    rw [upd_ne (fun z => ?_)]
    · exact hd
    · rw [z, h1] at hd
      injection hd with hd
      injection hd with _ _ hd
      unfold fRd fWd at hd
      have := congrArg List.length hd
      cases this
def RdErr (Z : Ad) (E : XK) (H : Hp) (r : Addr) (p : Nat) : Prop := ∀ H' d, But r H H' → H d = none → H' d = some (.xd [("place", .int p)]) → E (.ref Z.cFault) (some d) H'
theorem RdErr.but {Z : Ad} {E : XK} {H H1 : Hp} {r : Addr} {p : Nat} (h : RdErr Z E H r p) (b : But r H H1) (hr : H1 r ≠ none) : RdErr Z E H1 r p := fun H' d b' hd he => by
  refine h H' d (b.trans b') ?_ he
  cases q : H d with
  | none => rfl
  | some u =>
    by_cases z : d = r
    · rw [z] at hd; exact absurd hd hr
    · rw [b d u q z] at hd; cases hd
theorem exc_tail {K : PySem.W.Frag} {C : Addr} {f : Str} {z : Int} {H : Hp} {Q : XK} (h : ∀ d H', Same H H' → H d = none → H' d = some (.xd [(f, .int z)]) → Q (.ref C) (some d) H') :
    ∀ a, H a = none → spExc K C f (.ref a :: ([.int z] ++ [])) (upd H a (exo a C none)) (fun v H2 => v = .non ∧ ∃ (d : Addr) (fs : List (Str × V)), H2 a = some (exo a C (some d)) ∧ H2 d = some (exd d fs) ∧ H d = none ∧ Q (.ref C) (some d) (upd (del H2 a) d (.xd fs))) (fun _ _ _ => False) := by
  intro a na
  refine ⟨a, z, rfl, upd_same, fun dx h1 h2 => ?_⟩
  rw [upd_ne h2] at h1
  refine ⟨rfl, dx, _, upd_same, by rw [upd_ne h2, upd_same], h1, h dx _ (fun b u e => ?_) h1 upd_same⟩
  have b1 := ne_of_none e na
  rw [upd_ne (ne_of_none e h1), del_ne b1, upd_ne b1, upd_ne (ne_of_none e h1), upd_ne b1]
  exact e
/-- what is read of the word that comes -/
def Try3 {α : Type} (L : List PW) (sz k : Nat) (o : PW → Option α) (ok : α → Prop) (er : Nat → Prop) : Prop := (L[k]? = none → er sz) ∧ ∀ w, L[k]? = some w → (∀ a, o w = some a → ok a) ∧ (o w = none → er w.place)
def comeO (w : PW) : Option (List Nat) := if w.le = true then none else some w.signs
def litO (l : List Nat) (w : PW) : Option Unit := if (!w.le && decide (w.signs = l)) = true then some () else none
theorem plain_ne {l : List Nat} (h : Em.plain l = true) : l ≠ [] ∧ l.length ≤ 13 ∧ Em.allDig l = true := by
  unfold Em.plain at h
  simp only [Bool.and_eq_true, decide_eq_true_eq] at h
  obtain ⟨⟨⟨h1, h2⟩, h3⟩, h4⟩ := h
  exact ⟨fun z => by rw [z] at h1; exact absurd h1 (by decide), h2, h3⟩
theorem int_plain {l : List Nat} (h : Em.plain l = true) : intText? (S l) = some (Em.dval l : Int) := by
  obtain ⟨h1, h2, h3⟩ := plain_ne h
  exact SX.int_S h3 h1 (by omega)
section
variable {P : Program} {w : World} {K : PySem.W.Frag} {mg : Str → Option Value} {base : Heap} {Z : Ad}
def spRdI (Z : Ad) : Sp := fun vs H Q _ => ∃ (p dx a : Addr) (pg ln : Nat) (b : List Nat), vs = [.ref p, .ref a, .int pg, .int ln] ∧ H p = some (.ins Z.cReader dx []) ∧ LI H a (natsI b) ∧ b.length ≤ 2000 ∧ ∀ H' wl, RdA Z H' p wl (wordsL b) b.length pg ln 0 → H wl = none → But p H H' → Q .non H'
theorem cut_len : ∀ (b : List Nat) (p : Nat), ∀ w ∈ VbceCore.cut p b, w.2.length ≤ b.length
  | [], p, w, h => by
    have : w = (p, []) := by simpa [VbceCore.cut] using h
    rw [this]; exact Nat.zero_le _
  | c :: r, p, w, h => by
    have ih := cut_len r (p + 1)
    unfold VbceCore.cut at h
    split at h
    · rcases List.mem_cons.mp h with h | h
      · rw [h]; exact Nat.zero_le _
      · have := ih w h; rw [List.length_cons]; omega
    · split at h
      · rcases List.mem_cons.mp h with h | h
        · rw [h]; exact Nat.zero_le _
        · rcases List.mem_cons.mp h with h | h
          · subst h; simp
          · have := ih w h; rw [List.length_cons]; omega
      · cases q : VbceCore.cut (p + 1) r with
        | nil =>
          rw [q] at h
          have : w = (p, [c]) := by simpa using h
          subst this; simp
        | cons x l =>
          rw [q] at h
          obtain ⟨x1, x2⟩ := x
          rcases List.mem_cons.mp h with h | h
          · have := ih (x1, x2) (by rw [q]; exact List.mem_cons_self)
            rw [h, List.length_cons, List.length_cons]
            exact Nat.succ_le_succ this
          · have := ih w (by rw [q]; exact List.mem_cons_of_mem _ h)
            rw [List.length_cons]; omega
theorem words_le {b : List Nat} (h : b.length ≤ 2000) : ∀ w ∈ wordsL b, w.signs.length ≤ 2000 := fun w hw => by
  obtain ⟨x, hx, rfl⟩ := List.mem_map.mp hw
  have := cut_len b 0 x hx
  unfold Em.toPW
  split
  · exact Nat.zero_le _
  · show (x.2.map _).length ≤ _
    rw [List.length_map]; omega
theorem ok_Reader_init (T : Txt K mg Z) : OkI P w K mg base CX0 4 Z.cReader ["self", "data", "pages", "lines"] (spRdI Z) := by
  obtain ⟨f0, fd0, M0, F0⟩ := T.d_Reader_init
  obtain ⟨f_words_of, fd_words_of, g_words_of, k_words_of, G_words_of, B_words_of⟩ := ok_words_of (P := P) (w := w) (base := base) T
  refine ⟨f0, fd0, M0, F0.ok sc_Reader_init (fun vs H Q E h => ?_) (fun cdv A outer s H vs Q E hr h => ?_), (F0.binds fun _ _ _ _ _ _ us hl => match us, hl with | [_, _, _, _], _ => rfl)⟩
  · obtain ⟨p, dx, a, pg, ln, b, rfl, _⟩ := h
    rfl
  · obtain ⟨p, dx, a, pg, ln, b, rfl, hp, ha, hb, k⟩ := h
    refine ⟨_, (pss_cons (ps_fld (pv 0) (pe_call G_words_of (hr.mono (by decide)) rfl g_words_of k_words_of B_words_of .nil pass0 (pa_cons (pv 1) pa_nil)) rfl)
  (pss_cons (ps_fld (pv 0) (pe_callB call_len_seq (by rfl) T.b_len (by decide +kernel) (pa_cons (pv 1) pa_nil)) rfl)
  (pss_cons (ps_fld (pv 0) (pv 2) rfl)
  (pss_cons (ps_fld (pv 0) (pv 3) rfl)
  (pss_one (ps_fld (pv 0) pe_int rfl)))))), ?_⟩
    refine ⟨_, rfl, a, b, rfl, ha, hb, fun H1 wl s1 nw hw => ?_⟩
    have pa : a ≠ p := ne_of ha hp (by intro z; cases z)
    have pw : wl ≠ p := fun z => by rw [z, hp] at nw; cases nw
    refine ⟨_, rfl, p, _, dx, _, rfl, s1 _ _ hp, T.cl_Reader, T.n_Reader_words, (by show 0 < 1000; decide), ?_⟩
    refine ⟨_, rfl, a, _, rfl, .inl (SqL.of (by rw [upd_ne pa]; exact s1 _ _ ha)), ?_⟩
    refine ⟨_, rfl, p, _, dx, _, rfl, upd_same, T.cl_Reader, T.n_Reader_size, (by show 1 < 1000; decide), ?_⟩
    refine ⟨_, rfl, _, rfl, p, _, dx, _, rfl, upd_same, T.cl_Reader, T.n_Reader_pages, (by show 2 < 1000; decide), ?_⟩
    refine ⟨_, rfl, _, rfl, p, _, dx, _, rfl, upd_same, T.cl_Reader, T.n_Reader_lines, (by show 3 < 1000; decide), ?_⟩
    refine ⟨_, rfl, p, _, dx, _, rfl, upd_same, T.cl_Reader, T.n_Reader_at, (by show 4 < 1000; decide), ?_⟩
    have bt : But p H (upd (upd (upd (upd (upd H1 p (.ins Z.cReader dx (putF "words" (.ref wl) []))) p (.ins Z.cReader dx (putF "size" (.int (((natsI b).map V.int).length : Int)) (putF "words" (.ref wl) [])))) p (.ins Z.cReader dx (putF "pages" (.int pg) (putF "size" (.int (((natsI b).map V.int).length : Int)) (putF "words" (.ref wl) []))))) p (.ins Z.cReader dx (putF "lines" (.int ln) (putF "pages" (.int pg) (putF "size" (.int (((natsI b).map V.int).length : Int)) (putF "words" (.ref wl) [])))))) p (.ins Z.cReader dx (putF "at" (.int 0) (putF "lines" (.int ln) (putF "pages" (.int pg) (putF "size" (.int (((natsI b).map V.int).length : Int)) (putF "words" (.ref wl) []))))))) := fun c u e h => by
      rw [upd_ne h, upd_ne h, upd_ne h, upd_ne h, upd_ne h]
      exact s1 _ _ e
    obtain ⟨ks, e, h2, h3⟩ := hw
    have en : ((natsI b).map V.int).length = b.length := by unfold natsI; rw [List.length_map, List.length_map]
    refine k _ wl ⟨⟨dx, ?_, ks, e, ?_, fun x hx => ?_⟩, words_le hb⟩ nw bt
    · rw [upd_same, en]; rfl
    · rw [upd_ne pw, upd_ne pw, upd_ne pw, upd_ne pw, upd_ne pw]; exact h2
    · obtain ⟨d, hd⟩ := h3 x hx
      have px : x.1 ≠ p := fun z => by
        rw [z, s1 _ _ hp] at hd
        injection hd with hd
        injection hd with _ _ hd
        cases hd
      exact ⟨d, by rw [upd_ne px, upd_ne px, upd_ne px, upd_ne px, upd_ne px]; exact hd⟩
def spNeed (Z : Ad) : Sp := fun vs H Q E => ∃ (r wl : Addr) (c : Bool) (L : List PW) (sz pg ln k : Nat), vs = [.ref r, .bl c] ∧ RdA Z H r wl L sz pg ln k ∧ (c = true → Q .non H) ∧ (c = false → ∃ w, L[k]? = some w ∧ RdErr Z E H r w.place)
theorem ok_Reader_need (T : Txt K mg Z) : OkM P w K mg base (L2.CX P w) 3 Z.cReader "need" ["self", "is_so"] (spNeed Z) := by
  obtain ⟨f0, fd0, M0, F0⟩ := T.d_Reader_need
  obtain ⟨f_Fault_init, fd_Fault_init, X_Fault_init, I_Fault_init, Y_Fault_init, G_Fault_init, B_Fault_init⟩ := ok_Fault_init (P := P) (w := w) (base := base) T
  refine ⟨f0, fd0, M0, F0.okX sc_Reader_need (fun vs H Q E h => ?_) (fun cdv A outer s H vs Q E hr h => ?_), (F0.binds fun _ _ _ _ _ _ us hl => match us, hl with | [_, _], _ => rfl)⟩
  · obtain ⟨r, wl, c, L, sz, pg, ln, k, rfl, _⟩ := h
    rfl
  · obtain ⟨r, wl, c, L, sz, pg, ln, k, rfl, R, k1, k2⟩ := h
    obtain ⟨dx, h1, ⟨ks, e, h2, h3⟩⟩ := R.ob
    refine ⟨_, (pss_one (ps_if (pt_not (pt_val (pv 1))) (pss_one (ps_raise rfl (takes_of rfl rfl rfl rfl) (pmk_oex X_Fault_init I_Fault_init Y_Fault_init G_Fault_init (hr.mono (by decide)) B_Fault_init .nil pass0 rfl T.g_Fault (pa_cons (pe_fld (pe_ix ix_list (pe_fld (pv 0) rfl) (pe_fld (pv 0) rfl) (fun _ _ => rfl)) rfl) pa_nil)))) pss_nil)), ?_⟩
    refine ⟨_, rfl, c, rfl, ?_⟩
    cases c with
    | true => exact ifF rfl (k1 rfl)
    | false =>
      obtain ⟨x, hx, er⟩ := k2 rfl
      obtain ⟨a, e1, d, e2⟩ := LR.at_ e h3 hx
      refine ifT rfl ?_
      refine ⟨_, rfl, r, _, dx, _, _, rfl, h1, T.cl_Reader, T.n_Reader_words, rfl, _, rfl, r, _, dx, _, _, rfl, h1, T.cl_Reader, T.n_Reader_at, rfl, wl, _, _, _, rfl, rfl, SqL.of h2, atI_nat e1, a, _, d, _, _, rfl, e2, T.cl_Word, T.n_Word_place, rfl, (by show 1 ≤ 1000; decide), ?_⟩
      exact exc_tail fun d' H' s1 nd hd => er H' d' (But.of s1) nd hd
end
end EX
namespace EX
open PySem PySem.Spec PyProof.Rows L2
open SX (S)
open Em (PW plainW)
theorem RdA.tracked {Z : Ad} {H : Hp} {r wl : Addr} {L : List PW} {sz pg ln k : Nat} (h : RdA Z H r wl L sz pg ln k) : H r ≠ none := by
  obtain ⟨dx, h1, _⟩ := h.ob
  rw [h1]; intro z; cases z
section
variable {P : Program} {w : World} {K : PySem.W.Frag} {mg : Str → Option Value} {base : Heap} {Z : Ad}
def spCome (Z : Ad) : Sp := fun vs H Q E => ∃ (r wl : Addr) (L : List PW) (sz pg ln k : Nat), vs = [.ref r] ∧ RdA Z H r wl L sz pg ln k ∧ k ≤ L.length ∧ Try3 L sz k comeO (fun l => Q (.str (S l)) H) (RdErr Z E H r)
theorem ok_Reader_coming (T : Txt K mg Z) : OkM P w K mg base (L2.CX P w) 4 Z.cReader "coming" ["self"] (spCome Z) := by
  obtain ⟨f0, fd0, M0, F0⟩ := T.d_Reader_coming
  obtain ⟨f_Fault_init, fd_Fault_init, X_Fault_init, I_Fault_init, Y_Fault_init, G_Fault_init, B_Fault_init⟩ := ok_Fault_init (P := P) (w := w) (base := base) T
  obtain ⟨f_Reader_need, fd_Reader_need, M_Reader_need, G_Reader_need, B_Reader_need⟩ := ok_Reader_need (P := P) (w := w) (base := base) T
  refine ⟨f0, fd0, M0, F0.okX sc_Reader_coming (fun vs H Q E h => ?_) (fun cdv A outer s H vs Q E hr h => ?_), (F0.binds fun _ _ _ _ _ _ us hl => match us, hl with | [_], _ => rfl)⟩
  · obtain ⟨r, wl, L, sz, pg, ln, k, rfl, _⟩ := h
    rfl
  · obtain ⟨r, wl, L, sz, pg, ln, k, rfl, R, hk, t1, t2⟩ := h
    obtain ⟨dx, h1, ⟨ks, e, h2, h3⟩⟩ := R.ob
    refine ⟨_, (pss_cons (ps_if (pt_cmpR op_eq (pe_fld (pv 0) rfl) (pe_callB call_len_seq (by rfl) T.b_len (by decide +kernel) (pa_cons (pe_fld (pv 0) rfl) pa_nil)) (nomark _)) (pss_one (ps_raise rfl (takes_of rfl rfl rfl rfl) (pmk_oex X_Fault_init I_Fault_init Y_Fault_init G_Fault_init (hr.mono (by decide)) B_Fault_init .nil pass0 rfl T.g_Fault (pa_cons (pe_fld (pv 0) rfl) pa_nil)))) pss_nil)
  (pss_cons (ps_expr (pe_meth (pv 0) T.cl_Reader M_Reader_need G_Reader_need (hr.mono (by decide)) B_Reader_need .nil (passes_call (takes_of rfl rfl rfl rfl) fun _ _ _ _ h => h) (pa_cons (pe_not (pe_fld (pe_ix ix_list (pe_fld (pv 0) rfl) (pe_fld (pv 0) rfl) (fun _ _ => rfl)) rfl)) pa_nil)))
  (pss_one (ps_ret (pe_fld (pe_ix ix_list (pe_fld (pv 0) rfl) (pe_fld (pv 0) rfl) (fun _ _ => rfl)) rfl))))), ?_⟩
    refine ⟨_, rfl, r, _, dx, _, _, rfl, h1, T.cl_Reader, T.n_Reader_at, rfl, _, rfl, r, _, dx, _, _, rfl, h1, T.cl_Reader, T.n_Reader_words, rfl, wl, _, rfl, .inl (SqL.of h2), rfl, _, rfl, ?_⟩
    rw [dV, LR.len e]
    refine if_dec (fun c => ?_) fun c => ?_
    · have c' := of_decide_eq_true c
      have q : L[k]? = none := by rw [List.getElem?_eq_none_iff]; omega
      refine ⟨_, rfl, r, _, dx, _, _, rfl, h1, T.cl_Reader, T.n_Reader_size, rfl, (by show 1 ≤ 1000; decide), ?_⟩
      exact exc_tail fun d' H' s1 nd hd => t1 q H' d' (But.of s1) nd hd
    · have c' : k < L.length := by have := of_decide_eq_false c; omega
      obtain ⟨x, hx⟩ : ∃ x, L[k]? = some x := ⟨_, List.getElem?_eq_getElem c'⟩
      obtain ⟨a, e1, d, e2⟩ := LR.at_ e h3 hx
      obtain ⟨u1, u2⟩ := t2 x hx
      refine ⟨_, rfl, r, dx, _, rfl, h1, rfl, ?_⟩
      refine ⟨_, rfl, r, _, dx, _, _, rfl, h1, T.cl_Reader, T.n_Reader_words, rfl, _, rfl, r, _, dx, _, _, rfl, h1, T.cl_Reader, T.n_Reader_at, rfl, wl, _, _, _, rfl, rfl, SqL.of h2, atI_nat e1, a, _, d, _, _, rfl, e2, T.cl_Word, T.n_Word_is_line_end, rfl, _, rfl, ?_⟩
      refine ⟨r, wl, _, L, sz, pg, ln, k, rfl, R, fun q => ?_, fun q => ⟨x, hx, u2 ?_⟩⟩
      · refine ⟨_, rfl, r, _, dx, _, _, rfl, h1, T.cl_Reader, T.n_Reader_words, rfl, _, rfl, r, _, dx, _, _, rfl, h1, T.cl_Reader, T.n_Reader_at, rfl, wl, _, _, _, rfl, rfl, SqL.of h2, atI_nat e1, a, _, d, _, _, rfl, e2, T.cl_Word, T.n_Word_signs, rfl, ?_⟩
        refine u1 x.signs ?_
        unfold comeO
        rw [if_neg (by intro z; rw [z] at q; cases q)]
      · unfold comeO
        rw [if_pos (by revert q; cases x.le <;> simp)]
def spLit (Z : Ad) : Sp := fun vs H Q E => ∃ (r wl : Addr) (l : List Nat) (L : List PW) (sz pg ln k : Nat), vs = [.ref r, .str (S l)] ∧ RdA Z H r wl L sz pg ln k ∧ k ≤ L.length ∧ Try3 L sz k (litO l) (fun _ => ∀ H', But r H H' → RdA Z H' r wl L sz pg ln (k + 1) → Q .non H') (RdErr Z E H r)
theorem ok_Reader_literal (T : Txt K mg Z) : OkM P w K mg base (L2.CX P w) 5 Z.cReader "literal" ["self", "signs"] (spLit Z) := by
  obtain ⟨f0, fd0, M0, F0⟩ := T.d_Reader_literal
  obtain ⟨f_Reader_need, fd_Reader_need, M_Reader_need, G_Reader_need, B_Reader_need⟩ := ok_Reader_need (P := P) (w := w) (base := base) T
  obtain ⟨f_Reader_coming, fd_Reader_coming, M_Reader_coming, G_Reader_coming, B_Reader_coming⟩ := ok_Reader_coming (P := P) (w := w) (base := base) T
  refine ⟨f0, fd0, M0, F0.okX sc_Reader_literal (fun vs H Q E h => ?_) (fun cdv A outer s H vs Q E hr h => ?_), (F0.binds fun _ _ _ _ _ _ us hl => match us, hl with | [_, _], _ => rfl)⟩
  · obtain ⟨r, wl, l, L, sz, pg, ln, k, rfl, _⟩ := h
    rfl
  · obtain ⟨r, wl, l, L, sz, pg, ln, k, rfl, R, hk, t1, t2⟩ := h
    obtain ⟨dx, h1, _⟩ := R.ob
    refine ⟨_, (pss_cons (ps_expr (pe_meth (pv 0) T.cl_Reader M_Reader_need G_Reader_need (hr.mono (by decide)) B_Reader_need .nil (passes_call (takes_of rfl rfl rfl rfl) fun _ _ _ _ h => h) (pa_cons (pe_cmpR op_eq (pe_meth0 (pv 0) T.cl_Reader M_Reader_coming G_Reader_coming (hr.mono (by decide)) B_Reader_coming .nil (passes_call (takes_of rfl rfl rfl rfl) fun _ _ _ _ h => h)) (pv 1) (nomark _)) pa_nil)))
  (pss_one (ps_fldaug (pv 0) pe_int in_add))), ?_⟩
    refine ⟨_, rfl, r, dx, _, rfl, h1, rfl, _, rfl, r, dx, _, rfl, h1, rfl, r, wl, L, sz, pg, ln, k, rfl, R, hk, t1, fun x hx => ⟨fun l' hl => ?_, fun hn => ?_⟩⟩
    · obtain ⟨u1, u2⟩ := t2 x hx
      have hle : x.le = false ∧ x.signs = l' := by
        unfold comeO at hl
        split at hl
        · cases hl
        · rename_i z
          injection hl with hl
          exact ⟨by revert z; cases x.le <;> simp, hl⟩
      refine ⟨_, rfl, rfl, ?_⟩
      rw [dS]
      refine ⟨r, wl, _, L, sz, pg, ln, k, rfl, R, fun q => ?_, fun q => ⟨x, hx, u2 ?_⟩⟩
      · refine ⟨_, rfl, r, _, dx, _, _, rfl, h1, T.cl_Reader, T.n_Reader_at, rfl, _, _, rfl, rfl, _, _, h1, (by show 5 < 1000; decide), ?_⟩
        refine u1 () ?_ _ But.upd (R.go h1 (k' := k + 1))
        unfold litO
        rw [hle.1, hle.2]
        rw [if_pos (by rw [q]; rfl)]
      · unfold litO
        rw [hle.1, hle.2]
        rw [if_neg (by rw [q]; simp)]
    · obtain ⟨u1, u2⟩ := t2 x hx
      refine u2 ?_
      unfold comeO at hn
      unfold litO
      split at hn
      · rename_i z
        rw [z]; rfl
      · cases hn
def spNum (Z : Ad) : Sp := fun vs H Q E => ∃ (r wl : Addr) (lo hi : Nat) (en : Int) (L : List PW) (sz pg ln k : Nat), vs = [.ref r, .int lo, .int en] ∧ en = (hi : Int) + 1 ∧ RdA Z H r wl L sz pg ln k ∧ k ≤ L.length ∧ Try3 L sz k (fun x => Em.numAt x lo hi) (fun n => ∀ H', But r H H' → RdA Z H' r wl L sz pg ln (k + 1) → Q (.int (n : Nat)) H') (RdErr Z E H r)
theorem ok_Reader_read_number (T : Txt K mg Z) : OkM P w K mg base (L2.CX P w) 5 Z.cReader "read_number" ["self", "least", "end"] (spNum Z) := by
  obtain ⟨f0, fd0, M0, F0⟩ := T.d_Reader_read_number
  obtain ⟨f_Reader_coming, fd_Reader_coming, M_Reader_coming, G_Reader_coming, B_Reader_coming⟩ := ok_Reader_coming (P := P) (w := w) (base := base) T
  obtain ⟨f_Reader_need, fd_Reader_need, M_Reader_need, G_Reader_need, B_Reader_need⟩ := ok_Reader_need (P := P) (w := w) (base := base) T
  obtain ⟨f_is_plain, fd_is_plain, g_is_plain, k_is_plain, G_is_plain, B_is_plain⟩ := ok_is_plain (P := P) (w := w) (base := base) T
  refine ⟨f0, fd0, M0, F0.okX sc_Reader_read_number (fun vs H Q E h => ?_) (fun cdv A outer s H vs Q E hr h => ?_), (F0.binds fun _ _ _ _ _ _ us hl => match us, hl with | [_, _, _], _ => rfl)⟩
  · obtain ⟨r, wl, lo, hi, en, L, sz, pg, ln, k, rfl, _⟩ := h
    rfl
  · obtain ⟨r, wl, lo, hi, en, L, sz, pg, ln, k, rfl, hen, R, hk, t1, t2⟩ := h
    obtain ⟨dx, h1, _⟩ := R.ob
    refine ⟨_, (pss_cons (ps_set (i := 3) sc_Reader_read_number.nd rfl (Or.inl rfl) (pe_meth0 (pv 0) T.cl_Reader M_Reader_coming G_Reader_coming (hr.mono (by decide)) B_Reader_coming .nil (passes_call (takes_of rfl rfl rfl rfl) fun _ _ _ _ h => h)))
  (pss_cons (ps_expr (pe_meth (pv 0) T.cl_Reader M_Reader_need G_Reader_need (hr.mono (by decide)) B_Reader_need .nil (passes_call (takes_of rfl rfl rfl rfl) fun _ _ _ _ h => h) (pa_cons (pe_call G_is_plain (hr.mono (by decide)) rfl g_is_plain k_is_plain B_is_plain .nil pass0 (pa_cons (pv 3) pa_nil)) pa_nil)))
  (pss_cons (ps_expr (pe_meth (pv 0) T.cl_Reader M_Reader_need G_Reader_need (hr.mono (by decide)) B_Reader_need .nil (passes_call (takes_of rfl rfl rfl rfl) fun _ _ _ _ h => h) (pa_cons (pe_chain op_le op_lt (pv 1) (pe_callTy call_int_str (by rfl) T.b_int (by decide +kernel) (pa_cons (pv 3) pa_nil)) (pv 2)) pa_nil)))
  (pss_cons (ps_fldaug (pv 0) pe_int in_add)
  (pss_one (ps_ret (pe_callTy call_int_str (by rfl) T.b_int (by decide +kernel) (pa_cons (pv 3) pa_nil)))))))), ?_⟩
    refine ⟨_, rfl, r, dx, _, rfl, h1, rfl, r, wl, L, sz, pg, ln, k, rfl, R, hk, t1, fun x hx => ⟨fun l' hl => ?_, fun hn => ?_⟩⟩
    · obtain ⟨u1, u2⟩ := t2 x hx
      have hle : x.le = false ∧ x.signs = l' := by
        unfold comeO at hl
        split at hl
        · cases hl
        · rename_i z
          injection hl with hl
          exact ⟨by revert z; cases x.le <;> simp, hl⟩
      have lx : l'.length ≤ 2000 := by rw [← hle.2]; exact R.le x (List.mem_of_getElem? hx)
      dsimp only at u1 u2
      have en0 : Em.numAt x lo hi = if (Em.plain l' && (decide (lo ≤ Em.dval l') && decide (Em.dval l' ≤ hi))) = true then some (Em.dval l') else none := by
        unfold Em.numAt
        rw [hle.1, hle.2]; rfl
      refine ⟨_, rfl, r, dx, _, rfl, h1, rfl, _, rfl, l', rfl, by omega, fun H1 s1 => ?_⟩
      have R1 := R.same s1
      have b1 := But.of (p := r) s1
      refine ⟨r, wl, _, L, sz, pg, ln, k, rfl, R1, fun q => ?_, fun q => ⟨x, hx, RdErr.but (u2 ?_) b1 R1.tracked⟩⟩
      · have ip := int_plain q
        have lp := (plain_ne q).2.1
        obtain ⟨dx1, h1', _⟩ := R1.ob
        refine ⟨_, rfl, r, dx1, _, rfl, h1', rfl, ?_⟩
        refine ⟨_, rfl, _, rfl, _, _, rfl, ip, by rw [SX.S_len]; omega, _, _, rfl, rfl, _, rfl, ?_⟩
        have nd : ∀ c : Bool, c = (decide ((lo : Int) ≤ (Em.dval l' : Int)) && decide ((Em.dval l' : Int) < en)) → c = (decide (lo ≤ Em.dval l') && decide (Em.dval l' ≤ hi)) := fun c hc => by
          rw [hc, hen]
          congr 1
          · rw [Bool.eq_iff_iff, decide_eq_true_eq, decide_eq_true_eq]; omega
          · rw [Bool.eq_iff_iff, decide_eq_true_eq, decide_eq_true_eq]; omega
        -- the goal by the test's answer
        have go : ∀ c : Bool, c = (decide ((lo : Int) ≤ (Em.dval l' : Int)) && decide ((Em.dval l' : Int) < en)) → (c = true → ∀ H', But r H H' → RdA Z H' r wl L sz pg ln (k + 1) → Q (.int (Em.dval l' : Nat)) H') ∧ (c = false → ∃ w, L[k]? = some w ∧ RdErr Z E H1 r w.place) := fun c hc => by
          refine ⟨fun q2 => u1 _ ?_, fun q2 => ⟨x, hx, RdErr.but (u2 ?_) b1 R1.tracked⟩⟩
          · rw [en0, ← nd c hc, q, q2]; rfl
          · rw [en0, ← nd c hc, q2, Bool.and_false]; exact if_neg (by decide)
        refine if_dec (fun c1 => ⟨_, rfl, _, _, rfl, rfl, ?_⟩) fun c1 => ?_
        · obtain ⟨g1, g2⟩ := go (decide ((Em.dval l' : Int) < en)) (by rw [c1, Bool.true_and])
          refine ⟨r, wl, _, L, sz, pg, ln, k, rfl, R1, fun q2 => ?_, g2⟩
          refine ⟨_, rfl, r, _, dx1, _, _, rfl, h1', T.cl_Reader, T.n_Reader_at, rfl, _, _, rfl, rfl, _, _, h1', (by show 5 < 1000; decide), ?_⟩
          exact ⟨_, rfl, _, _, rfl, ip, by rw [SX.S_len]; omega, g1 q2 _ (b1.trans But.upd) (R1.go h1' (k' := k + 1))⟩
        · obtain ⟨g1, g2⟩ := go false (by rw [c1, Bool.false_and])
          exact ⟨r, wl, _, L, sz, pg, ln, k, rfl, R1, (fun q2 => Bool.noConfusion q2), g2⟩
      · rw [en0]
        have : Em.plain l' = false := q
        rw [this, Bool.false_and]; exact if_neg (by decide)
    · obtain ⟨u1, u2⟩ := t2 x hx
      refine u2 ?_
      unfold comeO at hn
      unfold Em.numAt
      dsimp only
      split at hn
      · rename_i z
        rw [z]; rfl
      · cases hn
def spWhl (Z : Ad) : Sp := fun vs H Q E => ∃ (r wl : Addr) (L : List PW) (sz pg ln k : Nat), vs = [.ref r] ∧ RdA Z H r wl L sz pg ln k ∧ k ≤ L.length ∧ Try3 L sz k Em.wholeAt (fun z => ∀ H', Same H H' → Q (.int z) H') (RdErr Z E H r)
theorem head_take {l : List Nat} : decide (S (l.take 1) = S [45]) = decide (l.head? = some 45) := by
  cases l with
  | nil => rfl
  | cons c r =>
    by_cases h : c = 45
    · rw [h]; rfl
    · rw [decide_eq_false, decide_eq_false]
      · intro z; simp at z; exact h z
      · intro z
        have := SX.S_inj z
        simp at this
        exact h this
theorem int_neg {l : List Nat} (hh : l.head? = some 45) (h : Em.plain l.tail = true) : intText? (S l) = some (-(Em.dval l.tail : Int)) := by
  obtain ⟨h1, h2, h3⟩ := plain_ne h
  obtain ⟨r, rfl⟩ : ∃ r, l = 45 :: r := by
    cases l with
    | nil => cases hh
    | cons c r => simp at hh; exact ⟨r, by rw [hh]⟩
  refine intText_neg (x := S (45 :: r)) (cs := r) (by simp [S]) (fun c hc => ?_) h1 ?_
  · have h3' : Em.allDig r = true := h3
    unfold Em.allDig at h3'
    have := List.all_eq_true.mp h3' c hc
    unfold Em.isDig at this
    rw [Bool.and_eq_true, decide_eq_true_eq, decide_eq_true_eq] at this
    exact this
  · have h2' : r.length ≤ 13 := h2
    rw [SX.S_len, List.length_cons]; omega
theorem ok_Reader_whole (T : Txt K mg Z) : OkM P w K mg base (L2.CX P w) 5 Z.cReader "whole" ["self"] (spWhl Z) := by
  obtain ⟨f0, fd0, M0, F0⟩ := T.d_Reader_whole
  obtain ⟨f_Reader_coming, fd_Reader_coming, M_Reader_coming, G_Reader_coming, B_Reader_coming⟩ := ok_Reader_coming (P := P) (w := w) (base := base) T
  obtain ⟨f_Reader_need, fd_Reader_need, M_Reader_need, G_Reader_need, B_Reader_need⟩ := ok_Reader_need (P := P) (w := w) (base := base) T
  obtain ⟨f_is_plain, fd_is_plain, g_is_plain, k_is_plain, G_is_plain, B_is_plain⟩ := ok_is_plain (P := P) (w := w) (base := base) T
  obtain ⟨f_is_number, fd_is_number, g_is_number, k_is_number, G_is_number, B_is_number⟩ := ok_is_number (P := P) (w := w) (base := base) T
  refine ⟨f0, fd0, M0, F0.okX sc_Reader_whole (fun vs H Q E h => ?_) (fun cdv A outer s H vs Q E hr h => ?_), (F0.binds fun _ _ _ _ _ _ us hl => match us, hl with | [_], _ => rfl)⟩
  · obtain ⟨r, wl, L, sz, pg, ln, k, rfl, _⟩ := h
    rfl
  · obtain ⟨r, wl, L, sz, pg, ln, k, rfl, R, hk, t1, t2⟩ := h
    obtain ⟨dx, h1, _⟩ := R.ob
    refine ⟨_, (pss_cons (ps_set (i := 1) sc_Reader_whole.nd rfl (Or.inl rfl) (pe_meth0 (pv 0) T.cl_Reader M_Reader_coming G_Reader_coming (hr.mono (by decide)) B_Reader_coming .nil (passes_call (takes_of rfl rfl rfl rfl) fun _ _ _ _ h => h)))
  (pss_cons (ps_set (i := 2) sc_Reader_whole.nd rfl (Or.inl rfl) (pv 1))
  (pss_cons (ps_if (pt_cmpR op_eq (pe_slice sl_str (pv 1) po_none (po_some pe_int)) pe_str (nomark _)) (pss_cons (ps_set (i := 2) sc_Reader_whole.nd rfl (Or.inl rfl) (pe_slice sl_str (pv 1) (po_some pe_int) po_none))
  (pss_one (ps_expr (pe_meth (pv 0) T.cl_Reader M_Reader_need G_Reader_need (hr.mono (by decide)) B_Reader_need .nil (passes_call (takes_of rfl rfl rfl rfl) fun _ _ _ _ h => h) (pa_cons (pe_cmpR op_ne (pv 2) pe_str (nomark _)) pa_nil))))) pss_nil)
  (pss_cons (ps_expr (pe_meth (pv 0) T.cl_Reader M_Reader_need G_Reader_need (hr.mono (by decide)) B_Reader_need .nil (passes_call (takes_of rfl rfl rfl rfl) fun _ _ _ _ h => h) (pa_cons (pe_call G_is_plain (hr.mono (by decide)) rfl g_is_plain k_is_plain B_is_plain .nil pass0 (pa_cons (pv 2) pa_nil)) pa_nil)))
  (pss_cons (ps_expr (pe_meth (pv 0) T.cl_Reader M_Reader_need G_Reader_need (hr.mono (by decide)) B_Reader_need .nil (passes_call (takes_of rfl rfl rfl rfl) fun _ _ _ _ h => h) (pa_cons (pe_call G_is_number (hr.mono (by decide)) rfl g_is_number k_is_number B_is_number .nil pass0 (pa_cons (pe_callTy call_int_str (by rfl) T.b_int (by decide +kernel) (pa_cons (pv 1) pa_nil)) pa_nil)) pa_nil)))
  (pss_one (ps_ret (pe_callTy call_int_str (by rfl) T.b_int (by decide +kernel) (pa_cons (pv 1) pa_nil))))))))), ?_⟩
    refine ⟨_, rfl, r, dx, _, rfl, h1, rfl, r, wl, L, sz, pg, ln, k, rfl, R, hk, t1, fun x hx => ⟨fun l hl => ?_, fun hn => ?_⟩⟩
    · obtain ⟨u1, u2⟩ := t2 x hx
      have hle : x.le = false ∧ x.signs = l := by
        unfold comeO at hl
        split at hl
        · cases hl
        · rename_i z
          injection hl with hl
          exact ⟨by revert z; cases x.le <;> simp, hl⟩
      have lx : l.length ≤ 2000 := by rw [← hle.2]; exact R.le x (List.mem_of_getElem? hx)
      have ew : Em.wholeAt x = Em.wholeOf l := by unfold Em.wholeAt; rw [hle.1, hle.2]; exact if_neg (by decide)
      rw [ew] at u1 u2
      have lz : (S l).length ≤ sizeLine := by rw [SX.S_len]; exact Nat.le_of_lt (few (by omega))
      -- the end: the figures of a number
      have fin : ∀ (f : List Nat) (z : Int), f.length ≤ 2000 → (Em.plain f = true → intText? (S l) = some z ∧ l.length ≤ 640) → (Em.plain f = false → Em.wholeOf l = none) → (Em.plain f = true → Em.wholeOf l = if Em.num z = true then some z else none) →
          tSeq (tDrop (tMeth Z.cReader "need" (spNeed Z) [] E (tVar 0) (tCons (tCall spPlain [] E0 (tCons (tVar 2) tNil)) tNil))) (tSeq (tDrop (tMeth Z.cReader "need" (spNeed Z) [] E (tVar 0) (tCons (tCall spIsNum [] E0 (tCons (tCB (fun xs H Q => ∃ a n, xs = [V.str a] ∧ PySem.intText? a = some n ∧ a.length ≤ 640 ∧ Q (.int n) H) (tCons (tVar 1) tNil)) tNil)) tNil)))
            (tRet (tCB (fun xs H Q => ∃ a n, xs = [V.str a] ∧ PySem.intText? a = some n ∧ a.length ≤ 640 ∧ Q (.int n) H) (tCons (tVar 1) tNil)))) { nx := fun _ H' => Q .non H', rt := Q } [some (.ref r), some (.str (S l)), some (.str (S f))] H := by
        intro f z hf hz1 hz2 hz3
        refine ⟨_, rfl, r, dx, _, rfl, h1, rfl, _, rfl, f, rfl, by omega, fun H1 s1 => ?_⟩
        have R1 := R.same s1
        have b1 := But.of (p := r) s1
        refine ⟨r, wl, _, L, sz, pg, ln, k, rfl, R1, fun q => ?_, fun q => ⟨x, hx, RdErr.but (u2 (hz2 q)) b1 R1.tracked⟩⟩
        obtain ⟨iz, l640⟩ := hz1 q
        obtain ⟨dx1, h1', _⟩ := R1.ob
        refine ⟨_, rfl, r, dx1, _, rfl, h1', rfl, _, rfl, _, z, rfl, iz, by rw [SX.S_len]; exact l640, z, rfl, ?_⟩
        refine ⟨r, wl, _, L, sz, pg, ln, k, rfl, R1, fun q2 => ?_, fun q2 => ⟨x, hx, RdErr.but (u2 ?_) b1 R1.tracked⟩⟩
        · exact ⟨_, rfl, _, z, rfl, iz, by rw [SX.S_len]; exact l640, u1 z (by rw [hz3 q, if_pos q2]) H1 s1⟩
        · have q2' : Em.num z = false := q2
          rw [hz3 q, if_neg (by rw [q2']; decide)]
      refine ⟨_, rfl, ?_⟩
      have e45 : Str.ofString "-" = S [45] := rfl
      have e48 : Str.ofString "0" = S [48] := rfl
      have sl1 : cutS (S l) none (some 1) = S (l.take 1) := by rw [C8.cutS_slice, SX.slice_to (by decide)]; rfl
      have sl2 : cutS (S l) (some 1) none = S l.tail := by rw [C8.cutS_slice, SX.slice_from (by decide)]; show S (l.drop 1) = _; rw [List.drop_one]
      refine ⟨_, rfl, _, rfl, _, rfl, lz, ?_⟩
      rw [sl1, e45]
      refine ⟨rfl, _, rfl, ?_⟩
      rw [dS]
      have hd : decide (l.take 1 = [45]) = decide (l.head? = some 45) := by
        cases l with
        | nil => rfl
        | cons c r => by_cases h : c = 45 <;> simp [h]
      rw [hd]
      refine if_dec (fun c => ?_) fun c => ?_
      · have c' := of_decide_eq_true c
        have wz : Em.wholeOf l = if (!decide (l.tail = [48]) && Em.plain l.tail && Em.num (-(Em.dval l.tail : Int))) = true then some (-(Em.dval l.tail : Int)) else none := by
          unfold Em.wholeOf; exact if_pos c'
        refine ⟨_, rfl, _, rfl, _, rfl, lz, ?_⟩
        rw [sl2]
        refine ⟨_, rfl, r, dx, _, rfl, h1, rfl, _, rfl, rfl, ?_⟩
        rw [e48, dS]
        refine ⟨r, wl, _, L, sz, pg, ln, k, rfl, R, fun q => ?_, fun q => ⟨x, hx, u2 ?_⟩⟩
        · refine fin l.tail (-(Em.dval l.tail : Int)) (by rw [List.length_tail]; omega) (fun q1 => ⟨int_neg c' q1, ?_⟩) (fun q1 => ?_) (fun q1 => ?_)
          · have := (plain_ne q1).2.1
            rw [List.length_tail] at this
            omega
          · rw [wz, q1, Bool.and_false, Bool.false_and]; exact if_neg (by decide)
          · rw [wz, q, q1]; rfl
        · rw [wz, q, Bool.false_and, Bool.false_and]; exact if_neg (by decide)
      · have c' := of_decide_eq_false c
        have wz : Em.wholeOf l = if (Em.plain l && Em.num (Em.dval l : Int)) = true then some (Em.dval l : Int) else none := by
          unfold Em.wholeOf; exact if_neg c'
        refine fin l (Em.dval l : Int) lx (fun q1 => ⟨int_plain q1, ?_⟩) (fun q1 => ?_) (fun q1 => ?_)
        · have := (plain_ne q1).2.1; omega
        · rw [wz, q1, Bool.false_and]; exact if_neg (by decide)
        · rw [wz, q1]; rfl
    · obtain ⟨u1, u2⟩ := t2 x hx
      refine u2 ?_
      unfold comeO at hn
      unfold Em.wholeAt
      split at hn
      · rename_i z
        exact if_pos z
      · cases hn
end
end EX
namespace Em
open Vbceaj (Sheet Erratum Numbers State)
open VbceCore (Word Bytes)
theorem toPW_place (w : Word) : (toPW w).place = w.1 := by
  unfold toPW
  split <;> rfl
theorem must_le {e : Nat} {w : Word} {r : List Word} : VbceCore.must e [10] (w :: r) = if (toPW w).le = true then .ok r else .error w.1 := by
  show (if w.2 = [10] then _ else _) = _
  unfold toPW
  by_cases h : w.2 = [10]
  · rw [if_pos h, if_pos h]; rfl
  · rw [if_neg h, if_neg h]; rfl
/-- the head of a sheet's text -/
def headIn (e : Nat) (ws : List Word) : Except Nat ((Nat × Nat) × List Word) := do
  let ws ← VbceCore.must e (Vbceaj.W "errata") ws
  let ws ← VbceCore.must e (Vbceaj.W "of") ws
  let (a, ws) ← Vbceaj.natFromTo e 0 7 ws
  let ws ← VbceCore.must e (Vbceaj.W "sheet") ws
  let (n, ws) ← Vbceaj.natFromTo e 0 7 ws
  return ((a, n), ws)
theorem read_head (pages lines : Nat) (t : Bytes) : Vbceaj.readSheet pages lines t = (match headIn t.length (VbceCore.cut 0 t) with
    | .error p => .error p
    | .ok ((a, n), ws) => match Vbceaj.errataIn pages lines t.length (ws.length + 1) none ws with
      | .error p => .error p
      | .ok l => .ok (a, n, l)) := by
  unfold Vbceaj.readSheet headIn
  simp only [bind, Except.bind, pure, Except.pure]
  cases VbceCore.must t.length (Vbceaj.W "errata") (VbceCore.cut 0 t) with
  | error p => rfl
  | ok w1 =>
    dsimp only
    cases VbceCore.must t.length (Vbceaj.W "of") w1 with
    | error p => rfl
    | ok w2 =>
      dsimp only
      cases Vbceaj.natFromTo t.length 0 7 w2 with
      | error p => rfl
      | ok x =>
        dsimp only
        cases VbceCore.must t.length (Vbceaj.W "sheet") x.2 with
        | error p => rfl
        | ok w4 =>
          dsimp only
          cases Vbceaj.natFromTo t.length 0 7 w4 with
          | error p => rfl
          | ok y =>
            dsimp only
            cases Vbceaj.errataIn pages lines t.length (y.2.length + 1) none y.2 with
            | error p => rfl
            | ok l => rfl
/-! what is read is as it may be -/
theorem nat_ok {e lo hi : Nat} {ws : List Word} {n : Nat} {r : List Word} (h : Vbceaj.natFromTo e lo hi ws = .ok (n, r)) : lo ≤ n ∧ n ≤ hi ∧ r.length < ws.length := by
  cases ws with
  | nil => cases h
  | cons w ws =>
    simp only [Vbceaj.natFromTo] at h
    split at h
    · split at h
      · rename_i hh
        injection h with h
        injection h with h1 h2
        subst h1; subst h2
        exact ⟨hh.1, hh.2, Nat.lt_succ_self _⟩
      · cases h
    · cases h
theorem int_ok {e : Nat} {ws : List Word} {z : Int} {r : List Word} (h : Vbceaj.intIn e ws = .ok (z, r)) : num z = true ∧ r.length < ws.length := by
  cases ws with
  | nil => cases h
  | cons w ws =>
    simp only [Vbceaj.intIn] at h
    split at h
    · split at h
      · rename_i hh
        injection h with h
        injection h with h1 h2
        subst h1; subst h2
        exact ⟨hh, Nat.lt_succ_self _⟩
      · cases h
    · cases h
theorem must_ok {e : Nat} {b : Bytes} {ws r : List Word} (h : VbceCore.must e b ws = .ok r) : r.length < ws.length := by
  cases ws with
  | nil => cases h
  | cons w ws =>
    simp only [VbceCore.must] at h
    split at h
    · injection h with h
      subst h
      exact Nat.lt_succ_self _
    · cases h
def loLine (lines p : Nat) (last : Option Nat) : Nat := match last with
  | none => 0
  | some k => if p = (k + 1) / lines then (k + 1) % lines else 0
def loPage (lines : Nat) (last : Option Nat) : Nat := match last with
  | none => 0
  | some k => (k + 1) / lines
def erratum2 (pages lines : Nat) (e : Nat) (last : Option Nat) (ws : List Word) : Except Nat (Erratum × List Word) := do
  let ws ← VbceCore.must e (Vbceaj.W "page") ws
  let (p, ws) ← Vbceaj.natFromTo e (loPage lines last) (pages - 1) ws
  let ws ← VbceCore.must e (Vbceaj.W "line") ws
  let (l, ws) ← Vbceaj.natFromTo e (loLine lines p last) (lines - 1) ws
  let ws ← VbceCore.must e (Vbceaj.W "for") ws
  let (a, ws) ← Vbceaj.intIn e ws
  let ws ← VbceCore.must e (Vbceaj.W "read") ws
  let (b, rest) ← Vbceaj.intIn e ws
  if a = b then .error (VbceCore.placeOf e ws) else .ok ({ place := p * lines + l, old := a, new := b }, rest)
theorem erratum2_eq (pages lines e : Nat) (last : Option Nat) (ws : List Word) : Vbceaj.erratumIn pages lines e last ws = erratum2 pages lines e last ws := by
  unfold Vbceaj.erratumIn erratum2 loPage loLine
  cases last <;> rfl
theorem erratum_ok {pages lines e : Nat} {last : Option Nat} {ws rest : List Word} {x : Erratum} (hl : 0 < lines) (hp : 0 < pages) (h : Vbceaj.erratumIn pages lines e last ws = .ok (x, rest)) :
    x.place < pages * lines ∧ (∀ k, last = some k → k < x.place) ∧ x.old ≠ x.new ∧ num x.old = true ∧ num x.new = true ∧ rest.length < ws.length := by
  unfold Vbceaj.erratumIn at h
  simp only [bind, Except.bind] at h
  split at h
  · cases h
  rename_i w1 h1
  split at h
  · cases h
  rename_i y2 h2
  split at h
  · cases h
  rename_i w3 h3
  split at h
  · cases h
  rename_i y4 h4
  split at h
  · cases h
  rename_i w5 h5
  split at h
  · cases h
  rename_i y6 h6
  split at h
  · cases h
  rename_i w7 h7
  split at h
  · cases h
  rename_i y8 h8
  split at h
  · cases h
  rename_i hne
  injection h with h
  injection h with hx hr
  obtain ⟨p, w2⟩ := y2
  obtain ⟨l, w4⟩ := y4
  obtain ⟨a, w6⟩ := y6
  obtain ⟨b, w8⟩ := y8
  have a1 := must_ok h1
  have a2 := nat_ok h2
  have a3 := must_ok h3
  have a4 := nat_ok h4
  have a5 := must_ok h5
  have a6 := int_ok h6
  have a7 := must_ok h7
  have a8 := int_ok h8
  dsimp only at hx hr hne a2 a3 a4 a5 a6 a7 a8 h3 h4 h5 h6 h7 h8
  subst hx
  dsimp only
  have b1 : p < pages := by omega
  have b2 : l < lines := by omega
  have b3 : p * lines + lines ≤ pages * lines := by
    have := Nat.mul_le_mul_right lines (show p + 1 ≤ pages by omega)
    rw [Nat.add_mul, Nat.one_mul] at this
    exact this
  refine ⟨by omega, fun k hk => ?_, hne, a6.1, a8.1, by rw [← hr]; omega⟩
  subst hk
  have c2 := a2.1
  have c4 := a4.1
  dsimp only at c2 c4
  have d := Nat.div_add_mod (k + 1) lines
  by_cases q : p = (k + 1) / lines
  · rw [if_pos q] at c4
    have : lines * ((k + 1) / lines) = p * lines := by rw [← q, Nat.mul_comm]
    omega
  · have q2 : (k + 1) / lines + 1 ≤ p := by omega
    have := Nat.mul_le_mul_right lines q2
    rw [Nat.add_mul, Nat.one_mul, Nat.mul_comm] at this
    have m := Nat.mod_lt (k + 1) hl
    omega
theorem errata_ok {pages lines e : Nat} (hl : 0 < lines) (hp : 0 < pages) : ∀ (f : Nat) (last : Option Nat) (ws : List Word) (s : Sheet), Vbceaj.errataIn pages lines e f last ws = .ok s →
    IsS (pages * lines) s ∧ (∀ x ∈ s.head?, ∀ k, last = some k → k < x.place) ∧ ∀ x ∈ s, num x.old = true ∧ num x.new = true
  | 0, last, ws, s, h => by cases h
  | f + 1, last, ws, s, h => by
    unfold Vbceaj.errataIn at h
    split at h
    · injection h with h
      subst h
      exact ⟨⟨rfl, fun x hx => (nomatch hx), fun x hx => (nomatch hx)⟩, fun x hx => (nomatch hx), fun x hx => (nomatch hx)⟩
    · simp only [bind, Except.bind, pure, Except.pure] at h
      split at h
      · cases h
      rename_i w1 h1
      split at h
      · cases h
      rename_i y h2
      obtain ⟨x, w2⟩ := y
      split at h
      · cases h
      rename_i l h3
      injection h with h
      subst h
      dsimp only at h3
      obtain ⟨c1, c2, c3, c4, c5, _⟩ := erratum_ok hl hp h2
      obtain ⟨i1, i2, i3⟩ := errata_ok hl hp f _ _ _ h3
      refine ⟨⟨?_, ?_, ?_⟩, ?_, ?_⟩
      · show Vbceaj.isRising (x.place :: Vbceaj.places l) = true
        refine rising_mk i1.ris fun b hb => ?_
        unfold Vbceaj.places at hb
        rw [List.head?_map] at hb
        cases q : l.head? with
        | none => rw [q] at hb; cases hb
        | some y =>
          rw [q] at hb
          have hb' : y.place = b := by simpa using hb
          rw [← hb']
          exact i2 y q _ rfl
      · intro y hy
        rcases List.mem_cons.mp hy with e | hy
        · rw [e]; exact c1
        · exact i1.lt y hy
      · intro y hy
        rcases List.mem_cons.mp hy with e | hy
        · rw [e]; exact c3
        · exact i1.ne y hy
      · intro y hy k hk
        have : x = y := by simpa using hy
        rw [← this]; exact c2 k hk
      · intro y hy
        rcases List.mem_cons.mp hy with e | hy
        · rw [e]; exact ⟨c4, c5⟩
        · exact i3 y hy
end Em
namespace EX
open PySem PySem.Spec PyProof.Rows L2
open SX (S)
open Em (PW plainW)
open VbceCore (Word)
open Vbceaj (Sheet Erratum State)
/-- a reading of one word, by what the reader sees of it -/
structure One {α : Type} (e : Nat) (o : PW → Option α) (f : List Word → Except Nat (α × List Word)) : Prop where
  nil : f [] = .error e
  cons : ∀ w r, f (w :: r) = match o (Em.toPW w) with
    | some a => .ok (a, r)
    | none => .error w.1
theorem One.try_ {α : Type} {e : Nat} {o : PW → Option α} {f : List Word → Except Nat (α × List Word)} (h : One e o f) {ws : List Word} {k : Nat} (hk : k ≤ ws.length) {ok : α → Prop} {er : Nat → Prop}
    (h1 : ∀ a, f (ws.drop k) = .ok (a, ws.drop (k + 1)) → k + 1 ≤ ws.length → ok a) (h2 : ∀ p, f (ws.drop k) = .error p → er p) : Try3 (ws.map Em.toPW) e k o ok er := by
  refine ⟨fun q => ?_, fun w hw => ?_⟩
  · rw [List.getElem?_eq_none_iff, List.length_map] at q
    exact h2 _ (by rw [List.drop_eq_nil_of_le q]; exact h.nil)
  · obtain ⟨x, hx, rfl⟩ := Em.getElem_map hw
    have hl := (List.getElem?_eq_some_iff.mp hx).1
    have ed : ws.drop k = x :: ws.drop (k + 1) := (List.drop_eq_getElem_cons hl).trans (by rw [(List.getElem?_eq_some_iff.mp hx).2])
    have c := h.cons x (ws.drop (k + 1))
    rw [← ed] at c
    refine ⟨fun a ha => h1 a (by rw [c, ha]) hl, fun hn => ?_⟩
    rw [Em.toPW_place]
    exact h2 _ (by rw [c, hn])
def mustU (e : Nat) (b : List Nat) (ws : List Word) : Except Nat (Unit × List Word) := match VbceCore.must e b ws with
  | .ok r => .ok ((), r)
  | .error p => .error p
theorem one_lit {e : Nat} {l : List Nat} (hl : Em.letters l = true) : One e (litO l) (mustU e l) := by
  refine ⟨rfl, fun w r => ?_⟩
  have q := Em.word_is (w := w) hl
  unfold mustU litO
  simp only [VbceCore.must]
  by_cases h : w.2 = l
  · obtain ⟨h1, h2⟩ := q.mp h
    rw [if_pos h, h1, h2, if_pos (by simp)]
  · have : (!(Em.toPW w).le && decide ((Em.toPW w).signs = l)) = false := by
      rw [Bool.eq_false_iff]
      intro z
      rw [Bool.and_eq_true, decide_eq_true_eq] at z
      exact h (q.mpr ⟨by revert z; cases (Em.toPW w).le <;> simp, z.2⟩)
    rw [if_neg h, this, if_neg (by decide)]
theorem one_num {e lo hi : Nat} (hh : hi < 10 ^ 13) : One e (fun x => Em.numAt x lo hi) (Vbceaj.natFromTo e lo hi) := ⟨rfl, fun w r => by rw [Em.natFromTo_eq hh]; cases Em.numAt (Em.toPW w) lo hi <;> rfl⟩
theorem one_int {e : Nat} : One e Em.wholeAt (Vbceaj.intIn e) := ⟨rfl, fun w r => by rw [Em.intIn_eq]; cases Em.wholeAt (Em.toPW w) <;> rfl⟩
theorem mustU_ok {e : Nat} {b : List Nat} {ws r : List Word} (h : mustU e b ws = .ok ((), r)) : VbceCore.must e b ws = .ok r := by
  unfold mustU at h
  cases q : VbceCore.must e b ws with
  | error p => rw [q] at h; cases h
  | ok x =>
    rw [q] at h
    injection h with h
    injection h with _ h
    rw [h]
theorem mustU_err {e p : Nat} {b : List Nat} {ws : List Word} (h : mustU e b ws = .error p) : VbceCore.must e b ws = .error p := by
  unfold mustU at h
  cases q : VbceCore.must e b ws with
  | ok x => rw [q] at h; cases h
  | error x => rw [q] at h; injection h with h; rw [h]
section
variable {P : Program} {w : World} {K : PySem.W.Frag} {mg : Str → Option Value} {base : Heap} {Z : Ad}
def spHead (Z : Ad) : Sp := fun vs H Q E => ∃ (r wl : Addr) (ws : List Word) (sz pg ln k : Nat), vs = [.ref r] ∧ RdA Z H r wl (ws.map Em.toPW) sz pg ln k ∧ k ≤ ws.length ∧
  (∀ a n k', Em.headIn sz (ws.drop k) = .ok ((a, n), ws.drop k') → k' ≤ ws.length → ∀ H' t, But r H H' → RdA Z H' r wl (ws.map Em.toPW) sz pg ln k' → H' t = some (.tup [.int (a : Nat), .int (n : Nat)]) → Q (.ref t) H') ∧
  (∀ p, Em.headIn sz (ws.drop k) = .error p → RdErr Z E H r p)
theorem wl_errata : Str.ofString "errata" = S (Vbceaj.W "errata") := by rfl
theorem wl_of : Str.ofString "of" = S (Vbceaj.W "of") := by rfl
theorem wl_sheet : Str.ofString "sheet" = S (Vbceaj.W "sheet") := by rfl
theorem wl_page : Str.ofString "page" = S (Vbceaj.W "page") := by rfl
theorem wl_line : Str.ofString "line" = S (Vbceaj.W "line") := by rfl
theorem wl_for : Str.ofString "for" = S (Vbceaj.W "for") := by rfl
theorem wl_read : Str.ofString "read" = S (Vbceaj.W "read") := by rfl
theorem ok_Reader_head (T : Txt K mg Z) : OkM P w K mg base (L2.CX P w) 6 Z.cReader "head" ["self"] (spHead Z) := by
  obtain ⟨f0, fd0, M0, F0⟩ := T.d_Reader_head
  obtain ⟨f_Reader_literal, fd_Reader_literal, M_Reader_literal, G_Reader_literal, B_Reader_literal⟩ := ok_Reader_literal (P := P) (w := w) (base := base) T
  obtain ⟨f_Reader_read_number, fd_Reader_read_number, M_Reader_read_number, G_Reader_read_number, B_Reader_read_number⟩ := ok_Reader_read_number (P := P) (w := w) (base := base) T
  refine ⟨f0, fd0, M0, F0.okX sc_Reader_head (fun vs H Q E h => ?_) (fun cdv A outer s H vs Q E hr h => ?_), (F0.binds fun _ _ _ _ _ _ us hl => match us, hl with | [_], _ => rfl)⟩
  · obtain ⟨r, wl, ws, sz, pg, ln, k, rfl, _⟩ := h
    rfl
  · obtain ⟨r, wl, ws, sz, pg, ln, k, rfl, R0, hk0, ko, ke⟩ := h
    refine ⟨_, (pss_cons (ps_expr (pe_meth (pv 0) T.cl_Reader M_Reader_literal G_Reader_literal (hr.mono (by decide)) B_Reader_literal .nil (passes_call (takes_of rfl rfl rfl rfl) fun _ _ _ _ h => h) (pa_cons pe_str pa_nil)))
  (pss_cons (ps_expr (pe_meth (pv 0) T.cl_Reader M_Reader_literal G_Reader_literal (hr.mono (by decide)) B_Reader_literal .nil (passes_call (takes_of rfl rfl rfl rfl) fun _ _ _ _ h => h) (pa_cons pe_str pa_nil)))
  (pss_cons (ps_set (i := 1) sc_Reader_head.nd rfl (Or.inl rfl) (pe_meth (pv 0) T.cl_Reader M_Reader_read_number G_Reader_read_number (hr.mono (by decide)) B_Reader_read_number .nil (passes_call (takes_of rfl rfl rfl rfl) fun _ _ _ _ h => h) (pa_cons pe_int (pa_cons (pe_op op_add (pe_gint rfl T.g_MOST_EDITION) pe_int) pa_nil))))
  (pss_cons (ps_expr (pe_meth (pv 0) T.cl_Reader M_Reader_literal G_Reader_literal (hr.mono (by decide)) B_Reader_literal .nil (passes_call (takes_of rfl rfl rfl rfl) fun _ _ _ _ h => h) (pa_cons pe_str pa_nil)))
  (pss_one (ps_ret (pe_tup (pa_cons (pv 1) (pa_cons (pe_meth (pv 0) T.cl_Reader M_Reader_read_number G_Reader_read_number (hr.mono (by decide)) B_Reader_read_number .nil (passes_call (takes_of rfl rfl rfl rfl) fun _ _ _ _ h => h) (pa_cons pe_int (pa_cons (pe_op op_add (pe_gint rfl T.g_MOST_EDITION) pe_int) pa_nil))) pa_nil))))))))), ?_⟩
    have hL : (ws.map Em.toPW).length = ws.length := List.length_map _
    obtain ⟨dx, h1, _⟩ := R0.ob
    -- errata
    refine ⟨_, rfl, r, dx, _, rfl, h1, rfl, r, wl, Vbceaj.W "errata", _, sz, pg, ln, k, rfl, R0, by rw [hL]; exact hk0, One.try_ (one_lit (by decide)) hk0 (fun u e1 hk1 H1 b1 R1 => ?_) (fun p hp => ke p ?_)⟩
    rotate_left
    · unfold Em.headIn; simp only [bind, Except.bind, mustU_err hp]
    have m1 := mustU_ok e1
    obtain ⟨dx1, h11, _⟩ := R1.ob
    -- of
    refine ⟨_, rfl, r, dx1, _, rfl, h11, rfl, r, wl, Vbceaj.W "of", _, sz, pg, ln, k + 1, rfl, R1, by rw [hL]; exact hk1, One.try_ (one_lit (by decide)) hk1 (fun u e2 hk2 H2 b2 R2 => ?_) (fun p hp => RdErr.but (ke p ?_) b1 R1.tracked)⟩
    rotate_left
    · unfold Em.headIn; simp only [bind, Except.bind, m1, mustU_err hp]
    have m2 := mustU_ok e2
    obtain ⟨dx2, h12, _⟩ := R2.ob
    -- the edition
    refine ⟨_, rfl, r, dx2, _, rfl, h12, rfl, _, _, rfl, rfl, r, wl, 0, 7, _, _, sz, pg, ln, k + 1 + 1, rfl, rfl, R2, by rw [hL]; exact hk2, One.try_ (one_num (by decide)) hk2 (fun a e3 hk3 H3 b3 R3 => ?_) (fun p hp => RdErr.but (ke p ?_) (b1.trans b2) R2.tracked)⟩
    rotate_left
    · unfold Em.headIn; simp only [bind, Except.bind, m1, m2, hp]
    obtain ⟨dx3, h13, _⟩ := R3.ob
    -- sheet
    refine ⟨_, rfl, r, dx3, _, rfl, h13, rfl, r, wl, Vbceaj.W "sheet", _, sz, pg, ln, k + 1 + 1 + 1, rfl, R3, by rw [hL]; exact hk3, One.try_ (one_lit (by decide)) hk3 (fun u e4 hk4 H4 b4 R4 => ?_) (fun p hp => RdErr.but (ke p ?_) ((b1.trans b2).trans b3) R3.tracked)⟩
    rotate_left
    · unfold Em.headIn; simp only [bind, Except.bind, m1, m2, e3, mustU_err hp]
    have m4 := mustU_ok e4
    obtain ⟨dx4, h14, _⟩ := R4.ob
    -- the sheet's number
    refine ⟨_, rfl, _, rfl, r, dx4, _, rfl, h14, rfl, _, _, rfl, rfl, r, wl, 0, 7, _, _, sz, pg, ln, k + 1 + 1 + 1 + 1, rfl, rfl, R4, by rw [hL]; exact hk4, One.try_ (one_num (by decide)) hk4 (fun n e5 hk5 H5 b5 R5 => ?_) (fun p hp => RdErr.but (ke p ?_) (((b1.trans b2).trans b3).trans b4) R4.tracked)⟩
    rotate_left
    · unfold Em.headIn; simp only [bind, Except.bind, m1, m2, e3, m4, hp]
    refine ⟨(by show 2 ≤ sizeLine; decide), fun t nt => ?_⟩
    have st := same_new (o := .tup [.int (a : Nat), .int (n : Nat)]) nt
    refine ko a n _ ?_ hk5 _ t (((((b1.trans b2).trans b3).trans b4).trans b5).trans (But.of st)) (R5.same st) upd_same
    unfold Em.headIn; simp only [bind, Except.bind, m1, m2, e3, m4, e5, pure, Except.pure]
end
end EX
namespace EX
open PySem PySem.Spec PyProof.Rows L2
open SX (S)
open Em (PW plainW)
open VbceCore (Word)
open Vbceaj (Sheet Erratum State)
def befI (last : Option Nat) : Int := match last with
  | none => -1
  | some k => (k : Int)
theorem lo_page (ln : Nat) (last : Option Nat) (h : 0 < ln) : (befI last + 1) / (ln : Int) = ((Em.loPage ln last : Nat) : Int) := by
  unfold Em.loPage
  cases last with
  | none => show (-1 + 1 : Int) / _ = _; simp
  | some k => show ((k : Int) + 1) / _ = (((k + 1) / ln : Nat) : Int); rw [Int.natCast_ediv]; rfl
theorem lo_line (ln p : Nat) (last : Option Nat) (h : 0 < ln) (hp : Em.loPage ln last ≤ p) :
    (if befI last + 1 - (p : Int) * (ln : Int) > 0 then befI last + 1 - (p : Int) * (ln : Int) else 0) = ((Em.loLine ln p last : Nat) : Int) := by
  have hm : (p : Int) * (ln : Int) = ((p * ln : Nat) : Int) := (Int.natCast_mul _ _).symm
  rw [hm]
  cases last with
  | none =>
    show (if (-1 : Int) + 1 - _ > 0 then _ else (0 : Int)) = 0
    rw [if_neg (by omega)]
  | some k =>
    show (if (k : Int) + 1 - _ > 0 then (k : Int) + 1 - _ else (0 : Int)) = ((if p = (k + 1) / ln then (k + 1) % ln else 0 : Nat) : Int)
    have hp' : (k + 1) / ln ≤ p := hp
    have d := Nat.div_add_mod (k + 1) ln
    by_cases q : p = (k + 1) / ln
    · rw [if_pos q]
      have : ln * ((k + 1) / ln) = p * ln := by rw [← q, Nat.mul_comm]
      rw [this] at d
      split <;> omega
    · rw [if_neg q]
      have q2 : (k + 1) / ln + 1 ≤ p := by omega
      have := Nat.mul_le_mul_right ln q2
      rw [Nat.add_mul, Nat.one_mul, Nat.mul_comm] at this
      have m := Nat.mod_lt (k + 1) h
      rw [if_neg (by omega)]; rfl
section
variable {P : Program} {w : World} {K : PySem.W.Frag} {mg : Str → Option Value} {base : Heap} {Z : Ad}
def spErr1 (Z : Ad) : Sp := fun vs H Q E => ∃ (r wl : Addr) (last : Option Nat) (ws : List Word) (sz pg ln k : Nat), vs = [.ref r, .int (befI last)] ∧ RdA Z H r wl (ws.map Em.toPW) sz pg ln k ∧ k ≤ ws.length ∧ 0 < pg ∧ pg ≤ 6 ∧ 0 < ln ∧ ln ≤ 10 ∧
  (∀ x k', Vbceaj.erratumIn pg ln sz last (ws.drop k) = .ok (x, ws.drop k') → k' ≤ ws.length → k < k' → ∀ H' t, But r H H' → RdA Z H' r wl (ws.map Em.toPW) sz pg ln k' → H t = none → H' t = some (.tup ((Em.trip x).map V.int)) → Q (.ref t) H') ∧
  (∀ p, Vbceaj.erratumIn pg ln sz last (ws.drop k) = .error p → RdErr Z E H r p)
theorem ok_Reader_erratum (T : Txt K mg Z) : OkM P w K mg base (L2.CX P w) 6 Z.cReader "erratum" ["self", "before"] (spErr1 Z) := by
  obtain ⟨f0, fd0, M0, F0⟩ := T.d_Reader_erratum
  obtain ⟨f_Reader_literal, fd_Reader_literal, M_Reader_literal, G_Reader_literal, B_Reader_literal⟩ := ok_Reader_literal (P := P) (w := w) (base := base) T
  obtain ⟨f_Reader_read_number, fd_Reader_read_number, M_Reader_read_number, G_Reader_read_number, B_Reader_read_number⟩ := ok_Reader_read_number (P := P) (w := w) (base := base) T
  obtain ⟨f_Reader_whole, fd_Reader_whole, M_Reader_whole, G_Reader_whole, B_Reader_whole⟩ := ok_Reader_whole (P := P) (w := w) (base := base) T
  obtain ⟨f_Reader_need, fd_Reader_need, M_Reader_need, G_Reader_need, B_Reader_need⟩ := ok_Reader_need (P := P) (w := w) (base := base) T
  refine ⟨f0, fd0, M0, F0.okX sc_Reader_erratum (fun vs H Q E h => ?_) (fun cdv A outer s H vs Q E hr h => ?_), (F0.binds fun _ _ _ _ _ _ us hl => match us, hl with | [_, _], _ => rfl)⟩
  · obtain ⟨r, wl, last, ws, sz, pg, ln, k, rfl, _⟩ := h
    rfl
  · obtain ⟨r, wl, last, ws, sz, pg, ln, k, rfl, R0, hk0, hpg, hpg6, hln, hln10, ko, ke⟩ := h
    refine ⟨_, (pss_cons (ps_expr (pe_meth (pv 0) T.cl_Reader M_Reader_literal G_Reader_literal (hr.mono (by decide)) B_Reader_literal .nil (passes_call (takes_of rfl rfl rfl rfl) fun _ _ _ _ h => h) (pa_cons pe_str pa_nil)))
  (pss_cons (ps_set (i := 2) sc_Reader_erratum.nd rfl (Or.inl rfl) (pe_meth (pv 0) T.cl_Reader M_Reader_read_number G_Reader_read_number (hr.mono (by decide)) B_Reader_read_number .nil (passes_call (takes_of rfl rfl rfl rfl) fun _ _ _ _ h => h) (pa_cons (pe_op op_fdiv (pe_op op_add (pv 1) pe_int) (pe_fld (pv 0) rfl)) (pa_cons (pe_fld (pv 0) rfl) pa_nil))))
  (pss_cons (ps_expr (pe_meth (pv 0) T.cl_Reader M_Reader_literal G_Reader_literal (hr.mono (by decide)) B_Reader_literal .nil (passes_call (takes_of rfl rfl rfl rfl) fun _ _ _ _ h => h) (pa_cons pe_str pa_nil)))
  (pss_cons (ps_set (i := 3) sc_Reader_erratum.nd rfl (Or.inl rfl) (pe_meth (pv 0) T.cl_Reader M_Reader_read_number G_Reader_read_number (hr.mono (by decide)) B_Reader_read_number .nil (passes_call (takes_of rfl rfl rfl rfl) fun _ _ _ _ h => h) (pa_cons (pe_callB (call_max2 rfl) (by rfl) T.b_max (by decide +kernel) (pa_cons pe_int (pa_cons (pe_op op_sub (pe_op op_add (pv 1) pe_int) (pe_op op_mul (pv 2) (pe_fld (pv 0) rfl))) pa_nil))) (pa_cons (pe_fld (pv 0) rfl) pa_nil))))
  (pss_cons (ps_expr (pe_meth (pv 0) T.cl_Reader M_Reader_literal G_Reader_literal (hr.mono (by decide)) B_Reader_literal .nil (passes_call (takes_of rfl rfl rfl rfl) fun _ _ _ _ h => h) (pa_cons pe_str pa_nil)))
  (pss_cons (ps_set (i := 4) sc_Reader_erratum.nd rfl (Or.inl rfl) (pe_meth0 (pv 0) T.cl_Reader M_Reader_whole G_Reader_whole (hr.mono (by decide)) B_Reader_whole .nil (passes_call (takes_of rfl rfl rfl rfl) fun _ _ _ _ h => h)))
  (pss_cons (ps_fldaug (pv 0) pe_int in_add)
  (pss_cons (ps_expr (pe_meth (pv 0) T.cl_Reader M_Reader_literal G_Reader_literal (hr.mono (by decide)) B_Reader_literal .nil (passes_call (takes_of rfl rfl rfl rfl) fun _ _ _ _ h => h) (pa_cons pe_str pa_nil)))
  (pss_cons (ps_set (i := 5) sc_Reader_erratum.nd rfl (Or.inl rfl) (pe_meth0 (pv 0) T.cl_Reader M_Reader_whole G_Reader_whole (hr.mono (by decide)) B_Reader_whole .nil (passes_call (takes_of rfl rfl rfl rfl) fun _ _ _ _ h => h)))
  (pss_cons (ps_expr (pe_meth (pv 0) T.cl_Reader M_Reader_need G_Reader_need (hr.mono (by decide)) B_Reader_need .nil (passes_call (takes_of rfl rfl rfl rfl) fun _ _ _ _ h => h) (pa_cons (pe_cmpR op_ne (pv 5) (pv 4) (nomark _)) pa_nil)))
  (pss_cons (ps_fldaug (pv 0) pe_int in_add)
  (pss_one (ps_ret (pe_tup (pa_cons (pe_op op_add (pe_op op_mul (pv 2) (pe_fld (pv 0) rfl)) (pv 3)) (pa_cons (pv 4) (pa_cons (pv 5) pa_nil))))))))))))))))), ?_⟩
    have hL : (ws.map Em.toPW).length = ws.length := List.length_map _
    obtain ⟨dx, h1, _⟩ := R0.ob
    rw [Em.erratum2_eq] at ke
    simp only [Em.erratum2_eq] at ko
    unfold Em.erratum2 at ko ke
    simp only [bind, Except.bind] at ko ke
    -- page
    refine ⟨_, rfl, r, dx, _, rfl, h1, rfl, r, wl, Vbceaj.W "page", _, sz, pg, ln, k, rfl, R0, by rw [hL]; exact hk0, One.try_ (one_lit (by decide)) hk0 (fun u e1 hk1 H1 b1 R1 => ?_) (fun p hp => ke p ?_)⟩
    rotate_left
    · simp only [mustU_err hp]
    have m1 := mustU_ok e1
    obtain ⟨dx1, h11, _⟩ := R1.ob
    rw [m1] at ko ke
    dsimp only at ko ke
    -- its number
    refine ⟨_, rfl, r, dx1, _, rfl, h11, rfl, _, rfl, _, _, rfl, rfl, _, rfl, r, _, dx1, _, _, rfl, h11, T.cl_Reader, T.n_Reader_lines, rfl, _, _, rfl, rfl, ⟨by omega, by omega⟩, _, rfl, r, _, dx1, _, _, rfl, h11, T.cl_Reader, T.n_Reader_pages, rfl, ?_⟩
    refine ⟨r, wl, Em.loPage ln last, pg - 1, (pg : Int), _, sz, pg, ln, k + 1, ?_, ?_, R1, by rw [hL]; exact hk1, One.try_ (e := sz) (one_num (lo := Em.loPage ln last) (hi := pg - 1) (by omega)) hk1 (fun pp e2 hk2 H2 b2 R2 => ?_) (fun p hp => RdErr.but (ke p ?_) b1 R1.tracked)⟩
    · show [V.ref r, V.int ((befI last + 1) / (ln : Int)), _] = _
      rw [lo_page ln last hln]
    · omega
    rotate_left
    · simp only [hp]
    have np := Em.nat_ok e2
    obtain ⟨dx2, h12, _⟩ := R2.ob
    rw [e2] at ko ke
    dsimp only at ko ke
    -- line
    refine ⟨_, rfl, r, dx2, _, rfl, h12, rfl, r, wl, Vbceaj.W "line", _, sz, pg, ln, k + 1 + 1, rfl, R2, by rw [hL]; exact hk2, One.try_ (one_lit (by decide)) hk2 (fun u e3 hk3 H3 b3 R3 => ?_) (fun p hp => RdErr.but (ke p ?_) (b1.trans b2) R2.tracked)⟩
    rotate_left
    · simp only [mustU_err hp]
    have m3 := mustU_ok e3
    obtain ⟨dx3, h13, _⟩ := R3.ob
    rw [m3] at ko ke
    dsimp only at ko ke
    have pp6 : -(2 ^ 64 : Int) < (pp : Int) ∧ (pp : Int) < 2 ^ 64 := by have := np.2.1; omega
    -- its number
    refine ⟨_, rfl, r, dx3, _, rfl, h13, rfl, _, rfl, _, _, rfl, rfl, _, rfl, _, rfl, r, _, dx3, _, _, rfl, h13, T.cl_Reader, T.n_Reader_lines, rfl, _, _, rfl, rfl, .inl pp6, _, _, rfl, rfl, _, _, rfl, _, rfl, r, _, dx3, _, _, rfl, h13, T.cl_Reader, T.n_Reader_lines, rfl, ?_⟩
    refine ⟨r, wl, Em.loLine ln pp last, ln - 1, (ln : Int), _, sz, pg, ln, k + 1 + 1 + 1, ?_, ?_, R3, by rw [hL]; exact hk3, One.try_ (e := sz) (one_num (lo := Em.loLine ln pp last) (hi := ln - 1) (by omega)) hk3 (fun ll e4 hk4 H4 b4 R4 => ?_) (fun p hp => RdErr.but (ke p ?_) ((b1.trans b2).trans b3) R3.tracked)⟩
    · show [V.ref r, V.int (if befI last + 1 - (pp : Int) * (ln : Int) > 0 then befI last + 1 - (pp : Int) * (ln : Int) else 0), _] = _
      rw [lo_line ln pp last hln np.1]
    · omega
    rotate_left
    · simp only [hp]
    have nl := Em.nat_ok e4
    obtain ⟨dx4, h14, _⟩ := R4.ob
    rw [e4] at ko ke
    dsimp only at ko ke
    have b04 := ((b1.trans b2).trans b3).trans b4
    -- for
    refine ⟨_, rfl, r, dx4, _, rfl, h14, rfl, r, wl, Vbceaj.W "for", _, sz, pg, ln, k + 1 + 1 + 1 + 1, rfl, R4, by rw [hL]; exact hk4, One.try_ (one_lit (by decide)) hk4 (fun u e5 hk5 H5 b5 R5 => ?_) (fun p hp => RdErr.but (ke p ?_) b04 R4.tracked)⟩
    rotate_left
    · simp only [mustU_err hp]
    have m5 := mustU_ok e5
    obtain ⟨dx5, h15, _⟩ := R5.ob
    rw [m5] at ko ke
    dsimp only at ko ke
    -- the old number
    refine ⟨_, rfl, r, dx5, _, rfl, h15, rfl, r, wl, _, sz, pg, ln, k + 1 + 1 + 1 + 1 + 1, rfl, R5, by rw [hL]; exact hk5, One.try_ (one_int) hk5 (fun od e6 hk6 H6 s6 => ?_) (fun p hp => RdErr.but (ke p ?_) (b04.trans b5) R5.tracked)⟩
    rotate_left
    · simp only [hp]
    have R6 := R5.same s6
    obtain ⟨dx6, h16, _⟩ := R6.ob
    rw [e6] at ko ke
    dsimp only at ko ke
    refine ⟨_, rfl, r, _, dx6, _, _, rfl, h16, T.cl_Reader, T.n_Reader_at, rfl, _, _, rfl, rfl, _, _, h16, (by show 5 < 1000; decide), ?_⟩
    have R7 := R6.go h16 (k' := k + 1 + 1 + 1 + 1 + 1 + 1)
    have b07 := ((b04.trans b5).trans (But.of s6)).trans (But.upd (p := r) (o := .ins Z.cReader dx6 (fRd wl sz pg ln (k + 1 + 1 + 1 + 1 + 1 + 1))))
    -- read
    refine ⟨_, rfl, r, dx6, _, rfl, upd_same, rfl, r, wl, Vbceaj.W "read", _, sz, pg, ln, k + 1 + 1 + 1 + 1 + 1 + 1, rfl, R7, by rw [hL]; exact hk6, One.try_ (one_lit (by decide)) hk6 (fun u e8 hk8 H8 b8 R8 => ?_) (fun p hp => RdErr.but (ke p ?_) b07 R7.tracked)⟩
    rotate_left
    · simp only [mustU_err hp]
    have m8 := mustU_ok e8
    obtain ⟨dx8, h18, ⟨ks8, ek8, h28, h38⟩⟩ := R8.ob
    rw [m8] at ko ke
    dsimp only at ko ke
    -- the new number
    refine ⟨_, rfl, r, dx8, _, rfl, h18, rfl, r, wl, _, sz, pg, ln, k + 1 + 1 + 1 + 1 + 1 + 1 + 1, rfl, R8, by rw [hL]; exact hk8, One.try_ (one_int) hk8 (fun nw e9 hk9 H9 s9 => ?_) (fun p hp => RdErr.but (ke p ?_) (b07.trans b8) R8.tracked)⟩
    rotate_left
    · simp only [hp]
    have R9 := R8.same s9
    obtain ⟨dx9, h19, _⟩ := R9.ob
    rw [e9] at ko ke
    dsimp only at ko ke
    have b09 := (b07.trans b8).trans (But.of (p := r) s9)
    refine ⟨_, rfl, r, dx9, _, rfl, h19, rfl, _, rfl, _, rfl, rfl, ?_⟩
    rw [dV]
    refine ⟨r, wl, _, _, sz, pg, ln, k + 1 + 1 + 1 + 1 + 1 + 1 + 1, rfl, R9, fun q => ?_, fun q => ?_⟩
    · have hne : ¬ od = nw := fun z => by rw [z] at q; simp at q
      rw [if_neg hne] at ko
      refine ⟨_, rfl, r, _, dx9, _, _, rfl, h19, T.cl_Reader, T.n_Reader_at, rfl, _, _, rfl, rfl, _, _, h19, (by show 5 < 1000; decide), ?_⟩
      have R10 := R9.go h19 (k' := k + 1 + 1 + 1 + 1 + 1 + 1 + 1 + 1)
      refine ⟨_, rfl, _, rfl, r, _, dx9, _, _, rfl, upd_same, T.cl_Reader, T.n_Reader_lines, rfl, _, _, rfl, rfl, .inl pp6, _, rfl, _, _, rfl, rfl, _, rfl, _, rfl, (by show 3 ≤ sizeLine; decide), fun t nt => ?_⟩
      have st := same_new (o := .tup [.int ((pp : Int) * (ln : Int) + (ll : Int)), .int od, .int nw]) nt
      have b010 := (b09.trans (But.upd (p := r) (o := .ins Z.cReader dx9 (fRd wl sz pg ln (k + 1 + 1 + 1 + 1 + 1 + 1 + 1 + 1))))).trans (But.of st)
      have htr : r ≠ t := fun z => by rw [← z, upd_same] at nt; cases nt
      have nt0 : H t = none := by
        cases q0 : H t with
        | none => rfl
        | some u =>
          have := (b09.trans (But.upd (p := r) (o := .ins Z.cReader dx9 (fRd wl sz pg ln (k + 1 + 1 + 1 + 1 + 1 + 1 + 1 + 1))))) t u q0 htr.symm
          have nt' : (upd H9 r (HO.ins Z.cReader dx9 (fRd wl sz pg ln (k + 1 + 1 + 1 + 1 + 1 + 1 + 1 + 1)))) t = none := nt
          rw [this] at nt'
          cases nt'
      refine ko _ _ rfl hk9 (by omega) _ t b010 (R10.same st) nt0 ?_
      show upd _ _ _ _ = _
      rw [upd_same]
      show some (HO.tup [V.int ((pp : Int) * (ln : Int) + (ll : Int)), V.int od, V.int nw]) = some (HO.tup [V.int ((pp * ln + ll : Nat) : Int), V.int od, V.int nw])
      rw [Int.natCast_add, Int.natCast_mul]
    · have heq : od = nw := by
        by_cases z : od = nw
        · exact z
        · rw [decide_eq_false (fun e => z e.symm)] at q; cases q
      obtain ⟨x, hx⟩ : ∃ x, (ws.map Em.toPW)[k + 1 + 1 + 1 + 1 + 1 + 1 + 1]? = some x := ⟨_, List.getElem?_eq_getElem (by rw [hL]; omega)⟩
      refine ⟨x, hx, RdErr.but (ke x.place ?_) b09 R9.tracked⟩
      rw [if_pos heq]
      obtain ⟨y, hy, rfl⟩ := Em.getElem_map hx
      rw [Em.toPW_place]
      have hl := (List.getElem?_eq_some_iff.mp hy).1
      rw [List.drop_eq_getElem_cons hl, (List.getElem?_eq_some_iff.mp hy).2]
      rfl
end
end EX
namespace EX
open PySem PySem.Spec PyProof.Rows L2
open SX (S)
open Em (PW plainW)
open VbceCore (Word)
open Vbceaj (Sheet Erratum State)
theorem cut_many : ∀ (b : List Nat) (p : Nat), (VbceCore.cut p b).length ≤ 2 * b.length + 1
  | [], p => Nat.le_refl _
  | c :: r, p => by
    have ih := cut_many r (p + 1)
    unfold VbceCore.cut
    rw [List.length_cons]
    split
    · rw [List.length_cons]; omega
    · split
      · rw [List.length_cons, List.length_cons]; omega
      · cases q : VbceCore.cut (p + 1) r with
        | nil => show 1 ≤ _; omega
        | cons x l =>
          rw [q, List.length_cons] at ih
          show (_ :: l).length ≤ _
          rw [List.length_cons]; omega
theorem errata_step {pg ln e f : Nat} {last : Option Nat} {ws : List Word} (h : ws ≠ []) : Vbceaj.errataIn pg ln e (f + 1) last ws = (match VbceCore.must e [10] ws with
    | .error p => .error p
    | .ok w1 => match Vbceaj.erratumIn pg ln e last w1 with
      | .error p => .error p
      | .ok (x, w2) => match Vbceaj.errataIn pg ln e f (some x.place) w2 with
        | .error p => .error p
        | .ok l => .ok (x :: l)) := by
  simp only [Vbceaj.errataIn]
  rw [if_neg (by cases ws with | nil => exact absurd rfl h | cons w r => simp)]
  simp only [bind, Except.bind, pure, Except.pure]
  cases VbceCore.must e [10] ws with
  | error p => rfl
  | ok w1 =>
    dsimp only
    cases Vbceaj.erratumIn pg ln e last w1 with
    | error p => rfl
    | ok x =>
      dsimp only
      cases Vbceaj.errataIn pg ln e f (some x.1.place) x.2 <;> rfl
/-- what the rest makes of the whole -/
def Rest (res : Except Nat Sheet) (sh : Sheet) (r : Except Nat Sheet) : Prop := match r with
  | .error p => res = .error p
  | .ok l => res = .ok (sh ++ l)
theorem RS.but {H H' : Hp} {r p : Addr} {sh : Sheet} (h : RS H p sh) (b : But r H H') (hr : ∃ C dx fs, H r = some (.ins C dx fs)) : RS H' p sh := by
  obtain ⟨ks, e, h1, h2⟩ := h
  obtain ⟨C, dx, fs, hr⟩ := hr
  refine ⟨ks, e, b _ _ h1 (fun z => by rw [z, hr] at h1; cases h1), fun k hk => ?_⟩
  have h3 : H k.1 = some (.tup (k.2.map V.int)) := h2 k hk
  exact b _ _ h3 (fun z => by rw [z, hr] at h3; cases h3)
section
variable {P : Program} {w : World} {K : PySem.W.Frag} {mg : Str → Option Value} {base : Heap} {Z : Ad}
def spReadR (Z : Ad) : Sp := fun vs H Q E => ∃ (r wl : Addr) (t : List Nat) (pg ln : Nat), vs = [.ref r] ∧ RdA Z H r wl ((VbceCore.cut 0 t).map Em.toPW) t.length pg ln 0 ∧ t.length ≤ 2000 ∧ 0 < pg ∧ pg ≤ 6 ∧ 0 < ln ∧ ln ≤ 10 ∧
  (∀ a n l, Vbceaj.readSheet pg ln t = .ok (a, n, l) → ∀ H' q p, But r H H' → H p = none → RS H' p l → H' q = some (.tup [.int (a : Nat), .int (n : Nat), .ref p]) → Q (.ref q) H') ∧
  (∀ p, Vbceaj.readSheet pg ln t = .error p → RdErr Z E H r p)
theorem ok_Reader_read (T : Txt K mg Z) : OkM P w K mg base (L2.CX P w) 7 Z.cReader "read" ["self"] (spReadR Z) := by
  obtain ⟨f0, fd0, M0, F0⟩ := T.d_Reader_read
  obtain ⟨f_Reader_head, fd_Reader_head, M_Reader_head, G_Reader_head, B_Reader_head⟩ := ok_Reader_head (P := P) (w := w) (base := base) T
  obtain ⟨f_Reader_need, fd_Reader_need, M_Reader_need, G_Reader_need, B_Reader_need⟩ := ok_Reader_need (P := P) (w := w) (base := base) T
  obtain ⟨f_Reader_erratum, fd_Reader_erratum, M_Reader_erratum, G_Reader_erratum, B_Reader_erratum⟩ := ok_Reader_erratum (P := P) (w := w) (base := base) T
  refine ⟨f0, fd0, M0, F0.okX sc_Reader_read (fun vs H Q E h => ?_) (fun cdv A outer s H vs Q E hr h => ?_), (F0.binds fun _ _ _ _ _ _ us hl => match us, hl with | [_], _ => rfl)⟩
  · obtain ⟨r, wl, t, pg, ln, rfl, _⟩ := h
    rfl
  · obtain ⟨r, wl, t, pg, ln, rfl, R0, ht, hpg, hpg6, hln, hln10, ko, ke⟩ := h
    refine ⟨_, (pss_cons (ps_asg (pe_meth0 (pv 0) T.cl_Reader M_Reader_head G_Reader_head (hr.mono (by decide)) B_Reader_head .nil (passes_call (takes_of rfl rfl rfl rfl) fun _ _ _ _ h => h)) (pg_tup rfl (pgs_cons (pg_name (i := 1) sc_Reader_read.nd rfl (.inl rfl)) (pgs_cons (pg_name (i := 2) sc_Reader_read.nd rfl (.inl rfl)) pgs_nil))))
  (pss_cons (ps_set (i := 3) sc_Reader_read.nd rfl (Or.inl rfl) (pe_lst pa_nil))
  (pss_cons (ps_set (i := 4) sc_Reader_read.nd rfl (Or.inl rfl) (pe_un un_neg pe_int))
  (pss_cons (ps_while (passes_of rfl) (pt_cmpR op_lt (pe_fld (pv 0) rfl) (pe_callB call_len_seq (by rfl) T.b_len (by decide +kernel) (pa_cons (pe_fld (pv 0) rfl) pa_nil)) (nomark _))
  (pss_cons (ps_expr (pe_meth (pv 0) T.cl_Reader M_Reader_need G_Reader_need (hr.mono (by decide)) B_Reader_need .nil (passes_call (takes_of rfl rfl rfl rfl) fun _ _ _ _ h => h) (pa_cons (pe_fld (pe_ix ix_list (pe_fld (pv 0) rfl) (pe_fld (pv 0) rfl) (fun _ _ => rfl)) rfl) pa_nil)))
  (pss_cons (ps_fldaug (pv 0) pe_int in_add)
  (pss_cons (ps_expr (pe_bm PySem.F.plainAttrs_list PySem.F.slot_list_append PySem.F.type_list_append mt_append (pv 3) (pa_cons (pe_meth (pv 0) T.cl_Reader M_Reader_erratum G_Reader_erratum (hr.mono (by decide)) B_Reader_erratum .nil (passes_call (takes_of rfl rfl rfl rfl) fun _ _ _ _ h => h) (pa_cons (pv 4) pa_nil)) pa_nil)))
  (pss_one (ps_set (i := 4) sc_Reader_read.nd rfl (Or.inl rfl) (pe_ix ix_tup (pe_ix ix_list (pv 3) (pe_un un_neg pe_int) (fun _ _ => rfl)) pe_int (fun _ _ => rfl))))))))
  (pss_one (ps_ret (pe_tup (pa_cons (pv 1) (pa_cons (pv 2) (pa_cons (pv 3) pa_nil)))))))))), ?_⟩
    obtain ⟨ws, hws⟩ : ∃ ws, ws = VbceCore.cut 0 t := ⟨_, rfl⟩
    have wm : ws.length ≤ 4001 := by rw [hws]; have := cut_many t 0; omega
    rw [← hws] at R0
    simp only [Em.read_head] at ko
    simp only [Em.read_head] at ke
    rw [← hws] at ko ke
    have hL : (ws.map Em.toPW).length = ws.length := List.length_map _
    obtain ⟨dx, h1, hW⟩ := R0.ob
    refine ⟨_, rfl, r, dx, _, rfl, h1, rfl, r, wl, ws, t.length, pg, ln, 0, rfl, R0, Nat.zero_le _, fun a n k0 e0 hk0 H1 t0 b1 R1 ht0 => ?_, fun p hp => ke p ?_⟩
    rotate_left
    · rw [List.drop_zero] at hp
      rw [hp]
    rw [List.drop_zero] at e0
    rw [e0] at ko ke
    dsimp only at ko ke
    refine tup2 ht0 ?_
    refine ⟨(by show 0 ≤ sizeLine; decide), fun p np => ?_⟩
    refine ⟨_, rfl, ?_⟩
    have s1 := same_new (o := .lst []) np
    obtain ⟨res, hres⟩ : ∃ res, res = Vbceaj.errataIn pg ln t.length ((ws.drop k0).length + 1) none (ws.drop k0) := ⟨_, rfl⟩
    rw [← hres] at ko ke
    have rp0 : r ≠ p := fun z => by obtain ⟨d, h, _⟩ := R1.ob; rw [z, np] at h; cases h
    have wp0 : wl ≠ p := fun z => by obtain ⟨d, _, ks, _, h, _⟩ := R1.ob; rw [z, np] at h; cases h
    have np0 : H p = none := by
      cases q0 : H p with
      | none => rfl
      | some u => rw [b1 p u q0 rp0.symm] at np; cases np
    refine ⟨fun m σ H2 => ∃ (k f : Nat) (last : Option Nat) (sh : Sheet), σ = [some (.ref r), some (.int (a : Nat)), some (.int (n : Nat)), some (.ref p), some (.int (befI last))] ∧ m = ws.length - k ∧ RdA Z H2 r wl (ws.map Em.toPW) t.length pg ln k ∧ k ≤ ws.length ∧ But r H H2 ∧ RS H2 p sh ∧ sh.length ≤ k ∧ (ws.drop k).length < f ∧ Rest res sh (Vbceaj.errataIn pg ln t.length f last (ws.drop k)),
      ⟨_, k0, (ws.drop k0).length + 1, none, [], rfl, rfl, R1.same s1, hk0, b1.trans (But.of s1), ⟨[], rfl, upd_same, fun _ h => nomatch h⟩, Nat.zero_le _, Nat.lt_succ_self _, by
        unfold Rest
        rw [← hres]
        cases res <;> simp⟩, ?_⟩
    rintro m σ H2 ⟨k, f, last, sh, rfl, rfl, R2, hk, b2, hS, hsk, hf, hrest⟩
    obtain ⟨dx2, h12, ⟨ks2, ek2, hw2, hk2⟩⟩ := R2.ob
    refine ⟨_, rfl, r, _, dx2, _, _, rfl, h12, T.cl_Reader, T.n_Reader_at, rfl, _, rfl, r, _, dx2, _, _, rfl, h12, T.cl_Reader, T.n_Reader_words, rfl, wl, _, rfl, .inl (SqL.of hw2), _, _, rfl, rfl, _, rfl, ?_⟩
    rw [LR.len ek2, hL]
    refine if_dec (fun c => ?_) fun c => ?_
    · have kl : k < ws.length := by have := of_decide_eq_true c; omega
      obtain ⟨x, hx⟩ : ∃ x, ws[k]? = some x := ⟨_, List.getElem?_eq_getElem kl⟩
      have hx' : (ws.map Em.toPW)[k]? = some (Em.toPW x) := by rw [List.getElem?_map, hx]; rfl
      obtain ⟨wa, e1, wd, e2⟩ := LR.at_ ek2 hk2 hx'
      have ed : ws.drop k = x :: ws.drop (k + 1) := (List.drop_eq_getElem_cons kl).trans (by rw [(List.getElem?_eq_some_iff.mp hx).2])
      obtain ⟨f', rfl⟩ : ∃ f', f = f' + 1 := ⟨f - 1, by omega⟩
      rw [errata_step (by rw [ed]; simp), ed, Em.must_le] at hrest
      rw [ed, List.length_cons] at hf
      have hrI : ∃ C dx fs, H2 r = some (.ins C dx fs) := ⟨_, _, _, h12⟩
      refine ⟨fun σ' H' => ∃ m', m' < ws.length - k ∧ ∃ (k f : Nat) (last : Option Nat) (sh : Sheet), σ' = [some (.ref r), some (.int (a : Nat)), some (.int (n : Nat)), some (.ref p), some (.int (befI last))] ∧ m' = ws.length - k ∧ RdA Z H' r wl (ws.map Em.toPW) t.length pg ln k ∧ k ≤ ws.length ∧ But r H H' ∧ RS H' p sh ∧ sh.length ≤ k ∧ (ws.drop k).length < f ∧ Rest res sh (Vbceaj.errataIn pg ln t.length f last (ws.drop k)), fun σ' H' h => h, ?_⟩
      refine ⟨_, rfl, r, dx2, _, rfl, h12, rfl, _, rfl, r, _, dx2, _, _, rfl, h12, T.cl_Reader, T.n_Reader_words, rfl, _, rfl, r, _, dx2, _, _, rfl, h12, T.cl_Reader, T.n_Reader_at, rfl, wl, _, _, _, rfl, rfl, SqL.of hw2, atI_nat e1, wa, _, wd, _, _, rfl, e2, T.cl_Word, T.n_Word_is_line_end, rfl, ?_⟩
      refine ⟨r, wl, _, _, t.length, pg, ln, k, rfl, R2, fun q => ?_, fun q => ⟨_, hx', ?_⟩⟩
      rotate_left
      · have q' : ¬ (Em.toPW x).le = true := by rw [q]; decide
        rw [if_neg q'] at hrest
        have hrest' : res = .error x.1 := hrest
        rw [Em.toPW_place]
        exact RdErr.but (ke _ (by rw [hrest'])) b2 R2.tracked
      rw [if_pos q] at hrest
      dsimp only at hrest
      refine ⟨_, rfl, r, _, dx2, _, _, rfl, h12, T.cl_Reader, T.n_Reader_at, rfl, _, _, rfl, rfl, _, _, h12, (by show 5 < 1000; decide), ?_⟩
      have R3 := R2.go h12 (k' := k + 1)
      have bu : But r H2 (upd H2 r (.ins Z.cReader dx2 (fRd wl t.length pg ln (k + 1)))) := But.upd
      have S3 := RS.but hS bu hrI
      obtain ⟨ks, ek, hp, hkk⟩ := S3
      have hp' : (upd H2 r (.ins Z.cReader dx2 (fRd wl t.length pg ln (k + 1)))) p = some (.lst (ks.map fun k => V.ref k.1)) := hp
      refine ⟨_, rfl, .inl ⟨rfl, _, SqL.of hp'⟩, ?_⟩
      refine ⟨_, rfl, r, dx2, _, rfl, upd_same, rfl, _, rfl, r, wl, last, ws, t.length, pg, ln, k + 1, rfl, R3, kl, hpg, hpg6, hln, hln10, fun y k2 ey hk2' hlt H4 t4 b4 R4 nt4 ht4 => ?_, fun q0 hq0 => RdErr.but (ke q0 ?_) (b2.trans bu) R3.tracked⟩
      rotate_left
      · rw [hq0] at hrest
        have hrest' : res = .error q0 := hrest
        rw [hrest']
      rw [ey] at hrest
      dsimp only at hrest
      have S4 := RS.but ⟨ks, ek, hp, hkk⟩ b4 ⟨_, _, _, upd_same⟩
      obtain ⟨ks4, ek4, hp4, hk4⟩ := S4
      have hp4' : H4 p = some (.lst (ks.map fun k => V.ref k.1)) := b4 _ _ hp' (Ne.symm rp0)
      have tp : t4 ≠ p := fun z => by rw [z, hp4'] at ht4; cases ht4
      have tr : t4 ≠ r := fun z => by obtain ⟨d, h, _⟩ := R4.ob; rw [z, h] at ht4; cases ht4
      have lks : (ks.map fun k => V.ref k.1).length = sh.length := by rw [LR.len ek, List.length_map]
      refine ⟨p, _, _, rfl, rfl, hp4', few (by rw [lks]; omega), ?_⟩
      have hl2 : ((ks.map fun k => V.ref k.1) ++ [V.ref t4])[((ks.map fun k => V.ref k.1) ++ [V.ref t4]).length - 1]? = some (.ref t4) := by simp
      refine ⟨_, rfl, _, rfl, p, _, _, _, rfl, rfl, SqL.of upd_same, atI_end hl2 (by simp), t4, _, _, _, rfl, rfl, SqT.of (by rw [upd_ne tp]; exact ht4), atI0, ?_⟩
      have R5 : RdA Z (upd H4 p (.lst ((ks.map fun k => V.ref k.1) ++ [.ref t4]))) r wl (ws.map Em.toPW) t.length pg ln k2 := by
        obtain ⟨d, h, ks5, ek5, hw5, hk5⟩ := R4.ob
        refine ⟨⟨d, by rw [upd_ne rp0]; exact h, ks5, ek5, by rw [upd_ne wp0]; exact hw5, fun z hz => ?_⟩, R4.le⟩
        obtain ⟨d5, h5⟩ := hk5 z hz
        exact ⟨d5, by rw [upd_ne (fun e => by rw [e, hp4'] at h5; cases h5)]; exact h5⟩
      have b5 : But r H (upd H4 p (.lst ((ks.map fun k => V.ref k.1) ++ [.ref t4]))) := fun c u e hc => by
        rw [upd_ne (ne_of_none e np0)]
        exact ((b2.trans bu).trans b4) c u e hc
      refine ⟨_, ?_, k2, f', some y.place, sh ++ [y], rfl, rfl, R5, hk2', b5, ⟨ks ++ [(t4, Em.trip y)], by rw [List.map_append, List.map_append, ek]; rfl, by rw [List.map_append]; exact upd_same, fun z hz => ?_⟩, ?_, ?_, ?_⟩
      · omega
      · show upd _ _ _ z.1 = _
        rcases List.mem_append.mp hz with hz | hz
        · have h5 : (upd H2 r (.ins Z.cReader dx2 (fRd wl t.length pg ln (k + 1)))) z.1 = some (.tup (z.2.map V.int)) := hkk z hz
          have h6 := b4 _ _ h5 (fun e => by rw [e, upd_same] at h5; cases h5)
          rw [upd_ne (fun e => by rw [e, hp4'] at h6; cases h6)]
          exact h6
        · rw [List.mem_singleton.mp hz]
          show upd _ _ _ t4 = _
          rw [upd_ne tp]; exact ht4
      · rw [List.length_append]; show _ + 1 ≤ _; omega
      · have l1 : (ws.drop k2).length = ws.length - k2 := List.length_drop
        have l2 : (ws.drop (k + 1)).length = ws.length - (k + 1) := List.length_drop
        omega
      · unfold Rest at hrest ⊢
        cases q5 : Vbceaj.errataIn pg ln t.length f' (some y.place) (ws.drop k2) with
        | error e5 => rw [q5] at hrest; exact hrest
        | ok l5 =>
          rw [q5] at hrest
          have hrest' : res = .ok (sh ++ (y :: l5)) := hrest
          show res = .ok ((sh ++ [y]) ++ l5)
          rw [hrest', List.append_assoc]; rfl
    · have ke' : k = ws.length := by have := of_decide_eq_false c; omega
      obtain ⟨f', rfl⟩ : ∃ f', f = f' + 1 := ⟨f - 1, by omega⟩
      rw [ke', List.drop_length] at hrest
      have hrest' : res = .ok (sh ++ []) := hrest
      rw [List.append_nil] at hrest'
      refine ⟨_, rfl, _, rfl, _, rfl, (by show 3 ≤ sizeLine; decide), fun q nq => ?_⟩
      have sq := same_new (o := .tup [.int (a : Nat), .int (n : Nat), .ref p]) nq
      exact ko a n sh (by rw [hrest']) _ q p (b2.trans (But.of sq)) np0 (hS.same sq) upd_same
end
end EX
namespace EX
open PySem PySem.Spec PyProof.Rows L2
open SX (S)
open Vbceaj (Sheet Erratum State)
theorem numL_nat (n : Nat) : TL.numL n = VbceCore.natText n := by
  induction n using Nat.strongRecOn with
  | _ n ih =>
    by_cases h : n < 10
    · rw [TL.numL_lt h, Em.natText_lt h]
    · rw [TL.numL_step (by omega), Em.natText_step (by omega), ih _ (by omega)]
theorem str_nat (n : Nat) : Str.ofString (toString ((n : Nat) : Int)) = S (VbceCore.natText n) := by rw [SX.num_S, numL_nat]
theorem str_int (z : Int) : Str.ofString (toString z) = S (VbceCore.intText z) := by
  unfold VbceCore.intText
  by_cases h : z < 0
  · rw [if_pos h]
    obtain ⟨m, rfl⟩ : ∃ m : Nat, z = Int.negSucc m := by
      cases z with
      | ofNat m => exact absurd h (Int.not_lt.mpr (Int.natCast_nonneg m))
      | negSucc m => exact ⟨m, rfl⟩
    have e := str_nat (m + 1)
    have e2 : (Str.ofString (toString (Int.negSucc m))).cps.toList = 45 :: (Str.ofString (toString ((m + 1 : Nat) : Int))).cps.toList := by
      rw [PyProof.Rows.signs_ofString, PyProof.Rows.signs_ofString]
      show ("-" ++ Nat.repr (m + 1)).toList.map Char.toNat = 45 :: (Nat.repr (m + 1)).toList.map Char.toNat
      rw [String.toList_append, List.map_append]
      rfl
    rw [e, S_tl] at e2
    rw [← SX.S_tl (Str.ofString (toString (Int.negSucc m))), e2]
    rfl
  · rw [if_neg h]
    obtain ⟨m, rfl⟩ : ∃ m : Nat, z = (m : Int) := ⟨z.toNat, by omega⟩
    rw [str_nat, Int.toNat_natCast]
theorem up_len : ∀ (f n : Nat), (VbceCore.digitsUp 10 f n).length ≤ f
  | 0, n => Nat.le_refl _
  | f + 1, n => by
    unfold VbceCore.digitsUp
    split
    · exact Nat.zero_le _
    · rw [List.length_cons]; exact Nat.succ_le_succ (up_len f _)
theorem nat_len (n : Nat) : (VbceCore.natText n).length ≤ n.log2 + 2 := by
  unfold VbceCore.natText
  split
  · show 1 ≤ _; omega
  · unfold VbceCore.digitsFast
    rw [List.length_map, List.length_reverse]
    exact up_len _ _
theorem nat_few {n : Nat} (h : n < 2 ^ 41) : (VbceCore.natText n).length ≤ 50 := by
  have := nat_len n
  by_cases z : n = 0
  · rw [z]; decide
  · have := (Nat.log2_lt z).mpr h
    omega
theorem int_few {z : Int} (h : Em.num z = true) : (VbceCore.intText z).length ≤ 50 ∧ z.natAbs.log2 < 1920 := by
  have hb : -1000000000000 ≤ z ∧ z ≤ 1000000000000 := by
    have e : Em.num z = (decide (-1000000000000 ≤ z) && decide (z ≤ 1000000000000)) := rfl
    rw [e, Bool.and_eq_true, decide_eq_true_eq, decide_eq_true_eq] at h
    exact h
  refine ⟨?_, ?_⟩
  · unfold VbceCore.intText
    split
    · have := nat_len z.natAbs
      by_cases q : z.natAbs = 0
      · omega
      · have := (Nat.log2_lt q).mpr (show z.natAbs < 2 ^ 41 by omega)
        rw [List.length_cons]; omega
    · exact nat_few (by omega)
  · by_cases q : z.natAbs = 0
    · rw [q]; decide
    · have := (Nat.log2_lt q).mpr (show z.natAbs < 2 ^ 41 by omega)
      omega
theorem nat_small {n : Nat} (h : n < 1000000) : (VbceCore.natText n).length ≤ 50 ∧ ((n : Int)).natAbs.log2 < 1920 := by
  refine ⟨nat_few (by omega), ?_⟩
  rw [Int.natAbs_natCast]
  by_cases q : n = 0
  · rw [q]; decide
  · have := (Nat.log2_lt q).mpr (show n < 2 ^ 41 by omega)
    omega
theorem catS {x y : Str} {a b : List Nat} (hx : x = S a) (hy : y = S b) (h : a.length + b.length ≤ 100000) : x.length + y.length ≤ sizeLine ∧ x ++ y = S (a ++ b) := by
  subst hx; subst hy
  exact ⟨by rw [SX.S_len, SX.S_len]; exact Nat.le_of_lt (few h), SX.S_cat a b⟩
/-! the text of a sheet, as it is put together -/
def hdT (a n : Nat) : List Nat := ((Vbceaj.W "errata of " ++ VbceCore.natText a) ++ Vbceaj.W " sheet ") ++ VbceCore.natText n
def whT (ln p : Nat) : List Nat := ((Vbceaj.W "page " ++ VbceCore.natText (p / ln)) ++ Vbceaj.W " line ") ++ VbceCore.natText (p % ln)
def erT (ln : Nat) (x : Erratum) : List Nat := Vbceaj.W "\n" ++ (whT ln x.place ++ (Vbceaj.W " for " ++ (VbceCore.intText x.old ++ (Vbceaj.W " read " ++ VbceCore.intText x.new))))
theorem btw_flat (sep : List Nat) : ∀ (x : List Nat) (l : List (List Nat)), VbceCore.between sep (x :: l) = x ++ l.flatMap (fun y => sep ++ y)
  | x, [] => by simp [VbceCore.between]
  | x, y :: l => by
    have ih := btw_flat sep y l
    show x ++ sep ++ VbceCore.between sep (y :: l) = _
    rw [ih, List.flatMap_cons, List.append_assoc, List.append_assoc]
theorem sheetText_eq (ln a n : Nat) (l : Sheet) : Vbceaj.sheetText ln a n l = hdT a n ++ l.flatMap (erT ln) := by
  unfold Vbceaj.sheetText
  rw [btw_flat]
  congr 1
  · show VbceCore.between [32] [_, _, _, _, _] = _
    simp only [btw_flat, List.flatMap_cons, List.flatMap_nil, List.append_nil]
    unfold hdT Vbceaj.num
    have e1 : Vbceaj.W "errata of " = Vbceaj.W "errata" ++ ([32] ++ (Vbceaj.W "of" ++ [32])) := by decide
    have e2 : Vbceaj.W " sheet " = [32] ++ (Vbceaj.W "sheet" ++ [32]) := by decide
    rw [e1, e2]
    simp only [List.append_assoc]
  · rw [List.flatMap_map]
    congr 1
    funext x
    unfold Vbceaj.erratumText
    simp only [btw_flat, List.flatMap_cons, List.flatMap_nil, List.append_nil]
    unfold erT whT Vbceaj.num
    have e0 : Vbceaj.W "\n" = [10] := by decide
    have e1 : Vbceaj.W "page " = Vbceaj.W "page" ++ [32] := by decide
    have e2 : Vbceaj.W " line " = [32] ++ (Vbceaj.W "line" ++ [32]) := by decide
    have e3 : Vbceaj.W " for " = [32] ++ (Vbceaj.W "for" ++ [32]) := by decide
    have e4 : Vbceaj.W " read " = [32] ++ (Vbceaj.W "read" ++ [32]) := by decide
    rw [e0, e1, e2, e3, e4]
    simp only [List.append_assoc]
theorem erT_len {ln : Nat} {x : Erratum} (h1 : Em.num x.old = true) (h2 : Em.num x.new = true) (h3 : x.place < 100) : (erT ln x).length ≤ 300 := by
  have a1 := (int_few h1).1
  have a2 := (int_few h2).1
  have a3 : (VbceCore.natText (x.place / ln)).length ≤ 50 := (nat_small (Nat.lt_of_le_of_lt (Nat.div_le_self _ _) (by omega))).1
  have a4 : (VbceCore.natText (x.place % ln)).length ≤ 50 := (nat_small (Nat.lt_of_le_of_lt (Nat.mod_le _ _) (by omega))).1
  unfold erT whT
  simp only [List.length_append]
  have w1 : (Vbceaj.W "\n").length = 1 := by decide
  have w2 : (Vbceaj.W "page ").length = 5 := by decide
  have w3 : (Vbceaj.W " line ").length = 6 := by decide
  have w4 : (Vbceaj.W " for ").length = 5 := by decide
  have w5 : (Vbceaj.W " read ").length = 6 := by decide
  omega
theorem ers_len {ln : Nat} : ∀ {l : Sheet}, (∀ x ∈ l, Em.num x.old = true ∧ Em.num x.new = true ∧ x.place < 100) → (l.flatMap (erT ln)).length ≤ 300 * l.length
  | [], _ => Nat.le_refl _
  | x :: l, h => by
    have ih := ers_len (ln := ln) (l := l) fun y hy => h y (List.mem_cons_of_mem _ hy)
    obtain ⟨h1, h2, h3⟩ := h x List.mem_cons_self
    have := erT_len (ln := ln) h1 h2 h3
    rw [List.flatMap_cons, List.length_append, List.length_cons]
    omega
section
variable {P : Program} {w : World} {K : PySem.W.Frag} {mg : Str → Option Value} {base : Heap} {Z : Ad}
def spText : Sp := fun vs H Q _ => ∃ (s : Addr) (a n ln : Nat) (t : Sheet), vs = [.int a, .int n, .ref s, .int ln] ∧ RS H s t ∧ a < 100 ∧ n < 100 ∧ 0 < ln ∧ ln ≤ 10 ∧ t.length ≤ 100 ∧ (∀ x ∈ t, Em.num x.old = true ∧ Em.num x.new = true ∧ x.place < 100) ∧ ∀ H' p, Same H H' → H p = none → LI H' p (VbceCore.ints (Vbceaj.sheetText ln a n t)) → Q (.ref p) H'
theorem ok_sheet_text (T : Txt K mg Z) : OkF P w K mg base CX0 1 "sheet_text" ["edition", "number", "sheet", "lines"] (spText) := by
  obtain ⟨f0, fd0, g0, F0⟩ := T.d_sheet_text
  refine ⟨f0, fd0, g0, F0.kp, F0.ok sc_sheet_text (fun vs H Q E h => ?_) (fun cdv A outer s H vs Q E hr h => ?_), (F0.binds fun _ _ _ _ _ _ us hl => match us, hl with | [_, _, _, _], _ => rfl)⟩
  · obtain ⟨s, a, n, ln, t, rfl, _⟩ := h
    rfl
  · obtain ⟨s, a, n, ln, t, rfl, ⟨ks, e, hs, hk⟩, ha, hn, hln, hln10, ht, hx, k⟩ := h
    refine ⟨_, (pss_cons (ps_set (i := 4) sc_sheet_text.nd rfl (Or.inl rfl) (pe_op op_add_str (pe_op op_add_str (pe_op op_add_str pe_str (pe_callTy call_str_int (by rfl) T.b_str (by decide +kernel) (pa_cons (pv 0) pa_nil))) pe_str) (pe_callTy call_str_int (by rfl) T.b_str (by decide +kernel) (pa_cons (pv 1) pa_nil))))
  (pss_cons (ps_for PassesOwn.never rfl (pi_list (pv 2)) (pg_tup rfl (pgs_cons (pg_name (i := 5) sc_sheet_text.nd rfl (.inl rfl)) (pgs_cons (pg_name (i := 6) sc_sheet_text.nd rfl (.inl rfl)) (pgs_cons (pg_name (i := 7) sc_sheet_text.nd rfl (.inl rfl)) pgs_nil))))
  (pss_cons (ps_set (i := 8) sc_sheet_text.nd rfl (Or.inl rfl) (pe_op op_add_str (pe_op op_add_str (pe_op op_add_str pe_str (pe_callTy call_str_int (by rfl) T.b_str (by decide +kernel) (pa_cons (pe_op op_fdiv (pv 5) (pv 3)) pa_nil))) pe_str) (pe_callTy call_str_int (by rfl) T.b_str (by decide +kernel) (pa_cons (pe_op op_mod (pv 5) (pv 3)) pa_nil))))
  (pss_one (ps_set (i := 4) sc_sheet_text.nd rfl (Or.inl rfl) (pe_op op_add_str (pe_op op_add_str (pe_op op_add_str (pe_op op_add_str (pe_op op_add_str (pe_op op_add_str (pv 4) pe_str) (pv 8)) pe_str) (pe_callTy call_str_int (by rfl) T.b_str (by decide +kernel) (pa_cons (pv 6) pa_nil))) pe_str) (pe_callTy call_str_int (by rfl) T.b_str (by decide +kernel) (pa_cons (pv 7) pa_nil)))))))
  (pss_one (ps_ret (pe_lc (own := [("sign", 9)]) (g := gName 9) (tt := tYes) rfl sc_sheet_text.nd (pi_str (pv 4)) (blkOk_by (N := ["edition", "number", "sheet", "lines", "found", "place", "old", "new", "where", "sign"]) (sc := defScope s_sheet_text) (by decide +kernel)) (fun _ _ _ _ _ => (pg_name (i := 9) sc_sheet_text.nd rfl (.inl rfl))) (fun _ _ _ _ _ => pts_nil) (fun _ _ _ _ _ => (pe_callB call_ord (by rfl) T.b_ord (by decide +kernel) (pa_cons (pv 9) pa_nil)))))))), ?_⟩
    have le := (LR.len e).trans (List.length_map _)
    obtain ⟨na1, na2⟩ := nat_small (n := a) (by omega)
    obtain ⟨nn1, nn2⟩ := nat_small (n := n) (by omega)
    have c1 := catS (x := Str.ofString "errata of ") (a := Vbceaj.W "errata of ") rfl (str_nat a) (by rw [show (Vbceaj.W "errata of ").length = 10 by decide]; omega)
    have c2 := catS (y := Str.ofString " sheet ") (b := Vbceaj.W " sheet ") c1.2 rfl (by rw [List.length_append, show (Vbceaj.W "errata of ").length = 10 by decide, show (Vbceaj.W " sheet ").length = 7 by decide]; omega)
    have c3 := catS c2.2 (str_nat n) (by rw [List.length_append, List.length_append, show (Vbceaj.W "errata of ").length = 10 by decide, show (Vbceaj.W " sheet ").length = 7 by decide]; omega)
    refine ⟨_, rfl, _, rfl, na2, _, _, rfl, rfl, c1.1, _, _, rfl, rfl, c2.1, _, rfl, _, rfl, nn2, _, _, rfl, rfl, c3.1, ?_⟩
    have eh := c3.2
    have lh : (hdT a n).length ≤ 200 := by
      unfold hdT
      simp only [List.length_append]
      rw [show (Vbceaj.W "errata of ").length = 10 by decide, show (Vbceaj.W " sheet ").length = 7 by decide]; omega
    refine ⟨_, rfl, s, rfl, ⟨_, SqL.of hs⟩, for_it (walk_list (xs := ks.map fun k => V.ref k.1)) (fun i σ H2 => ∃ (x5 x6 x7 x8 x9 : Option V), σ = [some (.int (a : Nat)), some (.int (n : Nat)), some (.ref s), some (.int (ln : Nat)), some (.str (S (hdT a n ++ (t.take i).flatMap (erT ln)))), x5, x6, x7, x8, x9] ∧ Same H H2)
      ⟨none, none, none, none, none, ?_, Same.refl _⟩ (fun i σ H2 _ ⟨_, _, _, _, _, _, s2⟩ => SqL.of (s2 _ _ hs)) ?_ ?_⟩
    · show [_, _, _, _, some (V.str _), _, _, _, _, _] = _
      rw [eh, List.take_zero, List.flatMap_nil, List.append_nil]; rfl
    · rintro i v σ H2 H3 hi ⟨x5, x6, x7, x8, x9, rfl, s2⟩ ⟨rfl, e2⟩
      obtain ⟨kk, hi2, rfl, hx1, hm⟩ := LR.get e e2
      obtain ⟨x, hx', e3⟩ := Em.getElem_map hx1
      have htt : H3 kk.1 = some (.tup (kk.2.map V.int)) := s2 _ _ (hk _ hm)
      rw [e3] at htt
      obtain ⟨h1, h2, h3⟩ := hx x (List.mem_of_getElem? hx')
      have lt := ers_len (ln := ln) (l := t.take i) fun y hy => hx y (List.mem_of_mem_take hy)
      rw [List.length_take] at lt
      have lw : (whT ln x.place).length ≤ 300 := by
        have := erT_len (ln := ln) h1 h2 h3
        unfold erT at this
        simp only [List.length_append] at this
        omega
      obtain ⟨o1, o2⟩ := int_few h1
      obtain ⟨w1, w2⟩ := int_few h2
      obtain ⟨d1, d2⟩ := nat_small (n := x.place / ln) (Nat.lt_of_le_of_lt (Nat.div_le_self _ _) (by omega))
      obtain ⟨m1, m2⟩ := nat_small (n := x.place % ln) (Nat.lt_of_le_of_lt (Nat.mod_le _ _) (by omega))
      have b1 : (Vbceaj.W "\n").length = 1 := by decide
      have b2 : (Vbceaj.W "page ").length = 5 := by decide
      have b3 : (Vbceaj.W " line ").length = 6 := by decide
      have b4 : (Vbceaj.W " for ").length = 5 := by decide
      have b5 : (Vbceaj.W " read ").length = 6 := by decide
      have ed : (x.place : Int) / (ln : Int) = ((x.place / ln : Nat) : Int) := by rw [Int.natCast_ediv]
      have em : (x.place : Int) % (ln : Int) = ((x.place % ln : Nat) : Int) := by rw [Int.natCast_emod]
      refine tup3 htt ?_
      have c4 := catS (x := Str.ofString "page ") (a := Vbceaj.W "page ") rfl (str_nat (x.place / ln)) (by omega)
      have c5 := catS (y := Str.ofString " line ") (b := Vbceaj.W " line ") c4.2 rfl (by rw [List.length_append]; omega)
      have c6 := catS c5.2 (str_nat (x.place % ln)) (by rw [List.length_append, List.length_append]; omega)
      have e4 : Str.ofString (toString ((x.place : Int) / (ln : Int))) = Str.ofString (toString ((x.place / ln : Nat) : Int)) := by rw [ed]
      have e5 : Str.ofString (toString ((x.place : Int) % (ln : Int))) = Str.ofString (toString ((x.place % ln : Nat) : Int)) := by rw [em]
      rw [← e4] at c4 c5 c6
      rw [← e5] at c6
      refine ⟨_, rfl, _, rfl, _, _, rfl, rfl, ⟨by omega, by omega⟩, _, rfl, by rw [ed]; exact d2, _, _, rfl, rfl, c4.1, _, _, rfl, rfl, c5.1, _, rfl, _, rfl, _, _, rfl, rfl, (by show (0 : Int) < (ln : Int); omega), _, rfl, by rw [em]; exact m2, _, _, rfl, rfl, c6.1, ?_⟩
      have c7 := catS (x := S (hdT a n ++ (t.take i).flatMap (erT ln))) (y := Str.ofString "\n") (b := Vbceaj.W "\n") rfl rfl (by rw [List.length_append]; omega)
      have c8 := catS c7.2 c6.2 (by simp only [List.length_append]; omega)
      have c9 := catS (y := Str.ofString " for ") (b := Vbceaj.W " for ") c8.2 rfl (by simp only [List.length_append]; omega)
      have c10 := catS c9.2 (str_int x.old) (by simp only [List.length_append]; omega)
      have c11 := catS (y := Str.ofString " read ") (b := Vbceaj.W " read ") c10.2 rfl (by simp only [List.length_append]; omega)
      have c12 := catS c11.2 (str_int x.new) (by simp only [List.length_append]; omega)
      refine ⟨_, rfl, _, _, rfl, rfl, c7.1, _, rfl, _, _, rfl, rfl, c8.1, _, _, rfl, rfl, c9.1, _, rfl, _, rfl, o2, _, _, rfl, rfl, c10.1, _, _, rfl, rfl, c11.1, _, rfl, _, rfl, w2, _, _, rfl, rfl, c12.1, some (.int x.place), some (.int x.old), some (.int x.new), some (.str (Str.ofString "page " ++ Str.ofString (toString ((x.place : Int) / (ln : Int))) ++ Str.ofString " line " ++ Str.ofString (toString ((x.place : Int) % (ln : Int))))), x9, ?_, s2⟩
      show [_, _, _, _, some (V.str _), _, _, _, _, _] = _
      rw [c12.2, Em.take_next hx', List.flatMap_append]
      have ee : ((((((hdT a n ++ (t.take i).flatMap (erT ln)) ++ Vbceaj.W "\n") ++ (((Vbceaj.W "page " ++ VbceCore.natText (x.place / ln)) ++ Vbceaj.W " line ") ++ VbceCore.natText (x.place % ln))) ++ Vbceaj.W " for ") ++ VbceCore.intText x.old) ++ Vbceaj.W " read ") ++ VbceCore.intText x.new = hdT a n ++ ((t.take i).flatMap (erT ln) ++ [x].flatMap (erT ln)) := by
        show _ = hdT a n ++ ((t.take i).flatMap (erT ln) ++ (erT ln x ++ []))
        unfold erT whT
        simp only [List.append_assoc, List.append_nil]
      rw [ee]
    · rintro σ H2 ⟨x5, x6, x7, x8, x9, rfl, s2⟩
      rw [le, List.take_length, ← sheetText_eq]
      have lt := ers_len (ln := ln) (l := t) hx
      have ll : (Vbceaj.sheetText ln a n t).length ≤ 40000 := by rw [sheetText_eq, List.length_append]; omega
      generalize Vbceaj.sheetText ln a n t = tx at *
      refine ⟨_, rfl, _, rfl, fun D hD => ?_⟩
      refine lc_it (walk_str) (Grow H2 D (BI fun i => VbceCore.ints (tx.take i))) (Grow.start hD rfl) (fun _ _ _ _ => trivial) ?_ ?_
      · rintro i v H4 H5 hi ⟨acc, hacc, s5, bo, hle⟩ ⟨rfl, c, hc, rfl⟩
        have hc' : tx[i]? = some c := by simpa [S] using hc
        have il := (List.getElem?_eq_some_iff.mp hc').1
        refine ⟨rfl, tyes ?_⟩
        refine ⟨_, rfl, _, rfl, rfl, ?_⟩
        refine Grow.put hD hacc s5 hle (by omega) (Same.refl _) (bo.put (z := (c : Int)) ?_)
        rw [Em.take_next hc']
        unfold VbceCore.ints
        rw [List.map_append]; rfl
      · intro H4 g
        have z := BI.done g
        have lz : (S tx).cps.size = tx.length := by simp [S]
        rw [lz, List.take_length] at z
        exact k _ D (s2.trans g.same) (s2.free hD) z
end
end EX
namespace EX
open PySem PySem.Spec PyProof.Rows L2
open Vbceaj (Sheet Erratum State)
/-! ### the office in the heap -/
structure Adr where
  o : Addr
  b : Addr
  le : Addr
  lc : Addr
  eds : List (Addr × Addr)
  cps : List Addr
  x : List Addr
/-- what may be changed -/
def Adr.M (A : Adr) : List Addr := A.o :: A.b :: A.le :: A.lc :: (A.eds.map (·.1) ++ A.eds.map (·.2) ++ A.cps)
/-- what the caller has set aside, and what may be changed -/
def Adr.N (A : Adr) : List Addr := A.x ++ A.M
def Adr.k (A : Adr) : Addr × List Addr := (A.o, A.x)
theorem Adr.inN {A : Adr} {m : Addr} (h : m ∈ A.M) : m ∈ A.N := List.mem_append_right _ h
/-- the heap without it -/
def off (M : List Addr) (H : Hp) : Hp := fun b => if b ∈ M then none else H b
theorem off_ne {M : List Addr} {H : Hp} {b : Addr} (h : b ∉ M) : off M H b = H b := if_neg h
theorem off_some {M : List Addr} {H : Hp} {b : Addr} {u : HO} (h : off M H b = some u) : H b = some u ∧ b ∉ M := by
  unfold off at h
  split at h
  · cases h
  · rename_i q; exact ⟨h, q⟩
theorem off_up {M : List Addr} {H : Hp} : Same (off M H) H := fun _ _ h => (off_some h).1
theorem off_same {M : List Addr} {H H' : Hp} (s : Same H H') : Same (off M H) (off M H') := fun b u h => by
  obtain ⟨h1, h2⟩ := off_some h
  rw [off_ne h2]; exact s _ _ h1
def fOf (b : Addr) : List (Str × V) := [("book", V.ref b)]
def EdM (Z : Ad) (H F : Hp) (e : Addr × Addr) (x : Vbceaj.Edition) : Prop := ∃ (dx n : Addr) (ss : List (Addr × Sheet)), H e.1 = some (.ins Z.cEdition dx (fEd n e.2)) ∧ LI F n x.numbers ∧ ss.map (·.2) = x.sheets ∧ H e.2 = some (.lst (ss.map fun k => V.ref k.1)) ∧ ∀ k ∈ ss, RS F k.1 k.2
def CpM (Z : Ad) (H F : Hp) (c : Addr) (x : Vbceaj.Copy) : Prop := ∃ (dx n : Addr), H c = some (.ins Z.cCopy dx (fCp x.edition x.pen n)) ∧ LI F n x.now
theorem EdM.same {Z : Ad} {H F H' F' : Hp} {e : Addr × Addr} {x : Vbceaj.Edition} (h : EdM Z H F e x) (s : ∀ b u, H b = some u → (b = e.1 ∨ b = e.2) → H' b = some u) (f : Same F F') : EdM Z H' F' e x := by
  obtain ⟨dx, n, ss, h1, h2, h3, h4, h5⟩ := h
  exact ⟨dx, n, ss, s _ _ h1 (.inl rfl), h2.same f, h3, s _ _ h4 (.inr rfl), fun k hk => (h5 k hk).same f⟩
theorem CpM.same {Z : Ad} {H F H' F' : Hp} {c : Addr} {x : Vbceaj.Copy} (h : CpM Z H F c x) (s : ∀ u, H c = some u → H' c = some u) (f : Same F F') : CpM Z H' F' c x := by
  obtain ⟨dx, n, h1, h2⟩ := h
  exact ⟨dx, n, s _ h1, h2.same f⟩
structure StA (Z : Ad) (A : Adr) (H : Hp) (S : State) : Prop where
  nd : A.M.Nodup
  ob : ∃ dx, H A.o = some (.ins Z.cOffice dx (fOf A.b))
  bk : ∃ dx, H A.b = some (.ins Z.cBook dx (fBk S.pages S.lines A.le A.lc))
  le : H A.le = some (.lst (A.eds.map fun e => V.ref e.1))
  lc : H A.lc = some (.lst (A.cps.map V.ref))
  el : A.eds.length = S.editions.length
  ed : ∀ (i : Nat) e x, A.eds[i]? = some e → S.editions[i]? = some x → EdM Z H (off A.N H) e x
  cl : A.cps.length = S.copies.length
  cp : ∀ (i : Nat) c x, A.cps[i]? = some c → S.copies[i]? = some x → CpM Z H (off A.N H) c x
  gd : Good S
  ax : ∀ y ∈ A.x, y ∉ A.M ∧ ∃ vs, H y = some (.lst vs)
theorem StA.same {Z : Ad} {A : Adr} {H H' : Hp} {S : State} (h : StA Z A H S) (s : Same H H') : StA Z A H' S := by
  obtain ⟨d1, h1⟩ := h.ob
  obtain ⟨d2, h2⟩ := h.bk
  exact ⟨h.nd, ⟨d1, s _ _ h1⟩, ⟨d2, s _ _ h2⟩, s _ _ h.le, s _ _ h.lc, h.el, fun i e x he hx => (h.ed i e x he hx).same (fun b u q _ => s b u q) (off_same s), h.cl, fun i c x hc hx => (h.cp i c x hc hx).same (fun u q => s _ _ q) (off_same s), h.gd, fun y hy => ⟨(h.ax y hy).1, by obtain ⟨vs, q⟩ := (h.ax y hy).2; exact ⟨vs, s _ _ q⟩⟩⟩
/-- what is set aside stays, while fresh things take the place of the book -/
theorem StA.aside {Z : Ad} {A : Adr} {H H' : Hp} {S : State} (st : StA Z A H S) (s : Same H H') {u : HO} {L : List Addr} (hf : ∀ m ∈ L, H m = none) : ∀ y ∈ A.x, y ∉ A.o :: L ∧ ∃ vs, upd H' A.o u y = some (.lst vs) := fun y hy => by
  obtain ⟨h1, vs, h2⟩ := st.ax y hy
  have ne : y ≠ A.o := fun z => h1 (by rw [z]; exact List.mem_cons_self)
  refine ⟨fun z => ?_, vs, by rw [upd_ne ne]; exact s _ _ h2⟩
  rcases List.mem_cons.mp z with z | z
  · exact ne z
  · rw [hf y z] at h2; cases h2
theorem StA.xfresh {Z : Ad} {A : Adr} {H : Hp} {S : State} (st : StA Z A H S) {p : Addr} (h : H p = none) : p ∉ A.x := fun z => by
  obtain ⟨_, vs, h2⟩ := st.ax p z
  rw [h] at h2; cases h2
/-- a store at something owned that leaves what is set aside -/
theorem StA.axUpd {Z : Ad} {A : Adr} {H H' : Hp} {S : State} (st : StA Z A H S) {M' : List Addr} (hM : ∀ m ∈ M', m ∈ A.M ∨ H m = none) (s : ∀ b u, H b = some u → b ∉ A.M → H' b = some u) : ∀ y ∈ A.x, y ∉ M' ∧ ∃ vs, H' y = some (.lst vs) := fun y hy => by
  obtain ⟨h1, vs, h2⟩ := st.ax y hy
  refine ⟨fun z => ?_, vs, s _ _ h2 h1⟩
  rcases hM y z with q | q
  · exact h1 q
  · rw [q] at h2; cases h2
theorem EdM.edR {Z : Ad} {H F : Hp} {e : Addr × Addr} {x : Vbceaj.Edition} (h : EdM Z H F e x) (f : Same F H) : EdR Z H e.1 x := by
  obtain ⟨dx, n, ss, h1, h2, h3, h4, h5⟩ := h
  exact ⟨⟨dx, n, e.2, h1, h2.same f, ss, h3, h4, fun k hk => (h5 k hk).same f⟩⟩
theorem CpM.cpR {Z : Ad} {H F : Hp} {c : Addr} {x : Vbceaj.Copy} (h : CpM Z H F c x) (f : Same F H) : CpR Z H c x := by
  obtain ⟨dx, n, h1, h2⟩ := h
  exact ⟨⟨dx, n, h1, h2.same f⟩⟩
theorem zip_fst' {α β : Type} : ∀ {l : List α} {m : List β}, l.length = m.length → (l.zip m).map (·.1) = l
  | [], [], _ => rfl
  | a :: l, b :: m, h => by
    rw [List.zip_cons_cons, List.map_cons, zip_fst' (Nat.succ.inj h)]
theorem zip_snd' {α β : Type} : ∀ {l : List α} {m : List β}, l.length = m.length → (l.zip m).map (·.2) = m
  | [], [], _ => rfl
  | a :: l, b :: m, h => by
    rw [List.zip_cons_cons, List.map_cons, zip_snd' (Nat.succ.inj h)]
theorem StA.bkr {Z : Ad} {A : Adr} {H : Hp} {S : State} (h : StA Z A H S) : BkR Z H A.b S := by
  obtain ⟨d2, h2⟩ := h.bk
  refine ⟨⟨d2, A.le, A.lc, h2, ⟨(A.eds.map (·.1)).zip S.editions, zip_snd' (by rw [List.length_map]; exact h.el), ?_, fun k hk => ?_⟩, ⟨A.cps.zip S.copies, zip_snd' h.cl, ?_, fun k hk => ?_⟩⟩⟩
  · have : ((A.eds.map (·.1)).zip S.editions).map (fun k => V.ref k.1) = (A.eds.map (·.1)).map V.ref := by
      exact (List.map_map (f := Prod.fst) (g := V.ref) (l := (A.eds.map (·.1)).zip S.editions)).symm.trans (congrArg (List.map V.ref) (zip_fst' (by rw [List.length_map]; exact h.el)))
    rw [this, List.map_map]; exact h.le
  · obtain ⟨i, hi⟩ := List.mem_iff_getElem?.mp hk
    obtain ⟨q1, q2⟩ := List.getElem?_zip_eq_some.mp hi
    obtain ⟨e, he, e1⟩ := Em.getElem_map q1
    rw [e1]
    exact (h.ed i e k.2 he q2).edR off_up
  · have : (A.cps.zip S.copies).map (fun k => V.ref k.1) = A.cps.map V.ref := by
      exact (List.map_map (f := Prod.fst) (g := V.ref) (l := A.cps.zip S.copies)).symm.trans (congrArg (List.map V.ref) (zip_fst' h.cl))
    rw [this]; exact h.lc
  · obtain ⟨i, hi⟩ := List.mem_iff_getElem?.mp hk
    obtain ⟨q1, q2⟩ := List.getElem?_zip_eq_some.mp hi
    exact (h.cp i k.1 k.2 q1 q2).cpR off_up
/-- refused with a number; a fault at a place -/
def ErrN (Z : Ad) (E : XK) (H : Hp) (z : Int) : Prop := ∀ H' d, Same H H' → H d = none → H' d = some (.xd [("number", .int z)]) → E (.ref Z.cRefused) (some d) H'
def ErrF (Z : Ad) (E : XK) (H : Hp) (p : Nat) : Prop := ∀ H' d, Same H H' → H d = none → H' d = some (.xd [("place", .int p)]) → E (.ref Z.cFault) (some d) H'
def ErrS (Z : Ad) (E : XK) (H : Hp) (z : Int) : Prop := ErrN Z E H z ∧ ∀ p : Nat, z = -1000 - (p : Int) → ErrF Z E H p
theorem ErrN.mono {Z : Ad} {E : XK} {H H1 : Hp} {z : Int} (h : ErrN Z E H z) (s : Same H H1) : ErrN Z E H1 z := fun H' d s' hd he => h H' d (s.trans s') (s.free hd) he
theorem ErrF.mono {Z : Ad} {E : XK} {H H1 : Hp} {p : Nat} (h : ErrF Z E H p) (s : Same H H1) : ErrF Z E H1 p := fun H' d s' hd he => h H' d (s.trans s') (s.free hd) he
/-- what a call does -/
def Done (Z : Ad) (A : Adr) (H : Hp) (Q : VK) (E : XK) (r : Except Int (State × List Int)) : Prop := match r with
  | .ok (S', ans) => ∀ A' H' p, StA Z A' H' S' → A'.k = A.k → (∀ b u, H b = some u → b ∉ A.M → H' b = some u) → (∀ m ∈ A'.M, m ∈ A.M ∨ H m = none) → H p = none → LI H' p ans → Q (.ref p) H'
  | .error e => ErrS Z E H e
/-- nothing is changed -/
theorem Done.ro {Z : Ad} {A : Adr} {H : Hp} {Q : VK} {E : XK} {S : State} {ans : List Int} (h : Done Z A H Q E (.ok (S, ans))) (st : StA Z A H S) {H' : Hp} {p : Addr} (s : Same H H') (np : H p = none) (hp : LI H' p ans) : Q (.ref p) H' :=
  h A H' p (st.same s) rfl (fun b u e _ => s b u e) (fun m hm => .inl hm) np hp
theorem bt_iff {n lo hi : Int} : VbceCore.isBetween n lo hi = (decide (lo ≤ n) && decide (n ≤ hi)) := rfl
section
variable {P : Program} {w : World} {K : PySem.W.Frag} {mg : Str → Option Value} {base : Heap} {Z : Ad}
def spRef (Z : Ad) : Sp := fun vs H Q E => ∃ (c : Bool) (z : Int), vs = [.bl c, .int z] ∧ (c = false → Q .non H) ∧ (c = true → ErrN Z E H z)
theorem ok_refuse_if (T : Txt K mg Z) : OkF P w K mg base (L2.CX P w) 3 "refuse_if" ["is_so", "number"] (spRef Z) := by
  obtain ⟨f0, fd0, g0, F0⟩ := T.d_refuse_if
  obtain ⟨f_Refused_init, fd_Refused_init, X_Refused_init, I_Refused_init, Y_Refused_init, G_Refused_init, B_Refused_init⟩ := ok_Refused_init (P := P) (w := w) (base := base) T
  refine ⟨f0, fd0, g0, F0.kp, F0.okX sc_refuse_if (fun vs H Q E h => ?_) (fun cdv A outer s H vs Q E hr h => ?_), (F0.binds fun _ _ _ _ _ _ us hl => match us, hl with | [_, _], _ => rfl)⟩
  · obtain ⟨c, z, rfl, _⟩ := h
    rfl
  · obtain ⟨c, z, rfl, k1, k2⟩ := h
    refine ⟨_, (pss_one (ps_if (pt_val (pv 0)) (pss_one (ps_raise rfl (takes_of rfl rfl rfl rfl) (pmk_oex X_Refused_init I_Refused_init Y_Refused_init G_Refused_init (hr.mono (by decide)) B_Refused_init .nil pass0 rfl T.g_Refused (pa_cons (pv 1) pa_nil)))) pss_nil)), ?_⟩
    refine ⟨_, rfl, c, rfl, if_dec (fun q => ?_) fun q => k1 q⟩
    refine ⟨_, rfl, (by show 1 ≤ 1000; decide), ?_⟩
    exact exc_tail fun d H' s1 nd hd => k2 q H' d s1 nd hd
def spRange (Z : Ad) : Sp := fun vs H Q E => ∃ (n lo hi : Int), vs = [.int n, .int lo, .int hi] ∧ (VbceCore.isBetween n lo hi = true → Q .non H) ∧ (VbceCore.isBetween n lo hi = false → ErrN Z E H (-3))
theorem chainV {g1 g2 : Int → Int → Bool} {ta tb tc : TE} {σ : L2.St} {H : Hp} {Q : VK} {a b c : Int} (ha : ∀ Q : VK, Q (.int a) H → ta σ H Q) (hb : ∀ Q : VK, Q (.int b) H → tb σ H Q) (hc : ∀ Q : VK, Q (.int c) H → tc σ H Q) (q : Q (.bl (g1 a b && g2 b c)) H) :
    tChain (rI0 fun i j => .bl (g1 i j)) (rI0 fun i j => .bl (g2 i j)) ta tb tc σ H Q := by
  refine ha _ (hb _ ⟨_, _, rfl, rfl, _, rfl, if_dec (fun h1 => hc _ ⟨_, _, rfl, rfl, ?_⟩) (fun h1 => ?_)⟩)
  · rw [h1, Bool.true_and] at q; exact q
  · rw [h1, Bool.false_and] at q; exact q
theorem ok_in_range (T : Txt K mg Z) : OkF P w K mg base (L2.CX P w) 4 "in_range" ["number", "least", "most"] (spRange Z) := by
  obtain ⟨f0, fd0, g0, F0⟩ := T.d_in_range
  obtain ⟨f_refuse_if, fd_refuse_if, g_refuse_if, k_refuse_if, G_refuse_if, B_refuse_if⟩ := ok_refuse_if (P := P) (w := w) (base := base) T
  refine ⟨f0, fd0, g0, F0.kp, F0.okX sc_in_range (fun vs H Q E h => ?_) (fun cdv A outer s H vs Q E hr h => ?_), (F0.binds fun _ _ _ _ _ _ us hl => match us, hl with | [_, _, _], _ => rfl)⟩
  · obtain ⟨n, lo, hi, rfl, _⟩ := h
    rfl
  · obtain ⟨n, lo, hi, rfl, k1, k2⟩ := h
    refine ⟨_, (pss_one (ps_expr (pe_call G_refuse_if (hr.mono (by decide)) rfl g_refuse_if k_refuse_if B_refuse_if .nil (passes_call (takes_of rfl rfl rfl rfl) fun _ _ _ _ h => h) (pa_cons (pe_not (pe_chain op_le op_le (pv 1) (pv 0) (pv 2))) (pa_cons (pe_gint rfl T.g_BAD_NUMBER) pa_nil))))), ?_⟩
    refine chainV (g1 := fun i j => decide (i ≤ j)) (g2 := fun i j => decide (i ≤ j)) (vq rfl) (vq rfl) (vq rfl) ?_
    refine ⟨_, rfl, _, _, rfl, fun q => k1 ?_, fun q => k2 ?_⟩
    · rw [bt_iff]; revert q; cases (decide (lo ≤ n) && decide (n ≤ hi)) <;> simp
    · rw [bt_iff]; revert q; cases (decide (lo ≤ n) && decide (n ≤ hi)) <;> simp
def spBytes (Z : Ad) : Sp := fun vs H Q E => ∃ (a : Addr) (l : List Int), vs = [.ref a] ∧ LI H a l ∧ l.length ≤ 2000 ∧ ((l.all fun c => VbceCore.isBetween c 0 255) = true → ∀ H', Same H H' → Q .non H') ∧ ((l.all fun c => VbceCore.isBetween c 0 255) = false → ErrN Z E H (-1))
theorem ok_look_at_bytes (T : Txt K mg Z) : OkF P w K mg base (L2.CX P w) 4 "look_at_bytes" ["data"] (spBytes Z) := by
  obtain ⟨f0, fd0, g0, F0⟩ := T.d_look_at_bytes
  obtain ⟨f_refuse_if, fd_refuse_if, g_refuse_if, k_refuse_if, G_refuse_if, B_refuse_if⟩ := ok_refuse_if (P := P) (w := w) (base := base) T
  refine ⟨f0, fd0, g0, F0.kp, F0.okX sc_look_at_bytes (fun vs H Q E h => ?_) (fun cdv A outer s H vs Q E hr h => ?_), (F0.binds fun _ _ _ _ _ _ us hl => match us, hl with | [_], _ => rfl)⟩
  · obtain ⟨a, l, rfl, _⟩ := h
    rfl
  · obtain ⟨a, l, rfl, ha, hl, k1, k2⟩ := h
    refine ⟨_, (pss_one (ps_expr (pe_call G_refuse_if (hr.mono (by decide)) rfl g_refuse_if k_refuse_if B_refuse_if .nil (passes_call (takes_of rfl rfl rfl rfl) fun _ _ _ _ h => h) (pa_cons (pe_not (pe_callB (cr_all rfl) (by rfl) T.b_all (by decide +kernel) (pa_cons (pe_lc (own := [("byte", 1)]) (g := gName 1) (tt := tYes) rfl sc_look_at_bytes.nd (pi_list (pv 0)) (blkOk_by (N := ["data", "byte"]) (sc := defScope s_look_at_bytes) (by decide +kernel)) (fun _ _ _ _ _ => (pg_name (i := 1) sc_look_at_bytes.nd rfl (.inl rfl))) (fun _ _ _ _ _ => pts_nil) (fun _ _ _ _ _ => (pe_chain op_le op_le pe_int (pv 1) pe_int))) pa_nil))) (pa_cons (pe_gint rfl T.g_NO_BYTE) pa_nil))))), ?_⟩
    refine ⟨_, rfl, a, rfl, ⟨_, SqL.of ha⟩, fun D hD => ?_⟩
    refine lc_it (walk_list (xs := l.map V.int)) (Grow H D (BB fun i => (l.take i).map fun c => VbceCore.isBetween c 0 255)) (Grow.start hD rfl) (fun i H2 _ g => SqL.of (g.same _ _ ha)) ?_ ?_
    · rintro i v H2 H3 hi ⟨acc, hacc, s3, bo, hle⟩ ⟨rfl, e2⟩
      obtain ⟨z, hz, rfl⟩ := Em.getElem_map e2
      have il := (List.getElem?_eq_some_iff.mp hz).1
      refine ⟨rfl, tyes ?_⟩
      refine chainV (g1 := fun i j => decide (i ≤ j)) (g2 := fun i j => decide (i ≤ j)) (a := 0) (b := z) (c := 255) (fun Q q => q) (vq rfl) (fun Q q => q) ?_
      refine Grow.put hD hacc s3 hle (by omega) (Same.refl _) (bo.put ?_)
      rw [Em.take_next hz, List.map_append]; rfl
    · intro H2 g
      have z := BB.done g
      rw [List.length_map, List.take_length] at z
      refine ⟨D, _, rfl, SqL.of z, ?_⟩
      have e : (l.map fun c => VbceCore.isBetween c 0 255).all id = l.all fun c => VbceCore.isBetween c 0 255 := by rw [List.all_map]; rfl
      rw [e]
      refine ⟨_, rfl, _, _, rfl, fun q => k1 ?_ H2 g.same, fun q => (k2 ?_).mono g.same⟩
      · revert q; cases (l.all fun c => VbceCore.isBetween c 0 255) <;> simp
      · revert q; cases (l.all fun c => VbceCore.isBetween c 0 255) <;> simp
def spFlat : Sp := fun vs H Q _ => ∃ (a : Addr) (L : List (List Int)), vs = [.ref a] ∧ RL H a L ∧ (∀ r ∈ L, r.length ≤ 3) ∧ L.length ≤ 30000 ∧ ∀ H' p, Same H H' → H p = none → LI H' p L.flatten → Q (.ref p) H'
theorem flat_len : ∀ {L : List (List Int)}, (∀ r ∈ L, r.length ≤ 3) → L.flatten.length ≤ 3 * L.length
  | [], _ => Nat.le_refl _
  | r :: L, h => by
    have ih := flat_len (L := L) fun y hy => h y (List.mem_cons_of_mem _ hy)
    have := h r List.mem_cons_self
    rw [List.flatten_cons, List.length_append, List.length_cons]
    omega
theorem ok_flat (T : Txt K mg Z) : OkF P w K mg base CX0 1 "flat" ["rows"] (spFlat) := by
  obtain ⟨f0, fd0, g0, F0⟩ := T.d_flat
  refine ⟨f0, fd0, g0, F0.kp, F0.ok sc_flat (fun vs H Q E h => ?_) (fun cdv A outer s H vs Q E hr h => ?_), (F0.binds fun _ _ _ _ _ _ us hl => match us, hl with | [_], _ => rfl)⟩
  · obtain ⟨a, L, rfl, _⟩ := h
    rfl
  · obtain ⟨a, L, rfl, ⟨ks, e, ha, hk⟩, h3, hl, k⟩ := h
    refine ⟨_, (pss_cons (ps_set (i := 1) sc_flat.nd rfl (Or.inl rfl) (pe_lst pa_nil))
  (pss_cons (ps_for PassesOwn.never rfl (pi_list (pv 0)) (pg_name (i := 2) sc_flat.nd rfl (.inl rfl))
  (pss_one (ps_expr (pe_bm PySem.F.plainAttrs_list PySem.F.slot_list_extend PySem.F.type_list_extend mt_extend (pv 1) (pa_cons (pv 2) pa_nil)))))
  (pss_one (ps_ret (pv 1))))), ?_⟩
    refine ⟨(by show 0 ≤ sizeLine; decide), fun p np => ?_⟩
    have le := LR.len e
    refine ⟨_, rfl, a, rfl, ⟨_, SqL.of (same_new np _ _ ha)⟩, for_list (K := K) (a := a) (xs := ks.map fun k => V.ref k.1) (fun i σ H2 => ∃ x : Option V, σ = [some (.ref a), some (.ref p), x] ∧ Same H H2 ∧ LI H2 p (L.take i).flatten)
      ⟨none, rfl, same_new np, upd_same⟩ (fun i σ H2 _ ⟨_, _, s2, _⟩ => SqL.of (s2 _ _ ha)) ?_ ?_⟩
    · rintro i y σ H2 hi ⟨x1, rfl, s2, h2⟩
      obtain ⟨kk, hi, rfl, hx, hm⟩ := LR.get e hi
      have ht : H2 kk.1 = some (.lst (kk.2.map V.int)) := s2 _ _ (hk _ hm)
      have lf := flat_len (L := L.take i) fun r hr => h3 r (List.mem_of_mem_take hr)
      rw [List.length_take] at lf
      have l3 := h3 kk.2 (List.mem_of_getElem? hx)
      refine ⟨_, rfl, .inl ⟨rfl, _, Or.inl (Or.inl h2)⟩, _, rfl, p, kk.1, _, _, rfl, rfl, h2, ht, ?_, _, rfl, same_at s2 np, ?_⟩
      · refine Nat.le_of_lt (few ?_)
        rw [List.length_map, List.length_map]; omega
      · show upd H2 p _ p = _
        rw [upd_same, Em.take_next hx, List.flatten_append, ← List.map_append]
        simp
    · rintro σ H2 ⟨x1, rfl, s2, h2⟩
      refine ⟨_, rfl, k _ p s2 np ?_⟩
      rw [le, List.take_length] at h2
      exact h2
end
end EX
namespace EX
open PySem PySem.Spec PyProof.Rows L2
open Vbceaj (Sheet Erratum State)
theorem good_start : Good Vbceaj.start := ⟨by decide, by decide, fun _ => ⟨rfl, rfl⟩, fun h => absurd rfl h, fun x hx => (nomatch hx), fun x hx => (nomatch hx), by decide, by decide, fun x hx => (nomatch hx)⟩
theorem sta0 {Z : Ad} {H : Hp} {o b le lc d1 d2 : Addr} {xs : List Addr} (h1 : H o = some (.ins Z.cOffice d1 (fOf b))) (h2 : H b = some (.ins Z.cBook d2 (fBk 0 0 le lc))) (h3 : H le = some (.lst [])) (h4 : H lc = some (.lst [])) (ne : le ≠ lc) (ob : o ≠ b) (hx : ∀ y ∈ xs, y ∉ [o, b, le, lc] ∧ ∃ vs, H y = some (.lst vs)) :
    StA Z ⟨o, b, le, lc, [], [], xs⟩ H Vbceaj.start := by
  refine ⟨?_, ⟨d1, h1⟩, ⟨d2, h2⟩, h3, h4, rfl, fun i e x he _ => (by simp at he), rfl, fun i c x hc _ => (by simp at hc), good_start, hx⟩
  show [o, b, le, lc].Nodup
  have a1 : o ≠ le := ne_of h1 h3 (by intro z; cases z)
  have a2 : o ≠ lc := ne_of h1 h4 (by intro z; cases z)
  have a3 : b ≠ le := ne_of h2 h3 (by intro z; cases z)
  have a4 : b ≠ lc := ne_of h2 h4 (by intro z; cases z)
  simp [ob, a1, a2, a3, a4, ne]
theorem StA.o_mem {A : Adr} : A.o ∈ A.M := List.mem_cons_self
theorem StA.b_mem {A : Adr} : A.b ∈ A.M := List.mem_cons_of_mem _ List.mem_cons_self
def newS (p l : Nat) (x : List Int) : State := { pages := p, lines := l, editions := [{ numbers := x, sheets := [] }], copies := [] }
theorem good_new {p l : Nat} {x : List Int} (hp : 0 < p ∧ p ≤ 6) (hl : 0 < l ∧ l ≤ 10) (hx : x.length = p * l) : Good (newS p l x) := by
  refine ⟨hp.2, hl.2, fun h => (nomatch h), fun _ => ⟨hp.1, hl.1⟩, fun e he => ?_, fun e he t ht => ?_, by show 1 ≤ 8; decide, by show 0 ≤ 10; decide, fun c hc => (nomatch hc)⟩
  · have : e = { numbers := x, sheets := [] } := by simpa [newS] using he
    subst this
    exact ⟨hx, fun t ht => (nomatch ht), by show 0 ≤ 8; decide⟩
  · have : e = { numbers := x, sheets := [] } := by simpa [newS] using he
    subst this
    cases ht
theorem sta1 {Z : Ad} {H : Hp} {o b le lc d1 d2 e ss n de : Addr} {xs : List Addr} {p l : Nat} {x : List Int} (g : Good (newS p l x)) (h1 : H o = some (.ins Z.cOffice d1 (fOf b))) (h2 : H b = some (.ins Z.cBook d2 (fBk p l le lc))) (h3 : H le = some (.lst [.ref e])) (h4 : H lc = some (.lst []))
    (h5 : H e = some (.ins Z.cEdition de (fEd n ss))) (h6 : H ss = some (.lst [])) (h7 : LI H n x) (ob : o ≠ b) (oe : o ≠ e) (be : b ≠ e) (n1 : le ≠ lc) (n2 : ss ≠ le) (n3 : ss ≠ lc) (m1 : n ≠ le) (m2 : n ≠ lc) (m3 : n ≠ ss) (hx : ∀ y ∈ xs, y ∉ [o, b, le, lc, e, ss] ∧ ∃ vs, H y = some (.lst vs)) (hxn : n ∉ xs) :
    StA Z ⟨o, b, le, lc, [(e, ss)], [], xs⟩ H (newS p l x) := by
  have nM : n ∉ (⟨o, b, le, lc, [(e, ss)], [], xs⟩ : Adr).N := by
    refine fun z => (List.mem_append.mp z).elim hxn ?_
    show n ∉ [o, b, le, lc, e, ss]
    have a1 : n ≠ o := ne_of h7 h1 (by intro z; cases z)
    have a2 : n ≠ b := ne_of h7 h2 (by intro z; cases z)
    have a3 : n ≠ e := ne_of h7 h5 (by intro z; cases z)
    simp [a1, a2, a3, m1, m2, m3]
  refine ⟨?_, ⟨d1, h1⟩, ⟨d2, h2⟩, h3, h4, rfl, fun i e' x' he hx => ?_, rfl, fun i c x' hc _ => (by simp at hc), g, hx⟩
  · show [o, b, le, lc, e, ss].Nodup
    have a1 : o ≠ le := ne_of h1 h3 (by intro z; cases z)
    have a2 : o ≠ lc := ne_of h1 h4 (by intro z; cases z)
    have a3 : b ≠ le := ne_of h2 h3 (by intro z; cases z)
    have a4 : b ≠ lc := ne_of h2 h4 (by intro z; cases z)
    have a5 : o ≠ ss := ne_of h1 h6 (by intro z; cases z)
    have a6 : b ≠ ss := ne_of h2 h6 (by intro z; cases z)
    have a7 : le ≠ e := ne_of h3 h5 (by intro z; cases z)
    have a8 : lc ≠ e := ne_of h4 h5 (by intro z; cases z)
    have a9 : e ≠ ss := ne_of h5 h6 (by intro z; cases z)
    simp [ob, a1, a2, a3, a4, a5, a6, a7, a8, a9, oe, be, n1, n2.symm, n3.symm]
  · cases i with
    | succ i => simp at he
    | zero =>
      have e1 : (e, ss) = e' := by simpa using he
      have e2 : ({ numbers := x, sheets := [] } : Vbceaj.Edition) = x' := by simpa [newS] using hx
      subst e1; subst e2
      refine ⟨de, n, [], h5, ?_, rfl, h6, fun k hk => nomatch hk⟩
      show off _ H n = _
      rw [off_ne nM]; exact h7
section
variable {P : Program} {w : World} {K : PySem.W.Frag} {mg : Str → Option Value} {base : Heap} {Z : Ad}
def spNoBook (Z : Ad) : Sp := fun vs H Q _ => vs = [] ∧ ∀ H' b dx le lc, Same H H' → H b = none → H le = none → H lc = none → le ≠ lc → H' b = some (.ins Z.cBook dx (fBk 0 0 le lc)) → H' le = some (.lst []) → H' lc = some (.lst []) → Q (.ref b) H'
theorem ok_no_book (T : Txt K mg Z) : OkF P w K mg base CX0 5 "no_book" [] (spNoBook Z) := by
  obtain ⟨f0, fd0, g0, F0⟩ := T.d_no_book
  obtain ⟨f_Book_init, fd_Book_init, M_Book_init, G_Book_init, B_Book_init⟩ := ok_Book_init (P := P) (w := w) (base := base) T
  refine ⟨f0, fd0, g0, F0.kp, F0.ok sc_no_book (fun vs H Q E h => ?_) (fun cdv A outer s H vs Q E hr h => ?_), (F0.binds fun _ _ _ _ _ _ us hl => match us, hl with | [], _ => rfl)⟩
  · obtain ⟨rfl, _⟩ := h
    rfl
  · obtain ⟨rfl, k⟩ := h
    refine ⟨_, (pss_one (ps_ret (pe_make M_Book_init G_Book_init (hr.mono (by decide)) rfl T.g_Book B_Book_init .nil pass0 (pa_cons pe_int (pa_cons pe_int (pa_cons (pe_lst pa_nil) pa_nil)))))), ?_⟩
    refine ⟨(by show 0 ≤ sizeLine; decide), fun l nl x dx hx hdx hne => ?_⟩
    have s0 := same_new (o := .lst []) nl
    have xl : x ≠ l := fun z => by rw [z, upd_same] at hx; cases hx
    have dl : dx ≠ l := fun z => by rw [z, upd_same] at hdx; cases hdx
    have ll : LI (upd (upd (upd H l (.lst [])) dx (.own x)) x (.ins Z.cBook dx [])) l [] := by
      show upd _ _ _ _ = _
      rw [upd_ne xl.symm, upd_ne dl.symm, upd_same]; rfl
    have s2 : Same H (upd (upd (upd H l (.lst [])) dx (.own x)) x (.ins Z.cBook dx [])) := fun b u e => by
      have e1 := s0 _ _ e
      rw [upd_ne (ne_of_none e1 hx), upd_ne (ne_of_none e1 hdx)]; exact e1
    refine ⟨x, dx, l, 0, 0, [], rfl, upd_same, ll, fun H' hB => ⟨rfl, ?_⟩⟩
    obtain ⟨le, lc, a1, a2, a3, a4, a5, a6, a7⟩ := hB
    rcases a7 with ⟨_, a7⟩ | ⟨z, _⟩
    · refine k H' x dx le lc (fun b u e => a6 _ _ (s2 _ _ e) (fun z => ?_)) (s0.free hx) (s2.free a1) (s2.free a2) a3 a4 a7 a5
      have := s0 _ _ e
      rw [z, hx] at this; cases this
    · exact absurd z (by decide)
def spOfI (Z : Ad) : Sp := fun vs H Q _ => ∃ (o dx : Addr), vs = [.ref o] ∧ H o = some (.ins Z.cOffice dx []) ∧ ∀ H' A, StA Z A H' Vbceaj.start → A.o = o → A.x = [] → But o H H' → (∀ m ∈ A.M, m = o ∨ H m = none) → Q .non H'
theorem ok_Office_init (T : Txt K mg Z) : OkI P w K mg base CX0 6 Z.cOffice ["self"] (spOfI Z) := by
  obtain ⟨f0, fd0, M0, F0⟩ := T.d_Office_init
  obtain ⟨f_no_book, fd_no_book, g_no_book, k_no_book, G_no_book, B_no_book⟩ := ok_no_book (P := P) (w := w) (base := base) T
  refine ⟨f0, fd0, M0, F0.ok sc_Office_init (fun vs H Q E h => ?_) (fun cdv A outer s H vs Q E hr h => ?_), (F0.binds fun _ _ _ _ _ _ us hl => match us, hl with | [_], _ => rfl)⟩
  · obtain ⟨o, dx, rfl, _⟩ := h
    rfl
  · obtain ⟨o, dx, rfl, ho, k⟩ := h
    refine ⟨_, (pss_one (ps_fld (pv 0) (pe_call0 G_no_book (hr.mono (by decide)) rfl g_no_book k_no_book B_no_book .nil pass0) rfl)), ?_⟩
    refine ⟨rfl, fun H' b db le lc s nb nle nlc ne hb hle hlc => ?_⟩
    refine ⟨_, rfl, o, _, dx, _, rfl, s _ _ ho, T.cl_Office, T.n_Office_book, (by show 0 < 1000; decide), ?_⟩
    have ob : o ≠ b := ne_of_none ho nb
    have ole : o ≠ le := ne_of_none ho nle
    have olc : o ≠ lc := ne_of_none ho nlc
    refine k _ ⟨o, b, le, lc, [], [], []⟩ (sta0 (d1 := dx) (d2 := db) upd_same (by rw [upd_ne ob.symm]; exact hb) (by rw [upd_ne ole.symm]; exact hle) (by rw [upd_ne olc.symm]; exact hlc) ne ob (fun y hy => nomatch hy)) rfl rfl (fun c u e h => ?_) fun m hm => ?_
    · rw [upd_ne h]; exact s _ _ e
    · have hm' : m ∈ [o, b, le, lc] := hm
      simp only [List.mem_cons, List.not_mem_nil, or_false] at hm'
      rcases hm' with e | e | e | e
      · exact .inl e
      · exact .inr (by rw [e]; exact nb)
      · exact .inr (by rw [e]; exact nle)
      · exact .inr (by rw [e]; exact nlc)
/-- a call without arguments -/
def spM0 (Z : Ad) (c : Vbceaj.Call) : Sp := fun vs H Q E => ∃ (A : Adr) (S : State), vs = [.ref A.o] ∧ StA Z A H S ∧ Done Z A H Q E (Vbceaj.run S c)
theorem ok_Office_clear (T : Txt K mg Z) : OkM P w K mg base CX0 6 Z.cOffice "clear" ["self"] (spM0 Z .clear) := by
  obtain ⟨f0, fd0, M0, F0⟩ := T.d_Office_clear
  obtain ⟨f_no_book, fd_no_book, g_no_book, k_no_book, G_no_book, B_no_book⟩ := ok_no_book (P := P) (w := w) (base := base) T
  refine ⟨f0, fd0, M0, F0.ok sc_Office_clear (fun vs H Q E h => ?_) (fun cdv A outer s H vs Q E hr h => ?_), (F0.binds fun _ _ _ _ _ _ us hl => match us, hl with | [_], _ => rfl)⟩
  · obtain ⟨A, S, rfl, _⟩ := h
    rfl
  · obtain ⟨A, S, rfl, st, k⟩ := h
    refine ⟨_, (pss_cons (ps_fld (pv 0) (pe_call0 G_no_book (hr.mono (by decide)) rfl g_no_book k_no_book B_no_book .nil pass0) rfl)
  (pss_one (ps_ret (pe_lst (pa_cons pe_int pa_nil))))), ?_⟩
    obtain ⟨dx, ho⟩ := st.ob
    refine ⟨rfl, fun H' b db le lc s nb nle nlc ne hb hle hlc => ?_⟩
    refine ⟨_, rfl, A.o, _, dx, _, rfl, s _ _ ho, T.cl_Office, T.n_Office_book, (by show 1 < 1000; decide), ?_⟩
    have ob : A.o ≠ b := ne_of_none ho nb
    have ole : A.o ≠ le := ne_of_none ho nle
    have olc : A.o ≠ lc := ne_of_none ho nlc
    refine ⟨(by show 1 ≤ sizeLine; decide), fun p np => ?_⟩
    have st' := (sta0 (Z := Z) (H := upd H' A.o (.ins Z.cOffice dx (fOf b))) (d1 := dx) (d2 := db) upd_same (by rw [upd_ne ob.symm]; exact hb) (by rw [upd_ne ole.symm]; exact hle) (by rw [upd_ne olc.symm]; exact hlc) ne ob (xs := A.x) (st.aside s (by simp [nb, nle, nlc])))
    have opn : p ≠ A.o := fun z => by rw [z, upd_same] at np; cases np
    have np' : H p = none := s.free (by rw [upd_ne opn] at np; exact np)
    refine k ⟨A.o, b, le, lc, [], [], A.x⟩ _ p (st'.same (same_new np)) rfl (fun c u e h => ?_) (fun m hm => ?_) np' upd_same
    · have cn : c ≠ A.o := fun z => h (by rw [z]; exact StA.o_mem)
      rw [upd_ne (ne_of_none e np'), upd_ne cn]; exact s _ _ e
    · have hm' : m ∈ [A.o, b, le, lc] := hm
      simp only [List.mem_cons, List.not_mem_nil, or_false] at hm'
      rcases hm' with e | e | e | e
      · exact .inl (by rw [e]; exact StA.o_mem)
      · exact .inr (by rw [e]; exact nb)
      · exact .inr (by rw [e]; exact nle)
      · exact .inr (by rw [e]; exact nlc)
def spLookB (Z : Ad) : Sp := fun vs H Q E => ∃ (A : Adr) (S : State), vs = [.ref A.o] ∧ StA Z A H S ∧ (S.editions.isEmpty = false → Q .non H) ∧ (S.editions.isEmpty = true → ErrN Z E H (-5))
theorem ok_Office_look_at_book (T : Txt K mg Z) : OkM P w K mg base (L2.CX P w) 4 Z.cOffice "look_at_book" ["self"] (spLookB Z) := by
  obtain ⟨f0, fd0, M0, F0⟩ := T.d_Office_look_at_book
  obtain ⟨f_refuse_if, fd_refuse_if, g_refuse_if, k_refuse_if, G_refuse_if, B_refuse_if⟩ := ok_refuse_if (P := P) (w := w) (base := base) T
  obtain ⟨f_Book_is_there, fd_Book_is_there, M_Book_is_there, G_Book_is_there, B_Book_is_there⟩ := ok_Book_is_there (P := P) (w := w) (base := base) T
  refine ⟨f0, fd0, M0, F0.okX sc_Office_look_at_book (fun vs H Q E h => ?_) (fun cdv A outer s H vs Q E hr h => ?_), (F0.binds fun _ _ _ _ _ _ us hl => match us, hl with | [_], _ => rfl)⟩
  · obtain ⟨A, S, rfl, _⟩ := h
    rfl
  · obtain ⟨A, S, rfl, st, k1, k2⟩ := h
    refine ⟨_, (pss_one (ps_expr (pe_call G_refuse_if (hr.mono (by decide)) rfl g_refuse_if k_refuse_if B_refuse_if .nil (passes_call (takes_of rfl rfl rfl rfl) fun _ _ _ _ h => h) (pa_cons (pe_not (pe_meth0 (pe_fld (pv 0) rfl) T.cl_Book M_Book_is_there G_Book_is_there (hr.mono (by decide)) B_Book_is_there .nil pass0)) (pa_cons (pe_gint rfl T.g_NOT_THERE) pa_nil))))), ?_⟩
    obtain ⟨dx, ho⟩ := st.ob
    obtain ⟨db, hb⟩ := st.bk
    refine ⟨_, rfl, A.o, _, dx, _, _, rfl, ho, T.cl_Office, T.n_Office_book, rfl, A.b, db, _, rfl, hb, rfl, A.b, S, rfl, st.bkr, st.gd, ?_⟩
    refine ⟨_, rfl, _, _, rfl, fun q => k1 ?_, fun q => k2 ?_⟩
    · revert q; cases S.editions.isEmpty <;> simp
    · revert q; cases S.editions.isEmpty <;> simp
def spLookN (Z : Ad) : Sp := fun vs H Q E => ∃ (A : Adr) (S : State) (r : Addr) (l : List Int), vs = [.ref A.o, .ref r] ∧ StA Z A H S ∧ LI H r l ∧ l.length ≤ 2000 ∧ (Vbceaj.isNumbers (Vbceaj.size S) l = true → ∀ H', Same H H' → Q .non H') ∧ (Vbceaj.isNumbers (Vbceaj.size S) l = false → ErrN Z E H (-4))
theorem num_all (l : List Int) : (l.map Em.num).all id = l.all fun z => VbceCore.isBetween z (-Vbceaj.BIG) Vbceaj.BIG := by rw [List.all_map]; rfl
theorem ok_Office_look_at_numbers (T : Txt K mg Z) : OkM P w K mg base (L2.CX P w) 4 Z.cOffice "look_at_numbers" ["self", "row"] (spLookN Z) := by
  obtain ⟨f0, fd0, M0, F0⟩ := T.d_Office_look_at_numbers
  obtain ⟨f_refuse_if, fd_refuse_if, g_refuse_if, k_refuse_if, G_refuse_if, B_refuse_if⟩ := ok_refuse_if (P := P) (w := w) (base := base) T
  obtain ⟨f_is_number, fd_is_number, g_is_number, k_is_number, G_is_number, B_is_number⟩ := ok_is_number (P := P) (w := w) (base := base) T
  obtain ⟨f_Book_places, fd_Book_places, M_Book_places, G_Book_places, B_Book_places⟩ := ok_Book_places (P := P) (w := w) (base := base) T
  refine ⟨f0, fd0, M0, F0.okX sc_Office_look_at_numbers (fun vs H Q E h => ?_) (fun cdv A outer s H vs Q E hr h => ?_), (F0.binds fun _ _ _ _ _ _ us hl => match us, hl with | [_, _], _ => rfl)⟩
  · obtain ⟨A, S, r, l, rfl, _⟩ := h
    rfl
  · obtain ⟨A, S, r, l, rfl, st, hr1, hl, k1, k2⟩ := h
    refine ⟨_, (pss_one (ps_expr (pe_call G_refuse_if (hr.mono (by decide)) rfl g_refuse_if k_refuse_if B_refuse_if .nil (passes_call (takes_of rfl rfl rfl rfl) fun _ _ _ _ h => h) (pa_cons (pe_or (pe_cmpR op_ne (pe_callB call_len_seq (by rfl) T.b_len (by decide +kernel) (pa_cons (pv 1) pa_nil)) (pe_meth0 (pe_fld (pv 0) rfl) T.cl_Book M_Book_places G_Book_places (hr.mono (by decide)) B_Book_places .nil pass0) (nomark _)) (pe_one (pe_not (pe_callB (cr_all rfl) (by rfl) T.b_all (by decide +kernel) (pa_cons (pe_lc (own := [("number", 2)]) (g := gName 2) (tt := tYes) rfl sc_Office_look_at_numbers.nd (pi_list (pv 1)) (blkOk_by (N := ["self", "row", "number"]) (sc := defScope s_Office_look_at_numbers) (by decide +kernel)) (fun _ _ _ _ _ => (pg_name (i := 2) sc_Office_look_at_numbers.nd rfl (.inl rfl))) (fun _ _ _ _ _ => pts_nil) (fun _ _ _ _ _ => (pe_call G_is_number (hr.mono (by decide)) rfl g_is_number k_is_number B_is_number .nil pass0 (pa_cons (pv 2) pa_nil)))) pa_nil))))) (pa_cons (pe_gint rfl T.g_NOT_AS_TOLD) pa_nil))))), ?_⟩
    obtain ⟨dx, ho⟩ := st.ob
    obtain ⟨db, hb⟩ := st.bk
    have ei : Vbceaj.isNumbers (Vbceaj.size S) l = (decide (l.length = Vbceaj.size S) && (l.map Em.num).all id) := by
      rw [num_all]; unfold Vbceaj.isNumbers; congr 1
    refine ⟨_, rfl, r, _, rfl, .inl (SqL.of hr1), _, rfl, A.o, _, dx, _, _, rfl, ho, T.cl_Office, T.n_Office_book, rfl, A.b, db, _, rfl, hb, rfl, A.b, S, rfl, st.bkr, st.gd, rfl, _, rfl, ?_⟩
    rw [dV, List.length_map]
    have ed : decide ((l.length : Int) = ((Vbceaj.size S : Nat) : Int)) = decide (l.length = Vbceaj.size S) := by
      rw [Bool.eq_iff_iff, decide_eq_true_eq, decide_eq_true_eq]; omega
    rw [ed]
    refine if_dec (fun c => ?_) fun c => ?_
    · have c' : decide (l.length = Vbceaj.size S) = false := by revert c; cases decide (l.length = Vbceaj.size S) <;> simp
      exact ⟨_, _, rfl, fun q => Bool.noConfusion q, fun _ => k2 (by rw [ei, c', Bool.false_and])⟩
    have c' : decide (l.length = Vbceaj.size S) = true := by revert c; cases decide (l.length = Vbceaj.size S) <;> simp
    rw [c', Bool.true_and] at ei
    refine ⟨_, rfl, r, rfl, ⟨_, SqL.of hr1⟩, fun D hD => ?_⟩
    refine lc_it (walk_list (xs := l.map V.int)) (Grow H D (BB fun i => (l.take i).map Em.num)) (Grow.start hD rfl) (fun i H2 _ g => SqL.of (g.same _ _ hr1)) ?_ ?_
    · rintro i v H2 H3 hi ⟨acc, hacc, s3, bo, hle⟩ ⟨rfl, e2⟩
      obtain ⟨z, hz, rfl⟩ := Em.getElem_map e2
      have il := (List.getElem?_eq_some_iff.mp hz).1
      refine ⟨rfl, tyes ?_⟩
      refine ⟨_, rfl, z, rfl, ?_⟩
      refine Grow.put hD hacc s3 hle (by omega) (Same.refl _) (bo.put ?_)
      rw [Em.take_next hz, List.map_append]; rfl
    · intro H2 g
      have z := BB.done g
      rw [List.length_map, List.take_length] at z
      refine ⟨D, _, rfl, SqL.of z, _, rfl, ?_⟩
      refine ⟨_, _, rfl, fun q => k1 ?_ H2 g.same, fun q => (k2 ?_).mono g.same⟩
      · rw [ei]; revert q; cases (l.map Em.num).all id <;> simp
      · rw [ei]; revert q; cases (l.map Em.num).all id <;> simp
def spShOf (Z : Ad) : Sp := fun vs H Q E => ∃ (A : Adr) (S : State) (r : Addr) (l : List Int), vs = [.ref A.o, .ref r] ∧ StA Z A H S ∧ LI H r l ∧ l.length ≤ 2000 ∧ (∀ t, Vbceaj.sheetIn S l = .ok t → Em.IsS (Vbceaj.size S) t → t.length ≤ 60 → (∀ x ∈ t, Em.num x.old = true ∧ Em.num x.new = true) → ∀ H' p, Same H H' → H p = none → RS H' p t → Q (.ref p) H') ∧ (∀ e, Vbceaj.sheetIn S l = .error e → ErrN Z E H e)
theorem ok_Office_sheet_of (T : Txt K mg Z) : OkM P w K mg base (L2.CX P w) 4 Z.cOffice "sheet_of" ["self", "row"] (spShOf Z) := by
  obtain ⟨f0, fd0, M0, F0⟩ := T.d_Office_sheet_of
  obtain ⟨f_refuse_if, fd_refuse_if, g_refuse_if, k_refuse_if, G_refuse_if, B_refuse_if⟩ := ok_refuse_if (P := P) (w := w) (base := base) T
  obtain ⟨f_is_sheet, fd_is_sheet, g_is_sheet, k_is_sheet, G_is_sheet, B_is_sheet⟩ := ok_is_sheet (P := P) (w := w) (base := base) T
  obtain ⟨f_Book_places, fd_Book_places, M_Book_places, G_Book_places, B_Book_places⟩ := ok_Book_places (P := P) (w := w) (base := base) T
  obtain ⟨f_errata_of, fd_errata_of, g_errata_of, k_errata_of, G_errata_of, B_errata_of⟩ := ok_errata_of (P := P) (w := w) (base := base) T
  refine ⟨f0, fd0, M0, F0.okX sc_Office_sheet_of (fun vs H Q E h => ?_) (fun cdv A outer s H vs Q E hr h => ?_), (F0.binds fun _ _ _ _ _ _ us hl => match us, hl with | [_, _], _ => rfl)⟩
  · obtain ⟨A, S, r, l, rfl, _⟩ := h
    rfl
  · obtain ⟨A, S, r, l, rfl, st, hr1, hl, k1, k2⟩ := h
    refine ⟨_, (pss_cons (ps_expr (pe_call G_refuse_if (hr.mono (by decide)) rfl g_refuse_if k_refuse_if B_refuse_if .nil (passes_call (takes_of rfl rfl rfl rfl) fun _ _ _ _ h => h) (pa_cons (pe_not (pe_call G_is_sheet (hr.mono (by decide)) rfl g_is_sheet k_is_sheet B_is_sheet .nil pass0 (pa_cons (pv 1) (pa_cons (pe_meth0 (pe_fld (pv 0) rfl) T.cl_Book M_Book_places G_Book_places (hr.mono (by decide)) B_Book_places .nil pass0) pa_nil)))) (pa_cons (pe_gint rfl T.g_NOT_AS_TOLD) pa_nil))))
  (pss_one (ps_ret (pe_call G_errata_of (hr.mono (by decide)) rfl g_errata_of k_errata_of B_errata_of .nil pass0 (pa_cons (pv 1) pa_nil))))), ?_⟩
    obtain ⟨dx, ho⟩ := st.ob
    obtain ⟨db, hb⟩ := st.bk
    have se := Em.sheetIn_eq S l
    refine ⟨_, rfl, _, rfl, A.o, _, dx, _, _, rfl, ho, T.cl_Office, T.n_Office_book, rfl, A.b, db, _, rfl, hb, rfl, A.b, S, rfl, st.bkr, st.gd, r, l, _, rfl, hr1, hl, fun H1 s1 => ?_⟩
    refine ⟨_, rfl, _, _, rfl, fun q => ?_, fun q => ?_⟩
    · have q' : Em.isSheetB (Vbceaj.size S) l = true := by revert q; cases Em.isSheetB (Vbceaj.size S) l <;> simp
      obtain ⟨t, ht⟩ := Em.isSheetB_some.mp q'
      rw [ht] at se
      obtain ⟨_, i1, c1, l3, nw⟩ := Em.sheetOf_some ht
      refine ⟨_, rfl, r, l, rfl, hr1.same s1, l3, hl, fun H2 p s2 np hp => ?_⟩
      rw [c1] at hp
      exact k1 t se i1 (isS_len i1 st.gd.sz) nw H2 p (s1.trans s2) (s1.free np) hp
    · have q' : Em.isSheetB (Vbceaj.size S) l = false := by revert q; cases Em.isSheetB (Vbceaj.size S) l <;> simp
      have ns : Em.sheetOf (Vbceaj.size S) l = none := by
        cases e : Em.sheetOf (Vbceaj.size S) l with
        | none => rfl
        | some t => rw [Em.isSheetB_some.mpr ⟨t, e⟩] at q'; cases q'
      rw [ns] at se
      exact (k2 _ se).mono s1
end
end EX
namespace EX
open PySem PySem.Spec PyProof.Rows L2
open Vbceaj (Sheet Erratum State)
theorem within_ok {n lo hi : Int} (h : VbceCore.isBetween n lo hi = true) : Vbceaj.within n lo hi = .ok n.toNat := if_pos h
theorem within_err {n lo hi : Int} (h : VbceCore.isBetween n lo hi = false) : Vbceaj.within n lo hi = .error (-3) := if_neg (by rw [h]; decide)
theorem bt_of {n lo hi : Int} (h : VbceCore.isBetween n lo hi = true) : lo ≤ n ∧ n ≤ hi := by
  rw [bt_iff, Bool.and_eq_true, decide_eq_true_eq, decide_eq_true_eq] at h; exact h
section
variable {P : Program} {w : World} {K : PySem.W.Frag} {mg : Str → Option Value} {base : Heap} {Z : Ad}
def spCpOf (Z : Ad) : Sp := fun vs H Q E => ∃ (A : Adr) (S : State) (n : Int), vs = [.ref A.o, .int n] ∧ StA Z A H S ∧ (∀ i x c, Vbceaj.copyIn S n = .ok (i, x) → S.copies[i]? = some x → A.cps[i]? = some c → Q (.ref c) H) ∧ (∀ e, Vbceaj.copyIn S n = .error e → ErrN Z E H e)
theorem ok_Office_copy_of (T : Txt K mg Z) : OkM P w K mg base (L2.CX P w) 5 Z.cOffice "copy_of" ["self", "number"] (spCpOf Z) := by
  obtain ⟨f0, fd0, M0, F0⟩ := T.d_Office_copy_of
  obtain ⟨f_in_range, fd_in_range, g_in_range, k_in_range, G_in_range, B_in_range⟩ := ok_in_range (P := P) (w := w) (base := base) T
  obtain ⟨f_refuse_if, fd_refuse_if, g_refuse_if, k_refuse_if, G_refuse_if, B_refuse_if⟩ := ok_refuse_if (P := P) (w := w) (base := base) T
  refine ⟨f0, fd0, M0, F0.okX sc_Office_copy_of (fun vs H Q E h => ?_) (fun cdv A outer s H vs Q E hr h => ?_), (F0.binds fun _ _ _ _ _ _ us hl => match us, hl with | [_, _], _ => rfl)⟩
  · obtain ⟨A, S, n, rfl, _⟩ := h
    rfl
  · obtain ⟨A, S, n, rfl, st, k1, k2⟩ := h
    refine ⟨_, (pss_cons (ps_expr (pe_call G_in_range (hr.mono (by decide)) rfl g_in_range k_in_range B_in_range .nil (passes_call (takes_of rfl rfl rfl rfl) fun _ _ _ _ h => h) (pa_cons (pv 1) (pa_cons pe_int (pa_cons (pe_gint rfl T.g_LAST_COPY) pa_nil)))))
  (pss_cons (ps_expr (pe_call G_refuse_if (hr.mono (by decide)) rfl g_refuse_if k_refuse_if B_refuse_if .nil (passes_call (takes_of rfl rfl rfl rfl) fun _ _ _ _ h => h) (pa_cons (pe_cmpR op_ge (pv 1) (pe_callB call_len_seq (by rfl) T.b_len (by decide +kernel) (pa_cons (pe_fld (pe_fld (pv 0) rfl) rfl) pa_nil)) (nomark _)) (pa_cons (pe_gint rfl T.g_NOT_THERE) pa_nil))))
  (pss_one (ps_ret (pe_ix ix_list (pe_fld (pe_fld (pv 0) rfl) rfl) (pv 1) (fun _ _ => rfl)))))), ?_⟩
    obtain ⟨dx, ho⟩ := st.ob
    obtain ⟨db, hb⟩ := st.bk
    unfold Vbceaj.copyIn at k1 k2
    refine ⟨_, rfl, n, 0, 9, rfl, fun q => ?_, fun q => k2 _ (by rw [within_err q]; rfl)⟩
    rw [within_ok q] at k1 k2
    have h09 := bt_of q
    simp only [bind, Except.bind] at k1 k2
    refine ⟨_, rfl, _, rfl, A.o, _, dx, _, _, rfl, ho, T.cl_Office, T.n_Office_book, rfl, A.b, _, db, _, _, rfl, hb, T.cl_Book, T.n_Book_copies, rfl, A.lc, _, rfl, .inl (SqL.of st.lc), _, _, rfl, rfl, ?_⟩
    refine ⟨_, _, rfl, fun c => ?_, fun c => ?_⟩
    · have c' := of_decide_eq_false c
      rw [List.length_map, st.cl] at c'
      have hn : n.toNat < S.copies.length := by omega
      have hx : S.copies[n.toNat]? = some S.copies[n.toNat] := List.getElem?_eq_getElem hn
      have hc : A.cps[n.toNat]? = some (A.cps[n.toNat]'(by rw [st.cl]; exact hn)) := List.getElem?_eq_getElem _
      rw [hx] at k1
      have hr : (A.cps.map V.ref)[n.toNat]? = some (.ref (A.cps[n.toNat]'(by rw [st.cl]; exact hn))) := by rw [List.getElem?_map, hc]; rfl
      have en : n = ((n.toNat : Nat) : Int) := by omega
      refine ⟨_, rfl, A.o, _, dx, _, _, rfl, ho, T.cl_Office, T.n_Office_book, rfl, A.b, _, db, _, _, rfl, hb, T.cl_Book, T.n_Book_copies, rfl, _, rfl, A.lc, _, _, _, rfl, rfl, SqL.of st.lc, by rw [en]; exact atI_nat hr, ?_⟩
      exact k1 n.toNat _ _ rfl hx hc
    · have c' := of_decide_eq_true c
      rw [List.length_map, st.cl] at c'
      have hx : S.copies[n.toNat]? = none := by rw [List.getElem?_eq_none_iff]; omega
      rw [hx] at k2
      exact k2 _ rfl
def spEdOf (Z : Ad) : Sp := fun vs H Q E => ∃ (A : Adr) (S : State) (n : Int), vs = [.ref A.o, .int n] ∧ StA Z A H S ∧ (∀ x e, Vbceaj.editionIn S n = .ok x → S.editions[n.toNat]? = some x → A.eds[n.toNat]? = some e → 0 ≤ n ∧ n ≤ 7 → Q (.ref e.1) H) ∧ (∀ e, Vbceaj.editionIn S n = .error e → ErrN Z E H e)
theorem ok_Office_edition_of (T : Txt K mg Z) : OkM P w K mg base (L2.CX P w) 5 Z.cOffice "edition_of" ["self", "number"] (spEdOf Z) := by
  obtain ⟨f0, fd0, M0, F0⟩ := T.d_Office_edition_of
  obtain ⟨f_in_range, fd_in_range, g_in_range, k_in_range, G_in_range, B_in_range⟩ := ok_in_range (P := P) (w := w) (base := base) T
  obtain ⟨f_refuse_if, fd_refuse_if, g_refuse_if, k_refuse_if, G_refuse_if, B_refuse_if⟩ := ok_refuse_if (P := P) (w := w) (base := base) T
  refine ⟨f0, fd0, M0, F0.okX sc_Office_edition_of (fun vs H Q E h => ?_) (fun cdv A outer s H vs Q E hr h => ?_), (F0.binds fun _ _ _ _ _ _ us hl => match us, hl with | [_, _], _ => rfl)⟩
  · obtain ⟨A, S, n, rfl, _⟩ := h
    rfl
  · obtain ⟨A, S, n, rfl, st, k1, k2⟩ := h
    refine ⟨_, (pss_cons (ps_expr (pe_call G_in_range (hr.mono (by decide)) rfl g_in_range k_in_range B_in_range .nil (passes_call (takes_of rfl rfl rfl rfl) fun _ _ _ _ h => h) (pa_cons (pv 1) (pa_cons pe_int (pa_cons (pe_gint rfl T.g_LAST_EDITION) pa_nil)))))
  (pss_cons (ps_expr (pe_call G_refuse_if (hr.mono (by decide)) rfl g_refuse_if k_refuse_if B_refuse_if .nil (passes_call (takes_of rfl rfl rfl rfl) fun _ _ _ _ h => h) (pa_cons (pe_cmpR op_ge (pv 1) (pe_callB call_len_seq (by rfl) T.b_len (by decide +kernel) (pa_cons (pe_fld (pe_fld (pv 0) rfl) rfl) pa_nil)) (nomark _)) (pa_cons (pe_gint rfl T.g_NOT_THERE) pa_nil))))
  (pss_one (ps_ret (pe_ix ix_list (pe_fld (pe_fld (pv 0) rfl) rfl) (pv 1) (fun _ _ => rfl)))))), ?_⟩
    obtain ⟨dx, ho⟩ := st.ob
    obtain ⟨db, hb⟩ := st.bk
    unfold Vbceaj.editionIn at k1 k2
    refine ⟨_, rfl, n, 0, 7, rfl, fun q => ?_, fun q => k2 _ (by rw [within_err q]; rfl)⟩
    rw [within_ok q] at k1 k2
    have h09 := bt_of q
    simp only [bind, Except.bind] at k1 k2
    refine ⟨_, rfl, _, rfl, A.o, _, dx, _, _, rfl, ho, T.cl_Office, T.n_Office_book, rfl, A.b, _, db, _, _, rfl, hb, T.cl_Book, T.n_Book_editions, rfl, A.le, _, rfl, .inl (SqL.of st.le), _, _, rfl, rfl, ?_⟩
    refine ⟨_, _, rfl, fun c => ?_, fun c => ?_⟩
    · have c' := of_decide_eq_false c
      rw [List.length_map, st.el] at c'
      have hn : n.toNat < S.editions.length := by omega
      have hx : S.editions[n.toNat]? = some S.editions[n.toNat] := List.getElem?_eq_getElem hn
      have hc : A.eds[n.toNat]? = some (A.eds[n.toNat]'(by rw [st.el]; exact hn)) := List.getElem?_eq_getElem _
      rw [hx] at k1
      have hr : (A.eds.map fun e => V.ref e.1)[n.toNat]? = some (.ref (A.eds[n.toNat]'(by rw [st.el]; exact hn)).1) := by rw [List.getElem?_map, hc]; rfl
      have en : n = ((n.toNat : Nat) : Int) := by omega
      refine ⟨_, rfl, A.o, _, dx, _, _, rfl, ho, T.cl_Office, T.n_Office_book, rfl, A.b, _, db, _, _, rfl, hb, T.cl_Book, T.n_Book_editions, rfl, _, rfl, A.le, _, _, _, rfl, rfl, SqL.of st.le, by rw [en]; exact atI_nat hr, ?_⟩
      exact k1 _ _ rfl rfl hc h09
    · have c' := of_decide_eq_true c
      rw [List.length_map, st.el] at c'
      have hx : S.editions[n.toNat]? = none := by rw [List.getElem?_eq_none_iff]; omega
      rw [hx] at k2
      exact k2 _ rfl
def spPlOf (Z : Ad) : Sp := fun vs H Q E => ∃ (A : Adr) (S : State) (p l : Int), vs = [.ref A.o, .int p, .int l] ∧ StA Z A H S ∧ (∀ k, Vbceaj.placeIn S p l = .ok k → k < Vbceaj.size S → S.editions ≠ [] → Q (.int (k : Nat)) H) ∧ (∀ e, Vbceaj.placeIn S p l = .error e → ErrN Z E H e)
theorem ok_Office_place_of (T : Txt K mg Z) : OkM P w K mg base (L2.CX P w) 5 Z.cOffice "place_of" ["self", "page", "line"] (spPlOf Z) := by
  obtain ⟨f0, fd0, M0, F0⟩ := T.d_Office_place_of
  obtain ⟨f_in_range, fd_in_range, g_in_range, k_in_range, G_in_range, B_in_range⟩ := ok_in_range (P := P) (w := w) (base := base) T
  obtain ⟨f_refuse_if, fd_refuse_if, g_refuse_if, k_refuse_if, G_refuse_if, B_refuse_if⟩ := ok_refuse_if (P := P) (w := w) (base := base) T
  refine ⟨f0, fd0, M0, F0.okX sc_Office_place_of (fun vs H Q E h => ?_) (fun cdv A outer s H vs Q E hr h => ?_), (F0.binds fun _ _ _ _ _ _ us hl => match us, hl with | [_, _, _], _ => rfl)⟩
  · obtain ⟨A, S, p, l, rfl, _⟩ := h
    rfl
  · obtain ⟨A, S, p, l, rfl, st, k1, k2⟩ := h
    refine ⟨_, (pss_cons (ps_expr (pe_call G_in_range (hr.mono (by decide)) rfl g_in_range k_in_range B_in_range .nil (passes_call (takes_of rfl rfl rfl rfl) fun _ _ _ _ h => h) (pa_cons (pv 1) (pa_cons pe_int (pa_cons (pe_op op_sub (pe_gint rfl T.g_MOST_PAGES) pe_int) pa_nil)))))
  (pss_cons (ps_expr (pe_call G_in_range (hr.mono (by decide)) rfl g_in_range k_in_range B_in_range .nil (passes_call (takes_of rfl rfl rfl rfl) fun _ _ _ _ h => h) (pa_cons (pv 2) (pa_cons pe_int (pa_cons (pe_op op_sub (pe_gint rfl T.g_MOST_LINES) pe_int) pa_nil)))))
  (pss_cons (ps_expr (pe_call G_refuse_if (hr.mono (by decide)) rfl g_refuse_if k_refuse_if B_refuse_if .nil (passes_call (takes_of rfl rfl rfl rfl) fun _ _ _ _ h => h) (pa_cons (pe_or (pe_cmpR op_ge (pv 1) (pe_fld (pe_fld (pv 0) rfl) rfl) (nomark _)) (pe_one (pe_cmpR op_ge (pv 2) (pe_fld (pe_fld (pv 0) rfl) rfl) (nomark _)))) (pa_cons (pe_gint rfl T.g_NOT_THERE) pa_nil))))
  (pss_one (ps_ret (pe_op op_add (pe_op op_mul (pv 1) (pe_fld (pe_fld (pv 0) rfl) rfl)) (pv 2))))))), ?_⟩
    obtain ⟨dx, ho⟩ := st.ob
    obtain ⟨db, hb⟩ := st.bk
    unfold Vbceaj.placeIn at k1 k2
    refine ⟨_, rfl, _, _, rfl, rfl, p, 0, 5, rfl, fun q => ?_, fun q => k2 _ (by rw [within_err q]; rfl)⟩
    rw [within_ok q] at k1 k2
    have h1 := bt_of q
    simp only [bind, Except.bind] at k1 k2
    refine ⟨_, rfl, _, _, rfl, rfl, l, 0, 9, rfl, fun q2 => ?_, fun q2 => k2 _ (by rw [within_err q2])⟩
    rw [within_ok q2] at k1 k2
    have h2 := bt_of q2
    dsimp only at k1 k2
    refine ⟨_, rfl, _, rfl, A.o, _, dx, _, _, rfl, ho, T.cl_Office, T.n_Office_book, rfl, A.b, _, db, _, _, rfl, hb, T.cl_Book, T.n_Book_pages, rfl, _, _, rfl, rfl, _, rfl, if_dec (fun c => ?_) fun c => ?_⟩
    · have c' := of_decide_eq_true c
      refine ⟨_, _, rfl, fun z => Bool.noConfusion z, fun _ => k2 _ ?_⟩
      rw [if_neg (by omega)]
    have c' := of_decide_eq_false c
    refine ⟨_, rfl, _, rfl, A.o, _, dx, _, _, rfl, ho, T.cl_Office, T.n_Office_book, rfl, A.b, _, db, _, _, rfl, hb, T.cl_Book, T.n_Book_lines, rfl, _, _, rfl, rfl, ?_⟩
    refine ⟨_, _, rfl, fun c2 => ?_, fun c2 => ?_⟩
    · have c2' := of_decide_eq_false c2
      rw [if_pos (by omega)] at k1
      refine ⟨_, rfl, _, rfl, A.o, _, dx, _, _, rfl, ho, T.cl_Office, T.n_Office_book, rfl, A.b, _, db, _, _, rfl, hb, T.cl_Book, T.n_Book_lines, rfl, _, _, rfl, rfl, .inl ⟨by omega, by omega⟩, _, rfl, _, _, rfl, rfl, ?_⟩
      have e1 : p * (S.lines : Int) + l = ((p.toNat * S.lines + l.toNat : Nat) : Int) := by
        rw [Int.natCast_add, Int.natCast_mul, Int.toNat_of_nonneg h1.1, Int.toNat_of_nonneg h2.1]
      show Q (.int (p * (S.lines : Int) + l)) H
      rw [e1]
      refine k1 _ rfl ?_ fun z => ?_
      · unfold Vbceaj.size
        have a1 : p.toNat < S.pages := by omega
        have a2 : l.toNat < S.lines := by omega
        have := Nat.mul_le_mul_right S.lines (show p.toNat + 1 ≤ S.pages by omega)
        rw [Nat.add_mul, Nat.one_mul] at this
        omega
      · have := (st.gd.none z).1
        omega
    · have c2' := of_decide_eq_true c2
      refine k2 _ ?_
      rw [if_neg (by omega)]
def spNew (Z : Ad) : Sp := fun vs H Q E => ∃ (A : Adr) (S : State) (p l : Int) (r : Addr) (x : List Int), vs = [.ref A.o, .int p, .int l, .ref r] ∧ StA Z A H S ∧ LI H r x ∧ x.length ≤ 2000 ∧ Done Z A H Q E (Vbceaj.run S (.book p l x))
theorem ErrN.s {Z : Ad} {E : XK} {H : Hp} {z : Int} (h : ErrS Z E H z) : ErrN Z E H z := h.1
theorem ok_Office_new_book (T : Txt K mg Z) : OkM P w K mg base (L2.CX P w) 5 Z.cOffice "new_book" ["self", "pages", "lines", "row"] (spNew Z) := by
  obtain ⟨f0, fd0, M0, F0⟩ := T.d_Office_new_book
  obtain ⟨f_in_range, fd_in_range, g_in_range, k_in_range, G_in_range, B_in_range⟩ := ok_in_range (P := P) (w := w) (base := base) T
  obtain ⟨f_refuse_if, fd_refuse_if, g_refuse_if, k_refuse_if, G_refuse_if, B_refuse_if⟩ := ok_refuse_if (P := P) (w := w) (base := base) T
  obtain ⟨f_is_number, fd_is_number, g_is_number, k_is_number, G_is_number, B_is_number⟩ := ok_is_number (P := P) (w := w) (base := base) T
  obtain ⟨f_Book_init, fd_Book_init, M_Book_init, G_Book_init, B_Book_init⟩ := ok_Book_init (P := P) (w := w) (base := base) T
  obtain ⟨f_Book_places, fd_Book_places, M_Book_places, G_Book_places, B_Book_places⟩ := ok_Book_places (P := P) (w := w) (base := base) T
  refine ⟨f0, fd0, M0, F0.okX sc_Office_new_book (fun vs H Q E h => ?_) (fun cdv A outer s H vs Q E hr h => ?_), (F0.binds fun _ _ _ _ _ _ us hl => match us, hl with | [_, _, _, _], _ => rfl)⟩
  · obtain ⟨A, S, p, l, r, x, rfl, _⟩ := h
    rfl
  · obtain ⟨A, S, p, l, r, x, rfl, st, hr1, hx, k⟩ := h
    refine ⟨_, (pss_cons (ps_expr (pe_call G_in_range (hr.mono (by decide)) rfl g_in_range k_in_range B_in_range .nil (passes_call (takes_of rfl rfl rfl rfl) fun _ _ _ _ h => h) (pa_cons (pv 1) (pa_cons pe_int (pa_cons (pe_gint rfl T.g_MOST_PAGES) pa_nil)))))
  (pss_cons (ps_expr (pe_call G_in_range (hr.mono (by decide)) rfl g_in_range k_in_range B_in_range .nil (passes_call (takes_of rfl rfl rfl rfl) fun _ _ _ _ h => h) (pa_cons (pv 2) (pa_cons pe_int (pa_cons (pe_gint rfl T.g_MOST_LINES) pa_nil)))))
  (pss_cons (ps_expr (pe_call G_refuse_if (hr.mono (by decide)) rfl g_refuse_if k_refuse_if B_refuse_if .nil (passes_call (takes_of rfl rfl rfl rfl) fun _ _ _ _ h => h) (pa_cons (pe_or (pe_cmpR op_ne (pe_callB call_len_seq (by rfl) T.b_len (by decide +kernel) (pa_cons (pv 3) pa_nil)) (pe_op op_mul (pv 1) (pv 2)) (nomark _)) (pe_one (pe_not (pe_callB (cr_all rfl) (by rfl) T.b_all (by decide +kernel) (pa_cons (pe_lc (own := [("number", 4)]) (g := gName 4) (tt := tYes) rfl sc_Office_new_book.nd (pi_list (pv 3)) (blkOk_by (N := ["self", "pages", "lines", "row", "number"]) (sc := defScope s_Office_new_book) (by decide +kernel)) (fun _ _ _ _ _ => (pg_name (i := 4) sc_Office_new_book.nd rfl (.inl rfl))) (fun _ _ _ _ _ => pts_nil) (fun _ _ _ _ _ => (pe_call G_is_number (hr.mono (by decide)) rfl g_is_number k_is_number B_is_number .nil pass0 (pa_cons (pv 4) pa_nil)))) pa_nil))))) (pa_cons (pe_gint rfl T.g_NOT_AS_TOLD) pa_nil))))
  (pss_cons (ps_fld (pv 0) (pe_make M_Book_init G_Book_init (hr.mono (by decide)) rfl T.g_Book B_Book_init .nil pass0 (pa_cons (pv 1) (pa_cons (pv 2) (pa_cons (pv 3) pa_nil)))) rfl)
  (pss_one (ps_ret (pe_lst (pa_cons (pe_meth0 (pe_fld (pv 0) rfl) T.cl_Book M_Book_places G_Book_places (hr.mono (by decide)) B_Book_places .nil pass0) pa_nil)))))))), ?_⟩
    obtain ⟨dx, ho⟩ := st.ob
    simp only [Vbceaj.run, bind, Except.bind, pure, Except.pure] at k
    refine ⟨_, rfl, p, 1, 6, rfl, fun q => ?_, fun q => ?_⟩
    rotate_left
    · rw [within_err q] at k
      exact k.1
    rw [within_ok q] at k
    have h1 := bt_of q
    dsimp only at k
    refine ⟨_, rfl, l, 1, 10, rfl, fun q2 => ?_, fun q2 => ?_⟩
    rotate_left
    · rw [within_err q2] at k
      exact k.1
    rw [within_ok q2] at k
    have h2 := bt_of q2
    dsimp only at k
    have ei : Vbceaj.isNumbers (p.toNat * l.toNat) x = (decide (x.length = p.toNat * l.toNat) && (x.map Em.num).all id) := by
      rw [num_all]; unfold Vbceaj.isNumbers; congr 1
    have bad : Vbceaj.isNumbers (p.toNat * l.toNat) x = false → ErrN Z E H (-4) := fun z => by
      unfold Vbceaj.need at k
      rw [z, if_neg (by decide)] at k
      exact k.1
    have good : Vbceaj.isNumbers (p.toNat * l.toNat) x = true → Done Z A H Q E (.ok (newS p.toNat l.toNat x, [((p.toNat * l.toNat : Nat) : Int)])) := fun z => by
      unfold Vbceaj.need at k
      rw [z, if_pos rfl] at k
      exact k
    refine ⟨_, rfl, r, _, rfl, .inl (SqL.of hr1), _, rfl, _, rfl, _, _, rfl, rfl, .inl ⟨by omega, by omega⟩, rfl, _, rfl, ?_⟩
    rw [dV, List.length_map]
    have em : p * l = ((p.toNat * l.toNat : Nat) : Int) := by rw [Int.natCast_mul, Int.toNat_of_nonneg (by omega), Int.toNat_of_nonneg (by omega)]
    have ed : decide ((x.length : Int) = p * l) = decide (x.length = p.toNat * l.toNat) := by
      rw [em, Bool.eq_iff_iff, decide_eq_true_eq, decide_eq_true_eq]; omega
    rw [ed]
    refine if_dec (fun c => ?_) fun c => ?_
    · have c' : decide (x.length = p.toNat * l.toNat) = false := by revert c; cases decide (x.length = p.toNat * l.toNat) <;> simp
      exact ⟨_, _, rfl, fun q => Bool.noConfusion q, fun _ => bad (by rw [ei, c', Bool.false_and])⟩
    have c' : decide (x.length = p.toNat * l.toNat) = true := by revert c; cases decide (x.length = p.toNat * l.toNat) <;> simp
    rw [c', Bool.true_and] at ei
    refine ⟨_, rfl, r, rfl, ⟨_, SqL.of hr1⟩, fun D hD => ?_⟩
    refine lc_it (walk_list (xs := x.map V.int)) (Grow H D (BB fun i => (x.take i).map Em.num)) (Grow.start hD rfl) (fun i H2 _ g => SqL.of (g.same _ _ hr1)) ?_ ?_
    · rintro i v H2 H3 hi ⟨acc, hacc, s3, bo, hle⟩ ⟨rfl, e2⟩
      obtain ⟨z, hz, rfl⟩ := Em.getElem_map e2
      have il := (List.getElem?_eq_some_iff.mp hz).1
      refine ⟨rfl, tyes ?_⟩
      refine ⟨_, rfl, z, rfl, ?_⟩
      refine Grow.put hD hacc s3 hle (by omega) (Same.refl _) (bo.put ?_)
      rw [Em.take_next hz, List.map_append]; rfl
    intro H2 g
    have z := BB.done g
    have s1 := g.same
    rw [List.length_map, List.take_length] at z
    refine ⟨D, _, rfl, SqL.of z, _, rfl, ?_⟩
    refine ⟨_, _, rfl, fun q => ?_, fun q => (bad ?_).mono s1⟩
    rotate_left
    · rw [ei]; revert q; cases (x.map Em.num).all id <;> simp
    have gi : Vbceaj.isNumbers (p.toNat * l.toNat) x = true := by rw [ei]; revert q; cases (x.map Em.num).all id <;> simp
    have kk := good gi
    have hlen : x.length = p.toNat * l.toNat := of_decide_eq_true c'
    refine ⟨_, rfl, _, rfl, _, rfl, fun y dy hy hdy hne => ?_⟩
    have s2 : Same H2 (upd (upd H2 dy (.own y)) y (.ins Z.cBook dy [])) := fun b u e => by
      rw [upd_ne (ne_of_none e hy), upd_ne (ne_of_none e hdy)]; exact e
    refine ⟨y, dy, r, p, l, x, rfl, upd_same, s2 _ _ (s1 _ _ hr1), fun H3 hB => ⟨rfl, ?_⟩⟩
    obtain ⟨le, lc, a1, a2, a3, a4, a5, a6, a7⟩ := hB
    rcases a7 with ⟨z0, _⟩ | ⟨_, e, ss, n', dx', b1, b2, b3, b4, b5, b6, b7, b8, b9, b10, b11, b12⟩
    · omega
    have s3 : Same H H3 := fun b u e => a6 _ _ (s2 _ _ (s1 _ _ e)) (fun z0 => by
      have := s1 _ _ e
      rw [z0, hy] at this; cases this)
    have s02 : Same H (upd (upd H2 dy (.own y)) y (.ins Z.cBook dy [])) := s1.trans s2
    refine ⟨_, rfl, A.o, _, dx, _, rfl, s3 _ _ ho, T.cl_Office, T.n_Office_book, (by show 1 < 1000; decide), ?_⟩
    have nA : ∀ {c : Addr}, H c = none → A.o ≠ c := fun h => ne_of_none ho h
    have ny : H y = none := s1.free hy
    have nle := s02.free a1
    have nlc := s02.free a2
    have ne' := s02.free b1
    have nss := s02.free b2
    have nn' := s02.free b3
    have ye : y ≠ e := fun z0 => by rw [← z0, upd_same] at b1; cases b1
    have st' := (sta1 (Z := Z) (H := upd H3 A.o (.ins Z.cOffice dx (fOf y))) (good_new (p := p.toNat) (l := l.toNat) (x := x) ⟨by omega, by omega⟩ ⟨by omega, by omega⟩ hlen) (d1 := dx) (b := y) (d2 := dy) (le := le) (lc := lc) (e := e) (ss := ss) (n := n') (de := dx') upd_same
      (by rw [upd_ne (nA ny).symm, a4, Int.toNat_of_nonneg (by omega), Int.toNat_of_nonneg (by omega)]) (by rw [upd_ne (nA nle).symm]; exact b9) (by rw [upd_ne (nA nlc).symm]; exact a5) (by rw [upd_ne (nA ne').symm]; exact b10) (by rw [upd_ne (nA nss).symm]; exact b11)
      (by show upd _ _ _ _ = _; rw [upd_ne (nA nn').symm]; exact b12) (nA ny) (nA ne') ye a3 b4 b5 b6 b7 b8 (xs := A.x) (st.aside s3 (by simp [ny, nle, nlc, ne', nss])) (st.xfresh nn'))
    have hoo : upd H3 A.o (.ins Z.cOffice dx (fOf y)) A.o = some (.ins Z.cOffice dx (fOf y)) := upd_same
    have hyy : upd H3 A.o (.ins Z.cOffice dx (fOf y)) y = some (.ins Z.cBook dy (fBk (p.toNat : Nat) (l.toNat : Nat) le lc)) := by rw [upd_ne (nA ny).symm, a4, Int.toNat_of_nonneg (by omega), Int.toNat_of_nonneg (by omega)]
    refine ⟨_, rfl, A.o, _, dx, _, _, rfl, hoo, T.cl_Office, T.n_Office_book, rfl, y, dy, _, rfl, hyy, rfl, y, newS p.toNat l.toNat x, rfl, st'.bkr, st'.gd, (by show 1 ≤ sizeLine; decide), fun q0 nq => ?_⟩
    have opn : q0 ≠ A.o := fun z0 => by rw [z0, upd_same] at nq; cases nq
    have nq' : H q0 = none := s3.free (by rw [upd_ne opn] at nq; exact nq)
    refine kk ⟨A.o, y, le, lc, [(e, ss)], [], A.x⟩ _ q0 (st'.same (same_new nq)) rfl (fun c u e0 h => ?_) (fun m hm => ?_) nq' upd_same
    · have cn : c ≠ A.o := fun z0 => h (by rw [z0]; exact StA.o_mem)
      rw [upd_ne (ne_of_none e0 nq'), upd_ne cn]; exact s3 _ _ e0
    · have hm' : m ∈ [A.o, y, le, lc, e, ss] := hm
      simp only [List.mem_cons, List.not_mem_nil, or_false] at hm'
      rcases hm' with e0 | e0 | e0 | e0 | e0 | e0
      · exact .inl (by rw [e0]; exact StA.o_mem)
      · exact .inr (by rw [e0]; exact ny)
      · exact .inr (by rw [e0]; exact nle)
      · exact .inr (by rw [e0]; exact nlc)
      · exact .inr (by rw [e0]; exact ne')
      · exact .inr (by rw [e0]; exact nss)
end
end EX
namespace EX
open PySem PySem.Spec PyProof.Rows L2
open Vbceaj (Sheet Erratum State)
theorem off_upd {M : List Addr} {H : Hp} {m : Addr} {o : HO} (h : m ∈ M) : off M (upd H m o) = off M H := by
  funext b
  unfold off
  by_cases q : b ∈ M
  · rw [if_pos q, if_pos q]
  · rw [if_neg q, if_neg q, upd_ne (fun z => q (by rw [z]; exact h))]
section
variable {Z : Ad} {A : Adr} {H : Hp} {S : State}
theorem Adr.nd_all (h : A.M.Nodup) : (A.eds.map (·.1)).Nodup ∧ (A.eds.map (·.2)).Nodup ∧ A.cps.Nodup ∧ A.le ≠ A.lc ∧ (∀ e ∈ A.eds, e.2 ≠ A.le ∧ e.2 ≠ A.lc) := by
  unfold Adr.M at h
  have h1 := (List.nodup_cons.mp h).2
  have h2 := (List.nodup_cons.mp h1).2
  obtain ⟨h3, h4⟩ := List.nodup_cons.mp h2
  obtain ⟨h5, h6⟩ := List.nodup_cons.mp h4
  obtain ⟨h7, h8, h9⟩ := List.nodup_append.mp h6
  obtain ⟨h10, h11, h12⟩ := List.nodup_append.mp h7
  refine ⟨h10, h11, h8, fun z => h3 (by rw [z]; exact List.mem_cons_self), fun e he => ⟨fun z => h3 ?_, fun z => h5 ?_⟩⟩
  · rw [← z]
    exact List.mem_cons_of_mem _ (List.mem_append_left _ (List.mem_append_right _ (List.mem_map.mpr ⟨e, he, rfl⟩)))
  · rw [← z]
    exact List.mem_append_left _ (List.mem_append_right _ (List.mem_map.mpr ⟨e, he, rfl⟩))
theorem Adr.e_mem {e : Addr × Addr} (h : e ∈ A.eds) : e.1 ∈ A.M ∧ e.2 ∈ A.M :=
  ⟨List.mem_cons_of_mem _ (List.mem_cons_of_mem _ (List.mem_cons_of_mem _ (List.mem_cons_of_mem _ (List.mem_append_left _ (List.mem_append_left _ (List.mem_map.mpr ⟨e, h, rfl⟩)))))),
   List.mem_cons_of_mem _ (List.mem_cons_of_mem _ (List.mem_cons_of_mem _ (List.mem_cons_of_mem _ (List.mem_append_left _ (List.mem_append_right _ (List.mem_map.mpr ⟨e, h, rfl⟩))))))⟩
theorem Adr.c_mem {c : Addr} (h : c ∈ A.cps) : c ∈ A.M :=
  List.mem_cons_of_mem _ (List.mem_cons_of_mem _ (List.mem_cons_of_mem _ (List.mem_cons_of_mem _ (List.mem_append_right _ h))))
theorem Adr.le_mem : A.le ∈ A.M := List.mem_cons_of_mem _ (List.mem_cons_of_mem _ List.mem_cons_self)
theorem Adr.lc_mem : A.lc ∈ A.M := List.mem_cons_of_mem _ (List.mem_cons_of_mem _ (List.mem_cons_of_mem _ List.mem_cons_self))
theorem nd_idx {α : Type} {l : List α} (h : l.Nodup) {i j : Nat} {a : α} (hi : l[i]? = some a) (hj : l[j]? = some a) : i = j := by
  obtain ⟨h1, e1⟩ := List.getElem?_eq_some_iff.mp hi
  obtain ⟨h2, e2⟩ := List.getElem?_eq_some_iff.mp hj
  have pw := List.pairwise_iff_getElem.mp h
  rcases Nat.lt_trichotomy i j with q | q | q
  · exact absurd (e1.trans e2.symm) (pw i j h1 h2 q)
  · exact q
  · exact absurd (e2.trans e1.symm) (pw j i h2 h1 q)
/-- every member of M stands in the heap -/
theorem StA.tracked (st : StA Z A H S) {m : Addr} (h : m ∈ A.M) : H m ≠ none := by
  obtain ⟨d1, h1⟩ := st.ob
  obtain ⟨d2, h2⟩ := st.bk
  have no : ∀ {u : HO}, H m = some u → H m ≠ none := fun e z => by rw [e] at z; cases z
  unfold Adr.M at h
  rcases List.mem_cons.mp h with e | h
  · exact no (show H m = _ by rw [e]; exact h1)
  rcases List.mem_cons.mp h with e | h
  · exact no (show H m = _ by rw [e]; exact h2)
  rcases List.mem_cons.mp h with e | h
  · exact no (show H m = _ by rw [e]; exact st.le)
  rcases List.mem_cons.mp h with e | h
  · exact no (show H m = _ by rw [e]; exact st.lc)
  have ed : ∀ e ∈ A.eds, H e.1 ≠ none ∧ H e.2 ≠ none := fun e he => by
    obtain ⟨i, hi⟩ := List.mem_iff_getElem?.mp he
    have il : i < S.editions.length := by rw [← st.el]; exact (List.getElem?_eq_some_iff.mp hi).1
    obtain ⟨dx, n, ss, q1, q2, q3, q4, q5⟩ := st.ed i e _ hi (List.getElem?_eq_getElem il)
    exact ⟨fun z => (by rw [q1] at z; cases z), fun z => (by rw [q4] at z; cases z)⟩
  rcases List.mem_append.mp h with h | h
  · rcases List.mem_append.mp h with h | h
    · obtain ⟨e, he, rfl⟩ := List.mem_map.mp h; exact (ed e he).1
    · obtain ⟨e, he, rfl⟩ := List.mem_map.mp h; exact (ed e he).2
  · obtain ⟨i, hi⟩ := List.mem_iff_getElem?.mp h
    have il : i < S.copies.length := by rw [← st.cl]; exact (List.getElem?_eq_some_iff.mp hi).1
    obtain ⟨dx, n, q1, q2⟩ := st.cp i m _ hi (List.getElem?_eq_getElem il)
    exact no q1
theorem StA.fresh (st : StA Z A H S) {p : Addr} (h : H p = none) : p ∉ A.M := fun z => st.tracked z h
theorem StA.freshN (st : StA Z A H S) {p : Addr} (h : H p = none) : p ∉ A.N := fun z => (List.mem_append.mp z).elim (st.xfresh h) (st.fresh h)
/-- a new list of errata beside M -/
theorem rs_off {M : List Addr} {H' : Hp} {p : Addr} {t : Sheet} (hp : p ∉ M) (h : RS H' p t) (hM : ∀ m ∈ M, ∀ vs, H' m ≠ some (.tup vs)) : RS (off M H') p t := by
  obtain ⟨ks, e, h1, h2⟩ := h
  refine ⟨ks, e, by rw [off_ne hp]; exact h1, fun k hk => ?_⟩
  have h3 : H' k.1 = some (.tup (k.2.map V.int)) := h2 k hk
  show off M H' k.1 = _
  rw [off_ne (fun z => hM _ z _ h3)]; exact h3
theorem StA.no_tup (st : StA Z A H S) : ∀ m ∈ A.N, ∀ vs, H m ≠ some (.tup vs) := by
  intro m h vs
  rcases List.mem_append.mp h with h | h
  · obtain ⟨_, us, q⟩ := st.ax m h
    rw [q]; intro z; cases z
  obtain ⟨d1, h1⟩ := st.ob
  obtain ⟨d2, h2⟩ := st.bk
  have no : ∀ {u : HO}, H m = some u → u ≠ .tup vs → H m ≠ some (.tup vs) := fun e n z => by rw [e] at z; injection z with z; exact n z
  unfold Adr.M at h
  rcases List.mem_cons.mp h with e | h
  · exact no (show H m = _ by rw [e]; exact h1) (by intro z; cases z)
  rcases List.mem_cons.mp h with e | h
  · exact no (show H m = _ by rw [e]; exact h2) (by intro z; cases z)
  rcases List.mem_cons.mp h with e | h
  · exact no (show H m = _ by rw [e]; exact st.le) (by intro z; cases z)
  rcases List.mem_cons.mp h with e | h
  · exact no (show H m = _ by rw [e]; exact st.lc) (by intro z; cases z)
  have ed : ∀ e ∈ A.eds, H e.1 ≠ some (.tup vs) ∧ H e.2 ≠ some (.tup vs) := fun e he => by
    obtain ⟨i, hi⟩ := List.mem_iff_getElem?.mp he
    have il : i < S.editions.length := by rw [← st.el]; exact (List.getElem?_eq_some_iff.mp hi).1
    obtain ⟨dx, n, ss, q1, q2, q3, q4, q5⟩ := st.ed i e _ hi (List.getElem?_eq_getElem il)
    exact ⟨fun z => (by rw [q1] at z; cases z), fun z => (by rw [q4] at z; cases z)⟩
  rcases List.mem_append.mp h with h | h
  · rcases List.mem_append.mp h with h | h
    · obtain ⟨e, he, rfl⟩ := List.mem_map.mp h; exact (ed e he).1
    · obtain ⟨e, he, rfl⟩ := List.mem_map.mp h; exact (ed e he).2
  · obtain ⟨i, hi⟩ := List.mem_iff_getElem?.mp h
    have il : i < S.copies.length := by rw [← st.cl]; exact (List.getElem?_eq_some_iff.mp hi).1
    obtain ⟨dx, n, q1, q2⟩ := st.cp i m _ hi (List.getElem?_eq_getElem il)
    exact no q1 (by intro z; cases z)
/-! a sheet issued -/
theorem get_set {α : Type} {l : List α} {i j : Nat} {a : α} : (l.set i a)[j]? = if i = j then (if i < l.length then some a else none) else l[j]? := by
  rw [List.getElem?_set]
theorem good_issue (g : Good S) (hn : S.editions ≠ []) {t : Sheet} (ht : Em.IsS (Vbceaj.size S) t) (hw : ∀ y ∈ t, Em.num y.old = true ∧ Em.num y.new = true) (h8 : (Vbceaj.edition S (Vbceaj.newest S)).sheets.length < 8) : Good (Vbceaj.issue S t) := by
  have hx := newest_at hn
  have hpos : 0 < S.editions.length := List.length_pos_iff.mpr hn
  have ok := g.new hn
  refine ⟨g.pg, g.ln, fun z => ?_, fun _ => g.some hn, fun x hx' => ?_, fun x hx' u hu => ?_, ?_, g.cl, fun c hc => ?_⟩
  · have : (S.editions.set (Vbceaj.newest S) _) = [] := z
    have := congrArg List.length this
    rw [List.length_set] at this
    simp at this
    exact absurd this hn
  · rcases List.mem_or_eq_of_mem_set hx' with h | h
    · exact g.ed x h
    · rw [h]
      refine ⟨ok.num, fun u hu => ?_, by rw [List.length_append]; show _ + 1 ≤ 8; omega⟩
      rcases List.mem_append.mp hu with hu | hu
      · exact ok.sh u hu
      · rw [List.mem_singleton.mp hu]; exact ht
  · rcases List.mem_or_eq_of_mem_set hx' with h | h
    · exact g.nw x h u hu
    · rw [h] at hu
      rcases List.mem_append.mp hu with hu | hu
      · exact g.nw _ (List.mem_of_getElem? hx) u hu
      · rw [List.mem_singleton.mp hu]; exact hw
  · show (S.editions.set _ _).length ≤ 8
    rw [List.length_set]; exact g.el
  · obtain ⟨c1, c2, c3⟩ := g.cp c hc
    refine ⟨by show _ < (S.editions.set _ _).length; rw [List.length_set]; exact c1, c2, ?_⟩
    refine Nat.le_trans c3 ?_
    unfold Vbceaj.edition
    show _ ≤ ((S.editions.set _ _).getD _ _).sheets.length
    rw [List.getD_eq_getElem?_getD, List.getD_eq_getElem?_getD, get_set]
    split
    · rename_i q
      rw [if_pos (by unfold Vbceaj.newest; omega)]
      show _ ≤ (_ ++ [t]).length
      rw [List.length_append]
      have : (S.editions[c.edition]?).getD Vbceaj.noEdition = Vbceaj.edition S (Vbceaj.newest S) := by rw [← q]; unfold Vbceaj.edition; rw [List.getD_eq_getElem?_getD]
      rw [this]
      exact Nat.le_add_right _ _
    · exact Nat.le_refl _
theorem sta_issue (st : StA Z A H S) (hn : S.editions ≠ []) {t : Sheet} {p : Addr} {e : Addr × Addr} (he : A.eds[Vbceaj.newest S]? = some e) (ht : Em.IsS (Vbceaj.size S) t) (hw : ∀ y ∈ t, Em.num y.old = true ∧ Em.num y.new = true) (h8 : (Vbceaj.edition S (Vbceaj.newest S)).sheets.length < 8)
    (hp : p ∉ A.N) (hS : RS H p t) {vs : List V} (hv : H e.2 = some (.lst vs)) : StA Z A (upd H e.2 (.lst (vs ++ [.ref p]))) (Vbceaj.issue S t) := by
  have hem := List.mem_of_getElem? he
  obtain ⟨n1, n2, n3, n4, n5⟩ := Adr.nd_all st.nd
  obtain ⟨m1, m2⟩ := Adr.e_mem hem
  obtain ⟨d1, h1⟩ := st.ob
  obtain ⟨d2, h2⟩ := st.bk
  have k1 : A.o ≠ e.2 := ne_of h1 hv (by intro z; cases z)
  have k2 : A.b ≠ e.2 := ne_of h2 hv (by intro z; cases z)
  have ef := off_upd (M := A.N) (H := H) (o := .lst (vs ++ [.ref p])) (Adr.inN m2)
  refine ⟨st.nd, ⟨d1, by rw [upd_ne k1]; exact h1⟩, ⟨d2, by rw [upd_ne k2]; exact h2⟩, by rw [upd_ne (n5 e hem).1.symm]; exact st.le, by rw [upd_ne (n5 e hem).2.symm]; exact st.lc, ?_, fun i e' x he' hx => ?_, st.cl, fun i c x hc hx => ?_, good_issue st.gd hn ht hw h8, st.axUpd (fun m hm => .inl hm) fun b u q hb => by rw [upd_ne (fun z => hb (by rw [z]; exact m2))]; exact q⟩
  · show _ = (S.editions.set _ _).length
    rw [List.length_set]; exact st.el
  · rw [ef]
    have hx' : (S.editions.set (Vbceaj.newest S) { Vbceaj.edition S (Vbceaj.newest S) with sheets := (Vbceaj.edition S (Vbceaj.newest S)).sheets ++ [t] })[i]? = some x := hx
    rw [get_set] at hx'
    split at hx'
    · rename_i q
      subst q
      rw [if_pos (by have := List.length_pos_iff.mpr hn; unfold Vbceaj.newest; omega)] at hx'
      injection hx' with hx'
      have ee : e = e' := by rw [he] at he'; injection he'
      subst ee
      obtain ⟨dx, n, ss, q1, q2, q3, q4, q5⟩ := st.ed _ e _ he (newest_at hn)
      have ne1 : e.1 ≠ e.2 := ne_of q1 q4 (by intro z; cases z)
      refine ⟨dx, n, ss ++ [(p, t)], by rw [upd_ne ne1]; exact q1, by rw [← hx']; exact q2, by rw [List.map_append, q3, ← hx']; rfl, ?_, fun k hk => ?_⟩
      · rw [q4] at hv
        injection hv with hv
        injection hv with hv
        rw [upd_same, ← hv, List.map_append]; rfl
      · rcases List.mem_append.mp hk with hk | hk
        · exact q5 k hk
        · rw [List.mem_singleton.mp hk]
          exact rs_off hp hS st.no_tup
    · rename_i q
      obtain ⟨dx, n, ss, q1, q2, q3, q4, q5⟩ := st.ed i e' x he' hx'
      have ne1 : e'.1 ≠ e.2 := ne_of q1 hv (by intro z; cases z)
      have ne2 : e'.2 ≠ e.2 := fun z => q (nd_idx n2 (i := Vbceaj.newest S) (j := i) (a := e.2) (by rw [List.getElem?_map, he]; rfl) (by rw [List.getElem?_map, he', ← z]; rfl))
      exact ⟨dx, n, ss, by rw [upd_ne ne1]; exact q1, q2, q3, by rw [upd_ne ne2]; exact q4, q5⟩
  · rw [ef]
    obtain ⟨dx, n, q1, q2⟩ := st.cp i c x hc hx
    exact ⟨dx, n, by rw [upd_ne (ne_of q1 hv (by intro z; cases z))]; exact q1, q2⟩
/-! a copy changed -/
theorem good_copy (g : Good S) {i : Nat} {x y : Vbceaj.Copy} (hx : S.copies[i]? = some x) (h1 : y.edition = x.edition) (h2 : y.now.length = Vbceaj.size S) (h3 : y.pen ≤ (Vbceaj.edition S x.edition).sheets.length) : Good (Vbceaj.setCopy S i y) := by
  have gx := g.cp x (List.mem_of_getElem? hx)
  refine ⟨g.pg, g.ln, fun z => ?_, g.some, g.ed, g.nw, g.el, by show (S.copies.set _ _).length ≤ 10; rw [List.length_set]; exact g.cl, fun c hc => ?_⟩
  · obtain ⟨q1, q2⟩ := g.none z
    rw [q2] at hx; simp at hx
  · rcases List.mem_or_eq_of_mem_set hc with h | h
    · exact g.cp c h
    · rw [h]
      refine ⟨by rw [h1]; exact gx.1, h2, ?_⟩
      show y.pen ≤ (Vbceaj.edition S y.edition).sheets.length
      rw [h1]; exact h3
theorem sta_copy (st : StA Z A H S) {i : Nat} {c : Addr} {x y : Vbceaj.Copy} {dx n : Addr} (hc : A.cps[i]? = some c) (hx : S.copies[i]? = some x) (g : Good (Vbceaj.setCopy S i y)) {fs : List (Str × V)} (h0 : H c = some (.ins Z.cCopy dx fs)) (hn : LI (off A.N H) n y.now) :
    StA Z A (upd H c (.ins Z.cCopy dx (fCp y.edition y.pen n))) (Vbceaj.setCopy S i y) := by
  have hcm := List.mem_of_getElem? hc
  obtain ⟨n1, n2, n3, n4, n5⟩ := Adr.nd_all st.nd
  have cm := Adr.c_mem hcm
  obtain ⟨d1, h1⟩ := st.ob
  obtain ⟨d2, h2⟩ := st.bk
  have nd := st.nd
  unfold Adr.M at nd
  obtain ⟨a1, b1⟩ := List.nodup_cons.mp nd
  obtain ⟨a2, b2⟩ := List.nodup_cons.mp b1
  have b4 := (List.nodup_cons.mp (List.nodup_cons.mp b2).2).2
  have k1 : A.o ≠ c := fun z => a1 (by rw [z]; exact List.mem_cons_of_mem _ (List.mem_cons_of_mem _ (List.mem_cons_of_mem _ (List.mem_append_right _ hcm))))
  have k2 : A.b ≠ c := fun z => a2 (by rw [z]; exact List.mem_cons_of_mem _ (List.mem_cons_of_mem _ (List.mem_append_right _ hcm)))
  have k3 : A.le ≠ c := ne_of st.le h0 (by intro z; cases z)
  have k4 : A.lc ≠ c := ne_of st.lc h0 (by intro z; cases z)
  have ke : ∀ e ∈ A.eds, e.1 ≠ c := fun e he => (List.nodup_append.mp b4).2.2 e.1 (List.mem_append_left _ (List.mem_map.mpr ⟨e, he, rfl⟩)) c hcm
  have ef := off_upd (M := A.N) (H := H) (o := .ins Z.cCopy dx (fCp y.edition y.pen n)) (Adr.inN cm)
  refine ⟨st.nd, ⟨d1, by rw [upd_ne k1]; exact h1⟩, ⟨d2, by rw [upd_ne k2]; exact h2⟩, by rw [upd_ne k3]; exact st.le, by rw [upd_ne k4]; exact st.lc, st.el, fun j e x' he hx' => ?_, by show _ = (S.copies.set _ _).length; rw [List.length_set]; exact st.cl, fun j c' x' hc' hx' => ?_, g, st.axUpd (fun m hm => .inl hm) fun b u q hb => by rw [upd_ne (fun z => hb (by rw [z]; exact cm))]; exact q⟩
  · rw [ef]
    obtain ⟨dx', n', ss, q1, q2, q3, q4, q5⟩ := st.ed j e x' he hx'
    exact ⟨dx', n', ss, by rw [upd_ne (ke e (List.mem_of_getElem? he))]; exact q1, q2, q3, by rw [upd_ne (ne_of q4 h0 (by intro z; cases z))]; exact q4, q5⟩
  · rw [ef]
    have hx2 : (S.copies.set i y)[j]? = some x' := hx'
    rw [get_set] at hx2
    split at hx2
    · rename_i q
      subst q
      rw [if_pos (List.getElem?_eq_some_iff.mp hx).1] at hx2
      injection hx2 with hx2
      subst hx2
      have : c = c' := by rw [hc] at hc'; injection hc'
      subst this
      exact ⟨dx, n, upd_same, hn⟩
    · rename_i q
      obtain ⟨dx', n', q1, q2⟩ := st.cp j c' x' hc' hx2
      have : c' ≠ c := fun z => q (nd_idx n3 hc (by rw [← z]; exact hc'))
      exact ⟨dx', n', by rw [upd_ne this]; exact q1, q2⟩
end
end EX
namespace EX
open PySem PySem.Spec PyProof.Rows L2
open Vbceaj (Sheet Erratum State)
theorem need_ok {c : Bool} {e : Int} (h : c = true) : Vbceaj.need c e = .ok () := if_pos h
theorem need_err {c : Bool} {e : Int} (h : c = false) : Vbceaj.need c e = .error e := if_neg (by rw [h]; decide)
theorem ne_empty {S : State} (h : S.editions.isEmpty = false) : S.editions ≠ [] := fun z => by rw [z] at h; cases h
theorem text_ok {l : List Int} (h : (l.all fun c => VbceCore.isBetween c 0 255) = true) (hl : l.length ≤ 2000) : Vbceaj.textIn l = .ok (l.map Int.toNat) := by
  unfold Vbceaj.textIn VbceCore.bytesIn
  rw [if_pos ⟨h, hl⟩]
theorem text_err {l : List Int} (h : (l.all fun c => VbceCore.isBetween c 0 255) = false) : Vbceaj.textIn l = .error (-1) := by
  unfold Vbceaj.textIn VbceCore.bytesIn
  rw [if_neg (by rw [h]; simp)]
theorem nats_of {l : List Int} (h : (l.all fun c => VbceCore.isBetween c 0 255) = true) : natsI (l.map Int.toNat) = l := by
  unfold natsI
  rw [List.map_map]
  refine (List.map_congr_left fun x hx => ?_).trans (List.map_id l)
  have := List.all_eq_true.mp h x hx
  have := (bt_of this).1
  show ((x.toNat : Nat) : Int) = x
  omega
theorem eqv_all : ∀ (l m : List Int), PyData.eqv (.list (l.map PyData.int)) (.list (m.map PyData.int)) = decide (l = m) := by
  intro l
  show ∀ m : List Int, PyData.eqvAll (l.map PyData.int) (m.map PyData.int) = _
  induction l with
  | nil => intro m; cases m <;> rfl
  | cons a l ih =>
    intro m
    cases m with
    | nil => rfl
    | cons b m =>
      show ((a == b) && PyData.eqvAll (l.map PyData.int) (m.map PyData.int)) = _
      rw [ih m, Bool.eq_iff_iff]
      simp
theorem dp_ints {K : PySem.W.Frag} {H : Hp} : ∀ l : List Int, DpAll K H (l.map V.int) (l.map PyData.int)
  | [] => .nil
  | a :: l => .cons (.int a) (dp_ints l)
/-- the four faults -/
theorem hind (S : State) (hn : S.editions ≠ []) (a n : Nat) (t : Sheet) : (nfL S a n t = [2, 8] ∧ Vbceaj.hindrance S a n t = 8) ∨ (nfL S a n t = [2, 6] ∧ Vbceaj.hindrance S a n t = 6) ∨ (∃ i : Nat, nfL S a n t = [3, (i : Int)] ∧ Vbceaj.hindrance S a n t = 100000 + i) ∨
    (nfL S a n t = [] ∧ Vbceaj.hindrance S a n t = 0 ∧ (Vbceaj.edition S (Vbceaj.newest S)).sheets.length < 8 ∧ n = (Vbceaj.edition S (Vbceaj.newest S)).sheets.length) := by
  have e0 : S.editions.isEmpty = false := by cases q : S.editions with
    | nil => exact absurd q hn
    | cons x l => rfl
  unfold nfL Vbceaj.hindrance Vbceaj.SHEETS
  by_cases h1 : 8 ≤ (Vbceaj.edition S (Vbceaj.newest S)).sheets.length
  · exact .inl ⟨if_pos h1, if_pos h1⟩
  · rw [if_neg h1]
    dsimp only
    rw [if_neg h1]
    by_cases h2 : a ≠ Vbceaj.newest S ∨ n ≠ (Vbceaj.edition S (Vbceaj.newest S)).sheets.length
    · exact .inr (.inl ⟨if_pos h2, if_pos (by rcases h2 with h | h <;> simp [h])⟩)
    · rw [if_neg h2, if_neg (by rw [e0]; simpa using h2)]
      cases u : Vbceaj.unfit (Vbceaj.whole (Vbceaj.edition S (Vbceaj.newest S))) t with
      | some i => exact .inr (.inr (.inl ⟨i, rfl, rfl⟩))
      | none => exact .inr (.inr (.inr ⟨rfl, rfl, by omega, by by_cases q : n = (Vbceaj.edition S (Vbceaj.newest S)).sheets.length; exact q; exact absurd (Or.inr q) h2⟩))
section
variable {P : Program} {w : World} {K : PySem.W.Frag} {mg : Str → Option Value} {base : Heap} {Z : Ad}
def spORead (Z : Ad) : Sp := fun vs H Q E => ∃ (A : Adr) (S : State) (a : Addr) (b : List Nat), vs = [.ref A.o, .ref a] ∧ StA Z A H S ∧ LI H a (natsI b) ∧ b.length ≤ 2000 ∧ S.editions ≠ [] ∧
  (∀ x n l, Vbceaj.readSheet S.pages S.lines b = .ok (x, n, l) → Em.IsS (Vbceaj.size S) l → (∀ y ∈ l, Em.num y.old = true ∧ Em.num y.new = true) → ∀ H' q p, Same H H' → H p = none → RS H' p l → H' q = some (.tup [.int (x : Nat), .int (n : Nat), .ref p]) → Q (.ref q) H') ∧
  (∀ p, Vbceaj.readSheet S.pages S.lines b = .error p → ErrF Z E H p)
theorem ok_Office_read (T : Txt K mg Z) : OkM P w K mg base (L2.CX P w) 8 Z.cOffice "read" ["self", "data"] (spORead Z) := by
  obtain ⟨f0, fd0, M0, F0⟩ := T.d_Office_read
  obtain ⟨f_Reader_read, fd_Reader_read, M_Reader_read, G_Reader_read, B_Reader_read⟩ := ok_Reader_read (P := P) (w := w) (base := base) T
  obtain ⟨f_Reader_init, fd_Reader_init, M_Reader_init, G_Reader_init, B_Reader_init⟩ := ok_Reader_init (P := P) (w := w) (base := base) T
  refine ⟨f0, fd0, M0, F0.okX sc_Office_read (fun vs H Q E h => ?_) (fun cdv A outer s H vs Q E hr h => ?_), (F0.binds fun _ _ _ _ _ _ us hl => match us, hl with | [_, _], _ => rfl)⟩
  · obtain ⟨A, S, a, b, rfl, _⟩ := h
    rfl
  · obtain ⟨A, S, a, b, rfl, st, ha, hb, hn, ko, ke⟩ := h
    refine ⟨_, (pss_one (ps_ret (pe_meth0 (pe_make M_Reader_init G_Reader_init (hr.mono (by decide)) rfl T.g_Reader B_Reader_init .nil pass0 (pa_cons (pv 1) (pa_cons (pe_fld (pe_fld (pv 0) rfl) rfl) (pa_cons (pe_fld (pe_fld (pv 0) rfl) rfl) pa_nil)))) T.cl_Reader M_Reader_read G_Reader_read (hr.mono (by decide)) B_Reader_read .nil (passes_call (takes_of rfl rfl rfl rfl) fun _ _ _ _ h => h)))), ?_⟩
    obtain ⟨dx, ho⟩ := st.ob
    obtain ⟨db, hbk⟩ := st.bk
    obtain ⟨hp, hl⟩ := st.gd.some hn
    refine ⟨_, rfl, _, rfl, A.o, _, dx, _, _, rfl, ho, T.cl_Office, T.n_Office_book, rfl, A.b, _, db, _, _, rfl, hbk, T.cl_Book, T.n_Book_pages, rfl, _, rfl, A.o, _, dx, _, _, rfl, ho, T.cl_Office, T.n_Office_book, rfl, A.b, _, db, _, _, rfl, hbk, T.cl_Book, T.n_Book_lines, rfl, fun x dy hx hdy hne => ?_⟩
    have s1 : Same H (upd (upd H dy (.own x)) x (.ins Z.cReader dy [])) := fun c u e => by
      rw [upd_ne (ne_of_none e hx), upd_ne (ne_of_none e hdy)]; exact e
    refine ⟨x, dy, a, S.pages, S.lines, b, rfl, upd_same, s1 _ _ ha, hb, fun H1 wl R nw bt => ⟨rfl, ?_⟩⟩
    have s2 : Same H H1 := fun c u e => bt _ _ (s1 _ _ e) (ne_of_none e hx)
    obtain ⟨dr, hr, _⟩ := R.ob
    refine ⟨x, dr, _, rfl, hr, rfl, x, wl, b, S.pages, S.lines, rfl, R, hb, hp, st.gd.pg, hl, st.gd.ln, fun y n l hrd H' q p b2 np hS hq => ?_, fun p hrd H' d b2 nd hd => ?_⟩
    · have hrd' := hrd
      rw [Em.read_head] at hrd'
      have ok : Em.IsS (S.pages * S.lines) l ∧ ∀ y ∈ l, Em.num y.old = true ∧ Em.num y.new = true := by
        revert hrd'
        cases Em.headIn b.length (VbceCore.cut 0 b) with
        | error e => intro z; cases z
        | ok r =>
          obtain ⟨⟨a1, a2⟩, ws⟩ := r
          dsimp only
          intro hrd'
          cases q5 : Vbceaj.errataIn S.pages S.lines b.length (ws.length + 1) none ws with
          | error e => rw [q5] at hrd'; cases hrd'
          | ok l5 =>
            rw [q5] at hrd'
            injection hrd' with hrd'
            injection hrd' with _ hrd'
            injection hrd' with _ hrd'
            rw [← hrd']
            obtain ⟨o1, _, o3⟩ := Em.errata_ok hl hp _ _ _ _ q5
            exact ⟨o1, o3⟩
      exact ko y n l hrd ok.1 ok.2 H' q p (fun c u e => b2 _ _ (s2 _ _ e) (ne_of_none e hx)) (s2.free np) hS hq
    · exact ke p hrd H' d (fun c u e => b2 _ _ (s2 _ _ e) (ne_of_none e hx)) (s2.free nd) hd
/-- a call with one row -/
def spM1 (Z : Ad) (c : List Int → Vbceaj.Call) : Sp := fun vs H Q E => ∃ (A : Adr) (S : State) (a : Addr) (l : List Int), vs = [.ref A.o, .ref a] ∧ StA Z A H S ∧ LI H a l ∧ l.length ≤ 2000 ∧ Done Z A H Q E (Vbceaj.run S (c l))
theorem ok_Office_issue (T : Txt K mg Z) : OkM P w K mg base (L2.CX P w) 9 Z.cOffice "issue" ["self", "data"] (spM1 Z .issue) := by
  obtain ⟨f0, fd0, M0, F0⟩ := T.d_Office_issue
  obtain ⟨f_look_at_bytes, fd_look_at_bytes, g_look_at_bytes, k_look_at_bytes, G_look_at_bytes, B_look_at_bytes⟩ := ok_look_at_bytes (P := P) (w := w) (base := base) T
  obtain ⟨f_Office_look_at_book, fd_Office_look_at_book, M_Office_look_at_book, G_Office_look_at_book, B_Office_look_at_book⟩ := ok_Office_look_at_book (P := P) (w := w) (base := base) T
  obtain ⟨f_Office_read, fd_Office_read, M_Office_read, G_Office_read, B_Office_read⟩ := ok_Office_read (P := P) (w := w) (base := base) T
  obtain ⟨f_Book_next_faults, fd_Book_next_faults, M_Book_next_faults, G_Book_next_faults, B_Book_next_faults⟩ := ok_Book_next_faults (P := P) (w := w) (base := base) T
  obtain ⟨f_refuse_if, fd_refuse_if, g_refuse_if, k_refuse_if, G_refuse_if, B_refuse_if⟩ := ok_refuse_if (P := P) (w := w) (base := base) T
  obtain ⟨f_Refused_init, fd_Refused_init, X_Refused_init, I_Refused_init, Y_Refused_init, G_Refused_init, B_Refused_init⟩ := ok_Refused_init (P := P) (w := w) (base := base) T
  obtain ⟨f_Book_newest, fd_Book_newest, M_Book_newest, G_Book_newest, B_Book_newest⟩ := ok_Book_newest (P := P) (w := w) (base := base) T
  refine ⟨f0, fd0, M0, F0.okX sc_Office_issue (fun vs H Q E h => ?_) (fun cdv A outer s H vs Q E hr h => ?_), (F0.binds fun _ _ _ _ _ _ us hl => match us, hl with | [_, _], _ => rfl)⟩
  · obtain ⟨A, S, a, l, rfl, _⟩ := h
    rfl
  · obtain ⟨A, S, a, l, rfl, st, ha, hl, k⟩ := h
    refine ⟨_, (pss_cons (ps_expr (pe_call G_look_at_bytes (hr.mono (by decide)) rfl g_look_at_bytes k_look_at_bytes B_look_at_bytes .nil (passes_call (takes_of rfl rfl rfl rfl) fun _ _ _ _ h => h) (pa_cons (pv 1) pa_nil)))
  (pss_cons (ps_expr (pe_meth0 (pv 0) T.cl_Office M_Office_look_at_book G_Office_look_at_book (hr.mono (by decide)) B_Office_look_at_book .nil (passes_call (takes_of rfl rfl rfl rfl) fun _ _ _ _ h => h)))
  (pss_cons (ps_asg (pe_meth (pv 0) T.cl_Office M_Office_read G_Office_read (hr.mono (by decide)) B_Office_read .nil (passes_call (takes_of rfl rfl rfl rfl) fun _ _ _ _ h => h) (pa_cons (pv 1) pa_nil)) (pg_tup rfl (pgs_cons (pg_name (i := 2) sc_Office_issue.nd rfl (.inl rfl)) (pgs_cons (pg_name (i := 3) sc_Office_issue.nd rfl (.inl rfl)) (pgs_cons (pg_name (i := 4) sc_Office_issue.nd rfl (.inl rfl)) pgs_nil)))))
  (pss_cons (ps_set (i := 5) sc_Office_issue.nd rfl (Or.inl rfl) (pe_meth (pe_fld (pv 0) rfl) T.cl_Book M_Book_next_faults G_Book_next_faults (hr.mono (by decide)) B_Book_next_faults .nil pass0 (pa_cons (pv 2) (pa_cons (pv 3) (pa_cons (pv 4) pa_nil)))))
  (pss_cons (ps_expr (pe_call G_refuse_if (hr.mono (by decide)) rfl g_refuse_if k_refuse_if B_refuse_if .nil (passes_call (takes_of rfl rfl rfl rfl) fun _ _ _ _ h => h) (pa_cons (pe_cmpR (op_eqD hr.units) (pv 5) (pe_lst (pa_cons pe_int (pa_cons pe_int pa_nil))) (nomark _)) (pa_cons (pe_gint rfl T.g_FULL) pa_nil))))
  (pss_cons (ps_expr (pe_call G_refuse_if (hr.mono (by decide)) rfl g_refuse_if k_refuse_if B_refuse_if .nil (passes_call (takes_of rfl rfl rfl rfl) fun _ _ _ _ h => h) (pa_cons (pe_cmpR (op_eqD hr.units) (pv 5) (pe_lst (pa_cons pe_int (pa_cons pe_int pa_nil))) (nomark _)) (pa_cons (pe_gint rfl T.g_OTHER_SHEET) pa_nil))))
  (pss_cons (ps_if (pt_cmpR (op_neD hr.units) (pv 5) (pe_lst pa_nil) (nomark _)) (pss_one (ps_raise rfl (takes_of rfl rfl rfl rfl) (pmk_oex X_Refused_init I_Refused_init Y_Refused_init G_Refused_init (hr.mono (by decide)) B_Refused_init .nil pass0 rfl T.g_Refused (pa_cons (pe_op op_sub (pe_gint rfl T.g_WRONG_OLD) (pe_ix ix_list (pv 5) pe_int (fun _ _ => rfl))) pa_nil)))) pss_nil)
  (pss_cons (ps_expr (pe_bm PySem.F.plainAttrs_list PySem.F.slot_list_append PySem.F.type_list_append mt_append (pe_fld (pe_meth0 (pe_fld (pv 0) rfl) T.cl_Book M_Book_newest G_Book_newest (hr.mono (by decide)) B_Book_newest .nil pass0) rfl) (pa_cons (pv 4) pa_nil)))
  (pss_one (ps_ret (pe_lst (pa_cons (pe_callB call_len_seq (by rfl) T.b_len (by decide +kernel) (pa_cons (pe_fld (pe_meth0 (pe_fld (pv 0) rfl) T.cl_Book M_Book_newest G_Book_newest (hr.mono (by decide)) B_Book_newest .nil pass0) rfl) pa_nil)) pa_nil)))))))))))), ?_⟩
    simp only [Vbceaj.run, bind, Except.bind, pure, Except.pure] at k
    obtain ⟨dx, ho⟩ := st.ob
    obtain ⟨db, hbk⟩ := st.bk
    refine ⟨_, rfl, a, l, rfl, ha, hl, fun q H1 s1 => ?_, fun q => ?_⟩
    rotate_left
    · rw [text_err q] at k
      exact k.1
    rw [text_ok q hl] at k
    dsimp only at k
    have st1 := st.same s1
    refine ⟨_, rfl, A.o, dx, _, rfl, s1 _ _ ho, rfl, A, S, rfl, st1, fun q2 => ?_, fun q2 => ?_⟩
    rotate_left
    · rw [need_err (by rw [q2]; rfl)] at k
      exact ErrN.mono k.1 s1
    rw [need_ok (by rw [q2]; rfl)] at k
    dsimp only at k
    have hn := ne_empty q2
    have hni := nats_of q
    have lb : (l.map Int.toNat).length ≤ 2000 := by rw [List.length_map]; exact hl
    refine ⟨_, rfl, A.o, dx, _, rfl, s1 _ _ ho, rfl, _, rfl, A, S, a, l.map Int.toNat, rfl, st1, by rw [hni]; exact ha.same s1, lb, hn, fun x n t hrd iS nm H2 qt p s2 np hS hqt => ?_, fun p hrd => ?_⟩
    rotate_left
    · rw [hrd] at k
      have k' : ErrS Z E H (-1000 - (p : Int)) := k
      exact (k'.2 p rfl).mono s1
    rw [hrd] at k
    dsimp only at k
    refine tup3 hqt ?_
    have s02 : Same H H2 := s1.trans s2
    have st2 := st.same s02
    have np0 := s1.free np
    refine ⟨_, rfl, A.o, _, dx, _, _, rfl, s02 _ _ ho, T.cl_Office, T.n_Office_book, rfl, A.b, db, _, rfl, s02 _ _ hbk, rfl, _, rfl, _, rfl, _, rfl, A.b, p, x, n, S, t, rfl, st2.bkr, st2.gd, hn, hS, iS.lt, fun H3 f s3 nf hf => ?_⟩
    have s03 := s02.trans s3
    have st3 := st.same s03
    have fin : ∀ {v : List Int} {c : List Int} {H4 : Hp} {qq : Addr}, v = nfL S x n t → H4 qq = some (.lst (c.map V.int)) → Same H3 H4 → PySem.PyData.eqv (.list (v.map PyData.int)) (.list (c.map PyData.int)) = decide (v = c) := fun _ _ _ => eqv_all _ _
    refine ⟨_, rfl, (by show 2 ≤ sizeLine; decide), fun g ng => ?_⟩
    have s4 := same_new (o := .lst [.int 2, .int 8]) ng
    have hd := hind S hn x n t
    have hf4 : LI (upd H3 g (.lst [.int 2, .int 8])) f (nfL S x n t) := hf.same s4
    refine ⟨.list ((nfL S x n t).map PyData.int), .list (([2, 8] : List Int).map PyData.int), .lst (SqL.of hf4) (dp_ints _), .lst (SqL.of (show _ = some (HO.lst (([2, 8] : List Int).map V.int)) from upd_same)) (dp_ints _), ?_, rfl, ?_⟩
    · rcases hd with ⟨e, _⟩ | ⟨e, _⟩ | ⟨i, e, _⟩ | ⟨e, _⟩ <;> rw [e] <;> rfl
    rw [eqv_all]
    have st4 := st3.same s4
    refine ⟨_, _, rfl, fun c => ?_, fun c => ?_⟩
    rotate_left
    · have c' := of_decide_eq_true c
      have h8 : Vbceaj.hindrance S x n t = 8 := by
        rcases hd with ⟨e, h⟩ | ⟨e, h⟩ | ⟨i, e, h⟩ | ⟨e, h⟩
        · exact h
        · rw [e] at c'; cases c'
        · rw [e] at c'; cases c'
        · rw [e] at c'; cases c'
      rw [need_err (by rw [h8]; rfl), h8] at k
      exact ErrN.mono k.1 (s03.trans s4)
    have n8 := of_decide_eq_false c
    refine ⟨_, rfl, (by show 2 ≤ sizeLine; decide), fun g2 ng2 => ?_⟩
    have s5 := same_new (o := .lst [.int 2, .int 6]) ng2
    have hf5 := hf4.same s5
    refine ⟨.list ((nfL S x n t).map PyData.int), .list (([2, 6] : List Int).map PyData.int), .lst (SqL.of hf5) (dp_ints _), .lst (SqL.of (show _ = some (HO.lst (([2, 6] : List Int).map V.int)) from upd_same)) (dp_ints _), ?_, rfl, ?_⟩
    · rcases hd with ⟨e, _⟩ | ⟨e, _⟩ | ⟨i, e, _⟩ | ⟨e, _⟩ <;> rw [e] <;> rfl
    rw [eqv_all]
    refine ⟨_, _, rfl, fun c => ?_, fun c => ?_⟩
    rotate_left
    · have c' := of_decide_eq_true c
      have h6 : Vbceaj.hindrance S x n t = 6 := by
        rcases hd with ⟨e, h⟩ | ⟨e, h⟩ | ⟨i, e, h⟩ | ⟨e, h⟩
        · rw [e] at c'; cases c'
        · exact h
        · rw [e] at c'; cases c'
        · rw [e] at c'; cases c'
      rw [need_err (by rw [h6]; rfl), h6] at k
      exact ErrN.mono k.1 ((s03.trans s4).trans s5)
    have n6 := of_decide_eq_false c
    refine ⟨_, rfl, (by show 0 ≤ sizeLine; decide), fun g3 ng3 => ?_⟩
    have s6 := same_new (o := .lst []) ng3
    have hf6 := hf5.same s6
    refine ⟨.list ((nfL S x n t).map PyData.int), .list (([] : List Int).map PyData.int), .lst (SqL.of hf6) (dp_ints _), .lst (SqL.of (show _ = some (HO.lst (([] : List Int).map V.int)) from upd_same)) (dp_ints _), ?_, rfl, ?_⟩
    · rcases hd with ⟨e, _⟩ | ⟨e, _⟩ | ⟨i, e, _⟩ | ⟨e, _⟩ <;> rw [e] <;> rfl
    rw [eqv_all]
    have s36 := (s4.trans s5).trans s6
    have st6 := st3.same s36
    rcases hd with ⟨e, h⟩ | ⟨e, h⟩ | ⟨i, e, h⟩ | ⟨e, h, h8, hnn⟩
    · exact absurd e n8
    · exact absurd e n6
    · rw [e] at hf6 ⊢
      refine ⟨_, rfl, ifT rfl ?_⟩
      refine ⟨_, rfl, f, _, _, _, rfl, rfl, SqL.of hf6, atI_nat (j := 1) rfl, _, _, rfl, rfl, (by show 1 ≤ 1000; decide), ?_⟩
      rw [need_err (by rw [h]; simp), h] at k
      have k1 : ErrN Z E H (-((100000 + i : Nat) : Int)) := k.1
      have ez : -((100000 + i : Nat) : Int) = -100000 - (i : Int) := by omega
      rw [ez] at k1
      exact exc_tail fun d H' s7 nd hd => (ErrN.mono k1 (s03.trans s36)) H' d s7 nd hd
    · rw [e]
      refine ⟨_, rfl, ifF rfl ?_⟩
      rw [need_ok (by rw [h]; rfl)] at k
      dsimp only at k
      -- the sheet is put to the newest edition
      obtain ⟨d6, hb6⟩ := st6.bk
      obtain ⟨o6, ho6⟩ := st6.ob
      have hpos : 0 < S.editions.length := List.length_pos_iff.mpr hn
      obtain ⟨ed, hed⟩ : ∃ ed, A.eds[Vbceaj.newest S]? = some ed := ⟨_, List.getElem?_eq_getElem (by rw [st.el]; unfold Vbceaj.newest; omega)⟩
      obtain ⟨de, nu, ss, q1, q2', q3, q4, q5⟩ := st6.ed _ ed _ hed (newest_at hn)
      have hle : (A.eds.map (·.1))[(A.eds.map (·.1)).length - 1]? = some ed.1 := by
        rw [List.length_map, List.getElem?_map, st.el]
        have : S.editions.length - 1 = Vbceaj.newest S := rfl
        rw [this, hed]; rfl
      have hle2 := st6.le
      have hle3 : A.eds.map (fun e => V.ref e.1) = (A.eds.map (·.1)).map V.ref := by rw [List.map_map]; rfl
      rw [hle3] at hle2
      have hpA : p ∉ A.N := st.freshN np0
      have hS6 : RS _ p t := ((hS.same s3).same s36)
      refine ⟨_, rfl, A.o, _, o6, _, _, rfl, ho6, T.cl_Office, T.n_Office_book, rfl, A.b, d6, _, rfl, hb6, rfl, A.b, A.le, A.lc, d6, A.eds.map (·.1), _, _, ed.1, rfl, hb6, hle2, hle, ?_⟩
      refine ⟨ed.1, _, de, _, _, rfl, q1, T.cl_Edition, T.n_Edition_sheets, rfl, .inl ⟨rfl, _, SqL.of q4⟩, _, rfl, ed.2, _, _, rfl, rfl, q4, few ?_, ?_⟩
      · have l3 := congrArg List.length q3
        rw [List.length_map] at l3
        rw [List.length_map]; omega
      have st7 := sta_issue st6 hn hed iS nm h8 hpA hS6 q4
      obtain ⟨o7, ho7⟩ := st7.ob
      obtain ⟨d7, hb7⟩ := st7.bk
      have hle7 := st7.le
      rw [hle3] at hle7
      have e12 : ed.1 ≠ ed.2 := ne_of q1 q4 (by intro z; cases z)
      have q17 : ∀ o, (upd _ ed.2 o : Hp) ed.1 = some (.ins Z.cEdition de (fEd nu ed.2)) := fun o => by rw [upd_ne e12]; exact q1
      refine ⟨_, rfl, A.o, _, o7, _, _, rfl, ho7, T.cl_Office, T.n_Office_book, rfl, A.b, d7, _, rfl, hb7, rfl, A.b, A.le, A.lc, d7, A.eds.map (·.1), _, _, ed.1, rfl, hb7, hle7, hle, ?_⟩
      refine ⟨ed.1, _, de, _, _, rfl, q17 _, T.cl_Edition, T.n_Edition_sheets, rfl, ed.2, _, rfl, .inl (SqL.of upd_same), (by show 1 ≤ sizeLine; decide), fun r nr => ?_⟩
      have nr6 : r ≠ ed.2 := fun z => by rw [z, upd_same] at nr; cases nr
      have nr0 : H r = none := by
        rw [upd_ne nr6] at nr
        exact (s03.trans s36).free nr
      refine k A _ r (st7.same (same_new nr)) rfl (fun c u e0 h0 => ?_) (fun m hm => .inl hm) nr0 ?_
      · have cn : c ≠ ed.2 := fun z => h0 (by rw [z]; exact (Adr.e_mem (List.mem_of_getElem? hed)).2)
        rw [upd_ne (ne_of_none e0 nr0), upd_ne cn]
        exact (s03.trans s36) _ _ e0
      · show upd _ _ _ _ = _
        rw [upd_same]
        have l3 := congrArg List.length q3
        rw [List.length_map] at l3
        have : (((ss.map fun k => V.ref k.1) ++ [V.ref p]).length : Int) = ((n + 1 : Nat) : Int) := by
          rw [List.length_append, List.length_map, l3, hnn]; rfl
        rw [this]
        rfl
end
end EX
namespace EX
open PySem PySem.Spec PyProof.Rows L2
open Vbceaj (Sheet Erratum State)
theorem btw_len (l m : List Int) : (Vbceaj.between l m).length ≤ l.length := by
  rw [Em.between_eq]
  refine Nat.le_trans (List.length_filterMap_le _ _) ?_
  rw [List.length_zipIdx, List.length_zip]; omega
theorem StA.cpy {Z : Ad} {A : Adr} {H : Hp} {S : State} (st : StA Z A H S) {i : Nat} {c : Addr} {x : Vbceaj.Copy} (hx : S.copies[i]? = some x) (hc : A.cps[i]? = some c) : CpR Z H c x ∧ x.now.length = Vbceaj.size S ∧ x.edition < S.editions.length ∧ x.pen ≤ (Vbceaj.edition S x.edition).sheets.length ∧ S.editions ≠ [] := by
  have g := st.gd.cp x (List.mem_of_getElem? hx)
  exact ⟨(st.cp i c x hc hx).cpR off_up, g.2.1, g.1, g.2.2, fun z => by rw [z] at g; exact absurd g.1 (Nat.not_lt_zero _)⟩
theorem ed_at {S : State} {i : Nat} (h : i < S.editions.length) : S.editions[i]? = some (Vbceaj.edition S i) := by
  unfold Vbceaj.edition
  rw [List.getD_eq_getElem?_getD, List.getElem?_eq_getElem h]; rfl
/-- with one number; with two -/
def spN1 (Z : Ad) (c : Int → Vbceaj.Call) : Sp := fun vs H Q E => ∃ (A : Adr) (S : State) (n : Int), vs = [.ref A.o, .int n] ∧ StA Z A H S ∧ Done Z A H Q E (Vbceaj.run S (c n))
def spN2 (Z : Ad) (c : Int → Int → Vbceaj.Call) : Sp := fun vs H Q E => ∃ (A : Adr) (S : State) (n m : Int), vs = [.ref A.o, .int n, .int m] ∧ StA Z A H S ∧ Done Z A H Q E (Vbceaj.run S (c n m))
/-- with two rows in a list -/
def spR2 (Z : Ad) (c : List Int → List Int → Vbceaj.Call) : Sp := fun vs H Q E => ∃ (A : Adr) (S : State) (r : Addr) (a b : List Int), vs = [.ref A.o, .ref r] ∧ StA Z A H S ∧ RL H r [a, b] ∧ a.length ≤ 2000 ∧ b.length ≤ 2000 ∧ Done Z A H Q E (Vbceaj.run S (c a b))
section
variable {P : Program} {w : World} {K : PySem.W.Frag} {mg : Str → Option Value} {base : Heap} {Z : Ad}
theorem ok_Office_told_copy (T : Txt K mg Z) : OkM P w K mg base (L2.CX P w) 6 Z.cOffice "told_copy" ["self", "number"] (spN1 Z .copy) := by
  obtain ⟨f0, fd0, M0, F0⟩ := T.d_Office_told_copy
  obtain ⟨f_Office_copy_of, fd_Office_copy_of, M_Office_copy_of, G_Office_copy_of, B_Office_copy_of⟩ := ok_Office_copy_of (P := P) (w := w) (base := base) T
  refine ⟨f0, fd0, M0, F0.okX sc_Office_told_copy (fun vs H Q E h => ?_) (fun cdv A outer s H vs Q E hr h => ?_), (F0.binds fun _ _ _ _ _ _ us hl => match us, hl with | [_, _], _ => rfl)⟩
  · obtain ⟨A, S, n, rfl, _⟩ := h
    rfl
  · obtain ⟨A, S, n, rfl, st, k⟩ := h
    refine ⟨_, (pss_cons (ps_set (i := 2) sc_Office_told_copy.nd rfl (Or.inl rfl) (pe_meth (pv 0) T.cl_Office M_Office_copy_of G_Office_copy_of (hr.mono (by decide)) B_Office_copy_of .nil (passes_call (takes_of rfl rfl rfl rfl) fun _ _ _ _ h => h) (pa_cons (pv 1) pa_nil)))
  (pss_one (ps_ret (pe_op op_cat (pe_lst (pa_cons (pe_fld (pv 2) rfl) (pa_cons (pe_fld (pv 2) rfl) (pa_cons (pe_callB call_len_seq (by rfl) T.b_len (by decide +kernel) (pa_cons (pe_fld (pv 2) rfl) pa_nil)) pa_nil)))) (pe_fld (pv 2) rfl))))), ?_⟩
    simp only [Vbceaj.run, bind, Except.bind, pure, Except.pure] at k
    obtain ⟨dx, ho⟩ := st.ob
    refine ⟨_, rfl, A.o, dx, _, rfl, ho, rfl, _, rfl, A, S, n, rfl, st, fun i x c hci hx hc => ?_, fun e he => ?_⟩
    rotate_left
    · rw [he] at k; exact k.1
    rw [hci] at k
    dsimp only at k
    obtain ⟨⟨dc, nu, h1, h2⟩, l1, l2, l3, hn⟩ := st.cpy hx hc
    have g60 := st.gd.sz
    refine ⟨_, rfl, c, _, dc, _, _, rfl, h1, T.cl_Copy, T.n_Copy_edition, rfl, _, rfl, c, _, dc, _, _, rfl, h1, T.cl_Copy, T.n_Copy_many, rfl, _, rfl, c, _, dc, _, _, rfl, h1, T.cl_Copy, T.n_Copy_numbers, rfl, nu, _, rfl, .inl (SqL.of h2), (by show 3 ≤ sizeLine; decide), fun p np => ?_⟩
    have s1 := same_new (o := .lst [.int (x.edition : Nat), .int (x.pen : Nat), .int ((x.now.map V.int).length : Nat)]) np
    refine ⟨_, rfl, c, _, dc, _, _, rfl, s1 _ _ h1, T.cl_Copy, T.n_Copy_numbers, rfl, p, nu, _, _, rfl, rfl, upd_same, s1 _ _ h2, Nat.le_of_lt (few (by rw [List.length_map, l1]; show 3 + _ ≤ _; omega)), fun q nq => ?_⟩
    refine k.ro st (s1.trans (same_new nq)) (s1.free nq) ?_
    show upd _ _ _ _ = _
    rw [upd_same, List.length_map]
    rfl
theorem ok_Office_diff (T : Txt K mg Z) : OkM P w K mg base (L2.CX P w) 6 Z.cOffice "diff" ["self", "one", "other"] (spN2 Z .diff) := by
  obtain ⟨f0, fd0, M0, F0⟩ := T.d_Office_diff
  obtain ⟨f_Office_copy_of, fd_Office_copy_of, M_Office_copy_of, G_Office_copy_of, B_Office_copy_of⟩ := ok_Office_copy_of (P := P) (w := w) (base := base) T
  obtain ⟨f_told, fd_told, g_told, k_told, G_told, B_told⟩ := ok_told (P := P) (w := w) (base := base) T
  obtain ⟨f_between, fd_between, g_between, k_between, G_between, B_between⟩ := ok_between (P := P) (w := w) (base := base) T
  refine ⟨f0, fd0, M0, F0.okX sc_Office_diff (fun vs H Q E h => ?_) (fun cdv A outer s H vs Q E hr h => ?_), (F0.binds fun _ _ _ _ _ _ us hl => match us, hl with | [_, _, _], _ => rfl)⟩
  · obtain ⟨A, S, n, m, rfl, _⟩ := h
    rfl
  · obtain ⟨A, S, n, m, rfl, st, k⟩ := h
    refine ⟨_, (pss_cons (ps_set (i := 3) sc_Office_diff.nd rfl (Or.inl rfl) (pe_meth (pv 0) T.cl_Office M_Office_copy_of G_Office_copy_of (hr.mono (by decide)) B_Office_copy_of .nil (passes_call (takes_of rfl rfl rfl rfl) fun _ _ _ _ h => h) (pa_cons (pv 1) pa_nil)))
  (pss_one (ps_ret (pe_call G_told (hr.mono (by decide)) rfl g_told k_told B_told .nil pass0 (pa_cons (pe_call G_between (hr.mono (by decide)) rfl g_between k_between B_between .nil pass0 (pa_cons (pe_fld (pv 3) rfl) (pa_cons (pe_fld (pe_meth (pv 0) T.cl_Office M_Office_copy_of G_Office_copy_of (hr.mono (by decide)) B_Office_copy_of .nil (passes_call (takes_of rfl rfl rfl rfl) fun _ _ _ _ h => h) (pa_cons (pv 2) pa_nil)) rfl) pa_nil))) pa_nil))))), ?_⟩
    simp only [Vbceaj.run, bind, Except.bind, pure, Except.pure] at k
    obtain ⟨dx, ho⟩ := st.ob
    refine ⟨_, rfl, A.o, dx, _, rfl, ho, rfl, _, rfl, A, S, n, rfl, st, fun i x c hci hx hc => ?_, fun e he => ?_⟩
    rotate_left
    · rw [he] at k; exact k.1
    rw [hci] at k
    dsimp only at k
    obtain ⟨⟨dc, nu, h1, h2⟩, l1, l2, l3, hn⟩ := st.cpy hx hc
    have g60 := st.gd.sz
    refine ⟨_, rfl, c, _, dc, _, _, rfl, h1, T.cl_Copy, T.n_Copy_numbers, rfl, ?_⟩
    refine ⟨_, rfl, A.o, dx, _, rfl, ho, rfl, _, rfl, A, S, m, rfl, st, fun j y c' hcj hy hc' => ?_, fun e he => ?_⟩
    rotate_left
    · rw [he] at k; exact k.1
    rw [hcj] at k
    dsimp only at k
    obtain ⟨⟨dc', nu', h1', h2'⟩, l1', _⟩ := st.cpy hy hc'
    refine ⟨c', _, dc', _, _, rfl, h1', T.cl_Copy, T.n_Copy_numbers, rfl, nu, nu', _, _, rfl, h2, h2', by omega, fun H1 p s1 np hp => ?_⟩
    have bl := btw_len x.now y.now
    exact ⟨p, _, rfl, hp, by omega, fun H2 q s2 nq hq => k.ro st (s1.trans s2) (s1.free nq) hq⟩
theorem ok_Office_mend (T : Txt K mg Z) : OkM P w K mg base (L2.CX P w) 6 Z.cOffice "mend" ["self", "number"] (spN1 Z .mend) := by
  obtain ⟨f0, fd0, M0, F0⟩ := T.d_Office_mend
  obtain ⟨f_told, fd_told, g_told, k_told, G_told, B_told⟩ := ok_told (P := P) (w := w) (base := base) T
  obtain ⟨f_Book_mending, fd_Book_mending, M_Book_mending, G_Book_mending, B_Book_mending⟩ := ok_Book_mending (P := P) (w := w) (base := base) T
  obtain ⟨f_Office_copy_of, fd_Office_copy_of, M_Office_copy_of, G_Office_copy_of, B_Office_copy_of⟩ := ok_Office_copy_of (P := P) (w := w) (base := base) T
  refine ⟨f0, fd0, M0, F0.okX sc_Office_mend (fun vs H Q E h => ?_) (fun cdv A outer s H vs Q E hr h => ?_), (F0.binds fun _ _ _ _ _ _ us hl => match us, hl with | [_, _], _ => rfl)⟩
  · obtain ⟨A, S, n, rfl, _⟩ := h
    rfl
  · obtain ⟨A, S, n, rfl, st, k⟩ := h
    refine ⟨_, (pss_one (ps_ret (pe_call G_told (hr.mono (by decide)) rfl g_told k_told B_told .nil pass0 (pa_cons (pe_meth (pe_fld (pv 0) rfl) T.cl_Book M_Book_mending G_Book_mending (hr.mono (by decide)) B_Book_mending .nil pass0 (pa_cons (pe_meth (pv 0) T.cl_Office M_Office_copy_of G_Office_copy_of (hr.mono (by decide)) B_Office_copy_of .nil (passes_call (takes_of rfl rfl rfl rfl) fun _ _ _ _ h => h) (pa_cons (pv 1) pa_nil)) pa_nil)) pa_nil)))), ?_⟩
    simp only [Vbceaj.run, bind, Except.bind, pure, Except.pure] at k
    obtain ⟨dx, ho⟩ := st.ob
    obtain ⟨db, hbk⟩ := st.bk
    refine ⟨_, rfl, A.o, _, dx, _, _, rfl, ho, T.cl_Office, T.n_Office_book, rfl, A.b, db, _, rfl, hbk, rfl, ?_⟩
    refine ⟨_, rfl, A.o, dx, _, rfl, ho, rfl, _, rfl, A, S, n, rfl, st, fun i x c hci hx hc => ?_, fun e he => ?_⟩
    rotate_left
    · rw [he] at k; exact k.1
    rw [hci] at k
    dsimp only at k
    obtain ⟨hR, l1, l2, l3, hn⟩ := st.cpy hx hc
    have g60 := st.gd.sz
    refine ⟨A.b, c, S, x, rfl, st.bkr, st.gd, hn, hR, by omega, fun H1 p s1 np hp => ?_⟩
    have bl := btw_len x.now (Vbceaj.whole (Vbceaj.edition S (Vbceaj.newest S)))
    exact ⟨p, _, rfl, hp, by omega, fun H2 q s2 nq hq => k.ro st (s1.trans s2) (s1.free nq) hq⟩
/-- with the numbers in a list: those of the calls 6, 7 -/
def spS4 (Z : Ad) (c : Int → Int → Int → Int → Vbceaj.Call) : Sp := fun vs H Q E => ∃ (A : Adr) (S : State) (r : Addr) (a b c' d : Int), vs = [.ref A.o, .ref r] ∧ StA Z A H S ∧ LI H r [a, b, c', d] ∧ Done Z A H Q E (Vbceaj.run S (c a b c' d))
theorem atI3 {x y z u : V} {l : List V} : atI (x :: y :: z :: u :: l) 3 = some u := atI_nat (j := 3) rfl
theorem ok_Office_stands (T : Txt K mg Z) : OkM P w K mg base (L2.CX P w) 6 Z.cOffice "stands" ["self", "some"] (spS4 Z .stands) := by
  obtain ⟨f0, fd0, M0, F0⟩ := T.d_Office_stands
  obtain ⟨f_Office_edition_of, fd_Office_edition_of, M_Office_edition_of, G_Office_edition_of, B_Office_edition_of⟩ := ok_Office_edition_of (P := P) (w := w) (base := base) T
  obtain ⟨f_in_range, fd_in_range, g_in_range, k_in_range, G_in_range, B_in_range⟩ := ok_in_range (P := P) (w := w) (base := base) T
  obtain ⟨f_Office_place_of, fd_Office_place_of, M_Office_place_of, G_Office_place_of, B_Office_place_of⟩ := ok_Office_place_of (P := P) (w := w) (base := base) T
  obtain ⟨f_refuse_if, fd_refuse_if, g_refuse_if, k_refuse_if, G_refuse_if, B_refuse_if⟩ := ok_refuse_if (P := P) (w := w) (base := base) T
  obtain ⟨f_Edition_with_sheets, fd_Edition_with_sheets, M_Edition_with_sheets, G_Edition_with_sheets, B_Edition_with_sheets⟩ := ok_Edition_with_sheets (P := P) (w := w) (base := base) T
  refine ⟨f0, fd0, M0, F0.okX sc_Office_stands (fun vs H Q E h => ?_) (fun cdv A outer s H vs Q E hr h => ?_), (F0.binds fun _ _ _ _ _ _ us hl => match us, hl with | [_, _], _ => rfl)⟩
  · obtain ⟨A, S, r, a, b, c', d, rfl, _⟩ := h
    rfl
  · obtain ⟨A, S, r, a, b, c, d, rfl, st, hr1, k⟩ := h
    refine ⟨_, (pss_cons (ps_set (i := 2) sc_Office_stands.nd rfl (Or.inl rfl) (pe_meth (pv 0) T.cl_Office M_Office_edition_of G_Office_edition_of (hr.mono (by decide)) B_Office_edition_of .nil (passes_call (takes_of rfl rfl rfl rfl) fun _ _ _ _ h => h) (pa_cons (pe_ix ix_list (pv 1) pe_int (fun _ _ => rfl)) pa_nil)))
  (pss_cons (ps_expr (pe_call G_in_range (hr.mono (by decide)) rfl g_in_range k_in_range B_in_range .nil (passes_call (takes_of rfl rfl rfl rfl) fun _ _ _ _ h => h) (pa_cons (pe_ix ix_list (pv 1) pe_int (fun _ _ => rfl)) (pa_cons pe_int (pa_cons (pe_op op_add (pe_gint rfl T.g_LAST_SHEET) pe_int) pa_nil)))))
  (pss_cons (ps_set (i := 3) sc_Office_stands.nd rfl (Or.inl rfl) (pe_meth (pv 0) T.cl_Office M_Office_place_of G_Office_place_of (hr.mono (by decide)) B_Office_place_of .nil (passes_call (takes_of rfl rfl rfl rfl) fun _ _ _ _ h => h) (pa_cons (pe_ix ix_list (pv 1) pe_int (fun _ _ => rfl)) (pa_cons (pe_ix ix_list (pv 1) pe_int (fun _ _ => rfl)) pa_nil))))
  (pss_cons (ps_expr (pe_call G_refuse_if (hr.mono (by decide)) rfl g_refuse_if k_refuse_if B_refuse_if .nil (passes_call (takes_of rfl rfl rfl rfl) fun _ _ _ _ h => h) (pa_cons (pe_cmpR op_lt (pe_callB call_len_seq (by rfl) T.b_len (by decide +kernel) (pa_cons (pe_fld (pv 2) rfl) pa_nil)) (pe_ix ix_list (pv 1) pe_int (fun _ _ => rfl)) (nomark _)) (pa_cons (pe_gint rfl T.g_NOT_AS_TOLD) pa_nil))))
  (pss_one (ps_ret (pe_lst (pa_cons pe_int (pa_cons (pe_ix ix_list (pe_meth (pv 2) T.cl_Edition M_Edition_with_sheets G_Edition_with_sheets (hr.mono (by decide)) B_Edition_with_sheets .nil pass0 (pa_cons (pe_ix ix_list (pv 1) pe_int (fun _ _ => rfl)) pa_nil)) (pv 3) (fun _ _ => rfl)) pa_nil))))))))), ?_⟩
    simp only [Vbceaj.run, bind, Except.bind, pure, Except.pure] at k
    obtain ⟨dx, ho⟩ := st.ob
    refine ⟨_, rfl, A.o, dx, _, rfl, ho, rfl, _, rfl, r, _, _, _, rfl, rfl, SqL.of hr1, atI0, A, S, a, rfl, st, fun x ed hE hx hed h07 => ?_, fun e he => ?_⟩
    rotate_left
    · rw [he] at k; exact k.1
    rw [hE] at k
    dsimp only at k
    refine ⟨_, rfl, r, _, _, _, rfl, rfl, SqL.of hr1, atI1, _, _, rfl, rfl, b, 0, 8, rfl, fun q => ?_, fun q => ?_⟩
    rotate_left
    · rw [within_err q] at k; exact k.1
    rw [within_ok q] at k
    have hb := bt_of q
    dsimp only at k
    refine ⟨_, rfl, A.o, dx, _, rfl, ho, rfl, _, rfl, r, _, _, _, rfl, rfl, SqL.of hr1, atI2, _, rfl, r, _, _, _, rfl, rfl, SqL.of hr1, atI3, A, S, c, d, rfl, st, fun pl hpl hlt hn => ?_, fun e he => ?_⟩
    rotate_left
    · rw [he] at k; exact k.1
    rw [hpl] at k
    dsimp only at k
    have hER := (st.ed _ ed x hed hx).edR off_up
    obtain ⟨de, nu, ss, h1, h2, ⟨ks, ek, h3, h4⟩⟩ := hER.ob
    have ok := st.gd.ed x (List.mem_of_getElem? hx)
    have el : ((ks.map fun k => V.ref k.1).length : Int) = (x.sheets.length : Int) := by rw [LR.len ek]
    refine ⟨_, rfl, ed.1, _, de, _, _, rfl, h1, T.cl_Edition, T.n_Edition_sheets, rfl, ss, _, rfl, .inl (SqL.of h3), _, rfl, r, _, _, _, rfl, rfl, SqL.of hr1, atI1, _, _, rfl, rfl, _, _, rfl, fun c1 => ?_, fun c1 => ?_⟩
    rotate_left
    · have c1' := of_decide_eq_true c1
      rw [need_err (decide_eq_false (by omega))] at k
      exact k.1
    have c1' := of_decide_eq_false c1
    rw [need_ok (decide_eq_true (by omega))] at k
    dsimp only at k
    have eb : b = ((b.toNat : Nat) : Int) := by omega
    refine ⟨_, rfl, ed.1, de, _, rfl, h1, rfl, _, rfl, r, _, _, _, rfl, rfl, SqL.of hr1, atI1, ed.1, b.toNat, _, x, by rw [← eb]; rfl, hER, ok, fun H1 p s1 hp _ => ?_⟩
    have lp : pl < (Vbceaj.amended x b.toNat).length := by rw [am_len ok.num]; exact hlt
    refine ⟨_, rfl, p, _, _, _, rfl, rfl, SqL.of hp, atI_nat (getD_at lp), (by show 2 ≤ sizeLine; decide), fun q nq => ?_⟩
    exact k.ro st (s1.trans (same_new nq)) (s1.free nq) upd_same
/-- with one row: the newest edition looked at -/
theorem ok_Office_wrong (T : Txt K mg Z) : OkM P w K mg base (L2.CX P w) 5 Z.cOffice "wrong" ["self", "row"] (spM1 Z .wrong) := by
  obtain ⟨f0, fd0, M0, F0⟩ := T.d_Office_wrong
  obtain ⟨f_Office_look_at_book, fd_Office_look_at_book, M_Office_look_at_book, G_Office_look_at_book, B_Office_look_at_book⟩ := ok_Office_look_at_book (P := P) (w := w) (base := base) T
  obtain ⟨f_Office_look_at_numbers, fd_Office_look_at_numbers, M_Office_look_at_numbers, G_Office_look_at_numbers, B_Office_look_at_numbers⟩ := ok_Office_look_at_numbers (P := P) (w := w) (base := base) T
  obtain ⟨f_told, fd_told, g_told, k_told, G_told, B_told⟩ := ok_told (P := P) (w := w) (base := base) T
  obtain ⟨f_between, fd_between, g_between, k_between, G_between, B_between⟩ := ok_between (P := P) (w := w) (base := base) T
  obtain ⟨f_Edition_whole, fd_Edition_whole, M_Edition_whole, G_Edition_whole, B_Edition_whole⟩ := ok_Edition_whole (P := P) (w := w) (base := base) T
  obtain ⟨f_Book_newest, fd_Book_newest, M_Book_newest, G_Book_newest, B_Book_newest⟩ := ok_Book_newest (P := P) (w := w) (base := base) T
  refine ⟨f0, fd0, M0, F0.okX sc_Office_wrong (fun vs H Q E h => ?_) (fun cdv A outer s H vs Q E hr h => ?_), (F0.binds fun _ _ _ _ _ _ us hl => match us, hl with | [_, _], _ => rfl)⟩
  · obtain ⟨A, S, a, l, rfl, _⟩ := h
    rfl
  · obtain ⟨A, S, a, l, rfl, st, ha, hl, k⟩ := h
    refine ⟨_, (pss_cons (ps_expr (pe_meth0 (pv 0) T.cl_Office M_Office_look_at_book G_Office_look_at_book (hr.mono (by decide)) B_Office_look_at_book .nil (passes_call (takes_of rfl rfl rfl rfl) fun _ _ _ _ h => h)))
  (pss_cons (ps_expr (pe_meth (pv 0) T.cl_Office M_Office_look_at_numbers G_Office_look_at_numbers (hr.mono (by decide)) B_Office_look_at_numbers .nil (passes_call (takes_of rfl rfl rfl rfl) fun _ _ _ _ h => h) (pa_cons (pv 1) pa_nil)))
  (pss_one (ps_ret (pe_call G_told (hr.mono (by decide)) rfl g_told k_told B_told .nil pass0 (pa_cons (pe_call G_between (hr.mono (by decide)) rfl g_between k_between B_between .nil pass0 (pa_cons (pe_meth0 (pe_meth0 (pe_fld (pv 0) rfl) T.cl_Book M_Book_newest G_Book_newest (hr.mono (by decide)) B_Book_newest .nil pass0) T.cl_Edition M_Edition_whole G_Edition_whole (hr.mono (by decide)) B_Edition_whole .nil pass0) (pa_cons (pv 1) pa_nil))) pa_nil)))))), ?_⟩
    simp only [Vbceaj.run, bind, Except.bind, pure, Except.pure] at k
    obtain ⟨dx, ho⟩ := st.ob
    refine ⟨_, rfl, A.o, dx, _, rfl, ho, rfl, A, S, rfl, st, fun q2 => ?_, fun q2 => ?_⟩
    rotate_left
    · rw [need_err (by rw [q2]; rfl)] at k; exact k.1
    rw [need_ok (by rw [q2]; rfl)] at k
    dsimp only at k
    have hn := ne_empty q2
    refine ⟨_, rfl, A.o, dx, _, rfl, ho, rfl, _, rfl, A, S, a, l, rfl, st, ha, hl, fun q H1 s1 => ?_, fun q => ?_⟩
    rotate_left
    · rw [need_err q] at k; exact k.1
    rw [need_ok q] at k
    dsimp only at k
    have st1 := st.same s1
    obtain ⟨d1, ho1⟩ := st1.ob
    obtain ⟨d2, hb1⟩ := st1.bk
    obtain ⟨e1, e2, e3⟩ := st1.bkr.ob
    obtain ⟨lc0, h4, h5, h6⟩ := e3
    obtain ⟨es, e, h7, h8, h9⟩ := newest_of h5 hn
    obtain ⟨de, nu, ss, h10, _⟩ := h9.ob
    have ok := st.gd.new hn
    have g60 := st.gd.sz
    refine ⟨_, rfl, A.o, _, d1, _, _, rfl, ho1, T.cl_Office, T.n_Office_book, rfl, A.b, e1, _, rfl, h4, rfl, A.b, e2, lc0, e1, es, _, _, e, rfl, h4, h7, h8, ?_⟩
    refine ⟨e, de, _, rfl, h10, rfl, e, _, _, rfl, h9, ok, fun H2 p s2 hp _ => ?_⟩
    have lw := am_lenW ok.num
    refine ⟨_, rfl, p, a, _, _, rfl, hp, (ha.same s1).same s2, by omega, fun H3 q s3 nq hq => ?_⟩
    have bl := btw_len (Vbceaj.whole (Vbceaj.edition S (Vbceaj.newest S))) l
    have s13 := (s1.trans s2).trans s3
    exact ⟨q, _, rfl, hq, by omega, fun H4 r s4 nr hr => k.ro st (s13.trans s4) (s13.free nr) hr⟩
theorem tr_flat (L : List (Nat × Nat × Nat)) : (L.map tr3).flatten = L.flatMap fun y => VbceCore.ints [y.1, y.2.1, y.2.2] := by
  induction L with
  | nil => rfl
  | cons y L ih => rw [List.map_cons, List.flatten_cons, List.flatMap_cons, ih]; rfl
theorem ok_Office_spoiled (T : Txt K mg Z) : OkM P w K mg base (L2.CX P w) 5 Z.cOffice "spoiled" ["self", "row"] (spM1 Z .spoiled) := by
  obtain ⟨f0, fd0, M0, F0⟩ := T.d_Office_spoiled
  obtain ⟨f_Office_look_at_book, fd_Office_look_at_book, M_Office_look_at_book, G_Office_look_at_book, B_Office_look_at_book⟩ := ok_Office_look_at_book (P := P) (w := w) (base := base) T
  obtain ⟨f_Office_look_at_numbers, fd_Office_look_at_numbers, M_Office_look_at_numbers, G_Office_look_at_numbers, B_Office_look_at_numbers⟩ := ok_Office_look_at_numbers (P := P) (w := w) (base := base) T
  obtain ⟨f_Book_spoiling, fd_Book_spoiling, M_Book_spoiling, G_Book_spoiling, B_Book_spoiling⟩ := ok_Book_spoiling (P := P) (w := w) (base := base) T
  obtain ⟨f_flat, fd_flat, g_flat, k_flat, G_flat, B_flat⟩ := ok_flat (P := P) (w := w) (base := base) T
  refine ⟨f0, fd0, M0, F0.okX sc_Office_spoiled (fun vs H Q E h => ?_) (fun cdv A outer s H vs Q E hr h => ?_), (F0.binds fun _ _ _ _ _ _ us hl => match us, hl with | [_, _], _ => rfl)⟩
  · obtain ⟨A, S, a, l, rfl, _⟩ := h
    rfl
  · obtain ⟨A, S, a, l, rfl, st, ha, hl, k⟩ := h
    refine ⟨_, (pss_cons (ps_expr (pe_meth0 (pv 0) T.cl_Office M_Office_look_at_book G_Office_look_at_book (hr.mono (by decide)) B_Office_look_at_book .nil (passes_call (takes_of rfl rfl rfl rfl) fun _ _ _ _ h => h)))
  (pss_cons (ps_expr (pe_meth (pv 0) T.cl_Office M_Office_look_at_numbers G_Office_look_at_numbers (hr.mono (by decide)) B_Office_look_at_numbers .nil (passes_call (takes_of rfl rfl rfl rfl) fun _ _ _ _ h => h) (pa_cons (pv 1) pa_nil)))
  (pss_cons (ps_set (i := 2) sc_Office_spoiled.nd rfl (Or.inl rfl) (pe_meth (pe_fld (pv 0) rfl) T.cl_Book M_Book_spoiling G_Book_spoiling (hr.mono (by decide)) B_Book_spoiling .nil pass0 (pa_cons (pv 1) pa_nil)))
  (pss_one (ps_ret (pe_op op_cat (pe_lst (pa_cons (pe_callB call_len_seq (by rfl) T.b_len (by decide +kernel) (pa_cons (pv 2) pa_nil)) pa_nil)) (pe_call G_flat (hr.mono (by decide)) rfl g_flat k_flat B_flat .nil pass0 (pa_cons (pv 2) pa_nil)))))))), ?_⟩
    simp only [Vbceaj.run, bind, Except.bind, pure, Except.pure] at k
    obtain ⟨dx, ho⟩ := st.ob
    refine ⟨_, rfl, A.o, dx, _, rfl, ho, rfl, A, S, rfl, st, fun q2 => ?_, fun q2 => ?_⟩
    rotate_left
    · rw [need_err (by rw [q2]; rfl)] at k; exact k.1
    rw [need_ok (by rw [q2]; rfl)] at k
    dsimp only at k
    refine ⟨_, rfl, A.o, dx, _, rfl, ho, rfl, _, rfl, A, S, a, l, rfl, st, ha, hl, fun q H1 s1 => ?_, fun q => ?_⟩
    rotate_left
    · rw [need_err q] at k; exact k.1
    rw [need_ok q] at k
    dsimp only at k
    have st1 := st.same s1
    obtain ⟨d1, ho1⟩ := st1.ob
    obtain ⟨d2, hb1⟩ := st1.bk
    have ll : l.length = Vbceaj.size S := by
      unfold Vbceaj.isNumbers at q
      rw [Bool.and_eq_true, beq_iff_eq] at q
      exact q.1
    refine ⟨_, rfl, A.o, _, d1, _, _, rfl, ho1, T.cl_Office, T.n_Office_book, rfl, A.b, d2, _, rfl, hb1, rfl, _, rfl, A.b, a, S, l, rfl, st1.bkr, st1.gd, ha.same s1, ll, fun H2 p s2 np hp => ?_⟩
    have hp' := hp
    obtain ⟨ks, ek, hpl, hkk⟩ := hp
    have sl := spoEd_len st.gd.sz l (l := S.editions.zipIdx) fun x hx => st.gd.ed _ (List.fst_mem_of_mem_zipIdx hx)
    rw [List.length_zipIdx] at sl
    have e8 := st.gd.el
    have sl' : (Vbceaj.spoiled S l).length ≤ 4000 := by rw [Em.spoiled_eq]; omega
    refine ⟨_, rfl, p, _, rfl, .inl (SqL.of hpl), (by show 1 ≤ sizeLine; decide), fun f nf => ?_⟩
    have s3 := same_new (o := .lst [.int ((ks.map fun k => V.ref k.1).length : Nat)]) nf
    refine ⟨_, rfl, p, _, rfl, hp'.same s3, fun r hr => ?_, by rw [List.length_map]; omega, fun H4 g s4 ng hg => ?_⟩
    · obtain ⟨y, _, rfl⟩ := List.mem_map.mp hr; exact Nat.le_refl 3
    have s34 := s3.trans s4
    have fl := flat_len (L := (Vbceaj.spoiled S l).map tr3) fun r hr => by obtain ⟨y, _, rfl⟩ := List.mem_map.mp hr; exact Nat.le_refl 3
    rw [List.length_map] at fl
    refine ⟨f, g, _, _, rfl, rfl, s4 _ _ upd_same, hg, Nat.le_of_lt (few (by show 1 + (List.map V.int _).length ≤ _; rw [List.length_map]; omega)), fun r nr => ?_⟩
    refine k.ro st (((s1.trans s2).trans s34).trans (same_new nr)) (((s1.trans s2).trans s34).free nr) ?_
    show upd _ _ _ _ = _
    rw [upd_same, LR.len ek, List.length_map, tr_flat]
    rfl
end
end EX
namespace EX
open PySem PySem.Spec PyProof.Rows L2
open Vbceaj (Sheet Erratum State)
section
variable {P : Program} {w : World} {K : PySem.W.Frag} {mg : Str → Option Value} {base : Heap} {Z : Ad}
def hi3 (pl : Nat) (x : Nat × Nat × List Int) : List Int := [(x.1 : Int), (x.2.1 : Int), x.2.2.getD pl 0]
theorem hi_flat (S : State) (pl : Nat) : ((Em.states S).map (hi3 pl)).flatten = (Vbceaj.history S pl).flatMap fun y => [(y.1 : Int), (y.2.1 : Int), y.2.2] := by
  rw [Em.history_eq, List.flatMap_map]
  generalize Em.states S = L
  induction L with
  | nil => rfl
  | cons y L ih => rw [List.map_cons, List.flatten_cons, List.flatMap_cons, ih]; rfl
theorem st_len {S : State} (g : Good S) : (Em.states S).length ≤ 72 := by
  have := states_len (l := S.editions.zipIdx) fun x hx => g.ed _ (List.fst_mem_of_mem_zipIdx hx)
  rw [List.length_zipIdx] at this
  have := g.el
  show (S.editions.zipIdx.flatMap stOf).length ≤ 72
  omega
theorem ok_Office_history (T : Txt K mg Z) : OkM P w K mg base (L2.CX P w) 6 Z.cOffice "history" ["self", "page", "line"] (spN2 Z .history) := by
  obtain ⟨f0, fd0, M0, F0⟩ := T.d_Office_history
  obtain ⟨f_Office_place_of, fd_Office_place_of, M_Office_place_of, G_Office_place_of, B_Office_place_of⟩ := ok_Office_place_of (P := P) (w := w) (base := base) T
  obtain ⟨f_Book_states, fd_Book_states, M_Book_states, G_Book_states, B_Book_states⟩ := ok_Book_states (P := P) (w := w) (base := base) T
  obtain ⟨f_flat, fd_flat, g_flat, k_flat, G_flat, B_flat⟩ := ok_flat (P := P) (w := w) (base := base) T
  refine ⟨f0, fd0, M0, F0.okX sc_Office_history (fun vs H Q E h => ?_) (fun cdv A outer s H vs Q E hr h => ?_), (F0.binds fun _ _ _ _ _ _ us hl => match us, hl with | [_, _, _], _ => rfl)⟩
  · obtain ⟨A, S, n, m, rfl, _⟩ := h
    rfl
  · obtain ⟨A, S, n, m, rfl, st, k⟩ := h
    refine ⟨_, (pss_cons (ps_set (i := 3) sc_Office_history.nd rfl (Or.inr rfl) (pe_meth (pv 0) T.cl_Office M_Office_place_of G_Office_place_of (hr.mono (by decide)) B_Office_place_of .nil (passes_call (takes_of rfl rfl rfl rfl) fun _ _ _ _ h => h) (pa_cons (pv 1) (pa_cons (pv 2) pa_nil))))
  (pss_cons (ps_set (i := 4) sc_Office_history.nd rfl (Or.inl rfl) (pe_meth0 (pe_fld (pv 0) rfl) T.cl_Book M_Book_states G_Book_states (hr.mono (by decide)) B_Book_states .nil pass0))
  (pss_one (ps_ret (pe_op op_cat (pe_lst (pa_cons (pe_callB call_len_seq (by rfl) T.b_len (by decide +kernel) (pa_cons (pv 4) pa_nil)) pa_nil)) (pe_call G_flat (hr.mono (by decide)) rfl g_flat k_flat B_flat .nil pass0 (pa_cons (pe_lc (own := [("number", 5), ("many", 6), ("numbers", 7)]) (g := gTup K 3 (gCons (gName 5) (gCons (gName 6) (gCons (gName 7) (gNil))))) (tt := tYes) rfl sc_Office_history.nd (pi_list (pv 4)) (blkOk_by (N := ["self", "page", "line", "place", "states", "number", "many", "numbers"]) (sc := defScope s_Office_history) (by decide +kernel)) (fun _ _ _ _ _ => (pg_tup rfl (pgs_cons (pg_name (i := 5) sc_Office_history.nd rfl (.inl rfl)) (pgs_cons (pg_name (i := 6) sc_Office_history.nd rfl (.inl rfl)) (pgs_cons (pg_name (i := 7) sc_Office_history.nd rfl (.inl rfl)) pgs_nil))))) (fun _ _ _ _ _ => pts_nil) (fun _ _ _ _ _ => (pe_lst (pa_cons (pv 5) (pa_cons (pv 6) (pa_cons (pe_ix (ix_listK (K := K) rfl) (pv 7) (pv 3) (fun _ _ => rfl)) pa_nil)))))) pa_nil))))))), ?_⟩
    simp only [Vbceaj.run, bind, Except.bind, pure, Except.pure] at k
    obtain ⟨dx, ho⟩ := st.ob
    obtain ⟨db, hb⟩ := st.bk
    refine ⟨_, rfl, A.o, dx, _, rfl, ho, rfl, _, rfl, _, rfl, A, S, n, m, rfl, st, fun pl hpl hlt hn => ?_, fun e he => ?_⟩
    rotate_left
    · rw [he] at k; exact k.1
    rw [hpl] at k
    dsimp only at k
    have l72 := st_len st.gd
    refine ⟨_, rfl, A.o, _, dx, _, _, rfl, ho, T.cl_Office, T.n_Office_book, rfl, A.b, db, _, rfl, hb, rfl, A.b, S, rfl, st.bkr, st.gd, fun H1 q s1 nq hq => ?_⟩
    obtain ⟨ks, ek, hq, hk⟩ := hq
    have lk := LR.len ek
    refine ⟨_, rfl, q, _, rfl, .inl (SqL.of hq), (by show 1 ≤ sizeLine; decide), fun f nf => ?_⟩
    have s2 := same_new (o := .lst [.int ((ks.map fun k => V.ref k.1).length : Nat)]) nf
    refine ⟨_, rfl, q, rfl, ⟨_, SqL.of (s2 _ _ hq)⟩, fun D hD => ?_⟩
    refine lc_it (walk_list (xs := ks.map fun k => V.ref k.1)) (Grow (upd H1 f (.lst [.int ((ks.map fun k => V.ref k.1).length : Nat)])) D (BO LI fun i => ((Em.states S).take i).map (hi3 pl))) (Grow.start hD (BO.zero rfl)) (fun i H2 _ g => SqL.of (g.same _ _ (s2 _ _ hq))) ?_ ?_
    · rintro i v H2 H3 hi ⟨acc, hacc, s3, bo, hle⟩ ⟨rfl, e2⟩
      obtain ⟨kk, hi2, rfl, hx, hm⟩ := LR.get ek e2
      obtain ⟨nn, h1, h2⟩ := hk kk hm
      have h1' := s3 _ _ (s2 _ _ h1)
      have h2' : H3 nn = some (.lst (kk.2.2.2.map V.int)) := s3 _ _ (s2 _ _ h2)
      have lv : pl < kk.2.2.2.length := by rw [states_val st.gd (List.mem_of_getElem? hx)]; exact hlt
      have il := (List.getElem?_eq_some_iff.mp hx).1
      refine tup3 h1' ⟨rfl, tyes ?_⟩
      refine ⟨_, rfl, _, rfl, _, rfl, _, rfl, nn, _, _, _, rfl, rfl, SqL.of h2', atI_nat (getD_at lv), (by show 3 ≤ sizeLine; decide), fun t nt => ?_⟩
      refine Grow.put hD hacc s3 hle (by omega) (same_new nt) (bo.put (x := hi3 pl kk.2) mLI (rem_same (same_new nt)) ?_ ?_)
      · show rem D _ t = _
        rw [rem_ne (Ne.symm (ne_of_none hacc nt)), upd_same]; rfl
      · show ((Em.states S).take (i + 1)).map (hi3 pl) = _
        rw [Em.take_next hx, List.map_append]; rfl
    · intro H2 g
      have z := BO.done mLI g
      rw [lk, List.take_length] at z
      have s3 := g.same
      have h33 : ∀ r ∈ (Em.states S).map (hi3 pl), r.length ≤ 3 := fun r hr => by obtain ⟨y, _, rfl⟩ := List.mem_map.mp hr; exact Nat.le_refl 3
      refine ⟨D, _, rfl, z, h33, by rw [List.length_map]; omega, fun H4 g4 s4 ng hg => ?_⟩
      have fl := flat_len h33
      rw [List.length_map] at fl
      refine ⟨f, g4, _, _, rfl, rfl, s4 _ _ (s3 _ _ upd_same), hg, Nat.le_of_lt (few (by show 1 + (List.map V.int _).length ≤ _; rw [List.length_map]; omega)), fun r nr => ?_⟩
      refine k.ro st (((s1.trans s2).trans (s3.trans s4)).trans (same_new nr)) (((s1.trans s2).trans (s3.trans s4)).free nr) ?_
      show upd _ _ _ _ = _
      rw [upd_same, lk, hi_flat, Em.history_eq, List.length_map]
      rfl
theorem ok_Office_since (T : Txt K mg Z) : OkM P w K mg base (L2.CX P w) 6 Z.cOffice "since" ["self", "page", "line"] (spN2 Z .since) := by
  obtain ⟨f0, fd0, M0, F0⟩ := T.d_Office_since
  obtain ⟨f_Book_since, fd_Book_since, M_Book_since, G_Book_since, B_Book_since⟩ := ok_Book_since (P := P) (w := w) (base := base) T
  obtain ⟨f_Office_place_of, fd_Office_place_of, M_Office_place_of, G_Office_place_of, B_Office_place_of⟩ := ok_Office_place_of (P := P) (w := w) (base := base) T
  refine ⟨f0, fd0, M0, F0.okX sc_Office_since (fun vs H Q E h => ?_) (fun cdv A outer s H vs Q E hr h => ?_), (F0.binds fun _ _ _ _ _ _ us hl => match us, hl with | [_, _, _], _ => rfl)⟩
  · obtain ⟨A, S, n, m, rfl, _⟩ := h
    rfl
  · obtain ⟨A, S, n, m, rfl, st, k⟩ := h
    refine ⟨_, (pss_one (ps_ret (pe_op op_cat (pe_lst (pa_cons pe_int pa_nil)) (pe_meth (pe_fld (pv 0) rfl) T.cl_Book M_Book_since G_Book_since (hr.mono (by decide)) B_Book_since .nil pass0 (pa_cons (pe_meth (pv 0) T.cl_Office M_Office_place_of G_Office_place_of (hr.mono (by decide)) B_Office_place_of .nil (passes_call (takes_of rfl rfl rfl rfl) fun _ _ _ _ h => h) (pa_cons (pv 1) (pa_cons (pv 2) pa_nil))) pa_nil))))), ?_⟩
    simp only [Vbceaj.run, bind, Except.bind, pure, Except.pure] at k
    obtain ⟨dx, ho⟩ := st.ob
    obtain ⟨db, hb⟩ := st.bk
    refine ⟨(by show 1 ≤ sizeLine; decide), fun f nf => ?_⟩
    have s1 := same_new (o := .lst [.int 1]) nf
    have st1 := st.same s1
    refine ⟨_, rfl, A.o, _, dx, _, _, rfl, s1 _ _ ho, T.cl_Office, T.n_Office_book, rfl, A.b, db, _, rfl, s1 _ _ hb, rfl, ?_⟩
    refine ⟨_, rfl, A.o, dx, _, rfl, s1 _ _ ho, rfl, _, rfl, _, rfl, A, S, n, m, rfl, st1, fun pl hpl hlt hn => ?_, fun e he => ?_⟩
    rotate_left
    · rw [he] at k; exact ErrN.mono k.1 s1
    rw [hpl] at k
    dsimp only at k
    refine ⟨A.b, pl, S, rfl, st1.bkr, st1.gd, hn, hlt, fun H2 p y s2 np hy hp => ?_⟩
    rw [hy] at k
    dsimp only at k
    refine ⟨f, p, _, _, rfl, rfl, s2 _ _ upd_same, hp, (by show 1 + 2 ≤ sizeLine; decide), fun r nr => ?_⟩
    exact k.ro st ((s1.trans s2).trans (same_new nr)) ((s1.trans s2).free nr) upd_same
theorem of_flat (L : List (Nat × Nat)) : (L.map fun x => [(x.1 : Int), (x.2 : Int)]).flatten = L.flatMap fun y => VbceCore.ints [y.1, y.2] := by
  induction L with
  | nil => rfl
  | cons y L ih => rw [List.map_cons, List.flatten_cons, List.flatMap_cons, ih]; rfl
theorem of_len (S : State) : (Vbceaj.often S).length ≤ Vbceaj.size S := by
  unfold Vbceaj.often
  refine Nat.le_trans (List.length_filterMap_le _ _) ?_
  rw [List.length_range]; exact Nat.le_refl _
theorem ok_Office_often (T : Txt K mg Z) : OkM P w K mg base CX0 2 Z.cOffice "often" ["self"] (spM0 Z .often) := by
  obtain ⟨f0, fd0, M0, F0⟩ := T.d_Office_often
  obtain ⟨f_Book_often, fd_Book_often, M_Book_often, G_Book_often, B_Book_often⟩ := ok_Book_often (P := P) (w := w) (base := base) T
  obtain ⟨f_flat, fd_flat, g_flat, k_flat, G_flat, B_flat⟩ := ok_flat (P := P) (w := w) (base := base) T
  refine ⟨f0, fd0, M0, F0.ok sc_Office_often (fun vs H Q E h => ?_) (fun cdv A outer s H vs Q E hr h => ?_), (F0.binds fun _ _ _ _ _ _ us hl => match us, hl with | [_], _ => rfl)⟩
  · obtain ⟨A, S, rfl, _⟩ := h
    rfl
  · obtain ⟨A, S, rfl, st, k⟩ := h
    refine ⟨_, (pss_cons (ps_set (i := 1) sc_Office_often.nd rfl (Or.inl rfl) (pe_meth0 (pe_fld (pv 0) rfl) T.cl_Book M_Book_often G_Book_often (hr.mono (by decide)) B_Book_often .nil pass0))
  (pss_one (ps_ret (pe_op op_cat (pe_lst (pa_cons (pe_callB call_len_seq (by rfl) T.b_len (by decide +kernel) (pa_cons (pv 1) pa_nil)) pa_nil)) (pe_call G_flat (hr.mono (by decide)) rfl g_flat k_flat B_flat .nil pass0 (pa_cons (pv 1) pa_nil)))))), ?_⟩
    simp only [Vbceaj.run] at k
    obtain ⟨dx, ho⟩ := st.ob
    obtain ⟨db, hb⟩ := st.bk
    have g60 := st.gd.sz
    have ol := of_len S
    refine ⟨_, rfl, A.o, _, dx, _, _, rfl, ho, T.cl_Office, T.n_Office_book, rfl, A.b, db, _, rfl, hb, rfl, A.b, S, rfl, st.bkr, st.gd, fun H1 q s1 nq hq => ?_⟩
    have hq' := hq
    obtain ⟨ks, ek, hq, hk⟩ := hq
    refine ⟨_, rfl, q, _, rfl, .inl (SqL.of hq), (by show 1 ≤ sizeLine; decide), fun f nf => ?_⟩
    have s2 := same_new (o := .lst [.int ((ks.map fun k => V.ref k.1).length : Nat)]) nf
    have h33 : ∀ r ∈ (Vbceaj.often S).map (fun x => [(x.1 : Int), (x.2 : Int)]), r.length ≤ 3 := fun r hr => by obtain ⟨y, _, rfl⟩ := List.mem_map.mp hr; show 2 ≤ 3; decide
    refine ⟨_, rfl, q, _, rfl, hq'.same s2, h33, by rw [List.length_map]; omega, fun H4 g4 s4 ng hg => ?_⟩
    have fl := flat_len h33
    rw [List.length_map] at fl
    refine ⟨f, g4, _, _, rfl, rfl, s4 _ _ upd_same, hg, Nat.le_of_lt (few (by show 1 + (List.map V.int _).length ≤ _; rw [List.length_map]; omega)), fun r nr => ?_⟩
    refine k.ro st (((s1.trans s2).trans s4).trans (same_new nr)) (((s1.trans s2).trans s4).free nr) ?_
    show upd _ _ _ _ = _
    rw [upd_same, LR.len ek, of_flat, List.length_map]
    rfl
theorem ok_Office_told_sheet (T : Txt K mg Z) : OkM P w K mg base (L2.CX P w) 6 Z.cOffice "told_sheet" ["self", "edition", "number"] (spN2 Z .sheet) := by
  obtain ⟨f0, fd0, M0, F0⟩ := T.d_Office_told_sheet
  obtain ⟨f_Office_edition_of, fd_Office_edition_of, M_Office_edition_of, G_Office_edition_of, B_Office_edition_of⟩ := ok_Office_edition_of (P := P) (w := w) (base := base) T
  obtain ⟨f_in_range, fd_in_range, g_in_range, k_in_range, G_in_range, B_in_range⟩ := ok_in_range (P := P) (w := w) (base := base) T
  obtain ⟨f_refuse_if, fd_refuse_if, g_refuse_if, k_refuse_if, G_refuse_if, B_refuse_if⟩ := ok_refuse_if (P := P) (w := w) (base := base) T
  obtain ⟨f_sheet_text, fd_sheet_text, g_sheet_text, k_sheet_text, G_sheet_text, B_sheet_text⟩ := ok_sheet_text (P := P) (w := w) (base := base) T
  refine ⟨f0, fd0, M0, F0.okX sc_Office_told_sheet (fun vs H Q E h => ?_) (fun cdv A outer s H vs Q E hr h => ?_), (F0.binds fun _ _ _ _ _ _ us hl => match us, hl with | [_, _, _], _ => rfl)⟩
  · obtain ⟨A, S, n, m, rfl, _⟩ := h
    rfl
  · obtain ⟨A, S, n, m, rfl, st, k⟩ := h
    refine ⟨_, (pss_cons (ps_set (i := 3) sc_Office_told_sheet.nd rfl (Or.inl rfl) (pe_fld (pe_meth (pv 0) T.cl_Office M_Office_edition_of G_Office_edition_of (hr.mono (by decide)) B_Office_edition_of .nil (passes_call (takes_of rfl rfl rfl rfl) fun _ _ _ _ h => h) (pa_cons (pv 1) pa_nil)) rfl))
  (pss_cons (ps_expr (pe_call G_in_range (hr.mono (by decide)) rfl g_in_range k_in_range B_in_range .nil (passes_call (takes_of rfl rfl rfl rfl) fun _ _ _ _ h => h) (pa_cons (pv 2) (pa_cons pe_int (pa_cons (pe_gint rfl T.g_LAST_SHEET) pa_nil)))))
  (pss_cons (ps_expr (pe_call G_refuse_if (hr.mono (by decide)) rfl g_refuse_if k_refuse_if B_refuse_if .nil (passes_call (takes_of rfl rfl rfl rfl) fun _ _ _ _ h => h) (pa_cons (pe_cmpR op_ge (pv 2) (pe_callB call_len_seq (by rfl) T.b_len (by decide +kernel) (pa_cons (pv 3) pa_nil)) (nomark _)) (pa_cons (pe_gint rfl T.g_NOT_THERE) pa_nil))))
  (pss_one (ps_ret (pe_op op_cat (pe_lst (pa_cons pe_int pa_nil)) (pe_call G_sheet_text (hr.mono (by decide)) rfl g_sheet_text k_sheet_text B_sheet_text .nil pass0 (pa_cons (pv 1) (pa_cons (pv 2) (pa_cons (pe_ix ix_list (pv 3) (pv 2) (fun _ _ => rfl)) (pa_cons (pe_fld (pe_fld (pv 0) rfl) rfl) pa_nil))))))))))), ?_⟩
    simp only [Vbceaj.run, bind, Except.bind, pure, Except.pure] at k
    obtain ⟨dx, ho⟩ := st.ob
    obtain ⟨db, hb⟩ := st.bk
    refine ⟨_, rfl, A.o, dx, _, rfl, ho, rfl, _, rfl, A, S, n, rfl, st, fun x ed hE hx hed h07 => ?_, fun e he => ?_⟩
    rotate_left
    · rw [he] at k; exact k.1
    rw [hE] at k
    dsimp only at k
    have hER := (st.ed _ ed x hed hx).edR off_up
    obtain ⟨de, nu, ss, h1, h2, ⟨ks, ek, h3, h4⟩⟩ := hER.ob
    have hxm := List.mem_of_getElem? hx
    have ok := st.gd.ed x hxm
    have hn : S.editions ≠ [] := fun z => by rw [z] at hxm; cases hxm
    refine ⟨ed.1, _, de, _, _, rfl, h1, T.cl_Edition, T.n_Edition_sheets, rfl, ?_⟩
    refine ⟨_, rfl, m, 0, 7, rfl, fun q => ?_, fun q => ?_⟩
    rotate_left
    · rw [within_err q] at k; exact k.1
    rw [within_ok q] at k
    have hb2 := bt_of q
    dsimp only at k
    refine ⟨_, rfl, _, rfl, ss, _, rfl, .inl (SqL.of h3), _, _, rfl, rfl, _, _, rfl, fun c => ?_, fun c => ?_⟩
    rotate_left
    · have c' := of_decide_eq_true c
      rw [LR.len ek] at c'
      have : x.sheets[m.toNat]? = none := by rw [List.getElem?_eq_none_iff]; omega
      rw [this] at k
      exact k.1
    have c' := of_decide_eq_false c
    rw [LR.len ek] at c'
    obtain ⟨t, ht⟩ : ∃ t, x.sheets[m.toNat]? = some t := ⟨_, List.getElem?_eq_getElem (by omega)⟩
    rw [ht] at k
    dsimp only at k
    obtain ⟨sa, e1, e2⟩ := LR.at_ ek h4 ht
    have em : m = ((m.toNat : Nat) : Int) := by omega
    have en : n = ((n.toNat : Nat) : Int) := by omega
    have iS := ok.sh t (List.mem_of_getElem? ht)
    have g60 := st.gd.sz
    have tl := isS_len iS g60
    have pl := st.gd.some hn
    refine ⟨(by show 1 ≤ sizeLine; decide), fun f nf => ?_⟩
    have s1 := same_new (o := .lst [.int 0]) nf
    refine ⟨_, rfl, _, rfl, _, rfl, _, rfl, ss, _, _, _, rfl, rfl, SqL.of (s1 _ _ h3), by rw [em]; exact atI_nat e1, _, rfl, A.o, _, dx, _, _, rfl, s1 _ _ ho, T.cl_Office, T.n_Office_book, rfl, A.b, _, db, _, _, rfl, s1 _ _ hb, T.cl_Book, T.n_Book_lines, rfl, ?_⟩
    have lt := ers_len (ln := S.lines) (l := t) fun y hy => ⟨(st.gd.nw x hxm t (List.mem_of_getElem? ht) y hy).1, (st.gd.nw x hxm t (List.mem_of_getElem? ht) y hy).2, by have := iS.lt y hy; omega⟩
    refine ⟨sa, n.toNat, m.toNat, S.lines, t, ?_, e2.same s1, by omega, by omega, pl.2, st.gd.ln, by omega, fun y hy => ⟨(st.gd.nw x hxm t (List.mem_of_getElem? ht) y hy).1, (st.gd.nw x hxm t (List.mem_of_getElem? ht) y hy).2, by have := iS.lt y hy; omega⟩, fun H2 p s2 np hp => ?_⟩
    · show [V.int n, V.int m, V.ref sa, V.int (S.lines : Nat)] = _
      rw [← en, ← em]
    obtain ⟨na1, _⟩ := nat_small (n := n.toNat) (by omega)
    obtain ⟨nn1, _⟩ := nat_small (n := m.toNat) (by omega)
    have ll : (VbceCore.ints (Vbceaj.sheetText S.lines n.toNat m.toNat t)).length ≤ 40000 := by
      unfold VbceCore.ints
      rw [List.length_map, sheetText_eq, List.length_append]
      have lh : (hdT n.toNat m.toNat).length ≤ 200 := by
        unfold hdT
        simp only [List.length_append]
        rw [show (Vbceaj.W "errata of ").length = 10 by decide, show (Vbceaj.W " sheet ").length = 7 by decide]; omega
      omega
    refine ⟨f, p, _, _, rfl, rfl, s2 _ _ upd_same, hp, Nat.le_of_lt (few (by show 1 + (List.map V.int _).length ≤ _; rw [List.length_map]; omega)), fun r nr => ?_⟩
    exact k.ro st ((s1.trans s2).trans (same_new nr)) ((s1.trans s2).free nr) upd_same
end
end EX
namespace EX
open PySem PySem.Spec PyProof.Rows L2
open Vbceaj (Sheet Erratum State)
section
variable {P : Program} {w : World} {K : PySem.W.Frag} {mg : Str → Option Value} {base : Heap} {Z : Ad}
/-- the two rows, each by its place -/
theorem RL.two {H : Hp} {r : Addr} {a b : List Int} (h : RL H r [a, b]) : ∃ p q, H r = some (.lst [.ref p, .ref q]) ∧ LI H p a ∧ LI H q b := by
  obtain ⟨ks, e, h1, h2⟩ := h
  match ks, e with
  | [k1, k2], e =>
    simp only [List.map_cons, List.map_nil, List.cons.injEq, and_true] at e
    obtain ⟨e1, e2⟩ := e
    refine ⟨k1.1, k2.1, h1, ?_, ?_⟩
    · rw [← e1]; exact h2 k1 (by simp)
    · rw [← e2]; exact h2 k2 (by simp)
theorem canLay_ints : ∀ l : List Int, PyData.canLayAll0 (l.map PyData.int) = true
  | [] => rfl
  | a :: l => canLay_ints l
theorem depth_ints : ∀ l : List Int, PyData.depthAll (l.map PyData.int) = 0
  | [] => rfl
  | a :: l => by
    show max 0 (PyData.depthAll (l.map PyData.int)) = 0
    rw [depth_ints l]; rfl
theorem shaped_ints (l : List Int) : SeqAt.shaped (.list (l.map PyData.int)) = true := by
  show (PyData.canLayAll0 (l.map PyData.int) && decide (PyData.depthAll (l.map PyData.int) + 1 ≤ 64)) = true
  rw [canLay_ints, depth_ints]; rfl
theorem fm_len (s t : Sheet) (f : Nat → Option Erratum) : ((Vbceaj.bothPlaces s t).filterMap f).length ≤ (Vbceaj.bothPlaces s t).length := List.length_filterMap_le _ _
theorem ok_Office_told_behind (T : Txt K mg Z) : OkM P w K mg base (L2.CX P w) 5 Z.cOffice "told_behind" ["self", "rows"] (spR2 Z .behind) := by
  obtain ⟨f0, fd0, M0, F0⟩ := T.d_Office_told_behind
  obtain ⟨f_Office_sheet_of, fd_Office_sheet_of, M_Office_sheet_of, G_Office_sheet_of, B_Office_sheet_of⟩ := ok_Office_sheet_of (P := P) (w := w) (base := base) T
  obtain ⟨f_do_go_together, fd_do_go_together, g_do_go_together, k_do_go_together, G_do_go_together, B_do_go_together⟩ := ok_do_go_together (P := P) (w := w) (base := base) T
  obtain ⟨f_told, fd_told, g_told, k_told, G_told, B_told⟩ := ok_told (P := P) (w := w) (base := base) T
  obtain ⟨f_behind, fd_behind, g_behind, k_behind, G_behind, B_behind⟩ := ok_behind (P := P) (w := w) (base := base) T
  refine ⟨f0, fd0, M0, F0.okX sc_Office_told_behind (fun vs H Q E h => ?_) (fun cdv A outer s H vs Q E hr h => ?_), (F0.binds fun _ _ _ _ _ _ us hl => match us, hl with | [_, _], _ => rfl)⟩
  · obtain ⟨A, S, r, a, b, rfl, _⟩ := h
    rfl
  · obtain ⟨A, S, r, a, b, rfl, st, hr1, la, lb, k⟩ := h
    refine ⟨_, (pss_cons (ps_par (i := 2) (j := 3) (by rfl) sc_Office_told_behind.nd rfl rfl (by decide) rfl rfl (pa_cons (pe_meth (pv 0) T.cl_Office M_Office_sheet_of G_Office_sheet_of (hr.mono (by decide)) B_Office_sheet_of .nil (passes_call (takes_of rfl rfl rfl rfl) fun _ _ _ _ h => h) (pa_cons (pe_ix ix_list (pv 1) pe_int (fun _ _ => rfl)) pa_nil)) (pa_cons (pe_meth (pv 0) T.cl_Office M_Office_sheet_of G_Office_sheet_of (hr.mono (by decide)) B_Office_sheet_of .nil (passes_call (takes_of rfl rfl rfl rfl) fun _ _ _ _ h => h) (pa_cons (pe_ix ix_list (pv 1) pe_int (fun _ _ => rfl)) pa_nil)) pa_nil)) (by rfl))
  (pss_cons (ps_if (pt_not (pt_val (pe_call G_do_go_together (hr.mono (by decide)) rfl g_do_go_together k_do_go_together B_do_go_together .nil pass0 (pa_cons (pv 2) (pa_cons (pv 3) pa_nil))))) (pss_one (ps_ret (pe_lst (pa_cons pe_int pa_nil)))) pss_nil)
  (pss_one (ps_ret (pe_op op_cat (pe_lst (pa_cons pe_int pa_nil)) (pe_call G_told (hr.mono (by decide)) rfl g_told k_told B_told .nil pass0 (pa_cons (pe_call G_behind (hr.mono (by decide)) rfl g_behind k_behind B_behind .nil pass0 (pa_cons (pv 2) (pa_cons (pv 3) pa_nil))) pa_nil))))))), ?_⟩
    simp only [Vbceaj.run, bind, Except.bind, pure, Except.pure] at k
    obtain ⟨dx, ho⟩ := st.ob
    obtain ⟨p1, p2, hr0, h1, h2⟩ := hr1.two
    refine ⟨_, rfl, A.o, dx, _, rfl, ho, rfl, _, rfl, r, _, _, _, rfl, rfl, SqL.of hr0, atI0, A, S, p1, a, rfl, st, h1, la, fun s e1 i1 n1 nw1 H1 q1 s1 np1 hq1 => ?_, fun e he => ?_⟩
    rotate_left
    · rw [he] at k; exact k.1
    rw [e1] at k
    dsimp only at k
    have st1 := st.same s1
    refine ⟨_, rfl, A.o, dx, _, rfl, s1 _ _ ho, rfl, _, rfl, r, _, _, _, rfl, rfl, SqL.of (s1 _ _ hr0), atI1, A, S, p2, b, rfl, st1, h2.same s1, lb, fun t e2 i2 n2 nw2 H2 q2 s2 np2 hq2 => ?_, fun e he => ?_⟩
    rotate_left
    · rw [he] at k; exact ErrN.mono k.1 s1
    rw [e2] at k
    dsimp only at k
    have g60 := st.gd.sz
    have s02 := s1.trans s2
    refine ⟨_, _, rfl, ?_⟩
    refine ⟨_, rfl, _, rfl, q1, q2, s, t, rfl, hq1.same s2, hq2, i1.pw, by omega, by omega, fun H3 s3 => ⟨_, rfl, ?_⟩⟩
    have s03 := s02.trans s3
    rw [Em.behind_eq] at k
    refine if_dec (fun c => ?_) fun c => ?_
    · have c' : Em.goTogether s t = false := by revert c; cases Em.goTogether s t <;> simp
      rw [c', if_neg (by decide)] at k
      exact ⟨(by show 1 ≤ sizeLine; decide), fun p np => k.ro st (s03.trans (same_new np)) (s03.free np) upd_same⟩
    · have c' : Em.goTogether s t = true := by revert c; cases Em.goTogether s t <;> simp
      rw [c', if_pos rfl] at k
      refine ⟨(by show 1 ≤ sizeLine; decide), fun f nf => ?_⟩
      have s4 := same_new (o := .lst [.int 1]) nf
      have s24 := s3.trans s4
      refine ⟨_, rfl, _, rfl, q1, q2, s, t, _, rfl, (hq1.same s2).same s24, hq2.same s24, i1, i2, g60, by omega, by omega, trivial, fun H5 p s5 np hp => ?_⟩
      have bl := both_len i1 i2 g60 g60
      have fl := fm_len s t (Em.behStep s t)
      refine ⟨p, _, rfl, hp, by unfold behF; omega, fun H6 g s6 ng hg => ?_⟩
      have lr : (Vbceaj.sheetRow (behF s t)).length ≤ 5000 := by
        unfold Vbceaj.sheetRow
        rw [List.length_cons, List.length_flatMap]
        have : ((behF s t).map fun x => [(x.place : Int), x.old, x.new].length).sum = 3 * (behF s t).length := by
          generalize behF s t = q
          induction q with
          | nil => rfl
          | cons y q ih => rw [List.map_cons, List.sum_cons, ih]; show 3 + 3 * q.length = 3 * (q.length + 1); omega
        rw [this]; unfold behF; omega
      refine ⟨f, g, _, _, rfl, rfl, s6 _ _ (s5 _ _ upd_same), hg, Nat.le_of_lt (few (by show 1 + (List.map V.int _).length ≤ _; rw [List.length_map]; omega)), fun z nz => ?_⟩
      have s06 := (s03.trans s4).trans (s5.trans s6)
      exact k.ro st (s06.trans (same_new nz)) (s06.free nz) upd_same
theorem row_len (s : Sheet) (h : s.length ≤ 200) : (Vbceaj.sheetRow s).length ≤ 5000 := by
  unfold Vbceaj.sheetRow
  rw [List.length_cons, List.length_flatMap]
  have : (s.map fun x => [(x.place : Int), x.old, x.new].length).sum = 3 * s.length := by
    clear h
    induction s with
    | nil => rfl
    | cons y q ih => rw [List.map_cons, List.sum_cons, ih]; show 3 + 3 * q.length = 3 * (q.length + 1); omega
  rw [this]; omega
theorem ok_Office_told_joined (T : Txt K mg Z) : OkM P w K mg base (L2.CX P w) 5 Z.cOffice "told_joined" ["self", "rows"] (spR2 Z .joined) := by
  obtain ⟨f0, fd0, M0, F0⟩ := T.d_Office_told_joined
  obtain ⟨f_Office_sheet_of, fd_Office_sheet_of, M_Office_sheet_of, G_Office_sheet_of, B_Office_sheet_of⟩ := ok_Office_sheet_of (P := P) (w := w) (base := base) T
  obtain ⟨f_clashes, fd_clashes, g_clashes, k_clashes, G_clashes, B_clashes⟩ := ok_clashes (P := P) (w := w) (base := base) T
  obtain ⟨f_told, fd_told, g_told, k_told, G_told, B_told⟩ := ok_told (P := P) (w := w) (base := base) T
  obtain ⟨f_joined, fd_joined, g_joined, k_joined, G_joined, B_joined⟩ := ok_joined (P := P) (w := w) (base := base) T
  refine ⟨f0, fd0, M0, F0.okX sc_Office_told_joined (fun vs H Q E h => ?_) (fun cdv A outer s H vs Q E hr h => ?_), (F0.binds fun _ _ _ _ _ _ us hl => match us, hl with | [_, _], _ => rfl)⟩
  · obtain ⟨A, S, r, a, b, rfl, _⟩ := h
    rfl
  · obtain ⟨A, S, r, a, b, rfl, st, hr1, la, lb, k⟩ := h
    refine ⟨_, (pss_cons (ps_par (i := 2) (j := 3) (by rfl) sc_Office_told_joined.nd rfl rfl (by decide) rfl rfl (pa_cons (pe_meth (pv 0) T.cl_Office M_Office_sheet_of G_Office_sheet_of (hr.mono (by decide)) B_Office_sheet_of .nil (passes_call (takes_of rfl rfl rfl rfl) fun _ _ _ _ h => h) (pa_cons (pe_ix ix_list (pv 1) pe_int (fun _ _ => rfl)) pa_nil)) (pa_cons (pe_meth (pv 0) T.cl_Office M_Office_sheet_of G_Office_sheet_of (hr.mono (by decide)) B_Office_sheet_of .nil (passes_call (takes_of rfl rfl rfl rfl) fun _ _ _ _ h => h) (pa_cons (pe_ix ix_list (pv 1) pe_int (fun _ _ => rfl)) pa_nil)) pa_nil)) (by rfl))
  (pss_cons (ps_set (i := 4) sc_Office_told_joined.nd rfl (Or.inl rfl) (pe_call G_clashes (hr.mono (by decide)) rfl g_clashes k_clashes B_clashes .nil pass0 (pa_cons (pv 2) (pa_cons (pv 3) pa_nil))))
  (pss_cons (ps_if (pt_cmpR (op_neD hr.units) (pv 4) (pe_lst pa_nil) (nomark _)) (pss_one (ps_ret (pe_lst (pa_cons pe_int (pa_cons (pe_ix ix_list (pv 4) pe_int (fun _ _ => rfl)) pa_nil))))) pss_nil)
  (pss_one (ps_ret (pe_op op_cat (pe_lst (pa_cons pe_int pa_nil)) (pe_call G_told (hr.mono (by decide)) rfl g_told k_told B_told .nil pass0 (pa_cons (pe_call G_joined (hr.mono (by decide)) rfl g_joined k_joined B_joined .nil pass0 (pa_cons (pv 2) (pa_cons (pv 3) pa_nil))) pa_nil)))))))), ?_⟩
    simp only [Vbceaj.run, bind, Except.bind, pure, Except.pure] at k
    obtain ⟨dx, ho⟩ := st.ob
    obtain ⟨p1, p2, hr0, h1, h2⟩ := hr1.two
    refine ⟨_, rfl, A.o, dx, _, rfl, ho, rfl, _, rfl, r, _, _, _, rfl, rfl, SqL.of hr0, atI0, A, S, p1, a, rfl, st, h1, la, fun s e1 i1 n1 nw1 H1 q1 s1 np1 hq1 => ?_, fun e he => ?_⟩
    rotate_left
    · rw [he] at k; exact k.1
    rw [e1] at k
    dsimp only at k
    have st1 := st.same s1
    refine ⟨_, rfl, A.o, dx, _, rfl, s1 _ _ ho, rfl, _, rfl, r, _, _, _, rfl, rfl, SqL.of (s1 _ _ hr0), atI1, A, S, p2, b, rfl, st1, h2.same s1, lb, fun t e2 i2 n2 nw2 H2 q2 s2 np2 hq2 => ?_, fun e he => ?_⟩
    rotate_left
    · rw [he] at k; exact ErrN.mono k.1 s1
    rw [e2] at k
    dsimp only at k
    have g60 := st.gd.sz
    have s02 := s1.trans s2
    refine ⟨_, _, rfl, ?_⟩
    refine ⟨_, rfl, _, rfl, q1, q2, s, t, _, rfl, hq1.same s2, hq2, i1, i2, g60, by omega, by omega, fun H3 f s3 nf hf => ?_⟩
    have s03 := s02.trans s3
    have bl := both_len i1 i2 g60 g60
    have ec := Em.clash_eq s t
    obtain ⟨cl, hcl⟩ : ∃ cl, cl = (Vbceaj.bothPlaces s t).filter (Em.clashAt s t) := ⟨_, rfl⟩
    rw [← hcl] at hf ec
    refine ⟨_, rfl, (by show 0 ≤ sizeLine; decide), fun g ng => ?_⟩
    have s4 := same_new (o := .lst []) ng
    have hf4 := hf.same s4
    cases cl with
    | nil =>
      have ec' : Vbceaj.clash s t = none := ec
      rw [ec'] at k
      dsimp only at k
      refine ⟨.list (([] : List Int).map PyData.int), .list (([] : List Int).map PyData.int), .lst (SqL.of hf4) (dp_ints []), .lst (SqL.of (show _ = some (HO.lst (([] : List Int).map V.int)) from upd_same)) (dp_ints []), rfl, rfl, _, rfl, ?_⟩
      rw [eqv_all]
      refine ifF rfl ?_
      refine ⟨(by show 1 ≤ sizeLine; decide), fun f1 nf1 => ?_⟩
      have s5 := same_new (o := .lst [.int 1]) nf1
      have s25 := (s3.trans s4).trans s5
      refine ⟨_, rfl, _, rfl, q1, q2, s, t, _, rfl, (hq1.same s2).same s25, hq2.same s25, i1, i2, g60, by omega, by omega, ec', fun H6 p s6 np hp => ?_⟩
      have jl : (Vbceaj.joined s t).length ≤ 60 := by rw [Em.joined_eq]; have := fm_len s t (Em.joinAt s t); omega
      have lr := row_len (Vbceaj.joined s t) (by omega)
      refine ⟨p, _, rfl, hp, by omega, fun H7 g7 s7 ng7 hg => ?_⟩
      refine ⟨f1, g7, _, _, rfl, rfl, s7 _ _ (s6 _ _ upd_same), hg, Nat.le_of_lt (few (by show 1 + (List.map V.int _).length ≤ _; rw [List.length_map]; omega)), fun z nz => ?_⟩
      have s07 := ((s03.trans s4).trans s5).trans (s6.trans s7)
      exact k.ro st (s07.trans (same_new nz)) (s07.free nz) upd_same
    | cons c cl =>
      have ec' : Vbceaj.clash s t = some c := ec
      rw [ec'] at k
      dsimp only at k
      have lc : (c :: cl).length ≤ 60 := by rw [hcl]; exact Nat.le_trans (List.length_filter_le _ _) bl
      have sh : SeqAt.shaped (.list (((c :: cl).map fun (n : Nat) => (n : Int)).map PyData.int)) = true := by
        refine shaped_ints _
      refine ⟨.list (((c :: cl).map fun (n : Nat) => (n : Int)).map PyData.int), .list (([] : List Int).map PyData.int), .lst (SqL.of hf4) (dp_ints _), .lst (SqL.of (show _ = some (HO.lst (([] : List Int).map V.int)) from upd_same)) (dp_ints []), sh, rfl, _, rfl, ?_⟩
      rw [eqv_all]
      refine ifT rfl ?_
      refine ⟨_, rfl, f, _, _, _, rfl, rfl, SqL.of hf4, atI0, (by show 2 ≤ sizeLine; decide), fun z nz => ?_⟩
      have s04 := s03.trans s4
      exact k.ro st (s04.trans (same_new nz)) (s04.free nz) upd_same
theorem ok_Office_told_left (T : Txt K mg Z) : OkM P w K mg base (L2.CX P w) 5 Z.cOffice "told_left" ["self", "rows"] (spR2 Z .left_) := by
  obtain ⟨f0, fd0, M0, F0⟩ := T.d_Office_told_left
  obtain ⟨f_Office_sheet_of, fd_Office_sheet_of, M_Office_sheet_of, G_Office_sheet_of, B_Office_sheet_of⟩ := ok_Office_sheet_of (P := P) (w := w) (base := base) T
  obtain ⟨f_refuse_if, fd_refuse_if, g_refuse_if, k_refuse_if, G_refuse_if, B_refuse_if⟩ := ok_refuse_if (P := P) (w := w) (base := base) T
  obtain ⟨f_have_unlike_olds, fd_have_unlike_olds, g_have_unlike_olds, k_have_unlike_olds, G_have_unlike_olds, B_have_unlike_olds⟩ := ok_have_unlike_olds (P := P) (w := w) (base := base) T
  obtain ⟨f_told, fd_told, g_told, k_told, G_told, B_told⟩ := ok_told (P := P) (w := w) (base := base) T
  obtain ⟨f_left, fd_left, g_left, k_left, G_left, B_left⟩ := ok_left (P := P) (w := w) (base := base) T
  refine ⟨f0, fd0, M0, F0.okX sc_Office_told_left (fun vs H Q E h => ?_) (fun cdv A outer s H vs Q E hr h => ?_), (F0.binds fun _ _ _ _ _ _ us hl => match us, hl with | [_, _], _ => rfl)⟩
  · obtain ⟨A, S, r, a, b, rfl, _⟩ := h
    rfl
  · obtain ⟨A, S, r, a, b, rfl, st, hr1, la, lb, k⟩ := h
    refine ⟨_, (pss_cons (ps_par (i := 2) (j := 3) (by rfl) sc_Office_told_left.nd rfl rfl (by decide) rfl rfl (pa_cons (pe_meth (pv 0) T.cl_Office M_Office_sheet_of G_Office_sheet_of (hr.mono (by decide)) B_Office_sheet_of .nil (passes_call (takes_of rfl rfl rfl rfl) fun _ _ _ _ h => h) (pa_cons (pe_ix ix_list (pv 1) pe_int (fun _ _ => rfl)) pa_nil)) (pa_cons (pe_meth (pv 0) T.cl_Office M_Office_sheet_of G_Office_sheet_of (hr.mono (by decide)) B_Office_sheet_of .nil (passes_call (takes_of rfl rfl rfl rfl) fun _ _ _ _ h => h) (pa_cons (pe_ix ix_list (pv 1) pe_int (fun _ _ => rfl)) pa_nil)) pa_nil)) (by rfl))
  (pss_cons (ps_expr (pe_call G_refuse_if (hr.mono (by decide)) rfl g_refuse_if k_refuse_if B_refuse_if .nil (passes_call (takes_of rfl rfl rfl rfl) fun _ _ _ _ h => h) (pa_cons (pe_call G_have_unlike_olds (hr.mono (by decide)) rfl g_have_unlike_olds k_have_unlike_olds B_have_unlike_olds .nil pass0 (pa_cons (pv 2) (pa_cons (pv 3) pa_nil))) (pa_cons (pe_gint rfl T.g_UNLIKE_OLDS) pa_nil))))
  (pss_one (ps_ret (pe_call G_told (hr.mono (by decide)) rfl g_told k_told B_told .nil pass0 (pa_cons (pe_call G_left (hr.mono (by decide)) rfl g_left k_left B_left .nil pass0 (pa_cons (pv 2) (pa_cons (pv 3) pa_nil))) pa_nil)))))), ?_⟩
    simp only [Vbceaj.run, bind, Except.bind, pure, Except.pure] at k
    obtain ⟨dx, ho⟩ := st.ob
    obtain ⟨p1, p2, hr0, h1, h2⟩ := hr1.two
    refine ⟨_, rfl, A.o, dx, _, rfl, ho, rfl, _, rfl, r, _, _, _, rfl, rfl, SqL.of hr0, atI0, A, S, p1, a, rfl, st, h1, la, fun s e1 i1 n1 nw1 H1 q1 s1 np1 hq1 => ?_, fun e he => ?_⟩
    rotate_left
    · rw [he] at k; exact k.1
    rw [e1] at k
    dsimp only at k
    have st1 := st.same s1
    refine ⟨_, rfl, A.o, dx, _, rfl, s1 _ _ ho, rfl, _, rfl, r, _, _, _, rfl, rfl, SqL.of (s1 _ _ hr0), atI1, A, S, p2, b, rfl, st1, h2.same s1, lb, fun t e2 i2 n2 nw2 H2 q2 s2 np2 hq2 => ?_, fun e he => ?_⟩
    rotate_left
    · rw [he] at k; exact ErrN.mono k.1 s1
    rw [e2] at k
    dsimp only at k
    have g60 := st.gd.sz
    have s02 := s1.trans s2
    refine ⟨_, _, rfl, ?_⟩
    have eu := Em.unlike_eq i1 i2
    refine ⟨_, rfl, _, rfl, q1, q2, s, t, rfl, hq1.same s2, hq2, i1.pw, by omega, by omega, fun H3 s3 => ?_⟩
    have s03 := s02.trans s3
    refine ⟨_, _, rfl, fun c => ?_, fun c => ?_⟩
    rotate_left
    · generalize hcc : (Vbceaj.bothPlaces s t).all _ = cc at k
      have hc2 : cc = !Em.unlike s t := hcc.symm.trans eu
      rw [need_err (by rw [hc2, c]; rfl)] at k
      exact ErrN.mono k.1 s03
    generalize hcc : (Vbceaj.bothPlaces s t).all _ = cc at k
    have hc2 : cc = !Em.unlike s t := hcc.symm.trans eu
    rw [need_ok (by rw [hc2, c]; rfl)] at k
    dsimp only at k
    refine ⟨_, rfl, _, rfl, q1, q2, s, t, _, rfl, (hq1.same s2).same s3, hq2.same s3, i1, i2, g60, by omega, by omega, trivial, fun H4 p s4 np hp => ?_⟩
    have ll : (Vbceaj.leftOf s t).length ≤ t.length := by rw [Em.left_eq]; exact List.length_filterMap_le _ _
    have s04 := s03.trans s4
    exact ⟨p, _, rfl, hp, by omega, fun H5 g s5 ng hg => k.ro st (s04.trans s5) (s04.free ng) hg⟩
end
end EX
namespace EX
open PySem PySem.Spec PyProof.Rows L2
open Vbceaj (Sheet Erratum State)
theorem cut_last {xs : List V} : cutV xs (some (-1)) none = xs.drop (xs.length - 1) := by
  unfold cutV
  rw [HT.sIx_none]
  have e : HT.sIx xs.length 0 (some (-1)) = xs.length - 1 := by
    show (if (-1 : Int) < 0 then (-1 + (xs.length : Int)).toNat else min (-1 : Int).toNat xs.length) = _
    rw [if_pos (by decide)]; omega
  rw [e]
  rw [List.take_of_length_le (by rw [List.length_drop]; exact Nat.le_refl _)]
section
variable {P : Program} {w : World} {K : PySem.W.Frag} {mg : Str → Option Value} {base : Heap} {Z : Ad}
theorem ok_Office_current (T : Txt K mg Z) : OkM P w K mg base (L2.CX P w) 6 Z.cOffice "current" ["self", "number"] (spN1 Z .current) := by
  obtain ⟨f0, fd0, M0, F0⟩ := T.d_Office_current
  obtain ⟨f_Office_copy_of, fd_Office_copy_of, M_Office_copy_of, G_Office_copy_of, B_Office_copy_of⟩ := ok_Office_copy_of (P := P) (w := w) (base := base) T
  obtain ⟨f_Edition_with_sheets, fd_Edition_with_sheets, M_Edition_with_sheets, G_Edition_with_sheets, B_Edition_with_sheets⟩ := ok_Edition_with_sheets (P := P) (w := w) (base := base) T
  obtain ⟨f_Book_mending, fd_Book_mending, M_Book_mending, G_Book_mending, B_Book_mending⟩ := ok_Book_mending (P := P) (w := w) (base := base) T
  refine ⟨f0, fd0, M0, F0.okX sc_Office_current (fun vs H Q E h => ?_) (fun cdv A outer s H vs Q E hr h => ?_), (F0.binds fun _ _ _ _ _ _ us hl => match us, hl with | [_, _], _ => rfl)⟩
  · obtain ⟨A, S, n, rfl, _⟩ := h
    rfl
  · obtain ⟨A, S, n, rfl, st, k⟩ := h
    refine ⟨_, (pss_cons (ps_set (i := 2) sc_Office_current.nd rfl (Or.inl rfl) (pe_meth (pv 0) T.cl_Office M_Office_copy_of G_Office_copy_of (hr.mono (by decide)) B_Office_copy_of .nil (passes_call (takes_of rfl rfl rfl rfl) fun _ _ _ _ h => h) (pa_cons (pv 1) pa_nil)))
  (pss_cons (ps_set (i := 3) sc_Office_current.nd rfl (Or.inl rfl) (pe_ix ix_list (pe_fld (pe_fld (pv 0) rfl) rfl) (pe_fld (pv 2) rfl) (fun _ _ => rfl)))
  (pss_cons (ps_set (i := 4) sc_Office_current.nd rfl (Or.inl rfl) (pe_callTy call_int1 (by rfl) T.b_int (by decide +kernel) (pa_cons (pe_cmpR (op_eqD hr.units) (pe_fld (pv 2) rfl) (pe_meth (pv 3) T.cl_Edition M_Edition_with_sheets G_Edition_with_sheets (hr.mono (by decide)) B_Edition_with_sheets .nil pass0 (pa_cons (pe_fld (pv 2) rfl) pa_nil)) (nomark _)) pa_nil)))
  (pss_one (ps_ret (pe_lst (pa_cons (pe_op op_sub (pe_callB call_len_seq (by rfl) T.b_len (by decide +kernel) (pa_cons (pe_fld (pv 3) rfl) pa_nil)) (pe_fld (pv 2) rfl)) (pa_cons (pv 4) (pa_cons (pe_callB call_len_seq (by rfl) T.b_len (by decide +kernel) (pa_cons (pe_meth (pe_fld (pv 0) rfl) T.cl_Book M_Book_mending G_Book_mending (hr.mono (by decide)) B_Book_mending .nil pass0 (pa_cons (pv 2) pa_nil)) pa_nil)) pa_nil))))))))), ?_⟩
    simp only [Vbceaj.run, bind, Except.bind, pure, Except.pure] at k
    obtain ⟨dx, ho⟩ := st.ob
    obtain ⟨db, hb⟩ := st.bk
    refine ⟨_, rfl, A.o, dx, _, rfl, ho, rfl, _, rfl, A, S, n, rfl, st, fun i x c hci hx hc => ?_, fun e he => ?_⟩
    rotate_left
    · rw [he] at k; exact k.1
    rw [hci] at k
    dsimp only at k
    obtain ⟨hR, l1, l2, l3, hn⟩ := st.cpy hx hc
    obtain ⟨dc, nu, h1, h2⟩ := hR.ob
    have g60 := st.gd.sz
    have hxe := ed_at l2
    obtain ⟨ed, hed⟩ : ∃ ed, A.eds[x.edition]? = some ed := ⟨_, List.getElem?_eq_getElem (by rw [st.el]; exact l2)⟩
    have hER := (st.ed _ ed _ hed hxe).edR off_up
    obtain ⟨de, nue, ss, h3, h4, ⟨ks, ek, h5, h6⟩⟩ := hER.ob
    have ok := st.gd.ed _ (List.mem_of_getElem? hxe)
    have hle : (A.eds.map fun e => V.ref e.1)[x.edition]? = some (.ref ed.1) := by rw [List.getElem?_map, hed]; rfl
    refine ⟨_, rfl, A.o, _, dx, _, _, rfl, ho, T.cl_Office, T.n_Office_book, rfl, A.b, _, db, _, _, rfl, hb, T.cl_Book, T.n_Book_editions, rfl, _, rfl, c, _, dc, _, _, rfl, h1, T.cl_Copy, T.n_Copy_edition, rfl, A.le, _, _, _, rfl, rfl, SqL.of st.le, atI_nat hle, ?_⟩
    refine ⟨_, rfl, c, _, dc, _, _, rfl, h1, T.cl_Copy, T.n_Copy_numbers, rfl, ?_⟩
    refine ⟨_, rfl, ed.1, de, _, rfl, h3, rfl, _, rfl, c, _, dc, _, _, rfl, h1, T.cl_Copy, T.n_Copy_many, rfl, ed.1, x.pen, _, _, rfl, hER, ok, fun H1 p s1 hp _ => ?_⟩
    refine ⟨.list (x.now.map PyData.int), .list ((Vbceaj.amended (Vbceaj.edition S x.edition) x.pen).map PyData.int), .lst (SqL.of (s1 _ _ h2)) (dp_ints _), .lst (SqL.of hp) (dp_ints _), shaped_ints _, shaped_ints _, .inr ⟨_, rfl, ?_⟩⟩
    rw [eqv_all]
    have st1 := st.same s1
    refine ⟨_, rfl, ed.1, _, de, _, _, rfl, s1 _ _ h3, T.cl_Edition, T.n_Edition_sheets, rfl, ss, _, rfl, .inl (SqL.of (s1 _ _ h5)), _, rfl, c, _, dc, _, _, rfl, s1 _ _ h1, T.cl_Copy, T.n_Copy_many, rfl, _, _, rfl, rfl, _, rfl, ?_⟩
    refine ⟨_, rfl, A.o, _, dx, _, _, rfl, s1 _ _ ho, T.cl_Office, T.n_Office_book, rfl, A.b, db, _, rfl, s1 _ _ hb, rfl, _, rfl, A.b, c, S, x, rfl, st1.bkr, st1.gd, hn, hR.same s1, by omega, fun H2 q s2 nq hq => ?_⟩
    obtain ⟨qs, eq, hq, _⟩ := hq
    refine ⟨q, _, rfl, .inl (SqL.of hq), (by show 3 ≤ sizeLine; decide), fun r nr => ?_⟩
    refine k.ro st ((s1.trans s2).trans (same_new nr)) ((s1.trans s2).free nr) ?_
    show upd _ _ _ _ = _
    have a1 : ((ks.map fun k => V.ref k.1).length : Int) - (x.pen : Int) = (((Vbceaj.edition S x.edition).sheets.length - x.pen : Nat) : Int) := by rw [LR.len ek]; omega
    have a2 : ((qs.map fun k => V.ref k.1).length : Int) = ((Vbceaj.between x.now (Vbceaj.whole (Vbceaj.edition S (Vbceaj.newest S)))).length : Int) := by rw [LR.len eq, List.length_map]
    have a3 : b2i (decide (x.now = Vbceaj.amended (Vbceaj.edition S x.edition) x.pen)) = (((if x.now = Vbceaj.amended (Vbceaj.edition S x.edition) x.pen then 1 else 0 : Nat)) : Int) := by
      by_cases z : x.now = Vbceaj.amended (Vbceaj.edition S x.edition) x.pen
      · rw [decide_eq_true z, if_pos z]; rfl
      · rw [decide_eq_false z, if_neg z]; rfl
    rw [upd_same]
    show some (HO.lst [V.int (((ks.map fun k => V.ref k.1).length : Int) - (x.pen : Int)), V.int (b2i (decide (x.now = Vbceaj.amended (Vbceaj.edition S x.edition) x.pen))), V.int ((qs.map fun k => V.ref k.1).length : Int)]) = _
    rw [a1, a2, a3]
    rfl
theorem ok_Office_told_all (T : Txt K mg Z) : OkM P w K mg base CX0 1 Z.cOffice "told_all" ["self"] (spM0 Z .told) := by
  obtain ⟨f0, fd0, M0, F0⟩ := T.d_Office_told_all
  refine ⟨f0, fd0, M0, F0.ok sc_Office_told_all (fun vs H Q E h => ?_) (fun cdv A outer s H vs Q E hr h => ?_), (F0.binds fun _ _ _ _ _ _ us hl => match us, hl with | [_], _ => rfl)⟩
  · obtain ⟨A, S, rfl, _⟩ := h
    rfl
  · obtain ⟨A, S, rfl, st, k⟩ := h
    refine ⟨_, (pss_cons (ps_set (i := 1) sc_Office_told_all.nd rfl (Or.inl rfl) (pe_fld (pv 0) rfl))
  (pss_cons (ps_set (i := 2) sc_Office_told_all.nd rfl (Or.inl rfl) (pe_callB (cr_sum rfl) (by rfl) T.b_sum (by decide +kernel) (pa_cons (pe_lc (own := [("edition", 3)]) (g := gName 3) (tt := tYes) rfl sc_Office_told_all.nd (pi_list (pe_slice sl_list (pe_fld (pv 1) rfl) (po_some (pe_un un_neg pe_int)) po_none)) (blkOk_by (N := ["self", "book", "sheets", "edition"]) (sc := defScope s_Office_told_all) (by decide +kernel)) (fun _ _ _ _ _ => (pg_name (i := 3) sc_Office_told_all.nd rfl (.inl rfl))) (fun _ _ _ _ _ => pts_nil) (fun _ _ _ _ _ => (pe_callB (call_len_seqK (K := K) rfl) (by rfl) T.b_len (by decide +kernel) (pa_cons (pe_fldK (K := K) rfl (pv 3) rfl) pa_nil)))) pa_nil)))
  (pss_one (ps_ret (pe_lst (pa_cons (pe_fld (pv 1) rfl) (pa_cons (pe_fld (pv 1) rfl) (pa_cons (pe_callB call_len_seq (by rfl) T.b_len (by decide +kernel) (pa_cons (pe_fld (pv 1) rfl) pa_nil)) (pa_cons (pe_callB call_len_seq (by rfl) T.b_len (by decide +kernel) (pa_cons (pe_fld (pv 1) rfl) pa_nil)) (pa_cons (pv 2) pa_nil)))))))))), ?_⟩
    simp only [Vbceaj.run] at k
    obtain ⟨dx, ho⟩ := st.ob
    obtain ⟨db, hb⟩ := st.bk
    refine ⟨_, rfl, A.o, _, dx, _, _, rfl, ho, T.cl_Office, T.n_Office_book, rfl, ?_⟩
    refine ⟨_, rfl, A.b, _, db, _, _, rfl, hb, T.cl_Book, T.n_Book_editions, rfl, _, rfl, _, rfl, A.le, _, rfl, SqL.of st.le, fun p np => ?_⟩
    rw [cut_last]
    have s1 := same_new (o := .lst ((A.eds.map fun e => V.ref e.1).drop ((A.eds.map fun e => V.ref e.1).length - 1))) np
    refine ⟨p, rfl, ⟨_, SqL.of upd_same⟩, fun D hD => ?_⟩
    refine lc_it (walk_list (xs := (A.eds.map fun e => V.ref e.1).drop ((A.eds.map fun e => V.ref e.1).length - 1))) (Grow (upd H p (.lst ((A.eds.map fun e => V.ref e.1).drop ((A.eds.map fun e => V.ref e.1).length - 1)))) D (BI fun i => (if S.editions = [] then [] else [((Vbceaj.edition S (Vbceaj.newest S)).sheets.length : Int)]).take i)) (Grow.start hD rfl) (fun i H2 _ g => SqL.of (g.same _ _ upd_same)) ?_ ?_
    · rintro i v H2 H3 hi ⟨acc, hacc, s3, bo, hle⟩ ⟨rfl, e2⟩
      have hlen : (A.eds.map fun e => V.ref e.1).length = S.editions.length := by rw [List.length_map, st.el]
      rw [List.length_drop, hlen] at hi
      have hpos : 0 < S.editions.length := by omega
      have hn : S.editions ≠ [] := List.length_pos_iff.mp hpos
      have hi0 : i = 0 := by omega
      subst hi0
      rw [List.getElem?_drop, hlen, Nat.add_zero] at e2
      obtain ⟨ed, hed, rfl⟩ := Em.getElem_map e2
      have hER := ((st.ed _ ed _ hed (newest_at hn)).edR off_up).same (s1.trans s3)
      obtain ⟨de, nue, ss, h3, h4, ⟨ks, ek, h5, h6⟩⟩ := hER.ob
      refine ⟨rfl, tyes ?_⟩
      refine ⟨_, rfl, ed.1, _, de, _, _, rfl, h3, T.cl_Edition, T.n_Edition_sheets, rfl, ss, _, rfl, .inl (SqL.of h5), ?_⟩
      refine Grow.put hD hacc s3 hle (by omega) (Same.refl _) (bo.put ?_)
      rw [if_neg hn, LR.len ek]; rfl
    · intro H2 g
      have z := BI.done g
      have s2 := s1.trans g.same
      have hlen : (A.eds.map fun e => V.ref e.1).length = S.editions.length := by rw [List.length_map, st.el]
      have es : (List.take ((A.eds.map fun e => V.ref e.1).drop ((A.eds.map fun e => V.ref e.1).length - 1)).length (if S.editions = [] then [] else [((Vbceaj.edition S (Vbceaj.newest S)).sheets.length : Int)])).sum = ((Vbceaj.edition S (Vbceaj.newest S)).sheets.length : Int) := by
        rw [List.length_drop, hlen]
        by_cases hn : S.editions = []
        · rw [if_pos hn]
          unfold Vbceaj.edition
          rw [hn]; rfl
        · rw [if_neg hn]
          have hpos : 0 < S.editions.length := List.length_pos_iff.mpr hn
          rw [show S.editions.length - (S.editions.length - 1) = 1 by omega]
          show ((_ : Int) + 0) = _
          rw [Int.add_zero]
      refine ⟨D, _, rfl, SqL.of z, ?_⟩
      rw [es]
      refine ⟨_, rfl, A.b, _, db, _, _, rfl, s2 _ _ hb, T.cl_Book, T.n_Book_pages, rfl, _, rfl, A.b, _, db, _, _, rfl, s2 _ _ hb, T.cl_Book, T.n_Book_lines, rfl, _, rfl, A.b, _, db, _, _, rfl, s2 _ _ hb, T.cl_Book, T.n_Book_editions, rfl, A.le, _, rfl, .inl (SqL.of (s2 _ _ st.le)), _, rfl, A.b, _, db, _, _, rfl, s2 _ _ hb, T.cl_Book, T.n_Book_copies, rfl, A.lc, _, rfl, .inl (SqL.of (s2 _ _ st.lc)), _, rfl, (by show 5 ≤ sizeLine; decide), fun r nr => ?_⟩
      refine k.ro st (s2.trans (same_new nr)) (s2.free nr) ?_
      show upd _ _ _ _ = _
      rw [upd_same, hlen, List.length_map, st.cl]
      rfl
theorem ok_Office_look (T : Txt K mg Z) : OkM P w K mg base (L2.CX P w) 9 Z.cOffice "look" ["self", "data"] (spM1 Z .look) := by
  obtain ⟨f0, fd0, M0, F0⟩ := T.d_Office_look
  obtain ⟨f_look_at_bytes, fd_look_at_bytes, g_look_at_bytes, k_look_at_bytes, G_look_at_bytes, B_look_at_bytes⟩ := ok_look_at_bytes (P := P) (w := w) (base := base) T
  obtain ⟨f_Office_look_at_book, fd_Office_look_at_book, M_Office_look_at_book, G_Office_look_at_book, B_Office_look_at_book⟩ := ok_Office_look_at_book (P := P) (w := w) (base := base) T
  obtain ⟨f_Office_read, fd_Office_read, M_Office_read, G_Office_read, B_Office_read⟩ := ok_Office_read (P := P) (w := w) (base := base) T
  obtain ⟨f_Book_next_faults, fd_Book_next_faults, M_Book_next_faults, G_Book_next_faults, B_Book_next_faults⟩ := ok_Book_next_faults (P := P) (w := w) (base := base) T
  refine ⟨f0, fd0, M0, F0.okX sc_Office_look (fun vs H Q E h => ?_) (fun cdv A outer s H vs Q E hr h => ?_), (F0.binds fun _ _ _ _ _ _ us hl => match us, hl with | [_, _], _ => rfl)⟩
  · obtain ⟨A, S, a, l, rfl, _⟩ := h
    rfl
  · obtain ⟨A, S, a, l, rfl, st, ha, hl, k⟩ := h
    refine ⟨_, (pss_cons (ps_expr (pe_call G_look_at_bytes (hr.mono (by decide)) rfl g_look_at_bytes k_look_at_bytes B_look_at_bytes .nil (passes_call (takes_of rfl rfl rfl rfl) fun _ _ _ _ h => h) (pa_cons (pv 1) pa_nil)))
  (pss_cons (ps_expr (pe_meth0 (pv 0) T.cl_Office M_Office_look_at_book G_Office_look_at_book (hr.mono (by decide)) B_Office_look_at_book .nil (passes_call (takes_of rfl rfl rfl rfl) fun _ _ _ _ h => h)))
  (pss_cons (ps_try_as (i := 5) (tb := fun W => tAsg (tMethS Z.cOffice "read" (spORead Z) (WE W) (tVar 0) (tCons (tVar 1) tNil)) (gTup K 3 (gCons (gName 2) (gCons (gName 3) (gCons (gName 4) gNil))))) rfl rfl sc_Office_look.nd rfl rfl ⟨rfl, by decide, Or.inl T.g_Fault⟩ takes0
  (fun W pn xe tk _ => (pss_one (ps_asg (pe_methS (pv 0) T.cl_Office M_Office_read G_Office_read (hr.mono (by decide)) B_Office_read (fun σ => passAt tk σ) (by exact (pa_cons (pv 1) pa_nil))) (pg_tup rfl (pgs_cons (pg_name (i := 2) sc_Office_look.nd rfl (.inl rfl)) (pgs_cons (pg_name (i := 3) sc_Office_look.nd rfl (.inl rfl)) (pgs_cons (pg_name (i := 4) sc_Office_look.nd rfl (.inl rfl)) pgs_nil)))))))
  (fun a oe cls d pn hz hf => (pss_one (ps_ret (pe_lst (pa_cons pe_int (pa_cons (pe_xf T.xf_Fault T.nx_Fault hz hf (pv 5)) pa_nil)))))))
  (pss_cons (ps_set (i := 6) sc_Office_look.nd rfl (Or.inl rfl) (pe_meth (pe_fld (pv 0) rfl) T.cl_Book M_Book_next_faults G_Book_next_faults (hr.mono (by decide)) B_Book_next_faults .nil pass0 (pa_cons (pv 2) (pa_cons (pv 3) (pa_cons (pv 4) pa_nil)))))
  (pss_cons (ps_if (pt_cmpR (op_neD hr.units) (pv 6) (pe_lst pa_nil) (nomark _)) (pss_one (ps_ret (pv 6))) pss_nil)
  (pss_one (ps_ret (pe_lst (pa_cons pe_int (pa_cons (pe_callB call_len_seq (by rfl) T.b_len (by decide +kernel) (pa_cons (pv 4) pa_nil)) pa_nil)))))))))), ?_⟩
    simp only [Vbceaj.run, bind, Except.bind, pure, Except.pure] at k
    obtain ⟨dx, ho⟩ := st.ob
    obtain ⟨db, hbk⟩ := st.bk
    refine ⟨_, rfl, a, l, rfl, ha, hl, fun q H1 s1 => ?_, fun q => ?_⟩
    rotate_left
    · rw [text_err q] at k
      exact k.1
    rw [text_ok q hl] at k
    dsimp only at k
    have st1 := st.same s1
    refine ⟨_, rfl, A.o, dx, _, rfl, s1 _ _ ho, rfl, A, S, rfl, st1, fun q2 => ?_, fun q2 => ?_⟩
    rotate_left
    · rw [need_err (by rw [q2]; rfl)] at k
      exact ErrN.mono k.1 s1
    rw [need_ok (by rw [q2]; rfl)] at k
    dsimp only at k
    have hn := ne_empty q2
    have hni := nats_of q
    have lb : (l.map Int.toNat).length ≤ 2000 := by rw [List.length_map]; exact hl
    refine ⟨_, rfl, A.o, dx, _, rfl, s1 _ _ ho, rfl, _, rfl, A, S, a, l.map Int.toNat, rfl, st1, by rw [hni]; exact ha.same s1, lb, hn, fun x n t hrd iS nm H2 qt p s2 np hS hqt => ?_, fun p hrd => ?_⟩
    rotate_left
    · rw [hrd] at k
      dsimp only at k
      intro H2 d s2 nd hd
      refine ⟨true, T.ex_ff, fun _ e he => ?_, fun z => Bool.noConfusion z⟩
      refine ⟨_, rfl, rfl, rfl, d, _, _, rfl, hd, rfl, (by show 2 ≤ sizeLine; decide), fun r nr => ?_⟩
      exact k.ro st ((s1.trans s2).trans (same_new nr)) ((s1.trans s2).free nr) upd_same
    rw [hrd] at k
    dsimp only at k
    refine tup3 hqt ?_
    have s02 : Same H H2 := s1.trans s2
    have st2 := st.same s02
    refine ⟨_, rfl, A.o, _, dx, _, _, rfl, s02 _ _ ho, T.cl_Office, T.n_Office_book, rfl, A.b, db, _, rfl, s02 _ _ hbk, rfl, _, rfl, _, rfl, _, rfl, A.b, p, x, n, S, t, rfl, st2.bkr, st2.gd, hn, hS, iS.lt, fun H3 f s3 nf hf => ?_⟩
    have s03 := s02.trans s3
    have hd := hind S hn x n t
    refine ⟨_, rfl, (by show 0 ≤ sizeLine; decide), fun g ng => ?_⟩
    have s4 := same_new (o := .lst []) ng
    have hf4 : LI (upd H3 g (.lst [])) f (nfL S x n t) := hf.same s4
    have s04 := s03.trans s4
    refine ⟨.list ((nfL S x n t).map PyData.int), .list (([] : List Int).map PyData.int), .lst (SqL.of hf4) (dp_ints _), .lst (SqL.of (show _ = some (HO.lst (([] : List Int).map V.int)) from upd_same)) (dp_ints _), shaped_ints _, rfl, ?_⟩
    rw [eqv_all]
    have ver : ∀ (e : List Int), nfL S x n t = e → e ≠ [] → Vbceaj.verdict (Vbceaj.hindrance S x n t) t.length = e := fun e he hne => by
      rcases hd with ⟨e1, h1⟩ | ⟨e1, h1⟩ | ⟨i, e1, h1⟩ | ⟨e1, h1, _⟩
      · rw [h1, ← he, e1]; rfl
      · rw [h1, ← he, e1]; rfl
      · rw [h1, ← he, e1]
        unfold Vbceaj.verdict
        rw [if_neg (by omega), if_neg (by omega), Nat.add_sub_cancel_left]
      · exact absurd (he.symm.trans e1) hne
    refine ⟨_, rfl, if_dec (fun c => ?_) fun c => ?_⟩
    · have c' : nfL S x n t ≠ [] := by
        intro z; rw [z] at c; cases c
      rw [ver _ rfl c'] at k
      exact ⟨_, rfl, k.ro st s04 (s02.free nf) hf4⟩
    · have c' : nfL S x n t = [] := by
        revert c; by_cases z : nfL S x n t = []
        · exact fun _ => z
        · rw [decide_eq_false z]; intro q9; cases q9
      have h0 : Vbceaj.hindrance S x n t = 0 := by
        rcases hd with ⟨e1, h1⟩ | ⟨e1, h1⟩ | ⟨i, e1, h1⟩ | ⟨e1, h1, _⟩
        · rw [e1] at c'; cases c'
        · rw [e1] at c'; cases c'
        · rw [e1] at c'; cases c'
        · exact h1
      obtain ⟨ks, ek, hp, _⟩ := (hS.same s3).same s4
      refine ⟨_, rfl, p, _, rfl, .inl (SqL.of hp), (by show 2 ≤ sizeLine; decide), fun r nr => ?_⟩
      refine k.ro st (s04.trans (same_new nr)) (s04.free nr) ?_
      show upd _ _ _ _ = _
      rw [upd_same, LR.len ek, List.length_map, h0]
      rfl
end
end EX
namespace EX
open PySem PySem.Spec PyProof.Rows L2
open Vbceaj (Sheet Erratum State)
theorem upd_twice {H : Hp} {c : Addr} {o1 o2 : HO} : upd (upd H c o1) c o2 = upd H c o2 := by
  funext b
  by_cases q : b = c
  · rw [q, upd_same, upd_same]
  · rw [upd_ne q, upd_ne q, upd_ne q]
theorem fits_ok {l : List Int} {t : Sheet} (h : Vbceaj.unfit l t = none) : Vbceaj.fits l t = .ok () := by unfold Vbceaj.fits; rw [h]
theorem fits_err {l : List Int} {t : Sheet} {i : Nat} (h : Vbceaj.unfit l t = some i) : Vbceaj.fits l t = .error (-100000 - (i : Int)) := by unfold Vbceaj.fits; rw [h]
theorem fw_none {l : List Int} {t : Sheet} (h : Vbceaj.unfit l t = none) : Em.firstWrong l t = -1 := by unfold Em.firstWrong; rw [h]
theorem fw_some {l : List Int} {t : Sheet} {i : Nat} (h : Vbceaj.unfit l t = some i) : Em.firstWrong l t = (i : Int) := by unfold Em.firstWrong; rw [h]
/-- with a number and a row -/
def spNR (Z : Ad) (c : Int → List Int → Vbceaj.Call) : Sp := fun vs H Q E => ∃ (A : Adr) (S : State) (n : Int) (r : Addr) (l : List Int), vs = [.ref A.o, .int n, .ref r] ∧ StA Z A H S ∧ LI H r l ∧ l.length ≤ 2000 ∧ Done Z A H Q E (Vbceaj.run S (c n l))
section
variable {P : Program} {w : World} {K : PySem.W.Frag} {mg : Str → Option Value} {base : Heap} {Z : Ad}
theorem ok_Office_amend (T : Txt K mg Z) : OkM P w K mg base (L2.CX P w) 6 Z.cOffice "amend" ["self", "number", "row"] (spNR Z .amend) := by
  obtain ⟨f0, fd0, M0, F0⟩ := T.d_Office_amend
  obtain ⟨f_Office_copy_of, fd_Office_copy_of, M_Office_copy_of, G_Office_copy_of, B_Office_copy_of⟩ := ok_Office_copy_of (P := P) (w := w) (base := base) T
  obtain ⟨f_Office_sheet_of, fd_Office_sheet_of, M_Office_sheet_of, G_Office_sheet_of, B_Office_sheet_of⟩ := ok_Office_sheet_of (P := P) (w := w) (base := base) T
  obtain ⟨f_first_wrong, fd_first_wrong, g_first_wrong, k_first_wrong, G_first_wrong, B_first_wrong⟩ := ok_first_wrong (P := P) (w := w) (base := base) T
  obtain ⟨f_refuse_if, fd_refuse_if, g_refuse_if, k_refuse_if, G_refuse_if, B_refuse_if⟩ := ok_refuse_if (P := P) (w := w) (base := base) T
  obtain ⟨f_done, fd_done, g_done, k_done, G_done, B_done⟩ := ok_done (P := P) (w := w) (base := base) T
  refine ⟨f0, fd0, M0, F0.okX sc_Office_amend (fun vs H Q E h => ?_) (fun cdv A outer s H vs Q E hr h => ?_), (F0.binds fun _ _ _ _ _ _ us hl => match us, hl with | [_, _, _], _ => rfl)⟩
  · obtain ⟨A, S, n, r, l, rfl, _⟩ := h
    rfl
  · obtain ⟨A, S, n, r, l, rfl, st, hr1, hl, k⟩ := h
    refine ⟨_, (pss_cons (ps_set (i := 3) sc_Office_amend.nd rfl (Or.inl rfl) (pe_meth (pv 0) T.cl_Office M_Office_copy_of G_Office_copy_of (hr.mono (by decide)) B_Office_copy_of .nil (passes_call (takes_of rfl rfl rfl rfl) fun _ _ _ _ h => h) (pa_cons (pv 1) pa_nil)))
  (pss_cons (ps_set (i := 4) sc_Office_amend.nd rfl (Or.inl rfl) (pe_meth (pv 0) T.cl_Office M_Office_sheet_of G_Office_sheet_of (hr.mono (by decide)) B_Office_sheet_of .nil (passes_call (takes_of rfl rfl rfl rfl) fun _ _ _ _ h => h) (pa_cons (pv 2) pa_nil)))
  (pss_cons (ps_set (i := 5) sc_Office_amend.nd rfl (Or.inl rfl) (pe_call G_first_wrong (hr.mono (by decide)) rfl g_first_wrong k_first_wrong B_first_wrong .nil pass0 (pa_cons (pv 4) (pa_cons (pe_fld (pv 3) rfl) pa_nil))))
  (pss_cons (ps_expr (pe_call G_refuse_if (hr.mono (by decide)) rfl g_refuse_if k_refuse_if B_refuse_if .nil (passes_call (takes_of rfl rfl rfl rfl) fun _ _ _ _ h => h) (pa_cons (pe_cmpR op_ne (pv 5) (pe_gint rfl T.g_ALL_DONE) (nomark _)) (pa_cons (pe_op op_sub (pe_gint rfl T.g_WRONG_OLD) (pv 5)) pa_nil))))
  (pss_cons (ps_fld (pv 3) (pe_call G_done (hr.mono (by decide)) rfl g_done k_done B_done .nil pass0 (pa_cons (pv 4) (pa_cons (pe_fld (pv 3) rfl) pa_nil))) rfl)
  (pss_one (ps_ret (pe_lst (pa_cons (pe_callB call_len_seq (by rfl) T.b_len (by decide +kernel) (pa_cons (pv 4) pa_nil)) pa_nil))))))))), ?_⟩
    simp only [Vbceaj.run, bind, Except.bind, pure, Except.pure] at k
    obtain ⟨dx, ho⟩ := st.ob
    refine ⟨_, rfl, A.o, dx, _, rfl, ho, rfl, _, rfl, A, S, n, rfl, st, fun i x c hci hx hc => ?_, fun e he => ?_⟩
    rotate_left
    · rw [he] at k; exact k.1
    rw [hci] at k
    dsimp only at k
    obtain ⟨_, l1, l2, l3, hn⟩ := st.cpy hx hc
    refine ⟨_, rfl, A.o, dx, _, rfl, ho, rfl, _, rfl, A, S, r, l, rfl, st, hr1, hl, fun t ht iS tl nw H1 p s1 np hp => ?_, fun e he => ?_⟩
    rotate_left
    · rw [he] at k; exact k.1
    rw [ht] at k
    dsimp only at k
    have st1 := st.same s1
    obtain ⟨dc, nu, h1, h2⟩ := st1.cp i c x hc hx
    have h2' : LI H1 nu x.now := h2.same off_up
    have hlt : ∀ y ∈ t, y.place < x.now.length := fun y hy => by rw [l1]; exact iS.lt y hy
    refine ⟨_, rfl, _, rfl, c, _, dc, _, _, rfl, h1, T.cl_Copy, T.n_Copy_numbers, rfl, p, nu, t, _, rfl, hp, h2', hlt, fun H2 s2 => ?_⟩
    have s02 := s1.trans s2
    have st2 := st.same s02
    refine ⟨_, rfl, rfl, _, rfl, _, _, rfl, rfl, _, _, rfl, ?_⟩
    rw [dV]
    cases u : Vbceaj.unfit x.now t with
    | some j =>
      rw [fw_some u, fits_err u] at *
      refine ⟨fun c1 => ?_, fun _ => ErrN.mono k.1 s02⟩
      rw [decide_eq_false (show ¬ ((j : Int) = -1) by omega)] at c1; cases c1
    | none =>
      rw [fits_ok u] at k
      rw [fw_none u]
      refine ⟨fun _ => ?_, fun c1 => Bool.noConfusion c1⟩
      dsimp only at k
      refine ⟨_, rfl, _, rfl, c, _, dc, _, _, rfl, s2 _ _ h1, T.cl_Copy, T.n_Copy_numbers, rfl, p, nu, t, _, rfl, hp.same s2, h2'.same s2, hlt, fun H3 q s3 nq hq => ?_⟩
      have s03 := s02.trans s3
      have st3 := st.same s03
      have h13 := s3 _ _ (s2 _ _ h1)
      refine ⟨_, rfl, c, _, dc, _, rfl, h13, T.cl_Copy, T.n_Copy_numbers, (by show 3 < 1000; decide), ?_⟩
      have qn : q ∉ A.N := st.freshN (s02.free nq)
      have g := good_copy st.gd (y := { x with now := Em.done t x.now }) hx rfl (by show (Em.done t x.now).length = _; rw [Em.done_length]; exact l1) l3
      have st4 := sta_copy st3 (y := { x with now := Em.done t x.now }) hc hx g h13 (n := q) (by show off _ H3 q = _; rw [off_ne qn]; exact hq)
      obtain ⟨ks, ek, hp3, _⟩ := (hp.same s2).same s3
      have pc : p ≠ c := by
        obtain ⟨_, _, hp9, _⟩ := hp
        exact ne_of hp9 h1 (by intro z; cases z)
      refine ⟨_, rfl, p, _, rfl, .inl (SqL.of (show upd H3 c _ p = _ by rw [upd_ne pc]; exact hp3)), (by show 1 ≤ sizeLine; decide), fun r0 nr => ?_⟩
      have rc : r0 ≠ c := fun z => by rw [z, upd_same] at nr; cases nr
      have nr0 : H r0 = none := by rw [upd_ne rc] at nr; exact s03.free nr
      refine k A _ r0 (st4.same (same_new nr)) rfl (fun b u e0 h0 => ?_) (fun m hm => .inl hm) nr0 ?_
      · have cn : b ≠ c := fun z => h0 (by rw [z]; exact Adr.c_mem (List.mem_of_getElem? hc))
        rw [upd_ne (ne_of_none e0 nr0), upd_ne cn]
        exact s03 _ _ e0
      · show upd _ _ _ _ = _
        rw [upd_same, LR.len ek, List.length_map]; rfl
theorem ok_Office_scratch (T : Txt K mg Z) : OkM P w K mg base (L2.CX P w) 6 Z.cOffice "scratch" ["self", "some"] (spS4 Z .scratch) := by
  obtain ⟨f0, fd0, M0, F0⟩ := T.d_Office_scratch
  obtain ⟨f_Office_copy_of, fd_Office_copy_of, M_Office_copy_of, G_Office_copy_of, B_Office_copy_of⟩ := ok_Office_copy_of (P := P) (w := w) (base := base) T
  obtain ⟨f_Office_place_of, fd_Office_place_of, M_Office_place_of, G_Office_place_of, B_Office_place_of⟩ := ok_Office_place_of (P := P) (w := w) (base := base) T
  obtain ⟨f_refuse_if, fd_refuse_if, g_refuse_if, k_refuse_if, G_refuse_if, B_refuse_if⟩ := ok_refuse_if (P := P) (w := w) (base := base) T
  obtain ⟨f_is_number, fd_is_number, g_is_number, k_is_number, G_is_number, B_is_number⟩ := ok_is_number (P := P) (w := w) (base := base) T
  obtain ⟨f_done, fd_done, g_done, k_done, G_done, B_done⟩ := ok_done (P := P) (w := w) (base := base) T
  refine ⟨f0, fd0, M0, F0.okX sc_Office_scratch (fun vs H Q E h => ?_) (fun cdv A outer s H vs Q E hr h => ?_), (F0.binds fun _ _ _ _ _ _ us hl => match us, hl with | [_, _], _ => rfl)⟩
  · obtain ⟨A, S, r, a, b, c', d, rfl, _⟩ := h
    rfl
  · obtain ⟨A, S, r, n, a, b, z, rfl, st, hr1, k⟩ := h
    refine ⟨_, (pss_cons (ps_set (i := 2) sc_Office_scratch.nd rfl (Or.inl rfl) (pe_meth (pv 0) T.cl_Office M_Office_copy_of G_Office_copy_of (hr.mono (by decide)) B_Office_copy_of .nil (passes_call (takes_of rfl rfl rfl rfl) fun _ _ _ _ h => h) (pa_cons (pe_ix ix_list (pv 1) pe_int (fun _ _ => rfl)) pa_nil)))
  (pss_cons (ps_set (i := 3) sc_Office_scratch.nd rfl (Or.inl rfl) (pe_meth (pv 0) T.cl_Office M_Office_place_of G_Office_place_of (hr.mono (by decide)) B_Office_place_of .nil (passes_call (takes_of rfl rfl rfl rfl) fun _ _ _ _ h => h) (pa_cons (pe_ix ix_list (pv 1) pe_int (fun _ _ => rfl)) (pa_cons (pe_ix ix_list (pv 1) pe_int (fun _ _ => rfl)) pa_nil))))
  (pss_cons (ps_expr (pe_call G_refuse_if (hr.mono (by decide)) rfl g_refuse_if k_refuse_if B_refuse_if .nil (passes_call (takes_of rfl rfl rfl rfl) fun _ _ _ _ h => h) (pa_cons (pe_not (pe_call G_is_number (hr.mono (by decide)) rfl g_is_number k_is_number B_is_number .nil pass0 (pa_cons (pe_ix ix_list (pv 1) pe_int (fun _ _ => rfl)) pa_nil))) (pa_cons (pe_gint rfl T.g_BAD_NUMBER) pa_nil))))
  (pss_cons (ps_set (i := 4) sc_Office_scratch.nd rfl (Or.inl rfl) (pe_ix ix_list (pe_fld (pv 2) rfl) (pv 3) (fun _ _ => rfl)))
  (pss_cons (ps_fld (pv 2) (pe_call G_done (hr.mono (by decide)) rfl g_done k_done B_done .nil pass0 (pa_cons (pe_lst (pa_cons (pe_tup (pa_cons (pv 3) (pa_cons (pv 4) (pa_cons (pe_ix ix_list (pv 1) pe_int (fun _ _ => rfl)) pa_nil)))) pa_nil)) (pa_cons (pe_fld (pv 2) rfl) pa_nil))) rfl)
  (pss_one (ps_ret (pe_lst (pa_cons pe_int (pa_cons (pv 4) pa_nil)))))))))), ?_⟩
    simp only [Vbceaj.run, bind, Except.bind, pure, Except.pure] at k
    obtain ⟨dx, ho⟩ := st.ob
    refine ⟨_, rfl, A.o, dx, _, rfl, ho, rfl, _, rfl, r, _, _, _, rfl, rfl, SqL.of hr1, atI0, A, S, n, rfl, st, fun i x c hci hx hc => ?_, fun e he => ?_⟩
    rotate_left
    · rw [he] at k; exact k.1
    rw [hci] at k
    dsimp only at k
    obtain ⟨_, l1, l2, l3, hn⟩ := st.cpy hx hc
    refine ⟨_, rfl, A.o, dx, _, rfl, ho, rfl, _, rfl, r, _, _, _, rfl, rfl, SqL.of hr1, atI1, _, rfl, r, _, _, _, rfl, rfl, SqL.of hr1, atI2, A, S, a, b, rfl, st, fun pl hpl hlt _ => ?_, fun e he => ?_⟩
    rotate_left
    · rw [he] at k; exact k.1
    rw [hpl] at k
    dsimp only at k
    refine ⟨_, rfl, r, _, _, _, rfl, rfl, SqL.of hr1, atI3, z, rfl, ?_⟩
    have en : VbceCore.isBetween z (-Vbceaj.BIG) Vbceaj.BIG = Em.num z := rfl
    rw [en] at k
    refine ⟨_, rfl, _, _, rfl, fun c1 => ?_, fun c1 => ?_⟩
    rotate_left
    · have : Em.num z = false := by revert c1; cases Em.num z <;> simp
      rw [need_err this] at k; exact k.1
    have : Em.num z = true := by revert c1; cases Em.num z <;> simp
    rw [need_ok this] at k
    dsimp only at k
    obtain ⟨dc, nu, h1, h2⟩ := st.cp i c x hc hx
    have h2' : LI H nu x.now := h2.same off_up
    have lp : pl < x.now.length := by rw [l1]; exact hlt
    refine ⟨_, rfl, c, _, dc, _, _, rfl, h1, T.cl_Copy, T.n_Copy_numbers, rfl, _, rfl, nu, _, _, _, rfl, rfl, SqL.of h2', atI_nat (getD_at lp), ?_⟩
    refine ⟨_, rfl, _, rfl, _, rfl, r, _, _, _, rfl, rfl, SqL.of hr1, atI3, (by show 3 ≤ sizeLine; decide), fun t nt => ⟨(by show 1 ≤ sizeLine; decide), fun p np => ?_⟩⟩
    have s1 := same_new (o := .tup [.int (pl : Nat), .int (x.now.getD pl 0), .int z]) nt
    have s2 := same_new (o := .lst [.ref t]) np
    have s02 := s1.trans s2
    have tp : t ≠ p := fun q => by rw [← q, upd_same] at np; cases np
    have hS : RS (upd (upd H t (.tup [.int (pl : Nat), .int (x.now.getD pl 0), .int z])) p (.lst [.ref t])) p [{ place := pl, old := x.now.getD pl 0, new := z }] :=
      ⟨[(t, Em.trip { place := pl, old := x.now.getD pl 0, new := z })], rfl, upd_same, fun k hk => by rw [List.mem_singleton.mp hk]; show upd _ _ _ t = _; rw [upd_ne tp, upd_same]; rfl⟩
    refine ⟨_, rfl, c, _, dc, _, _, rfl, s02 _ _ h1, T.cl_Copy, T.n_Copy_numbers, rfl, p, nu, _, _, rfl, hS, h2'.same s02, fun y hy => by rw [List.mem_singleton.mp hy]; exact lp, fun H3 q s3 nq hq => ?_⟩
    have s03 := s02.trans s3
    have st3 := st.same s03
    have h13 := s03 _ _ h1
    refine ⟨_, rfl, c, _, dc, _, rfl, h13, T.cl_Copy, T.n_Copy_numbers, (by show 3 < 1000; decide), ?_⟩
    have qn : q ∉ A.N := st.freshN (s02.free nq)
    have ed : Em.done [{ place := pl, old := x.now.getD pl 0, new := z }] x.now = x.now.set pl z := rfl
    rw [ed] at hq
    have g := good_copy st.gd (y := { x with now := x.now.set pl z }) hx rfl (by show (x.now.set pl z).length = _; rw [List.length_set]; exact l1) l3
    have st4 := sta_copy st3 (y := { x with now := x.now.set pl z }) hc hx g h13 (n := q) (by show off _ H3 q = _; rw [off_ne qn]; exact hq)
    refine ⟨_, rfl, (by show 2 ≤ sizeLine; decide), fun r0 nr => ?_⟩
    have rc : r0 ≠ c := fun z => by rw [z, upd_same] at nr; cases nr
    have nr0 : H r0 = none := by rw [upd_ne rc] at nr; exact s03.free nr
    refine k A _ r0 (st4.same (same_new nr)) rfl (fun b u e0 h0 => ?_) (fun m hm => .inl hm) nr0 upd_same
    have cn : b ≠ c := fun z => h0 (by rw [z]; exact Adr.c_mem (List.mem_of_getElem? hc))
    rw [upd_ne (ne_of_none e0 nr0), upd_ne cn]
    exact s03 _ _ e0
theorem pen_end {e : Vbceaj.Edition} {f n : Nat} {c : Vbceaj.Copy} (h : n ≤ c.pen) : Vbceaj.penFrom e f n c = .ok c := by
  cases f with
  | zero => rfl
  | succ f => unfold Vbceaj.penFrom; exact if_pos h
theorem pen_step {e : Vbceaj.Edition} {f n : Nat} {c : Vbceaj.Copy} (h : c.pen < n) : Vbceaj.penFrom e (f + 1) n c = (match Vbceaj.unfit c.now (e.sheets.getD c.pen []) with
    | some i => .error (c.pen, i)
    | none => Vbceaj.penFrom e f n { c with pen := c.pen + 1, now := (e.sheets.getD c.pen []).foldl Vbceaj.amendOne c.now }) := by
  rw [Vbceaj.penFrom, if_neg (by omega)]
  rfl
theorem ok_Office_pen (T : Txt K mg Z) : OkM P w K mg base (L2.CX P w) 6 Z.cOffice "pen" ["self", "number", "many"] (spN2 Z .pen) := by
  obtain ⟨f0, fd0, M0, F0⟩ := T.d_Office_pen
  obtain ⟨f_Office_copy_of, fd_Office_copy_of, M_Office_copy_of, G_Office_copy_of, B_Office_copy_of⟩ := ok_Office_copy_of (P := P) (w := w) (base := base) T
  obtain ⟨f_in_range, fd_in_range, g_in_range, k_in_range, G_in_range, B_in_range⟩ := ok_in_range (P := P) (w := w) (base := base) T
  obtain ⟨f_refuse_if, fd_refuse_if, g_refuse_if, k_refuse_if, G_refuse_if, B_refuse_if⟩ := ok_refuse_if (P := P) (w := w) (base := base) T
  obtain ⟨f_first_wrong, fd_first_wrong, g_first_wrong, k_first_wrong, G_first_wrong, B_first_wrong⟩ := ok_first_wrong (P := P) (w := w) (base := base) T
  obtain ⟨f_done, fd_done, g_done, k_done, G_done, B_done⟩ := ok_done (P := P) (w := w) (base := base) T
  refine ⟨f0, fd0, M0, F0.okX sc_Office_pen (fun vs H Q E h => ?_) (fun cdv A outer s H vs Q E hr h => ?_), (F0.binds fun _ _ _ _ _ _ us hl => match us, hl with | [_, _, _], _ => rfl)⟩
  · obtain ⟨A, S, n, m, rfl, _⟩ := h
    rfl
  · obtain ⟨A, S, n, m, rfl, st, k⟩ := h
    refine ⟨_, (pss_cons (ps_set (i := 3) sc_Office_pen.nd rfl (Or.inl rfl) (pe_meth (pv 0) T.cl_Office M_Office_copy_of G_Office_copy_of (hr.mono (by decide)) B_Office_copy_of .nil (passes_call (takes_of rfl rfl rfl rfl) fun _ _ _ _ h => h) (pa_cons (pv 1) pa_nil)))
  (pss_cons (ps_expr (pe_call G_in_range (hr.mono (by decide)) rfl g_in_range k_in_range B_in_range .nil (passes_call (takes_of rfl rfl rfl rfl) fun _ _ _ _ h => h) (pa_cons (pv 2) (pa_cons pe_int (pa_cons (pe_op op_add (pe_gint rfl T.g_LAST_SHEET) pe_int) pa_nil)))))
  (pss_cons (ps_set (i := 4) sc_Office_pen.nd rfl (Or.inl rfl) (pe_fld (pe_ix ix_list (pe_fld (pe_fld (pv 0) rfl) rfl) (pe_fld (pv 3) rfl) (fun _ _ => rfl)) rfl))
  (pss_cons (ps_expr (pe_call G_refuse_if (hr.mono (by decide)) rfl g_refuse_if k_refuse_if B_refuse_if .nil (passes_call (takes_of rfl rfl rfl rfl) fun _ _ _ _ h => h) (pa_cons (pe_cmpR op_lt (pe_callB call_len_seq (by rfl) T.b_len (by decide +kernel) (pa_cons (pv 4) pa_nil)) (pv 2) (nomark _)) (pa_cons (pe_gint rfl T.g_NOT_AS_TOLD) pa_nil))))
  (pss_cons (ps_set (i := 5) sc_Office_pen.nd rfl (Or.inl rfl) (pe_fld (pv 3) rfl))
  (pss_cons (ps_for (passes_of rfl) rfl (pi_range2 (by rfl) T.b_range (pa_cons (pe_fld (pv 3) rfl) (pa_cons (pv 2) pa_nil))) (pg_name (i := 6) sc_Office_pen.nd rfl (.inl rfl))
  (pss_cons (ps_set (i := 7) sc_Office_pen.nd rfl (Or.inl rfl) (pe_call G_first_wrong (hr.mono (by decide)) rfl g_first_wrong k_first_wrong B_first_wrong .nil pass0 (pa_cons (pe_ix ix_list (pv 4) (pv 6) (fun _ _ => rfl)) (pa_cons (pv 5) pa_nil))))
  (pss_cons (ps_expr (pe_call G_refuse_if (hr.mono (by decide)) rfl g_refuse_if k_refuse_if B_refuse_if .nil (passes_call (takes_of rfl rfl rfl rfl) fun _ _ _ _ h => h) (pa_cons (pe_cmpR op_ne (pv 7) (pe_gint rfl T.g_ALL_DONE) (nomark _)) (pa_cons (pe_op op_sub (pe_op op_sub (pe_gint rfl T.g_WRONG_OLD) (pe_op op_mul pe_int (pv 6))) (pv 7)) pa_nil))))
  (pss_one (ps_set (i := 5) sc_Office_pen.nd rfl (Or.inl rfl) (pe_call G_done (hr.mono (by decide)) rfl g_done k_done B_done .nil pass0 (pa_cons (pe_ix ix_list (pv 4) (pv 6) (fun _ _ => rfl)) (pa_cons (pv 5) pa_nil))))))))
  (pss_cons (ps_fld (pv 3) (pv 5) rfl)
  (pss_cons (ps_fld (pv 3) (pe_callB (call_max2 rfl) (by rfl) T.b_max (by decide +kernel) (pa_cons (pe_fld (pv 3) rfl) (pa_cons (pv 2) pa_nil))) rfl)
  (pss_one (ps_ret (pe_lst (pa_cons (pe_fld (pv 3) rfl) pa_nil)))))))))))), ?_⟩
    simp only [Vbceaj.run, bind, Except.bind, pure, Except.pure] at k
    obtain ⟨dx, ho⟩ := st.ob
    obtain ⟨db, hb⟩ := st.bk
    refine ⟨_, rfl, A.o, dx, _, rfl, ho, rfl, _, rfl, A, S, n, rfl, st, fun i x c hci hx hc => ?_, fun e he => ?_⟩
    rotate_left
    · rw [he] at k; exact k.1
    rw [hci] at k
    dsimp only at k
    obtain ⟨_, l1, l2, l3, hn⟩ := st.cpy hx hc
    refine ⟨_, rfl, _, _, rfl, rfl, m, 0, 8, rfl, fun q => ?_, fun q => ?_⟩
    rotate_left
    · rw [within_err q] at k; exact k.1
    rw [within_ok q] at k
    have hm := bt_of q
    dsimp only at k
    obtain ⟨dc, nu, h1, h2⟩ := st.cp i c x hc hx
    have h2' : LI H nu x.now := h2.same off_up
    have hxe := ed_at l2
    obtain ⟨ed, hed⟩ : ∃ ed, A.eds[x.edition]? = some ed := ⟨_, List.getElem?_eq_getElem (by rw [st.el]; exact l2)⟩
    have hER := (st.ed _ ed _ hed hxe).edR off_up
    obtain ⟨de, nue, ss, h3, h4, ⟨ks, ek, h5, h6⟩⟩ := hER.ob
    have ok := st.gd.ed _ (List.mem_of_getElem? hxe)
    have hle : (A.eds.map fun e => V.ref e.1)[x.edition]? = some (.ref ed.1) := by rw [List.getElem?_map, hed]; rfl
    obtain ⟨E0, hE0⟩ : ∃ E0, E0 = Vbceaj.edition S x.edition := ⟨_, rfl⟩
    rw [← hE0] at ek l3 k ok
    refine ⟨_, rfl, A.o, _, dx, _, _, rfl, ho, T.cl_Office, T.n_Office_book, rfl, A.b, _, db, _, _, rfl, hb, T.cl_Book, T.n_Book_editions, rfl, _, rfl, c, _, dc, _, _, rfl, h1, T.cl_Copy, T.n_Copy_edition, rfl, A.le, _, _, _, rfl, rfl, SqL.of st.le, atI_nat hle, ed.1, _, de, _, _, rfl, h3, T.cl_Edition, T.n_Edition_sheets, rfl, ?_⟩
    refine ⟨_, rfl, ss, _, rfl, .inl (SqL.of h5), _, rfl, _, _, rfl, rfl, _, _, rfl, fun c1 => ?_, fun c1 => ?_⟩
    rotate_left
    · have c1' := of_decide_eq_true c1
      rw [LR.len ek] at c1'
      rw [need_err (decide_eq_false (by omega))] at k; exact k.1
    have c1' := of_decide_eq_false c1
    rw [LR.len ek] at c1'
    rw [need_ok (decide_eq_true (by omega))] at k
    dsimp only at k
    refine ⟨_, rfl, c, _, dc, _, _, rfl, h1, T.cl_Copy, T.n_Copy_numbers, rfl, ?_⟩
    have f8 := ok.fw
    refine ⟨_, rfl, c, _, dc, _, _, rfl, h1, T.cl_Copy, T.n_Copy_many, rfl, _, rfl, _, _, rfl, ⟨by omega, by omega, by omega, by omega⟩, ?_⟩
    have hN : (m - (x.pen : Int)).toNat = m.toNat - x.pen := by omega
    refine for_it (walk_range (lo := (x.pen : Int)) (n := (m - (x.pen : Int)).toNat)) (fun j σ H2 => ∃ (q : Addr) (y : Vbceaj.Copy) (x6 x7 : Option V), σ = [some (.ref A.o), some (.int n), some (.int m), some (.ref c), some (.ref ss), some (.ref q), x6, x7] ∧ Same H H2 ∧ LI H2 q y.now ∧ (H q = none ∨ q = nu) ∧ y.edition = x.edition ∧ y.pen = x.pen + j ∧ y.now.length = Vbceaj.size S ∧ Vbceaj.penFrom E0 (E0.sheets.length + 1) m.toNat x = Vbceaj.penFrom E0 (E0.sheets.length + 1 - j) m.toNat y)
      ⟨nu, x, none, none, rfl, Same.refl _, h2', .inr rfl, rfl, rfl, l1, rfl⟩ (fun _ _ _ _ _ => trivial) ?_ ?_
    · rintro j v σ H2 H3 hj ⟨qa, y, x6, x7, rfl, s2, hq, hqw, e1, e2, e3, e4⟩ ⟨rfl, rfl⟩
      rw [hN] at hj
      have hpm : x.pen + j < m.toNat := by omega
      obtain ⟨t, ht⟩ : ∃ t, E0.sheets[x.pen + j]? = some t := ⟨_, List.getElem?_eq_getElem (by omega)⟩
      obtain ⟨sa, q1, q2⟩ := LR.at_ ek h6 ht
      have iS := ok.sh t (List.mem_of_getElem? ht)
      have ep : (x.pen : Int) + (j : Int) = ((x.pen + j : Nat) : Int) := by omega
      have hat : atI (ks.map fun k => V.ref k.1) ((x.pen : Int) + (j : Int)) = some (.ref sa) := by rw [ep]; exact atI_nat q1
      have et : E0.sheets.getD y.pen [] = t := by rw [e2, List.getD_eq_getElem?_getD, ht]; rfl
      have hlt : ∀ z ∈ t, z.place < y.now.length := fun z hz => by rw [e3]; exact iS.lt z hz
      obtain ⟨f, hf⟩ : ∃ f, E0.sheets.length + 1 - j = f + 1 := ⟨E0.sheets.length - j, by omega⟩
      have hf2 : E0.sheets.length + 1 - (j + 1) = f := by omega
      rw [hf, pen_step (c := y) (f := f) (by omega), et] at e4
      refine ⟨_, rfl, _, rfl, ss, _, _, _, rfl, rfl, SqL.of (s2 _ _ h5), hat, _, rfl, sa, qa, t, _, rfl, q2.same s2, hq, hlt, fun H4 s4 => ?_⟩
      refine ⟨_, rfl, rfl, _, rfl, _, _, rfl, rfl, .inl ⟨by decide, by decide⟩, _, _, rfl, rfl, _, rfl, _, _, rfl, rfl, _, _, rfl, ?_⟩
      rw [dV]
      have s04 := s2.trans s4
      cases u : Vbceaj.unfit y.now t with
      | some g =>
        rw [u] at e4
        rw [fw_some u]
        refine ⟨fun c2 => ?_, fun _ => ?_⟩
        · rw [decide_eq_false (show ¬ ((g : Int) = -1) by omega)] at c2; cases c2
        · rw [e4] at k
          have k1 := k.1
          have ez : -100000 - (100 * ((y.pen : Nat) : Int) + (g : Int)) = -100000 - 100 * ((x.pen : Int) + (j : Int)) - (g : Int) := by rw [e2]; omega
          rw [ez] at k1
          exact ErrN.mono k1 s04
      | none =>
        rw [u] at e4
        rw [fw_none u]
        refine ⟨fun _ => ?_, fun c2 => Bool.noConfusion c2⟩
        refine ⟨_, rfl, _, rfl, ss, _, _, _, rfl, rfl, SqL.of (s04 _ _ h5), hat, _, rfl, sa, qa, t, _, rfl, q2.same s04, hq.same s4, hlt, fun H5 p s5 np hp => ?_⟩
        exact ⟨p, { y with pen := y.pen + 1, now := Em.done t y.now }, _, _, rfl, s04.trans s5, hp, .inl (s04.free np), e1, by show y.pen + 1 = _; omega, by show (Em.done t y.now).length = _; rw [Em.done_length]; exact e3, by rw [hf2]; exact e4⟩
    · rintro σ H2 ⟨qa, y, x6, x7, rfl, s2, hq, hqw, e1, e2, e3, e4⟩
      rw [hN] at e2 e4
      have hyn : m.toNat ≤ y.pen := by omega
      rw [pen_end hyn] at e4
      rw [e4] at k
      dsimp only at k
      have h12 := s2 _ _ h1
      refine ⟨_, rfl, _, rfl, c, _, dc, _, rfl, h12, T.cl_Copy, T.n_Copy_numbers, (by show 3 < 1000; decide), ?_⟩
      refine ⟨_, rfl, c, _, dc, _, _, rfl, upd_same, T.cl_Copy, T.n_Copy_many, rfl, _, rfl, _, _, rfl, ?_⟩
      refine ⟨_, rfl, c, _, dc, _, rfl, upd_same, T.cl_Copy, T.n_Copy_many, (by show 3 < 1000; decide), ?_⟩
      rw [upd_twice]
      have em : (if m > (x.pen : Int) then m else (x.pen : Int)) = ((y.pen : Nat) : Int) := by split <;> omega
      rw [em]
      have st2 := st.same s2
      have qn : qa ∉ A.N := by
        rcases hqw with z | z
        · exact st.freshN z
        · rw [z]; exact (off_some (show off A.N H nu = _ from h2)).2
      have g := good_copy st.gd (y := y) hx e1 e3 (by rw [← hE0]; omega)
      have st4 := sta_copy st2 (y := y) hc hx g h12 (n := qa) (by show off _ H2 qa = _; rw [off_ne qn]; exact hq)
      rw [e1] at st4
      refine ⟨_, rfl, c, _, dc, _, _, rfl, upd_same, T.cl_Copy, T.n_Copy_many, rfl, (by show 1 ≤ sizeLine; decide), fun r0 nr => ?_⟩
      have rc : r0 ≠ c := fun z => by rw [z, upd_same] at nr; cases nr
      have nr0 : H r0 = none := by rw [upd_ne rc] at nr; exact s2.free nr
      refine k A _ r0 (st4.same (same_new nr)) rfl (fun b u e0 h0 => ?_) (fun m hm => .inl hm) nr0 upd_same
      have cn : b ≠ c := fun z => h0 (by rw [z]; exact Adr.c_mem (List.mem_of_getElem? hc))
      rw [upd_ne (ne_of_none e0 nr0), upd_ne cn]
      exact s2 _ _ e0
end
end EX
namespace EX
open PySem PySem.Spec PyProof.Rows L2
open Vbceaj (Sheet Erratum State)
/-- what changes when only the lists of copies and editions grow by fresh things -/
theorem off_grow {M M' : List Addr} {H H' : Hp} (s : ∀ b u, H b = some u → b ∉ M → H' b = some u) (hm : ∀ m ∈ M', m ∈ M ∨ H m = none) : Same (off M H) (off M' H') := fun b u e => by
  obtain ⟨e1, e2⟩ := off_some e
  rw [off_ne (fun z => ?_)]
  · exact s b u e1 e2
  · rcases hm b z with q | q
    · exact e2 q
    · rw [q] at e1; cases e1
section
variable {Z : Ad} {A : Adr} {H H' : Hp} {S : State}
theorem good_buy (g : Good S) (hn : S.editions ≠ []) {cs : List Vbceaj.Copy} (hl : cs.length ≤ 10) (hc : ∀ x ∈ cs, x ∈ S.copies ∨ x = { edition := Vbceaj.newest S, pen := 0, now := (Vbceaj.edition S (Vbceaj.newest S)).numbers }) : Good { S with copies := cs } := by
  refine ⟨g.pg, g.ln, fun z => absurd z hn, g.some, g.ed, g.nw, g.el, hl, fun x hx => ?_⟩
  rcases hc x hx with h | h
  · exact g.cp x h
  · rw [h]
    exact ⟨by have := List.length_pos_iff.mpr hn; show S.editions.length - 1 < S.editions.length; omega, (g.new hn).num, Nat.zero_le _⟩
/-- the copies: cs at the addresses as -/
theorem sta_buy (st : StA Z A H S) {cps' : List Addr} {cs' : List Vbceaj.Copy} {c : Addr} (g : Good { S with copies := cs' }) (hlen : cps'.length = cs'.length) (hs : ∀ b u, H b = some u → b ≠ A.lc → H' b = some u) (hlc : H' A.lc = some (.lst (cps'.map V.ref)))
    (nd : cps'.Nodup) (hcps : ∀ a ∈ cps', a ∈ A.cps ∨ a = c) (hcn : H c = none)
    (hcp : ∀ (i : Nat) a x, cps'[i]? = some a → cs'[i]? = some x → (∃ j : Nat, A.cps[j]? = some a ∧ S.copies[j]? = some x) ∨ (a = c ∧ ∃ dx n, H' c = some (.ins Z.cCopy dx (fCp x.edition x.pen n)) ∧ LI H' n x.now ∧ H n = none ∧ n ≠ c)) :
    StA Z { A with cps := cps' } H' { S with copies := cs' } ∧ (∀ m ∈ ({ A with cps := cps' } : Adr).M, m ∈ A.M ∨ H m = none) := by
  have hm : ∀ m ∈ ({ A with cps := cps' } : Adr).M, m ∈ A.M ∨ H m = none := fun m h => by
    have h' : m ∈ A.o :: A.b :: A.le :: A.lc :: (A.eds.map (·.1) ++ A.eds.map (·.2) ++ cps') := h
    rcases List.mem_cons.mp h' with e | h'
    · exact .inl (by rw [e]; exact StA.o_mem)
    rcases List.mem_cons.mp h' with e | h'
    · exact .inl (by rw [e]; exact StA.b_mem)
    rcases List.mem_cons.mp h' with e | h'
    · exact .inl (by rw [e]; exact Adr.le_mem)
    rcases List.mem_cons.mp h' with e | h'
    · exact .inl (by rw [e]; exact Adr.lc_mem)
    rcases List.mem_append.mp h' with h' | h'
    · exact .inl (List.mem_cons_of_mem _ (List.mem_cons_of_mem _ (List.mem_cons_of_mem _ (List.mem_cons_of_mem _ (List.mem_append_left _ h')))))
    · rcases hcps m h' with q | q
      · exact .inl (Adr.c_mem q)
      · exact .inr (by rw [q]; exact hcn)
  have ax' := st.axUpd hm fun b u e hb => hs b u e (fun z => hb (by rw [z]; exact Adr.lc_mem))
  have hmN : ∀ m ∈ ({ A with cps := cps' } : Adr).N, m ∈ A.N ∨ H m = none := fun m h => (List.mem_append.mp h).elim (fun h => .inl (List.mem_append_left _ h)) fun h => (hm m h).imp Adr.inN id
  have fs : Same (off A.N H) (off ({ A with cps := cps' } : Adr).N H') := off_grow (fun b u e hb => hs b u e (fun z => hb (by rw [z]; exact Adr.inN Adr.lc_mem))) hmN
  have tr : ∀ m ∈ A.M, m ≠ c := fun m h z => st.tracked h (by rw [z]; exact hcn)
  obtain ⟨d1, h1⟩ := st.ob
  obtain ⟨d2, h2⟩ := st.bk
  have k1 : A.o ≠ A.lc := ne_of h1 st.lc (by intro z; cases z)
  have k2 : A.b ≠ A.lc := ne_of h2 st.lc (by intro z; cases z)
  obtain ⟨n1, n2, n3, n4, n5⟩ := Adr.nd_all st.nd
  refine ⟨⟨?_, ⟨d1, hs _ _ h1 k1⟩, ⟨d2, hs _ _ h2 k2⟩, hs _ _ st.le n4, hlc, st.el, fun i e x he hx => ?_, hlen, fun i a x ha hx => ?_, g, ax'⟩, hm⟩
  · have nd0 := st.nd
    unfold Adr.M at nd0
    show (A.o :: A.b :: A.le :: A.lc :: (A.eds.map (·.1) ++ A.eds.map (·.2) ++ cps')).Nodup
    obtain ⟨a1, b1⟩ := List.nodup_cons.mp nd0
    obtain ⟨a2, b2⟩ := List.nodup_cons.mp b1
    obtain ⟨a3, b3⟩ := List.nodup_cons.mp b2
    obtain ⟨a4, b4⟩ := List.nodup_cons.mp b3
    obtain ⟨q1, q2, q3⟩ := List.nodup_append.mp b4
    -- a member of M that is no copy is none of the new ones
    have dis : ∀ m ∈ A.M, m ∉ A.cps → m ∉ cps' := fun m h hn z => by
      rcases hcps m z with q | q
      · exact hn q
      · exact tr m h q
    have sub : ∀ m, m ∈ (A.eds.map (·.1) ++ A.eds.map (·.2) ++ cps') → m ∈ (A.eds.map (·.1) ++ A.eds.map (·.2)) ∨ m ∈ cps' := fun m h => List.mem_append.mp h
    refine List.nodup_cons.mpr ⟨fun z => ?_, List.nodup_cons.mpr ⟨fun z => ?_, List.nodup_cons.mpr ⟨fun z => ?_, List.nodup_cons.mpr ⟨fun z => ?_, List.nodup_append.mpr ⟨q1, nd, fun a ha b hb e => ?_⟩⟩⟩⟩⟩
    · simp only [List.mem_cons] at z
      rcases z with z | z | z | z
      · exact a1 (by rw [z]; simp)
      · exact a1 (by rw [z]; simp)
      · exact a1 (by rw [z]; simp)
      · rcases sub _ z with z | z
        · exact a1 (List.mem_cons_of_mem _ (List.mem_cons_of_mem _ (List.mem_cons_of_mem _ (List.mem_append_left _ z))))
        · exact dis _ StA.o_mem (fun w => a1 (List.mem_cons_of_mem _ (List.mem_cons_of_mem _ (List.mem_cons_of_mem _ (List.mem_append_right _ w))))) z
    · simp only [List.mem_cons] at z
      rcases z with z | z | z
      · exact a2 (by rw [z]; simp)
      · exact a2 (by rw [z]; simp)
      · rcases sub _ z with z | z
        · exact a2 (List.mem_cons_of_mem _ (List.mem_cons_of_mem _ (List.mem_append_left _ z)))
        · exact dis _ StA.b_mem (fun w => a2 (List.mem_cons_of_mem _ (List.mem_cons_of_mem _ (List.mem_append_right _ w)))) z
    · simp only [List.mem_cons] at z
      rcases z with z | z
      · exact a3 (by rw [z]; simp)
      · rcases sub _ z with z | z
        · exact a3 (List.mem_cons_of_mem _ (List.mem_append_left _ z))
        · exact dis _ Adr.le_mem (fun w => a3 (List.mem_cons_of_mem _ (List.mem_append_right _ w))) z
    · rcases sub _ z with z | z
      · exact a4 (List.mem_append_left _ z)
      · exact dis _ Adr.lc_mem (fun w => a4 (List.mem_append_right _ w)) z
    · rw [e] at ha
      exact dis b (List.mem_cons_of_mem _ (List.mem_cons_of_mem _ (List.mem_cons_of_mem _ (List.mem_cons_of_mem _ (List.mem_append_left _ ha))))) (fun w => q3 b ha b w rfl) hb
  · refine (st.ed i e x he hx).same (fun b u q hb => hs b u q ?_) fs
    have hem := List.mem_of_getElem? he
    rcases hb with hb | hb
    · rw [hb]
      obtain ⟨dx, n, ss, r1, _⟩ := st.ed i e x he hx
      exact ne_of r1 st.lc (by intro z; cases z)
    · rw [hb]; exact (n5 e hem).2
  · rcases hcp i a x ha hx with ⟨j, r1, r2⟩ | ⟨r1, r2⟩
    · obtain ⟨dx, n, r3, r4⟩ := st.cp j a x r1 r2
      exact ⟨dx, n, hs _ _ r3 (ne_of r3 st.lc (by intro z; cases z)), r4.same fs⟩
    · obtain ⟨dx, n, r3, r4, r5, r6⟩ := r2
      rw [r1]
      refine ⟨dx, n, r3, ?_⟩
      show off _ H' n = _
      rw [off_ne (fun z => ?_)]
      · exact r4
      · rcases List.mem_append.mp z with z | z
        · exact st.xfresh r5 z
        have z' : n ∈ A.o :: A.b :: A.le :: A.lc :: (A.eds.map (·.1) ++ A.eds.map (·.2) ++ cps') := z
        have : n ∈ A.M ∨ n ∈ cps' := by
          rcases List.mem_cons.mp z' with e | z'
          · exact .inl (by rw [e]; exact StA.o_mem)
          rcases List.mem_cons.mp z' with e | z'
          · exact .inl (by rw [e]; exact StA.b_mem)
          rcases List.mem_cons.mp z' with e | z'
          · exact .inl (by rw [e]; exact Adr.le_mem)
          rcases List.mem_cons.mp z' with e | z'
          · exact .inl (by rw [e]; exact Adr.lc_mem)
          rcases List.mem_append.mp z' with z' | z'
          · exact .inl (List.mem_cons_of_mem _ (List.mem_cons_of_mem _ (List.mem_cons_of_mem _ (List.mem_cons_of_mem _ (List.mem_append_left _ z')))))
          · exact .inr z'
        rcases this with q | q
        · exact st.tracked q r5
        · rcases hcps n q with q | q
          · exact st.tracked (Adr.c_mem q) r5
          · exact r6 q
theorem good_next (g : Good S) (hn : S.editions ≠ []) {l : List Int} (hl : l.length = Vbceaj.size S) (h8 : S.editions.length < 8) : Good { S with editions := S.editions ++ [{ numbers := l, sheets := [] }] } := by
  have ex : ∀ x ∈ S.editions ++ [({ numbers := l, sheets := [] } : Vbceaj.Edition)], x ∈ S.editions ∨ x = { numbers := l, sheets := [] } := fun x hx => (List.mem_append.mp hx).imp id (fun h => List.mem_singleton.mp h)
  refine ⟨g.pg, g.ln, fun z => ?_, fun _ => g.some hn, fun x hx => ?_, fun x hx t ht => ?_, ?_, g.cl, fun c hc => ?_⟩
  · have : S.editions ++ [_] = [] := z
    simp at this
  · rcases ex x hx with h | h
    · exact g.ed x h
    · rw [h]; exact ⟨hl, fun t ht => (nomatch ht), by show 0 ≤ 8; decide⟩
  · rcases ex x hx with h | h
    · exact g.nw x h t ht
    · rw [h] at ht; cases ht
  · show (S.editions ++ [_]).length ≤ 8
    rw [List.length_append]; exact h8
  · obtain ⟨c1, c2, c3⟩ := g.cp c hc
    refine ⟨by show _ < (S.editions ++ [_]).length; rw [List.length_append]; omega, c2, ?_⟩
    unfold Vbceaj.edition at c3 ⊢
    show _ ≤ ((S.editions ++ [_]).getD _ _).sheets.length
    rw [List.getD_eq_getElem?_getD, List.getElem?_append_left c1, ← List.getD_eq_getElem?_getD]
    exact c3
/-- one edition more, at e, its sheets at ss -/
theorem sta_next (st : StA Z A H S) {e ss n de : Addr} {l : List Int} (g : Good { S with editions := S.editions ++ [{ numbers := l, sheets := [] }] }) (hs : ∀ b u, H b = some u → b ≠ A.le → H' b = some u)
    (hle : H' A.le = some (.lst ((A.eds.map fun e => V.ref e.1) ++ [.ref e]))) (ne : H e = none) (nss : H ss = none) (nn : H n = none) (h1 : H' e = some (.ins Z.cEdition de (fEd n ss))) (h2 : H' ss = some (.lst [])) (h3 : LI H' n l) (hns : n ≠ ss) :
    StA Z { A with eds := A.eds ++ [(e, ss)] } H' { S with editions := S.editions ++ [{ numbers := l, sheets := [] }] } ∧ (∀ m ∈ ({ A with eds := A.eds ++ [(e, ss)] } : Adr).M, m ∈ A.M ∨ H m = none) := by
  have hM : ∀ m, m ∈ ({ A with eds := A.eds ++ [(e, ss)] } : Adr).M → m ∈ A.M ∨ m = e ∨ m = ss := fun m h => by
    have h' : m ∈ A.o :: A.b :: A.le :: A.lc :: ((A.eds ++ [(e, ss)]).map (·.1) ++ (A.eds ++ [(e, ss)]).map (·.2) ++ A.cps) := h
    rw [List.map_append, List.map_append] at h'
    unfold Adr.M
    simp only [List.mem_cons, List.mem_append, List.map_cons, List.map_nil, List.not_mem_nil, or_false] at h' ⊢
    rcases h' with q | q | q | q | ((q | q) | (q | q)) | q
    · exact .inl (.inl q)
    · exact .inl (.inr (.inl q))
    · exact .inl (.inr (.inr (.inl q)))
    · exact .inl (.inr (.inr (.inr (.inl q))))
    · exact .inl (.inr (.inr (.inr (.inr (.inl (.inl q))))))
    · exact .inr (.inl q)
    · exact .inl (.inr (.inr (.inr (.inr (.inl (.inr q))))))
    · exact .inr (.inr q)
    · exact .inl (.inr (.inr (.inr (.inr (.inr q)))))
  have hm : ∀ m ∈ ({ A with eds := A.eds ++ [(e, ss)] } : Adr).M, m ∈ A.M ∨ H m = none := fun m h => by
    rcases hM m h with q | q | q
    · exact .inl q
    · exact .inr (by rw [q]; exact ne)
    · exact .inr (by rw [q]; exact nss)
  have ax' := st.axUpd hm fun b u e hb => hs b u e (fun z => hb (by rw [z]; exact Adr.le_mem))
  have hmN : ∀ m ∈ ({ A with eds := A.eds ++ [(e, ss)] } : Adr).N, m ∈ A.N ∨ H m = none := fun m h => (List.mem_append.mp h).elim (fun h => .inl (List.mem_append_left _ h)) fun h => (hm m h).imp Adr.inN id
  have fs : Same (off A.N H) (off ({ A with eds := A.eds ++ [(e, ss)] } : Adr).N H') := off_grow (fun b u e hb => hs b u e (fun z => hb (by rw [z]; exact Adr.inN Adr.le_mem))) hmN
  have tr : ∀ m ∈ A.M, m ≠ e ∧ m ≠ ss := fun m h => ⟨fun z => st.tracked h (by rw [z]; exact ne), fun z => st.tracked h (by rw [z]; exact nss)⟩
  obtain ⟨d1, g1⟩ := st.ob
  obtain ⟨d2, g2⟩ := st.bk
  have k1 : A.o ≠ A.le := ne_of g1 st.le (by intro z; cases z)
  have k2 : A.b ≠ A.le := ne_of g2 st.le (by intro z; cases z)
  obtain ⟨n1, n2, n3, n4, n5⟩ := Adr.nd_all st.nd
  have ess : e ≠ ss := ne_of h1 h2 (by intro z; cases z)
  refine ⟨⟨?_, ⟨d1, hs _ _ g1 k1⟩, ⟨d2, hs _ _ g2 k2⟩, by rw [hle]; show _ = some (HO.lst ((A.eds ++ [(e, ss)]).map fun e => V.ref e.1)); rw [List.map_append]; rfl, hs _ _ st.lc n4.symm, ?_, fun i e' x he hx => ?_, st.cl, fun i c x hc hx => ?_, g, ax'⟩, hm⟩
  · have nd0 := st.nd
    show (A.o :: A.b :: A.le :: A.lc :: ((A.eds ++ [(e, ss)]).map (·.1) ++ (A.eds ++ [(e, ss)]).map (·.2) ++ A.cps)).Nodup
    have p1 : (A.o :: A.b :: A.le :: A.lc :: ((A.eds ++ [(e, ss)]).map (·.1) ++ (A.eds ++ [(e, ss)]).map (·.2) ++ A.cps)).Perm (e :: ss :: A.M) := by
      unfold Adr.M
      rw [List.map_append, List.map_append]
      show (A.o :: A.b :: A.le :: A.lc :: ((A.eds.map (·.1) ++ [e]) ++ (A.eds.map (·.2) ++ [ss]) ++ A.cps)).Perm _
      have q1 : ((A.eds.map (·.1) ++ [e]) ++ (A.eds.map (·.2) ++ [ss]) ++ A.cps).Perm (e :: ss :: (A.eds.map (·.1) ++ A.eds.map (·.2) ++ A.cps)) := by
        have r1 : (A.eds.map (·.1) ++ [e]).Perm (e :: A.eds.map (·.1)) := List.perm_append_singleton e _
        have r2 : (A.eds.map (·.2) ++ [ss]).Perm (ss :: A.eds.map (·.2)) := List.perm_append_singleton ss _
        refine ((r1.append r2).append_right _).trans ?_
        show (e :: (A.eds.map (·.1) ++ ss :: A.eds.map (·.2)) ++ A.cps).Perm _
        refine List.Perm.cons e ?_
        exact ((List.perm_middle (a := ss) (l₁ := A.eds.map (·.1)) (l₂ := A.eds.map (·.2))).append_right _)
      exact ((((q1.cons _).cons _).cons _).cons _).trans (by
        have sw : ∀ (x y z : Addr) (L : List Addr), (x :: y :: z :: L).Perm (y :: z :: x :: L) := fun x y z L => (List.Perm.swap y x (z :: L)).trans (List.Perm.cons y (List.Perm.swap z x L))
        refine (((List.Perm.cons A.o (List.Perm.cons A.b (List.Perm.cons A.le (sw A.lc e ss _))))).trans ?_)
        refine (((List.Perm.cons A.o (List.Perm.cons A.b (sw A.le e ss _)))).trans ?_)
        refine (((List.Perm.cons A.o (sw A.b e ss _))).trans ?_)
        exact sw A.o e ss _)
    refine p1.nodup_iff.mpr (List.nodup_cons.mpr ⟨fun z => ?_, List.nodup_cons.mpr ⟨fun z => ?_, nd0⟩⟩)
    · rcases List.mem_cons.mp z with z | z
      · exact ess z
      · exact (tr e z).1 rfl
    · exact (tr ss z).2 rfl
  · show (A.eds ++ [(e, ss)]).length = (S.editions ++ [_]).length
    rw [List.length_append, List.length_append, st.el]; rfl
  · have he' : (A.eds ++ [(e, ss)])[i]? = some e' := he
    have hx' : (S.editions ++ [({ numbers := l, sheets := [] } : Vbceaj.Edition)])[i]? = some x := hx
    by_cases q : i < A.eds.length
    · rw [List.getElem?_append_left q] at he'
      rw [List.getElem?_append_left (by rw [← st.el]; exact q)] at hx'
      refine (st.ed i e' x he' hx').same (fun b u r hb => hs b u r ?_) fs
      have hem := List.mem_of_getElem? he'
      rcases hb with hb | hb
      · rw [hb]
        obtain ⟨dx, n', ss', r1, _⟩ := st.ed i e' x he' hx'
        exact ne_of r1 st.le (by intro z; cases z)
      · rw [hb]; exact (n5 e' hem).1
    · have hil : i < (A.eds ++ [(e, ss)]).length := (List.getElem?_eq_some_iff.mp he').1
      rw [List.length_append] at hil
      have hi : i = A.eds.length := by have : i < A.eds.length + 1 := hil; omega
      rw [List.getElem?_append_right (by omega), hi, Nat.sub_self] at he'
      rw [List.getElem?_append_right (by rw [← st.el]; omega), hi, st.el, Nat.sub_self] at hx'
      have e1 : (e, ss) = e' := by simpa using he'
      have e2 : ({ numbers := l, sheets := [] } : Vbceaj.Edition) = x := by simpa using hx'
      subst e1; subst e2
      refine ⟨de, n, [], h1, ?_, rfl, h2, fun k hk => nomatch hk⟩
      show off _ H' n = _
      rw [off_ne (fun z => ?_)]
      · exact h3
      · rcases List.mem_append.mp z with z | z
        · exact st.xfresh nn z
        rcases hM n z with q | q | q
        · exact st.tracked q nn
        · exact ne_of h3 h1 (by intro z; cases z) q
        · exact hns q
  · obtain ⟨dx, n', r3, r4⟩ := st.cp i c x hc hx
    exact ⟨dx, n', hs _ _ r3 (ne_of r3 st.le (by intro z; cases z)), r4.same fs⟩
end
end EX
namespace EX
open PySem PySem.Spec PyProof.Rows L2
open Vbceaj (Sheet Erratum State)
section
variable {P : Program} {w : World} {K : PySem.W.Frag} {mg : Str → Option Value} {base : Heap} {Z : Ad}
theorem ok_Office_next_edition (T : Txt K mg Z) : OkM P w K mg base (L2.CX P w) 5 Z.cOffice "next_edition" ["self", "row"] (spM1 Z .next) := by
  obtain ⟨f0, fd0, M0, F0⟩ := T.d_Office_next_edition
  obtain ⟨f_Office_sheet_of, fd_Office_sheet_of, M_Office_sheet_of, G_Office_sheet_of, B_Office_sheet_of⟩ := ok_Office_sheet_of (P := P) (w := w) (base := base) T
  obtain ⟨f_Office_look_at_book, fd_Office_look_at_book, M_Office_look_at_book, G_Office_look_at_book, B_Office_look_at_book⟩ := ok_Office_look_at_book (P := P) (w := w) (base := base) T
  obtain ⟨f_refuse_if, fd_refuse_if, g_refuse_if, k_refuse_if, G_refuse_if, B_refuse_if⟩ := ok_refuse_if (P := P) (w := w) (base := base) T
  obtain ⟨f_Edition_whole, fd_Edition_whole, M_Edition_whole, G_Edition_whole, B_Edition_whole⟩ := ok_Edition_whole (P := P) (w := w) (base := base) T
  obtain ⟨f_Book_newest, fd_Book_newest, M_Book_newest, G_Book_newest, B_Book_newest⟩ := ok_Book_newest (P := P) (w := w) (base := base) T
  obtain ⟨f_first_wrong, fd_first_wrong, g_first_wrong, k_first_wrong, G_first_wrong, B_first_wrong⟩ := ok_first_wrong (P := P) (w := w) (base := base) T
  obtain ⟨f_Edition_init, fd_Edition_init, M_Edition_init, G_Edition_init, B_Edition_init⟩ := ok_Edition_init (P := P) (w := w) (base := base) T
  obtain ⟨f_done, fd_done, g_done, k_done, G_done, B_done⟩ := ok_done (P := P) (w := w) (base := base) T
  refine ⟨f0, fd0, M0, F0.okX sc_Office_next_edition (fun vs H Q E h => ?_) (fun cdv A outer s H vs Q E hr h => ?_), (F0.binds fun _ _ _ _ _ _ us hl => match us, hl with | [_, _], _ => rfl)⟩
  · obtain ⟨A, S, r, l, rfl, _⟩ := h
    rfl
  · obtain ⟨A, S, r, l, rfl, st, hr1, hl, k⟩ := h
    refine ⟨_, (pss_cons (ps_set (i := 2) sc_Office_next_edition.nd rfl (Or.inl rfl) (pe_meth (pv 0) T.cl_Office M_Office_sheet_of G_Office_sheet_of (hr.mono (by decide)) B_Office_sheet_of .nil (passes_call (takes_of rfl rfl rfl rfl) fun _ _ _ _ h => h) (pa_cons (pv 1) pa_nil)))
  (pss_cons (ps_expr (pe_meth0 (pv 0) T.cl_Office M_Office_look_at_book G_Office_look_at_book (hr.mono (by decide)) B_Office_look_at_book .nil (passes_call (takes_of rfl rfl rfl rfl) fun _ _ _ _ h => h)))
  (pss_cons (ps_expr (pe_call G_refuse_if (hr.mono (by decide)) rfl g_refuse_if k_refuse_if B_refuse_if .nil (passes_call (takes_of rfl rfl rfl rfl) fun _ _ _ _ h => h) (pa_cons (pe_cmpR op_ge (pe_callB call_len_seq (by rfl) T.b_len (by decide +kernel) (pa_cons (pe_fld (pe_fld (pv 0) rfl) rfl) pa_nil)) (pe_gint rfl T.g_MOST_EDITIONS) (nomark _)) (pa_cons (pe_gint rfl T.g_NO_MORE) pa_nil))))
  (pss_cons (ps_set (i := 3) sc_Office_next_edition.nd rfl (Or.inl rfl) (pe_meth0 (pe_meth0 (pe_fld (pv 0) rfl) T.cl_Book M_Book_newest G_Book_newest (hr.mono (by decide)) B_Book_newest .nil pass0) T.cl_Edition M_Edition_whole G_Edition_whole (hr.mono (by decide)) B_Edition_whole .nil pass0))
  (pss_cons (ps_set (i := 4) sc_Office_next_edition.nd rfl (Or.inl rfl) (pe_call G_first_wrong (hr.mono (by decide)) rfl g_first_wrong k_first_wrong B_first_wrong .nil pass0 (pa_cons (pv 2) (pa_cons (pv 3) pa_nil))))
  (pss_cons (ps_expr (pe_call G_refuse_if (hr.mono (by decide)) rfl g_refuse_if k_refuse_if B_refuse_if .nil (passes_call (takes_of rfl rfl rfl rfl) fun _ _ _ _ h => h) (pa_cons (pe_cmpR op_ne (pv 4) (pe_gint rfl T.g_ALL_DONE) (nomark _)) (pa_cons (pe_op op_sub (pe_gint rfl T.g_WRONG_OLD) (pv 4)) pa_nil))))
  (pss_cons (ps_expr (pe_bm PySem.F.plainAttrs_list PySem.F.slot_list_append PySem.F.type_list_append mt_append (pe_fld (pe_fld (pv 0) rfl) rfl) (pa_cons (pe_make M_Edition_init G_Edition_init (hr.mono (by decide)) rfl T.g_Edition B_Edition_init .nil pass0 (pa_cons (pe_call G_done (hr.mono (by decide)) rfl g_done k_done B_done .nil pass0 (pa_cons (pv 2) (pa_cons (pv 3) pa_nil))) pa_nil)) pa_nil)))
  (pss_one (ps_ret (pe_lst (pa_cons (pe_callB call_len_seq (by rfl) T.b_len (by decide +kernel) (pa_cons (pe_fld (pe_fld (pv 0) rfl) rfl) pa_nil)) pa_nil))))))))))), ?_⟩
    simp only [Vbceaj.run, bind, Except.bind, pure, Except.pure] at k
    obtain ⟨dx, ho⟩ := st.ob
    obtain ⟨db, hb⟩ := st.bk
    refine ⟨_, rfl, A.o, dx, _, rfl, ho, rfl, _, rfl, A, S, r, l, rfl, st, hr1, hl, fun t ht iS tl nw H1 p s1 np hp => ?_, fun e he => ?_⟩
    rotate_left
    · rw [he] at k; exact k.1
    rw [ht] at k
    dsimp only at k
    have st1 := st.same s1
    refine ⟨_, rfl, A.o, dx, _, rfl, s1 _ _ ho, rfl, A, S, rfl, st1, fun q2 => ?_, fun q2 => ?_⟩
    rotate_left
    · rw [need_err (by rw [q2]; rfl)] at k
      exact ErrN.mono k.1 s1
    rw [need_ok (by rw [q2]; rfl)] at k
    dsimp only at k
    have hn := ne_empty q2
    refine ⟨_, rfl, A.o, _, dx, _, _, rfl, s1 _ _ ho, T.cl_Office, T.n_Office_book, rfl, A.b, _, db, _, _, rfl, s1 _ _ hb, T.cl_Book, T.n_Book_editions, rfl, A.le, _, rfl, .inl (SqL.of st1.le), _, _, rfl, rfl, _, _, rfl, fun c => ?_, fun c => ?_⟩
    rotate_left
    · have c' := of_decide_eq_true c
      rw [List.length_map, st.el] at c'
      rw [need_err (decide_eq_false (by unfold Vbceaj.EDITIONS; omega))] at k
      exact ErrN.mono k.1 s1
    have c' := of_decide_eq_false c
    rw [List.length_map, st.el] at c'
    have h8 : S.editions.length < 8 := by omega
    rw [need_ok (decide_eq_true (by unfold Vbceaj.EDITIONS; omega))] at k
    dsimp only at k
    obtain ⟨e1, e2, lc0, h4, h5, h6⟩ := st1.bkr.ob
    obtain ⟨es, e, h7, h8', h9⟩ := newest_of h5 hn
    obtain ⟨de, nu, ss, h10, _⟩ := h9.ob
    have ok := st.gd.new hn
    have lw := am_lenW ok.num
    refine ⟨_, rfl, A.o, _, dx, _, _, rfl, s1 _ _ ho, T.cl_Office, T.n_Office_book, rfl, A.b, e1, _, rfl, h4, rfl, A.b, e2, lc0, e1, es, _, _, e, rfl, h4, h7, h8', ?_⟩
    refine ⟨e, de, _, rfl, h10, rfl, e, _, _, rfl, h9, ok, fun H2 pn s2 hpn _ => ?_⟩
    have hlt : ∀ y ∈ t, y.place < (Vbceaj.whole (Vbceaj.edition S (Vbceaj.newest S))).length := fun y hy => by rw [lw]; exact iS.lt y hy
    refine ⟨_, rfl, _, rfl, p, pn, t, _, rfl, hp.same s2, hpn, hlt, fun H3 s3 => ?_⟩
    have s03 := (s1.trans s2).trans s3
    refine ⟨_, rfl, rfl, _, rfl, _, _, rfl, rfl, _, _, rfl, ?_⟩
    rw [dV]
    cases u : Vbceaj.unfit (Vbceaj.whole (Vbceaj.edition S (Vbceaj.newest S))) t with
    | some j =>
      rw [fw_some u, fits_err u] at *
      refine ⟨fun c1 => ?_, fun _ => ErrN.mono k.1 s03⟩
      rw [decide_eq_false (show ¬ ((j : Int) = -1) by omega)] at c1; cases c1
    | none =>
      rw [fits_ok u] at k
      rw [fw_none u]
      refine ⟨fun _ => ?_, fun c1 => Bool.noConfusion c1⟩
      dsimp only at k
      have st3 := st.same s03
      obtain ⟨o3, ho3⟩ := st3.ob
      obtain ⟨b3, hb3⟩ := st3.bk
      refine ⟨_, rfl, A.o, _, o3, _, _, rfl, ho3, T.cl_Office, T.n_Office_book, rfl, A.b, _, b3, _, _, rfl, hb3, T.cl_Book, T.n_Book_editions, rfl, .inl ⟨rfl, _, SqL.of st3.le⟩, ?_⟩
      refine ⟨_, rfl, _, rfl, p, pn, t, _, rfl, (hp.same s2).same s3, hpn.same s3, hlt, fun H4 n4 s4 nn4 hn4 => ?_⟩
      have s04 := s03.trans s4
      intro x dy hx hdy hne
      refine ⟨x, dy, n4, rfl, upd_same, fun ss5 H5 nss5 hx5 hs5 b5 => ⟨rfl, ?_⟩⟩
      have s5 : Same H4 H5 := mk_same hx hdy b5
      have s05 := s04.trans s5
      have st5 := st.same s05
      have nx0 : H x = none := s04.free hx
      have xss : ss5 ≠ x := fun z => by rw [z, upd_same] at nss5; cases nss5
      have nss0 : H ss5 = none := by
        rw [upd_ne xss] at nss5
        have dss : ss5 ≠ dy := fun z => by rw [z, upd_same] at nss5; cases nss5
        rw [upd_ne dss] at nss5
        exact s04.free nss5
      have nn0 : H n4 = none := s03.free nn4
      have n4ss : n4 ≠ ss5 := fun z => by
        rw [upd_ne xss] at nss5
        have dss : ss5 ≠ dy := fun z => by rw [z, upd_same] at nss5; cases nss5
        rw [upd_ne dss, ← z, hn4] at nss5
        cases nss5
      have l60 : S.editions.length ≤ 8 := st.gd.el
      refine ⟨A.le, _, _, rfl, rfl, st5.le, few (by rw [List.length_map, st.el]; omega), ?_⟩
      have xle : x ≠ A.le := fun z => st.tracked (A := A) Adr.le_mem (by rw [← z]; exact nx0)
      have ssle : ss5 ≠ A.le := fun z => st.tracked (A := A) Adr.le_mem (by rw [← z]; exact nss0)
      have n4le : n4 ≠ A.le := fun z => st.tracked (A := A) Adr.le_mem (by rw [← z]; exact nn0)
      have gd := good_next st.gd hn (l := Em.done t (Vbceaj.whole (Vbceaj.edition S (Vbceaj.newest S)))) (by rw [Em.done_length]; exact lw) h8
      obtain ⟨st6, hm6⟩ := sta_next st (H' := upd H5 A.le (.lst ((A.eds.map fun e => V.ref e.1) ++ [.ref x]))) (e := x) (ss := ss5) (n := n4) (de := dy) gd (fun b u e0 hb => by rw [upd_ne hb]; exact s05 _ _ e0) upd_same nx0 nss0 nn0 (by rw [upd_ne xle]; exact hx5) (by rw [upd_ne ssle]; exact hs5) (by show upd _ _ _ _ = _; rw [upd_ne n4le]; exact s5 _ _ hn4) n4ss
      obtain ⟨o6, ho6⟩ := st6.ob
      obtain ⟨b6, hb6⟩ := st6.bk
      refine ⟨_, rfl, A.o, _, o6, _, _, rfl, ho6, T.cl_Office, T.n_Office_book, rfl, A.b, _, b6, _, _, rfl, hb6, T.cl_Book, T.n_Book_editions, rfl, A.le, _, rfl, .inl (SqL.of upd_same), (by show 1 ≤ sizeLine; decide), fun r0 nr => ?_⟩
      have rle : r0 ≠ A.le := fun z => by rw [z, upd_same] at nr; cases nr
      have nr0 : H r0 = none := by rw [upd_ne rle] at nr; exact s05.free nr
      refine k _ _ r0 (st6.same (same_new nr)) rfl (fun b u e0 h0 => ?_) hm6 nr0 ?_
      · have bl : b ≠ A.le := fun z => h0 (by rw [z]; exact Adr.le_mem)
        rw [upd_ne (ne_of_none e0 nr0), upd_ne bl]
        exact s05 _ _ e0
      · show upd _ _ _ _ = _
        rw [upd_same, List.length_append, List.length_map, st.el]; rfl
theorem ok_Office_buy (T : Txt K mg Z) : OkM P w K mg base (L2.CX P w) 5 Z.cOffice "buy" ["self", "number"] (spN1 Z .buy) := by
  obtain ⟨f0, fd0, M0, F0⟩ := T.d_Office_buy
  obtain ⟨f_in_range, fd_in_range, g_in_range, k_in_range, G_in_range, B_in_range⟩ := ok_in_range (P := P) (w := w) (base := base) T
  obtain ⟨f_refuse_if, fd_refuse_if, g_refuse_if, k_refuse_if, G_refuse_if, B_refuse_if⟩ := ok_refuse_if (P := P) (w := w) (base := base) T
  obtain ⟨f_Book_is_there, fd_Book_is_there, M_Book_is_there, G_Book_is_there, B_Book_is_there⟩ := ok_Book_is_there (P := P) (w := w) (base := base) T
  obtain ⟨f_Copy_init, fd_Copy_init, M_Copy_init, G_Copy_init, B_Copy_init⟩ := ok_Copy_init (P := P) (w := w) (base := base) T
  obtain ⟨f_Book_newest, fd_Book_newest, M_Book_newest, G_Book_newest, B_Book_newest⟩ := ok_Book_newest (P := P) (w := w) (base := base) T
  refine ⟨f0, fd0, M0, F0.okX sc_Office_buy (fun vs H Q E h => ?_) (fun cdv A outer s H vs Q E hr h => ?_), (F0.binds fun _ _ _ _ _ _ us hl => match us, hl with | [_, _], _ => rfl)⟩
  · obtain ⟨A, S, n, rfl, _⟩ := h
    rfl
  · obtain ⟨A, S, n, rfl, st, k⟩ := h
    refine ⟨_, (pss_cons (ps_expr (pe_call G_in_range (hr.mono (by decide)) rfl g_in_range k_in_range B_in_range .nil (passes_call (takes_of rfl rfl rfl rfl) fun _ _ _ _ h => h) (pa_cons (pv 1) (pa_cons pe_int (pa_cons (pe_gint rfl T.g_LAST_COPY) pa_nil)))))
  (pss_cons (ps_set (i := 2) sc_Office_buy.nd rfl (Or.inl rfl) (pe_fld (pe_fld (pv 0) rfl) rfl))
  (pss_cons (ps_expr (pe_call G_refuse_if (hr.mono (by decide)) rfl g_refuse_if k_refuse_if B_refuse_if .nil (passes_call (takes_of rfl rfl rfl rfl) fun _ _ _ _ h => h) (pa_cons (pe_or (pe_not (pe_meth0 (pe_fld (pv 0) rfl) T.cl_Book M_Book_is_there G_Book_is_there (hr.mono (by decide)) B_Book_is_there .nil pass0)) (pe_one (pe_cmpR op_gt (pv 1) (pe_callB call_len_seq (by rfl) T.b_len (by decide +kernel) (pa_cons (pv 2) pa_nil)) (nomark _)))) (pa_cons (pe_gint rfl T.g_NOT_THERE) pa_nil))))
  (pss_cons (ps_set (i := 3) sc_Office_buy.nd rfl (Or.inl rfl) (pe_make M_Copy_init G_Copy_init (hr.mono (by decide)) rfl T.g_Copy B_Copy_init .nil pass0 (pa_cons (pe_op op_sub (pe_callB call_len_seq (by rfl) T.b_len (by decide +kernel) (pa_cons (pe_fld (pe_fld (pv 0) rfl) rfl) pa_nil)) pe_int) (pa_cons (pe_fld (pe_meth0 (pe_fld (pv 0) rfl) T.cl_Book M_Book_newest G_Book_newest (hr.mono (by decide)) B_Book_newest .nil pass0) rfl) pa_nil))))
  (pss_cons (ps_if (pt_cmpR op_eq (pv 1) (pe_callB call_len_seq (by rfl) T.b_len (by decide +kernel) (pa_cons (pv 2) pa_nil)) (nomark _)) (pss_one (ps_expr (pe_bm PySem.F.plainAttrs_list PySem.F.slot_list_append PySem.F.type_list_append mt_append (pv 2) (pa_cons (pv 3) pa_nil)))) (pss_one (ps_asg (pv 3) (pg_sub (pv 2) (pv 1) set_list))))
  (pss_one (ps_ret (pe_lst (pa_cons (pe_callB call_len_seq (by rfl) T.b_len (by decide +kernel) (pa_cons (pv 2) pa_nil)) pa_nil))))))))), ?_⟩
    simp only [Vbceaj.run, bind, Except.bind, pure, Except.pure] at k
    obtain ⟨dx, ho⟩ := st.ob
    obtain ⟨db, hb⟩ := st.bk
    refine ⟨_, rfl, n, 0, 9, rfl, fun q => ?_, fun q => ?_⟩
    rotate_left
    · rw [within_err q] at k; exact k.1
    rw [within_ok q] at k
    have h09 := bt_of q
    dsimp only at k
    refine ⟨_, rfl, A.o, _, dx, _, _, rfl, ho, T.cl_Office, T.n_Office_book, rfl, A.b, _, db, _, _, rfl, hb, T.cl_Book, T.n_Book_copies, rfl, ?_⟩
    refine ⟨_, rfl, A.o, _, dx, _, _, rfl, ho, T.cl_Office, T.n_Office_book, rfl, A.b, db, _, rfl, hb, rfl, A.b, S, rfl, st.bkr, st.gd, _, rfl, _, rfl, if_dec (fun c => ?_) fun c => ?_⟩
    · have c' : S.editions.isEmpty = true := by revert c; cases S.editions.isEmpty <;> simp
      rw [need_err (by rw [c']; rfl)] at k
      exact ⟨_, _, rfl, fun z => Bool.noConfusion z, fun _ => k.1⟩
    have c' : S.editions.isEmpty = false := by revert c; cases S.editions.isEmpty <;> simp
    rw [need_ok (by rw [c']; rfl)] at k
    dsimp only at k
    have hn := ne_empty c'
    refine ⟨_, rfl, _, rfl, A.lc, _, rfl, .inl (SqL.of st.lc), _, _, rfl, rfl, _, _, rfl, fun c1 => ?_, fun c1 => ?_⟩
    rotate_left
    · have c1' := of_decide_eq_true c1
      rw [List.length_map, st.cl] at c1'
      rw [need_err (decide_eq_false (by omega))] at k
      exact k.1
    have c1' := of_decide_eq_false c1
    rw [List.length_map, st.cl] at c1'
    rw [need_ok (decide_eq_true (by omega))] at k
    dsimp only at k
    obtain ⟨e1, e2, lc0, h4, h5, h6⟩ := st.bkr.ob
    obtain ⟨es, e, h7, h8', h9, hes⟩ := newest_of2 h5 hn
    obtain ⟨de, nu, ss, h10, h11, _⟩ := h9.ob
    have ok := st.gd.new hn
    have hpos : 0 < S.editions.length := List.length_pos_iff.mpr hn
    refine ⟨_, rfl, A.o, _, dx, _, _, rfl, ho, T.cl_Office, T.n_Office_book, rfl, A.b, _, db, _, _, rfl, hb, T.cl_Book, T.n_Book_editions, rfl, A.le, _, rfl, .inl (SqL.of st.le), _, _, rfl, rfl, ?_⟩
    refine ⟨_, rfl, A.o, _, dx, _, _, rfl, ho, T.cl_Office, T.n_Office_book, rfl, A.b, e1, _, rfl, h4, rfl, A.b, e2, lc0, e1, es, _, _, e, rfl, h4, h7, h8', e, _, de, _, _, rfl, h10, T.cl_Edition, T.n_Edition_numbers, rfl, fun x dy hx hdy hne => ?_⟩
    have s1 : Same H (upd (upd H dy (.own x)) x (.ins Z.cCopy dy [])) := fun b u e0 => by
      rw [upd_ne (ne_of_none e0 hx), upd_ne (ne_of_none e0 hdy)]; exact e0
    have ee : ((A.eds.map fun e => V.ref e.1).length : Int) - 1 = ((Vbceaj.newest S : Nat) : Int) := by rw [List.length_map, st.el]; unfold Vbceaj.newest; omega
    refine ⟨x, dy, nu, _, _, rfl, upd_same, h11.same s1, fun n' H2 nn' hx2 hn2 b2 => ⟨rfl, ?_⟩⟩
    rw [ee] at hx2
    have s2 : Same H H2 := mk_same hx hdy b2
    have st2 := st.same s2
    have xn' : n' ≠ x := fun z => by rw [z, upd_same] at nn'; cases nn'
    have nn0 : H n' = none := by
      rw [upd_ne xn'] at nn'
      have dn : n' ≠ dy := fun z => by rw [z, upd_same] at nn'; cases nn'
      rw [upd_ne dn] at nn'
      exact nn'
    have xlc : x ≠ A.lc := fun z => st.tracked (A := A) Adr.lc_mem (by rw [← z]; exact hx)
    have nlc : n' ≠ A.lc := fun z => st.tracked (A := A) Adr.lc_mem (by rw [← z]; exact nn0)
    have hxc : ∀ a ∈ A.cps, a ≠ x := fun a ha z => st.tracked (A := A) (Adr.c_mem ha) (by rw [z]; exact hx)
    have n3 := (Adr.nd_all st.nd).2.2.1
    obtain ⟨cpy, hcpy⟩ : ∃ cpy : Vbceaj.Copy, cpy = { edition := Vbceaj.newest S, pen := 0, now := (Vbceaj.edition S (Vbceaj.newest S)).numbers } := ⟨_, rfl⟩
    rw [← hcpy] at k
    have hx2' : H2 x = some (.ins Z.cCopy dy (fCp cpy.edition cpy.pen n')) := by rw [hcpy]; exact hx2
    have hn2' : LI H2 n' cpy.now := by rw [hcpy]; exact hn2
    refine ⟨_, rfl, _, rfl, A.lc, _, rfl, .inl (SqL.of st2.lc), rfl, _, rfl, ?_⟩
    rw [dV, List.length_map, st.cl]
    have gc := st.gd.cl
    refine if_dec (fun c2 => ?_) fun c2 => ?_
    · have c2' := of_decide_eq_true c2
      have hnl : ¬ n.toNat < S.copies.length := by omega
      rw [if_neg hnl] at k
      refine ⟨_, rfl, .inl ⟨rfl, _, SqL.of st2.lc⟩, _, rfl, A.lc, _, _, rfl, rfl, st2.lc, few (by rw [List.length_map, st.cl]; omega), ?_⟩
      have gd := good_buy st.gd hn (cs := S.copies ++ [cpy]) (by rw [List.length_append]; show _ + 1 ≤ 10; omega) (fun y hy => (List.mem_append.mp hy).imp id (fun h => (List.mem_singleton.mp h).trans hcpy))
      obtain ⟨st6, hm6⟩ := sta_buy st (H' := upd H2 A.lc (.lst (A.cps.map V.ref ++ [.ref x]))) (cps' := A.cps ++ [x]) (c := x) gd (by rw [List.length_append, List.length_append, st.cl]; rfl) (fun b u e0 hb0 => by rw [upd_ne hb0]; exact s2 _ _ e0) (by rw [upd_same, List.map_append]; rfl)
        (List.nodup_append.mpr ⟨n3, by simp, fun a ha b hb0 => by rw [List.mem_singleton.mp hb0]; exact hxc a ha⟩) (fun a ha => (List.mem_append.mp ha).imp id fun h => List.mem_singleton.mp h) hx (fun i a y ha hy => by
          by_cases q1 : i < A.cps.length
          · rw [List.getElem?_append_left q1] at ha
            rw [List.getElem?_append_left (by rw [← st.cl]; exact q1)] at hy
            exact .inl ⟨i, ha, hy⟩
          · have hil := (List.getElem?_eq_some_iff.mp ha).1
            rw [List.length_append] at hil
            have hi : i = A.cps.length := by have : i < A.cps.length + 1 := hil; omega
            rw [List.getElem?_append_right (by omega), hi, Nat.sub_self] at ha
            rw [List.getElem?_append_right (by rw [← st.cl]; omega), hi, st.cl, Nat.sub_self] at hy
            have y1 : x = a := by simpa using ha
            have y2 : cpy = y := by simpa using hy
            rw [← y1, ← y2]
            exact .inr ⟨rfl, dy, n', by rw [upd_ne xlc]; exact hx2', by show upd _ _ _ _ = _; rw [upd_ne nlc]; exact hn2', nn0, xn'⟩)
      refine ⟨_, rfl, A.lc, _, rfl, .inl (SqL.of upd_same), (by show 1 ≤ sizeLine; decide), fun r0 nr => ?_⟩
      have rlc : r0 ≠ A.lc := fun z => by rw [z, upd_same] at nr; cases nr
      have nr0 : H r0 = none := by rw [upd_ne rlc] at nr; exact s2.free nr
      refine k _ _ r0 (st6.same (same_new nr)) rfl (fun b u e0 h0 => ?_) hm6 nr0 ?_
      · have bl : b ≠ A.lc := fun z => h0 (by rw [z]; exact Adr.lc_mem)
        rw [upd_ne (ne_of_none e0 nr0), upd_ne bl]
        exact s2 _ _ e0
      · show upd _ _ _ _ = _
        rw [upd_same, List.length_append, List.length_map, st.cl, List.length_append]; rfl
    · have c2' := of_decide_eq_false c2
      have hnl : n.toNat < S.copies.length := by omega
      rw [if_pos hnl] at k
      have enn : n = ((n.toNat : Nat) : Int) := by omega
      refine ⟨_, rfl, _, rfl, _, rfl, A.lc, _, _, n.toNat, rfl, rfl, st2.lc, by rw [enn]; exact ixN_nat (by rw [List.length_map, st.cl]; exact hnl), ?_⟩
      have emap : (A.cps.map V.ref).set n.toNat (.ref x) = (A.cps.set n.toNat x).map V.ref := List.map_set.symm
      rw [emap]
      have gd := good_buy st.gd hn (cs := S.copies.set n.toNat cpy) (by rw [List.length_set]; exact gc) (fun y hy => (List.mem_or_eq_of_mem_set hy).imp id (fun h => h.trans hcpy))
      have hcl : n.toNat < A.cps.length := by rw [st.cl]; exact hnl
      obtain ⟨st6, hm6⟩ := sta_buy st (H' := upd H2 A.lc (.lst ((A.cps.set n.toNat x).map V.ref))) (cps' := A.cps.set n.toNat x) (c := x) gd (by rw [List.length_set, List.length_set, st.cl]) (fun b u e0 hb0 => by rw [upd_ne hb0]; exact s2 _ _ e0) upd_same
        (by
          refine List.pairwise_iff_getElem.mpr fun i j hi hj hij => ?_
          rw [List.getElem_set, List.getElem_set]
          rw [List.length_set] at hi hj
          split
          · split
            · omega
            · exact (hxc _ (List.getElem_mem hj)).symm
          · split
            · exact hxc _ (List.getElem_mem hi)
            · exact List.pairwise_iff_getElem.mp n3 i j hi hj hij)
        (fun a ha => List.mem_or_eq_of_mem_set ha) hx (fun i a y ha hy => by
          rw [get_set] at ha hy
          split at ha
          · rename_i q1
            rw [if_pos q1, if_pos hnl] at hy
            injection ha with ha
            injection hy with hy
            rw [← ha, ← hy]
            exact .inr ⟨rfl, dy, n', by rw [upd_ne xlc]; exact hx2', by show upd _ _ _ _ = _; rw [upd_ne nlc]; exact hn2', nn0, xn'⟩
          · rename_i q1
            rw [if_neg q1] at hy
            exact .inl ⟨i, ha, hy⟩)
      refine ⟨_, rfl, A.lc, _, rfl, .inl (SqL.of upd_same), (by show 1 ≤ sizeLine; decide), fun r0 nr => ?_⟩
      have rlc : r0 ≠ A.lc := fun z => by rw [z, upd_same] at nr; cases nr
      have nr0 : H r0 = none := by rw [upd_ne rlc] at nr; exact s2.free nr
      refine k _ _ r0 (st6.same (same_new nr)) rfl (fun b u e0 h0 => ?_) hm6 nr0 ?_
      · have bl : b ≠ A.lc := fun z => h0 (by rw [z]; exact Adr.lc_mem)
        rw [upd_ne (ne_of_none e0 nr0), upd_ne bl]
        exact s2 _ _ e0
      · show upd _ _ _ _ = _
        rw [upd_same, List.length_map, List.length_set, st.cl]
        show _ = some (HO.lst [V.int ((S.copies.set n.toNat cpy).length : Int)])
        rw [List.length_set]
end
end EX
namespace EX
open PySem PySem.Spec PyProof.Rows L2
open Vbceaj (Sheet Erratum State)
theorem len0 {α : Type} {l : List α} (h : 0 = l.length) : l = [] := List.length_eq_zero_iff.mp h.symm
theorem len1 {α : Type} {l : List α} (h : 1 = l.length) : ∃ a, l = [a] := by
  match l, h with
  | [a], _ => exact ⟨a, rfl⟩
theorem len2 {α : Type} {l : List α} (h : 2 = l.length) : ∃ a b, l = [a, b] := by
  match l, h with
  | [a, b], _ => exact ⟨a, b, rfl⟩
theorem len4 {α : Type} {l : List α} (h : 4 = l.length) : ∃ a b c d, l = [a, b, c, d] := by
  match l, h with
  | [a, b, c, d], _ => exact ⟨a, b, c, d, rfl⟩
theorem RL.one {H : Hp} {r : Addr} {a : List Int} (h : RL H r [a]) : ∃ p, H r = some (.lst [.ref p]) ∧ LI H p a := by
  obtain ⟨ks, e, h1, h2⟩ := h
  match ks, e with
  | [k1], e =>
    simp only [List.map_cons, List.map_nil, List.cons.injEq, and_true] at e
    exact ⟨k1.1, h1, by rw [← e]; exact h2 k1 (by simp)⟩
theorem shp {p : Int} {a b n m : Nat} (h : PyVbceaj.shape p = some (n, m)) (e : PyVbceaj.shape p = some (a, b)) : a = n ∧ b = m := by
  rw [e] at h
  injection h with h
  injection h with h1 h2
  exact ⟨h1, h2⟩
/-- a call of the office, its numbers and its rows in lists -/
def spOf (Z : Ad) (D : Int → Prop) : Sp := fun vs H Q E => ∃ (A : Adr) (S : State) (p : Int) (sa ra : Addr) (ns : List Int) (rs : List (List Int)) (c : Vbceaj.Call), vs = [.ref A.o, .int p, .ref sa, .ref ra] ∧ StA Z A H S ∧ LI H sa ns ∧ RL H ra rs ∧ (∀ r ∈ rs, r.length ≤ 2000) ∧ D p ∧
  PyVbceaj.shape p = some (ns.length, rs.length) ∧ Vbceaj.decode ((p :: ns) :: rs) = some c ∧ Done Z A H Q E (Vbceaj.run S c)
def spOfR (Z : Ad) (D : Int → Prop) : Sp := fun vs H Q E => ∃ (A : Adr) (S : State) (p : Int) (ra : Addr) (ns : List Int) (rs : List (List Int)) (c : Vbceaj.Call), vs = [.ref A.o, .int p, .ref ra] ∧ StA Z A H S ∧ RL H ra rs ∧ (∀ r ∈ rs, r.length ≤ 2000) ∧ D p ∧
  PyVbceaj.shape p = some (ns.length, rs.length) ∧ Vbceaj.decode ((p :: ns) :: rs) = some c ∧ Done Z A H Q E (Vbceaj.run S c)
def spOfN (Z : Ad) (D : Int → Prop) : Sp := fun vs H Q E => ∃ (A : Adr) (S : State) (p : Int) (sa : Addr) (ns : List Int) (rs : List (List Int)) (c : Vbceaj.Call), vs = [.ref A.o, .int p, .ref sa] ∧ StA Z A H S ∧ LI H sa ns ∧ D p ∧
  PyVbceaj.shape p = some (ns.length, rs.length) ∧ Vbceaj.decode ((p :: ns) :: rs) = some c ∧ Done Z A H Q E (Vbceaj.run S c)
section
variable {P : Program} {w : World} {K : PySem.W.Frag} {mg : Str → Option Value} {base : Heap} {Z : Ad}
theorem ok_of_book (T : Txt K mg Z) : OkF P w K mg base (L2.CX P w) 10 "of_book" ["office", "deed", "some", "rows"] (spOf Z (fun p => 0 ≤ p ∧ p < 5)) := by
  obtain ⟨f0, fd0, g0, F0⟩ := T.d_of_book
  obtain ⟨f_Office_clear, fd_Office_clear, M_Office_clear, G_Office_clear, B_Office_clear⟩ := ok_Office_clear (P := P) (w := w) (base := base) T
  obtain ⟨f_Office_new_book, fd_Office_new_book, M_Office_new_book, G_Office_new_book, B_Office_new_book⟩ := ok_Office_new_book (P := P) (w := w) (base := base) T
  obtain ⟨f_Office_issue, fd_Office_issue, M_Office_issue, G_Office_issue, B_Office_issue⟩ := ok_Office_issue (P := P) (w := w) (base := base) T
  obtain ⟨f_Office_next_edition, fd_Office_next_edition, M_Office_next_edition, G_Office_next_edition, B_Office_next_edition⟩ := ok_Office_next_edition (P := P) (w := w) (base := base) T
  obtain ⟨f_Office_buy, fd_Office_buy, M_Office_buy, G_Office_buy, B_Office_buy⟩ := ok_Office_buy (P := P) (w := w) (base := base) T
  refine ⟨f0, fd0, g0, F0.kp, F0.okX sc_of_book (fun vs H Q E h => ?_) (fun cdv A outer s H vs Q E hr h => ?_), (F0.binds fun _ _ _ _ _ _ us hl => match us, hl with | [_, _, _, _], _ => rfl)⟩
  · obtain ⟨A, S, p, sa, ra, ns, rs, c, rfl, _⟩ := h
    rfl
  · obtain ⟨A, S, p, sa, ra, ns, rs, c, rfl, st, hs, hr1, hl, hD, hsh, hdc, k⟩ := h
    refine ⟨_, (pss_cons (ps_if (pt_cmpR op_eq (pv 1) pe_int (nomark _)) (pss_one (ps_ret (pe_meth0 (pv 0) T.cl_Office M_Office_clear G_Office_clear (hr.mono (by decide)) B_Office_clear .nil pass0))) pss_nil)
  (pss_cons (ps_if (pt_cmpR op_eq (pv 1) pe_int (nomark _)) (pss_one (ps_ret (pe_meth (pv 0) T.cl_Office M_Office_new_book G_Office_new_book (hr.mono (by decide)) B_Office_new_book .nil (passes_call (takes_of rfl rfl rfl rfl) fun _ _ _ _ h => h) (pa_cons (pe_ix ix_list (pv 2) pe_int (fun _ _ => rfl)) (pa_cons (pe_ix ix_list (pv 2) pe_int (fun _ _ => rfl)) (pa_cons (pe_ix ix_list (pv 3) pe_int (fun _ _ => rfl)) pa_nil)))))) pss_nil)
  (pss_cons (ps_if (pt_cmpR op_eq (pv 1) pe_int (nomark _)) (pss_one (ps_ret (pe_meth (pv 0) T.cl_Office M_Office_issue G_Office_issue (hr.mono (by decide)) B_Office_issue .nil (passes_call (takes_of rfl rfl rfl rfl) fun _ _ _ _ h => h) (pa_cons (pe_ix ix_list (pv 3) pe_int (fun _ _ => rfl)) pa_nil)))) pss_nil)
  (pss_cons (ps_if (pt_cmpR op_eq (pv 1) pe_int (nomark _)) (pss_one (ps_ret (pe_meth (pv 0) T.cl_Office M_Office_next_edition G_Office_next_edition (hr.mono (by decide)) B_Office_next_edition .nil (passes_call (takes_of rfl rfl rfl rfl) fun _ _ _ _ h => h) (pa_cons (pe_ix ix_list (pv 3) pe_int (fun _ _ => rfl)) pa_nil)))) pss_nil)
  (pss_one (ps_ret (pe_meth (pv 0) T.cl_Office M_Office_buy G_Office_buy (hr.mono (by decide)) B_Office_buy .nil (passes_call (takes_of rfl rfl rfl rfl) fun _ _ _ _ h => h) (pa_cons (pe_ix ix_list (pv 2) pe_int (fun _ _ => rfl)) pa_nil)))))))), ?_⟩
    obtain ⟨dx, ho⟩ := st.ob
    refine ⟨_, rfl, rfl, _, rfl, ?_⟩
    rw [dV]
    refine if_dec (fun q => ?_) fun q => ?_
    · have e := of_decide_eq_true q
      subst e
      obtain ⟨h1, h2⟩ := shp hsh (a := 0) (b := 0) (by decide)
      have := len0 h1
      have := len0 h2
      subst ns; subst rs
      have hc : some Vbceaj.Call.clear = some c := hdc
      injection hc with hc
      subst hc
      exact ⟨_, rfl, A.o, dx, _, rfl, ho, rfl, A, S, rfl, st, k⟩
    have n0 := of_decide_eq_false q
    refine ⟨_, rfl, rfl, _, rfl, ?_⟩
    rw [dV]
    refine if_dec (fun q => ?_) fun q => ?_
    · have e := of_decide_eq_true q
      subst e
      obtain ⟨h1, h2⟩ := shp hsh (a := 2) (b := 1) (by decide)
      obtain ⟨a, b, rfl⟩ := len2 h1
      obtain ⟨x, rfl⟩ := len1 h2
      have hc : some (Vbceaj.Call.book a b x) = some c := hdc
      injection hc with hc
      subst hc
      obtain ⟨r, hr2, hx⟩ := hr1.one
      exact ⟨_, rfl, A.o, dx, _, rfl, ho, rfl, _, rfl, sa, _, _, _, rfl, rfl, SqL.of hs, atI0, _, rfl, sa, _, _, _, rfl, rfl, SqL.of hs, atI1, _, rfl, ra, _, _, _, rfl, rfl, SqL.of hr2, atI0, A, S, a, b, r, x, rfl, st, hx, hl x (by simp), k⟩
    have n1 := of_decide_eq_false q
    refine ⟨_, rfl, rfl, _, rfl, ?_⟩
    rw [dV]
    refine if_dec (fun q => ?_) fun q => ?_
    · have e := of_decide_eq_true q
      subst e
      obtain ⟨h1, h2⟩ := shp hsh (a := 0) (b := 1) (by decide)
      have := len0 h1
      subst ns
      obtain ⟨x, rfl⟩ := len1 h2
      have hc : some (Vbceaj.Call.issue x) = some c := hdc
      injection hc with hc
      subst hc
      obtain ⟨r, hr2, hx⟩ := hr1.one
      exact ⟨_, rfl, A.o, dx, _, rfl, ho, rfl, _, rfl, ra, _, _, _, rfl, rfl, SqL.of hr2, atI0, A, S, r, x, rfl, st, hx, hl x (by simp), k⟩
    have n2 := of_decide_eq_false q
    refine ⟨_, rfl, rfl, _, rfl, ?_⟩
    rw [dV]
    refine if_dec (fun q => ?_) fun q => ?_
    · have e := of_decide_eq_true q
      subst e
      obtain ⟨h1, h2⟩ := shp hsh (a := 0) (b := 1) (by decide)
      have := len0 h1
      subst ns
      obtain ⟨x, rfl⟩ := len1 h2
      have hc : some (Vbceaj.Call.next x) = some c := hdc
      injection hc with hc
      subst hc
      obtain ⟨r, hr2, hx⟩ := hr1.one
      exact ⟨_, rfl, A.o, dx, _, rfl, ho, rfl, _, rfl, ra, _, _, _, rfl, rfl, SqL.of hr2, atI0, A, S, r, x, rfl, st, hx, hl x (by simp), k⟩
    have n3 := of_decide_eq_false q
    have e : p = 4 := by omega
    subst e
    obtain ⟨h1, h2⟩ := shp hsh (a := 1) (b := 0) (by decide)
    obtain ⟨a, rfl⟩ := len1 h1
    have := len0 h2
    subst rs
    have hc : some (Vbceaj.Call.buy a) = some c := hdc
    injection hc with hc
    subst hc
    exact ⟨_, rfl, A.o, dx, _, rfl, ho, rfl, _, rfl, sa, _, _, _, rfl, rfl, SqL.of hs, atI0, A, S, a, rfl, st, k⟩
end
end EX
namespace EX
open PySem PySem.Spec PyProof.Rows L2
open Vbceaj (Sheet Erratum State)
section
variable {P : Program} {w : World} {K : PySem.W.Frag} {mg : Str → Option Value} {base : Heap} {Z : Ad}
theorem ok_of_copies (T : Txt K mg Z) : OkF P w K mg base (L2.CX P w) 7 "of_copies" ["office", "deed", "some", "rows"] (spOf Z (fun p => (5 ≤ p ∧ p < 12) ∨ p = 23)) := by
  obtain ⟨f0, fd0, g0, F0⟩ := T.d_of_copies
  obtain ⟨f_Office_pen, fd_Office_pen, M_Office_pen, G_Office_pen, B_Office_pen⟩ := ok_Office_pen (P := P) (w := w) (base := base) T
  obtain ⟨f_Office_scratch, fd_Office_scratch, M_Office_scratch, G_Office_scratch, B_Office_scratch⟩ := ok_Office_scratch (P := P) (w := w) (base := base) T
  obtain ⟨f_Office_stands, fd_Office_stands, M_Office_stands, G_Office_stands, B_Office_stands⟩ := ok_Office_stands (P := P) (w := w) (base := base) T
  obtain ⟨f_Office_told_copy, fd_Office_told_copy, M_Office_told_copy, G_Office_told_copy, B_Office_told_copy⟩ := ok_Office_told_copy (P := P) (w := w) (base := base) T
  obtain ⟨f_Office_diff, fd_Office_diff, M_Office_diff, G_Office_diff, B_Office_diff⟩ := ok_Office_diff (P := P) (w := w) (base := base) T
  obtain ⟨f_Office_mend, fd_Office_mend, M_Office_mend, G_Office_mend, B_Office_mend⟩ := ok_Office_mend (P := P) (w := w) (base := base) T
  obtain ⟨f_Office_amend, fd_Office_amend, M_Office_amend, G_Office_amend, B_Office_amend⟩ := ok_Office_amend (P := P) (w := w) (base := base) T
  obtain ⟨f_Office_current, fd_Office_current, M_Office_current, G_Office_current, B_Office_current⟩ := ok_Office_current (P := P) (w := w) (base := base) T
  refine ⟨f0, fd0, g0, F0.kp, F0.okX sc_of_copies (fun vs H Q E h => ?_) (fun cdv A outer s H vs Q E hr h => ?_), (F0.binds fun _ _ _ _ _ _ us hl => match us, hl with | [_, _, _, _], _ => rfl)⟩
  · obtain ⟨A, S, p, sa, ra, ns, rs, c, rfl, _⟩ := h
    rfl
  · obtain ⟨A, S, p, sa, ra, ns, rs, c, rfl, st, hs, hr1, hl, hD, hsh, hdc, k⟩ := h
    refine ⟨_, (pss_cons (ps_if (pt_cmpR op_eq (pv 1) pe_int (nomark _)) (pss_one (ps_ret (pe_meth (pv 0) T.cl_Office M_Office_pen G_Office_pen (hr.mono (by decide)) B_Office_pen .nil (passes_call (takes_of rfl rfl rfl rfl) fun _ _ _ _ h => h) (pa_cons (pe_ix ix_list (pv 2) pe_int (fun _ _ => rfl)) (pa_cons (pe_ix ix_list (pv 2) pe_int (fun _ _ => rfl)) pa_nil))))) pss_nil)
  (pss_cons (ps_if (pt_cmpR op_eq (pv 1) pe_int (nomark _)) (pss_one (ps_ret (pe_meth (pv 0) T.cl_Office M_Office_scratch G_Office_scratch (hr.mono (by decide)) B_Office_scratch .nil (passes_call (takes_of rfl rfl rfl rfl) fun _ _ _ _ h => h) (pa_cons (pv 2) pa_nil)))) pss_nil)
  (pss_cons (ps_if (pt_cmpR op_eq (pv 1) pe_int (nomark _)) (pss_one (ps_ret (pe_meth (pv 0) T.cl_Office M_Office_stands G_Office_stands (hr.mono (by decide)) B_Office_stands .nil (passes_call (takes_of rfl rfl rfl rfl) fun _ _ _ _ h => h) (pa_cons (pv 2) pa_nil)))) pss_nil)
  (pss_cons (ps_if (pt_cmpR op_eq (pv 1) pe_int (nomark _)) (pss_one (ps_ret (pe_meth (pv 0) T.cl_Office M_Office_told_copy G_Office_told_copy (hr.mono (by decide)) B_Office_told_copy .nil (passes_call (takes_of rfl rfl rfl rfl) fun _ _ _ _ h => h) (pa_cons (pe_ix ix_list (pv 2) pe_int (fun _ _ => rfl)) pa_nil)))) pss_nil)
  (pss_cons (ps_if (pt_cmpR op_eq (pv 1) pe_int (nomark _)) (pss_one (ps_ret (pe_meth (pv 0) T.cl_Office M_Office_diff G_Office_diff (hr.mono (by decide)) B_Office_diff .nil (passes_call (takes_of rfl rfl rfl rfl) fun _ _ _ _ h => h) (pa_cons (pe_ix ix_list (pv 2) pe_int (fun _ _ => rfl)) (pa_cons (pe_ix ix_list (pv 2) pe_int (fun _ _ => rfl)) pa_nil))))) pss_nil)
  (pss_cons (ps_if (pt_cmpR op_eq (pv 1) pe_int (nomark _)) (pss_one (ps_ret (pe_meth (pv 0) T.cl_Office M_Office_mend G_Office_mend (hr.mono (by decide)) B_Office_mend .nil (passes_call (takes_of rfl rfl rfl rfl) fun _ _ _ _ h => h) (pa_cons (pe_ix ix_list (pv 2) pe_int (fun _ _ => rfl)) pa_nil)))) pss_nil)
  (pss_cons (ps_if (pt_cmpR op_eq (pv 1) pe_int (nomark _)) (pss_one (ps_ret (pe_meth (pv 0) T.cl_Office M_Office_amend G_Office_amend (hr.mono (by decide)) B_Office_amend .nil (passes_call (takes_of rfl rfl rfl rfl) fun _ _ _ _ h => h) (pa_cons (pe_ix ix_list (pv 2) pe_int (fun _ _ => rfl)) (pa_cons (pe_ix ix_list (pv 3) pe_int (fun _ _ => rfl)) pa_nil))))) pss_nil)
  (pss_one (ps_ret (pe_meth (pv 0) T.cl_Office M_Office_current G_Office_current (hr.mono (by decide)) B_Office_current .nil (passes_call (takes_of rfl rfl rfl rfl) fun _ _ _ _ h => h) (pa_cons (pe_ix ix_list (pv 2) pe_int (fun _ _ => rfl)) pa_nil))))))))))), ?_⟩
    obtain ⟨dx, ho⟩ := st.ob
    refine ⟨_, rfl, rfl, _, rfl, ?_⟩
    rw [dV]
    refine if_dec (fun q => ?_) fun q => ?_
    · have e := of_decide_eq_true q
      subst e
      obtain ⟨h1, h2⟩ := shp hsh (a := 2) (b := 0) (by decide)
      obtain ⟨a, b, rfl⟩ := len2 h1
      have := len0 h2
      subst rs
      have hc : some (Vbceaj.Call.pen a b) = some c := hdc
      injection hc with hc
      subst hc
      exact ⟨_, rfl, A.o, dx, _, rfl, ho, rfl, _, rfl, sa, _, _, _, rfl, rfl, SqL.of hs, atI0, _, rfl, sa, _, _, _, rfl, rfl, SqL.of hs, atI1, A, S, a, b, rfl, st, k⟩
    have n5 := of_decide_eq_false q
    refine ⟨_, rfl, rfl, _, rfl, ?_⟩
    rw [dV]
    refine if_dec (fun q => ?_) fun q => ?_
    · have e := of_decide_eq_true q
      subst e
      obtain ⟨h1, h2⟩ := shp hsh (a := 4) (b := 0) (by decide)
      obtain ⟨a, b, c1, d, rfl⟩ := len4 h1
      have := len0 h2
      subst rs
      have hc : some (Vbceaj.Call.scratch a b c1 d) = some c := hdc
      injection hc with hc
      subst hc
      exact ⟨_, rfl, A.o, dx, _, rfl, ho, rfl, _, rfl, A, S, sa, a, b, c1, d, rfl, st, hs, k⟩
    have n6 := of_decide_eq_false q
    refine ⟨_, rfl, rfl, _, rfl, ?_⟩
    rw [dV]
    refine if_dec (fun q => ?_) fun q => ?_
    · have e := of_decide_eq_true q
      subst e
      obtain ⟨h1, h2⟩ := shp hsh (a := 4) (b := 0) (by decide)
      obtain ⟨a, b, c1, d, rfl⟩ := len4 h1
      have := len0 h2
      subst rs
      have hc : some (Vbceaj.Call.stands a b c1 d) = some c := hdc
      injection hc with hc
      subst hc
      exact ⟨_, rfl, A.o, dx, _, rfl, ho, rfl, _, rfl, A, S, sa, a, b, c1, d, rfl, st, hs, k⟩
    have n7 := of_decide_eq_false q
    refine ⟨_, rfl, rfl, _, rfl, ?_⟩
    rw [dV]
    refine if_dec (fun q => ?_) fun q => ?_
    · have e := of_decide_eq_true q
      subst e
      obtain ⟨h1, h2⟩ := shp hsh (a := 1) (b := 0) (by decide)
      obtain ⟨a, rfl⟩ := len1 h1
      have := len0 h2
      subst rs
      have hc : some (Vbceaj.Call.copy a) = some c := hdc
      injection hc with hc
      subst hc
      exact ⟨_, rfl, A.o, dx, _, rfl, ho, rfl, _, rfl, sa, _, _, _, rfl, rfl, SqL.of hs, atI0, A, S, a, rfl, st, k⟩
    have n8 := of_decide_eq_false q
    refine ⟨_, rfl, rfl, _, rfl, ?_⟩
    rw [dV]
    refine if_dec (fun q => ?_) fun q => ?_
    · have e := of_decide_eq_true q
      subst e
      obtain ⟨h1, h2⟩ := shp hsh (a := 2) (b := 0) (by decide)
      obtain ⟨a, b, rfl⟩ := len2 h1
      have := len0 h2
      subst rs
      have hc : some (Vbceaj.Call.diff a b) = some c := hdc
      injection hc with hc
      subst hc
      exact ⟨_, rfl, A.o, dx, _, rfl, ho, rfl, _, rfl, sa, _, _, _, rfl, rfl, SqL.of hs, atI0, _, rfl, sa, _, _, _, rfl, rfl, SqL.of hs, atI1, A, S, a, b, rfl, st, k⟩
    have n9 := of_decide_eq_false q
    refine ⟨_, rfl, rfl, _, rfl, ?_⟩
    rw [dV]
    refine if_dec (fun q => ?_) fun q => ?_
    · have e := of_decide_eq_true q
      subst e
      obtain ⟨h1, h2⟩ := shp hsh (a := 1) (b := 0) (by decide)
      obtain ⟨a, rfl⟩ := len1 h1
      have := len0 h2
      subst rs
      have hc : some (Vbceaj.Call.mend a) = some c := hdc
      injection hc with hc
      subst hc
      exact ⟨_, rfl, A.o, dx, _, rfl, ho, rfl, _, rfl, sa, _, _, _, rfl, rfl, SqL.of hs, atI0, A, S, a, rfl, st, k⟩
    have n10 := of_decide_eq_false q
    refine ⟨_, rfl, rfl, _, rfl, ?_⟩
    rw [dV]
    refine if_dec (fun q => ?_) fun q => ?_
    · have e := of_decide_eq_true q
      subst e
      obtain ⟨h1, h2⟩ := shp hsh (a := 1) (b := 1) (by decide)
      obtain ⟨a, rfl⟩ := len1 h1
      obtain ⟨x, rfl⟩ := len1 h2
      have hc : some (Vbceaj.Call.amend a x) = some c := hdc
      injection hc with hc
      subst hc
      obtain ⟨r, hr2, hx⟩ := hr1.one
      exact ⟨_, rfl, A.o, dx, _, rfl, ho, rfl, _, rfl, sa, _, _, _, rfl, rfl, SqL.of hs, atI0, _, rfl, ra, _, _, _, rfl, rfl, SqL.of hr2, atI0, A, S, a, r, x, rfl, st, hx, hl x (by simp), k⟩
    have n11 := of_decide_eq_false q
    have e : p = 23 := by omega
    subst e
    obtain ⟨h1, h2⟩ := shp hsh (a := 1) (b := 0) (by decide)
    obtain ⟨a, rfl⟩ := len1 h1
    have := len0 h2
    subst rs
    have hc : some (Vbceaj.Call.current a) = some c := hdc
    injection hc with hc
    subst hc
    exact ⟨_, rfl, A.o, dx, _, rfl, ho, rfl, _, rfl, sa, _, _, _, rfl, rfl, SqL.of hs, atI0, A, S, a, rfl, st, k⟩
theorem ok_of_lists (T : Txt K mg Z) : OkF P w K mg base (L2.CX P w) 10 "of_lists" ["office", "deed", "rows"] (spOfR Z (fun p => (12 ≤ p ∧ p < 18) ∨ p = 22)) := by
  obtain ⟨f0, fd0, g0, F0⟩ := T.d_of_lists
  obtain ⟨f_Office_told_behind, fd_Office_told_behind, M_Office_told_behind, G_Office_told_behind, B_Office_told_behind⟩ := ok_Office_told_behind (P := P) (w := w) (base := base) T
  obtain ⟨f_Office_told_joined, fd_Office_told_joined, M_Office_told_joined, G_Office_told_joined, B_Office_told_joined⟩ := ok_Office_told_joined (P := P) (w := w) (base := base) T
  obtain ⟨f_told, fd_told, g_told, k_told, G_told, B_told⟩ := ok_told (P := P) (w := w) (base := base) T
  obtain ⟨f_turned, fd_turned, g_turned, k_turned, G_turned, B_turned⟩ := ok_turned (P := P) (w := w) (base := base) T
  obtain ⟨f_Office_sheet_of, fd_Office_sheet_of, M_Office_sheet_of, G_Office_sheet_of, B_Office_sheet_of⟩ := ok_Office_sheet_of (P := P) (w := w) (base := base) T
  obtain ⟨f_Office_told_left, fd_Office_told_left, M_Office_told_left, G_Office_told_left, B_Office_told_left⟩ := ok_Office_told_left (P := P) (w := w) (base := base) T
  obtain ⟨f_Office_wrong, fd_Office_wrong, M_Office_wrong, G_Office_wrong, B_Office_wrong⟩ := ok_Office_wrong (P := P) (w := w) (base := base) T
  obtain ⟨f_Office_spoiled, fd_Office_spoiled, M_Office_spoiled, G_Office_spoiled, B_Office_spoiled⟩ := ok_Office_spoiled (P := P) (w := w) (base := base) T
  obtain ⟨f_Office_look, fd_Office_look, M_Office_look, G_Office_look, B_Office_look⟩ := ok_Office_look (P := P) (w := w) (base := base) T
  refine ⟨f0, fd0, g0, F0.kp, F0.okX sc_of_lists (fun vs H Q E h => ?_) (fun cdv A outer s H vs Q E hr h => ?_), (F0.binds fun _ _ _ _ _ _ us hl => match us, hl with | [_, _, _], _ => rfl)⟩
  · obtain ⟨A, S, p, ra, ns, rs, c, rfl, _⟩ := h
    rfl
  · obtain ⟨A, S, p, ra, ns, rs, c, rfl, st, hr1, hl, hD, hsh, hdc, k⟩ := h
    refine ⟨_, (pss_cons (ps_if (pt_cmpR op_eq (pv 1) pe_int (nomark _)) (pss_one (ps_ret (pe_meth (pv 0) T.cl_Office M_Office_told_behind G_Office_told_behind (hr.mono (by decide)) B_Office_told_behind .nil (passes_call (takes_of rfl rfl rfl rfl) fun _ _ _ _ h => h) (pa_cons (pv 2) pa_nil)))) pss_nil)
  (pss_cons (ps_if (pt_cmpR op_eq (pv 1) pe_int (nomark _)) (pss_one (ps_ret (pe_meth (pv 0) T.cl_Office M_Office_told_joined G_Office_told_joined (hr.mono (by decide)) B_Office_told_joined .nil (passes_call (takes_of rfl rfl rfl rfl) fun _ _ _ _ h => h) (pa_cons (pv 2) pa_nil)))) pss_nil)
  (pss_cons (ps_if (pt_cmpR op_eq (pv 1) pe_int (nomark _)) (pss_one (ps_ret (pe_call G_told (hr.mono (by decide)) rfl g_told k_told B_told .nil pass0 (pa_cons (pe_call G_turned (hr.mono (by decide)) rfl g_turned k_turned B_turned .nil pass0 (pa_cons (pe_meth (pv 0) T.cl_Office M_Office_sheet_of G_Office_sheet_of (hr.mono (by decide)) B_Office_sheet_of .nil (passes_call (takes_of rfl rfl rfl rfl) fun _ _ _ _ h => h) (pa_cons (pe_ix ix_list (pv 2) pe_int (fun _ _ => rfl)) pa_nil)) pa_nil)) pa_nil)))) pss_nil)
  (pss_cons (ps_if (pt_cmpR op_eq (pv 1) pe_int (nomark _)) (pss_one (ps_ret (pe_meth (pv 0) T.cl_Office M_Office_told_left G_Office_told_left (hr.mono (by decide)) B_Office_told_left .nil (passes_call (takes_of rfl rfl rfl rfl) fun _ _ _ _ h => h) (pa_cons (pv 2) pa_nil)))) pss_nil)
  (pss_cons (ps_if (pt_cmpR op_eq (pv 1) pe_int (nomark _)) (pss_one (ps_ret (pe_meth (pv 0) T.cl_Office M_Office_wrong G_Office_wrong (hr.mono (by decide)) B_Office_wrong .nil (passes_call (takes_of rfl rfl rfl rfl) fun _ _ _ _ h => h) (pa_cons (pe_ix ix_list (pv 2) pe_int (fun _ _ => rfl)) pa_nil)))) pss_nil)
  (pss_cons (ps_if (pt_cmpR op_eq (pv 1) pe_int (nomark _)) (pss_one (ps_ret (pe_meth (pv 0) T.cl_Office M_Office_spoiled G_Office_spoiled (hr.mono (by decide)) B_Office_spoiled .nil (passes_call (takes_of rfl rfl rfl rfl) fun _ _ _ _ h => h) (pa_cons (pe_ix ix_list (pv 2) pe_int (fun _ _ => rfl)) pa_nil)))) pss_nil)
  (pss_one (ps_ret (pe_meth (pv 0) T.cl_Office M_Office_look G_Office_look (hr.mono (by decide)) B_Office_look .nil (passes_call (takes_of rfl rfl rfl rfl) fun _ _ _ _ h => h) (pa_cons (pe_ix ix_list (pv 2) pe_int (fun _ _ => rfl)) pa_nil)))))))))), ?_⟩
    obtain ⟨dx, ho⟩ := st.ob
    refine ⟨_, rfl, rfl, _, rfl, ?_⟩
    rw [dV]
    refine if_dec (fun q => ?_) fun q => ?_
    · have e := of_decide_eq_true q
      subst e
      obtain ⟨h1, h2⟩ := shp hsh (a := 0) (b := 2) (by decide)
      have := len0 h1
      subst ns
      obtain ⟨x, y, rfl⟩ := len2 h2
      have hc : some (Vbceaj.Call.behind x y) = some c := hdc
      injection hc with hc
      subst hc
      exact ⟨_, rfl, A.o, dx, _, rfl, ho, rfl, _, rfl, A, S, ra, x, y, rfl, st, hr1, hl x (by simp), hl y (by simp), k⟩
    have n12 := of_decide_eq_false q
    refine ⟨_, rfl, rfl, _, rfl, ?_⟩
    rw [dV]
    refine if_dec (fun q => ?_) fun q => ?_
    · have e := of_decide_eq_true q
      subst e
      obtain ⟨h1, h2⟩ := shp hsh (a := 0) (b := 2) (by decide)
      have := len0 h1
      subst ns
      obtain ⟨x, y, rfl⟩ := len2 h2
      have hc : some (Vbceaj.Call.joined x y) = some c := hdc
      injection hc with hc
      subst hc
      exact ⟨_, rfl, A.o, dx, _, rfl, ho, rfl, _, rfl, A, S, ra, x, y, rfl, st, hr1, hl x (by simp), hl y (by simp), k⟩
    have n13 := of_decide_eq_false q
    refine ⟨_, rfl, rfl, _, rfl, ?_⟩
    rw [dV]
    refine if_dec (fun q => ?_) fun q => ?_
    · have e := of_decide_eq_true q
      subst e
      obtain ⟨h1, h2⟩ := shp hsh (a := 0) (b := 1) (by decide)
      have := len0 h1
      subst ns
      obtain ⟨x, rfl⟩ := len1 h2
      have hc : some (Vbceaj.Call.turned x) = some c := hdc
      injection hc with hc
      subst hc
      obtain ⟨r, hr2, hx⟩ := hr1.one
      simp only [Vbceaj.run, bind, Except.bind, pure, Except.pure] at k
      refine ⟨_, rfl, A.o, dx, _, rfl, ho, rfl, _, rfl, ra, _, _, _, rfl, rfl, SqL.of hr2, atI0, A, S, r, x, rfl, st, hx, hl x (by simp), fun t ht iS tl nw H1 p s1 np hp => ?_, fun e he => ?_⟩
      rotate_left
      · rw [he] at k; exact k.1
      rw [ht] at k
      dsimp only at k
      refine ⟨p, t, rfl, hp, by omega, fun H2 q2 s2 nq2 hq2 => ?_⟩
      have tl2 : (Vbceaj.turned t).length = t.length := by unfold Vbceaj.turned; rw [List.length_map]
      exact ⟨q2, _, rfl, hq2, by omega, fun H3 q3 s3 nq3 hq3 => k.ro st ((s1.trans s2).trans s3) ((s1.trans s2).free nq3) hq3⟩
    have n14 := of_decide_eq_false q
    refine ⟨_, rfl, rfl, _, rfl, ?_⟩
    rw [dV]
    refine if_dec (fun q => ?_) fun q => ?_
    · have e := of_decide_eq_true q
      subst e
      obtain ⟨h1, h2⟩ := shp hsh (a := 0) (b := 2) (by decide)
      have := len0 h1
      subst ns
      obtain ⟨x, y, rfl⟩ := len2 h2
      have hc : some (Vbceaj.Call.left_ x y) = some c := hdc
      injection hc with hc
      subst hc
      exact ⟨_, rfl, A.o, dx, _, rfl, ho, rfl, _, rfl, A, S, ra, x, y, rfl, st, hr1, hl x (by simp), hl y (by simp), k⟩
    have n15 := of_decide_eq_false q
    refine ⟨_, rfl, rfl, _, rfl, ?_⟩
    rw [dV]
    refine if_dec (fun q => ?_) fun q => ?_
    · have e := of_decide_eq_true q
      subst e
      obtain ⟨h1, h2⟩ := shp hsh (a := 0) (b := 1) (by decide)
      have := len0 h1
      subst ns
      obtain ⟨x, rfl⟩ := len1 h2
      have hc : some (Vbceaj.Call.wrong x) = some c := hdc
      injection hc with hc
      subst hc
      obtain ⟨r, hr2, hx⟩ := hr1.one
      exact ⟨_, rfl, A.o, dx, _, rfl, ho, rfl, _, rfl, ra, _, _, _, rfl, rfl, SqL.of hr2, atI0, A, S, r, x, rfl, st, hx, hl x (by simp), k⟩
    have n16 := of_decide_eq_false q
    refine ⟨_, rfl, rfl, _, rfl, ?_⟩
    rw [dV]
    refine if_dec (fun q => ?_) fun q => ?_
    · have e := of_decide_eq_true q
      subst e
      obtain ⟨h1, h2⟩ := shp hsh (a := 0) (b := 1) (by decide)
      have := len0 h1
      subst ns
      obtain ⟨x, rfl⟩ := len1 h2
      have hc : some (Vbceaj.Call.spoiled x) = some c := hdc
      injection hc with hc
      subst hc
      obtain ⟨r, hr2, hx⟩ := hr1.one
      exact ⟨_, rfl, A.o, dx, _, rfl, ho, rfl, _, rfl, ra, _, _, _, rfl, rfl, SqL.of hr2, atI0, A, S, r, x, rfl, st, hx, hl x (by simp), k⟩
    have n17 := of_decide_eq_false q
    have e : p = 22 := by omega
    subst e
    obtain ⟨h1, h2⟩ := shp hsh (a := 0) (b := 1) (by decide)
    have := len0 h1
    subst ns
    obtain ⟨x, rfl⟩ := len1 h2
    have hc : some (Vbceaj.Call.look x) = some c := hdc
    injection hc with hc
    subst hc
    obtain ⟨r, hr2, hx⟩ := hr1.one
    exact ⟨_, rfl, A.o, dx, _, rfl, ho, rfl, _, rfl, ra, _, _, _, rfl, rfl, SqL.of hr2, atI0, A, S, r, x, rfl, st, hx, hl x (by simp), k⟩
theorem ok_of_times (T : Txt K mg Z) : OkF P w K mg base (L2.CX P w) 7 "of_times" ["office", "deed", "some"] (spOfN Z (fun p => (18 ≤ p ∧ p < 22) ∨ p = 24)) := by
  obtain ⟨f0, fd0, g0, F0⟩ := T.d_of_times
  obtain ⟨f_Office_history, fd_Office_history, M_Office_history, G_Office_history, B_Office_history⟩ := ok_Office_history (P := P) (w := w) (base := base) T
  obtain ⟨f_Office_since, fd_Office_since, M_Office_since, G_Office_since, B_Office_since⟩ := ok_Office_since (P := P) (w := w) (base := base) T
  obtain ⟨f_Office_often, fd_Office_often, M_Office_often, G_Office_often, B_Office_often⟩ := ok_Office_often (P := P) (w := w) (base := base) T
  obtain ⟨f_Office_told_sheet, fd_Office_told_sheet, M_Office_told_sheet, G_Office_told_sheet, B_Office_told_sheet⟩ := ok_Office_told_sheet (P := P) (w := w) (base := base) T
  obtain ⟨f_Office_told_all, fd_Office_told_all, M_Office_told_all, G_Office_told_all, B_Office_told_all⟩ := ok_Office_told_all (P := P) (w := w) (base := base) T
  refine ⟨f0, fd0, g0, F0.kp, F0.okX sc_of_times (fun vs H Q E h => ?_) (fun cdv A outer s H vs Q E hr h => ?_), (F0.binds fun _ _ _ _ _ _ us hl => match us, hl with | [_, _, _], _ => rfl)⟩
  · obtain ⟨A, S, p, sa, ns, rs, c, rfl, _⟩ := h
    rfl
  · obtain ⟨A, S, p, sa, ns, rs, c, rfl, st, hs, hD, hsh, hdc, k⟩ := h
    refine ⟨_, (pss_cons (ps_if (pt_cmpR op_eq (pv 1) pe_int (nomark _)) (pss_one (ps_ret (pe_meth (pv 0) T.cl_Office M_Office_history G_Office_history (hr.mono (by decide)) B_Office_history .nil (passes_call (takes_of rfl rfl rfl rfl) fun _ _ _ _ h => h) (pa_cons (pe_ix ix_list (pv 2) pe_int (fun _ _ => rfl)) (pa_cons (pe_ix ix_list (pv 2) pe_int (fun _ _ => rfl)) pa_nil))))) pss_nil)
  (pss_cons (ps_if (pt_cmpR op_eq (pv 1) pe_int (nomark _)) (pss_one (ps_ret (pe_meth (pv 0) T.cl_Office M_Office_since G_Office_since (hr.mono (by decide)) B_Office_since .nil (passes_call (takes_of rfl rfl rfl rfl) fun _ _ _ _ h => h) (pa_cons (pe_ix ix_list (pv 2) pe_int (fun _ _ => rfl)) (pa_cons (pe_ix ix_list (pv 2) pe_int (fun _ _ => rfl)) pa_nil))))) pss_nil)
  (pss_cons (ps_if (pt_cmpR op_eq (pv 1) pe_int (nomark _)) (pss_one (ps_ret (pe_meth0 (pv 0) T.cl_Office M_Office_often G_Office_often (hr.mono (by decide)) B_Office_often .nil pass0))) pss_nil)
  (pss_cons (ps_if (pt_cmpR op_eq (pv 1) pe_int (nomark _)) (pss_one (ps_ret (pe_meth (pv 0) T.cl_Office M_Office_told_sheet G_Office_told_sheet (hr.mono (by decide)) B_Office_told_sheet .nil (passes_call (takes_of rfl rfl rfl rfl) fun _ _ _ _ h => h) (pa_cons (pe_ix ix_list (pv 2) pe_int (fun _ _ => rfl)) (pa_cons (pe_ix ix_list (pv 2) pe_int (fun _ _ => rfl)) pa_nil))))) pss_nil)
  (pss_one (ps_ret (pe_meth0 (pv 0) T.cl_Office M_Office_told_all G_Office_told_all (hr.mono (by decide)) B_Office_told_all .nil pass0))))))), ?_⟩
    obtain ⟨dx, ho⟩ := st.ob
    refine ⟨_, rfl, rfl, _, rfl, ?_⟩
    rw [dV]
    refine if_dec (fun q => ?_) fun q => ?_
    · have e := of_decide_eq_true q
      subst e
      obtain ⟨h1, h2⟩ := shp hsh (a := 2) (b := 0) (by decide)
      obtain ⟨a, b, rfl⟩ := len2 h1
      have := len0 h2
      subst rs
      have hc : some (Vbceaj.Call.history a b) = some c := hdc
      injection hc with hc
      subst hc
      exact ⟨_, rfl, A.o, dx, _, rfl, ho, rfl, _, rfl, sa, _, _, _, rfl, rfl, SqL.of hs, atI0, _, rfl, sa, _, _, _, rfl, rfl, SqL.of hs, atI1, A, S, a, b, rfl, st, k⟩
    have n18 := of_decide_eq_false q
    refine ⟨_, rfl, rfl, _, rfl, ?_⟩
    rw [dV]
    refine if_dec (fun q => ?_) fun q => ?_
    · have e := of_decide_eq_true q
      subst e
      obtain ⟨h1, h2⟩ := shp hsh (a := 2) (b := 0) (by decide)
      obtain ⟨a, b, rfl⟩ := len2 h1
      have := len0 h2
      subst rs
      have hc : some (Vbceaj.Call.since a b) = some c := hdc
      injection hc with hc
      subst hc
      exact ⟨_, rfl, A.o, dx, _, rfl, ho, rfl, _, rfl, sa, _, _, _, rfl, rfl, SqL.of hs, atI0, _, rfl, sa, _, _, _, rfl, rfl, SqL.of hs, atI1, A, S, a, b, rfl, st, k⟩
    have n19 := of_decide_eq_false q
    refine ⟨_, rfl, rfl, _, rfl, ?_⟩
    rw [dV]
    refine if_dec (fun q => ?_) fun q => ?_
    · have e := of_decide_eq_true q
      subst e
      obtain ⟨h1, h2⟩ := shp hsh (a := 0) (b := 0) (by decide)
      have := len0 h1
      subst ns
      have := len0 h2
      subst rs
      have hc : some (Vbceaj.Call.often) = some c := hdc
      injection hc with hc
      subst hc
      exact ⟨_, rfl, A.o, dx, _, rfl, ho, rfl, A, S, rfl, st, k⟩
    have n20 := of_decide_eq_false q
    refine ⟨_, rfl, rfl, _, rfl, ?_⟩
    rw [dV]
    refine if_dec (fun q => ?_) fun q => ?_
    · have e := of_decide_eq_true q
      subst e
      obtain ⟨h1, h2⟩ := shp hsh (a := 2) (b := 0) (by decide)
      obtain ⟨a, b, rfl⟩ := len2 h1
      have := len0 h2
      subst rs
      have hc : some (Vbceaj.Call.sheet a b) = some c := hdc
      injection hc with hc
      subst hc
      exact ⟨_, rfl, A.o, dx, _, rfl, ho, rfl, _, rfl, sa, _, _, _, rfl, rfl, SqL.of hs, atI0, _, rfl, sa, _, _, _, rfl, rfl, SqL.of hs, atI1, A, S, a, b, rfl, st, k⟩
    have n21 := of_decide_eq_false q
    have e : p = 24 := by omega
    subst e
    obtain ⟨h1, h2⟩ := shp hsh (a := 0) (b := 0) (by decide)
    have := len0 h1
    subst ns
    have := len0 h2
    subst rs
    have hc : some (Vbceaj.Call.told) = some c := hdc
    injection hc with hc
    subst hc
    exact ⟨_, rfl, A.o, dx, _, rfl, ho, rfl, A, S, rfl, st, k⟩
theorem ok_answered (T : Txt K mg Z) : OkF P w K mg base (L2.CX P w) 11 "answered" ["office", "deed", "some", "rows"] (spOf Z (fun p => 0 ≤ p ∧ p ≤ 24)) := by
  obtain ⟨f0, fd0, g0, F0⟩ := T.d_answered
  obtain ⟨f_of_book, fd_of_book, g_of_book, k_of_book, G_of_book, B_of_book⟩ := ok_of_book (P := P) (w := w) (base := base) T
  obtain ⟨f_of_copies, fd_of_copies, g_of_copies, k_of_copies, G_of_copies, B_of_copies⟩ := ok_of_copies (P := P) (w := w) (base := base) T
  obtain ⟨f_of_lists, fd_of_lists, g_of_lists, k_of_lists, G_of_lists, B_of_lists⟩ := ok_of_lists (P := P) (w := w) (base := base) T
  obtain ⟨f_of_times, fd_of_times, g_of_times, k_of_times, G_of_times, B_of_times⟩ := ok_of_times (P := P) (w := w) (base := base) T
  refine ⟨f0, fd0, g0, F0.kp, F0.okX sc_answered (fun vs H Q E h => ?_) (fun cdv A outer s H vs Q E hr h => ?_), (F0.binds fun _ _ _ _ _ _ us hl => match us, hl with | [_, _, _, _], _ => rfl)⟩
  · obtain ⟨A, S, p, sa, ra, ns, rs, c, rfl, _⟩ := h
    rfl
  · obtain ⟨A, S, p, sa, ra, ns, rs, c, rfl, st, hs, hr1, hl, hD, hsh, hdc, k⟩ := h
    refine ⟨_, (pss_cons (ps_if (pt_cmpR op_lt (pv 1) pe_int (nomark _)) (pss_one (ps_ret (pe_call G_of_book (hr.mono (by decide)) rfl g_of_book k_of_book B_of_book .nil (passes_call (takes_of rfl rfl rfl rfl) fun _ _ _ _ h => h) (pa_cons (pv 0) (pa_cons (pv 1) (pa_cons (pv 2) (pa_cons (pv 3) pa_nil))))))) pss_nil)
  (pss_cons (ps_if (PW.pt (pw_or (pt_cmpR op_lt (pv 1) pe_int (nomark _)) (pw_or1 (pt_cmpR op_eq (pv 1) pe_int (nomark _))))) (pss_one (ps_ret (pe_call G_of_copies (hr.mono (by decide)) rfl g_of_copies k_of_copies B_of_copies .nil (passes_call (takes_of rfl rfl rfl rfl) fun _ _ _ _ h => h) (pa_cons (pv 0) (pa_cons (pv 1) (pa_cons (pv 2) (pa_cons (pv 3) pa_nil))))))) pss_nil)
  (pss_cons (ps_if (PW.pt (pw_or (pt_cmpR op_lt (pv 1) pe_int (nomark _)) (pw_or1 (pt_cmpR op_eq (pv 1) pe_int (nomark _))))) (pss_one (ps_ret (pe_call G_of_lists (hr.mono (by decide)) rfl g_of_lists k_of_lists B_of_lists .nil (passes_call (takes_of rfl rfl rfl rfl) fun _ _ _ _ h => h) (pa_cons (pv 0) (pa_cons (pv 1) (pa_cons (pv 3) pa_nil)))))) pss_nil)
  (pss_one (ps_ret (pe_call G_of_times (hr.mono (by decide)) rfl g_of_times k_of_times B_of_times .nil (passes_call (takes_of rfl rfl rfl rfl) fun _ _ _ _ h => h) (pa_cons (pv 0) (pa_cons (pv 1) (pa_cons (pv 2) pa_nil))))))))), ?_⟩
    refine ⟨_, rfl, _, _, rfl, rfl, _, rfl, if_dec (fun q => ?_) fun q => ?_⟩
    · have q' := of_decide_eq_true q
      exact ⟨_, rfl, _, rfl, _, rfl, _, rfl, A, S, p, sa, ra, ns, rs, c, rfl, st, hs, hr1, hl, ⟨by omega, by omega⟩, hsh, hdc, k⟩
    have q5 := of_decide_eq_false q
    have two : (5 ≤ p ∧ p < 12) ∨ p = 23 → spOf Z (fun p => (5 ≤ p ∧ p < 12) ∨ p = 23) [.ref A.o, .int p, .ref sa, .ref ra] H Q E := fun hd => ⟨A, S, p, sa, ra, ns, rs, c, rfl, st, hs, hr1, hl, hd, hsh, hdc, k⟩
    have three : (12 ≤ p ∧ p < 18) ∨ p = 22 → spOfR Z (fun p => (12 ≤ p ∧ p < 18) ∨ p = 22) [.ref A.o, .int p, .ref ra] H Q E := fun hd => ⟨A, S, p, ra, ns, rs, c, rfl, st, hr1, hl, hd, hsh, hdc, k⟩
    refine ⟨_, rfl, _, _, rfl, rfl, _, rfl, if_dec (fun q => ifT rfl ?_) fun q => ?_⟩
    · have q' := of_decide_eq_true q
      exact ⟨_, rfl, _, rfl, _, rfl, _, rfl, two (.inl ⟨by omega, by omega⟩)⟩
    have q12 := of_decide_eq_false q
    refine ⟨_, rfl, rfl, _, rfl, ?_⟩
    rw [dV]
    refine if_dec (fun q => ?_) fun q => ?_
    · have q' := of_decide_eq_true q
      exact ⟨_, rfl, _, rfl, _, rfl, _, rfl, two (.inr q')⟩
    have q23 := of_decide_eq_false q
    refine ⟨_, rfl, _, _, rfl, rfl, _, rfl, if_dec (fun q => ifT rfl ?_) fun q => ?_⟩
    · have q' := of_decide_eq_true q
      exact ⟨_, rfl, _, rfl, _, rfl, three (.inl ⟨by omega, by omega⟩)⟩
    have q18 := of_decide_eq_false q
    refine ⟨_, rfl, rfl, _, rfl, ?_⟩
    rw [dV]
    refine if_dec (fun q => ?_) fun q => ?_
    · have q' := of_decide_eq_true q
      exact ⟨_, rfl, _, rfl, _, rfl, three (.inr q')⟩
    have q22 := of_decide_eq_false q
    exact ⟨_, rfl, _, rfl, _, rfl, A, S, p, sa, ns, rs, c, rfl, st, hs, by omega, hsh, hdc, k⟩
end
end EX
namespace EX
open PySem PySem.Spec PyProof.Rows L2
open Vbceaj (Sheet Erratum State)
/-- what is left behind a call -/
def Left (Z : Ad) (A : Adr) (H : Hp) (Q : VK) (r : State × List Int) : Prop := ∀ A' H' p, StA Z A' H' r.1 → A'.k = A.k → (∀ b u, H b = some u → b ∉ A.M → H' b = some u) → (∀ m ∈ A'.M, m ∈ A.M ∨ H m = none) → H p = none → LI H' p r.2 → Q (.ref p) H'
def spAns1 (Z : Ad) : Sp := fun vs H Q _ => ∃ (A : Adr) (S : State) (p : Int) (sa ra : Addr) (ns : List Int) (rs : List (List Int)) (c : Vbceaj.Call), vs = [.ref A.o, .int p, .ref sa, .ref ra] ∧ StA Z A H S ∧ LI H sa ns ∧ RL H ra rs ∧ (∀ r ∈ rs, r.length ≤ 2000) ∧ (0 ≤ p ∧ p ≤ 24) ∧
  PyVbceaj.shape p = some (ns.length, rs.length) ∧ Vbceaj.decode ((p :: ns) :: rs) = some c ∧ Left Z A H Q (Vbceaj.step S ((p :: ns) :: rs))
section
variable {P : Program} {w : World} {K : PySem.W.Frag} {mg : Str → Option Value} {base : Heap} {Z : Ad}
theorem ok_answer (T : Txt K mg Z) : OkF P w K mg base CX0 12 "answer" ["office", "deed", "some", "rows"] (spAns1 Z) := by
  obtain ⟨f0, fd0, g0, F0⟩ := T.d_answer
  obtain ⟨f_answered, fd_answered, g_answered, k_answered, G_answered, B_answered⟩ := ok_answered (P := P) (w := w) (base := base) T
  refine ⟨f0, fd0, g0, F0.kp, F0.ok sc_answer (fun vs H Q E h => ?_) (fun cdv A outer s H vs Q E hr h => ?_), (F0.binds fun _ _ _ _ _ _ us hl => match us, hl with | [_, _, _, _], _ => rfl)⟩
  · obtain ⟨A, S, p, sa, ra, ns, rs, c, rfl, _⟩ := h
    rfl
  · obtain ⟨A, S, p, sa, ra, ns, rs, c, rfl, st, hs, hr1, hl, hD, hsh, hdc, k⟩ := h
    refine ⟨_, (pss_one (ps_try_two (i := 4) rfl rfl sc_answer.nd rfl rfl takes0
  (fun W pn xe tk _ => (pss_one (ps_ret (pe_callS G_answered (hr.mono (by decide)) rfl g_answered k_answered B_answered (fun σ => passAt tk σ) (by exact (pa_cons (pv 0) (pa_cons (pv 1) (pa_cons (pv 2) (pa_cons (pv 3) pa_nil)))))))))
  (.cons ⟨rfl, by decide, Or.inl T.g_Refused⟩ (fun a oe cls d pn hz hf => (pss_one (ps_ret (pe_lst (pa_cons (pe_xf T.xf_Refused T.nx_Refused hz hf (pv 4)) pa_nil))))) (.cons ⟨rfl, by decide, Or.inl T.g_Fault⟩ (fun a oe cls d pn hz hf => (pss_one (ps_ret (pe_lst (pa_cons (pe_op op_sub (pe_gint rfl T.g_FAULT) (pe_xf T.xf_Fault T.nx_Fault hz hf (pv 4))) pa_nil))))) .nil)))), ?_⟩
    refine ⟨_, rfl, _, rfl, _, rfl, _, rfl, A, S, p, sa, ra, ns, rs, c, rfl, st, hs, hr1, hl, hD, hsh, hdc, ?_⟩
    unfold Vbceaj.step at k
    rw [hdc] at k
    dsimp only at k
    cases q : Vbceaj.run S c with
    | ok r =>
      obtain ⟨S', ans⟩ := r
      rw [q] at k
      exact k
    | error e =>
      rw [q] at k
      dsimp only at k
      refine ⟨fun H' d s nd hd => ⟨true, T.ex_rr, fun _ a ha => ?_, fun z => Bool.noConfusion z⟩, fun pp hpp H' d s nd hd => ⟨false, T.ex_fr, fun z => Bool.noConfusion z, fun _ => ⟨true, T.ex_ff, fun _ a ha => ?_, fun z => Bool.noConfusion z⟩⟩⟩
      · refine ⟨_, rfl, rfl, rfl, d, _, _, rfl, hd, rfl, (by show 1 ≤ sizeLine; decide), fun r nr => ?_⟩
        exact k A _ r (st.same (s.trans (same_new nr))) rfl (fun b u e0 _ => (s.trans (same_new nr)) _ _ e0) (fun m hm => .inl hm) (s.free nr) upd_same
      · refine ⟨_, rfl, rfl, rfl, d, _, _, rfl, hd, rfl, _, _, rfl, rfl, (by show 1 ≤ sizeLine; decide), fun r nr => ?_⟩
        refine k A _ r (st.same (s.trans (same_new nr))) rfl (fun b u e0 _ => (s.trans (same_new nr)) _ _ e0) (fun m hm => .inl hm) (s.free nr) ?_
        rw [hpp]
        exact upd_same
end
end EX
namespace EX
open PySem PySem.Spec PyProof.Rows L2
open Vbceaj (Sheet Erratum State)
def NUMS : List Int := [0, 2, 0, 0, 1, 2, 4, 4, 1, 2, 1, 1, 0, 0, 0, 0, 0, 0, 2, 2, 0, 2, 0, 1, 0]
def ROWN : List Int := [0, 1, 1, 1, 0, 0, 0, 0, 0, 0, 0, 1, 2, 2, 1, 2, 1, 1, 0, 0, 0, 0, 1, 0, 0]
theorem shape_tab : ∀ m : Fin 25, PyVbceaj.shape ((m : Nat) : Int) = some ((NUMS.getD m 0).toNat, (ROWN.getD m 0).toNat) ∧ NUMS[(m : Nat)]? = some ((NUMS.getD m 0).toNat : Int) ∧ ROWN[(m : Nat)]? = some ((ROWN.getD m 0).toNat : Int) ∧ (ROWN.getD m 0).toNat ≤ 2 ∧ (NUMS.getD m 0).toNat ≤ 4 := by decide
theorem shape_in {p : Int} {n k : Nat} (h : PyVbceaj.shape p = some (n, k)) : (0 ≤ p ∧ p ≤ 24) := by
  by_cases q : 0 ≤ p ∧ p ≤ 24
  · exact q
  · exfalso
    unfold PyVbceaj.shape at h
    repeat rw [if_neg (by omega)] at h
    cases h
theorem shape_is {p : Int} {n k : Nat} (h : PyVbceaj.shape p = some (n, k)) : NUMS[p.toNat]? = some (n : Int) ∧ ROWN[p.toNat]? = some (k : Int) ∧ p = ((p.toNat : Nat) : Int) ∧ k ≤ 2 ∧ n ≤ 4 := by
  obtain ⟨h1, h2⟩ := shape_in h
  have hm : p.toNat < 25 := by omega
  have e : p = ((p.toNat : Nat) : Int) := by omega
  obtain ⟨t1, t2, t3, t4, t5⟩ := shape_tab ⟨p.toNat, hm⟩
  dsimp only at t1 t2 t3 t4 t5
  rw [← e, h] at t1
  injection t1 with t1
  injection t1 with u1 u2
  rw [← u1] at t2 t5
  rw [← u2] at t3 t4
  exact ⟨t2, t3, e, t4, t5⟩
theorem calls_inv {f : Nat} {p : Int} {r : List Int} {raw : List (List (List Int))} (h : PyFlat.calls PyVbceaj.shape f (p :: r) = some raw) :
    ∃ n k xs t f' raw', PyVbceaj.shape p = some (n, k) ∧ n ≤ r.length ∧ PyFlat.rows k (r.drop n) = some (xs, t) ∧ PyFlat.calls PyVbceaj.shape f' t = some raw' ∧ raw = ((p :: r.take n) :: xs) :: raw' := by
  cases f with
  | zero => cases h
  | succ f =>
    simp only [PyFlat.calls, PyFlat.call] at h
    cases q : PyVbceaj.shape p with
    | none => rw [q] at h; cases h
    | some nk =>
      obtain ⟨n, k⟩ := nk
      rw [q] at h
      dsimp only at h
      by_cases hr : r.length < n
      · rw [if_pos hr] at h; cases h
      · rw [if_neg hr] at h
        cases q2 : PyFlat.rows k (r.drop n) with
        | none => rw [q2] at h; cases h
        | some xt =>
          obtain ⟨xs, t⟩ := xt
          rw [q2] at h
          dsimp only at h
          cases q3 : PyFlat.calls PyVbceaj.shape f t with
          | none => rw [q3] at h; cases h
          | some raw' =>
            rw [q3] at h
            injection h with h
            exact ⟨n, k, xs, t, f, raw', rfl, by omega, q2, q3, h.symm⟩
theorem rows_inv {k : Nat} {q : List Int} {xs : List (List Int)} {t : List Int} (h : PyFlat.rows (k + 1) q = some (xs, t)) : ∃ (n : Nat) (r : List Int) (xs' : List (List Int)), q = (n : Int) :: r ∧ n ≤ r.length ∧ PyFlat.rows k (r.drop n) = some (xs', t) ∧ xs = r.take n :: xs' := by
  simp only [PyFlat.rows] at h
  cases q with
  | nil => cases h
  | cons z r =>
    simp only [PyFlat.row] at h
    by_cases c : 0 ≤ z ∧ z.toNat ≤ r.length
    · rw [if_pos c] at h
      dsimp only at h
      cases q2 : PyFlat.rows k (r.drop z.toNat) with
      | none => rw [q2] at h; cases h
      | some xt =>
        obtain ⟨xs', t'⟩ := xt
        rw [q2] at h
        injection h with h
        injection h with h1 h2
        refine ⟨z.toNat, r, xs', by rw [Int.toNat_of_nonneg c.1], c.2, by rw [q2, h2], h1.symm⟩
    · rw [if_neg c] at h; cases h
theorem rows_len : ∀ {k : Nat} {q : List Int} {xs : List (List Int)} {t : List Int}, PyFlat.rows k q = some (xs, t) → xs.length = k ∧ t.length ≤ q.length
  | 0, q, xs, t, h => by
    simp only [PyFlat.rows] at h
    injection h with h
    injection h with h1 h2
    rw [← h1, ← h2]; exact ⟨rfl, Nat.le_refl _⟩
  | k + 1, q, xs, t, h => by
    obtain ⟨n, r, xs', e1, e2, e3, e4⟩ := rows_inv h
    obtain ⟨l1, l2⟩ := rows_len e3
    rw [e4, e1, List.length_cons, List.length_cons, l1]
    rw [List.length_drop] at l2
    exact ⟨rfl, by omega⟩
theorem whole_id (c : List (List Int)) : PyVbceaj.whole c = c := by
  unfold PyVbceaj.whole
  split <;> rfl
theorem whole_map (cs : List (List (List Int))) : cs.map PyVbceaj.whole = cs := by
  rw [List.map_congr_left fun c _ => whole_id c, List.map_id']
theorem cut_mid {l : List Int} {b e : Nat} (hb : b ≤ e) (he : e ≤ l.length) : cutV (l.map V.int) (some (b : Int)) (some (e : Int)) = ((l.drop b).take (e - b)).map V.int := by
  unfold cutV
  rw [HT.sIx_nat, HT.sIx_nat, List.length_map, Nat.min_eq_left he, Nat.min_eq_left (by omega), List.map_take, List.map_drop]
/-- every deed of the table is a call -/
theorem dec_some {p : Int} {ns : List Int} {rs : List (List Int)} (h : PyVbceaj.shape p = some (ns.length, rs.length)) : ∃ c, Vbceaj.decode ((p :: ns) :: rs) = some c := by
  obtain ⟨h1, h2⟩ := shape_in h
  have cases25 : p = 0 ∨ p = 1 ∨ p = 2 ∨ p = 3 ∨ p = 4 ∨ p = 5 ∨ p = 6 ∨ p = 7 ∨ p = 8 ∨ p = 9 ∨ p = 10 ∨ p = 11 ∨ p = 12 ∨ p = 13 ∨ p = 14 ∨ p = 15 ∨ p = 16 ∨ p = 17 ∨ p = 18 ∨ p = 19 ∨ p = 20 ∨ p = 21 ∨ p = 22 ∨ p = 23 ∨ p = 24 := by omega
  have t00 : ∀ q : Int, PyVbceaj.shape q = some (0, 0) → p = q → ns = [] ∧ rs = [] := fun q hq e => by
    subst e; obtain ⟨a, b⟩ := shp h hq; exact ⟨len0 a, len0 b⟩
  have t10 : ∀ q : Int, PyVbceaj.shape q = some (1, 0) → p = q → ∃ a, ns = [a] ∧ rs = [] := fun q hq e => by
    subst e; obtain ⟨a, b⟩ := shp h hq; obtain ⟨x, hx⟩ := len1 a; exact ⟨x, hx, len0 b⟩
  have t20 : ∀ q : Int, PyVbceaj.shape q = some (2, 0) → p = q → ∃ a b, ns = [a, b] ∧ rs = [] := fun q hq e => by
    subst e; obtain ⟨a, b⟩ := shp h hq; obtain ⟨x, y, hx⟩ := len2 a; exact ⟨x, y, hx, len0 b⟩
  have t40 : ∀ q : Int, PyVbceaj.shape q = some (4, 0) → p = q → ∃ a b c d, ns = [a, b, c, d] ∧ rs = [] := fun q hq e => by
    subst e; obtain ⟨a, b⟩ := shp h hq; obtain ⟨x, y, z, u, hx⟩ := len4 a; exact ⟨x, y, z, u, hx, len0 b⟩
  have t01 : ∀ q : Int, PyVbceaj.shape q = some (0, 1) → p = q → ns = [] ∧ ∃ x, rs = [x] := fun q hq e => by
    subst e; obtain ⟨a, b⟩ := shp h hq; exact ⟨len0 a, len1 b⟩
  have t02 : ∀ q : Int, PyVbceaj.shape q = some (0, 2) → p = q → ns = [] ∧ ∃ x y, rs = [x, y] := fun q hq e => by
    subst e; obtain ⟨a, b⟩ := shp h hq; exact ⟨len0 a, len2 b⟩
  rcases cases25 with e | e | e | e | e | e | e | e | e | e | e | e | e | e | e | e | e | e | e | e | e | e | e | e | e
  · obtain ⟨rfl, rfl⟩ := t00 0 (by decide) e; subst e; exact ⟨_, rfl⟩
  · subst e
    obtain ⟨a, b⟩ := shp h (a := 2) (b := 1) (by decide)
    obtain ⟨x, y, rfl⟩ := len2 a
    obtain ⟨z, rfl⟩ := len1 b
    exact ⟨_, rfl⟩
  · obtain ⟨rfl, x, rfl⟩ := t01 2 (by decide) e; subst e; exact ⟨_, rfl⟩
  · obtain ⟨rfl, x, rfl⟩ := t01 3 (by decide) e; subst e; exact ⟨_, rfl⟩
  · obtain ⟨a, rfl, rfl⟩ := t10 4 (by decide) e; subst e; exact ⟨_, rfl⟩
  · obtain ⟨a, b, rfl, rfl⟩ := t20 5 (by decide) e; subst e; exact ⟨_, rfl⟩
  · obtain ⟨a, b, c, d, rfl, rfl⟩ := t40 6 (by decide) e; subst e; exact ⟨_, rfl⟩
  · obtain ⟨a, b, c, d, rfl, rfl⟩ := t40 7 (by decide) e; subst e; exact ⟨_, rfl⟩
  · obtain ⟨a, rfl, rfl⟩ := t10 8 (by decide) e; subst e; exact ⟨_, rfl⟩
  · obtain ⟨a, b, rfl, rfl⟩ := t20 9 (by decide) e; subst e; exact ⟨_, rfl⟩
  · obtain ⟨a, rfl, rfl⟩ := t10 10 (by decide) e; subst e; exact ⟨_, rfl⟩
  · subst e
    obtain ⟨a, b⟩ := shp h (a := 1) (b := 1) (by decide)
    obtain ⟨x, rfl⟩ := len1 a
    obtain ⟨z, rfl⟩ := len1 b
    exact ⟨_, rfl⟩
  · obtain ⟨rfl, x, y, rfl⟩ := t02 12 (by decide) e; subst e; exact ⟨_, rfl⟩
  · obtain ⟨rfl, x, y, rfl⟩ := t02 13 (by decide) e; subst e; exact ⟨_, rfl⟩
  · obtain ⟨rfl, x, rfl⟩ := t01 14 (by decide) e; subst e; exact ⟨_, rfl⟩
  · obtain ⟨rfl, x, y, rfl⟩ := t02 15 (by decide) e; subst e; exact ⟨_, rfl⟩
  · obtain ⟨rfl, x, rfl⟩ := t01 16 (by decide) e; subst e; exact ⟨_, rfl⟩
  · obtain ⟨rfl, x, rfl⟩ := t01 17 (by decide) e; subst e; exact ⟨_, rfl⟩
  · obtain ⟨a, b, rfl, rfl⟩ := t20 18 (by decide) e; subst e; exact ⟨_, rfl⟩
  · obtain ⟨a, b, rfl, rfl⟩ := t20 19 (by decide) e; subst e; exact ⟨_, rfl⟩
  · obtain ⟨rfl, rfl⟩ := t00 20 (by decide) e; subst e; exact ⟨_, rfl⟩
  · obtain ⟨a, b, rfl, rfl⟩ := t20 21 (by decide) e; subst e; exact ⟨_, rfl⟩
  · obtain ⟨rfl, x, rfl⟩ := t01 22 (by decide) e; subst e; exact ⟨_, rfl⟩
  · obtain ⟨a, rfl, rfl⟩ := t10 23 (by decide) e; subst e; exact ⟨_, rfl⟩
  · obtain ⟨rfl, rfl⟩ := t00 24 (by decide) e; subst e; exact ⟨_, rfl⟩
end EX
namespace EX
open PySem PySem.Spec PyProof.Rows L2
open Vbceaj (Sheet Erratum State)
/-- the calls that are left, played from a state -/
def rest (S : State) (raw : List (List (List Int))) : List Int := PyFlat.told (PyFlat.played VbceajNeutral.step S raw)
theorem rest_cons (S : State) (c : List (List Int)) (raw : List (List (List Int))) : rest S (c :: raw) = (((Vbceaj.step S c).2.length : Int) :: (Vbceaj.step S c).2) ++ rest (Vbceaj.step S c).1 raw := rfl
/-- something set aside is written to -/
theorem StA.put {Z : Ad} {A : Adr} {H : Hp} {S : State} (h : StA Z A H S) {y : Addr} (hy : y ∈ A.x) {vs : List V} : StA Z A (upd H y (.lst vs)) S := by
  have ny := (h.ax y hy).1
  have ne : ∀ {m : Addr}, m ∈ A.M → m ≠ y := fun hm z => ny (by rw [← z]; exact hm)
  obtain ⟨d1, h1⟩ := h.ob
  obtain ⟨d2, h2⟩ := h.bk
  have ef := off_upd (M := A.N) (H := H) (o := .lst vs) (List.mem_append_left A.M hy)
  refine ⟨h.nd, ⟨d1, by rw [upd_ne (ne StA.o_mem)]; exact h1⟩, ⟨d2, by rw [upd_ne (ne StA.b_mem)]; exact h2⟩, by rw [upd_ne (ne Adr.le_mem)]; exact h.le, by rw [upd_ne (ne Adr.lc_mem)]; exact h.lc, h.el, fun i e x he hx => ?_, h.cl, fun i c x hc hx => ?_, h.gd, fun z hz => ⟨(h.ax z hz).1, ?_⟩⟩
  · rw [ef]
    have hem := Adr.e_mem (A := A) (List.mem_of_getElem? he)
    refine (h.ed i e x he hx).same (fun b u q hb => ?_) (Same.refl _)
    rw [upd_ne]
    · exact q
    · rcases hb with hb | hb
      · rw [hb]; exact ne hem.1
      · rw [hb]; exact ne hem.2
  · rw [ef]
    exact (h.cp i c x hc hx).same (fun u q => by rw [upd_ne (ne (Adr.c_mem (List.mem_of_getElem? hc)))]; exact q) (Same.refl _)
  · obtain ⟨us, q⟩ := (h.ax z hz).2
    by_cases e : z = y
    · exact ⟨vs, by rw [e]; exact upd_same⟩
    · exact ⟨us, by rw [upd_ne e]; exact q⟩
/-- a fresh list is set aside -/
theorem StA.setx {Z : Ad} {A : Adr} {H : Hp} {S : State} (h : StA Z A H S) {p : Addr} (np : H p = none) {vs : List V} : StA Z { A with x := [p] } (upd H p (.lst vs)) S := by
  have s := same_new (o := .lst vs) np
  have pM := h.fresh np
  have fs : Same (off A.N H) (off ({ A with x := [p] } : Adr).N (upd H p (.lst vs))) := fun b u q => by
    obtain ⟨q1, q2⟩ := off_some q
    rw [off_ne]
    · exact s _ _ q1
    · intro z
      rcases List.mem_append.mp z with z | z
      · rw [List.mem_singleton.mp z, np] at q1; cases q1
      · exact q2 (Adr.inN z)
  obtain ⟨d1, h1⟩ := h.ob
  obtain ⟨d2, h2⟩ := h.bk
  refine ⟨h.nd, ⟨d1, s _ _ h1⟩, ⟨d2, s _ _ h2⟩, s _ _ h.le, s _ _ h.lc, h.el, fun i e x he hx => (h.ed i e x he hx).same (fun b u q _ => s b u q) fs, h.cl, fun i c x hc hx => (h.cp i c x hc hx).same (fun u q => s _ _ q) fs, h.gd, fun y hy => ?_⟩
  have hy' : y = p := List.mem_singleton.mp hy
  rw [hy']
  exact ⟨pM, vs, upd_same⟩
def rowsOk (raw : List (List (List Int))) : Prop := ∀ c ∈ raw, ∀ r ∈ c.tail, r.length ≤ 2000
section
variable {P : Program} {w : World} {K : PySem.W.Frag} {mg : Str → Option Value} {base : Heap} {Z : Ad}
def spAll (K : PySem.W.Frag) : Sp := fun vs H Q _ => ∃ (a : Addr) (l : List Int) (raw : List (List (List Int))), vs = [.ref a] ∧ SqL K H a (l.map V.int) ∧ PyFlat.calls PyVbceaj.shape l.length l = some raw ∧ rowsOk raw ∧ (rest Vbceaj.start raw).length ≤ 10000000 ∧ l.length ≤ 15000 ∧ ∀ H' p, LI H' p (rest Vbceaj.start raw) → Q (.ref p) H'
theorem run_answers (T : Txt K mg Z) {f0 : Addr} {fd0 : FuncData} (F0 : Fun K "answers" "answers" s_answers f0 fd0) : FnOk P w K mg base CX0 13 f0 fd0 ["calls"] (spAll K) := by
  obtain ⟨f_Office_init, fd_Office_init, M_Office_init, G_Office_init, B_Office_init⟩ := ok_Office_init (P := P) (w := w) (base := base) T
  obtain ⟨f_answer, fd_answer, g_answer, k_answer, G_answer, B_answer⟩ := ok_answer (P := P) (w := w) (base := base) T
  refine F0.ok sc_answers (fun vs H Q E h => ?_) (fun cdv A outer s H vs Q E hr h => ?_)
  · obtain ⟨a, l, raw, rfl, _⟩ := h
    rfl
  · obtain ⟨a, l, raw, rfl, hS, hraw, hok, hbig, hl, k⟩ := h
    obtain ⟨aN, gt_NUMBERS, sN⟩ := T.g_NUMBERS
    obtain ⟨aR, gt_ROWS, sR⟩ := T.g_ROWS
    refine ⟨_, (pss_cons (ps_set (i := 1) sc_answers.nd rfl (Or.inl rfl) (pe_make0 M_Office_init G_Office_init (hr.mono (by decide)) rfl T.g_Office B_Office_init .nil pass0))
  (pss_cons (ps_set (i := 2) sc_answers.nd rfl (Or.inl rfl) (pe_lst pa_nil))
  (pss_cons (ps_set (i := 3) sc_answers.nd rfl (Or.inl rfl) pe_int)
  (pss_cons (ps_while PassesOwn.never (pt_cmpR op_lt (pv 3) (pe_callB call_len_seq (by rfl) T.b_len (by decide +kernel) (pa_cons (pv 0) pa_nil)) (nomark _))
  (pss_cons (ps_set (i := 4) sc_answers.nd rfl (Or.inl rfl) (pe_ix ix_list (pv 0) (pv 3) (fun _ _ => rfl)))
  (pss_cons (ps_set (i := 5) sc_answers.nd rfl (Or.inl rfl) (pe_op op_add (pe_op op_add (pv 3) pe_int) (pe_ix ix_tup (pe_gref rfl gt_NUMBERS) (pv 4) (fun _ _ => rfl))))
  (pss_cons (ps_set (i := 6) sc_answers.nd rfl (Or.inl rfl) (pe_slice sl_list (pv 0) (po_some (pe_op op_add (pv 3) pe_int)) (po_some (pv 5))))
  (pss_cons (ps_set (i := 7) sc_answers.nd rfl (Or.inl rfl) (pe_lst pa_nil))
  (pss_cons (ps_for PassesOwn.never rfl (pi_range1 (by rfl) T.b_range (pa_cons (pe_ix ix_tup (pe_gref rfl gt_ROWS) (pv 4) (fun _ _ => rfl)) pa_nil)) (pg_name (i := 8) sc_answers.nd rfl (.inl rfl))
  (pss_cons (ps_set (i := 9) sc_answers.nd rfl (Or.inl rfl) (pe_op op_add (pv 5) pe_int))
  (pss_cons (ps_set (i := 5) sc_answers.nd rfl (Or.inl rfl) (pe_op op_add (pv 9) (pe_ix ix_list (pv 0) (pv 5) (fun _ _ => rfl))))
  (pss_one (ps_expr (pe_bm PySem.F.plainAttrs_list PySem.F.slot_list_append PySem.F.type_list_append mt_append (pv 7) (pa_cons (pe_slice sl_list (pv 0) (po_some (pv 9)) (po_some (pv 5))) pa_nil)))))))
  (pss_cons (ps_set (i := 10) sc_answers.nd rfl (Or.inl rfl) (pe_call G_answer (hr.mono (by decide)) rfl g_answer k_answer B_answer .nil pass0 (pa_cons (pv 1) (pa_cons (pv 4) (pa_cons (pv 6) (pa_cons (pv 7) pa_nil))))))
  (pss_cons (ps_expr (pe_bm PySem.F.plainAttrs_list PySem.F.slot_list_append PySem.F.type_list_append mt_append (pv 2) (pa_cons (pe_callB call_len_seq (by rfl) T.b_len (by decide +kernel) (pa_cons (pv 10) pa_nil)) pa_nil)))
  (pss_cons (ps_expr (pe_bm PySem.F.plainAttrs_list PySem.F.slot_list_extend PySem.F.type_list_extend mt_extend (pv 2) (pa_cons (pv 10) pa_nil)))
  (pss_one (ps_set (i := 3) sc_answers.nd rfl (Or.inl rfl) (pv 5))))))))))))
  (pss_one (ps_ret (pv 2))))))), ?_⟩
    intro o dx no ndx hne
    refine ⟨o, dx, rfl, upd_same, fun H1 A0 st0 hA0 _ b1 hM0 => ⟨rfl, ?_⟩⟩
    have s1 : Same H H1 := mk_same no ndx b1
    refine ⟨(by show 0 ≤ sizeLine; decide), fun pf npf => ?_⟩
    have s2 := same_new (o := .lst []) npf
    have fr0 : ∀ m ∈ A0.M, H m = none := fun m hm => by
      rcases hM0 m hm with e | e
      · rw [e]; exact no
      · cases q : H m with
        | none => rfl
        | some u =>
          have mo : m ≠ o := ne_of_none q no
          have md : m ≠ dx := ne_of_none q ndx
          rw [upd_ne mo, upd_ne md, q] at e; cases e
    have st1 := st0.setx npf (vs := [])
    refine ⟨fun m σ H2 => ∃ (at_ f : Nat) (raw' : List (List (List Int))) (S : State) (A : Adr) (fnd : List Int) (x4 x5 x6 x7 x8 x9 x10 : Option V), σ = [some (.ref a), some (.ref A.o), some (.ref pf), some (.int (at_ : Nat)), x4, x5, x6, x7, x8, x9, x10] ∧ m = l.length - at_ ∧ at_ ≤ l.length ∧ PyFlat.calls PyVbceaj.shape f (l.drop at_) = some raw' ∧ rowsOk raw' ∧
        Same H H2 ∧ StA Z A H2 S ∧ (∀ m ∈ A.M, H m = none) ∧ A.x = [pf] ∧ LI H2 pf fnd ∧ rest Vbceaj.start raw = fnd ++ rest S raw',
      ⟨_, 0, l.length, raw, Vbceaj.start, { A0 with x := [pf] }, [], none, none, none, none, none, none, none, by rw [hA0]; rfl, rfl, Nat.zero_le _, hraw, hok, s1.trans s2, st1, fr0, rfl, upd_same, rfl⟩, ?_⟩
    rintro m σ H2 ⟨at_, f, raw', S, A, fnd, x4, x5, x6, x7, x8, x9, x10, rfl, rfl, hat, hc, hok', s3, st, frM, hAx, hf, hr0⟩
    have pfx : pf ∈ A.x := by rw [hAx]; exact List.mem_cons_self
    have pfA := (st.ax pf pfx).1
    have hS2 := s3.seq hS
    have fl : fnd.length ≤ 10000000 := by have := congrArg List.length hr0; rw [List.length_append] at this; omega
    refine ⟨_, rfl, _, rfl, a, _, rfl, .inl hS2, _, _, rfl, rfl, _, rfl, ?_⟩
    rw [List.length_map]
    refine if_dec (fun c => ?_) fun c => ?_
    rotate_left
    · have c' : at_ = l.length := by have := of_decide_eq_false c; omega
      rw [c', List.drop_length] at hc
      have e0 : raw' = [] := by
        cases f with
        | zero => injection hc with hc; exact hc.symm
        | succ f => injection hc with hc; exact hc.symm
      subst e0
      have e1 : rest Vbceaj.start raw = fnd := by rw [hr0]; show fnd ++ [] = _; rw [List.append_nil]
      exact ⟨_, rfl, k _ pf (by rw [e1]; exact hf)⟩
    have c' : at_ < l.length := by have := of_decide_eq_true c; omega
    obtain ⟨p, hp⟩ : ∃ p, l[at_]? = some p := ⟨_, List.getElem?_eq_getElem c'⟩
    have ed : l.drop at_ = p :: l.drop (at_ + 1) := (List.drop_eq_getElem_cons c').trans (by rw [(List.getElem?_eq_some_iff.mp hp).2])
    rw [ed] at hc
    obtain ⟨n, kk, xs, t, f', raw2, hsh, hn, hrows, hcalls, hraw2⟩ := calls_inv hc
    obtain ⟨t1, t2, t3, k2, n4⟩ := shape_is hsh
    subst hraw2
    obtain ⟨lx, _⟩ := rows_len hrows
    rw [List.length_drop] at hn
    rw [List.drop_drop] at hrows
    refine ⟨_, fun σ' H' h => h, ?_⟩
    -- deed
    have hpv : (l.map V.int)[at_]? = some (.int p) := by rw [List.getElem?_map, hp]; rfl
    refine ⟨_, rfl, _, rfl, a, _, _, _, rfl, rfl, hS2, atI_nat hpv, ?_⟩
    have hNv : (NUMS.map V.int)[p.toNat]? = some (.int (n : Int)) := by rw [List.getElem?_map, t1]; rfl
    have hRv : (ROWN.map V.int)[p.toNat]? = some (.int (kk : Int)) := by rw [List.getElem?_map, t2]; rfl
    have aN' : atI (NUMS.map V.int) p = some (.int (n : Int)) := by rw [t3]; exact atI_nat hNv
    have aR' : atI (ROWN.map V.int) p = some (.int (kk : Int)) := by rw [t3]; exact atI_nat hRv
    -- end
    refine ⟨_, rfl, _, _, rfl, rfl, _, rfl, aN, NUMS.map V.int, _, _, rfl, rfl, sN H2, aN', _, _, rfl, rfl, ?_⟩
    have hcut : cutV (l.map V.int) (some ((at_ : Int) + 1)) (some ((at_ : Int) + 1 + (n : Int))) = ((l.drop (at_ + 1)).take n).map V.int := by
      rw [show (at_ : Int) + 1 + (n : Int) = ((at_ + 1 + n : Nat) : Int) from rfl, show (at_ : Int) + 1 = ((at_ + 1 : Nat) : Int) from rfl, cut_mid (by omega) (by omega), Nat.add_sub_cancel_left]
    -- some
    refine ⟨_, rfl, _, rfl, _, _, rfl, rfl, _, rfl, _, rfl, _, rfl, a, _, rfl, hS2, fun ps nps => ?_⟩
    have s4 := same_new (o := .lst (((l.drop (at_ + 1)).take n).map V.int)) nps
    show ({nx := _, rt := _, bk := _, ct := _} : Ends).nx _ (upd H2 ps (.lst (cutV (l.map V.int) (some ((at_ : Int) + 1)) (some ((at_ : Int) + 1 + (n : Int))))))
    rw [hcut]
    -- rows
    refine ⟨(by show 0 ≤ sizeLine; decide), fun pr npr => ?_⟩
    have s5 := same_new (o := .lst []) npr
    have s35 := s3.trans (s4.trans s5)
    have hN : ((kk : Int)).toNat = kk := Int.toNat_natCast kk
    obtain ⟨Hx, hHx⟩ : ∃ Hx, Hx = upd H2 ps (.lst (((l.drop (at_ + 1)).take n).map V.int)) := ⟨_, rfl⟩
    rw [← hHx] at s4 npr s5 ⊢
    have s3x : Same H Hx := s3.trans s4
    have hps : LI Hx ps ((l.drop (at_ + 1)).take n) := by rw [hHx]; exact upd_same
    have g0 : Grow Hx pr (BO LI fun j => xs.take j) 0 (upd Hx pr (.lst [])) := Grow.start npr (BO.zero rfl)
    refine ⟨_, rfl, aR, ROWN.map V.int, _, _, rfl, rfl, sR _, aR', _, rfl, by omega, by omega, for_it (walk_rangeN hN) (fun j σ H4 => ∃ (en : Nat) (x8 x9 : Option V), σ = [some (.ref a), some (.ref A.o), some (.ref pf), some (.int (at_ : Nat)), some (.int p), some (.int (en : Nat)), some (.ref ps), some (.ref pr), x8, x9, x10] ∧ (at_ < en ∧ en ≤ l.length) ∧ PyFlat.rows (kk - j) (l.drop en) = some (xs.drop j, t) ∧ Grow Hx pr (BO LI fun j => xs.take j) j H4)
      ⟨at_ + 1 + n, x8, x9, rfl, ⟨by omega, by omega⟩, hrows, g0⟩ (fun _ _ _ _ _ => trivial) ?_ ?_⟩
    · rintro j v σ H4 H5 hj ⟨en, y8, y9, rfl, ⟨hen0, hen⟩, hrj, acc, hacc, s6, bo, hle⟩ ⟨rfl, rfl⟩
      obtain ⟨kj, hkj⟩ : ∃ kj, kk - j = kj + 1 := ⟨kk - j - 1, by omega⟩
      rw [hkj] at hrj
      obtain ⟨m, r, xs', q1, q2, q3, q4⟩ := rows_inv hrj
      have hel : en < l.length := by
        have := congrArg List.length q1
        rw [List.length_drop, List.length_cons] at this; omega
      have hmv : l[en]? = some (m : Int) := by
        have := congrArg (fun z : List Int => z[0]?) q1
        rw [List.getElem?_drop] at this
        exact this
      have hrd : r = l.drop (en + 1) := by
        have := (List.drop_eq_getElem_cons hel).symm.trans q1
        injection this with _ h2
        exact h2.symm
      have hml : en + 1 + m ≤ l.length := by
        rw [hrd, List.length_drop] at q2; omega
      have hS5 := (s3x.trans s6).seq hS
      have hmv' : (l.map V.int)[en]? = some (.int (m : Int)) := by rw [List.getElem?_map, hmv]; rfl
      have hcut2 : cutV (l.map V.int) (some ((en : Int) + 1)) (some ((en : Int) + 1 + (m : Int))) = (r.take m).map V.int := by
        rw [show (en : Int) + 1 + (m : Int) = ((en + 1 + m : Nat) : Int) from rfl, show (en : Int) + 1 = ((en + 1 : Nat) : Int) from rfl, cut_mid (by omega) hml, Nat.add_sub_cancel_left, hrd]
      refine ⟨_, rfl, _, _, rfl, rfl, _, rfl, _, rfl, _, rfl, a, _, _, _, rfl, rfl, hS5, atI_nat hmv', _, _, rfl, rfl, ?_⟩
      refine ⟨_, rfl, .inl ⟨rfl, _, SqL.of hacc⟩, _, rfl, _, rfl, _, rfl, _, rfl, _, rfl, a, _, rfl, hS5, fun px npx => ?_⟩
      have s7 := same_new (o := .lst (cutV (l.map V.int) (some ((en : Int) + 1)) (some ((en : Int) + 1 + (m : Int))))) npx
      have e8 : kk - (j + 1) = kj := by omega
      have e9 : xs.drop (j + 1) = xs' := by rw [← List.drop_drop, q4]; rfl
      have hxj : xs[j]? = some (r.take m) := by
        have := congrArg (fun z : List (List Int) => z[0]?) q4
        rw [List.getElem?_drop] at this
        exact this
      rw [hrd, List.drop_drop] at q3
      refine ⟨pr, _, _, rfl, rfl, s7 _ _ hacc, few (by omega), en + 1 + m, some (.int (j : Nat)), some (.int ((en : Int) + 1)), rfl, ⟨by omega, hml⟩, by rw [e8, e9]; exact q3, ?_⟩
      refine ⟨acc ++ [.ref px], upd_same, same_at (s6.trans s7) npr, ?_, by rw [List.length_append]; exact Nat.succ_le_succ hle⟩
      rw [rem_upd]
      refine bo.put mLI (rem_same s7) (x := r.take m) ?_ (Em.take_next hxj)
      show rem pr _ px = _
      rw [rem_ne (Ne.symm (ne_of_none hacc npx))]
      show upd _ px _ px = _
      rw [upd_same]
      exact congrArg (fun z => some (HO.lst z)) hcut2
    · rintro σ H4 ⟨en, y8, y9, rfl, ⟨hen0, hen⟩, hrj, g⟩
      rw [Nat.sub_self] at hrj
      simp only [PyFlat.rows] at hrj
      injection hrj with hrj
      injection hrj with _ ht
      have hRL := BO.done mLI g
      have hRL' : RL H4 pr xs := by
        have : xs.take kk = xs := by rw [← lx, List.take_length]
        rw [this] at hRL; exact hRL
      have s6 := g.same
      have s46 : Same H2 H4 := s4.trans s6
      have st4 := st.same s46
      have hnl : ((l.drop (at_ + 1)).take n).length = n := by rw [List.length_take, List.length_drop]; omega
      have hsh' : PyVbceaj.shape p = some (((l.drop (at_ + 1)).take n).length, xs.length) := by rw [hnl, lx]; exact hsh
      obtain ⟨c, hdc⟩ := dec_some hsh'
      refine ⟨_, rfl, _, rfl, _, rfl, _, rfl, A, S, p, ps, pr, _, xs, c, rfl, st4, hps.same s6, hRL', fun r hr => hok' _ List.mem_cons_self r hr, shape_in hsh, hsh', hdc, fun A' H5 pq st5 hA' keep hM' npq hans => ?_⟩
      have ho' : A'.o = A.o := congrArg Prod.fst hA'
      have hx' : A'.x = [pf] := (congrArg Prod.snd hA').trans hAx
      rw [rest_cons] at hr0
      obtain ⟨S', hS'⟩ : ∃ S', S' = (Vbceaj.step S ((p :: (l.drop (at_ + 1)).take n) :: xs)).1 := ⟨_, rfl⟩
      obtain ⟨ans, hans0⟩ : ∃ ans, ans = (Vbceaj.step S ((p :: (l.drop (at_ + 1)).take n) :: xs)).2 := ⟨_, rfl⟩
      rw [← hS', ← hans0] at hr0
      rw [← hS'] at st5
      rw [← hans0] at hans
      have hf4 : LI H4 pf fnd := hf.same s46
      have hf5 : LI H5 pf fnd := keep _ _ hf4 pfA
      have pfq : pf ≠ pq := ne_of_none hf4 npq
      have hL := congrArg List.length hr0
      rw [List.length_append, List.length_append, List.length_cons] at hL
      have big : (10000000 : Nat) < sizeLine := by decide
      refine ⟨_, rfl, .inl ⟨rfl, _, SqL.of hf5⟩, _, rfl, pq, _, rfl, .inl (SqL.of hans), pf, _, _, rfl, rfl, hf5, ?_, ?_⟩
      · rw [List.length_map]; exact Nat.lt_of_le_of_lt fl big
      have hans6 : LI (upd H5 pf (.lst (fnd.map V.int ++ [.int ((ans.map V.int).length : Nat)]))) pq ans := by
        show upd _ _ _ _ = _
        rw [upd_ne pfq.symm]; exact hans
      refine ⟨_, rfl, .inl ⟨rfl, _, SqL.of upd_same⟩, _, rfl, pf, pq, _, _, rfl, rfl, upd_same, hans6, ?_, ?_⟩
      · rw [List.length_append, List.length_map, List.length_map]
        exact Nat.le_of_lt (Nat.lt_of_le_of_lt (by show fnd.length + 1 + ans.length ≤ 10000000; omega) big)
      rw [upd_twice]
      have acc6 : (fnd.map V.int ++ [V.int ((ans.map V.int).length : Nat)]) ++ ans.map V.int = (fnd ++ (ans.length : Int) :: ans).map V.int := by
        rw [List.length_map, List.map_append, List.map_cons, List.append_assoc]; rfl
      rw [acc6]
      have npfH : ∀ {b : Addr} {u : HO}, H b = some u → b ≠ pf := fun e => ne_of_none (s1 _ _ e) npf
      have s6' : Same H H4 := s3.trans s46
      rw [← ho']
      refine ⟨_, rfl, l.length - en, by omega, en, f', raw2, S', A', fnd ++ (ans.length : Int) :: ans, _, _, _, _, _, _, _, rfl, rfl, hen, ?_, fun c hc => hok' c (List.mem_cons_of_mem _ hc), fun b u e => ?_, st5.put (by rw [hx']; exact List.mem_cons_self), fun m hm => ?_, hx', upd_same, ?_⟩
      · rw [ht]; exact hcalls
      · rw [upd_ne (npfH e)]
        exact keep _ _ (s6' _ _ e) fun z => by rw [frM b z] at e; cases e
      · rcases hM' m hm with q | q
        · exact frM m q
        · exact s6'.free q
      · rw [hr0, List.append_assoc]
end
end EX
namespace EX
open PySem PySem.Spec PyProof.Rows L2
/-! ### the statement's side -/
theorem whole_same : ∀ c, PyVbceaj.whole c = c := by
  intro c
  unfold PyVbceaj.whole
  split <;> rfl
theorem row_le {l : List Int} (h : VbceajNeutral.row l = true) : l.length ≤ 2000 := by
  unfold VbceajNeutral.row at h
  exact of_decide_eq_true (Bool.and_eq_true_iff.mp h).1
theorem asked_rows {c : List (List Int)} (h : VbceajNeutral.asked1 c = true) : ∀ r ∈ c.tail, r.length ≤ 2000 := by
  have one : ∀ {x : List Int}, x.length ≤ 2000 → ∀ r ∈ [x], r.length ≤ 2000 := fun hx r hr => by rw [List.mem_singleton.mp hr]; exact hx
  have nil : ∀ r ∈ ([] : List (List Int)), r.length ≤ 2000 := fun r hr => nomatch hr
  unfold VbceajNeutral.asked1 at h
  split at h
  all_goals first
    | exact nil
    | exact one (row_le h)
    | exact one (row_le (Bool.and_eq_true_iff.mp h).2)
    | (obtain ⟨h1, h2⟩ := Bool.and_eq_true_iff.mp h
       intro r hr
       rcases List.mem_cons.mp hr with e | hr
       · rw [e]; exact row_le h1
       · exact one (row_le h2) r hr)
    | (obtain ⟨h1, h2⟩ := Bool.and_eq_true_iff.mp h
       obtain ⟨h3, h4⟩ := Bool.and_eq_true_iff.mp h2
       exact fun r hr => row_le (List.all_eq_true.mp h4 r (List.mem_of_mem_tail hr)))
theorem asked_of {l : List Int} (h : PyVbceaj.answers_asked l = true) : ∃ raw, PyFlat.calls PyVbceaj.shape l.length l = some raw ∧ rowsOk raw ∧ PyVbceaj.answers l = rest Vbceaj.start raw ∧ (rest Vbceaj.start raw).length ≤ 10000000 := by
  unfold PyVbceaj.answers_asked at h
  cases e : PyFlat.calls PyVbceaj.shape l.length l with
  | none => rw [e] at h; cases h
  | some raw =>
    rw [e] at h
    dsimp only at h
    have ew : raw.map PyVbceaj.whole = raw := (List.map_congr_left (g := id) fun c _ => whole_same c).trans (List.map_id raw)
    have ea : PyVbceaj.answers l = rest Vbceaj.start raw := by
      unfold PyVbceaj.answers PyVbceaj.calls
      rw [e]
      dsimp only
      rw [ew]
      rfl
    rw [ew] at h
    obtain ⟨h, h5⟩ := Bool.and_eq_true_iff.mp h
    obtain ⟨h, h4⟩ := Bool.and_eq_true_iff.mp h
    refine ⟨raw, rfl, fun c hc => ?_, ea, ?_⟩
    · unfold VbceajNeutral.asked at h4
      obtain ⟨_, h6⟩ := Bool.and_eq_true_iff.mp h4
      obtain ⟨_, h7⟩ := Bool.and_eq_true_iff.mp h6
      exact asked_rows (List.all_eq_true.mp h7 c hc)
    · rw [← ea]
      unfold PyFlat.short at h5
      exact of_decide_eq_true h5
end EX
namespace EX
open PySem PySem.Spec PyProof.Rows L2
/-! ### the end -/
theorem oEnd : PySem.W.WalkOS oQ oNm (PySem.W.XL oQ []) oHook.says PySem.Challenge.rw_errataoffice_s01_answers (HandSHeadRun.topDef PySem.Challenge.pw_errataoffice_s01_answers 71) [] (fun f vs => PySem.call f vs) := by
  intro w s0 s1 mg mb G Y
  obtain ⟨K, KX, hs⟩ := Y
  refine walk_specK (r := PySem.Challenge.rw_errataoffice_s01_answers) (q := oQ) (loose := oNm) (XP := PySem.W.XL oQ []) (d := HandSHeadRun.topDef PySem.Challenge.pw_errataoffice_s01_answers 71) (k := 13) (CX := CX0) (ps := ["calls"]) (K := fun _ => K) (YP := fun _ hp => K.In hp) (sp := spAll) (by decide +kernel) rfl rfl ⟨rfl, by decide, by decide⟩ (fun _ _ y => y) ?_ ?_ (fun _ _ _ _ z => z) w s0 s1 mg mb G KX
  · intro w2 mg2 fa hp Y2 X2 G2 hmg
    have T := txt_of X2 G2 hs
    obtain ⟨f0, fd0, g0, F0⟩ := T.d_answers
    have e : mg2 "answers" = some (.ref fa) := hmg
    have ef : f0 = fa := by
      rw [g0] at e
      injection e with e
      injection e
    subst ef
    have hrun : ∀ base : Heap, FnOk PySem.Challenge.rw_errataoffice_s01_answers.prog w2 K mg2 base CX0 13 f0 fd0 ["calls"] (spAll K) := fun base => run_answers T F0
    obtain ⟨oc, od, kV, doc, pm, an, cdv, ct, osl, rfl, _, _⟩ := F0.ex
    exact ⟨_, fun s us hl => (match us, hl with | [_], _ => .of_eq rfl), fun base _ _ => hrun base⟩
  · intro K2 H xs a hO hwi hask hx
    cases hx with
    | cons h1 h2 =>
      cases h2
      cases h1 with
      | lst hS ha =>
        have e := L2.ints_dw a.1 _ ha
        subst e
        obtain ⟨raw, h1, h2, h3, h4⟩ := asked_of hask
        refine ⟨_, a.1, raw, rfl, hS, h1, h2, h4, ?_, fun H' p hp => ?_⟩
        · have w1 := (Bool.and_eq_true_iff.mp (show (PySem.W.Codec.inList 0 15000 (PySem.W.Codec.within (PySem.W.Codec.int (Int.negSucc 9223372036854775807) (Int.ofNat 9223372036854775807))) a.1 && true) = true from hwi)).1
          unfold PySem.W.Codec.inList PySem.W.Codec.inLen PySem.W.Codec.inNat at w1
          simp at w1
          exact w1.1
        · exact .lst (SqL.of hp) (by rw [← h3]; exact L2.dw_ints _)
end EX
open PySem PySem.W PyProof.Rows
set_option maxHeartbeats 8000000 in
theorem PySem.Challenge.cw_errataoffice_s01_answers_holds : PySem.Challenge.rw_errataoffice_s01_answers.Holds := by
  w_on
  refine HandSHeadRun.head_spec (r := PySem.Challenge.rw_errataoffice_s01_answers) (q := EX.oQ) (H := EX.oHook) (ob := EX.oOb) (M := 30000) (loose := EX.oNm) (d := HandSHeadRun.topDef PySem.Challenge.pw_errataoffice_s01_answers 71) (kwd := []) EX.oOb_eq
    (by kernel_rfl) (fun s => by kernel_rfl) EX.oRun (by kernel_rfl) (by kernel_rfl) (by kernel_rfl) os_shapes (by first | assumption | decide +kernel) (by decide +kernel) ⟨rfl, rfl, rfl, rfl, rfl, by decide +kernel⟩ ?hw ?hc
  case hw => exact ⟨[.list [.int 0]], by decide +kernel, by decide +kernel⟩
  case hc => exact EX.oEnd
