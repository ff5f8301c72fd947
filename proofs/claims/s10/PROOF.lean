import PyProof.Rows.All
import Wide.All
import OpenK.AllK
import Wide.FinOn
import PyProof.EqAt
import PyProof.EqKinds
import PyProof.TupleCall
import Open.SpecLaws
import KE.OsGo
import KE.GoesMore
import KE.GoesZip
import KE.DataMinMax
import KE.SortData
import HandS.ForSpec
import HandS.Comp
import HandS.Dict
import HandS.Iter
import HandS.Zip
import HandS.Style
import HandS.RevRange
import HandS.ExcInit
import HandS.ExcField
import HandS.HotCalls
import PySem.Challenge.RW_beadframes_s10_fewest
set_option Elab.async false
set_option linter.all false
set_option maxRecDepth 100000
set_option maxHeartbeats 4000000
namespace Bm
/-! ### rods as the program has them -/
structure Rd where
  q : Nat
  b0 : Nat
  b1 : Nat
  b2 : Nat
  w0 : Nat
  w1 : Nat
  w2 : Nat
abbrev Tp := Nat × Nat × Nat
def Rd.cnt (r : Rd) (t : Tp) : Nat := t.1 * r.w0 + t.2.1 * r.w1 + t.2.2 * r.w2
def Rd.all (r : Rd) : Tp := (r.b0, r.b1, r.b2)
def Rd.most (r : Rd) : Nat := r.cnt r.all
def many (t : Tp) : Nat := t.1 + t.2.1 + t.2.2
def Rd.tps (r : Rd) : List Tp := (List.range (r.b0 + 1)).flatMap fun x => (List.range (r.b1 + 1)).flatMap fun y => (List.range (r.b2 + 1)).map fun z => (x, y, z)
def Rd.fair (r : Rd) : Prop := 2 ≤ r.q ∧ r.q ≤ 20 ∧ r.b0 ≠ 0 ∧ (r.b2 = 0 ∨ r.b1 ≠ 0) ∧ (r.b0 ≤ 15 ∧ r.b1 ≤ 15 ∧ r.b2 ≤ 15) ∧ (r.w0 ≤ 63 ∧ r.w1 ≤ 63 ∧ r.w2 ≤ 63) ∧ (r.b0 = 0 ↔ r.w0 = 0) ∧ (r.b1 = 0 ↔ r.w1 = 0) ∧ (r.b2 = 0 ↔ r.w2 = 0)
instance (r : Rd) : Decidable r.fair := by unfold Rd.fair; infer_instance
def Rd.whole (r : Rd) : Prop := ∀ d, d < r.q → ∃ t ∈ r.tps, r.cnt t = d
instance (r : Rd) : Decidable r.whole := by unfold Rd.whole; infer_instance
def Rd.fault (r : Rd) : Nat := if ¬ r.fair then 2 else if 255 < r.most then 3 else if ¬ r.whole then 4 else 0
def rdOf (l : List Nat) : Rd := ⟨l.getD 0 0, l.getD 1 0, l.getD 3 0, l.getD 5 0, l.getD 2 0, l.getD 4 0, l.getD 6 0⟩
def chunk (l : List Nat) (i : Nat) : List Nat := (l.drop (7 * i)).take 7
def rdAt (l : List Nat) (i : Nat) : Rd := rdOf (chunk l i)
def badShape (l : List Nat) : Prop := l.length % 7 ≠ 0 ∨ l.length / 7 < 1 ∨ 64 < l.length / 7
instance (l : List Nat) : Decidable (badShape l) := by unfold badShape; infer_instance
def readMake (l : List Nat) : Except (Nat × Nat) (List Rd) :=
  if badShape l then .error (1, 0) else match (List.range (l.length / 7)).find? fun i => decide ((rdAt l i).fault ≠ 0) with
    | some i => .error ((rdAt l i).fault, i)
    | none => .ok ((List.range (l.length / 7)).map (rdAt l))

/-! ### the specification's rods -/
def decksOf (r : Rd) : List Na.Deck := (if r.b0 ≠ 0 then [⟨r.b0, r.w0⟩] else []) ++ ((if r.b1 ≠ 0 then [⟨r.b1, r.w1⟩] else []) ++ (if r.b2 ≠ 0 then [⟨r.b2, r.w2⟩] else []))
def toRod (r : Rd) : Na.Rod := ⟨r.q, decksOf r⟩
theorem rodOf_eq (l : List Nat) : Na.rodOf l = toRod (rdOf l) := by
  unfold Na.rodOf toRod decksOf rdOf
  have e : List.range 3 = [0, 1, 2] := rfl
  rw [e]
  simp only [List.filter_cons, List.filter_nil, Nat.mul_zero, Nat.mul_one, Nat.add_zero, show 1 + 2 * 2 = 5 from rfl, show 1 + 2 = 3 from rfl]
  congr 1
  have z : ∀ n : Nat, (n != 0) = decide (n ≠ 0) := fun n => by by_cases h : n = 0 <;> simp [h]
  simp only [z, decide_eq_true_eq]
  by_cases h0 : l.getD 1 0 ≠ 0 <;> by_cases h1 : l.getD 3 0 ≠ 0 <;> by_cases h2 : l.getD 5 0 ≠ 0 <;> simp only [h0, h1, h2, if_true, if_false, List.map_cons, List.map_nil, List.append_nil, List.nil_append, List.cons_append, not_false_eq_true, ne_eq] <;> rfl
def pad (p : List Nat) : Tp := (p.getD 0 0, p.getD 1 0, p.getD 2 0)
theorem map_flatMap' {α β γ : Type} (f : β → γ) (g : α → List β) (l : List α) : (l.flatMap g).map f = l.flatMap fun a => (g a).map f := by
  induction l with
  | nil => rfl
  | cons a l ih => simp [List.flatMap_cons, ih]
theorem fair_cases {r : Rd} (h : r.fair) : (decksOf r = [⟨r.b0, r.w0⟩] ∧ r.b1 = 0 ∧ r.b2 = 0 ∧ r.w1 = 0 ∧ r.w2 = 0) ∨ (decksOf r = [⟨r.b0, r.w0⟩, ⟨r.b1, r.w1⟩] ∧ r.b1 ≠ 0 ∧ r.b2 = 0 ∧ r.w2 = 0) ∨ (decksOf r = [⟨r.b0, r.w0⟩, ⟨r.b1, r.w1⟩, ⟨r.b2, r.w2⟩] ∧ r.b1 ≠ 0 ∧ r.b2 ≠ 0) := by
  obtain ⟨h1, h2, h3, h4, h5, h6, h7, h8, h9⟩ := h
  unfold decksOf
  by_cases e1 : r.b1 = 0 <;> by_cases e2 : r.b2 = 0
  · left; simp_all
  · simp_all
  · right; left; simp_all
  · right; right; simp_all
theorem pushes_nil : Na.pushes [] = [[]] := rfl
theorem pushes_cons (d : Na.Deck) (r : List Na.Deck) : Na.pushes (d :: r) = (List.range (d.beads + 1)).flatMap fun k => (Na.pushes r).map fun p => k :: p := rfl
theorem flatMap_single {α β : Type} (f : α → β) (l : List α) : (l.flatMap fun a => [f a]) = l.map f := by
  induction l with
  | nil => rfl
  | cons a l ih => simp [List.flatMap_cons, ih]
theorem tps_eq {r : Rd} (h : r.fair) : r.tps = (Na.pushes (decksOf r)).map pad := by
  have r1 : List.range (0 + 1) = [0] := rfl
  rcases fair_cases h with ⟨e, e1, e2, _⟩ | ⟨e, e1, e2, _⟩ | ⟨e, e1, e2⟩
  · rw [e, Rd.tps, e1, e2, r1]
    simp only [pushes_cons, pushes_nil, List.flatMap_cons, List.flatMap_nil, List.map_cons, List.map_nil, List.append_nil, map_flatMap', pad]
    rfl
  · rw [e, Rd.tps, e2, r1]
    simp only [pushes_cons, pushes_nil, List.flatMap_cons, List.flatMap_nil, List.map_cons, List.map_nil, List.append_nil, map_flatMap', List.map_map, Function.comp_def, pad]
    rfl
  · rw [e, Rd.tps]
    simp only [pushes_cons, pushes_nil, List.map_cons, List.map_nil, map_flatMap', List.map_map, Function.comp_def, pad, flatMap_single]
    rfl
/-- pushes have the decks' length -/
theorem pushes_len : ∀ (l : List Na.Deck) (p : List Nat), p ∈ Na.pushes l → p.length = l.length
  | [], p, h => by rw [pushes_nil] at h; simp at h; simp [h]
  | d :: l, p, h => by
    rw [pushes_cons, List.mem_flatMap] at h
    obtain ⟨k, _, h⟩ := h
    rw [List.mem_map] at h
    obtain ⟨p', h', rfl⟩ := h
    simp [pushes_len l p' h']
theorem decks_len {r : Rd} (h : r.fair) : 1 ≤ (decksOf r).length ∧ (decksOf r).length ≤ 3 := by
  rcases fair_cases h with ⟨e, _⟩ | ⟨e, _⟩ | ⟨e, _⟩ <;> rw [e] <;> simp
theorem worth_pad {r : Rd} (h : r.fair) {p : List Nat} (hp : p.length = (decksOf r).length) : Na.worthOf (decksOf r) p = r.cnt (pad p) := by
  unfold Na.worthOf Rd.cnt pad
  rcases fair_cases h with ⟨e, e1, e2, e3, e4⟩ | ⟨e, e1, e2, e4⟩ | ⟨e, e1, e2⟩
  · rw [e] at hp ⊢
    match p, hp with
    | [x], _ => simp [Na.total]
  · rw [e] at hp ⊢
    match p, hp with
    | [x, y], _ => simp [Na.total]
  · rw [e] at hp ⊢
    match p, hp with
    | [x, y, z], _ => simp [Na.total]; omega
theorem total_pad {p : List Nat} (hp : p.length ≤ 3) : Na.total p = many (pad p) := by
  unfold many pad
  match p, hp with
  | [], _ => rfl
  | [x], _ => simp [Na.total]
  | [x, y], _ => simp [Na.total]
  | [x, y, z], _ => simp [Na.total]; omega
theorem most_eq {r : Rd} (h : r.fair) : (toRod r).most = r.most := by
  unfold Na.Rod.most toRod Rd.most Rd.cnt Rd.all
  rcases fair_cases h with ⟨e, e1, e2, e3, e4⟩ | ⟨e, e1, e2, e4⟩ | ⟨e, e1, e2⟩
  · simp [e, Na.total, e1, e2]
  · simp [e, Na.total, e2]
  · simp [e, Na.total]; omega
theorem whole_eq {r : Rd} (h : r.fair) : (toRod r).whole = decide r.whole := by
  unfold Na.Rod.whole toRod
  rw [Bool.eq_iff_iff, List.all_eq_true, decide_eq_true_iff]
  unfold Rd.whole
  constructor
  · intro k d hd
    have := k d (List.mem_range.mpr hd)
    rw [List.any_eq_true] at this
    obtain ⟨p, hp, e⟩ := this
    refine ⟨pad p, ?_, ?_⟩
    · rw [tps_eq h]; exact List.mem_map_of_mem hp
    · rw [← worth_pad h (pushes_len _ _ hp)]
      exact beq_iff_eq.mp e
  · intro k d hd
    obtain ⟨t, ht, e⟩ := k d (List.mem_range.mp hd)
    rw [tps_eq h, List.mem_map] at ht
    obtain ⟨p, hp, rfl⟩ := ht
    rw [List.any_eq_true]
    refine ⟨p, hp, ?_⟩
    show (Na.worthOf (decksOf r) p == d) = true
    rw [worth_pad h (pushes_len _ _ hp), e]
    exact beq_self_eq_true d
theorem rodGood_eq (l : List Nat) : Na.rodGood l = decide (rdOf l).fair := by
  rw [Bool.eq_iff_iff, decide_eq_true_iff]
  unfold Na.rodGood
  rw [rodOf_eq]
  have e : List.range 3 = [0, 1, 2] := rfl
  unfold Na.Rod.formed_ toRod decksOf Rd.fair rdOf
  rw [e]
  simp only [List.all_cons, List.all_nil, Bool.and_true]
  generalize l.getD 0 0 = q
  simp only [Nat.mul_zero, Nat.mul_one, Nat.add_zero, show 1 + 2 * 2 = 5 from rfl, show 2 + 2 * 2 = 6 from rfl, show 1 + 2 = 3 from rfl, show 2 + 2 = 4 from rfl]
  generalize l.getD 1 0 = b0
  generalize l.getD 2 0 = w0
  generalize l.getD 3 0 = b1
  generalize l.getD 4 0 = w1
  generalize l.getD 5 0 = b2
  generalize l.getD 6 0 = w2
  have z : ∀ n : Nat, (n == 0) = decide (n = 0) := fun n => by by_cases h : n = 0 <;> simp [h]
  simp only [z]
  by_cases h0 : b0 = 0 <;> by_cases h1 : b1 = 0 <;> by_cases h2 : b2 = 0 <;> by_cases g0 : w0 = 0 <;> by_cases g1 : w1 = 0 <;> by_cases g2 : w2 = 0 <;> simp [h0, h1, h2, g0, g1, g2, Na.Deck.good] <;> omega
theorem rodWrong_eq (l : List Nat) : Na.rodWrong l = (rdOf l).fault := by
  unfold Na.rodWrong Rd.fault
  rw [rodGood_eq, rodOf_eq]
  by_cases h : (rdOf l).fair
  · rw [most_eq h, whole_eq h]
    simp [h]
  · simp [h]
theorem by_eq : ∀ (n : Nat) (l : List Nat), l.length % 7 = 0 → l.length / 7 < n → Na.by_ 7 n l = (List.range (l.length / 7)).map (chunk l)
  | 0, l, _, h => by omega
  | n + 1, l, h0, h => by
    unfold Na.by_
    by_cases e : l = []
    · subst e; rfl
    · rw [if_neg e]
      have hl : 7 ≤ l.length := by
        have : l.length ≠ 0 := fun z => e (List.length_eq_zero_iff.mp z)
        omega
      have e2 : (l.drop 7).length = l.length - 7 := List.length_drop
      have e3 : l.length / 7 = (l.length - 7) / 7 + 1 := by omega
      rw [by_eq n (l.drop 7) (by omega) (by omega), e2, e3, List.range_succ_eq_map, List.map_cons, List.map_map]
      congr 1
      refine List.map_congr_left fun i _ => ?_
      simp only [chunk, Function.comp_def, List.drop_drop]
      congr 2
      omega
theorem find_idx {α : Type} (f : Nat → α) (p : α → Bool) : ∀ n, (((List.range n).map f).findIdx? p) = (List.range n).find? fun i => p (f i)
  | 0 => rfl
  | n + 1 => by
    rw [List.range_succ, List.map_append, List.findIdx?_append, List.find?_append, find_idx f p n]
    cases h : (List.range n).find? fun i => p (f i) with
    | some i => simp
    | none => simp [List.findIdx?_cons]
theorem makeOf_eq (l : List Nat) : Na.makeOf l = match readMake l with | .error e => .error ⟨e.1, e.2⟩ | .ok rs => .ok (rs.map toRod) := by
  unfold Na.makeOf readMake
  by_cases h : badShape l
  · rw [if_pos h, if_pos]
    unfold badShape at h
    unfold Na.RODS
    rcases h with h | h | h
    · exact .inl h
    · by_cases h0 : l.length = 0
      · exact .inr (.inl h0)
      · left; omega
    · right; right; omega
  · rw [if_neg h, if_neg]
    · have h' : ¬ (l.length % 7 ≠ 0) ∧ ¬ (l.length / 7 < 1) ∧ ¬ (64 < l.length / 7) := by
        unfold badShape at h
        exact ⟨fun z => h (.inl z), fun z => h (.inr (.inl z)), fun z => h (.inr (.inr z))⟩
      have e : Na.groups 7 l = (List.range (l.length / 7)).map (chunk l) := by_eq _ _ (by omega) (by omega)
      rw [e, find_idx]
      have e2 : (fun i => Na.rodWrong (chunk l i) != 0) = fun i => decide ((rdAt l i).fault ≠ 0) := by
        funext i
        rw [rodWrong_eq]
        show ((rdAt l i).fault != 0) = _
        by_cases z : (rdAt l i).fault = 0 <;> simp [z]
      rw [e2]
      cases hf : (List.range (l.length / 7)).find? fun i => decide ((rdAt l i).fault ≠ 0) with
      | some i =>
        have hi : i < l.length / 7 := List.mem_range.mp (List.mem_of_find?_eq_some hf)
        simp only [List.getD_eq_getElem?_getD, List.getElem?_map, List.getElem?_range hi, Option.map_some, Option.getD_some, rodWrong_eq]
        rfl
      | none =>
        simp only [List.map_map]
        congr 1
        refine List.map_congr_left fun i _ => ?_
        simp only [Function.comp_def, rodOf_eq]
        rfl
    · unfold badShape at h
      unfold Na.RODS
      intro z
      apply h
      rcases z with z | z | z
      · exact .inl z
      · right; left; omega
      · by_cases h0 : l.length % 7 = 0
        · right; right; omega
        · exact .inl h0
def Rd.good (r : Rd) : Prop := r.fair ∧ r.most ≤ 255 ∧ r.whole
theorem good_of {r : Rd} (h : r.fault = 0) : r.good := by
  unfold Rd.fault at h
  by_cases h1 : r.fair
  · by_cases h2 : 255 < r.most
    · simp [h1, h2] at h
    · by_cases h3 : r.whole
      · exact ⟨h1, by omega, h3⟩
      · simp [h1, h2, h3] at h
  · simp [h1] at h
theorem read_good {l : List Nat} {rs : List Rd} (h : readMake l = .ok rs) : (∀ r ∈ rs, r.good) ∧ 1 ≤ rs.length ∧ rs.length ≤ 64 := by
  unfold readMake at h
  by_cases hb : badShape l
  · rw [if_pos hb] at h; cases h
  · rw [if_neg hb] at h
    cases hf : (List.range (l.length / 7)).find? fun i => decide ((rdAt l i).fault ≠ 0) with
    | some i => rw [hf] at h; cases h
    | none =>
      rw [hf] at h
      have e := Except.ok.inj h
      subst e
      refine ⟨fun r hr => ?_, ?_, ?_⟩
      · obtain ⟨i, hi, rfl⟩ := List.mem_map.mp hr
        have := List.find?_eq_none.mp hf i hi
        exact good_of (by simpa using this)
      · rw [List.length_map, List.length_range]; unfold badShape at hb; omega
      · rw [List.length_map, List.length_range]; unfold badShape at hb; omega
end Bm

namespace Bm
/-! ### form of a digit -/
def lexT (t u : Tp) : Prop := t.1 < u.1 ∨ (t.1 = u.1 ∧ (t.2.1 < u.2.1 ∨ (t.2.1 = u.2.1 ∧ t.2.2 < u.2.2)))
instance (t u : Tp) : Decidable (lexT t u) := by unfold lexT; infer_instance
def nicerT (t u : Tp) : Prop := many t < many u ∨ (many t = many u ∧ lexT u t)
instance (t u : Tp) : Decidable (nicerT t u) := by unfold nicerT; infer_instance
theorem nicer_pad {p q : List Nat} (h : p.length = q.length) (hp : 1 ≤ p.length) (h3 : p.length ≤ 3) : Na.nicer p q = decide (nicerT (pad p) (pad q)) := by
  have z : ∀ n m : Nat, (n == m) = decide (n = m) := fun n m => by by_cases h : n = m <;> simp [h]
  unfold Na.nicer nicerT
  rw [total_pad h3, total_pad (h ▸ h3), z, Bool.eq_iff_iff]
  match p, q, h, h3, hp with
  | [x], [a], _, _, _ => simp [Na.below, pad, lexT]
  | [x, y], [a, b], _, _, _ => simp [Na.below, pad, lexT]
  | [x, y, w], [a, b, c], _, _, _ => simp [Na.below, pad, lexT]
/-- the form of a digit, by what it is -/
structure IsForm (r : Rd) (d : Nat) (t : Tp) : Prop where
  mem : t ∈ r.tps
  cnt : r.cnt t = d
  least : ∀ u ∈ r.tps, r.cnt u = d → many t ≤ many u
  greatest : ∀ u ∈ r.tps, r.cnt u = d → many u = many t → ¬ lexT t u
theorem IsForm.uniq {r : Rd} {d : Nat} {t u : Tp} (h : IsForm r d t) (k : IsForm r d u) : t = u := by
  have e : many t = many u := Nat.le_antisymm (h.least u k.mem k.cnt) (k.least t h.mem h.cnt)
  have h1 := h.greatest u k.mem k.cnt e.symm
  have h2 := k.greatest t h.mem h.cnt e
  obtain ⟨a, b, c⟩ := t
  obtain ⟨a', b', c'⟩ := u
  unfold lexT at h1 h2
  dsimp only at h1 h2
  have : a = a' ∧ b = b' ∧ c = c' := by omega
  obtain ⟨rfl, rfl, rfl⟩ := this
  rfl
def stepN (a : Option (List Nat)) (p : List Nat) : Option (List Nat) := match a with
  | none => some p
  | some q => if Na.nicer p q = true then some p else some q
theorem nicest_eq (l : List (List Nat)) : Na.nicest l = l.foldl stepN none := rfl
theorem nicest_some (n : Nat) (h1 : 1 ≤ n) (h3 : n ≤ 3) : ∀ (l : List (List Nat)) (q : List Nat), q.length = n → (∀ p ∈ l, p.length = n) →
    ∃ p, l.foldl stepN (some q) = some p ∧ p ∈ q :: l ∧ ∀ u ∈ q :: l, ¬ nicerT (pad u) (pad p)
  | [], q, hq, _ => ⟨q, rfl, by simp, fun u hu => by
      have : u = q := by simpa using hu
      subst this
      unfold nicerT lexT
      omega⟩
  | p :: l, q, hq, hl => by
    have hp : p.length = n := hl p (by simp)
    have hl' : ∀ p ∈ l, p.length = n := fun x hx => hl x (by simp [hx])
    rw [List.foldl_cons]
    have key : ∀ (x y : List Nat), nicerT (pad x) (pad y) ∨ ¬ nicerT (pad x) (pad y) := fun _ _ => Classical.em _
    by_cases c : nicerT (pad p) (pad q)
    · have e : stepN (some q) p = some p := by
        show (if Na.nicer p q = true then some p else some q) = some p
        rw [if_pos]
        rw [nicer_pad (hp.trans hq.symm) (by omega) (by omega)]
        exact decide_eq_true c
      rw [e]
      obtain ⟨b, e1, e2, e3⟩ := nicest_some n h1 h3 l p hp hl'
      refine ⟨b, e1, by simp only [List.mem_cons] at e2 ⊢; rcases e2 with e2 | e2 <;> simp [e2], fun u hu => ?_⟩
      rcases List.mem_cons.mp hu with rfl | hu
      · have h4 := e3 p (by simp)
        unfold nicerT lexT at *
        omega
      · exact e3 u hu
    · have e : stepN (some q) p = some q := by
        show (if Na.nicer p q = true then some p else some q) = some q
        rw [if_neg]
        rw [nicer_pad (hp.trans hq.symm) (by omega) (by omega)]
        simpa using c
      rw [e]
      obtain ⟨b, e1, e2, e3⟩ := nicest_some n h1 h3 l q hq hl'
      refine ⟨b, e1, by simp only [List.mem_cons] at e2 ⊢; rcases e2 with e2 | e2 <;> simp [e2], fun u hu => ?_⟩
      rcases List.mem_cons.mp hu with rfl | hu
      · exact e3 u (by simp)
      · rcases List.mem_cons.mp hu with rfl | hu
        · have h4 := e3 q (by simp)
          unfold nicerT lexT at *
          omega
        · exact e3 u (by simp [hu])
theorem isForm_spec {r : Rd} (h : r.fair) {d : Nat} (he : ∃ t ∈ r.tps, r.cnt t = d) : IsForm r d (pad (Na.formOf (toRod r) d)) ∧ Na.formOf (toRod r) d ∈ Na.pushes (decksOf r) := by
  obtain ⟨l1, l3⟩ := decks_len h
  have hmem : ∀ p, p ∈ ((Na.pushes (decksOf r)).filter fun p => Na.worthOf (decksOf r) p == d) ↔ p ∈ Na.pushes (decksOf r) ∧ r.cnt (pad p) = d := fun p => by
    rw [List.mem_filter]
    constructor
    · rintro ⟨a, b⟩
      exact ⟨a, by rw [← worth_pad h (pushes_len _ _ a)]; exact beq_iff_eq.mp b⟩
    · rintro ⟨a, b⟩
      exact ⟨a, by rw [worth_pad h (pushes_len _ _ a), b]; exact beq_self_eq_true d⟩
  have hform : Na.formOf (toRod r) d = (((Na.pushes (decksOf r)).filter fun p => Na.worthOf (decksOf r) p == d).foldl stepN none).getD [] := rfl
  cases hl : (Na.pushes (decksOf r)).filter fun p => Na.worthOf (decksOf r) p == d with
  | nil =>
    obtain ⟨t, ht, e⟩ := he
    rw [tps_eq h, List.mem_map] at ht
    obtain ⟨p, hp, rfl⟩ := ht
    have := (hmem p).mpr ⟨hp, e⟩
    rw [hl] at this
    cases this
  | cons q l =>
    have hm : ∀ p ∈ q :: l, p ∈ Na.pushes (decksOf r) ∧ r.cnt (pad p) = d := fun p hp => (hmem p).mp (hl ▸ hp)
    obtain ⟨b, e1, e2, e3⟩ := nicest_some (decksOf r).length l1 l3 l q (pushes_len _ _ (hm q (by simp)).1) fun p hp => pushes_len _ _ (hm p (by simp [hp])).1
    have e : Na.formOf (toRod r) d = b := by
      rw [hform, hl, List.foldl_cons]
      show (l.foldl stepN (some q)).getD [] = b
      rw [e1]; rfl
    rw [e]
    have hb := hm b e2
    have best : ∀ u ∈ r.tps, r.cnt u = d → ¬ nicerT u (pad b) := fun u hu hc => by
      rw [tps_eq h, List.mem_map] at hu
      obtain ⟨p, hp, rfl⟩ := hu
      exact e3 p (hl ▸ (hmem p).mpr ⟨hp, hc⟩)
    refine ⟨⟨by rw [tps_eq h]; exact List.mem_map_of_mem hb.1, hb.2, fun u hu hc => ?_, fun u hu hc em hlt => ?_⟩, hb.1⟩
    · have := best u hu hc
      unfold nicerT at this
      omega
    · exact best u hu hc (.inr ⟨em, hlt⟩)
def formM (r : Rd) (d : Nat) : Tp := pad (Na.formOf (toRod r) d)
theorem form_is {r : Rd} (h : r.fair) {d : Nat} {t : Tp} (k : IsForm r d t) : t = formM r d := k.uniq (isForm_spec h ⟨t, k.mem, k.cnt⟩).1

/-! ### span, digits, values -/
def spanM (rs : List Rd) : Nat := rs.foldl (fun a r => a * r.q) 1
theorem spanM_acc : ∀ (rs : List Rd) (a : Nat), rs.foldl (fun a r => a * r.q) a = a * Na.span (rs.map toRod)
  | [], a => by simp [Na.span]
  | r :: rs, a => by
    rw [List.foldl_cons, spanM_acc rs]
    show a * r.q * Na.span (rs.map toRod) = a * (r.q * Na.span (rs.map toRod))
    exact Nat.mul_assoc _ _ _
theorem spanM_eq (rs : List Rd) : spanM rs = Na.span (rs.map toRod) := by
  unfold spanM
  rw [spanM_acc, Nat.one_mul]
def digitsM : List Rd → Nat → List Nat
  | [], _ => []
  | r :: m, v => v % r.q :: digitsM m (v / r.q)
def restM : List Rd → Nat → Nat
  | [], v => v
  | r :: m, v => restM m (v / r.q)
theorem digitsM_eq : ∀ (rs : List Rd) (v : Nat), digitsM rs v = Na.digits (rs.map toRod) v
  | [], _ => rfl
  | r :: m, v => by
    show v % r.q :: digitsM m (v / r.q) = v % r.q :: Na.digits (m.map toRod) (v / r.q)
    rw [digitsM_eq m]
theorem restM_eq : ∀ (rs : List Rd) (v : Nat), restM rs v = v / Na.span (rs.map toRod)
  | [], v => by simp [restM, Na.span]
  | r :: m, v => by
    show restM m (v / r.q) = v / (r.q * Na.span (m.map toRod))
    rw [restM_eq m, Nat.div_div_eq_div_mul]
theorem span_pos {rs : List Rd} (h : ∀ r ∈ rs, r.good) : 0 < Na.span (rs.map toRod) := by
  induction rs with
  | nil => simp [Na.span]
  | cons r rs ih =>
    show 0 < r.q * Na.span (rs.map toRod)
    have h1 := (h r (by simp)).1.1
    exact Nat.mul_pos (by omega) (ih fun x hx => h x (by simp [hx]))
theorem rest_zero {rs : List Rd} (h : ∀ r ∈ rs, r.good) (v : Nat) : restM rs v = 0 ↔ v < Na.span (rs.map toRod) := by
  rw [restM_eq, Nat.div_eq_zero_iff_lt (span_pos h)]
theorem digits_len : ∀ (rs : List Rd) (v : Nat), (digitsM rs v).length = rs.length
  | [], _ => rfl
  | r :: m, v => by simp [digitsM, digits_len m]
theorem digits_lt : ∀ {rs : List Rd} (v : Nat), (∀ r ∈ rs, 0 < r.q) → ∀ (i : Nat) (r : Rd) (d : Nat), rs[i]? = some r → (digitsM rs v)[i]? = some d → d < r.q
  | [], _, _, i, r, d, h, _ => by simp at h
  | r :: m, v, hq, 0, r', d, h, k => by
    simp [digitsM] at h k
    subst h k
    exact Nat.mod_lt _ (hq r (by simp))
  | r :: m, v, hq, i + 1, r', d, h, k => digits_lt (rs := m) (v / r.q) (fun x hx => hq x (by simp [hx])) i r' d (by simpa using h) (by simpa [digitsM] using k)
def valueM : List Rd → List Tp → Nat
  | r :: m, t :: s => r.cnt t + r.q * valueM m s
  | _, _ => 0
/-- as the program's loop has it -/
theorem value_loop : ∀ (rs : List Rd) (ts : List Tp) (f p : Nat), (List.zip rs ts).foldl (fun (a : Nat × Nat) x => (a.1 + a.2 * x.1.cnt x.2, a.2 * x.1.q)) (f, p) = (f + p * valueM rs ts, p * (List.zip rs ts).foldl (fun a x => a * x.1.q) 1)
  | [], ts, f, p => by simp [valueM]
  | r :: rs, [], f, p => by simp [valueM]
  | r :: rs, t :: ts, f, p => by
    have key : ∀ (l : List (Rd × Tp)) (a : Nat), l.foldl (fun a x => a * x.1.q) a = a * l.foldl (fun a x => a * x.1.q) 1 := by
      intro l
      induction l with
      | nil => intro a; simp
      | cons x l ih => intro a; rw [List.foldl_cons, List.foldl_cons, ih, ih (1 * x.1.q), Nat.one_mul, Nat.mul_assoc]
    rw [List.zip_cons_cons, List.foldl_cons, List.foldl_cons, value_loop rs ts, key _ (1 * r.q), Nat.one_mul]
    simp only [valueM, Nat.mul_add, Nat.mul_assoc, Nat.add_assoc]
/-- a standing, padded -/
def Fits (r : Rd) (t : Tp) : Prop := t.1 ≤ r.b0 ∧ t.2.1 ≤ r.b1 ∧ t.2.2 ≤ r.b2
def cut (r : Rd) (t : Tp) : List Nat := ([t.1, t.2.1, t.2.2] : List Nat).take (decksOf r).length
theorem cut_len {r : Rd} (h : r.fair) (t : Tp) : (cut r t).length = (decksOf r).length := by
  have := (decks_len h).2
  unfold cut
  rw [List.length_take]
  simp
  omega
theorem pad_cut {r : Rd} (h : r.fair) {t : Tp} (f : Fits r t) : pad (cut r t) = t := by
  obtain ⟨x, y, z⟩ := t
  obtain ⟨f0, f1, f2⟩ := f
  dsimp only at f0 f1 f2
  unfold pad cut
  rcases fair_cases h with ⟨e, e1, e2, _⟩ | ⟨e, e1, e2, _⟩ | ⟨e, e1, e2⟩
  · have : y = 0 := by omega
    have : z = 0 := by omega
    subst_vars
    rw [e]; rfl
  · have : z = 0 := by omega
    subst_vars
    rw [e]; rfl
  · rw [e]; rfl
theorem mem_tps {r : Rd} {t : Tp} : t ∈ r.tps ↔ Fits r t := by
  obtain ⟨x, y, z⟩ := t
  unfold Rd.tps Fits
  simp only [List.mem_flatMap, List.mem_range, List.mem_map, Prod.mk.injEq]
  constructor
  · rintro ⟨a, ha, b, hb, c, hc, rfl, rfl, rfl⟩
    omega
  · rintro ⟨f0, f1, f2⟩
    exact ⟨x, by omega, y, by omega, z, by omega, rfl, rfl, rfl⟩
theorem worth_cut {r : Rd} (h : r.fair) {t : Tp} (f : Fits r t) : Na.worthOf (decksOf r) (cut r t) = r.cnt t := by
  rw [worth_pad h (cut_len h t), pad_cut h f]
/-- a standing fits a make -/
inductive FitsAll : List Rd → List Tp → Prop
  | nil : FitsAll [] []
  | cons {r : Rd} {t : Tp} {rs : List Rd} {ts : List Tp} : Fits r t → FitsAll rs ts → FitsAll (r :: rs) (t :: ts)
theorem FitsAll.len {rs : List Rd} {ts : List Tp} (h : FitsAll rs ts) : rs.length = ts.length := by
  induction h with
  | nil => rfl
  | cons _ _ ih => simp [ih]
def cuts (rs : List Rd) (ts : List Tp) : Na.Standing := List.zipWith cut rs ts
theorem valueM_eq {rs : List Rd} {ts : List Tp} (h : FitsAll rs ts) (g : ∀ r ∈ rs, r.good) : valueM rs ts = Na.value (rs.map toRod) (cuts rs ts) := by
  induction h with
  | nil => rfl
  | @cons r t rs ts f h ih =>
    show r.cnt t + r.q * valueM rs ts = Na.worthOf (decksOf r) (cut r t) + r.q * Na.value (rs.map toRod) (cuts rs ts)
    rw [worth_cut (g r (by simp)).1 f, ih fun x hx => g x (by simp [hx])]
/-- numbers of a standing -/
def flat (ts : List Tp) : List Nat := ts.flatMap fun t => [t.1, t.2.1, t.2.2]
theorem numbers_cut {r : Rd} (h : r.fair) {t : Tp} (f : Fits r t) : (List.range 3).map (fun j => (cut r t).getD j 0) = [t.1, t.2.1, t.2.2] := by
  have e := pad_cut h f
  show [(cut r t).getD 0 0, (cut r t).getD 1 0, (cut r t).getD 2 0] = _
  unfold pad at e
  rw [Prod.ext_iff, Prod.ext_iff] at e
  obtain ⟨e1, e2, e3⟩ := e
  dsimp only at e1 e2 e3
  rw [e1, e2, e3]
theorem numbers_cuts {rs : List Rd} {ts : List Tp} (h : FitsAll rs ts) (g : ∀ r ∈ rs, r.good) : Na.standingNumbers (cuts rs ts) = flat ts := by
  induction h with
  | nil => rfl
  | @cons r t rs ts f h ih =>
    show (List.range 3).map (fun j => (cut r t).getD j 0) ++ Na.standingNumbers (cuts rs ts) = [t.1, t.2.1, t.2.2] ++ flat ts
    rw [numbers_cut (g r (by simp)).1 f, ih fun x hx => g x (by simp [hx])]
theorem numbers_pad (p : List Nat) : (List.range 3).map (fun j => p.getD j 0) = [(pad p).1, (pad p).2.1, (pad p).2.2] := rfl
end Bm

namespace Bm
/-! ### sums in a semiring: numbers of ways; least numbers of beads -/
structure SR (α : Type) where
  z : α
  o : α
  add : α → α → α
  mul : α → α → α
  addC : ∀ a b, add a b = add b a
  addA : ∀ a b c, add (add a b) c = add a (add b c)
  zAdd : ∀ a, add z a = a
  mulA : ∀ a b c, mul (mul a b) c = mul a (mul b c)
  mulC : ∀ a b, mul a b = mul b a
  oMul : ∀ a, mul o a = a
  mulZ : ∀ a, mul a z = z
  mulAdd : ∀ a b c, mul a (add b c) = add (mul a b) (mul a c)
variable {α : Type} (S : SR α)
theorem SR.addZ (a : α) : S.add a S.z = a := by rw [S.addC, S.zAdd]
theorem SR.zMul (a : α) : S.mul S.z a = S.z := by rw [S.mulC, S.mulZ]
theorem SR.mulO (a : α) : S.mul a S.o = a := by rw [S.mulC, S.oMul]
theorem SR.addMul (a b c : α) : S.mul (S.add a b) c = S.add (S.mul a c) (S.mul b c) := by rw [S.mulC, S.mulAdd, S.mulC c a, S.mulC c b]
theorem SR.add4 (a b c d : α) : S.add (S.add a b) (S.add c d) = S.add (S.add a c) (S.add b d) := by
  rw [S.addA, S.addA, ← S.addA b, S.addC b c, S.addA c]
theorem SR.mulLC (a b c : α) : S.mul a (S.mul b c) = S.mul b (S.mul a c) := by rw [← S.mulA, S.mulC a b, S.mulA]
def sm {β : Type} (f : β → α) : List β → α
  | [] => S.z
  | b :: l => S.add (f b) (sm f l)
section
variable {β γ : Type}
theorem sm_append (f : β → α) : ∀ (l m : List β), sm S f (l ++ m) = S.add (sm S f l) (sm S f m)
  | [], m => (S.zAdd _).symm
  | b :: l, m => by
    show S.add (f b) (sm S f (l ++ m)) = S.add (S.add (f b) (sm S f l)) (sm S f m)
    rw [sm_append f l m, S.addA]
theorem sm_map (f : γ → α) (g : β → γ) : ∀ l : List β, sm S f (l.map g) = sm S (fun b => f (g b)) l
  | [] => rfl
  | b :: l => by
    show S.add _ (sm S f (l.map g)) = S.add _ _
    rw [sm_map f g l]
theorem sm_congr {f g : β → α} : ∀ {l : List β}, (∀ b ∈ l, f b = g b) → sm S f l = sm S g l
  | [], _ => rfl
  | b :: l, h => by
    show S.add (f b) (sm S f l) = S.add (g b) (sm S g l)
    rw [h b (by simp), sm_congr (l := l) fun x hx => h x (by simp [hx])]
theorem sm_zero : ∀ l : List β, sm S (fun _ => S.z) l = S.z
  | [] => rfl
  | b :: l => by
    show S.add S.z (sm S _ l) = S.z
    rw [sm_zero l, S.zAdd]
theorem sm_add (f g : β → α) : ∀ l : List β, sm S (fun b => S.add (f b) (g b)) l = S.add (sm S f l) (sm S g l)
  | [] => (S.zAdd _).symm
  | b :: l => by
    show S.add (S.add (f b) (g b)) (sm S _ l) = S.add (S.add (f b) (sm S f l)) (S.add (g b) (sm S g l))
    rw [sm_add f g l, S.add4]
theorem sm_mul (a : α) (f : β → α) : ∀ l : List β, sm S (fun b => S.mul a (f b)) l = S.mul a (sm S f l)
  | [] => (S.mulZ a).symm
  | b :: l => by
    show S.add (S.mul a (f b)) (sm S _ l) = S.mul a (S.add (f b) (sm S f l))
    rw [sm_mul a f l, S.mulAdd]
theorem sm_mulR (a : α) (f : β → α) (l : List β) : sm S (fun b => S.mul (f b) a) l = S.mul (sm S f l) a := by
  rw [S.mulC, ← sm_mul]
  exact sm_congr S fun b _ => S.mulC _ _
theorem sm_swap (f : β → γ → α) (m : List γ) : ∀ l : List β, sm S (fun b => sm S (fun c => f b c) m) l = sm S (fun c => sm S (fun b => f b c) l) m
  | [] => (sm_zero S m).symm
  | b :: l => by
    show S.add (sm S (fun c => f b c) m) (sm S (fun b => sm S (fun c => f b c) m) l) = sm S (fun c => S.add (f b c) (sm S (fun b => f b c) l)) m
    rw [sm_swap f m l, sm_add]
theorem sm_filter (p : β → Bool) (f : β → α) : ∀ l : List β, sm S f (l.filter p) = sm S (fun b => if p b = true then f b else S.z) l
  | [] => rfl
  | b :: l => by
    show sm S f ((b :: l).filter p) = S.add (if p b = true then f b else S.z) (sm S _ l)
    by_cases h : p b = true
    · rw [List.filter_cons_of_pos h, if_pos h, ← sm_filter p f l]
      rfl
    · rw [List.filter_cons_of_neg h, if_neg h, S.zAdd, ← sm_filter p f l]
theorem sm_one (a : α) : ∀ (n w : Nat), w < n → sm S (fun x => if w = x then a else S.z) (List.range n) = a
  | 0, w, h => by omega
  | n + 1, w, h => by
    rw [List.range_succ, sm_append]
    show S.add (sm S _ (List.range n)) (S.add (if w = n then a else S.z) S.z) = a
    rw [S.addZ]
    by_cases e : w = n
    · rw [if_pos e, sm_congr S (g := fun _ => S.z), sm_zero, S.zAdd]
      intro x hx
      have := List.mem_range.mp hx
      exact if_neg (by omega)
    · rw [if_neg e, S.addZ]
      exact sm_one a n w (by omega)
/-- by groups -/
theorem sm_group (key : β → Nat) (F : β → α) (n : Nat) (l : List β) (h : ∀ b ∈ l, key b < n) : sm S (fun w => sm S F (l.filter fun b => key b == w)) (List.range n) = sm S F l := by
  have e : ∀ w, sm S F (l.filter fun b => key b == w) = sm S (fun b => if (key b == w) = true then F b else S.z) l := fun w => sm_filter S _ F l
  rw [sm_congr S (g := fun w => sm S (fun b => if (key b == w) = true then F b else S.z) l) fun w _ => e w, sm_swap]
  refine sm_congr S fun b hb => ?_
  refine Eq.trans (sm_congr S fun w _ => ?_) (sm_one S (F b) n (key b) (h b hb))
  by_cases c : key b = w
  · rw [if_pos c, if_pos (by rw [c]; exact beq_self_eq_true w)]
  · rw [if_neg c, if_neg (by simpa using c)]
theorem sm_foldl (f : β → α) : ∀ (l : List β) (a : α), l.foldl (fun a b => S.add a (f b)) a = S.add a (sm S f l)
  | [], a => (S.addZ a).symm
  | b :: l, a => by
    rw [List.foldl_cons, sm_foldl f l, S.addA]
    rfl
end
/-! ### the ways of a value, from rod 0 on -/
variable (wt : Tp → α)
def WS : List Rd → Nat → α
  | [], v => if v = 0 then S.o else S.z
  | r :: m, v => sm S (fun t => if r.cnt t ≤ v ∧ (v - r.cnt t) % r.q = 0 then S.mul (wt t) (WS m ((v - r.cnt t) / r.q)) else S.z) r.tps
def spn (m : List Rd) : Nat := Na.span (m.map toRod)
theorem spn_cons (r : Rd) (m : List Rd) : spn (r :: m) = r.q * spn m := rfl
theorem spn_snoc (r : Rd) : ∀ m : List Rd, spn (m ++ [r]) = spn m * r.q
  | [] => by simp [spn, Na.span, toRod]
  | x :: m => by
    show spn (x :: (m ++ [r])) = spn (x :: m) * r.q
    rw [spn_cons, spn_cons, spn_snoc r m, Nat.mul_assoc]
theorem spn_pos : ∀ {m : List Rd}, (∀ r ∈ m, 0 < r.q) → 0 < spn m
  | [], _ => by simp [spn, Na.span]
  | r :: m, h => by
    rw [spn_cons]
    exact Nat.mul_pos (h r (by simp)) (spn_pos fun x hx => h x (by simp [hx]))
theorem mul_if (a b : α) (P : Prop) [Decidable P] : S.mul a (if P then b else S.z) = if P then S.mul a b else S.z := by
  split
  · rfl
  · exact S.mulZ a
theorem sm_if {β : Type} (f : β → α) (P : Prop) [Decidable P] (l : List β) : (if P then sm S f l else S.z) = sm S (fun b => if P then f b else S.z) l := by
  by_cases h : P
  · simp only [if_pos h]
  · simp only [if_neg h, sm_zero]
/-- the leftmost rod first -/
theorem WS_snoc (r : Rd) (hr : 0 < r.q) : ∀ (m : List Rd) (v : Nat), (∀ x ∈ m, 0 < x.q) → WS S wt (m ++ [r]) v = sm S (fun t => if r.cnt t * spn m ≤ v then S.mul (wt t) (WS S wt m (v - r.cnt t * spn m)) else S.z) r.tps
  | [], v, _ => by
    show sm S _ r.tps = _
    refine sm_congr S fun t _ => ?_
    have e1 : spn [] = 1 := rfl
    rw [e1, Nat.mul_one]
    show (if r.cnt t ≤ v ∧ (v - r.cnt t) % r.q = 0 then S.mul (wt t) (if (v - r.cnt t) / r.q = 0 then S.o else S.z) else S.z) = if r.cnt t ≤ v then S.mul (wt t) (if v - r.cnt t = 0 then S.o else S.z) else S.z
    by_cases h1 : r.cnt t ≤ v
    · by_cases h2 : v - r.cnt t = 0
      · rw [h2]
        simp [h1, Nat.zero_div]
      · rw [if_pos h1, if_neg h2, S.mulZ]
        by_cases h3 : (v - r.cnt t) % r.q = 0
        · rw [if_pos ⟨h1, h3⟩, if_neg, S.mulZ]
          intro z
          have := Nat.div_add_mod (v - r.cnt t) r.q
          rw [z, h3] at this
          simp at this
          omega
        · rw [if_neg fun z => h3 z.2]
    · rw [if_neg h1, if_neg fun z => h1 z.1]
  | x :: m, v, h => by
    have hx : 0 < x.q := h x (by simp)
    have hm : ∀ y ∈ m, 0 < y.q := fun y hy => h y (by simp [hy])
    have L : WS S wt (x :: (m ++ [r])) v = sm S (fun u => sm S (fun t => if x.cnt u ≤ v ∧ (v - x.cnt u) % x.q = 0 then S.mul (wt u) (if r.cnt t * spn m ≤ (v - x.cnt u) / x.q then S.mul (wt t) (WS S wt m ((v - x.cnt u) / x.q - r.cnt t * spn m)) else S.z) else S.z) r.tps) x.tps := by
      show sm S _ x.tps = _
      refine sm_congr S fun u _ => ?_
      rw [WS_snoc r hr m _ hm, ← sm_mul, sm_if]
    have R : sm S (fun t => if r.cnt t * spn (x :: m) ≤ v then S.mul (wt t) (WS S wt (x :: m) (v - r.cnt t * spn (x :: m))) else S.z) r.tps =
        sm S (fun t => sm S (fun u => if r.cnt t * spn (x :: m) ≤ v then S.mul (wt t) (if x.cnt u ≤ v - r.cnt t * spn (x :: m) ∧ (v - r.cnt t * spn (x :: m) - x.cnt u) % x.q = 0 then S.mul (wt u) (WS S wt m ((v - r.cnt t * spn (x :: m) - x.cnt u) / x.q)) else S.z) else S.z) x.tps) r.tps := by
      refine sm_congr S fun t _ => ?_
      rw [← sm_if, sm_mul]
      rfl
    show WS S wt (x :: (m ++ [r])) v = _
    rw [L, R, sm_swap]
    refine sm_congr S fun t _ => sm_congr S fun u _ => ?_
    rw [mul_if, mul_if]
    have e : r.cnt t * spn (x :: m) = x.q * (r.cnt t * spn m) := by rw [spn_cons, Nat.mul_left_comm]
    rw [e]
    generalize r.cnt t * spn m = X
    generalize x.cnt u = c
    have hq := hx
    generalize x.q = q at hx ⊢
    by_cases h1 : c + q * X ≤ v
    · have e1 : v - q * X - c = v - c - q * X := by omega
      have e2 : (v - c - q * X) % q = (v - c) % q := Nat.sub_mul_mod (by omega)
      have e3 : (v - c - q * X) / q = (v - c) / q - X := Nat.sub_mul_div _ _ _
      rw [e1, e2, e3]
      have a1 : c ≤ v := by omega
      have a2 : q * X ≤ v := by omega
      have a3 : c ≤ v - q * X := by omega
      have a4 : X ≤ (v - c) / q := (Nat.le_div_iff_mul_le hx).mpr (by rw [Nat.mul_comm]; omega)
      simp only [a1, a2, a3, a4, true_and, if_true]
      split
      · exact S.mulLC _ _ _
      · rfl
    · have n2 : ¬ (q * X ≤ v ∧ c ≤ v - q * X) := by omega
      have n1 : ¬ (c ≤ v ∧ X ≤ (v - c) / q) := by
        rintro ⟨z1, z2⟩
        have := (Nat.le_div_iff_mul_le hx).mp z2
        rw [Nat.mul_comm] at this
        omega
      have l1 : (if c ≤ v ∧ (v - c) % q = 0 then if X ≤ (v - c) / q then S.mul (wt u) (S.mul (wt t) (WS S wt m ((v - c) / q - X))) else S.z else S.z) = S.z := by
        split
        · rename_i z
          rw [if_neg fun y => n1 ⟨z.1, y⟩]
        · rfl
      rw [l1]
      split
      · rename_i z
        rw [if_neg fun y => n2 ⟨z, y.1⟩]
      · rfl

/-! ### as the specification reckons it: from what is left -/
variable (inj : Nat → α) (fA : Nat → Nat → Nat)
def valL (m : List Rd) (L : List (Nat × Nat)) : α := sm S (fun x => S.mul (inj x.2) (WS S wt m x.1)) L
theorem val_put (hA : ∀ a b, inj (fA a b) = S.add (inj a) (inj b)) (m : List Rd) (u c : Nat) : ∀ L : List (Nat × Nat), valL S wt inj m (Na.putWith fA u c L) = S.add (valL S wt inj m L) (S.mul (inj c) (WS S wt m u))
  | [] => by
    show S.add (S.mul (inj c) (WS S wt m u)) S.z = S.add S.z _
    rw [S.addZ, S.zAdd]
  | x :: L => by
    unfold Na.putWith
    by_cases h : x.1 = u
    · rw [if_pos h]
      show S.add (S.mul (inj (fA x.2 c)) (WS S wt m u)) (valL S wt inj m L) = S.add (S.add (S.mul (inj x.2) (WS S wt m x.1)) (valL S wt inj m L)) _
      rw [hA, S.addMul, h, S.addA, S.addA, S.addC (S.mul (inj c) _)]
    · rw [if_neg h]
      show S.add _ (valL S wt inj m (Na.putWith fA u c L)) = S.add (S.add _ (valL S wt inj m L)) _
      rw [val_put hA m u c L, S.addA]
theorem put_keys (u c : Nat) : ∀ L : List (Nat × Nat), (L.map (·.1)).Nodup → ((Na.putWith fA u c L).map (·.1)).Nodup ∧ ∀ k, k ∈ (Na.putWith fA u c L).map (·.1) ↔ k = u ∨ k ∈ L.map (·.1)
  | [], _ => by simp [Na.putWith]
  | x :: L, h => by
    unfold Na.putWith
    by_cases e : x.1 = u
    · rw [if_pos e]
      subst e
      refine ⟨h, fun k => ?_⟩
      simp
    · rw [if_neg e]
      rw [List.map_cons, List.nodup_cons] at h
      obtain ⟨i1, i2⟩ := put_keys u c L h.2
      refine ⟨?_, fun k => ?_⟩
      · rw [List.map_cons, List.nodup_cons]
        refine ⟨fun z => ?_, i1⟩
        rcases (i2 _).mp z with z | z
        · exact e z
        · exact h.1 z
      · rw [List.map_cons, List.mem_cons, i2, List.map_cons, List.mem_cons]
        constructor
        · rintro (z | z | z)
          · exact .inr (.inl z)
          · exact .inl z
          · exact .inr (.inr z)
        · rintro (z | z | z)
          · exact .inr (.inl z)
          · exact .inl z
          · exact .inr (.inr z)
theorem nothing_left : ∀ L : List (Nat × Nat), (L.map (·.1)).Nodup → valL S wt inj [] L = match Na.nothingLeft L with | some c => inj c | none => S.z
  | [], _ => rfl
  | x :: L, h => by
    rw [List.map_cons, List.nodup_cons] at h
    have ih := nothing_left L h.2
    show S.add (S.mul (inj x.2) (if x.1 = 0 then S.o else S.z)) (valL S wt inj [] L) = _
    unfold Na.nothingLeft
    by_cases e : x.1 = 0
    · rw [List.find?_cons_of_pos (by simp [e]), if_pos e, S.mulO]
      have : valL S wt inj [] L = S.z := by
        unfold valL
        rw [sm_congr S (g := fun _ => S.z), sm_zero]
        intro y hy
        have : y.1 ≠ 0 := fun z => h.1 (by rw [e, ← z]; exact List.mem_map_of_mem hy)
        show S.mul _ (if y.1 = 0 then S.o else S.z) = S.z
        rw [if_neg this, S.mulZ]
      rw [this, S.addZ]
      rfl
    · rw [List.find?_cons_of_neg (by simp [e]), if_neg e, S.mulZ, S.zAdd, ih]
      rfl
/-- one rod further -/
def upG (g : Nat × Nat → Nat) (fM : Nat → Nat → Nat) (r : Na.Rod) (l : List (Nat × Nat)) : List (Nat × Nat) :=
  l.foldl (fun z x => (Na.tally r).foldl (fun z y => match Na.leftOver r x.1 y.1 with
    | some u => Na.putWith fA u (fM x.2 (g y.2)) z
    | none => z) z) []
def tallyW (r : Na.Rod) (w : Nat) : Option (Nat × (Nat × Nat)) := match (Na.pushes r.decks).filter fun p => Na.worthOf r.decks p == w with
  | [] => none
  | p :: l => some (w, (l.length + 1, l.foldl (fun b q => min b (Na.total q)) (Na.total p)))
theorem tally_eq (r : Na.Rod) : Na.tally r = (List.range (r.most + 1)).filterMap (tallyW r) := rfl
theorem sm_filterMap {β γ : Type} (f : γ → α) (g : β → Option γ) : ∀ l : List β, sm S f (l.filterMap g) = sm S (fun b => match g b with | some c => f c | none => S.z) l
  | [] => rfl
  | b :: l => by
    cases h : g b with
    | none =>
      rw [List.filterMap_cons_none h, sm_filterMap f g l]
      show _ = S.add (match g b with | some c => f c | none => S.z) _
      rw [h, S.zAdd]
    | some c =>
      rw [List.filterMap_cons_some h]
      show S.add (f c) (sm S f (l.filterMap g)) = S.add (match g b with | some c => f c | none => S.z) _
      rw [h, sm_filterMap f g l]
theorem group_pad {r : Rd} (h : r.fair) (w : Nat) : (r.tps.filter fun t => r.cnt t == w) = ((Na.pushes (decksOf r)).filter fun p => Na.worthOf (decksOf r) p == w).map pad := by
  rw [tps_eq h, List.filter_map]
  congr 1
  refine List.filter_congr fun p hp => ?_
  rw [worth_pad h (pushes_len _ _ hp)]
  rfl
/-- the weight of a rod's pushes of one worth -/
def gw (r : Rd) (w : Nat) : α := sm S wt (r.tps.filter fun t => r.cnt t == w)
theorem cnt_le {r : Rd} {t : Tp} (h : t ∈ r.tps) : r.cnt t ≤ r.most := by
  obtain ⟨h0, h1, h2⟩ := mem_tps.mp h
  have a0 := Nat.mul_le_mul_right r.w0 h0
  have a1 := Nat.mul_le_mul_right r.w1 h1
  have a2 := Nat.mul_le_mul_right r.w2 h2
  unfold Rd.most Rd.cnt Rd.all
  dsimp only
  omega
/-- a sum over pushes, by their worth -/
theorem sm_tps (r : Rd) (F : Nat → α) : sm S (fun t => S.mul (wt t) (F (r.cnt t))) r.tps = sm S (fun w => S.mul (gw S wt r w) (F w)) (List.range (r.most + 1)) := by
  rw [← sm_group S (fun t => r.cnt t) _ (r.most + 1) r.tps fun t ht => Nat.lt_succ_of_le (cnt_le ht)]
  refine sm_congr S fun w _ => ?_
  unfold gw
  rw [← sm_mulR]
  refine sm_congr S fun t ht => ?_
  have := (List.mem_filter.mp ht).2
  rw [show r.cnt t = w by simpa using this]
theorem up_val {g : Nat × Nat → Nat} {fM : Nat → Nat → Nat} (hA : ∀ a b, inj (fA a b) = S.add (inj a) (inj b)) (hM : ∀ a b, inj (fM a b) = S.mul (inj a) (inj b)) {r : Rd} (hr : r.fair)
    (hg : ∀ w, (match tallyW (toRod r) w with | some y => inj (g y.2) | none => S.z) = gw S wt r w) (m : List Rd) (L : List (Nat × Nat)) :
    valL S wt inj m (upG fA g fM (toRod r) L) = valL S wt inj (r :: m) L ∧ ((upG fA g fM (toRod r) L).map (·.1)).Nodup := by
  have inner : ∀ (x : Nat × Nat) (T : List (Nat × (Nat × Nat))) (z : List (Nat × Nat)), (z.map (·.1)).Nodup →
      valL S wt inj m (T.foldl (fun z y => match Na.leftOver (toRod r) x.1 y.1 with | some u => Na.putWith fA u (fM x.2 (g y.2)) z | none => z) z) =
        S.add (valL S wt inj m z) (sm S (fun y => match Na.leftOver (toRod r) x.1 y.1 with | some u => S.mul (S.mul (inj x.2) (inj (g y.2))) (WS S wt m u) | none => S.z) T) ∧
      ((T.foldl (fun z y => match Na.leftOver (toRod r) x.1 y.1 with | some u => Na.putWith fA u (fM x.2 (g y.2)) z | none => z) z).map (·.1)).Nodup := by
    intro x T
    induction T with
    | nil => intro z hz; exact ⟨(S.addZ _).symm, hz⟩
    | cons y T ih =>
      intro z hz
      rw [List.foldl_cons]
      show _ = S.add _ (S.add (match Na.leftOver (toRod r) x.1 y.1 with | some u => S.mul (S.mul (inj x.2) (inj (g y.2))) (WS S wt m u) | none => S.z) (sm S _ T)) ∧ _
      cases hl : Na.leftOver (toRod r) x.1 y.1 with
      | none =>
        dsimp only
        rw [S.zAdd]
        exact ih z hz
      | some u =>
        dsimp only
        obtain ⟨i1, i2⟩ := ih (Na.putWith fA u (fM x.2 (g y.2)) z) (put_keys fA u _ z hz).1
        refine ⟨?_, i2⟩
        rw [i1, val_put S wt inj fA hA, hM, S.addA]
  have key : ∀ x : Nat × Nat, sm S (fun y => match Na.leftOver (toRod r) x.1 y.1 with | some u => S.mul (S.mul (inj x.2) (inj (g y.2))) (WS S wt m u) | none => S.z) (Na.tally (toRod r)) = S.mul (inj x.2) (WS S wt (r :: m) x.1) := by
    intro x
    have e1 : WS S wt (r :: m) x.1 = sm S (fun t => S.mul (wt t) ((fun w => if w ≤ x.1 ∧ (x.1 - w) % r.q = 0 then WS S wt m ((x.1 - w) / r.q) else S.z) (r.cnt t))) r.tps := by
      refine sm_congr S fun t _ => ?_
      exact (mul_if S _ _ _).symm
    rw [e1, sm_tps S wt r (fun w => if w ≤ x.1 ∧ (x.1 - w) % r.q = 0 then WS S wt m ((x.1 - w) / r.q) else S.z), tally_eq, sm_filterMap, ← sm_mul, most_eq hr]
    refine sm_congr S fun w _ => ?_
    rw [← hg w]
    have ty : ∀ y, tallyW (toRod r) w = some y → y.1 = w := fun y hy => by
      unfold tallyW at hy
      split at hy
      · cases hy
      · cases hy; rfl
    cases ht : tallyW (toRod r) w with
    | none =>
      dsimp only
      rw [S.zMul, S.mulZ]
    | some y =>
      dsimp only
      rw [ty y ht]
      show (match (if w ≤ x.1 ∧ (x.1 - w) % r.q = 0 then some ((x.1 - w) / r.q) else none) with | some u => S.mul (S.mul (inj x.2) (inj (g y.2))) (WS S wt m u) | none => S.z) = _
      split
      · rename_i u hu
        split at hu
        · rename_i hc
          cases hu
          rw [if_pos hc, S.mulA]
        · cases hu
      · rename_i hu
        split at hu
        · cases hu
        · rename_i hc
          rw [if_neg hc, S.mulZ, S.mulZ]
  have outer : ∀ (L z : List (Nat × Nat)), (z.map (·.1)).Nodup →
      valL S wt inj m (L.foldl (fun z x => (Na.tally (toRod r)).foldl (fun z y => match Na.leftOver (toRod r) x.1 y.1 with | some u => Na.putWith fA u (fM x.2 (g y.2)) z | none => z) z) z) =
        S.add (valL S wt inj m z) (valL S wt inj (r :: m) L) ∧
      ((L.foldl (fun z x => (Na.tally (toRod r)).foldl (fun z y => match Na.leftOver (toRod r) x.1 y.1 with | some u => Na.putWith fA u (fM x.2 (g y.2)) z | none => z) z) z).map (·.1)).Nodup := by
    intro L
    induction L with
    | nil => intro z hz; exact ⟨(S.addZ _).symm, hz⟩
    | cons x L ih =>
      intro z hz
      rw [List.foldl_cons]
      obtain ⟨j1, j2⟩ := inner x (Na.tally (toRod r)) z hz
      obtain ⟨i1, i2⟩ := ih _ j2
      refine ⟨?_, i2⟩
      rw [i1, j1, key x, S.addA]
      rfl
  obtain ⟨o1, o2⟩ := outer L [] (by simp)
  exact ⟨o1.trans (S.zAdd _), o2⟩
theorem up_all {g : Nat × Nat → Nat} {fM : Nat → Nat → Nat} (hA : ∀ a b, inj (fA a b) = S.add (inj a) (inj b)) (hM : ∀ a b, inj (fM a b) = S.mul (inj a) (inj b))
    (hg : ∀ (r : Rd), r.fair → ∀ w, (match tallyW (toRod r) w with | some y => inj (g y.2) | none => S.z) = gw S wt r w) :
    ∀ (m : List Rd) (L : List (Nat × Nat)), (∀ r ∈ m, r.fair) → (L.map (·.1)).Nodup →
      (match Na.nothingLeft ((m.map toRod).foldl (fun l r => upG fA g fM r l) L) with | some c => inj c | none => S.z) = valL S wt inj m L
  | [], L, _, hn => (nothing_left S wt inj L hn).symm
  | r :: m, L, hf, hn => by
    obtain ⟨i1, i2⟩ := up_val S wt inj fA hA hM (hf r (by simp)) (hg r (hf r (by simp))) m L
    show (match Na.nothingLeft ((m.map toRod).foldl (fun l r => upG fA g fM r l) (upG fA g fM (toRod r) L)) with | some c => inj c | none => S.z) = _
    rw [up_all hA hM hg m _ (fun x hx => hf x (by simp [hx])) i2, i1]
end Bm

namespace Bm
/-! ### the two semirings -/
def natS : SR Nat where
  z := 0
  o := 1
  add := (· + ·)
  mul := (· * ·)
  addC := Nat.add_comm
  addA := Nat.add_assoc
  zAdd := Nat.zero_add
  mulA := Nat.mul_assoc
  mulC := Nat.mul_comm
  oMul := Nat.one_mul
  mulZ := Nat.mul_zero
  mulAdd := Nat.mul_add
def tAddO : Option Nat → Option Nat → Option Nat
  | none, b => b
  | a, none => a
  | some a, some b => some (min a b)
def tMulO : Option Nat → Option Nat → Option Nat
  | some a, some b => some (a + b)
  | _, _ => none
def trpS : SR (Option Nat) where
  z := none
  o := some 0
  add := tAddO
  mul := tMulO
  addC := fun a b => by cases a <;> cases b <;> simp [tAddO, Nat.min_comm]
  addA := fun a b c => by cases a <;> cases b <;> cases c <;> simp [tAddO, Nat.min_assoc]
  zAdd := fun a => by cases a <;> rfl
  mulA := fun a b c => by cases a <;> cases b <;> cases c <;> simp [tMulO, Nat.add_assoc]
  mulC := fun a b => by cases a <;> cases b <;> simp [tMulO, Nat.add_comm]
  oMul := fun a => by cases a <;> simp [tMulO]
  mulZ := fun a => by cases a <;> rfl
  mulAdd := fun a b c => by cases a <;> cases b <;> cases c <;> simp [tMulO, tAddO, Nat.add_min_add_left]
def wN : Tp → Nat := fun _ => 1
def wT : Tp → Option Nat := fun t => some (many t)
abbrev WN (m : List Rd) (v : Nat) : Nat := WS natS wN m v
abbrev WT (m : List Rd) (v : Nat) : Option Nat := WS trpS wT m v
theorem smN_len {β : Type} : ∀ l : List β, sm natS (fun _ => (1 : Nat)) l = l.length
  | [] => rfl
  | b :: l => by
    show 1 + sm natS _ l = l.length + 1
    rw [smN_len l, Nat.add_comm]
theorem ways_eq {rs : List Rd} (h : ∀ r ∈ rs, r.good) (v : Nat) : Na.ways (rs.map toRod) v = WN rs v := by
  have hg : ∀ (r : Rd), r.fair → ∀ w, (match tallyW (toRod r) w with | some y => id ((fun y : Nat × Nat => y.1) y.2) | none => natS.z) = gw natS wN r w := by
    intro r hr w
    unfold gw wN
    rw [smN_len, group_pad hr, List.length_map]
    unfold tallyW
    show (match (match (Na.pushes (decksOf r)).filter fun p => Na.worthOf (decksOf r) p == w with | [] => none | p :: l => some (w, (l.length + 1, l.foldl (fun b q => min b (Na.total q)) (Na.total p)))) with | some y => id ((fun y : Nat × Nat => y.1) y.2) | none => natS.z) = _
    cases (Na.pushes (decksOf r)).filter fun p => Na.worthOf (decksOf r) p == w with
    | nil => rfl
    | cons p l => rfl
  have k := up_all natS wN id (fun a b => a + b) (g := fun y => y.1) (fM := fun a b => a * b) (fun _ _ => rfl) (fun _ _ => rfl) hg rs [(v, 1)] (fun r hr => (h r hr).1) (by simp)
  have e : valL natS wN id rs [(v, 1)] = WN rs v := by
    show 1 * WN rs v + 0 = WN rs v
    rw [Nat.one_mul, Nat.add_zero]
  rw [e] at k
  rw [← k]
  unfold Na.ways
  show Option.getD (Na.nothingLeft ((rs.map toRod).foldl (fun l r => upG (fun a b => a + b) (fun y => y.1) (fun a b => a * b) r l) [(v, 1)])) 0 = _
  cases Na.nothingLeft ((rs.map toRod).foldl (fun l r => upG (fun a b => a + b) (fun y => y.1) (fun a b => a * b) r l) [(v, 1)]) <;> rfl
theorem least_eq {rs : List Rd} (h : ∀ r ∈ rs, r.good) (v : Nat) : Na.leastBeads (rs.map toRod) v = WT rs v := by
  have hg : ∀ (r : Rd), r.fair → ∀ w, (match tallyW (toRod r) w with | some y => some ((fun y : Nat × Nat => y.2) y.2) | none => trpS.z) = gw trpS wT r w := by
    intro r hr w
    unfold gw wT
    rw [group_pad hr, sm_map]
    unfold tallyW
    have hlen : ∀ p ∈ ((Na.pushes (decksOf r)).filter fun p => Na.worthOf (decksOf r) p == w), p.length ≤ 3 := fun p hp => by
      rw [pushes_len _ _ (List.mem_filter.mp hp).1]
      exact (decks_len hr).2
    show (match (match (Na.pushes (decksOf r)).filter fun p => Na.worthOf (decksOf r) p == w with | [] => none | p :: l => some (w, (l.length + 1, l.foldl (fun b q => min b (Na.total q)) (Na.total p)))) with | some y => some ((fun y : Nat × Nat => y.2) y.2) | none => trpS.z) = _
    generalize hl : ((Na.pushes (decksOf r)).filter fun p => Na.worthOf (decksOf r) p == w) = L at hlen ⊢
    clear hl
    cases L with
    | nil => rfl
    | cons p l =>
      show some (l.foldl (fun b q => min b (Na.total q)) (Na.total p)) = trpS.add (some (many (pad p))) (sm trpS (fun b => some (many (pad b))) l)
      rw [total_pad (hlen p (by simp)), ← sm_foldl]
      have hl : ∀ q ∈ l, q.length ≤ 3 := fun q hq => hlen q (by simp [hq])
      clear hlen
      generalize many (pad p) = a
      induction l generalizing a with
      | nil => rfl
      | cons q l ih =>
        rw [List.foldl_cons, List.foldl_cons, total_pad (hl q (by simp))]
        exact ih (fun x hx => hl x (by simp [hx])) _
  have k := up_all trpS wT some min (g := fun y => y.2) (fM := fun a b => a + b) (fun _ _ => rfl) (fun _ _ => rfl) hg rs [(v, 0)] (fun r hr => (h r hr).1) (by simp)
  have e : valL trpS wT some rs [(v, 0)] = WT rs v := by
    show tAddO (tMulO (some 0) (WT rs v)) none = WT rs v
    cases WT rs v <;> simp [tMulO, tAddO]
  rw [e] at k
  rw [← k]
  unfold Na.leastBeads
  show Na.nothingLeft ((rs.map toRod).foldl (fun l r => upG min (fun y => y.2) (fun a b => a + b) r l) [(v, 0)]) = _
  cases Na.nothingLeft ((rs.map toRod).foldl (fun l r => upG min (fun y => y.2) (fun a b => a + b) r l) [(v, 0)]) <;> rfl

/-! ### tables -/
section
variable {α : Type} (S : SR α) (wt : Tp → α)
/-- of the rods in m: a value's digits there and a load -/
abbrev vAt (m : List Rd) (v load : Nat) : Nat := v % spn m + load * spn m
theorem vAt_snoc (m : List Rd) (r : Rd) (v load : Nat) : vAt (m ++ [r]) v load = v % spn m + (v / spn m % r.q + load * r.q) * spn m := by
  show v % spn (m ++ [r]) + load * spn (m ++ [r]) = _
  rw [spn_snoc, Nat.mod_mul, Nat.add_mul, Nat.mul_comm (spn m) (v / spn m % r.q), Nat.add_assoc, Nat.mul_comm (spn m) r.q, Nat.mul_assoc]
theorem vAt_sub (m : List Rd) (v D c : Nat) (hm : 0 < spn m) : (c * spn m ≤ v % spn m + D * spn m ↔ c ≤ D) ∧ (c ≤ D → v % spn m + D * spn m - c * spn m = vAt m v (D - c)) := by
  have h1 : v % spn m < spn m := Nat.mod_lt _ hm
  constructor
  · constructor
    · intro h
      by_cases k : c ≤ D
      · exact k
      · exfalso
        have : (D + 1) * spn m ≤ c * spn m := Nat.mul_le_mul_right _ (by omega)
        rw [Nat.add_mul, Nat.one_mul] at this
        omega
    · intro h
      have := Nat.mul_le_mul_right (spn m) h
      omega
  · intro h
    have := Nat.mul_le_mul_right (spn m) h
    show _ = v % spn m + (D - c) * spn m
    rw [Nat.sub_mul]
    omega
theorem WS_load {m : List Rd} {r : Rd} (hm : ∀ x ∈ m, 0 < x.q) (hr : 0 < r.q) (v load : Nat) :
    WS S wt (m ++ [r]) (vAt (m ++ [r]) v load) = sm S (fun c => S.mul (gw S wt r c) (if c ≤ v / spn m % r.q + load * r.q then WS S wt m (vAt m v (v / spn m % r.q + load * r.q - c)) else S.z)) (List.range (r.most + 1)) := by
  rw [WS_snoc S wt r hr m _ hm, vAt_snoc]
  generalize v / spn m % r.q + load * r.q = D
  have hp := spn_pos hm
  rw [← sm_tps S wt r (fun c => if c ≤ D then WS S wt m (vAt m v (D - c)) else S.z)]
  refine sm_congr S fun t _ => ?_
  obtain ⟨e1, e2⟩ := vAt_sub m v D (r.cnt t) hp
  by_cases h : r.cnt t ≤ D
  · rw [if_pos (e1.mpr h), if_pos h, e2 h]
  · rw [if_neg fun z => h (e1.mp z), if_neg h, S.mulZ]
/-- per push -/
theorem WS_pushes {m : List Rd} {r : Rd} (hm : ∀ x ∈ m, 0 < x.q) (hr : 0 < r.q) (v load : Nat) :
    WS S wt (m ++ [r]) (vAt (m ++ [r]) v load) = sm S (fun t => S.mul (wt t) (if r.cnt t ≤ v / spn m % r.q + load * r.q then WS S wt m (vAt m v (v / spn m % r.q + load * r.q - r.cnt t)) else S.z)) r.tps := by
  rw [WS_load S wt hm hr, ← sm_tps S wt r (fun c => if c ≤ v / spn m % r.q + load * r.q then WS S wt m (vAt m v (v / spn m % r.q + load * r.q - c)) else S.z)]
variable (enc : α → Int)
/-- what a table tells of a load -/
def atL (T : List Int) (load : Int) (o : Int) : Int := if load < 0 ∨ (T.length : Int) ≤ load then o else T.getD load.toNat 0
def lowLoad (q digit load : Nat) (c : Nat) : Int := (digit : Int) + (load : Int) * (q : Int) - (c : Int)
def loadsM (r : Rd) (n : Nat) : Nat := (n - 1 + r.most) / r.q + 1
/-- a table tells what it should -/
structure TabOk (m : List Rd) (v : Nat) (T : List Int) : Prop where
  ne : 0 < T.length
  at_ : ∀ load, load < T.length → T[load]? = some (enc (WS S wt m (vAt m v load)))
  no : ∀ load, T.length ≤ load → WS S wt m (vAt m v load) = S.z
variable {S wt enc}
theorem TabOk.atL {m : List Rd} {v : Nat} {T : List Int} (h : TabOk S wt enc m v T) (q digit load c : Nat) :
    atL T (lowLoad q digit load c) (enc S.z) = enc (if c ≤ digit + load * q then WS S wt m (vAt m v (digit + load * q - c)) else S.z) := by
  unfold Bm.atL lowLoad
  have e0 : ((load * q : Nat) : Int) = (load : Int) * (q : Int) := Int.natCast_mul _ _
  rw [← e0]
  by_cases h1 : c ≤ digit + load * q
  · rw [if_pos h1]
    have e : (digit : Int) + ((load * q : Nat) : Int) - (c : Int) = ((digit + load * q - c : Nat) : Int) := by omega
    rw [e]
    by_cases h2 : digit + load * q - c < T.length
    · rw [if_neg (by omega), Int.toNat_natCast, List.getD_eq_getElem?_getD, h.at_ _ h2]
      rfl
    · rw [if_pos (by omega), h.no _ (by omega)]
  · rw [if_neg h1, if_pos (by omega)]
theorem TabOk.atN {m : List Rd} {v : Nat} {T : List Int} (h : TabOk S wt enc m v T) (load : Nat) : Bm.atL T (load : Int) (enc S.z) = enc (WS S wt m (vAt m v load)) := by
  unfold Bm.atL
  by_cases h2 : load < T.length
  · rw [if_neg (by omega), Int.toNat_natCast, List.getD_eq_getElem?_getD, h.at_ _ h2]
    rfl
  · rw [if_pos (by omega), h.no _ (by omega)]
theorem TabOk.first (v : Nat) : TabOk S wt enc [] v [enc S.o] where
  ne := by simp
  at_ := fun load h => by
    have : load = 0 := by simpa using h
    subst this
    show some (enc S.o) = some (enc (if v % spn [] + 0 * spn [] = 0 then S.o else S.z))
    have e : spn [] = 1 := rfl
    rw [e, if_pos]
    simp [Nat.mod_one]
  no := fun load h => by
    have h' : 1 ≤ load := by simpa using h
    show (if v % spn [] + load * spn [] = 0 then S.o else S.z) = S.z
    have e : spn [] = 1 := rfl
    rw [e, if_neg]
    simp [Nat.mod_one]
    omega
/-- the table above a rod -/
theorem TabOk.above {m : List Rd} {r : Rd} {v : Nat} {T : List Int} (h : TabOk S wt enc m v T) (hm : ∀ x ∈ m, 0 < x.q) (hr : 0 < r.q) {f : Nat → Int}
    (hf : ∀ load, f load = enc (sm S (fun c => S.mul (gw S wt r c) (if c ≤ v / spn m % r.q + load * r.q then WS S wt m (vAt m v (v / spn m % r.q + load * r.q - c)) else S.z)) (List.range (r.most + 1)))) :
    TabOk S wt enc (m ++ [r]) v ((List.range (loadsM r T.length)).map f) where
  ne := by rw [List.length_map, List.length_range]; exact Nat.succ_pos _
  at_ := fun load hl => by
    rw [List.length_map, List.length_range] at hl
    rw [List.getElem?_map, List.getElem?_range hl, WS_load S wt hm hr, ← hf]
    rfl
  no := fun load hl => by
    rw [List.length_map, List.length_range] at hl
    rw [WS_load S wt hm hr, sm_congr S (g := fun _ => S.z), sm_zero]
    intro c hc
    have hc' := List.mem_range.mp hc
    have hne := h.ne
    have h2 : T.length - 1 + r.most < load * r.q := by
      unfold loadsM at hl
      have := Nat.lt_of_lt_of_le (Nat.lt_succ_self _) hl
      exact (Nat.div_lt_iff_lt_mul hr).mp this
    by_cases h1 : c ≤ v / spn m % r.q + load * r.q
    · rw [if_pos h1, h.no _ (by omega), S.mulZ]
    · rw [if_neg h1, S.mulZ]
end
/-! ### the program's rows and tables -/
def setRow (g : Int → Tp → Int) (r : Rd) (F : List Int) (t : Tp) : List Int := F.set (r.cnt t) (g (F.getD (r.cnt t) 0) t)
def rowM (g : Int → Tp → Int) (o : Int) (r : Rd) : List Int := r.tps.foldl (setRow g r) (List.replicate (r.most + 1) o)
def gW : Int → Tp → Int := fun a _ => a + 1
def gF : Int → Tp → Int := fun a t => if a = -1 ∨ (many t : Int) < a then (many t : Int) else a
theorem setRow_len (g : Int → Tp → Int) (r : Rd) : ∀ (l : List Tp) (F : List Int), (l.foldl (setRow g r) F).length = F.length
  | [], F => rfl
  | t :: l, F => by
    rw [List.foldl_cons, setRow_len g r l]
    unfold setRow
    rw [List.length_set]
theorem rowM_len (g : Int → Tp → Int) (o : Int) (r : Rd) : (rowM g o r).length = r.most + 1 := by
  unfold rowM
  rw [setRow_len, List.length_replicate]
/-- a cell of a row: a fold over the pushes of that worth -/
theorem setRow_at (g : Int → Tp → Int) (r : Rd) (c : Nat) : ∀ (l : List Tp) (F : List Int), c < F.length → (l.foldl (setRow g r) F).getD c 0 = (l.filter fun t => r.cnt t == c).foldl g (F.getD c 0)
  | [], F, _ => rfl
  | t :: l, F, h => by
    rw [List.foldl_cons, setRow_at g r c l _ (by unfold setRow; rw [List.length_set]; exact h)]
    by_cases e : r.cnt t = c
    · rw [List.filter_cons_of_pos (by simp [e]), List.foldl_cons]
      congr 1
      unfold setRow
      rw [e, List.getD_eq_getElem?_getD, List.getElem?_set_self h]
      rfl
    · rw [List.filter_cons_of_neg (by simp [e])]
      congr 1
      unfold setRow
      rw [List.getD_eq_getElem?_getD, List.getElem?_set_ne e, List.getD_eq_getElem?_getD]
def encN : Nat → Int := fun n => (n : Int)
def encT : Option Nat → Int
  | none => -1
  | some n => (n : Int)
theorem rowW_at (r : Rd) {c : Nat} (h : c ≤ r.most) : (rowM gW 0 r).getD c 0 = encN (gw natS wN r c) := by
  unfold rowM gw wN
  rw [setRow_at _ _ _ _ _ (by rw [List.length_replicate]; omega), smN_len]
  have e : (List.replicate (r.most + 1) (0 : Int)).getD c 0 = ((0 : Nat) : Int) := by
    rw [List.getD_eq_getElem?_getD, List.getElem?_replicate]
    split <;> rfl
  rw [e]
  generalize (r.tps.filter fun t => r.cnt t == c) = l
  have key : ∀ (l : List Tp) (a : Nat), l.foldl gW (a : Int) = ((a + l.length : Nat) : Int) := by
    intro l
    induction l with
    | nil => intro a; rfl
    | cons t l ih =>
      intro a
      rw [List.foldl_cons, List.length_cons]
      have := ih (a + 1)
      show l.foldl gW ((a : Int) + 1) = _
      rw [show ((a : Int) + 1) = ((a + 1 : Nat) : Int) by omega, this]
      congr 1
      omega
  rw [key]
  unfold encN
  rw [Nat.zero_add]
theorem encT_neg (a : Option Nat) : encT a = -1 ↔ a = none := by
  cases a with
  | none => simp [encT]
  | some n => simp [encT]
theorem rowF_at (r : Rd) {c : Nat} (h : c ≤ r.most) : (rowM gF (-1) r).getD c 0 = encT (gw trpS wT r c) := by
  unfold rowM gw wT
  rw [setRow_at _ _ _ _ _ (by rw [List.length_replicate]; omega)]
  have e : (List.replicate (r.most + 1) (-1 : Int)).getD c 0 = encT trpS.z := by
    rw [List.getD_eq_getElem?_getD, List.getElem?_replicate, if_pos (by omega)]
    rfl
  rw [e]
  generalize (r.tps.filter fun t => r.cnt t == c) = l
  have key : ∀ (l : List Tp) (a : Option Nat), l.foldl gF (encT a) = encT (trpS.add a (sm trpS (fun t => some (many t)) l)) := by
    intro l
    induction l with
    | nil => intro a; show encT a = encT (trpS.add a trpS.z); rw [trpS.addZ]
    | cons t l ih =>
      intro a
      rw [List.foldl_cons]
      have e2 : gF (encT a) t = encT (trpS.add a (some (many t))) := by
        cases a with
        | none => simp [gF, encT, trpS, tAddO]
        | some n =>
          show (if ((n : Int) = -1 ∨ (many t : Int) < (n : Int)) then (many t : Int) else (n : Int)) = ((min n (many t) : Nat) : Int)
          split <;> omega
      rw [e2, ih, trpS.addA]
      rfl
  rw [key, trpS.zAdd]
def cellW (r : Rd) (d : Nat) (T : List Int) (load : Nat) : Int := (List.range (r.most + 1)).foldl (fun tot c => tot + (rowM gW 0 r).getD c 0 * atL T (lowLoad r.q d load c) 0) 0
def stepF (r : Rd) (d : Nat) (T : List Int) (load : Nat) (least : Int) (c : Nat) : Int :=
  let b := atL T (lowLoad r.q d load c) (-1)
  let w := (rowM gF (-1) r).getD c 0
  if w ≠ -1 ∧ b ≠ -1 ∧ (least = -1 ∨ w + b < least) then w + b else least
def cellF (r : Rd) (d : Nat) (T : List Int) (load : Nat) : Int := (List.range (r.most + 1)).foldl (stepF r d T load) (-1)
def aboveM (cell : Rd → Nat → List Int → Nat → Int) (r : Rd) (d : Nat) (T : List Int) : List Int := (List.range (loadsM r T.length)).map (cell r d T)
def tabM (cell : Rd → Nat → List Int → Nat → Int) (T0 : List Int) (l : List (Rd × Nat)) : List Int := l.foldl (fun T x => aboveM cell x.1 x.2 T) T0
theorem cellW_eq {m : List Rd} {r : Rd} {v : Nat} {T : List Int} (h : TabOk natS wN encN m v T) (load : Nat) :
    cellW r (v / spn m % r.q) T load = encN (sm natS (fun c => natS.mul (gw natS wN r c) (if c ≤ v / spn m % r.q + load * r.q then WN m (vAt m v (v / spn m % r.q + load * r.q - c)) else natS.z)) (List.range (r.most + 1))) := by
  unfold cellW
  have key : ∀ (l : List Nat) (a : Nat), (∀ c ∈ l, c ≤ r.most) → l.foldl (fun tot c => tot + (rowM gW 0 r).getD c 0 * atL T (lowLoad r.q (v / spn m % r.q) load c) 0) (encN a) =
      encN (natS.add a (sm natS (fun c => natS.mul (gw natS wN r c) (if c ≤ v / spn m % r.q + load * r.q then WN m (vAt m v (v / spn m % r.q + load * r.q - c)) else natS.z)) l)) := by
    intro l
    induction l with
    | nil => intro a _; rfl
    | cons c l ih =>
      intro a hc
      rw [List.foldl_cons, rowW_at r (hc c (by simp))]
      have e := h.atL r.q (v / spn m % r.q) load c
      rw [show encN natS.z = 0 from rfl] at e
      rw [e]
      have e2 : ∀ x y : Nat, encN a + encN x * encN y = encN (natS.add a (natS.mul x y)) := fun x y => by
        show (a : Int) + (x : Int) * (y : Int) = ((a + x * y : Nat) : Int)
        rw [Int.natCast_add, Int.natCast_mul]
      rw [e2, ih _ fun x hx => hc x (by simp [hx]), natS.addA]
      rfl
  have := key (List.range (r.most + 1)) 0 fun c hc => Nat.lt_succ_iff.mp (List.mem_range.mp hc)
  rw [show natS.add 0 = fun x => x by funext x; exact natS.zAdd x] at this
  exact this
theorem cellF_eq {m : List Rd} {r : Rd} {v : Nat} {T : List Int} (h : TabOk trpS wT encT m v T) (load : Nat) :
    cellF r (v / spn m % r.q) T load = encT (sm trpS (fun c => trpS.mul (gw trpS wT r c) (if c ≤ v / spn m % r.q + load * r.q then WT m (vAt m v (v / spn m % r.q + load * r.q - c)) else trpS.z)) (List.range (r.most + 1))) := by
  unfold cellF
  have key : ∀ (l : List Nat) (a : Option Nat), (∀ c ∈ l, c ≤ r.most) → l.foldl (stepF r (v / spn m % r.q) T load) (encT a) =
      encT (trpS.add a (sm trpS (fun c => trpS.mul (gw trpS wT r c) (if c ≤ v / spn m % r.q + load * r.q then WT m (vAt m v (v / spn m % r.q + load * r.q - c)) else trpS.z)) l)) := by
    intro l
    induction l with
    | nil => intro a _; show encT a = encT (trpS.add a trpS.z); rw [trpS.addZ]
    | cons c l ih =>
      intro a hc
      rw [List.foldl_cons]
      have e2 : stepF r (v / spn m % r.q) T load (encT a) c = encT (trpS.add a (trpS.mul (gw trpS wT r c) (if c ≤ v / spn m % r.q + load * r.q then WT m (vAt m v (v / spn m % r.q + load * r.q - c)) else trpS.z))) := by
        unfold stepF
        have e := h.atL r.q (v / spn m % r.q) load c
        rw [show encT trpS.z = -1 from rfl] at e
        rw [e, rowF_at r (hc c (by simp))]
        generalize (if c ≤ v / spn m % r.q + load * r.q then WS trpS wT m (vAt m v (v / spn m % r.q + load * r.q - c)) else trpS.z) = y
        generalize gw trpS wT r c = x
        show (if encT x ≠ -1 ∧ encT y ≠ -1 ∧ (encT a = -1 ∨ encT x + encT y < encT a) then encT x + encT y else encT a) = encT (tAddO a (tMulO x y))
        cases x with
        | none => cases a <;> simp [encT, tMulO, tAddO]
        | some x =>
          cases y with
          | none => cases a <;> simp [encT, tMulO, tAddO]
          | some y =>
            cases a with
            | none =>
              show (if ((x : Int) ≠ -1 ∧ (y : Int) ≠ -1 ∧ ((-1 : Int) = -1 ∨ (x : Int) + (y : Int) < -1)) then (x : Int) + (y : Int) else -1) = ((x + y : Nat) : Int)
              rw [if_pos ⟨by omega, by omega, .inl rfl⟩]
              omega
            | some a =>
              show (if ((x : Int) ≠ -1 ∧ (y : Int) ≠ -1 ∧ ((a : Int) = -1 ∨ (x : Int) + (y : Int) < (a : Int))) then (x : Int) + (y : Int) else (a : Int)) = ((min a (x + y) : Nat) : Int)
              by_cases hh : (x : Int) + (y : Int) < (a : Int)
              · rw [if_pos ⟨by omega, by omega, .inr hh⟩]
                omega
              · rw [if_neg (by omega)]
                omega
      rw [e2, ih _ fun x hx => hc x (by simp [hx]), trpS.addA]
      rfl
  have := key (List.range (r.most + 1)) none fun c hc => Nat.lt_succ_iff.mp (List.mem_range.mp hc)
  rw [show trpS.add none = fun x => x by funext x; exact trpS.zAdd x] at this
  exact this
theorem digit_at : ∀ (rs : List Rd) (v i : Nat) (r : Rd), rs[i]? = some r → (digitsM rs v)[i]? = some (v / spn (rs.take i) % r.q)
  | [], v, i, r, h => by simp at h
  | x :: m, v, 0, r, h => by
    have : x = r := by simpa using h
    subst this
    show some (v % x.q) = some (v / spn [] % x.q)
    rw [show spn [] = 1 from rfl, Nat.div_one]
  | x :: m, v, i + 1, r, h => by
    show (digitsM m (v / x.q))[i]? = some (v / spn (x :: m.take i) % r.q)
    rw [digit_at m (v / x.q) i r (by simpa using h), spn_cons, Nat.div_div_eq_div_mul]
theorem take_snoc {β : Type} {l : List β} {i : Nat} {x : β} (h : l[i]? = some x) : l.take (i + 1) = l.take i ++ [x] := by
  rw [List.take_add_one, h]
  rfl
theorem zip_at {β γ : Type} : ∀ {l : List β} {m : List γ} {i : Nat} {x : β} {y : γ}, l[i]? = some x → m[i]? = some y → (l.zip m)[i]? = some (x, y) := by
  intro l m i x y h k
  rw [List.getElem?_zip_eq_some]
  exact ⟨h, k⟩
section
variable {α : Type} {S : SR α} {wt : Tp → α} {enc : α → Int} {cell : Rd → Nat → List Int → Nat → Int}
theorem tabs_ok {rs : List Rd} (v : Nat) (hq : ∀ r ∈ rs, 0 < r.q)
    (hc : ∀ (m : List Rd) (r : Rd) (T : List Int), TabOk S wt enc m v T → ∀ load, cell r (v / spn m % r.q) T load = enc (sm S (fun c => S.mul (gw S wt r c) (if c ≤ v / spn m % r.q + load * r.q then WS S wt m (vAt m v (v / spn m % r.q + load * r.q - c)) else S.z)) (List.range (r.most + 1)))) :
    ∀ i, i ≤ rs.length → TabOk S wt enc (rs.take i) v (tabM cell [enc S.o] ((rs.zip (digitsM rs v)).take i))
  | 0, _ => TabOk.first v
  | i + 1, hi => by
    have ih := tabs_ok v hq hc i (Nat.le_of_succ_le hi)
    have hr : rs[i]? = some rs[i] := List.getElem?_eq_getElem hi
    have hd := digit_at rs v i _ hr
    rw [take_snoc hr, take_snoc (zip_at hr hd)]
    unfold tabM
    rw [List.foldl_append]
    show TabOk S wt enc _ v (aboveM cell rs[i] (v / spn (rs.take i) % rs[i].q) (tabM cell [enc S.o] ((rs.zip (digitsM rs v)).take i)))
    exact ih.above (fun x hx => hq x (List.mem_of_mem_take hx)) (hq _ (List.getElem_mem hi)) (hc _ _ _ ih)
end
theorem tabsW {rs : List Rd} (h : ∀ r ∈ rs, r.good) (v i : Nat) (hi : i ≤ rs.length) : TabOk natS wN encN (rs.take i) v (tabM cellW [1] ((rs.zip (digitsM rs v)).take i)) :=
  tabs_ok v (fun r hr => by have := (h r hr).1.1; omega) (fun m r T k load => cellW_eq k load) i hi
theorem tabsF {rs : List Rd} (h : ∀ r ∈ rs, r.good) (v i : Nat) (hi : i ≤ rs.length) : TabOk trpS wT encT (rs.take i) v (tabM cellF [0] ((rs.zip (digitsM rs v)).take i)) :=
  tabs_ok v (fun r hr => by have := (h r hr).1.1; omega) (fun m r T k load => cellF_eq k load) i hi
theorem vAt_all (rs : List Rd) (v : Nat) : vAt rs v (v / spn rs) = v := by
  show v % spn rs + v / spn rs * spn rs = v
  rw [Nat.mul_comm]
  exact Nat.mod_add_div v (spn rs)
end Bm

namespace Bm
/-! ### the k-th way -/
def lowI (q digit : Nat) (load : Int) (c : Nat) : Int := (digit : Int) + load * (q : Int) - (c : Int)
theorem low_nat (q digit load c : Nat) : lowI q digit (load : Int) c = lowLoad q digit load c := rfl
theorem low_pos {q digit load c : Nat} (h : c ≤ digit + load * q) : lowI q digit (load : Int) c = ((digit + load * q - c : Nat) : Int) := by
  unfold lowI
  have e0 : ((load * q : Nat) : Int) = (load : Int) * (q : Int) := Int.natCast_mul _ _
  rw [← e0]
  omega
def pickM (f : Tp → Int) : List Tp → Int → Option (Tp × Int)
  | [], _ => none
  | t :: l, k => if k < f t then some (t, k) else pickM f l (k - f t)
def nthM (rs : List Rd) (ds : List Nat) (tab : Nat → List Int) : Nat → Int → Int → Option (List Tp)
  | 0, _, _ => some []
  | i + 1, load, k => match rs[i]? with
    | none => none
    | some r => match pickM (fun t => atL (tab i) (lowI r.q (ds.getD i 0) load (r.cnt t)) 0) r.tps k with
      | none => none
      | some x => (nthM rs ds tab i (lowI r.q (ds.getD i 0) load (r.cnt x.1)) x.2).map fun s => s ++ [x.1]
/-- of a rod's push: the ways of the rest -/
def fW (m : List Rd) (r : Rd) (V : Nat) (t : Tp) : Nat := if r.cnt t * spn m ≤ V then WN m (V - r.cnt t * spn m) else 0
theorem pick_spec {m : List Rd} {r : Rd} (hr : r.fair) (hm : ∀ x ∈ m, x.good) (V : Nat) : ∀ (ps : List (List Nat)) (k : Nat), (∀ p ∈ ps, p ∈ Na.pushes (decksOf r)) →
    (Na.pick (m.map toRod) (spn m) (decksOf r) V ps k = none ∧ pickM (fun t => (fW m r V t : Int)) (ps.map pad) (k : Int) = none ∧ sm natS (fun p => fW m r V (pad p)) ps ≤ k) ∨
    (∃ p j, Na.pick (m.map toRod) (spn m) (decksOf r) V ps k = some (p, j) ∧ pickM (fun t => (fW m r V t : Int)) (ps.map pad) (k : Int) = some (pad p, (j : Int)) ∧ p ∈ ps ∧ j < fW m r V (pad p) ∧ k < sm natS (fun p => fW m r V (pad p)) ps)
  | [], k, _ => .inl ⟨rfl, rfl, Nat.zero_le _⟩
  | p :: ps, k, h => by
    have hp := h p (by simp)
    have hw : Na.worthOf (decksOf r) p = r.cnt (pad p) := worth_pad hr (pushes_len _ _ hp)
    have hsum : sm natS (fun p => fW m r V (pad p)) (p :: ps) = fW m r V (pad p) + sm natS (fun p => fW m r V (pad p)) ps := rfl
    have e1 : Na.pick (m.map toRod) (spn m) (decksOf r) V (p :: ps) k = if k < fW m r V (pad p) then some (p, k) else Na.pick (m.map toRod) (spn m) (decksOf r) V ps (k - fW m r V (pad p)) := by
      show (if V < Na.worthOf (decksOf r) p * spn m then Na.pick (m.map toRod) (spn m) (decksOf r) V ps k else (if k < Na.ways (m.map toRod) (V - Na.worthOf (decksOf r) p * spn m) then some (p, k) else Na.pick (m.map toRod) (spn m) (decksOf r) V ps (k - Na.ways (m.map toRod) (V - Na.worthOf (decksOf r) p * spn m)))) = _
      rw [hw, ways_eq hm]
      unfold fW
      by_cases c : r.cnt (pad p) * spn m ≤ V
      · rw [if_neg (by omega), if_pos c]
      · rw [if_pos (by omega), if_neg c, if_neg (Nat.not_lt_zero _), Nat.sub_zero]
    have e2 : pickM (fun t => (fW m r V t : Int)) ((p :: ps).map pad) (k : Int) = if (k : Int) < (fW m r V (pad p) : Int) then some (pad p, (k : Int)) else pickM (fun t => (fW m r V t : Int)) (ps.map pad) ((k : Int) - (fW m r V (pad p) : Int)) := rfl
    rw [e1, e2, hsum]
    by_cases c : k < fW m r V (pad p)
    · right
      refine ⟨p, k, if_pos c, if_pos (by omega), by simp, c, by omega⟩
    · rw [if_neg c, if_neg (by omega)]
      have e3 : (k : Int) - (fW m r V (pad p) : Int) = ((k - fW m r V (pad p) : Nat) : Int) := by omega
      rw [e3]
      rcases pick_spec hr hm V ps (k - fW m r V (pad p)) fun x hx => h x (by simp [hx]) with ⟨a, b, d⟩ | ⟨p', j, a, b, d, e, f⟩
      · exact .inl ⟨a, b, by omega⟩
      · exact .inr ⟨p', j, a, b, by simp [d], e, by omega⟩
theorem WN_sum {m : List Rd} {r : Rd} (hm : ∀ x ∈ m, 0 < x.q) (hr : 0 < r.q) (hf : r.fair) (V : Nat) : WN (m ++ [r]) V = sm natS (fun p => fW m r V (pad p)) (Na.pushes (decksOf r)) := by
  show WS natS wN (m ++ [r]) V = _
  rw [WS_snoc natS wN r hr m V hm, tps_eq hf, sm_map]
  refine sm_congr natS fun p _ => ?_
  unfold fW
  show (if _ then 1 * _ else 0) = _
  rw [Nat.one_mul]
theorem map_take' (rs : List Rd) (i : Nat) : (rs.map toRod).take i = (rs.take i).map toRod := List.map_take.symm
theorem place_eq (rs : List Rd) (i : Nat) : Na.place (rs.map toRod) i = spn (rs.take i) := by
  unfold Na.place spn
  rw [map_take']
theorem good_take {rs : List Rd} (h : ∀ r ∈ rs, r.good) (i : Nat) : ∀ r ∈ rs.take i, r.good := fun r hr => h r (List.mem_of_mem_take hr)
theorem good_q {rs : List Rd} (h : ∀ r ∈ rs, r.good) : ∀ r ∈ rs, 0 < r.q := fun r hr => by have := (h r hr).1.1; omega
theorem nthWay_succ (m : Na.Make) (i v k : Nat) : Na.nthWay m (i + 1) v k = match m[i]? with
    | none => none
    | some r => match Na.pick (m.take i) (Na.place m i) r.decks v (Na.pushes r.decks) k with
      | none => none
      | some (p, j) => (Na.nthWay m i (v - Na.worthOf r.decks p * Na.place m i) j).map (fun (s : Na.Standing) => s ++ [p]) := rfl
theorem nth_none {rs : List Rd} (h : ∀ r ∈ rs, r.good) : ∀ (i V k : Nat), i ≤ rs.length → WN (rs.take i) V ≤ k → Na.nthWay (rs.map toRod) i V k = none
  | 0, V, k, _, hk => by
    show (if V = 0 ∧ k = 0 then some [] else none) = none
    rw [if_neg]
    rintro ⟨a, b⟩
    have : WN (rs.take 0) V = 1 := by
      show (if V = 0 then 1 else 0) = 1
      rw [if_pos a]
    omega
  | i + 1, V, k, hi, hk => by
    have hr : rs[i]? = some rs[i] := List.getElem?_eq_getElem hi
    have hg := h rs[i] (List.getElem_mem hi)
    rw [take_snoc hr, WN_sum (good_q (good_take h i)) (good_q h _ (List.getElem_mem hi)) hg.1] at hk
    rw [nthWay_succ, List.getElem?_map, hr, map_take', place_eq]
    show (match Na.pick ((rs.take i).map toRod) (spn (rs.take i)) (decksOf rs[i]) V (Na.pushes (decksOf rs[i])) k with | none => none | some (p, j) => _) = none
    rcases pick_spec hg.1 (good_take h i) V _ k fun p hp => hp with ⟨a, _, _⟩ | ⟨p, j, _, _, _, _, f⟩
    · rw [a]
    · omega
theorem FitsAll.snoc {rs : List Rd} {ts : List Tp} {r : Rd} {t : Tp} (h : FitsAll rs ts) (f : Fits r t) : FitsAll (rs ++ [r]) (ts ++ [t]) := by
  induction h with
  | nil => exact .cons f .nil
  | cons a _ ih => exact .cons a ih
theorem cuts_snoc {rs : List Rd} {ts : List Tp} (h : FitsAll rs ts) (r : Rd) (t : Tp) : cuts (rs ++ [r]) (ts ++ [t]) = cuts rs ts ++ [cut r t] := by
  unfold cuts
  rw [List.zipWith_append h.len]
  rfl
theorem cut_pad {r : Rd} (h : r.fair) {p : List Nat} (hp : p ∈ Na.pushes (decksOf r)) : cut r (pad p) = p ∧ Fits r (pad p) := by
  constructor
  · have hl := pushes_len _ _ hp
    unfold cut pad
    rw [← hl]
    have h3 := (decks_len h).2
    rw [← hl] at h3
    match p, h3 with
    | [], _ => rfl
    | [a], _ => rfl
    | [a, b], _ => rfl
    | [a, b, c], _ => rfl
  · exact mem_tps.mp (by rw [tps_eq h]; exact List.mem_map_of_mem hp)
theorem pickM_congr {f g : Tp → Int} : ∀ {l : List Tp} {k : Int}, (∀ t ∈ l, f t = g t) → pickM f l k = pickM g l k
  | [], _, _ => rfl
  | t :: l, k, h => by
    unfold pickM
    rw [h t (by simp), pickM_congr (l := l) fun x hx => h x (by simp [hx])]
/-- a table below rod i tells the ways of the rest -/
theorem tab_at {m : List Rd} {r : Rd} {v : Nat} {T : List Int} (hT : TabOk natS wN encN m v T) (hm : ∀ x ∈ m, 0 < x.q) (load : Nat) (t : Tp) :
    atL T (lowI r.q (v / spn m % r.q) (load : Int) (r.cnt t)) 0 = (fW m r (vAt (m ++ [r]) v load) t : Int) := by
  rw [low_nat]
  have e := hT.atL r.q (v / spn m % r.q) load (r.cnt t)
  rw [show encN natS.z = 0 from rfl] at e
  rw [e]
  obtain ⟨a, b⟩ := vAt_sub m v (v / spn m % r.q + load * r.q) (r.cnt t) (spn_pos hm)
  unfold fW
  rw [vAt_snoc]
  by_cases c : r.cnt t ≤ v / spn m % r.q + load * r.q
  · rw [if_pos c, if_pos (a.mpr c), b c]
    rfl
  · rw [if_neg c, if_neg fun z => c (a.mp z)]
    rfl
theorem nth_some {rs : List Rd} (h : ∀ r ∈ rs, r.good) (v : Nat) {tab : Nat → List Int} (hT : ∀ i, i ≤ rs.length → TabOk natS wN encN (rs.take i) v (tab i)) :
    ∀ (i load k : Nat), i ≤ rs.length → k < WN (rs.take i) (vAt (rs.take i) v load) → ∃ ts, nthM rs (digitsM rs v) tab i (load : Int) (k : Int) = some ts ∧ FitsAll (rs.take i) ts ∧
      Na.nthWay (rs.map toRod) i (vAt (rs.take i) v load) k = some (cuts (rs.take i) ts)
  | 0, load, k, _, hk => by
    refine ⟨[], rfl, .nil, ?_⟩
    show (if vAt [] v load = 0 ∧ k = 0 then some [] else none) = some []
    have hk' : k < if vAt [] v load = 0 then 1 else 0 := hk
    by_cases c : vAt [] v load = 0
    · rw [if_pos c] at hk'
      rw [if_pos ⟨c, by omega⟩]
    · rw [if_neg c] at hk'
      omega
  | i + 1, load, k, hi, hk => by
    have hr : rs[i]? = some rs[i] := List.getElem?_eq_getElem hi
    have hg := h rs[i] (List.getElem_mem hi)
    have hm := good_take h i
    have hd : (digitsM rs v).getD i 0 = v / spn (rs.take i) % rs[i].q := by
      rw [List.getD_eq_getElem?_getD, digit_at rs v i _ hr]
      rfl
    have hVV : vAt (rs.take (i + 1)) v load = vAt (rs.take i ++ [rs[i]]) v load := by rw [take_snoc hr]
    rw [take_snoc hr, WN_sum (good_q hm) (good_q h _ (List.getElem_mem hi)) hg.1] at hk
    rw [take_snoc hr]
    generalize hV : vAt (rs.take i ++ [rs[i]]) v load = V at hk ⊢
    have epick : pickM (fun t => atL (tab i) (lowI rs[i].q ((digitsM rs v).getD i 0) (load : Int) (rs[i].cnt t)) 0) rs[i].tps (k : Int) = pickM (fun t => (fW (rs.take i) rs[i] V t : Int)) ((Na.pushes (decksOf rs[i])).map pad) (k : Int) := by
      rw [← tps_eq hg.1]
      refine pickM_congr fun t _ => ?_
      rw [hd, tab_at (hT i (Nat.le_of_succ_le hi)) (good_q hm), hV]
    rcases pick_spec hg.1 hm V _ k fun p hp => hp with ⟨_, _, d⟩ | ⟨p, j, a, b, d, e, _⟩
    · omega
    · have hcnt : rs[i].cnt (pad p) * spn (rs.take i) ≤ V := by
        unfold fW at e
        by_cases c : rs[i].cnt (pad p) * spn (rs.take i) ≤ V
        · exact c
        · rw [if_neg c] at e
          omega
      have e' := e
      unfold fW at e'
      rw [if_pos hcnt] at e'
      have hV' := hV
      rw [vAt_snoc] at hV'
      obtain ⟨a1, a2⟩ := vAt_sub (rs.take i) v (v / spn (rs.take i) % rs[i].q + load * rs[i].q) (rs[i].cnt (pad p)) (spn_pos (good_q hm))
      rw [hV'] at a1 a2
      have hle := a1.mp hcnt
      have hsub := a2 hle
      rw [hsub] at e'
      obtain ⟨ts, f1, f2, f3⟩ := nth_some h v hT i _ j (Nat.le_of_succ_le hi) e'
      obtain ⟨c1, c2⟩ := cut_pad hg.1 d
      refine ⟨ts ++ [pad p], ?_, f2.snoc c2, ?_⟩
      · show (match rs[i]? with | none => none | some r => _) = _
        rw [hr]
        dsimp only
        rw [epick, b]
        dsimp only
        rw [hd, low_pos hle, f1]
        rfl
      · rw [cuts_snoc f2, c1, nthWay_succ, List.getElem?_map, hr, map_take', place_eq]
        show (match Na.pick ((rs.take i).map toRod) (spn (rs.take i)) (decksOf rs[i]) V (Na.pushes (decksOf rs[i])) k with | none => none | some (p, j) => (Na.nthWay (rs.map toRod) i (V - Na.worthOf (decksOf rs[i]) p * spn (rs.take i)) j).map (fun (s : Na.Standing) => s ++ [p])) = _
        rw [a]
        dsimp only
        rw [worth_pad hg.1 (pushes_len _ _ d), hsub, f3]
        rfl
/-! ### the number of a standing -/
def rankM (rs : List Rd) (ds : List Nat) (tab : Nat → List Int) (ts : List Tp) : Nat → Int → Int
  | 0, _ => 0
  | i + 1, load => match rs[i]?, ts[i]? with
    | some r, some own => (r.tps.filter fun t => decide (lexT t own)).foldl (fun a t => a + atL (tab i) (lowI r.q (ds.getD i 0) load (r.cnt t)) 0) 0 + rankM rs ds tab ts i (lowI r.q (ds.getD i 0) load (r.cnt own))
    | _, _ => 0
theorem below_pad {p q : List Nat} (h : p.length = q.length) (h3 : p.length ≤ 3) : Na.below p q = decide (lexT (pad p) (pad q)) := by
  have z : ∀ n m : Nat, (n == m) = decide (n = m) := fun n m => by by_cases h : n = m <;> simp [h]
  rw [Bool.eq_iff_iff]
  match p, q, h, h3 with
  | [], [], _, _ => simp [Na.below, pad, lexT]
  | [x], [a], _, _ => simp [Na.below, pad, lexT]
  | [x, y], [a, b], _, _ => simp [Na.below, pad, lexT]
  | [x, y, w], [a, b, c], _, _ => simp [Na.below, pad, lexT]
theorem total_sm : ∀ l : List Nat, Na.total l = sm natS id l
  | [] => rfl
  | x :: l => by
    show x + Na.total l = x + sm natS id l
    rw [total_sm l]
theorem foldl_int (f : Tp → Nat) : ∀ (l : List Tp) (a : Nat), l.foldl (fun (s : Int) t => s + (f t : Int)) (a : Int) = ((a + sm natS f l : Nat) : Int)
  | [], a => by rfl
  | t :: l, a => by
    rw [List.foldl_cons]
    have e : (a : Int) + (f t : Int) = ((a + f t : Nat) : Int) := by omega
    rw [e, foldl_int f l (a + f t)]
    show _ = ((a + (f t + sm natS f l) : Nat) : Int)
    congr 1
    omega
theorem foldl_congr' {f g : Tp → Int} : ∀ {l : List Tp} (a : Int), (∀ t ∈ l, f t = g t) → l.foldl (fun s t => s + f t) a = l.foldl (fun s t => s + g t) a
  | [], _, _ => rfl
  | t :: l, a, h => by
    rw [List.foldl_cons, List.foldl_cons, h t (by simp)]
    exact foldl_congr' _ fun x hx => h x (by simp [hx])
theorem FitsAll.at_ {rs : List Rd} {ts : List Tp} (h : FitsAll rs ts) : ∀ {i : Nat} {r : Rd}, rs[i]? = some r → ∃ t, ts[i]? = some t ∧ Fits r t := by
  induction h with
  | nil => intro i r e; simp at e
  | @cons r t rs ts f h ih =>
    intro i r' e
    cases i with
    | zero =>
      have : r = r' := by simpa using e
      subst this
      exact ⟨t, rfl, f⟩
    | succ i =>
      obtain ⟨t', a, b⟩ := ih (i := i) (r := r') (by simpa using e)
      exact ⟨t', by simpa using a, b⟩
theorem FitsAll.take {rs : List Rd} {ts : List Tp} (h : FitsAll rs ts) : ∀ i, FitsAll (rs.take i) (ts.take i) := by
  induction h with
  | nil => intro i; simp; exact .nil
  | cons f h ih =>
    intro i
    cases i with
    | zero => exact .nil
    | succ i => exact .cons f (ih i)
theorem value_snoc {rs : List Rd} {ts : List Tp} (h : FitsAll rs ts) (r : Rd) (t : Tp) : valueM (rs ++ [r]) (ts ++ [t]) = valueM rs ts + r.cnt t * spn rs := by
  induction h with
  | nil =>
    show r.cnt t + r.q * 0 = 0 + r.cnt t * 1
    omega
  | @cons x u rs ts f h ih =>
    show x.cnt u + x.q * valueM (rs ++ [r]) (ts ++ [t]) = x.cnt u + x.q * valueM rs ts + r.cnt t * (x.q * spn rs)
    rw [ih, Nat.mul_add, Nat.mul_left_comm (r.cnt t), Nat.add_assoc]
theorem rankOf_succ (m : Na.Make) (s : Na.Standing) (i v : Nat) : Na.rankOf m s (i + 1) v = match m[i]?, s[i]? with
    | some r, some p => Na.waysBefore (m.take i) (Na.place m i) r.decks v p + Na.rankOf m s i (v - Na.worthOf r.decks p * Na.place m i)
    | _, _ => 0 := rfl
theorem rank_eq {rs : List Rd} {ts : List Tp} (h : ∀ r ∈ rs, r.good) (hf : FitsAll rs ts) (v : Nat) {tab : Nat → List Int} (hT : ∀ i, i ≤ rs.length → TabOk natS wN encN (rs.take i) v (tab i)) :
    ∀ (i load : Nat), i ≤ rs.length → vAt (rs.take i) v load = valueM (rs.take i) (ts.take i) → rankM rs (digitsM rs v) tab ts i (load : Int) = (Na.rankOf (rs.map toRod) (cuts rs ts) i (vAt (rs.take i) v load) : Int)
  | 0, load, _, _ => rfl
  | i + 1, load, hi, hv => by
    have hr : rs[i]? = some rs[i] := List.getElem?_eq_getElem hi
    have hg := h rs[i] (List.getElem_mem hi)
    have hm := good_take h i
    obtain ⟨own, ho, fo⟩ := hf.at_ hr
    have hd : (digitsM rs v).getD i 0 = v / spn (rs.take i) % rs[i].q := by
      rw [List.getD_eq_getElem?_getD, digit_at rs v i _ hr]
      rfl
    rw [take_snoc hr, take_snoc ho, value_snoc (hf.take i)] at hv
    rw [take_snoc hr]
    generalize hV : vAt (rs.take i ++ [rs[i]]) v load = V at hv ⊢
    have hV' := hV
    rw [vAt_snoc] at hV'
    obtain ⟨a1, a2⟩ := vAt_sub (rs.take i) v (v / spn (rs.take i) % rs[i].q + load * rs[i].q) (rs[i].cnt own) (spn_pos (good_q hm))
    rw [hV'] at a1 a2
    have hle := a1.mp (by omega)
    have hsub := a2 hle
    have ih := rank_eq h hf v hT i _ (Nat.le_of_succ_le hi) (by rw [← hsub]; omega)
    have hc : (cuts rs ts)[i]? = some (cut rs[i] own) := by
      unfold cuts
      rw [List.getElem?_zipWith, hr, ho]
    rw [rankOf_succ, List.getElem?_map, hr, hc, map_take', place_eq]
    show (match rs[i]?, ts[i]? with | some r, some own => _ | _, _ => (0 : Int)) = ((Na.waysBefore ((rs.take i).map toRod) (spn (rs.take i)) (decksOf rs[i]) V (cut rs[i] own) + Na.rankOf (rs.map toRod) (cuts rs ts) i (V - Na.worthOf (decksOf rs[i]) (cut rs[i] own) * spn (rs.take i)) : Nat) : Int)
    rw [hr, ho, worth_cut hg.1 fo, hsub, Int.natCast_add, ← ih]
    dsimp only
    rw [hd, low_pos hle]
    congr 1
    rw [foldl_congr' (g := fun t => (fW (rs.take i) rs[i] V t : Int)) 0 fun t _ => by rw [tab_at (hT i (Nat.le_of_succ_le hi)) (good_q hm), hV]]
    rw [show (0 : Int) = ((0 : Nat) : Int) from rfl, foldl_int, Nat.zero_add]
    congr 1
    unfold Na.waysBefore
    rw [total_sm, sm_map, tps_eq hg.1, List.filter_map, sm_map]
    have ef : (Na.pushes (decksOf rs[i])).filter ((fun t => decide (lexT t own)) ∘ pad) = (Na.pushes (decksOf rs[i])).filter fun x => Na.below x (cut rs[i] own) := by
      refine List.filter_congr fun p hp => ?_
      have hl := pushes_len _ _ hp
      rw [below_pad (hl.trans (cut_len hg.1 own).symm) (by rw [hl]; exact (decks_len hg.1).2), pad_cut hg.1 fo]
      rfl
    rw [ef]
    refine sm_congr natS fun p hp => ?_
    have hp' := (List.mem_filter.mp hp).1
    show fW (rs.take i) rs[i] V (pad p) = if V < Na.worthOf (decksOf rs[i]) p * spn (rs.take i) then 0 else Na.ways ((rs.take i).map toRod) (V - Na.worthOf (decksOf rs[i]) p * spn (rs.take i))
    rw [worth_pad hg.1 (pushes_len _ _ hp'), ways_eq hm]
    unfold fW
    by_cases c : rs[i].cnt (pad p) * spn (rs.take i) ≤ V
    · rw [if_pos c, if_neg (by omega)]
    · rw [if_neg c, if_pos (by omega)]
/-! ### the first standing with the fewest beads -/
def fewM (rs : List Rd) (ds : List Nat) (tab : Nat → List Int) : Nat → Int → Option (List Tp)
  | 0, _ => some []
  | i + 1, load => match rs[i]? with
    | none => none
    | some r => match r.tps.find? fun t => decide (atL (tab i) (lowI r.q (ds.getD i 0) load (r.cnt t)) (-1) ≠ -1) && decide ((many t : Int) + atL (tab i) (lowI r.q (ds.getD i 0) load (r.cnt t)) (-1) = (tab (i + 1)).getD load.toNat 0) with
      | none => none
      | some t => (fewM rs ds tab i (lowI r.q (ds.getD i 0) load (r.cnt t))).map fun s => s ++ [t]
theorem sm_trp {β : Type} (f : β → Option Nat) : ∀ (l : List β) (b : Nat), sm trpS f l = some b → ∃ x ∈ l, f x = some b
  | [], b, h => by cases h
  | x :: l, b, h => by
    have h' : tAddO (f x) (sm trpS f l) = some b := h
    cases e1 : f x with
    | none =>
      rw [e1] at h'
      obtain ⟨y, hy, e⟩ := sm_trp f l b h'
      exact ⟨y, by simp [hy], e⟩
    | some a =>
      cases e2 : sm trpS f l with
      | none =>
        rw [e1, e2] at h'
        exact ⟨x, by simp, by rw [e1]; exact h'⟩
      | some c =>
        rw [e1, e2] at h'
        have h3 : min a c = b := Option.some.inj h'
        by_cases k : a ≤ c
        · exact ⟨x, by simp, by rw [e1]; congr 1; omega⟩
        · obtain ⟨y, hy, e⟩ := sm_trp f l b (by rw [e2]; congr 1; omega)
          exact ⟨y, by simp [hy], e⟩
def fT (m : List Rd) (r : Rd) (V : Nat) (t : Tp) : Option Nat := if r.cnt t * spn m ≤ V then WT m (V - r.cnt t * spn m) else none
theorem tab_atT {m : List Rd} {r : Rd} {v : Nat} {T : List Int} (hT : TabOk trpS wT encT m v T) (hm : ∀ x ∈ m, 0 < x.q) (load : Nat) (t : Tp) :
    atL T (lowI r.q (v / spn m % r.q) (load : Int) (r.cnt t)) (-1) = encT (fT m r (vAt (m ++ [r]) v load) t) := by
  rw [low_nat]
  have e := hT.atL r.q (v / spn m % r.q) load (r.cnt t)
  rw [show encT trpS.z = -1 from rfl] at e
  rw [e]
  obtain ⟨a, b⟩ := vAt_sub m v (v / spn m % r.q + load * r.q) (r.cnt t) (spn_pos hm)
  unfold fT
  rw [vAt_snoc]
  by_cases c : r.cnt t ≤ v / spn m % r.q + load * r.q
  · rw [if_pos c, if_pos (a.mpr c), b c]
  · rw [if_neg c, if_neg fun z => c (a.mp z)]
    rfl
theorem WT_sum {m : List Rd} {r : Rd} (hm : ∀ x ∈ m, 0 < x.q) (hr : 0 < r.q) (V : Nat) : WT (m ++ [r]) V = sm trpS (fun t => tMulO (some (many t)) (fT m r V t)) r.tps := by
  show WS trpS wT (m ++ [r]) V = _
  rw [WS_snoc trpS wT r hr m V hm]
  refine sm_congr trpS fun t _ => ?_
  unfold fT
  by_cases c : r.cnt t * spn m ≤ V
  · rw [if_pos c, if_pos c]
    rfl
  · rw [if_neg c, if_neg c]
    rfl
theorem firstLeast_succ (m : Na.Make) (i v b : Nat) : Na.firstLeast m (i + 1) v b = match m[i]? with
    | none => none
    | some r => match (Na.pushes r.decks).find? fun (p : Na.Push) => decide (Na.worthOf r.decks p * Na.place m i ≤ v) && (match Na.leastBeads (m.take i) (v - Na.worthOf r.decks p * Na.place m i) with
        | some c => Na.total p + c == b
        | none => false) with
      | none => none
      | some p => (Na.firstLeast m i (v - Na.worthOf r.decks p * Na.place m i) (b - Na.total p)).map fun (s : Na.Standing) => s ++ [p] := rfl
theorem find_congr' {β : Type} {p q : β → Bool} : ∀ {l : List β}, (∀ x ∈ l, p x = q x) → l.find? p = l.find? q
  | [], _ => rfl
  | x :: l, h => by
    have hx := h x (by simp)
    have ih := find_congr' (l := l) fun y hy => h y (by simp [hy])
    by_cases c : p x = true
    · rw [List.find?_cons_of_pos c, List.find?_cons_of_pos (by rw [← hx]; exact c)]
    · rw [List.find?_cons_of_neg c, List.find?_cons_of_neg (by rw [← hx]; exact c), ih]
theorem few_some {rs : List Rd} (h : ∀ r ∈ rs, r.good) (v : Nat) {tab : Nat → List Int} (hT : ∀ i, i ≤ rs.length → TabOk trpS wT encT (rs.take i) v (tab i)) :
    ∀ (i load b : Nat), i ≤ rs.length → WT (rs.take i) (vAt (rs.take i) v load) = some b → ∃ ts, fewM rs (digitsM rs v) tab i (load : Int) = some ts ∧ FitsAll (rs.take i) ts ∧
      Na.firstLeast (rs.map toRod) i (vAt (rs.take i) v load) b = some (cuts (rs.take i) ts)
  | 0, load, b, _, hk => by
    refine ⟨[], rfl, .nil, ?_⟩
    show (if vAt [] v load = 0 ∧ b = 0 then some [] else none) = some []
    have hk' : (if vAt [] v load = 0 then some 0 else none) = some b := hk
    by_cases c : vAt [] v load = 0
    · rw [if_pos c] at hk'
      rw [if_pos ⟨c, (Option.some.inj hk').symm⟩]
    · rw [if_neg c] at hk'
      cases hk'
  | i + 1, load, b, hi, hk => by
    have hr : rs[i]? = some rs[i] := List.getElem?_eq_getElem hi
    have hg := h rs[i] (List.getElem_mem hi)
    have hm := good_take h i
    have hd : (digitsM rs v).getD i 0 = v / spn (rs.take i) % rs[i].q := by
      rw [List.getD_eq_getElem?_getD, digit_at rs v i _ hr]
      rfl
    have hTi := hT (i + 1) hi
    have hload : load < (tab (i + 1)).length := by
      by_cases c : load < (tab (i + 1)).length
      · exact c
      · have := hTi.no load (by omega)
        rw [show WS trpS wT (rs.take (i + 1)) (vAt (rs.take (i + 1)) v load) = some b from hk] at this
        cases this
    have hdue : (tab (i + 1)).getD (load : Int).toNat 0 = (b : Int) := by
      rw [Int.toNat_natCast, List.getD_eq_getElem?_getD, hTi.at_ load hload, show WS trpS wT (rs.take (i + 1)) (vAt (rs.take (i + 1)) v load) = some b from hk]
      rfl
    rw [take_snoc hr] at hk ⊢
    rw [WT_sum (good_q hm) (good_q h _ (List.getElem_mem hi))] at hk
    generalize hV : vAt (rs.take i ++ [rs[i]]) v load = V at hk ⊢
    -- both searches are one
    have key : ∀ t, (decide (atL (tab i) (lowI rs[i].q ((digitsM rs v).getD i 0) (load : Int) (rs[i].cnt t)) (-1) ≠ -1) && decide ((many t : Int) + atL (tab i) (lowI rs[i].q ((digitsM rs v).getD i 0) (load : Int) (rs[i].cnt t)) (-1) = (tab (i + 1)).getD (load : Int).toNat 0)) =
        decide (tMulO (some (many t)) (fT (rs.take i) rs[i] V t) = some b) := by
      intro t
      rw [hd, tab_atT (hT i (Nat.le_of_succ_le hi)) (good_q hm), hV, hdue]
      cases fT (rs.take i) rs[i] V t with
      | none => simp [encT, tMulO]
      | some c =>
        show (decide ((c : Int) ≠ -1) && decide ((many t : Int) + (c : Int) = (b : Int))) = decide (some (many t + c) = some b)
        rw [Bool.eq_iff_iff, Bool.and_eq_true, decide_eq_true_iff, decide_eq_true_iff, decide_eq_true_iff]
        constructor
        · rintro ⟨_, z⟩
          congr 1
          omega
        · intro z
          have := Option.some.inj z
          omega
    have keyS : ∀ p ∈ Na.pushes (decksOf rs[i]), (decide (Na.worthOf (decksOf rs[i]) p * spn (rs.take i) ≤ V) && (match Na.leastBeads ((rs.take i).map toRod) (V - Na.worthOf (decksOf rs[i]) p * spn (rs.take i)) with | some c => Na.total p + c == b | none => false)) =
        decide (tMulO (some (many (pad p))) (fT (rs.take i) rs[i] V (pad p)) = some b) := by
      intro p hp
      rw [worth_pad hg.1 (pushes_len _ _ hp), least_eq hm, total_pad (by rw [pushes_len _ _ hp]; exact (decks_len hg.1).2)]
      unfold fT
      by_cases c : rs[i].cnt (pad p) * spn (rs.take i) ≤ V
      · rw [if_pos c, decide_eq_true c, Bool.true_and]
        cases WT (rs.take i) (V - rs[i].cnt (pad p) * spn (rs.take i)) with
        | none => simp [tMulO]
        | some x =>
          show (many (pad p) + x == b) = decide (some (many (pad p) + x) = some b)
          rw [Bool.eq_iff_iff, beq_iff_eq, decide_eq_true_iff]
          constructor
          · intro z; rw [z]
          · intro z; exact Option.some.inj z
      · rw [if_neg c, decide_eq_false c, Bool.false_and]
        simp [tMulO]
    obtain ⟨t0, ht0, e0⟩ := sm_trp _ _ _ hk
    have hfind : ∃ p, (Na.pushes (decksOf rs[i])).find? (fun p => decide (tMulO (some (many (pad p))) (fT (rs.take i) rs[i] V (pad p)) = some b)) = some p := by
      rw [tps_eq hg.1, List.mem_map] at ht0
      obtain ⟨p, hp, rfl⟩ := ht0
      cases hn : (Na.pushes (decksOf rs[i])).find? (fun p => decide (tMulO (some (many (pad p))) (fT (rs.take i) rs[i] V (pad p)) = some b)) with
      | some q => exact ⟨q, rfl⟩
      | none =>
        have := List.find?_eq_none.mp hn p hp
        exact absurd (decide_eq_true e0) this
    obtain ⟨p, hp⟩ := hfind
    have hpm := List.mem_of_find?_eq_some hp
    have hpe : tMulO (some (many (pad p))) (fT (rs.take i) rs[i] V (pad p)) = some b := of_decide_eq_true (List.find?_some (p := fun p => decide (tMulO (some (many (pad p))) (fT (rs.take i) rs[i] V (pad p)) = some b)) hp)
    have efind : (rs[i].tps.find? fun t => decide (atL (tab i) (lowI rs[i].q ((digitsM rs v).getD i 0) (load : Int) (rs[i].cnt t)) (-1) ≠ -1) && decide ((many t : Int) + atL (tab i) (lowI rs[i].q ((digitsM rs v).getD i 0) (load : Int) (rs[i].cnt t)) (-1) = (tab (i + 1)).getD (load : Int).toNat 0)) = some (pad p) := by
      rw [find_congr' fun t _ => key t, tps_eq hg.1, List.find?_map]
      have e : ((fun t => decide (tMulO (some (many t)) (fT (rs.take i) rs[i] V t) = some b)) ∘ pad) = fun p => decide (tMulO (some (many (pad p))) (fT (rs.take i) rs[i] V (pad p)) = some b) := rfl
      rw [e, hp]
      rfl
    have hcnt : rs[i].cnt (pad p) * spn (rs.take i) ≤ V := by
      by_cases c : rs[i].cnt (pad p) * spn (rs.take i) ≤ V
      · exact c
      · unfold fT at hpe
        rw [if_neg c] at hpe
        cases hpe
    unfold fT at hpe
    rw [if_pos hcnt] at hpe
    have hV' := hV
    rw [vAt_snoc] at hV'
    obtain ⟨a1, a2⟩ := vAt_sub (rs.take i) v (v / spn (rs.take i) % rs[i].q + load * rs[i].q) (rs[i].cnt (pad p)) (spn_pos (good_q hm))
    rw [hV'] at a1 a2
    have hle := a1.mp hcnt
    have hsub := a2 hle
    rw [hsub] at hpe
    obtain ⟨x, hx, hxb⟩ : ∃ x, WT (rs.take i) (vAt (rs.take i) v (v / spn (rs.take i) % rs[i].q + load * rs[i].q - rs[i].cnt (pad p))) = some x ∧ many (pad p) + x = b := by
      cases hw : WT (rs.take i) (vAt (rs.take i) v (v / spn (rs.take i) % rs[i].q + load * rs[i].q - rs[i].cnt (pad p))) with
      | none => rw [hw] at hpe; cases hpe
      | some x => rw [hw] at hpe; exact ⟨x, rfl, Option.some.inj hpe⟩
    obtain ⟨ts, f1, f2, f3⟩ := few_some h v hT i _ x (Nat.le_of_succ_le hi) hx
    obtain ⟨c1, c2⟩ := cut_pad hg.1 hpm
    refine ⟨ts ++ [pad p], ?_, f2.snoc c2, ?_⟩
    · show (match rs[i]? with | none => none | some r => _) = _
      rw [hr]
      dsimp only
      rw [efind]
      dsimp only
      rw [hd, low_pos hle, f1]
      rfl
    · rw [cuts_snoc f2, c1, firstLeast_succ, List.getElem?_map, hr, map_take', place_eq]
      show (match (Na.pushes (decksOf rs[i])).find? (fun (p : Na.Push) => decide (Na.worthOf (decksOf rs[i]) p * spn (rs.take i) ≤ V) && (match Na.leastBeads ((rs.take i).map toRod) (V - Na.worthOf (decksOf rs[i]) p * spn (rs.take i)) with | some c => Na.total p + c == b | none => false)) with
        | none => none
        | some p => (Na.firstLeast (rs.map toRod) i (V - Na.worthOf (decksOf rs[i]) p * spn (rs.take i)) (b - Na.total p)).map (fun (s : Na.Standing) => s ++ [p])) = _
      rw [find_congr' keyS, hp]
      dsimp only
      rw [worth_pad hg.1 (pushes_len _ _ hpm), hsub, total_pad (by rw [pushes_len _ _ hpm]; exact (decks_len hg.1).2), show b - many (pad p) = x by omega, f3]
      rfl
end Bm

namespace Bm
/-! ### the answers, as the program gives them -/
def faultA (e : Nat × Nat) : List Int := [-5, (e.1 : Int), (e.2 : Int)]
def ansM (l : List Nat) (f : List Rd → List Int) : List Int := match readMake l with
  | .error e => faultA e
  | .ok rs => f rs
def intsN (l : List Nat) : List Int := l.map fun (n : Nat) => (n : Int)
def ansJudge (l : List Nat) : List Int := ansM l fun _ => [0]
def ansSpan (l : List Nat) : List Int := ansM l fun rs => [0, (spanM rs : Int)]
def ansDigits (v : Nat) (l : List Nat) : List Int := ansM l fun rs => if 0 < restM rs v then [-4] else 0 :: intsN (digitsM rs v)
def ansShow (v : Nat) (l : List Nat) : List Int := ansM l fun rs => if 0 < restM rs v then [-4] else 0 :: intsN (flat (List.zipWith formM rs (digitsM rs v)))
def beadAt (r : Rd) (j : Nat) : Nat := if j = 0 then r.b0 else if j = 1 then r.b1 else r.b2
def over (rs : List Rd) (c : List Nat) (k : Nat) : Bool := match rs[k / 3]? with
  | some r => decide (beadAt r (k % 3) < c.getD k 0)
  | none => false
def tpAt (c : List Nat) (i : Nat) : Tp := (c.getD (3 * i) 0, c.getD (3 * i + 1) 0, c.getD (3 * i + 2) 0)
def readStanding (rs : List Rd) (c : List Nat) : Except (Nat × Nat) (List Tp) :=
  if c.length ≠ 3 * rs.length then .error (5, c.length) else match (List.range c.length).find? (over rs c) with
    | some k => .error (5, k)
    | none => .ok ((List.range rs.length).map (tpAt c))
def ansS (l c : List Nat) (f : List Rd → List Tp → List Int) : List Int := ansM l fun rs => match readStanding rs c with
  | .error e => faultA e
  | .ok ts => f rs ts
def ansValue (l c : List Nat) : List Int := ansS l c fun rs ts => [0, (valueM rs ts : Int)]
def formedB (rs : List Rd) (ts : List Tp) : Bool := (List.zip rs ts).all fun x => decide (x.1.cnt x.2 < x.1.q) && decide (formM x.1 (x.1.cnt x.2) = x.2)
def ansFormed (l c : List Nat) : List Int := ansS l c fun rs ts => [if formedB rs ts = true then 1 else 0]
def tabW (rs : List Rd) (v : Nat) (i : Nat) : List Int := tabM cellW [1] ((rs.zip (digitsM rs v)).take i)
def tabF (rs : List Rd) (v : Nat) (i : Nat) : List Int := tabM cellF [0] ((rs.zip (digitsM rs v)).take i)
def waysI (rs : List Rd) (v : Nat) : Int := atL (tabW rs v rs.length) (restM rs v : Int) 0
def ansWays (v : Nat) (l : List Nat) : List Int := ansM l fun rs => [0, waysI rs v]
def told (x : Option (List Tp)) : List Int := match x with
  | none => [-2]
  | some ts => 0 :: intsN (flat ts)
def nthA (rs : List Rd) (v k : Nat) : Option (List Tp) := if waysI rs v ≤ (k : Int) then none else nthM rs (digitsM rs v) (tabW rs v) rs.length (restM rs v : Int) (k : Int)
def ansNth (v k : Nat) (l : List Nat) : List Int := ansM l fun rs => told (nthA rs v k)
def ansRank (l c : List Nat) : List Int := ansS l c fun rs ts => [0, rankM rs (digitsM rs (valueM rs ts)) (tabW rs (valueM rs ts)) ts rs.length (restM rs (valueM rs ts) : Int)]
def fewA (rs : List Rd) (v : Nat) : Option (List Tp) := if atL (tabF rs v rs.length) (restM rs v : Int) (-1) = -1 then none else fewM rs (digitsM rs v) (tabF rs v) rs.length (restM rs v : Int)
def ansFewest (v : Nat) (l : List Nat) : List Int := ansM l fun rs => told (fewA rs v)

/-! ### they are the specification's -/
theorem told_ofMake (l : List Nat) (f : Na.Make → Bd.Answer) (g : List Rd → List Int) (h : ∀ rs, readMake l = .ok rs → BdNeutral.told (f (rs.map toRod)) = g rs) : BdNeutral.told (Bd.ofMake l f) = ansM l g := by
  unfold Bd.ofMake ansM
  rw [makeOf_eq]
  cases hr : readMake l with
  | error e => rfl
  | ok rs => exact h rs hr
theorem ints_eq (l : List Nat) : BdNeutral.ints l = intsN l := rfl
theorem judge_eq (ns : List Int) : PyYqacaa.judge ns = ansJudge (ns.map Int.toNat) := told_ofMake _ _ _ fun _ _ => rfl
theorem span_eq (ns : List Int) : PyYqacaa.span ns = ansSpan (ns.map Int.toNat) := told_ofMake _ _ _ fun rs _ => by
  show [(0 : Int), ((Na.span (rs.map toRod) : Nat) : Int)] = _
  rw [spanM_eq]
theorem if_lt {rs : List Rd} (g : ∀ r ∈ rs, r.good) (v : Nat) {β : Type} (a b : β) : (if v < Na.span (rs.map toRod) then a else b) = if 0 < restM rs v then b else a := by
  have := rest_zero g v
  by_cases h : v < Na.span (rs.map toRod)
  · rw [if_pos h, if_neg (by have := this.mpr h; omega)]
  · rw [if_neg h, if_pos (by
      rcases Nat.eq_zero_or_pos (restM rs v) with z | z
      · exact absurd (this.mp z) h
      · exact z)]
theorem digits_eq (v : Int) (ns : List Int) : PyYqacaa.digits v ns = ansDigits v.toNat (ns.map Int.toNat) := told_ofMake _ _ _ fun rs h => by
  rw [if_lt (read_good h).1]
  split
  · rfl
  · rw [digitsM_eq]
    rfl
theorem zip_form {rs : List Rd} (g : ∀ r ∈ rs, r.good) : ∀ (ds : List Nat), (∀ (i : Nat) (r : Rd) (d : Nat), rs[i]? = some r → ds[i]? = some d → d < r.q) → Na.standingNumbers (List.zipWith Na.formOf (rs.map toRod) ds) = flat (List.zipWith formM rs ds) := by
  induction rs with
  | nil => intro ds _; rfl
  | cons r rs ih =>
    intro ds h
    cases ds with
    | nil => rfl
    | cons d ds =>
      show (List.range 3).map (fun j => (Na.formOf (toRod r) d).getD j 0) ++ Na.standingNumbers (List.zipWith Na.formOf (rs.map toRod) ds) = [(formM r d).1, (formM r d).2.1, (formM r d).2.2] ++ flat (List.zipWith formM rs ds)
      rw [ih (fun x hx => g x (by simp [hx])) ds fun i r' d' a b => h (i + 1) r' d' (by simpa using a) (by simpa using b)]
      rfl
theorem show_eq (v : Int) (ns : List Int) : PyYqacaa.show_ v ns = ansShow v.toNat (ns.map Int.toNat) := told_ofMake _ _ _ fun rs h => by
  have g := (read_good h).1
  rw [if_lt g]
  split
  · rfl
  · show 0 :: BdNeutral.ints (Na.standingNumbers (Na.shown (rs.map toRod) v.toNat)) = _
    unfold Na.shown
    rw [← digitsM_eq, zip_form g _ (digits_lt _ (good_q g))]
    rfl
theorem thereAt_eq {rs : List Rd} (g : ∀ r ∈ rs, r.good) (c : List Nat) (k : Nat) (hk : k < 3 * rs.length) : decide (Na.thereAt (rs.map toRod) k < c.getD k 0) = over rs c k := by
  have hi : k / 3 < rs.length := by omega
  have hr : rs[k / 3]? = some rs[k / 3] := List.getElem?_eq_getElem hi
  unfold Na.thereAt over
  rw [List.getElem?_map, hr]
  show decide ((((decksOf rs[k / 3])[k % 3]?).map fun (d : Na.Deck) => d.beads).getD 0 < c.getD k 0) = decide (beadAt rs[k / 3] (k % 3) < c.getD k 0)
  have hf := (g _ (List.getElem_mem hi)).1
  generalize rs[k / 3] = r at hf
  have e : (((decksOf r)[k % 3]?).map fun (d : Na.Deck) => d.beads).getD 0 = beadAt r (k % 3) := by
    have h3 : k % 3 < 3 := Nat.mod_lt _ (by decide)
    generalize k % 3 = j at h3
    unfold beadAt
    rcases fair_cases hf with ⟨e, e1, e2, _⟩ | ⟨e, e1, e2, _⟩ | ⟨e, e1, e2⟩
    · rw [e, e1, e2]
      match j, h3 with
      | 0, _ => rfl
      | 1, _ => rfl
      | 2, _ => rfl
    · rw [e, e2]
      match j, h3 with
      | 0, _ => rfl
      | 1, _ => rfl
      | 2, _ => rfl
    · rw [e]
      match j, h3 with
      | 0, _ => rfl
      | 1, _ => rfl
      | 2, _ => rfl
  rw [e]
theorem find_congrR {p q : Nat → Bool} (n : Nat) (h : ∀ k, k < n → p k = q k) : (List.range n).find? p = (List.range n).find? q := find_congr' fun x hx => h x (List.mem_range.mp hx)
theorem standingOf_eq {rs : List Rd} (g : ∀ r ∈ rs, r.good) (c : List Nat) : (match readStanding rs c with | .error e => Na.standingOf (rs.map toRod) c = .error ⟨e.1, e.2⟩ | .ok ts => FitsAll rs ts ∧ Na.standingOf (rs.map toRod) c = .ok (cuts rs ts)) := by
  unfold readStanding Na.standingOf
  rw [List.length_map]
  by_cases h : c.length ≠ 3 * rs.length
  · rw [if_pos h, if_pos h]
  · rw [if_neg h, if_neg h]
    have hl : c.length = 3 * rs.length := Classical.not_not.mp h
    rw [find_congrR c.length fun k hk => thereAt_eq g c k (by omega)]
    cases hf : (List.range c.length).find? (over rs c) with
    | some k => rfl
    | none =>
      have no : ∀ k, k < c.length → over rs c k = false := fun k hk => by
        have := List.find?_eq_none.mp hf k (List.mem_range.mpr hk)
        simpa using this
      have fit : ∀ (i : Nat) (r : Rd), rs[i]? = some r → Fits r (tpAt c i) := fun i r hr => by
        have hi : i < rs.length := (List.getElem?_eq_some_iff.mp hr).1
        have k0 := no (3 * i) (by omega)
        have k1 := no (3 * i + 1) (by omega)
        have k2 := no (3 * i + 2) (by omega)
        unfold over at k0 k1 k2
        rw [show 3 * i / 3 = i by omega, hr] at k0
        rw [show (3 * i + 1) / 3 = i by omega, hr] at k1
        rw [show (3 * i + 2) / 3 = i by omega, hr] at k2
        have k0' := of_decide_eq_false k0
        have k1' := of_decide_eq_false k1
        have k2' := of_decide_eq_false k2
        rw [show 3 * i % 3 = 0 by omega] at k0'
        rw [show (3 * i + 1) % 3 = 1 by omega] at k1'
        rw [show (3 * i + 2) % 3 = 2 by omega] at k2'
        unfold beadAt at k0' k1' k2'
        simp only [if_true, Nat.one_ne_zero, if_false, show ¬ (2 : Nat) = 0 by decide, show ¬ (2 : Nat) = 1 by decide] at k0' k1' k2'
        unfold Fits tpAt
        dsimp only
        omega
      have all : ∀ (m : List Rd) (j : Nat), (∀ (i : Nat) (r : Rd), m[i]? = some r → Fits r (tpAt c (j + i))) → (∀ r ∈ m, r.good) → FitsAll m ((List.range m.length).map fun i => tpAt c (j + i)) ∧
          ((m.map toRod).zipIdx j).map (fun (x : Na.Rod × Nat) => (List.range x.1.decks.length).map fun (d : Nat) => c.getD (3 * x.2 + d) 0) = cuts m ((List.range m.length).map fun i => tpAt c (j + i)) := by
        intro m
        induction m with
        | nil => intro j _ _; exact ⟨.nil, rfl⟩
        | cons r m ih =>
          intro j hfit hg
          obtain ⟨i1, i2⟩ := ih (j + 1) (fun i r' hr => by
            have := hfit (i + 1) r' (by simpa using hr)
            rw [show j + (i + 1) = j + 1 + i by omega] at this
            exact this) fun x hx => hg x (by simp [hx])
          have e : (List.range (r :: m).length).map (fun i => tpAt c (j + i)) = tpAt c j :: (List.range m.length).map fun i => tpAt c (j + 1 + i) := by
            rw [List.length_cons, List.range_succ_eq_map, List.map_cons, List.map_map]
            congr 1
            refine List.map_congr_left fun i _ => ?_
            show tpAt c (j + (i + 1)) = tpAt c (j + 1 + i)
            rw [show j + (i + 1) = j + 1 + i by omega]
          rw [e]
          have f0 := hfit 0 r rfl
          rw [Nat.add_zero] at f0
          refine ⟨.cons f0 i1, ?_⟩
          rw [List.map_cons, List.zipIdx_cons, List.map_cons, i2]
          show (List.range (decksOf r).length).map (fun d => c.getD (3 * j + d) 0) :: cuts m _ = cut r (tpAt c j) :: cuts m _
          congr 1
          unfold cut tpAt
          rcases fair_cases (hg r (by simp)).1 with ⟨e, _⟩ | ⟨e, _⟩ | ⟨e, _⟩ <;> rw [e] <;> rfl
      obtain ⟨a1, a2⟩ := all rs 0 (fun i r hr => by rw [Nat.zero_add]; exact fit i r hr) g
      simp only [Nat.zero_add] at a1 a2
      refine ⟨a1, ?_⟩
      show Except.ok _ = Except.ok _
      rw [← a2]
theorem told_ofStanding (l c : List Nat) (f : Na.Make → Na.Standing → Bd.Answer) (g : List Rd → List Tp → List Int) (h : ∀ rs ts, (∀ r ∈ rs, r.good) → FitsAll rs ts → BdNeutral.told (f (rs.map toRod) (cuts rs ts)) = g rs ts) : BdNeutral.told (Bd.ofStanding l c f) = ansS l c g := by
  unfold Bd.ofStanding ansS
  refine told_ofMake _ _ _ fun rs hr => ?_
  have gd := (read_good hr).1
  have := standingOf_eq gd c
  cases hs : readStanding rs c with
  | error e =>
    rw [hs] at this
    rw [show Na.standingOf (rs.map toRod) c = .error ⟨e.1, e.2⟩ from this]
    rfl
  | ok ts =>
    rw [hs] at this
    obtain ⟨a, b⟩ := this
    rw [b]
    exact h rs ts gd a
theorem value_eq (ns cs : List Int) : PyYqacaa.value ns cs = ansValue (ns.map Int.toNat) (cs.map Int.toNat) := told_ofStanding _ _ _ _ fun rs ts g f => by
  show [(0 : Int), ((Na.value (rs.map toRod) (cuts rs ts) : Nat) : Int)] = _
  rw [valueM_eq f g]
theorem formed_len {rs : List Rd} {ts : List Tp} (f : FitsAll rs ts) : (cuts rs ts).length = (rs.map toRod).length := by
  unfold cuts
  rw [List.length_zipWith, List.length_map, f.len, Nat.min_self]
theorem formed_all {rs : List Rd} {ts : List Tp} (f : FitsAll rs ts) (g : ∀ r ∈ rs, r.good) : ((List.zip (rs.map toRod) (cuts rs ts)).all fun (x : Na.Rod × Na.Push) => decide (Na.worthOf x.1.decks x.2 < x.1.ratio) && x.2 == Na.formOf x.1 (Na.worthOf x.1.decks x.2)) = formedB rs ts := by
  induction f with
  | nil => rfl
  | @cons r t rs ts f h ih =>
    show ((decide (Na.worthOf (decksOf r) (cut r t) < r.q) && cut r t == Na.formOf (toRod r) (Na.worthOf (decksOf r) (cut r t))) && _) = ((decide (r.cnt t < r.q) && decide (formM r (r.cnt t) = t)) && formedB rs ts)
    have gr := (g r (by simp)).1
    rw [← ih fun x hx => g x (by simp [hx]), worth_cut gr f]
    congr 2
    have hm := isForm_spec gr (d := r.cnt t) ⟨t, mem_tps.mpr f, rfl⟩
    obtain ⟨c1, c2⟩ := cut_pad gr hm.2
    rw [Bool.eq_iff_iff, beq_iff_eq, decide_eq_true_iff]
    unfold formM
    constructor
    · intro e
      rw [← e, pad_cut gr f]
    · intro e
      rw [← c1, e]
theorem formed_eq (ns cs : List Int) : PyYqacaa.formed ns cs = ansFormed (ns.map Int.toNat) (cs.map Int.toNat) := told_ofStanding _ _ _ _ fun rs ts g f => by
  show [(((if Na.formed (rs.map toRod) (cuts rs ts) = true then 1 else 0 : Nat)) : Int)] = [if formedB rs ts = true then 1 else 0]
  have e : Na.formed (rs.map toRod) (cuts rs ts) = formedB rs ts := by
    unfold Na.formed
    rw [formed_len f, formed_all f g]
    simp
  rw [e]
  split <;> rfl
theorem waysI_eq {rs : List Rd} (g : ∀ r ∈ rs, r.good) (v : Nat) : waysI rs v = (WN rs v : Int) := by
  have h := tabsW g v rs.length (Nat.le_refl _)
  rw [List.take_length] at h
  have e := h.atN (v / spn rs)
  rw [vAt_all] at e
  unfold waysI
  rw [restM_eq]
  exact e
theorem ways_ans (v : Int) (ns : List Int) : PyYqacaa.ways v ns = ansWays v.toNat (ns.map Int.toNat) := told_ofMake _ _ _ fun rs h => by
  have g := (read_good h).1
  show [(0 : Int), ((Na.ways (rs.map toRod) v.toNat : Nat) : Int)] = _
  rw [ways_eq g, waysI_eq g]
theorem nth_ans (v k : Int) (ns : List Int) : PyYqacaa.nth v k ns = ansNth v.toNat k.toNat (ns.map Int.toNat) := told_ofMake _ _ _ fun rs h => by
  have g := (read_good h).1
  generalize v.toNat = v
  generalize k.toNat = k
  rw [List.length_map]
  unfold nthA
  rw [waysI_eq g]
  by_cases c : WN rs v ≤ k
  · rw [if_pos (by omega), nth_none g rs.length v k (Nat.le_refl _) (by rw [List.take_length]; exact c)]
    rfl
  · rw [if_neg (by omega)]
    obtain ⟨ts, e1, e2, e3⟩ := nth_some g v (tab := tabW rs v) (fun i hi => tabsW g v i hi) rs.length (v / spn rs) k (Nat.le_refl _) (by rw [List.take_length, vAt_all]; omega)
    rw [List.take_length, vAt_all] at e3
    rw [List.take_length] at e2
    try rw [List.take_length] at e3
    have er : restM rs v = v / spn rs := restM_eq rs v
    rw [er, e1, e3]
    show 0 :: BdNeutral.ints (Na.standingNumbers (cuts rs ts)) = 0 :: intsN (flat ts)
    rw [numbers_cuts e2 g]
    rfl
theorem rank_ans (ns cs : List Int) : PyYqacaa.rank ns cs = ansRank (ns.map Int.toNat) (cs.map Int.toNat) := told_ofStanding _ _ _ _ fun rs ts g f => by
  have er : restM rs (valueM rs ts) = valueM rs ts / spn rs := restM_eq rs _
  have k := rank_eq g f (valueM rs ts) (tab := tabW rs (valueM rs ts)) (fun i hi => tabsW g _ i hi) rs.length (valueM rs ts / spn rs) (Nat.le_refl _) (by
    rw [List.take_length, vAt_all, f.len, List.take_length])
  show [(0 : Int), ((Na.rankOf (rs.map toRod) (cuts rs ts) (rs.map toRod).length (Na.value (rs.map toRod) (cuts rs ts)) : Nat) : Int)] = _
  rw [er, k, List.take_length, vAt_all, List.length_map, ← valueM_eq f g]
theorem fewest_ans (v : Int) (ns : List Int) : PyYqacaa.fewest v ns = ansFewest v.toNat (ns.map Int.toNat) := told_ofMake _ _ _ fun rs h => by
  have g := (read_good h).1
  generalize v.toNat = v
  have hT := tabsF g v rs.length (Nat.le_refl _)
  rw [List.take_length] at hT
  have e := hT.atN (v / spn rs)
  rw [vAt_all] at e
  have er : restM rs v = v / spn rs := restM_eq rs v
  unfold fewA Na.fewest
  rw [least_eq g, er]
  rw [show atL (tabF rs v rs.length) ((v / spn rs : Nat) : Int) (-1) = encT (WT rs v) from e]
  cases hw : WT rs v with
  | none =>
    rw [if_pos (show encT none = -1 from rfl)]
    rfl
  | some b =>
    rw [if_neg (by show ¬ ((b : Int) = -1); omega)]
    obtain ⟨ts, e1, e2, e3⟩ := few_some g v (tab := tabF rs v) (fun i hi => tabsF g v i hi) rs.length (v / spn rs) b (Nat.le_refl _) (by rw [List.take_length, vAt_all]; exact hw)
    rw [List.take_length, vAt_all] at e3
    rw [List.take_length] at e2
    try rw [List.take_length] at e3
    show BdNeutral.told (Bd.orNone (Na.firstLeast (rs.map toRod) (rs.map toRod).length v b)) = _
    rw [List.length_map, e1, e3]
    show 0 :: BdNeutral.ints (Na.standingNumbers (cuts rs ts)) = 0 :: intsN (flat ts)
    rw [numbers_cuts e2 g]
    rfl
/-! ### for the walks -/
theorem restM_snoc (r : Rd) : ∀ (m : List Rd) (v : Nat), restM (m ++ [r]) v = restM m v / r.q
  | [], v => rfl
  | x :: m, v => restM_snoc r m (v / x.q)
theorem restM_take {rs : List Rd} {i : Nat} {r : Rd} (h : rs[i]? = some r) (v : Nat) : restM (rs.take (i + 1)) v = restM (rs.take i) v / r.q := by
  rw [take_snoc h, restM_snoc]
theorem digit_rest {rs : List Rd} {i : Nat} {r : Rd} (h : rs[i]? = some r) (v : Nat) : (digitsM rs v)[i]? = some (restM (rs.take i) v % r.q) := by
  rw [digit_at rs v i r h, restM_eq]
  rfl
end Bm

namespace Bd0
open PySem PySem.Spec PyProof.Rows L2
abbrev St := L2.St

/-! ### sum of a tuple of ints -/
section
variable {prog : Program} {w : World} {A : Around} {E : Value → Shared → Prop} {s : Shared} {l : Addr} {its : List Value} {ns : List Int} {Q : Value → Shared → Prop}
theorem preSum_getD (f : Nat → Int) (ns : List Int) (h : ∀ i, i < ns.length → f i = ns.getD i 0) : ∀ j, j ≤ ns.length → preSum f j = (ns.take j).sum
  | 0, _ => by simp [preSum]
  | j + 1, hj => by
    have hj' : j < ns.length := hj
    rw [preSum, preSum_getD f ns h j (Nat.le_of_lt hj'), h j hj', List.take_add_one, List.getElem?_eq_getElem hj', List.sum_append]
    simp [List.getD, List.getElem?_eq_getElem hj']
theorem ints_at : ∀ {ns : List Int} {us : List Value} {i : Nat} {v : Value}, Vals (ns.map V.int) us → us[i]? = some v → ∃ t, v = .int (ns.getD i 0) t
  | [], _, i, v, .nil, h => by simp at h
  | n :: ns, u :: us, 0, v, .cons r _, h => by
    obtain ⟨t, e⟩ := r
    simp at h
    subst h
    exact ⟨t, by rw [e]; rfl⟩
  | n :: ns, u :: us, i + 1, v, .cons _ t, h => by
    have := ints_at (i := i) (v := v) t (by simpa using h)
    simpa [List.getD] using this
theorem sum_tup (hh : A.handled = none) (hl : s.heap.IsTuple l its.toArray) (hi : Vals (ns.map V.int) its)
    (h : ∀ h' tk t', (∀ b o, s.heap.get? b = some o → h'.get? b = some o) → Q (.int ns.sum t') { s with heap := h', toks := tk }) : wpAny (model prog w) A (call (.builtin "sum") [.ref l]) Q E s := by
  have hlt : l < s.heap.objs.size := by obtain ⟨_, e, _⟩ := hl; exact Heap.lt_size e
  have hne : l ≠ s.heap.objs.size := Nat.ne_of_lt hlt
  have hlen : its.length = ns.length := by have := hi.length; simpa using this.symm
  refine call_sum_walkG (wpAny_pyIter_tuple hl ?_)
  refine ⟨_, _, _, _, _, _, fun i => ns.getD i 0, rfl, Walks.tuple (A := A.in1) hh _ l hne its.toArray, ⟨⟨_, Heap.get?_push_size _ rfl, rfl, rfl⟩, hl.at fun o e => Heap.get?_push_of_some _ e⟩, fun b hb => ?_, fun i v hv => ints_at hi (by simpa using hv), fun h' tk t' hk => ?_⟩
  · show b < (s.heap.push _).objs.size
    rw [Heap.size_push]
    rcases List.mem_cons.mp hb with rfl | hb
    · exact Nat.lt_succ_self _
    · rcases List.mem_cons.mp hb with rfl | hb
      · exact Nat.lt_succ_of_lt hlt
      · cases hb
  · have := h h' tk t' (fun b o e => hk b o (fun hm => by
      rcases List.mem_cons.mp hm with e1 | hm
      · subst e1
        exact absurd (Heap.lt_size e) (Nat.lt_irrefl _)
      · cases hm) (Heap.get?_push_of_some _ e))
    rw [show its.toArray.size = ns.length by simpa using hlen, preSum_getD _ ns (fun _ _ => rfl) ns.length (Nat.le_refl _), List.take_length]
    exact this
end
def rSumT (K : PySem.W.Frag) : List V → Hp → VK → Prop := fun vs H Q => ∃ (a : Addr) (ns : List Int), vs = [V.ref a] ∧ SqT K H a (ns.map V.int) ∧ Q (.int ns.sum) H
theorem cr_sumT {X : Cx} (hc : X.calm = true) : CallR X (.builtin "sum") (rSumT X.K) := by
  intro pins s σ H vs us Q I r h
  obtain ⟨a, ns, rfl, hs, q⟩ := h
  obtain ⟨its, rv, hl, _⟩ := I.tuple hs
  rw [Vals.ref1 r]
  exact sum_tup (I.ok.hd hc) (show s.heap.IsTuple a its.toArray from hl) rv fun h' tk t' hk => ⟨.int _, H, I.kept hk, ⟨_, rfl⟩, q⟩

/-! ### zip of a tuple and a list -/
def ItzTL (K : PySem.W.Frag) (a b : Addr) : It :=
  ⟨fun i H => ∃ (xs ys : List V) (x y : V), SqT K H a xs ∧ SqL K H b ys ∧ xs[i]? = some x ∧ ys[i]? = some y,
    fun i H v H' => ∃ T x y, v = .ref T ∧ H T = none ∧ H' = upd H T (.tup [x, y]) ∧ (∀ xs, SqT K H a xs → xs[i]? = some x) ∧ ∀ ys, SqL K H b ys → ys[i]? = some y,
    fun i H => ∃ xs ys : List V, SqT K H a xs ∧ SqL K H b ys ∧ i ≤ xs.length ∧ i ≤ ys.length ∧ (xs.length = i ∨ ys.length = i)⟩
theorem sep_of {z TI TO i1 i2 a b : Addr} (D : ZipApart z TI TO i1 i2 a b) : ZipSep2 z TI TO i1 i2 [i1, a] [i2, b] where
  TIz := D.TIz
  TOz := D.TOz
  TITO := D.TITO
  TIi1 := D.TIi1
  mem1 := by simp
  zf1 := by simp [D.i1z.symm, D.l1z.symm]
  Tf1 := by simp [D.TOi1, D.l1TO.symm]
  TIi2 := D.TIi2
  mem2 := by simp
  zf2 := by simp [D.i2z.symm, D.l2z.symm]
  Tf2 := by simp [D.TOi2, D.l2TO.symm]
  sep1_2 := by simp [D.i12, D.l2i1.symm]
  sep2_1 := by simp [D.i12.symm, D.l1i2.symm]
theorem turn_zipTL {P : Program} {w : World} {K : PySem.W.Frag} {elts : List Expr} {kk : Nat} {tpos : Pos} {a b z TI TO i1 i2 : Addr} (D : ZipApart z TI TO i1 i2 a b) :
    Turn P w K (.Tuple elts kk tpos) (ItzTL K a b) [z, TI, TO, i1, i2] z (fun i h => IsZip h z TI TO .none ∧ IsPair h TI (.ref i1) (.ref i2) ∧ (∃ x y, IsPair h TO x y) ∧ h.IsTupleIter i1 a i ∧ h.IsListIter i2 b i) where
  mem := by simp
  obj := fun i h st c hc => by
    obtain ⟨hz, hTI, ⟨x, y, hTO⟩, ⟨o1, e1, _, d1⟩, ⟨o2, e2, _, d2⟩⟩ := st
    have e' : c = z ∨ c = TI ∨ c = TO ∨ c = i1 ∨ c = i2 := by simpa using hc
    rcases e' with q | q | q | q | q
    · rw [q]; exact ⟨_, hz, fun v q => nomatch q⟩
    · rw [q]; exact ⟨_, hTI, fun v q => nomatch q⟩
    · rw [q]; exact ⟨_, hTO, fun v q => nomatch q⟩
    · rw [q]; exact ⟨o1, e1, fun v q => by rw [d1] at q; cases q⟩
    · rw [q]; exact ⟨o2, e2, fun v q => by rw [d2] at q; cases q⟩
  keep := fun i h h' st k => by
    obtain ⟨hz, hTI, ⟨x, y, hTO⟩, h1, h2⟩ := st
    exact ⟨k z (by simp) _ hz, k TI (by simp) _ hTI, ⟨x, y, k TO (by simp) _ hTO⟩, h1.at fun o q => k i1 (by simp) o q, h2.at fun o q => k i2 (by simp) o q⟩
  item := by
    intro X hP hw hK hc i pins s σ H E I hf st hg
    subst hP hw hK
    obtain ⟨hz, hTI, ⟨x0, y0, hTO⟩, h1, h2⟩ := st
    obtain ⟨xs, ys, x, y, hqx, hqy, hx, hy⟩ := hg
    obtain ⟨its, rv, p, _⟩ := I.tuple hqx
    obtain ⟨its2, rv2, p2, _⟩ := I.list hqy
    obtain ⟨u, hu, ru⟩ := rv.get hx
    obtain ⟨u2, hu2, ru2⟩ := rv2.get hy
    have hzl : z < s.heap.objs.size := Heap.lt_size hz
    have hh := I.ok.hd hc
    have n1 : i < its.toArray.size := by have := (List.getElem?_eq_some_iff.mp hu).1; simpa using this
    have n2 : i < its2.toArray.size := by have := (List.getElem?_eq_some_iff.mp hu2).1; simpa using this
    refine wpAny_pyNext_zipD2_item (sep_of D) (Draws.tuple (A := X.A.in1) hh i1 a D.l1i1 its.toArray) (Draws.list (A := X.A.in1) hh i2 b D.l2i2 its2.toArray) hz hTI hTO ⟨h1, p⟩ ⟨h2, p2.isList⟩ n1 n2 fun v1 v2 h' tk e1 e2 z' TO' h1' h2' hT hsz hk => ?_
    have f1 : v1 = u := Option.some.inj (e1.symm.trans (show its.toArray[i]? = some u by simpa using hu))
    have f2 : v2 = u2 := Option.some.inj (e2.symm.trans (show its2.toArray[i]? = some u2 by simpa using hu2))
    subst f1 f2
    refine ⟨_, rfl, wpAny_letOwnedTupleGo_zip (s := { s with heap := h', toks := tk }) z' fun h'' z'' sb => ?_⟩
    have hT2 : h''.get? s.heap.objs.size = some { cls := .type "tuple", data := .seq #[v1, v2] } := (sb.2 _ (Nat.ne_of_gt hzl)).trans hT
    have new : ObjOk X.prog X.w (upd H s.heap.objs.size (.tup [x, y])) h'' s.heap.objs.size (.tup [x, y]) :=
      ⟨by show 2 ≤ sizeLine; decide, [v1, v2], .cons ru (.cons ru2 .nil), ⟨_, hT2, rfl, _, rfl⟩⟩
    have I1 : Inv X pins σ (upd H s.heap.objs.size (.tup [x, y])) { s with heap := h'', toks := tk } :=
      I.turnedNew (t' := tk) (ch := [z, TI, TO, i1, i2]) (fun c o hb q => (sb.2 c (fun q' => hb (by simp [q']))).trans (hk c o (fun q' => hb (by simp [q'])) (fun q' => hb (by simp [q'])) (fun q' => hb (by simp [q'])) (fun q' => hb (by simp [q'])) q)) hf (Nat.le_refl _) new
    refine ⟨.ref s.heap.objs.size, _, I1, rfl, ⟨_, x, y, rfl, I.hok.fresh (Nat.le_refl _), rfl, fun l hl => by rw [I.tuple_inj hl hqx]; exact hx, fun l hl => by rw [I.list_inj hl hqy]; exact hy⟩, ⟨z'', ?_, ⟨v1, v2, ?_⟩, ?_, ?_⟩, fun c hcm => ?_⟩
    · exact (sb.2 _ D.TIz).trans (hk _ _ D.TIz D.TITO D.TIi1 D.TIi2 hTI)
    · exact (sb.2 _ D.TOz).trans TO'
    · exact h1'.1.at fun o q => (sb.2 _ D.i1z).trans q
    · exact h2'.1.at fun o q => (sb.2 _ D.i2z).trans q
    · have hlt : c < s.heap.objs.size := by
        have e' : c = z ∨ c = TI ∨ c = TO ∨ c = i1 ∨ c = i2 := by simpa using hcm
        rcases e' with q | q | q | q | q
        · rw [q]; exact hzl
        · rw [q]; exact Heap.lt_size hTI
        · rw [q]; exact Heap.lt_size hTO
        · rw [q]; obtain ⟨_, e1, _⟩ := h1; exact Heap.lt_size e1
        · rw [q]; obtain ⟨_, e2, _⟩ := h2; exact Heap.lt_size e2
      rw [upd_ne (Nat.ne_of_lt hlt)]
      exact (hf c hcm).1
  done := by
    intro X hP hw hK hc i pins s σ H E I hf st hg
    subst hP hw hK
    obtain ⟨hz, hTI, ⟨x0, y0, hTO⟩, h1, h2⟩ := st
    obtain ⟨xs, ys, hqx, hqy, hl1, hl2, hend⟩ := hg
    obtain ⟨its, rv, p, _⟩ := I.tuple hqx
    obtain ⟨its2, rv2, p2, _⟩ := I.list hqy
    have l1 : xs.length = its.toArray.size := by simpa using rv.length
    have l2 : ys.length = its2.toArray.size := by simpa using rv2.length
    have hh := I.ok.hd hc
    exact wpAny_pyNext_zipD2_end (sep_of D) (Draws.tuple (A := X.A.in1) hh i1 a D.l1i1 its.toArray) (Draws.list (A := X.A.in1) hh i2 b D.l2i2 its2.toArray) hz hTI hTO ⟨h1, p⟩ ⟨h2, p2.isList⟩ (by omega) (by omega) (by omega) fun h' tk hk => ⟨rfl, I.turnedL (t' := tk) (ch := [z, TI, TO, i1, i2]) (fun c o hb q =>
      hk c o (fun q' => hb (by simp [q'])) (fun q' => hb (by simp [q'])) (fun q' => hb (by simp [q'])) (fun q' => hb (by simp [q'])) q) hf⟩
  self := fun A i s Q E st h => wpAny_pyIter_zip st.1 h
/-- zip of two sequences: list and list, or tuple and list -/
def iZipB (K : PySem.W.Frag) (ta : TA) : TI := fun σ H R => ta σ H fun vs H1 => ∃ a b xs ys, vs = [.ref a, .ref b] ∧ ((SqL K H1 a xs ∧ SqL K H1 b ys ∧ R (Itz K a b) H1) ∨ (SqT K H1 a xs ∧ SqL K H1 b ys ∧ R (ItzTL K a b) H1))
theorem pi_zipB {X : Cx} {e e2 : Expr} {ta : TA} {p pos tpos : Pos} {elts : List Expr} {kk : Nat} (hg : Gl X "zip") (hm : X.mg "zip" = none) (ha : PA X [e, e2] ta)
    (hs : starEach [e, e2] X.env = (false, eval e X.env) :: starEach [e2] X.env := by rfl) (hpl : (backTo pos (starEach [e2] X.env)).any (·.1) = false := by rfl) :
    PI X (.Tuple elts kk tpos) (.Call (.Name "zip" p) [e, e2] [] pos) (iZipB X.K ta) := by
  refine ⟨fun pins s σ H R I h => ?_⟩
  refine Call_ (ld_blt I hg hm PyProof.Rows.boot_zip (PyProof.Rows.callWith_type1 (thn (ha.run pos pins s σ H _ I h) fun us s1 ⟨vs, H1, I1, r1, q1⟩ => ?_) hs hpl))
  obtain ⟨a, b, xs, ys, ex, q1⟩ := q1
  subst ex
  cases r1 with
  | cons r rr =>
    cases rr with
    | cons r' rr =>
      cases rr
      cases r
      cases r'
      have fresh5 : ∀ c, c ∈ [s1.heap.objs.size + 4, s1.heap.objs.size + 2, s1.heap.objs.size + 3, s1.heap.objs.size, s1.heap.objs.size + 1] → FpOk X pins H1 c := fun c hcm => by
        have e' : c = s1.heap.objs.size + 4 ∨ c = s1.heap.objs.size + 2 ∨ c = s1.heap.objs.size + 3 ∨ c = s1.heap.objs.size ∨ c = s1.heap.objs.size + 1 := by simpa using hcm
        have hle : s1.heap.objs.size ≤ c := by
          rcases e' with z | z | z | z | z
          · rw [z]; exact Nat.le_add_right _ _
          · rw [z]; exact Nat.le_add_right _ _
          · rw [z]; exact Nat.le_add_right _ _
          · rw [z]; exact Nat.le_refl _
          · rw [z]; exact Nat.le_add_right _ _
        exact I1.fpOk hle (I1.hok.fresh hle)
      rcases q1 with ⟨hqx, hqy, q⟩ | ⟨hqx, hqy, q⟩
      · obtain ⟨its, rv, p1, _⟩ := I1.list hqx
        obtain ⟨its2, rv2, p2, _⟩ := I1.list hqy
        refine call_zip_2 p1.isList p2.isList fun h' hz hTI hTO h1 h2 hsz hk => wpAny_pyIter_zip hz ?_
        have I2 : Inv X pins σ H1 { s1 with heap := h' } := I1.kept (t' := s1.toks) hk
        exact ⟨s1.heap.objs.size + 4, [s1.heap.objs.size + 4, s1.heap.objs.size + 2, s1.heap.objs.size + 3, s1.heap.objs.size, s1.heap.objs.size + 1], _, _, H1, rfl, I2, turn_zip (PySem.W.ktu_apart s1.heap.objs.size a b p1.lt p2.lt), ⟨hz, hTI, ⟨_, _, hTO⟩, h1, h2⟩, fresh5, q⟩
      · obtain ⟨its, rv, p1, _⟩ := I1.tuple hqx
        obtain ⟨its2, rv2, p2, _⟩ := I1.list hqy
        obtain ⟨o1, ho1, _⟩ := id p1
        refine zip_begins2 (begins_tuple a its.toArray) (begins_list b its2.toArray) p1 p2.isList fun h' hz hTI hTO h1 h2 hsz hk => wpAny_pyIter_zip hz ?_
        have I2 : Inv X pins σ H1 { s1 with heap := h' } := I1.kept (t' := s1.toks) hk
        exact ⟨s1.heap.objs.size + 4, [s1.heap.objs.size + 4, s1.heap.objs.size + 2, s1.heap.objs.size + 3, s1.heap.objs.size, s1.heap.objs.size + 1], _, _, H1, rfl, I2, turn_zipTL (PySem.W.ktu_apart s1.heap.objs.size a b (Heap.lt_size ho1) p2.lt), ⟨hz, hTI, ⟨_, _, hTO⟩, ⟨_, h1, rfl, rfl⟩, ⟨_, h2, rfl, rfl⟩⟩, fresh5, q⟩
end Bd0

namespace Bd0
open PySem PySem.Spec PyProof.Rows L2
open Bm (Tp lexT)
/-! ### max of a list of tuples of three ints -/
abbrev vn (n : Nat) : V := .int (n : Int)
def tupV (t : Tp) : List V := [vn t.1, vn t.2.1, vn t.2.2]
def tupD (t : Tp) : PyData := .tuple ([(t.1 : Int), (t.2.1 : Int), (t.2.2 : Int)].map .int)
theorem dataLt_tup (t u : Tp) : PySem.W.dataLt (tupD t) (tupD u) = decide (lexT t u) := by
  unfold tupD
  rw [PySem.W.dataLt_tuple]
  show PySem.W.rowLt _ _ = _
  rw [PySem.W.dataLt_ints, Bool.eq_iff_iff, decide_eq_true_iff, decide_eq_true_iff]
  unfold lexT
  simp only [List.cons_lt_cons_iff, List.not_lt_nil, and_false, or_false]
  omega
theorem alike_tup (t u : Tp) : PySem.W.alike (tupD t) (tupD u) = true := by
  unfold tupD
  simp [PySem.W.alike, PySem.W.alikeAll]
theorem depth_tup (t : Tp) : (tupD t).depth = 1 := by
  unfold tupD
  simp [PyData.depth, PyData.depthAll]
theorem depth_tups : ∀ ts : List Tp, PyData.depthAll (ts.map tupD) ≤ 1
  | [] => by simp [PyData.depthAll]
  | t :: ts => by
    rw [List.map_cons, PyData.depthAll, depth_tup]
    have := depth_tups ts
    omega
theorem argBest_lex (ts : List Tp) (d : Tp) : ∀ k, argBest (fun i j => decide (lexT (ts.getD j d) (ts.getD i d))) k ≤ k ∧ ∀ j, j ≤ k → ¬ lexT (ts.getD (argBest (fun i j => decide (lexT (ts.getD j d) (ts.getD i d))) k) d) (ts.getD j d)
  | 0 => ⟨Nat.le_refl _, fun j hj => by
    have : j = 0 := by omega
    subst this
    show ¬ lexT (ts.getD 0 d) (ts.getD 0 d)
    unfold lexT
    omega⟩
  | k + 1 => by
    obtain ⟨i1, i2⟩ := argBest_lex ts d k
    generalize hb : argBest (fun i j => decide (lexT (ts.getD j d) (ts.getD i d))) k = b at i1 i2
    have e : argBest (fun i j => decide (lexT (ts.getD j d) (ts.getD i d))) (k + 1) = if lexT (ts.getD b d) (ts.getD (k + 1) d) then k + 1 else b := by
      show (if decide (lexT (ts.getD (argBest (fun i j => decide (lexT (ts.getD j d) (ts.getD i d))) k) d) (ts.getD (k + 1) d)) = true then k + 1 else argBest (fun i j => decide (lexT (ts.getD j d) (ts.getD i d))) k) = _
      rw [hb]
      simp only [decide_eq_true_eq]
    rw [e]
    by_cases c : lexT (ts.getD b d) (ts.getD (k + 1) d)
    · rw [if_pos c]
      refine ⟨Nat.le_refl _, fun j hj => ?_⟩
      by_cases hj' : j = k + 1
      · subst hj'
        unfold lexT
        omega
      · have h2 := i2 j (by omega)
        unfold lexT at *
        omega
    · rw [if_neg c]
      refine ⟨by omega, fun j hj => ?_⟩
      by_cases hj' : j = k + 1
      · subst hj'
        exact c
      · exact i2 j (by omega)
theorem cmpIn_congr {prog : Program} {w : World} {A : Around} {op : CmpOp} {H : Heap} {P : Nat → Value → Prop} {bt bt' : Nat → Nat → Bool} (h : CmpIn prog w A op H P bt)
    (e : ∀ i j vi vj, P i vi → P j vj → bt i j = bt' i j) : CmpIn prog w A op H P bt' := fun i j vi vj s Q E k hi hj q => h i j vi vj s Q E k hi hj (by rw [e i j vi vj hi hj]; exact q)
theorem max_tups {prog : Program} {w : World} {A : Around} {E : Value → Shared → Prop} {s : Shared} {l : Addr} {vs : Array Value} {ts : List Tp} {as : List Addr} {Q : Value → Shared → Prop} (hh : A.handled = none) (hl : s.heap.IsList l vs)
    (hr : ReadsAll s.heap vs.toList (ts.map tupD) as) (hn : 0 < ts.length) (hu : A.units + 8 < cLine)
    (h : ∀ (i : Nat) v h' tk, vs[i]? = some v → i < ts.length → (∀ u ∈ ts, ¬ lexT (ts.getD i (0, 0, 0)) u) → (∀ b o, s.heap.get? b = some o → h'.get? b = some o) → Q v { s with heap := h', toks := tk }) :
    wpAny (model prog w) A (call (.builtin "max") [.ref l]) Q E s := by
  have hsz : vs.size = ts.length := by have := PySem.W.readsAll_len hr; rw [List.length_map] at this; exact this
  refine call_max_walkH (PySem.W.iter_listW (A := A.in1) hh hl fun s₂ e W st hfp hw hk => ?_)
  have ha : PySem.W.AlikeAll (ts.map tupD) := by
    refine ⟨fun x hx y hy => ?_, fun x hx => ?_⟩
    · obtain ⟨t, _, rfl⟩ := List.mem_map.mp hx
      obtain ⟨u, _, rfl⟩ := List.mem_map.mp hy
      exact alike_tup t u
    · obtain ⟨t, _, rfl⟩ := List.mem_map.mp hx
      unfold tupD
      intro z
      cases z
  have hd := depth_tups ts
  have cmp := PySem.W.cmpIn_gt (prog := prog) (w := w) (A := A.in1) hr ha (by show A.units + 1 + _ < _; omega)
  have at_ : ∀ i v, vs[i]? = some v → (ts.map tupD).getD i .none = tupD (ts.getD i (0, 0, 0)) := fun i v hv => by
    have hi : i < ts.length := by
      have := (Array.getElem?_eq_some_iff.mp hv).1
      omega
    rw [List.getD_eq_getElem?_getD, List.getD_eq_getElem?_getD, List.getElem?_map, List.getElem?_eq_getElem hi]
    rfl
  have cmp2 := cmpIn_congr (bt' := fun i j => decide (lexT (ts.getD j (0, 0, 0)) (ts.getD i (0, 0, 0)))) cmp fun i j vi vj hi hj => by
    rw [at_ i vi hi, at_ j vj hj, dataLt_tup]
  refine ⟨_, _, _, _, _, _, _, s.heap, _, rfl, W, st, hfp, by omega, hw, hk, cmp2, fun v s' hP m => ?_⟩
  obtain ⟨h', tk, rfl, hk'⟩ := PySem.W.moved_old e rfl m
  obtain ⟨b1, b2⟩ := argBest_lex ts (0, 0, 0) (vs.size - 1)
  refine h _ v h' tk hP (by omega) (fun u hu => ?_) hk'
  obtain ⟨j, hj, e⟩ := List.getElem_of_mem hu
  have := b2 j (by omega)
  rw [List.getD_eq_getElem?_getD (i := j), List.getElem?_eq_getElem hj] at this
  rw [← e]
  exact this
def rMaxT (K : PySem.W.Frag) : List V → Hp → VK → Prop := fun vs H Q => ∃ (a : Addr) (xs : List V) (ts : List Tp), vs = [V.ref a] ∧ SqL K H a xs ∧ DpAll K H xs (ts.map tupD) ∧ 0 < ts.length ∧
  ∀ (i : Nat) (x : V) (t : Tp), xs[i]? = some x → ts[i]? = some t → (∀ u ∈ ts, ¬ lexT t u) → Q x H
theorem cr_maxT {X : Cx} (hc : X.calm = true) (hu : X.A.units + 8 < cLine) : CallR X (.builtin "max") (rMaxT X.K) := by
  intro pins s σ H vs us Q I r h
  obtain ⟨a, xs, ts, rfl, hs, hd, hn, q⟩ := h
  obtain ⟨its, rv, hl, _⟩ := I.list hs
  obtain ⟨as, hr⟩ := Dp.readsAll I _ _ its hd rv
  rw [Vals.ref1 r]
  refine max_tups (I.ok.hd hc) hl.isList (by simpa using hr) hn hu fun i v h' tk hv hi hbest hk => ?_
  have hx : i < xs.length := by
    have := (Array.getElem?_eq_some_iff.mp hv).1
    have e := rv.length
    simp at this
    omega
  obtain ⟨u, hu1, ru⟩ := rv.get (List.getElem?_eq_getElem hx)
  have ev : v = u := Option.some.inj (hv.symm.trans (by simpa using hu1))
  subst ev
  exact ⟨xs[i], H, I.kept hk, ru, q i _ _ (List.getElem?_eq_getElem hx) (List.getElem?_eq_getElem hi) (by rw [List.getD_eq_getElem?_getD, List.getElem?_eq_getElem hi] at hbest; exact hbest)⟩

/-! ### an attribute as a target -/
def gFld (K : PySem.W.Frag) (ta : TE) (f : Str) : TG := fun y σ H Q => ta σ H fun x H2 => ∃ a C dx fs, x = .ref a ∧ H2 a = some (.ins C dx fs) ∧ Cls K C ∧ NoAttr K C f ∧ fs.length < 1000 ∧ Q σ (upd H2 a (.ins C dx (putF f y fs)))
theorem pg_fld {X : Cx} {o : Expr} {f : Str} {pos : Pos} {ta : TE} (ha : PE X o ta)
    (hb : ∀ v, assign (.Attribute o f pos) X.env v = (do
      let ov ← holding [v] (eval o X.env)
      standAt pos.atName
      holding [v, ov] (setAttr ov f v)
      release [v, ov] []) := by intro _; rfl) : PG X (.Attribute o f pos) (gFld X.K ta f) := by
  refine ⟨fun pins s σ H v u Q I r h => ?_⟩
  rw [hb]
  refine wpAny_bind (wpAny_holding (thn (ha.run pins s σ H _ I h) fun ov s1 ⟨x, H1, I1, r1, a, C, dx, fs, ex, ea, c, n, l, q⟩ => ?_))
  subst ex
  obtain rfl : ov = Value.ref a := r1
  refine wpAny_bind (wpAny_standAt (wpAny_bind (wpAny_holding (setattr_ok I1 ea c n l r fun s2 I2 => ?_))))
  exact wpAny_release ⟨σ, _, I2, q⟩

/-! ### callees in one piece -/
section
variable (P : Program) (w : World) (K : PySem.W.Frag) (mg : Str → Option Value) (base : Heap)
structure Fn (CX : CXT) (k : Nat) (x : Str) (ps : List Str) (sp : Sp) : Prop where
  ex : ∃ f fd, FnOk P w K mg base CX k f fd ps sp ∧ mg x = some (.ref f) ∧ PySem.W.keepIn K (.ref f) = true ∧ Binds K fd ps []
structure Mt (C : Addr) (k : Nat) (m : Str) (ps : List Str) (sp : Sp) : Prop where
  ex : ∃ f fd, FnOk P w K mg base CX0 k f fd ps sp ∧ Meth K C m f ∧ Binds K fd ps []
structure Mkr (C : Addr) (k : Nat) (x : Str) (ps : List Str) (sp : Sp) : Prop where
  ex : ∃ f fd, FnOk P w K mg base CX0 k f fd ps sp ∧ Mk K C f ∧ mg x = some (.ref C) ∧ Binds K fd ps []
end
section
variable {X : Cx} {CX : CXT} {k j : Nat} {C : Addr} {ps : List Str} {sp : Sp} {E : XK} {x m : Str} {p pos apos : Pos} {e o : Expr} {es : List Expr} {ta : TE} {t : TA}
theorem Fn.mono {P : Program} {w : World} {K : PySem.W.Frag} {mg : Str → Option Value} {base : Heap} (F : Fn P w K mg base CX j x ps sp) (h : j ≤ k) : Fn P w K mg base CX k x ps sp := by
  obtain ⟨f, fd, a, b⟩ := F.ex
  exact ⟨f, fd, a.mono h, b⟩
theorem Mt.mono {P : Program} {w : World} {K : PySem.W.Frag} {mg : Str → Option Value} {base : Heap} (F : Mt P w K mg base C j m ps sp) (h : j ≤ k) : Mt P w K mg base C k m ps sp := by
  obtain ⟨f, fd, a, b⟩ := F.ex
  exact ⟨f, fd, a.mono h, b⟩
theorem Mkr.mono {P : Program} {w : World} {K : PySem.W.Frag} {mg : Str → Option Value} {base : Heap} (F : Mkr P w K mg base C j x ps sp) (h : j ≤ k) : Mkr P w K mg base C k x ps sp := by
  obtain ⟨f, fd, a, b⟩ := F.ex
  exact ⟨f, fd, a.mono h, b⟩
theorem pe_fn (F : Fn X.prog X.w X.K X.mg X.base CX0 k x ps sp) (hr : Room k X.A) (hg : Gl X x)
    (ha : PA X (e :: es) t) (hdb : (x == ("__debug__" : Str)) = false := by decide) (he : starEach (e :: es) X.env = (false, eval e X.env) :: starEach es X.env := by rfl) (hpl : (backTo pos (starEach es X.env)).any (·.1) = false := by rfl) :
    PE X (.Call (.Name x p) (e :: es) [] pos) (tCall sp [] E0 t) := by
  obtain ⟨f, fd, a, b, c, d⟩ := F.ex
  exact pe_call a hr hg b c d .nil pass0 ha hdb he hpl
theorem pe_mt {pl : Sem Bool} (he : PE X o ta) (c : Cls X.K C) (F : Mt X.prog X.w X.K X.mg X.base C k m ps sp) (hr : Room k X.A) (ha : PA X (e :: es) t)
    (hst : starEach (e :: es) X.env = (false, eval e X.env) :: starEach es X.env := by rfl) (hpl : (backTo pos (starEach es X.env)).any (·.1) = false := by rfl)
    (ht : eval (.Call (.Attribute o m apos) (e :: es) [] pos) X.env = (do
      let ov ← eval o X.env
      standAt apos.atName
      let (f, first) ← holding [ov] (getMethod ov m pl)
      callWith pos f first (backTo pos (starEach (e :: es) X.env)) (backToKw pos (keywordEach [] X.env))) := by rfl) :
    PE X (.Call (.Attribute o m apos) (e :: es) [] pos) (tMeth C m sp [] E0 ta t) := by
  obtain ⟨f, fd, a, b, d⟩ := F.ex
  exact pe_meth he c b a hr d .nil pass0 ha hst hpl ht
theorem pe_mt0 {pl : Sem Bool} (he : PE X o ta) (c : Cls X.K C) (F : Mt X.prog X.w X.K X.mg X.base C k m ps sp) (hr : Room k X.A)
    (ht : eval (.Call (.Attribute o m apos) [] [] pos) X.env = (do
      let ov ← eval o X.env
      standAt apos.atName
      let (f, first) ← holding [ov] (getMethod ov m pl)
      callWith pos f first (backTo pos (starEach [] X.env)) (backToKw pos (keywordEach [] X.env))) := by rfl) :
    PE X (.Call (.Attribute o m apos) [] [] pos) (tMeth C m sp [] E0 ta tNil) := by
  obtain ⟨f, fd, a, b, d⟩ := F.ex
  exact pe_meth0 he c b a hr d .nil pass0 ht
theorem pe_mk (F : Mkr X.prog X.w X.K X.mg X.base C k x ps sp) (hr : Room (k + 1) X.A) (hg : Gl X x)
    (ha : PA X (e :: es) t) (hdb : (x == ("__debug__" : Str)) = false := by decide) (he : starEach (e :: es) X.env = (false, eval e X.env) :: starEach es X.env := by rfl) (hpl : (backTo pos (starEach es X.env)).any (·.1) = false := by rfl) :
    PE X (.Call (.Name x p) (e :: es) [] pos) (tMake C sp [] E0 t) := by
  obtain ⟨f, fd, a, b, c, d⟩ := F.ex
  exact pe_make b a hr hg c d .nil pass0 ha hdb he hpl
/-- a call that may raise, in a try -/
theorem pe_fnS {E : St → XK} (F : Fn X.prog X.w X.K X.mg X.base (L2.CX X.prog X.w) k x ps sp) (hr : Room k X.A) (hg : Gl X x) (hx : ∀ σ, PassesAt (L2.CX X.prog X.w) X σ (E σ))
    (ha : PA X (e :: es) t) (hdb : (x == ("__debug__" : Str)) = false := by decide) (he : starEach (e :: es) X.env = (false, eval e X.env) :: starEach es X.env := by rfl) (hpl : (backTo pos (starEach es X.env)).any (·.1) = false := by rfl) :
    PE X (.Call (.Name x p) (e :: es) [] pos) (tCallS sp E t) := by
  obtain ⟨f, fd, a, b, c, d⟩ := F.ex
  exact pe_callS a hr hg b c d hx ha hdb he hpl
end

/-! ### a def called in an except suite, handed the exception -/
open L2H (RoomH PinOk cxH inv_startH)
structure FnP (P : Program) (w : World) (K : PySem.W.Frag) (mg : Str → Option Value) (base : Heap) (k : Nat) (f : Addr) (fd : FuncData) (ps : List Str) (sp : Addr → Value → Option Addr → Sp) : Prop where
  len : ∀ a c d vs H Q E, sp a c d vs H Q E → vs.length = ps.length
  run : ∀ (A : Around) (outer : List Env) (s : Shared) (H : Hp) (args : Args) (us : List Value) (vs : List V) (Q : VK) (E : XK) (p : Addr × Obj) (cls : Value) (d : Option Addr), RoomH k A → PinOk outer H s p → Zc cls d p.2 → (∃ vs, p.2.data = .fields vs) → Env0 P w K mg base A outer s H → BindsTo s fd args (ps.zip us) → Vals vs us → sp p.1 cls d vs H Q E →
    codeAny (model P w) A (.call (.ref f) args) (CR CX0 outer P w H s Q E) s
theorem fn_ofP {P : Program} {w : World} {K : PySem.W.Frag} {mg : Str → Option Value} {base : Heap} {k : Nat} {f : Addr} {name qual : Str} {params : Arguments} {body : List Stmt} {scope : Scope} {dV kV doc pm cdv ct oc : Value} {an od : Option Addr}
    {osl : Array (Option Value)} {N ps : List Str} {sp : Addr → Value → Option Addr → Sp} (lk : K.lookup f = some ⟨oc, od, .func (PySem.W.fnOf name qual params body scope dV kV doc pm an cdv ct), osl⟩) (hcd : PySem.W.codeIn K cdv qual = true) (S : FnScope N ps scope)
    (len : ∀ a c d vs H Q E, sp a c d vs H Q E → vs.length = ps.length)
    (hbody : ∀ (A : Around) (outer : List Env) (s : Shared) (H : Hp) (vs : List V) (Q : VK) (E : XK) (p : Addr × Obj) (cls : Value) (d : Option Addr), Zc cls d p.2 → (∃ vs, p.2.data = .fields vs) → RoomH k (A.deeper (envOfC qual scope s.heap.objs.size f cdv)) → sp p.1 cls d vs H Q E →
      ∃ t, PSs (cxH CX0 P w K mg base N qual scope f cdv A outer s H E p) body t ∧ t { nx := fun _ H' => Q .non H', rt := Q } (L2.start N vs) H) :
    FnP P w K mg base (k + 1) f (PySem.W.fnOf name qual params body scope dV kV doc pm an cdv ct) ps sp := by
  refine ⟨len, fun A outer s H args us vs Q E p cls d hr hpin hz hf e0 hb r hsp => ?_⟩
  have hl := len _ _ _ _ _ _ _ hsp
  have KX : K.In s.heap := e0.mod.kin.keeps fun b o e => (e0.bs b o e).1
  have lim : s.heap.NoLimit := e0.mod.nolimit.keeps fun b o e => (e0.bs b o e).1
  have hkind : ∀ y ∈ ps.zip us, scope.names.lookup y.1 = some .local ∨ (scope.names.lookup y.1 = some .cell ∧ ((cellsFrom (s.heap.objs.size + 1) scope.names []).lookup y.1).isSome = true) := fun ⟨n, v⟩ hy => by
    rcases S.par n (List.of_mem_zip hy).1 with q | q
    · exact .inl q
    · exact .inr ⟨q, PySem.W.cellsFrom_some _ _ _ (.inl q)⟩
  refine codeAny_call_function hr.depth (KX _ _ lk) rfl S.co S.gen rfl (PySem.W.codeRec_of KX hcd) (hb _ _ _ _ ?_)
  refine wpAny_newFunctionEnv_cells S.kind hkind fun env he s1 x => ?_
  subst he
  refine ⟨lim.keeps x.toInCall.keep, codeAny_func ?_⟩
  obtain ⟨t, ht, hq⟩ := hbody A outer s H vs Q E p cls d hz hf (hr.deeper _) hsp
  have I : Inv (cxH CX0 P w K mg base N qual scope f cdv A outer s H E p) [] (L2.start N vs) H s1 := inv_startH S hpin e0 hl r x
  refine wpAny_mono (ht.run [] s1 (L2.start N vs) H _ I hq) (fun fl s' hs => ?_) fun e s' hs => hs
  have fin : ∀ {σ' : St} {H' : Hp} {v : V} {u : Value}, Inv (cxH CX0 P w K mg base N qual scope f cdv A outer s H E p) [] σ' H' s' → RelV v u → Q v H' → CE outer P w H s Q u s' :=
    fun {σ' H' v u} J rv q => ⟨v, H', J.os, J.bare, J.base, J.hok, rv, q⟩
  cases fl with
  | ret u =>
    obtain ⟨v, σ', H', J, rv, q⟩ := hs
    exact fin J rv q
  | next =>
    obtain ⟨σ', H', J, q⟩ := hs
    exact fin (v := V.non) (u := Value.none) J rfl q
  | brk =>
    obtain ⟨_, _, _, q⟩ := hs
    exact False.elim q
  | cont =>
    obtain ⟨_, _, _, q⟩ := hs
    exact False.elim q
/-- f(e, ..) in the suite of the exception at a -/
def tCallP (sp : Addr → Value → Option Addr → Sp) (a : Addr) (cls : Value) (d : Option Addr) (t : TA) : TE := fun σ H Q => t σ H fun vs H1 => sp a cls d vs H1 Q E0
theorem pe_fnP {X : Cx} {k : Nat} {f : Addr} {fd : FuncData} {ps : List Str} {sp : Addr → Value → Option Addr → Sp} {x : Str} {q pos : Pos} {e : Expr} {es : List Expr} {t : TA} {a : Addr} {oe : Obj} {cls : Value} {d : Option Addr} {pn : List (Addr × Obj)}
    (F : FnP X.prog X.w X.K X.mg X.base k f fd ps sp) (hr : RoomH k X.A) (hz : Zc cls d oe) (hf : ∃ vs, oe.data = .fields vs) (hg : Gl X x) (hm : X.mg x = some (.ref f)) (hk : PySem.W.keepIn X.K (.ref f) = true) (hb : Binds X.K fd ps [])
    (ha : PA (X.suite a ((a, oe) :: pn)) (e :: es) t) (hdb : (x == ("__debug__" : Str)) = false := by decide) (he : starEach (e :: es) X.env = (false, eval e X.env) :: starEach es X.env := by rfl) (hpl : (backTo pos (starEach es X.env)).any (·.1) = false := by rfl) :
    PE (X.suite a ((a, oe) :: pn)) (.Call (.Name x q) (e :: es) [] pos) (tCallP sp a cls d t) := by
  refine ⟨fun pins s σ H Q I h => ?_⟩
  refine wpAny_Call_Name_kw (ld_glob (X := X.suite a ((a, oe) :: pn)) I hg hm ?_ hdb)
  refine PySem.W.callWith_K (h₀ := X.base) I.ok.mod.kin hk (thn (ha.run pos pins s σ H _ I h) fun us s1 ⟨vs, H1, I1, r, q⟩ => ⟨I1.kIn, ?_⟩) he hpl
  have hl : us.length = ps.length := by rw [← r.length]; exact F.len _ _ _ _ _ _ _ q
  have b := hb s1 us I1.kIn (by rw [List.append_nil]; exact hl)
  rw [List.append_nil] at b
  have P1 := I1.pin (a, oe) (List.mem_append_left _ List.mem_cons_self)
  have hpin : PinOk X.stack H1 s1 (a, oe) := ⟨P1.1, P1.2.1, fun hm => (List.mem_cons.mp (I1.stkSub a hm)).elim P1.2.2.1 P1.2.2.2.1, P1.2.2.2.2⟩
  refine wpAny_call (codeAny_mono (F.run (X.A.mark (some (.ref a))) X.stack s1 H1 ⟨us, []⟩ us vs Q E0 (a, oe) cls d ⟨hr.dp, hr.un⟩ hpin hz hf I1.env0 b r q) fun r s' hq => ?_)
  cases r with
  | error e => exact False.elim hq
  | ok fl =>
    cases fl with
    | ret u => exact I1.after hq
    | next => exact False.elim hq
    | brk => exact False.elim hq
    | cont => exact False.elim hq
/-- err.f, err the exception that stands pinned -/
theorem pe_xfP {X : Cx} {a C : Addr} {oe : Obj} {cls : Value} {d : Option Addr} {e : Expr} {te : TE} {pos : Pos} {n : Str} (T : XfC X.K C) (hno : PySem.W.findIn X.K (.ref C) n = some none)
    (hp : (a, oe) ∈ X.pn) (hz : Zc cls d oe) (hf : ∃ vs, oe.data = .fields vs) (he : PE X e te) (hb : attributeBase e n X.env (eval e X.env) = eval e X.env := by rfl) :
    PE X (.Attribute e n pos) (tXf a cls d C n te) := by
  refine ⟨fun pins s σ H Q I h => ?_⟩
  refine attr_of hb (thn (he.run pins s σ H _ I h) fun u s1 hh => ?_)
  obtain ⟨x, H1, I1, rx, ex, ec, dd, fs, v, ed, ea, l, q⟩ := hh
  subst ex
  obtain rfl : u = Value.ref a := rx
  subst ec
  subst ed
  obtain ⟨ha, _⟩ := I1.pin (a, oe) (List.mem_append_left _ hp)
  obtain ⟨vs, hd⟩ := hf
  have hx : ObjOk X.prog X.w H1 s1.heap dd (.xd fs) := I1.hok dd _ ea
  obtain ⟨mA, hns, hr⟩ := hx
  obtain ⟨od, ho, hl⟩ := lookIn_ns hns
  obtain ⟨u, hu, ru⟩ := RelO.some_of (v := v) (o := mA n) (by rw [← l]; exact hr n)
  have J : PySem.W.InstAt s1.heap a oe C (some od) := ⟨ha, hz.1, by unfold PySem.W.notCls; rw [hd] <;> rfl, by rw [hz.2]; exact ho⟩
  exact HandSPX.exc_get I1.kIn J T.ga T.gg T.exC (PySem.W.findObj_own T.hdC hno rfl (by rw [hl, hu])) (handed_of ru) ⟨v, H1, I1.tok _, ru, q⟩
end Bd0

namespace Bd0
open PySem PySem.Spec PyProof.Rows L2
theorem sameT {K : PySem.W.Frag} {H H' : Hp} {a : Addr} {xs : List V} (e : Same H H') (h : SqT K H a xs) : SqT K H' a xs := by
  rcases h with (h | ⟨o, h⟩) | h
  · exact .inl (.inl (e _ _ h))
  · exact .inl (.inr ⟨o, e _ _ h⟩)
  · exact .inr h
theorem same_new {H : Hp} {a : Addr} {o : HO} (h : H a = none) : Same H (upd H a o) := fun b u e => by
  rw [upd_ne (ne_of_none e h)]
  exact e
theorem same_over {H H' : Hp} {a : Addr} {o : HO} (h : H a = none) (s : Same H H') : Same H (upd H' a o) := fun b u e => by
  rw [upd_ne (ne_of_none e h)]
  exact s b u e
/-- it goes over pairs -/
structure Prs (J : It) (n : Nat) (xs ys : List V) (H : Hp) : Prop where
  go : ∀ i H', Same H H' → i < n → J.go i H'
  yld : ∀ i H' v H'', Same H H' → i < n → J.yld i H' v H'' → ∃ T x y, v = .ref T ∧ H' T = none ∧ H'' = upd H' T (.tup [x, y]) ∧ xs[i]? = some x ∧ ys[i]? = some y
  stop : ∀ H', Same H H' → J.stop n H'
theorem prs_L {K : PySem.W.Frag} {a b : Addr} {xs ys : List V} {H : Hp} (ha : SqL K H a xs) (hb : SqL K H b ys) (hl : xs.length = ys.length) : Prs (Itz K a b) xs.length xs ys H where
  go := fun i H' s hi => ⟨xs, ys, _, _, s.seq ha, s.seq hb, List.getElem?_eq_getElem hi, List.getElem?_eq_getElem (by omega)⟩
  yld := fun i H' v H'' s hi h => by
    obtain ⟨T, x, y, e, n, e2, f1, f2⟩ := h
    exact ⟨T, x, y, e, n, e2, f1 _ (s.seq ha), f2 _ (s.seq hb)⟩
  stop := fun H' s => ⟨xs, ys, s.seq ha, s.seq hb, .inl (Nat.le_refl _)⟩
theorem prs_TL {K : PySem.W.Frag} {a b : Addr} {xs ys : List V} {H : Hp} (ha : SqT K H a xs) (hb : SqL K H b ys) (hl : xs.length = ys.length) : Prs (ItzTL K a b) xs.length xs ys H where
  go := fun i H' s hi => ⟨xs, ys, _, _, sameT s ha, s.seq hb, List.getElem?_eq_getElem hi, List.getElem?_eq_getElem (by omega)⟩
  yld := fun i H' v H'' s hi h => by
    obtain ⟨T, x, y, e, n, e2, f1, f2⟩ := h
    exact ⟨T, x, y, e, n, e2, f1 _ (sameT s ha), f2 _ (s.seq hb)⟩
  stop := fun H' s => ⟨xs, ys, sameT s ha, s.seq hb, Nat.le_refl _, by omega, .inl rfl⟩
/-- a comprehension without a test whose elements are told by R -/
theorem lc_gen {J : It} {g : TG} {te : TE} {vs : List Nat} {σ : St} {H1 : Hp} {D : Addr} {Qd : Hp → Prop} (n : Nat) (hn : n ≤ 1000) (R : Nat → V → Hp → Prop) (hD : H1 D = none)
    (mono : ∀ k z H H', R k z H → Same H H' → R k z H') (put : ∀ k z H xs ys, H D = some (.lst xs) → R k z H → R k z (upd H D (.lst ys)))
    (go : ∀ i H', Same H1 H' → i < n → J.go i H') (stop : ∀ H', Same H1 H' → J.stop n H')
    (turn : ∀ k H v H', k < n → Same H1 H → J.yld k H v H' → Same H H' ∧ g v (wipe σ vs) H' fun σ2 H2 => wipe σ2 vs = wipe σ vs ∧ ∀ Q : VK, (∀ z H3, Same H H3 → R k z H3 → Q z H3) → te σ2 H2 Q)
    (q : ∀ H' zs, Same H1 H' → H' D = some (.lst zs) → zs.length = n → (∀ k z, zs[k]? = some z → R k z H') → Qd H') (gmono : ∀ v σ H (A B : St → Hp → Prop), g v σ H A → (∀ σ2 H2, A σ2 H2 → B σ2 H2) → g v σ H B) :
    ∃ W : Nat → Nat → Hp → Prop, (∃ m, W 0 m (upd H1 D (.lst []))) ∧ ∀ i m H, W i m H →
      (J.stop i H ∧ Qd H) ∨ (J.go i H ∧ ∃ Nx : Hp → Prop, (∀ H', Nx H' → ∃ m', m' < m ∧ W (i + 1) m' H') ∧ ∀ x H', J.yld i H x H' → g x (wipe σ vs) H' fun σ2 H2 => wipe σ2 vs = wipe σ vs ∧ tYes σ2 H2 fun b H3 =>
        if b = true then te σ2 H3 fun y H4 => ∃ acc, H4 D = some (.lst acc) ∧ acc.length < sizeLine ∧ Nx (upd H4 D (.lst (acc ++ [y]))) else Nx H3) := by
  refine ⟨fun i m H => i + m = n ∧ Same H1 H ∧ ∃ zs, H D = some (.lst zs) ∧ zs.length = i ∧ ∀ k z, zs[k]? = some z → R k z H, ⟨n, by omega, same_new hD, [], upd_same, rfl, fun k z e => by simp at e⟩, ?_⟩
  rintro i m H ⟨em, s, zs, hz, lz, hr⟩
  by_cases hi : i < n
  · right
    refine ⟨go i H s hi, fun H' => Same H1 H' ∧ ∃ zs, H' D = some (.lst zs) ∧ zs.length = i + 1 ∧ ∀ k z, zs[k]? = some z → R k z H', fun H' ⟨s', zs', a, b, c⟩ => ⟨m - 1, by omega, by omega, s', zs', a, b, c⟩, fun v H' hy => ?_⟩
    obtain ⟨sH, t⟩ := turn i H v H' hi s hy
    refine gmono _ _ _ _ _ t fun σ2 H2 ⟨e, k⟩ => ⟨e, ?_⟩
    unfold tYes
    refine iteT ?_
    refine k _ fun z H3 s3 r3 => ⟨zs, s3 _ _ hz, ?_, same_over hD (s.trans s3), zs ++ [z], upd_same, by simp [lz], fun k' z' e => ?_⟩
    · rw [lz]
      exact small1000 (by omega)
    · refine put k' z' H3 zs _ (s3 _ _ hz) ?_
      by_cases hk : k' < zs.length
      · rw [List.getElem?_append_left hk] at e
        exact mono _ _ _ _ (hr k' z' e) s3
      · rw [List.getElem?_append_right (by omega)] at e
        have h0 : k' - zs.length = 0 := by
          have := (List.getElem?_eq_some_iff.mp e).1
          simp at this
          omega
        rw [h0] at e
        have ez : z = z' := by simpa using e
        have ek : k' = i := by omega
        rw [← ez, ek]
        exact r3
  · left
    have e : i = n := by omega
    subst e
    exact ⟨stop H s, q H zs s hz lz hr⟩
theorem gTup2_mono {K : PySem.W.Frag} {i j : Nat} (v : V) (σ : St) (H : Hp) (A B : St → Hp → Prop) (h : gTup K 2 (gCons (gName i) (gCons (gName j) gNil)) v σ H A) (k : ∀ σ2 H2, A σ2 H2 → B σ2 H2) : gTup K 2 (gCons (gName i) (gCons (gName j) gNil)) v σ H B := by
  obtain ⟨a, xs, e1, h1, h2, v1, r1, e2, v2, r2, e3, e4, h3⟩ := h
  exact ⟨a, xs, e1, h1, h2, v1, r1, e2, v2, r2, e3, e4, k _ _ h3⟩
/-- .. over pairs -/
theorem lc_prs {K : PySem.W.Frag} {J : It} {te : TE} {vs : List Nat} {σ : St} {H1 : Hp} {D : Addr} {Qd : Hp → Prop} {n i j : Nat} {xs ys : List V} (hJ : Prs J n xs ys H1) (hn : n ≤ 1000) (R : Nat → V → Hp → Prop) (hD : H1 D = none)
    (hw : ∀ x y, wipe (((wipe σ vs).set i (some x)).set j (some y)) vs = wipe σ vs)
    (mono : ∀ k z H H', R k z H → Same H H' → R k z H') (put : ∀ k z H xs ys, H D = some (.lst xs) → R k z H → R k z (upd H D (.lst ys)))
    (turn : ∀ (k : Nat) (x y : V) (H : Hp) (Q : VK), xs[k]? = some x → ys[k]? = some y → Same H1 H → (∀ z H3, Same H H3 → R k z H3 → Q z H3) → te (((wipe σ vs).set i (some x)).set j (some y)) H Q)
    (q : ∀ H' zs, Same H1 H' → H' D = some (.lst zs) → zs.length = n → (∀ k z, zs[k]? = some z → R k z H') → Qd H') :
    ∃ W : Nat → Nat → Hp → Prop, (∃ m, W 0 m (upd H1 D (.lst []))) ∧ ∀ i' m H, W i' m H →
      (J.stop i' H ∧ Qd H) ∨ (J.go i' H ∧ ∃ Nx : Hp → Prop, (∀ H', Nx H' → ∃ m', m' < m ∧ W (i' + 1) m' H') ∧ ∀ x H', J.yld i' H x H' → gTup K 2 (gCons (gName i) (gCons (gName j) gNil)) x (wipe σ vs) H' fun σ2 H2 => wipe σ2 vs = wipe σ vs ∧ tYes σ2 H2 fun b H3 =>
        if b = true then te σ2 H3 fun y H4 => ∃ acc, H4 D = some (.lst acc) ∧ acc.length < sizeLine ∧ Nx (upd H4 D (.lst (acc ++ [y]))) else Nx H3) := by
  refine lc_gen n hn R hD mono put hJ.go hJ.stop (fun k H v H' hk s hy => ?_) q gTup2_mono
  obtain ⟨T, x, y, rfl, nT, rfl, ex, ey⟩ := hJ.yld k H v H' s hk hy
  refine ⟨same_new nT, T, [x, y], rfl, .inl (.inl upd_same), rfl, x, [y], rfl, y, [], rfl, rfl, hw x y, fun Q hQ => ?_⟩
  exact turn k x y _ Q ex ey (s.trans (same_new nT)) fun z H3 s3 r3 => hQ z H3 ((same_new nT).trans s3) r3
/-- .. whose elements are known values -/
theorem lc_prsV {K : PySem.W.Frag} {J : It} {te : TE} {vs : List Nat} {σ : St} {H1 : Hp} {D : Addr} {Qd : Hp → Prop} {n i j : Nat} {xs ys zs : List V} (hJ : Prs J n xs ys H1) (hn : n ≤ 1000) (hz : zs.length = n) (hD : H1 D = none)
    (hw : ∀ x y, wipe (((wipe σ vs).set i (some x)).set j (some y)) vs = wipe σ vs)
    (turn : ∀ (k : Nat) (x y z : V) (H : Hp) (Q : VK), xs[k]? = some x → ys[k]? = some y → zs[k]? = some z → Same H1 H → (∀ H3, Same H H3 → Q z H3) → te (((wipe σ vs).set i (some x)).set j (some y)) H Q)
    (q : ∀ H', Same H1 H' → H' D = some (.lst zs) → Qd H') :
    ∃ W : Nat → Nat → Hp → Prop, (∃ m, W 0 m (upd H1 D (.lst []))) ∧ ∀ i' m H, W i' m H →
      (J.stop i' H ∧ Qd H) ∨ (J.go i' H ∧ ∃ Nx : Hp → Prop, (∀ H', Nx H' → ∃ m', m' < m ∧ W (i' + 1) m' H') ∧ ∀ x H', J.yld i' H x H' → gTup K 2 (gCons (gName i) (gCons (gName j) gNil)) x (wipe σ vs) H' fun σ2 H2 => wipe σ2 vs = wipe σ vs ∧ tYes σ2 H2 fun b H3 =>
        if b = true then te σ2 H3 fun y H4 => ∃ acc, H4 D = some (.lst acc) ∧ acc.length < sizeLine ∧ Nx (upd H4 D (.lst (acc ++ [y]))) else Nx H3) := by
  refine lc_gen n hn (fun k z _ => zs[k]? = some z) hD (fun _ _ _ _ h _ => h) (fun _ _ _ _ _ _ h => h) hJ.go hJ.stop (fun k H v H' hk s hy => ?_) (fun H' zs' s e l k => ?_) gTup2_mono
  · obtain ⟨T, x, y, rfl, nT, rfl, ex, ey⟩ := hJ.yld k H v H' s hk hy
    refine ⟨same_new nT, T, [x, y], rfl, .inl (.inl upd_same), rfl, x, [y], rfl, y, [], rfl, rfl, hw x y, fun Q hQ => ?_⟩
    exact turn k x y _ _ Q ex ey (List.getElem?_eq_getElem (by omega)) (s.trans (same_new nT)) fun H3 s3 => hQ _ H3 ((same_new nT).trans s3) (List.getElem?_eq_getElem (by omega))
  · have : zs' = zs := List.ext_getElem? fun m => by
      by_cases hm : m < n
      · rw [List.getElem?_eq_getElem (by omega)]
        exact (k m _ (List.getElem?_eq_getElem (by omega))).symm
      · rw [List.getElem?_eq_none (by omega), List.getElem?_eq_none (by omega)]
    rw [← this] at q
    exact q H' s e
/-- a loop over pairs -/
theorem for_prs {K : PySem.W.Frag} {J : It} {tb : TS} {D : Ends} {σ : St} {H : Hp} {n i j : Nat} {xs ys : List V} (hJ : Prs J n xs ys H) (Pv : Nat → St → Hp → Prop) (h0 : Pv 0 σ H) (hq : ∀ k σ' H', Pv k σ' H' → Same H H')
    (hs : ∀ (k : Nat) (x y : V) (T : Addr) (σ' : St) (H' : Hp), xs[k]? = some x → ys[k]? = some y → Pv k σ' H' → H' T = none → tb { D with nx := Pv (k + 1), ct := Pv (k + 1), bk := D.nx } ((σ'.set i (some x)).set j (some y)) (upd H' T (.tup [x, y])))
    (hd : ∀ σ' H', Pv n σ' H' → D.nx σ' H') :
    ∃ W : Nat → Nat → St → Hp → Prop, (∃ m, W 0 m σ H) ∧ ∀ k m σ H, W k m σ H →
      (J.stop k H ∧ D.nx σ H) ∨ (J.go k H ∧ ∃ N : St → Hp → Prop, (∀ σ' H', N σ' H' → ∃ m', m' < m ∧ W (k + 1) m' σ' H') ∧ ∀ v H', J.yld k H v H' → gTup K 2 (gCons (gName i) (gCons (gName j) gNil)) v σ H' fun σ2 H2 => tb { D with nx := N, ct := N, bk := D.nx } σ2 H2) := by
  refine ⟨fun k m σ' H' => k + m = n ∧ Pv k σ' H', ⟨n, by omega, h0⟩, ?_⟩
  rintro k m σ' H' ⟨em, p⟩
  have s := hq k σ' H' p
  by_cases hk : k < n
  · right
    refine ⟨hJ.go k H' s hk, Pv (k + 1), fun σ2 H2 p2 => ⟨m - 1, by omega, by omega, p2⟩, fun v H2 hy => ?_⟩
    obtain ⟨T, x, y, rfl, nT, rfl, ex, ey⟩ := hJ.yld k H' v H2 s hk hy
    exact ⟨T, [x, y], rfl, .inl (.inl upd_same), rfl, x, [y], rfl, y, [], rfl, rfl, hs k x y T σ' H' ex ey p nT⟩
  · left
    have e : k = n := by omega
    subst e
    exact ⟨hJ.stop H' s, hd σ' H' p⟩
/-- .. over a range -/
theorem lc_rng {te : TE} {vs : List Nat} {σ : St} {H1 : Hp} {D : Addr} {Qd : Hp → Prop} {n i : Nat} (hn : n ≤ 1000) (R : Nat → V → Hp → Prop) (hD : H1 D = none)
    (hw : ∀ x, wipe ((wipe σ vs).set i (some x)) vs = wipe σ vs)
    (mono : ∀ k z H H', R k z H → Same H H' → R k z H') (put : ∀ k z H xs ys, H D = some (.lst xs) → R k z H → R k z (upd H D (.lst ys)))
    (turn : ∀ (k : Nat) (H : Hp) (Q : VK), k < n → Same H1 H → (∀ z H3, Same H H3 → R k z H3 → Q z H3) → te ((wipe σ vs).set i (some (.int (0 + (k : Int))))) H Q)
    (q : ∀ H' zs, Same H1 H' → H' D = some (.lst zs) → zs.length = n → (∀ k z, zs[k]? = some z → R k z H') → Qd H') :
    ∃ W : Nat → Nat → Hp → Prop, (∃ m, W 0 m (upd H1 D (.lst []))) ∧ ∀ i' m H, W i' m H →
      ((Itr 0 n).stop i' H ∧ Qd H) ∨ ((Itr 0 n).go i' H ∧ ∃ Nx : Hp → Prop, (∀ H', Nx H' → ∃ m', m' < m ∧ W (i' + 1) m' H') ∧ ∀ x H', (Itr 0 n).yld i' H x H' → gName i x (wipe σ vs) H' fun σ2 H2 => wipe σ2 vs = wipe σ vs ∧ tYes σ2 H2 fun b H3 =>
        if b = true then te σ2 H3 fun y H4 => ∃ acc, H4 D = some (.lst acc) ∧ acc.length < sizeLine ∧ Nx (upd H4 D (.lst (acc ++ [y]))) else Nx H3) := by
  refine lc_gen n hn R hD mono put (fun i H' _ h => h) (fun H' _ => Nat.le_refl n) (fun k H v H' hk s hy => ?_) q (fun v σ H A B h k => k _ _ h)
  obtain ⟨e1, e2⟩ := hy
  subst e1 e2
  exact ⟨Same.refl _, hw _, fun Q hQ => turn k H' Q hk s hQ⟩
theorem lc_rngV {te : TE} {vs : List Nat} {σ : St} {H1 : Hp} {D : Addr} {Qd : Hp → Prop} {n i : Nat} {zs : List V} (hn : n ≤ 1000) (hz : zs.length = n) (hD : H1 D = none)
    (hw : ∀ x, wipe ((wipe σ vs).set i (some x)) vs = wipe σ vs)
    (turn : ∀ (k : Nat) (z : V) (H : Hp) (Q : VK), k < n → zs[k]? = some z → Same H1 H → (∀ H3, Same H H3 → Q z H3) → te ((wipe σ vs).set i (some (.int (0 + (k : Int))))) H Q)
    (q : ∀ H', Same H1 H' → H' D = some (.lst zs) → Qd H') :
    ∃ W : Nat → Nat → Hp → Prop, (∃ m, W 0 m (upd H1 D (.lst []))) ∧ ∀ i' m H, W i' m H →
      ((Itr 0 n).stop i' H ∧ Qd H) ∨ ((Itr 0 n).go i' H ∧ ∃ Nx : Hp → Prop, (∀ H', Nx H' → ∃ m', m' < m ∧ W (i' + 1) m' H') ∧ ∀ x H', (Itr 0 n).yld i' H x H' → gName i x (wipe σ vs) H' fun σ2 H2 => wipe σ2 vs = wipe σ vs ∧ tYes σ2 H2 fun b H3 =>
        if b = true then te σ2 H3 fun y H4 => ∃ acc, H4 D = some (.lst acc) ∧ acc.length < sizeLine ∧ Nx (upd H4 D (.lst (acc ++ [y]))) else Nx H3) := by
  refine lc_rng hn (fun k z _ => zs[k]? = some z) hD hw (fun _ _ _ _ h _ => h) (fun _ _ _ _ _ _ h => h) (fun k H Q hk s hQ => ?_) (fun H' zs' s e l k => ?_)
  · exact turn k _ H Q hk (List.getElem?_eq_getElem (by omega)) s fun H3 s3 => hQ _ H3 s3 (List.getElem?_eq_getElem (by omega))
  · have : zs' = zs := List.ext_getElem? fun m => by
      by_cases hm : m < n
      · rw [List.getElem?_eq_getElem (by omega)]
        exact (k m _ (List.getElem?_eq_getElem (by omega))).symm
      · rw [List.getElem?_eq_none (by omega), List.getElem?_eq_none (by omega)]
    rw [← this] at q
    exact q H' s e
/-- values that stand for data, one by one -/
def LRel {β : Type} (R : V → β → Prop) (vs : List V) (ys : List β) : Prop := vs.length = ys.length ∧ ∀ (i : Nat) (y : β), ys[i]? = some y → ∃ v, vs[i]? = some v ∧ R v y
theorem LRel.nil {β : Type} {R : V → β → Prop} : LRel R [] ([] : List β) := ⟨rfl, fun i y h => by simp at h⟩
theorem LRel.snoc {β : Type} {R : V → β → Prop} {vs : List V} {ys : List β} {v : V} {y : β} (h : LRel R vs ys) (r : R v y) : LRel R (vs ++ [v]) (ys ++ [y]) := by
  refine ⟨by simp [h.1], fun i z e => ?_⟩
  by_cases hi : i < ys.length
  · rw [List.getElem?_append_left hi] at e
    obtain ⟨b, e1, e2⟩ := h.2 i z e
    refine ⟨b, ?_, e2⟩
    rw [List.getElem?_append_left (by rw [h.1]; exact hi)]
    exact e1
  · rw [List.getElem?_append_right (by omega)] at e
    have hz : i - ys.length = 0 := by
      have := (List.getElem?_eq_some_iff.mp e).1
      simp at this
      omega
    rw [hz] at e
    have : y = z := by simpa using e
    subst this
    refine ⟨v, ?_, r⟩
    rw [List.getElem?_append_right (by rw [h.1]; omega), h.1, hz]
    rfl
theorem LRel.imp {β : Type} {R R' : V → β → Prop} {vs : List V} {ys : List β} (h : LRel R vs ys) (k : ∀ v y, R v y → R' v y) : LRel R' vs ys := ⟨h.1, fun i y e => by
  obtain ⟨v, e1, e2⟩ := h.2 i y e
  exact ⟨v, e1, k v y e2⟩⟩
theorem LRel.at_ {β : Type} {R : V → β → Prop} {vs : List V} {ys : List β} (h : LRel R vs ys) {i : Nat} {v : V} (e : vs[i]? = some v) : ∃ y, ys[i]? = some y ∧ R v y := by
  have hi : i < ys.length := by rw [← h.1]; exact (List.getElem?_eq_some_iff.mp e).1
  obtain ⟨v', e1, e2⟩ := h.2 i _ (List.getElem?_eq_getElem hi)
  rw [e] at e1
  exact ⟨_, List.getElem?_eq_getElem hi, (Option.some.inj e1) ▸ e2⟩
theorem LRel.eq_map {β : Type} {f : β → V} {vs : List V} {ys : List β} (h : LRel (fun v y => v = f y) vs ys) : vs = ys.map f := List.ext_getElem? fun i => by
  rw [List.getElem?_map]
  cases e : ys[i]? with
  | none =>
    have := List.getElem?_eq_none_iff.mp e
    exact List.getElem?_eq_none (by rw [h.1]; exact this)
  | some y =>
    obtain ⟨v, e1, e2⟩ := h.2 i y e
    rw [e1, e2]
    rfl
/-- a comprehension with a test over a list of known things; nothing else is made -/
theorem lc_rel {α β : Type} {K : PySem.W.Frag} {a : Addr} {us : List V} {xs : List α} {tt : TT} {te : TE} {vs : List Nat} {σ : St} {H1 : Hp} {D : Addr} {Qd : Hp → Prop} {i : Nat} (R : V → α → Prop) (R2 : V → β → Prop) (p : α → Bool) (g : α → β)
    (ho : LRel R us xs) (hS : SqL K H1 a us) (hD : H1 D = none) (hlen : us.length ≤ 5000) (hw : ∀ x, wipe ((wipe σ vs).set i (some x)) vs = wipe σ vs)
    (turn : ∀ (u : V) (x : α) (acc : List V) (Q : Bool → Hp → Prop), R u x → Q (p x) (upd H1 D (.lst acc)) → tt ((wipe σ vs).set i (some u)) (upd H1 D (.lst acc)) Q)
    (elt : ∀ (u : V) (x : α) (acc : List V) (Q : VK), R u x → p x = true → (∀ v, R2 v (g x) → Q v (upd H1 D (.lst acc))) → te ((wipe σ vs).set i (some u)) (upd H1 D (.lst acc)) Q)
    (q : ∀ acc, LRel R2 acc ((xs.filter p).map g) → Qd (upd H1 D (.lst acc))) :
    ∃ W : Nat → Nat → Hp → Prop, (∃ m, W 0 m (upd H1 D (.lst []))) ∧ ∀ i' m H, W i' m H →
      ((Itl K a).stop i' H ∧ Qd H) ∨ ((Itl K a).go i' H ∧ ∃ Nx : Hp → Prop, (∀ H', Nx H' → ∃ m', m' < m ∧ W (i' + 1) m' H') ∧ ∀ x H', (Itl K a).yld i' H x H' → gName i x (wipe σ vs) H' fun σ2 H2 => wipe σ2 vs = wipe σ vs ∧ tt σ2 H2 fun b H3 =>
        if b = true then te σ2 H3 fun y H4 => ∃ acc, H4 D = some (.lst acc) ∧ acc.length < sizeLine ∧ Nx (upd H4 D (.lst (acc ++ [y]))) else Nx H3) := by
  refine lc_list (K := K) (a := a) (xs := us) (fun k H => ∃ acc, H = upd H1 D (.lst acc) ∧ LRel R2 acc (((xs.take k).filter p).map g)) ⟨[], rfl, LRel.nil⟩ (fun k H _ ⟨acc, e, _⟩ => by rw [e]; exact (same_new hD).seq hS) ?_ ?_
  · rintro k u H hu ⟨acc, rfl, hr⟩
    obtain ⟨x, hx, rx⟩ := ho.at_ hu
    have et : xs.take (k + 1) = xs.take k ++ [x] := by rw [List.take_add_one, hx]; rfl
    refine ⟨hw u, turn u x acc _ rx ?_⟩
    cases hp : p x with
    | false =>
      refine iteF ?_
      refine ⟨acc, rfl, ?_⟩
      rw [et, List.filter_append, List.filter_cons_of_neg (by simp [hp]), List.filter_nil, List.append_nil]
      exact hr
    | true =>
      refine iteT ?_
      refine elt u x acc _ rx hp fun v rv => ⟨acc, upd_same, ?_, acc ++ [v], by rw [upd_upd], ?_⟩
      · have h1 : acc.length ≤ 5000 := by
          rw [hr.1, List.length_map]
          refine Nat.le_trans (List.length_filter_le _ _) ?_
          rw [List.length_take, ← ho.1]
          omega
        exact Nat.lt_of_le_of_lt h1 (by decide)
      · rw [et, List.filter_append, List.filter_cons_of_pos hp, List.filter_nil, List.map_append]
        exact hr.snoc rv
  · rintro H ⟨acc, rfl, hr⟩
    rw [ho.1, List.take_length] at hr
    exact q acc hr
theorem dp_tups {K : PySem.W.Frag} {H : Hp} : ∀ {vs : List V} {ts : List Bm.Tp}, LRel (fun v t => ∃ b, v = .ref b ∧ H b = some (.tup (tupV t))) vs ts → DpAll K H vs (ts.map tupD)
  | [], [], _ => .nil
  | [], t :: ts, h => by have := h.1; simp at this
  | v :: vs, [], h => by have := h.1; simp at this
  | v :: vs, t :: ts, h => by
    obtain ⟨v', e1, b, e2, e3⟩ := h.2 0 t rfl
    have ev : v = v' := by simpa using e1
    subst ev
    subst e2
    rw [List.map_cons]
    refine .cons (.tup (SqT.of e3) (.cons (.int _) (.cons (.int _) (.cons (.int _) .nil)))) (dp_tups ⟨by have := h.1; simpa using this, fun i y hy => ?_⟩)
    obtain ⟨w, w1, w2⟩ := h.2 (i + 1) y (by simpa using hy)
    exact ⟨w, by simpa using w1, w2⟩
end Bd0

namespace Bw
open PySem PySem.Spec PyProof.Rows L2 Bd0
def top (i : Nat) : Stmt := PySem.Challenge.pw_beadframes_s10_fewest.main.body.getD i (.Pass ⟨0, 0, 0, 0⟩)
abbrev s_Fault_init : Stmt := inClass (top 12) 0
abbrev s_Push_init : Stmt := inClass (top 13) 0
abbrev s_Rod_init : Stmt := inClass (top 14) 0
abbrev s_Rod_count_of : Stmt := inClass (top 14) 1
abbrev s_Rod_has_fair_decks : Stmt := inClass (top 14) 2
abbrev s_Rod_pushes : Stmt := inClass (top 14) 3
abbrev s_Rod_fault : Stmt := inClass (top 14) 4
abbrev s_rods_of : Stmt := top 15
abbrev s_digits_of : Stmt := top 16
abbrev s_load_below : Stmt := top 19
abbrev s_at_load : Stmt := top 20
abbrev s_loads_of : Stmt := top 21
abbrev s_way_row : Stmt := top 22
abbrev s_few_row : Stmt := top 23
abbrev s_ways_above : Stmt := top 24
abbrev s_fewest_above : Stmt := top 25
abbrev s_Tables_init : Stmt := inClass (top 26) 0
abbrev s_Tables_ways : Stmt := inClass (top 26) 1
abbrev s_Tables_fewest : Stmt := inClass (top 26) 2
abbrev s_Tables_below : Stmt := inClass (top 26) 3
abbrev s_sparest : Stmt := top 27
abbrev s_push_sparest : Stmt := top 28
abbrev s_refused : Stmt := top 32
abbrev s_told_standings : Stmt := top 33
abbrev s_fewest : Stmt := top 34
end Bw
namespace Bw
open PySem PySem.Spec PyProof.Rows L2 Bd0
open Bm (Rd Tp many lexT)
abbrev St := L2.St
/-! ### lookups in written fields -/
theorem lk_here {k : Str} {v : V} {r : List (Str × V)} : List.lookup k ((k, v) :: r) = some v := by
  have e : (k == k) = true := beq_self_eq_true k
  simp only [List.lookup, e]
theorem lk_past {k g : Str} {v : V} {r : List (Str × V)} (h : (k == g) = false) : List.lookup k ((g, v) :: r) = List.lookup k r := by
  simp only [List.lookup, h]
theorem put_here {f : Str} {v x : V} {r : List (Str × V)} : putF f v ((f, x) :: r) = (f, v) :: r := if_pos rfl
theorem put_past {f g : Str} {v x : V} {r : List (Str × V)} (h : ¬ g = f) : putF f v ((g, x) :: r) = (g, x) :: putF f v r := if_neg h
/-! ### how a rod, a push lie -/
def nums (l : List Nat) : List V := l.map vn
def rodF (r : Rd) (ba wa : Addr) : List (Str × V) := [("ratio", vn r.q), ("beads", .ref ba), ("worths", .ref wa)]
theorem rodF_ratio {r : Rd} {ba wa : Addr} : (rodF r ba wa).lookup ("ratio" : Str) = some (vn r.q) := lk_here
theorem rodF_beads {r : Rd} {ba wa : Addr} : (rodF r ba wa).lookup ("beads" : Str) = some (.ref ba) := (lk_past (by decide +kernel)).trans lk_here
theorem rodF_worths {r : Rd} {ba wa : Addr} : (rodF r ba wa).lookup ("worths" : Str) = some (.ref wa) := (lk_past (by decide +kernel)).trans ((lk_past (by decide +kernel)).trans lk_here)
theorem rodF_m {r : Rd} {ba wa : Addr} (x : Str) (h : ((x == ("ratio" : Str)) || ((x == ("beads" : Str)) || (x == ("worths" : Str)))) = false) : (rodF r ba wa).lookup x = none := by
  rw [Bool.or_eq_false_iff, Bool.or_eq_false_iff] at h
  exact (lk_past h.1).trans ((lk_past h.2.1).trans ((lk_past h.2.2).trans rfl))
theorem rodF_new {r : Rd} {ba wa : Addr} : putF "worths" (.ref wa) (putF "beads" (.ref ba) (putF "ratio" (vn r.q) [])) = rodF r ba wa := by
  show putF "worths" (.ref wa) (putF "beads" (.ref ba) [("ratio", vn r.q)]) = _
  rw [put_past (by decide +kernel)]
  show putF "worths" (.ref wa) [("ratio", vn r.q), ("beads", .ref ba)] = _
  rw [put_past (by decide +kernel), put_past (by decide +kernel)]
  rfl
def bL (r : Rd) : List V := nums [r.b0, r.b1, r.b2]
def wL (r : Rd) : List V := nums [r.w0, r.w1, r.w2]
def RodAt (C : Addr) (H : Hp) (a : Addr) (r : Rd) : Prop := ∃ dx ba wa, H a = some (.ins C dx (rodF r ba wa)) ∧ H ba = some (.lst (bL r)) ∧ H wa = some (.lst (wL r))
theorem RodAt.same {C : Addr} {H H' : Hp} {a : Addr} {r : Rd} (h : RodAt C H a r) (s : Same H H') : RodAt C H' a r := by
  obtain ⟨dx, ba, wa, h1, h2, h3⟩ := h
  exact ⟨dx, ba, wa, s _ _ h1, s _ _ h2, s _ _ h3⟩
def pushF (r : Rd) (t : Tp) (ta : Addr) : List (Str × V) := [("beads", .ref ta), ("count", vn (r.cnt t)), ("many", vn (many t))]
theorem pushF_beads {r : Rd} {t : Tp} {ta : Addr} : (pushF r t ta).lookup ("beads" : Str) = some (.ref ta) := lk_here
theorem pushF_count {r : Rd} {t : Tp} {ta : Addr} : (pushF r t ta).lookup ("count" : Str) = some (vn (r.cnt t)) := (lk_past (by decide +kernel)).trans lk_here
theorem pushF_many {r : Rd} {t : Tp} {ta : Addr} : (pushF r t ta).lookup ("many" : Str) = some (vn (many t)) := (lk_past (by decide +kernel)).trans ((lk_past (by decide +kernel)).trans lk_here)
theorem pushF_new {r : Rd} {t : Tp} {ta : Addr} : putF "many" (vn (many t)) (putF "count" (vn (r.cnt t)) (putF "beads" (.ref ta) [])) = pushF r t ta := by
  show putF "many" _ (putF "count" _ [("beads", .ref ta)]) = _
  rw [put_past (by decide +kernel)]
  show putF "many" _ [("beads", .ref ta), ("count", _)] = _
  rw [put_past (by decide +kernel), put_past (by decide +kernel)]
  rfl
def PushAt (C : Addr) (r : Rd) (H : Hp) (a : Addr) (t : Tp) : Prop := ∃ dx ta, H a = some (.ins C dx (pushF r t ta)) ∧ H ta = some (.tup (tupV t))
theorem PushAt.same {C : Addr} {r : Rd} {H H' : Hp} {a : Addr} {t : Tp} (h : PushAt C r H a t) (s : Same H H') : PushAt C r H' a t := by
  obtain ⟨dx, ta, h1, h2⟩ := h
  exact ⟨dx, ta, s _ _ h1, s _ _ h2⟩
/-- a list of objects, each lying as it should -/
def Objs {α : Type} (R : Addr → α → Prop) (vs : List V) (xs : List α) : Prop := vs.length = xs.length ∧ ∀ (i : Nat) (x : α), xs[i]? = some x → ∃ a, vs[i]? = some (.ref a) ∧ R a x
section
variable {α : Type} {R R' : Addr → α → Prop} {vs : List V} {xs : List α}
theorem Objs.nil : Objs R [] ([] : List α) := ⟨rfl, fun i x h => by simp at h⟩
theorem Objs.imp (h : Objs R vs xs) (k : ∀ a x, R a x → R' a x) : Objs R' vs xs := ⟨h.1, fun i x e => by
  obtain ⟨a, e1, e2⟩ := h.2 i x e
  exact ⟨a, e1, k a x e2⟩⟩
theorem Objs.snoc {a : Addr} {x : α} (h : Objs R vs xs) (r : R a x) : Objs R (vs ++ [.ref a]) (xs ++ [x]) := by
  refine ⟨by simp [h.1], fun i y e => ?_⟩
  by_cases hi : i < xs.length
  · rw [List.getElem?_append_left hi] at e
    obtain ⟨b, e1, e2⟩ := h.2 i y e
    refine ⟨b, ?_, e2⟩
    rw [List.getElem?_append_left (by rw [h.1]; exact hi)]
    exact e1
  · rw [List.getElem?_append_right (by omega)] at e
    have hz : i - xs.length = 0 := by
      have := (List.getElem?_eq_some_iff.mp e).1
      simp at this
      omega
    rw [hz] at e
    have : x = y := by simpa using e
    subst this
    refine ⟨a, ?_, r⟩
    rw [List.getElem?_append_right (by rw [h.1]; omega), h.1, hz]
    rfl
theorem Objs.ref (h : Objs R vs xs) {i : Nat} {v : V} (e : vs[i]? = some v) : ∃ a x, v = .ref a ∧ xs[i]? = some x ∧ R a x := by
  have hi : i < xs.length := by rw [← h.1]; exact (List.getElem?_eq_some_iff.mp e).1
  obtain ⟨a, e1, e2⟩ := h.2 i _ (List.getElem?_eq_getElem hi)
  rw [e] at e1
  exact ⟨a, _, Option.some.inj e1, List.getElem?_eq_getElem hi, e2⟩
end
/-- a list is written: objects of other kinds stay -/
theorem PushAt.put {C : Addr} {r : Rd} {H : Hp} {a l : Addr} {t : Tp} {xs ys : List V} (h : PushAt C r H a t) (hl : H l = some (.lst xs)) : PushAt C r (upd H l (.lst ys)) a t := by
  obtain ⟨dx, ta, h1, h2⟩ := h
  exact ⟨dx, ta, by rw [upd_ne (ne_of h1 hl (fun z => by cases z))]; exact h1, by rw [upd_ne (ne_of h2 hl (fun z => by cases z))]; exact h2⟩
theorem same_upd {H : Hp} {a : Addr} {o : HO} (h : H a = none) : Same H (upd H a o) := fun b u e => by
  rw [upd_ne (ne_of_none e h)]
  exact e
/-- a new thing is written again -/
theorem same_put {H H' : Hp} {a : Addr} {o : HO} (h : H a = none) (s : Same H H') : Same H (upd H' a o) := fun b u e => by
  rw [upd_ne (ne_of_none e h)]
  exact s b u e
theorem if_true_of {c : Bool} {A B : Prop} (hc : c = true) (h : A) : if c = true then A else B := by
  rw [if_pos hc]
  exact h
theorem if_false_of {c : Bool} {A B : Prop} (hc : c = false) (h : B) : if c = true then A else B := by
  rw [hc, if_neg Bool.false_ne_true]
  exact h
/-! ### what the top has: built-in names, classes -/
structure TB (mg : Str → Option Value) : Prop where
  sum : mg "sum" = none
  zip : mg "zip" = none
  max : mg "max" = none
  min : mg "min" = none
  all : mg "all" = none
  range : mg "range" = none
  len : mg "len" = none
  int : mg "int" = none
  list : mg "list" = none
  tuple : mg "tuple" = none
  rev : mg "reversed" = none
structure ClsP (K : PySem.W.Frag) (C : Addr) : Prop where
  cl : Cls K C
  n0 : NoAttr K C "beads"
  n1 : NoAttr K C "count"
  n2 : NoAttr K C "many"
structure ClsR (K : PySem.W.Frag) (C : Addr) : Prop where
  cl : Cls K C
  n0 : NoAttr K C "ratio"
  n1 : NoAttr K C "beads"
  n2 : NoAttr K C "worths"
section
variable {P : Program} {w : World} {K : PySem.W.Frag} {mg : Str → Option Value} {base : Heap}
/-! ### Push(beads, count) -/
def sp_Push_init (C : Addr) : Sp := fun vs H Q _ => ∃ (p dx ta : Addr) (r : Rd) (t : Tp), vs = [.ref p, .ref ta, vn (r.cnt t)] ∧ H p = some (.ins C dx []) ∧ H ta = some (.tup (tupV t)) ∧
  ∀ H' : Hp, H' p = some (.ins C dx (pushF r t ta)) → (∀ b o, H b = some o → b ≠ p → H' b = some o) → Q .non H'
theorem sc_Push_init : FnScope ["self", "beads", "count"] ["self", "beads", "count"] (defScope s_Push_init) := ⟨rfl, rfl, rfl, by decide +kernel, rfl, by decide +kernel, by decide +kernel⟩
theorem ok_Push_init {C f : Addr} {fd : FuncData} (F : Fun K "__init__" "Push.__init__" s_Push_init f fd) (B : TB mg) (T : ClsP K C) : FnOk P w K mg base CX0 1 f fd ["self", "beads", "count"] (sp_Push_init C) := by
  refine F.ok sc_Push_init (fun vs H Q E h => ?_) (fun cdv A outer s H vs Q E hr h => ⟨_, pss_cons (ps_fld (pv 0) (pv 1) rfl) (pss_cons (ps_fld (pv 0) (pv 2) rfl) (pss_one (ps_fld (pv 0) (pe_callB (cr_sumT rfl) (by rfl) B.sum (by decide +kernel) (pa_cons (pv 1) pa_nil)) rfl))), ?_⟩)
  · obtain ⟨p, dx, ta, r, t, rfl, _⟩ := h
    rfl
  · obtain ⟨p, dx, ta, r, t, rfl, hp, ht, k⟩ := h
    have hne : ta ≠ p := ne_of ht hp (fun z => by cases z)
    refine ⟨_, rfl, _, rfl, p, C, dx, [], rfl, hp, T.cl, T.n0, (by show 0 < 1000; decide), ?_⟩
    refine ⟨_, rfl, _, rfl, p, C, dx, _, rfl, upd_same, T.cl, T.n1, (by show 1 < 1000; decide), ?_⟩
    refine ⟨_, rfl, ta, [(t.1 : Int), (t.2.1 : Int), (t.2.2 : Int)], rfl, .inl (.inl (by rw [upd_ne hne, upd_ne hne]; exact ht)), _, rfl, p, C, dx, _, rfl, upd_same, T.cl, T.n2, (by show 2 < 1000; decide), ?_⟩
    refine k _ ?_ fun b o e hb => ?_
    · rw [upd_same]
      have e : V.int ([(t.1 : Int), (t.2.1 : Int), (t.2.2 : Int)] : List Int).sum = vn (many t) := by
        simp only [List.sum_cons, List.sum_nil]
        show V.int _ = V.int ((many t : Nat) : Int)
        congr 1
        unfold many
        omega
      rw [e, pushF_new]
    · rw [upd_ne hb, upd_ne hb, upd_ne hb]
      exact e
/-! ### Rod(numbers) -/
def rodL (r : Rd) : List V := nums [r.q, r.b0, r.w0, r.b1, r.w1, r.b2, r.w2]
def sp_Rod_init (C : Addr) : Sp := fun vs H Q _ => ∃ (p dx l : Addr) (r : Rd), vs = [.ref p, .ref l] ∧ H p = some (.ins C dx []) ∧ H l = some (.lst (rodL r)) ∧
  ∀ (H' : Hp) (ba wa : Addr), H' p = some (.ins C dx (rodF r ba wa)) → H' ba = some (.lst (bL r)) → H' wa = some (.lst (wL r)) → H ba = none → H wa = none → (∀ b o, H b = some o → b ≠ p → H' b = some o) → Q .non H'
theorem sc_Rod_init : FnScope ["self", "numbers"] ["self", "numbers"] (defScope s_Rod_init) := ⟨rfl, rfl, rfl, by decide +kernel, rfl, by decide +kernel, by decide +kernel⟩
theorem ok_Rod_init {C f : Addr} {fd : FuncData} (F : Fun K "__init__" "Rod.__init__" s_Rod_init f fd) (T : ClsR K C) : FnOk P w K mg base CX0 1 f fd ["self", "numbers"] (sp_Rod_init C) := by
  refine F.ok sc_Rod_init (fun vs H Q E h => ?_) (fun cdv A outer s H vs Q E hr h => ⟨_, pss_cons (ps_fld (pv 0) (pe_ix ix_list (pv 1) pe_int (fun _ _ => rfl)) rfl)
      (pss_cons (ps_fld (pv 0) (pe_lst (pa_cons (pe_ix ix_list (pv 1) pe_int (fun _ _ => rfl)) (pa_cons (pe_ix ix_list (pv 1) pe_int (fun _ _ => rfl)) (pa_cons (pe_ix ix_list (pv 1) pe_int (fun _ _ => rfl)) pa_nil)))) rfl)
      (pss_one (ps_fld (pv 0) (pe_lst (pa_cons (pe_ix ix_list (pv 1) pe_int (fun _ _ => rfl)) (pa_cons (pe_ix ix_list (pv 1) pe_int (fun _ _ => rfl)) (pa_cons (pe_ix ix_list (pv 1) pe_int (fun _ _ => rfl)) pa_nil)))) rfl))), ?_⟩)
  · obtain ⟨p, dx, l, r, rfl, _⟩ := h
    rfl
  · obtain ⟨p, dx, l, r, rfl, hp, hl, k⟩ := h
    have hne : l ≠ p := ne_of hl hp (fun z => by cases z)
    refine ⟨_, rfl, l, _, _, _, rfl, rfl, SqL.of hl, atI_nat (j := 0) rfl, _, rfl, p, C, dx, [], rfl, hp, T.cl, T.n0, (by show 0 < 1000; decide), ?_⟩
    have hl1 : (upd H p (.ins C dx (putF "ratio" (vn r.q) []))) l = some (.lst (rodL r)) := by rw [upd_ne hne]; exact hl
    refine ⟨_, rfl, l, _, _, _, rfl, rfl, SqL.of hl1, atI_nat (j := 1) rfl, _, rfl, l, _, _, _, rfl, rfl, SqL.of hl1, atI_nat (j := 3) rfl, _, rfl, l, _, _, _, rfl, rfl, SqL.of hl1, atI_nat (j := 5) rfl, (by show 3 ≤ sizeLine; decide), fun ba hba => ?_⟩
    have hbp : ba ≠ p := fun z => by rw [z, upd_same] at hba; cases hba
    have hba0 : H ba = none := by rw [upd_ne hbp] at hba; exact hba
    refine ⟨_, rfl, p, C, dx, _, rfl, (by rw [upd_ne hbp.symm]; exact upd_same), T.cl, T.n1, (by show 1 < 1000; decide), ?_⟩
    generalize hH2 : upd (upd (upd H p (.ins C dx (putF "ratio" (vn r.q) []))) ba (.lst [vn r.b0, vn r.b1, vn r.b2])) p (.ins C dx (putF "beads" (.ref ba) (putF "ratio" (vn r.q) []))) = H2
    have hlb : l ≠ ba := ne_of_none hl hba0
    have hl2 : H2 l = some (.lst (rodL r)) := by rw [← hH2, upd_ne hne, upd_ne hlb]; exact hl1
    refine ⟨_, rfl, l, _, _, _, rfl, rfl, SqL.of hl2, atI_nat (j := 2) rfl, _, rfl, l, _, _, _, rfl, rfl, SqL.of hl2, atI_nat (j := 4) rfl, _, rfl, l, _, _, _, rfl, rfl, SqL.of hl2, atI_nat (j := 6) rfl, (by show 3 ≤ sizeLine; decide), fun wa hwa => ?_⟩
    have hwp : wa ≠ p := fun z => by rw [z, ← hH2, upd_same] at hwa; cases hwa
    have hwb : wa ≠ ba := fun z => by rw [z, ← hH2, upd_ne hbp, upd_same] at hwa; cases hwa
    have hwa0 : H wa = none := by rw [← hH2, upd_ne hwp, upd_ne hwb, upd_ne hwp] at hwa; exact hwa
    refine ⟨_, rfl, p, C, dx, _, rfl, (by rw [upd_ne hwp.symm, ← hH2]; exact upd_same), T.cl, T.n2, (by show 2 < 1000; decide), ?_⟩
    refine k _ ba wa (by rw [upd_same, rodF_new]) ?_ ?_ hba0 hwa0 fun b o e hb => ?_
    · rw [upd_ne hbp, upd_ne hwb.symm, ← hH2, upd_ne hbp]
      exact upd_same
    · rw [upd_ne hwp]
      exact upd_same
    · rw [upd_ne hb, upd_ne (ne_of_none e hwa0), ← hH2, upd_ne hb, upd_ne (ne_of_none e hba0), upd_ne hb]
      exact e
end
end Bw

namespace Bw
open PySem PySem.Spec PyProof.Rows L2 Bd0
open Bm (Rd Tp many lexT)
/-- a module's whole number -/
def Cst (mg : Str → Option Value) (x : Str) (n : Int) : Prop := ∃ t, mg x = some (.int n t)
theorem pe_cst {X : Cx} {x : Str} {n : Int} {pos : Pos} (hg : Gl X x) (c : Cst X.mg x n) (hd : (x == ("__debug__" : Str)) = false := by decide) : PE X (.Name x pos) (tC (.int n)) := by
  obtain ⟨t, h⟩ := c
  exact pe_glob hg h ⟨t, rfl⟩ hd
structure CM (mg : Str → Option Value) : Prop where
  mostRods : Cst mg "MOST_RODS" 64
  numbers : Cst mg "NUMBERS" 7
  leastRatio : Cst mg "LEAST_RATIO" 2
  mostRatio : Cst mg "MOST_RATIO" 20
  mostBeads : Cst mg "MOST_BEADS" 15
  mostWorth : Cst mg "MOST_WORTH" 63
  mostCount : Cst mg "MOST_COUNT" 255
  shape : Cst mg "SHAPE" 1
  deck : Cst mg "DECK" 2
  heavy : Cst mg "HEAVY" 3
  gap : Cst mg "GAP" 4
theorem vn_inj {a b : Nat} (h : vn a = vn b) : a = b := Int.ofNat.inj (V.int.inj h)
theorem PushAt.putD {C : Addr} {r : Rd} {H : Hp} {a l : Addr} {t : Tp} {xs ys : List (Key × V)} (h : PushAt C r H a t) (hl : H l = some (.dK xs)) : PushAt C r (upd H l (.dK ys)) a t := by
  obtain ⟨dx, ta, h1, h2⟩ := h
  exact ⟨dx, ta, by rw [upd_ne (ne_of h1 hl (fun z => by cases z))]; exact h1, by rw [upd_ne (ne_of h2 hl (fun z => by cases z))]; exact h2⟩
theorem len_flatMap {α β : Type} {f : α → List β} {c : Nat} : ∀ {l : List α}, (∀ a ∈ l, (f a).length = c) → (l.flatMap f).length = l.length * c
  | [], _ => by simp
  | a :: l, h => by
    rw [List.flatMap_cons, List.length_append, h a (by simp), len_flatMap (l := l) fun x hx => h x (by simp [hx]), List.length_cons, Nat.add_mul, Nat.one_mul, Nat.add_comm]
section
variable {P : Program} {w : World} {K : PySem.W.Frag} {mg : Str → Option Value} {base : Heap}
/-! ### rod.count_of(beads) -/
/-- a list or a tuple -/
def Sq (K : PySem.W.Frag) (H : Hp) (b : Addr) (xs : List V) : Prop := SqL K H b xs ∨ SqT K H b xs
def smallW (r : Rd) : Prop := r.w0 ≤ 63 ∧ r.w1 ≤ 63 ∧ r.w2 ≤ 63
def sp_Rod_count_of (K : PySem.W.Frag) (C : Addr) : Sp := fun vs H Q _ => ∃ (a b : Addr) (r : Rd) (t : Tp), vs = [.ref a, .ref b] ∧ RodAt C H a r ∧ Sq K H b (tupV t) ∧ smallW r ∧ ∀ H' : Hp, Same H H' → Q (vn (r.cnt t)) H'
theorem sc_Rod_count_of : FnScope ["self", "beads", "many", "worth"] ["self", "beads"] (defScope s_Rod_count_of) := ⟨rfl, rfl, rfl, by decide +kernel, rfl, by decide +kernel, by decide +kernel⟩
theorem ok_Rod_count_of {C f : Addr} {fd : FuncData} (F : Fun K "count_of" "Rod.count_of" s_Rod_count_of f fd) (B : TB mg) (T : ClsR K C) : FnOk P w K mg base CX0 1 f fd ["self", "beads"] (sp_Rod_count_of K C) := by
  refine F.ok sc_Rod_count_of (fun vs H Q E h => ?_) (fun cdv A outer s H vs Q E hr h => ⟨_, pss_one (ps_ret (pe_callB (cr_sum rfl) (by rfl) B.sum (by decide +kernel) (pa_cons
      (pe_lc (own := [("many", 2), ("worth", 3)]) (g := gTup K 2 (gCons (gName 2) (gCons (gName 3) gNil))) (tt := tYes) rfl sc_Rod_count_of.nd (pi_zipB (by rfl) B.zip (pa_cons (pv 1) (pa_cons (pe_fld (pv 0) rfl) pa_nil)))
        (blkOk_by (own := [("many", 2), ("worth", 3)]) (N := ["self", "beads", "many", "worth"]) (sc := defScope s_Rod_count_of) (by decide +kernel))
        (fun _ _ _ _ _ => pg_tup rfl (pgs_cons (pg_name (i := 2) sc_Rod_count_of.nd rfl (Or.inl rfl)) (pgs_cons (pg_name (i := 3) sc_Rod_count_of.nd rfl (Or.inl rfl)) pgs_nil))) (fun _ _ _ _ _ => pts_nil)
        (fun _ _ _ _ _ => pe_op op_mul (pv 2) (pv 3))) pa_nil))), ?_⟩)
  · obtain ⟨a, b, r, t, rfl, _⟩ := h
    rfl
  · obtain ⟨a, b, r, t, rfl, ⟨dx, ba, wa, h1, h2, h3⟩, hS, ⟨w0, w1, w2⟩, k⟩ := h
    have fin : ∀ J, Prs J 3 (tupV t) (wL r) H → ∀ D, H D = none → _ := fun J hJ D hD => lc_prsV (K := K) (J := J) (i := 2) (j := 3) (vs := [2, 3]) (σ := [some (.ref a), some (.ref b), none, none]) (H1 := H) (D := D) (n := 3)
      (te := tOp (rI CMul fun i j => .int (i * j)) (tVar 2) (tVar 3)) (Qd := fun H' => rSum K [.ref D] H' Q) hJ (by decide) (zs := [V.int ((t.1 : Int) * (r.w0 : Int)), V.int ((t.2.1 : Int) * (r.w1 : Int)), V.int ((t.2.2 : Int) * (r.w2 : Int))]) rfl hD (fun _ _ => rfl)
      (fun k x y z H' Q' e1 e2 e3 s hQ => by
        match k with
        | 0 =>
          cases e1; cases e2; cases e3
          exact ⟨_, rfl, _, rfl, _, _, rfl, rfl, .inr (by omega), hQ H' (Same.refl _)⟩
        | 1 =>
          cases e1; cases e2; cases e3
          exact ⟨_, rfl, _, rfl, _, _, rfl, rfl, .inr (by omega), hQ H' (Same.refl _)⟩
        | 2 =>
          cases e1; cases e2; cases e3
          exact ⟨_, rfl, _, rfl, _, _, rfl, rfl, .inr (by omega), hQ H' (Same.refl _)⟩
        | k + 3 => cases e1)
      (fun H' s e => ⟨D, [(t.1 : Int) * (r.w0 : Int), (t.2.1 : Int) * (r.w1 : Int), (t.2.2 : Int) * (r.w2 : Int)], rfl, .inl (.inl e), by
        have e : V.int ([(t.1 : Int) * (r.w0 : Int), (t.2.1 : Int) * (r.w1 : Int), (t.2.2 : Int) * (r.w2 : Int)] : List Int).sum = vn (r.cnt t) := by
          simp only [List.sum_cons, List.sum_nil]
          show V.int _ = V.int ((r.cnt t : Nat) : Int)
          congr 1
          unfold Rd.cnt
          rw [Int.natCast_add, Int.natCast_add, Int.natCast_mul, Int.natCast_mul, Int.natCast_mul]
          omega
        rw [e]
        exact k H' s⟩)
    refine ⟨_, rfl, _, rfl, a, C, dx, _, _, rfl, h1, T.cl, T.n2, rodF_worths, b, wa, tupV t, wL r, rfl, ?_⟩
    rcases hS with hS | hS
    · exact .inl ⟨hS, .inl (.inl h3), fun D hD => fin _ (prs_L hS (.inl (.inl h3)) rfl) D hD⟩
    · exact .inr ⟨hS, .inl (.inl h3), fun D hD => fin _ (prs_TL hS (.inl (.inl h3)) rfl) D hD⟩
end
end Bw

namespace Bw
open PySem PySem.Spec PyProof.Rows L2 Bd0
open Bm (Rd Tp many lexT)
section
variable {P : Program} {w : World} {K : PySem.W.Frag} {mg : Str → Option Value} {base : Heap}
/-! ### rod.has_fair_decks() -/
def sp_Rod_has_fair_decks (C : Addr) : Sp := fun vs H Q _ => ∃ (a : Addr) (r : Rd), vs = [.ref a] ∧ RodAt C H a r ∧ ∀ H' : Hp, Same H H' → Q (.bl (decide r.fair)) H'
theorem sc_Rod_has_fair_decks : FnScope ["self", "many", "worth"] ["self"] (defScope s_Rod_has_fair_decks) := ⟨rfl, rfl, rfl, by decide +kernel, rfl, by decide +kernel, by decide +kernel⟩
theorem max3 {m a b c k : Int} (h1 : m ∈ [a, b, c]) (h2 : ∀ y, y ∈ [a, b, c] → y ≤ m) : k < m ↔ (k < a ∨ k < b ∨ k < c) := by
  have ha := h2 a (by simp)
  have hb := h2 b (by simp)
  have hc := h2 c (by simp)
  simp only [List.mem_cons, List.not_mem_nil, or_false] at h1
  omega
theorem ok_Rod_has_fair_decks {C f : Addr} {fd : FuncData} (F : Fun K "has_fair_decks" "Rod.has_fair_decks" s_Rod_has_fair_decks f fd) (B : TB mg) (M : CM mg) (T : ClsR K C) : FnOk P w K mg base CX0 1 f fd ["self"] (sp_Rod_has_fair_decks C) := by
  refine F.ok sc_Rod_has_fair_decks (fun vs H Q E h => ?_) (fun cdv A outer s H vs Q E hr h => ⟨_, pss_cons
      (ps_if (PW.pt (pw_or (pt_cmpR op_lt (pe_fld (pv 0) rfl) (pe_cst rfl M.leastRatio) (nomark _)) (pw_or (pt_cmpR op_gt (pe_fld (pv 0) rfl) (pe_cst rfl M.mostRatio) (nomark _))
        (pw_or1 (pt_cmpR op_eq (pe_ix ix_list (pe_fld (pv 0) rfl) pe_int (fun _ _ => rfl)) pe_int (nomark _)))))) (pss_one (ps_ret pe_bl)) pss_nil)
      (pss_cons (ps_if (PW.pt (pw_and (pt_cmpR op_gt (pe_ix ix_list (pe_fld (pv 0) rfl) pe_int (fun _ _ => rfl)) pe_int (nomark _)) (pw_and1 (pt_cmpR op_eq (pe_ix ix_list (pe_fld (pv 0) rfl) pe_int (fun _ _ => rfl)) pe_int (nomark _))))) (pss_one (ps_ret pe_bl)) pss_nil)
      (pss_cons (ps_if (PW.pt (pw_or (pt_cmpR op_gt (pe_callB (cr_max rfl) (by rfl) B.max (by decide +kernel) (pa_cons (pe_fld (pv 0) rfl) pa_nil)) (pe_cst rfl M.mostBeads) (nomark _))
        (pw_or1 (pt_cmpR op_gt (pe_callB (cr_max rfl) (by rfl) B.max (by decide +kernel) (pa_cons (pe_fld (pv 0) rfl) pa_nil)) (pe_cst rfl M.mostWorth) (nomark _))))) (pss_one (ps_ret pe_bl)) pss_nil)
      (pss_one (ps_ret (pe_callB (cr_all rfl) (by rfl) B.all (by decide +kernel) (pa_cons
        (pe_lc (own := [("many", 1), ("worth", 2)]) (g := gTup K 2 (gCons (gName 1) (gCons (gName 2) gNil))) (tt := tYes) rfl sc_Rod_has_fair_decks.nd (pi_zipB (by rfl) B.zip (pa_cons (pe_fld (pv 0) rfl) (pa_cons (pe_fld (pv 0) rfl) pa_nil)))
          (blkOk_by (own := [("many", 1), ("worth", 2)]) (N := ["self", "many", "worth"]) (sc := defScope s_Rod_has_fair_decks) (by decide +kernel))
          (fun _ _ _ _ _ => pg_tup rfl (pgs_cons (pg_name (i := 1) sc_Rod_has_fair_decks.nd rfl (Or.inl rfl)) (pgs_cons (pg_name (i := 2) sc_Rod_has_fair_decks.nd rfl (Or.inl rfl)) pgs_nil))) (fun _ _ _ _ _ => pts_nil)
          (fun _ _ _ _ _ => pe_cmpR op_eq (pe_cmpR op_eq (pv 1) pe_int (nomark _)) (pe_cmpR op_eq (pv 2) pe_int (nomark _)) (nomark _))) pa_nil)))))), ?_⟩)
  · obtain ⟨a, r, rfl, _⟩ := h
    rfl
  · obtain ⟨a, r, rfl, ⟨dx, ba, wa, h1, h2, h3⟩, k⟩ := h
    have no : ¬ r.fair → Q (.bl false) H := fun n => by
      have := k H (Same.refl _)
      rw [decide_eq_false n] at this
      exact this
    refine ⟨_, rfl, a, C, dx, _, _, rfl, h1, T.cl, T.n0, rodF_ratio, _, _, rfl, rfl, _, rfl, ite2 (fun e => iteT (no fun z => ?_)) fun e1 => ?_⟩
    · have := of_decide_eq_true e
      have := z.1
      omega
    refine ⟨_, rfl, a, C, dx, _, _, rfl, h1, T.cl, T.n0, rodF_ratio, _, _, rfl, rfl, _, rfl, ite2 (fun e => iteT (no fun z => ?_)) fun e2 => ?_⟩
    · have := of_decide_eq_true e
      have := z.2.1
      omega
    refine ⟨_, rfl, a, C, dx, _, _, rfl, h1, T.cl, T.n1, rodF_beads, ba, _, _, _, rfl, rfl, SqL.of h2, atI_nat (j := 0) rfl, rfl, _, rfl, ite2 (fun e => no fun z => ?_) fun e3 => ?_⟩
    · exact z.2.2.1 (vn_inj (of_decide_eq_true e))
    refine ⟨_, rfl, a, C, dx, _, _, rfl, h1, T.cl, T.n1, rodF_beads, ba, _, _, _, rfl, rfl, SqL.of h2, atI_nat (j := 2) rfl, _, _, rfl, rfl, _, rfl, ?_⟩
    by_cases hd : r.b2 = 0 ∨ r.b1 ≠ 0
    · refine ite2 (fun e => ⟨_, rfl, a, C, dx, _, _, rfl, h1, T.cl, T.n1, rodF_beads, ba, _, _, _, rfl, rfl, SqL.of h2, atI_nat (j := 1) rfl, rfl, _, rfl, ite2 (fun e' => no fun z => ?_) fun e' => ?_⟩) fun e => ?_
      · have h0 : r.b1 = 0 := vn_inj (of_decide_eq_true e')
        have h1 : (0 : Int) < (r.b2 : Int) := of_decide_eq_true e
        have := z.2.2.2.1
        omega
      all_goals
          refine ⟨_, rfl, a, C, dx, _, _, rfl, h1, T.cl, T.n1, rodF_beads, ba, [(r.b0 : Int), (r.b1 : Int), (r.b2 : Int)], rfl, SqL.of h2, (by show 0 < 3; decide), fun m hm hle => ?_⟩
          refine ⟨_, _, rfl, rfl, _, rfl, ite2 (fun e => iteT (no fun z => ?_)) fun e4 => ?_⟩
          · have := (max3 hm hle).mp (of_decide_eq_true e)
            have := z.2.2.2.2.1
            omega
          refine ⟨_, rfl, a, C, dx, _, _, rfl, h1, T.cl, T.n2, rodF_worths, wa, [(r.w0 : Int), (r.w1 : Int), (r.w2 : Int)], rfl, SqL.of h3, (by show 0 < 3; decide), fun m2 hm2 hle2 => ?_⟩
          refine ⟨_, _, rfl, rfl, _, rfl, ite2 (fun e => no fun z => ?_) fun e5 => ?_⟩
          · have := (max3 hm2 hle2).mp (of_decide_eq_true e)
            have := z.2.2.2.2.2.1
            omega
          have g4 : ¬ ((15 : Int) < r.b0 ∨ (15 : Int) < r.b1 ∨ (15 : Int) < r.b2) := fun z => e4 (decide_eq_true ((max3 hm hle).mpr z))
          have g5 : ¬ ((63 : Int) < r.w0 ∨ (63 : Int) < r.w1 ∨ (63 : Int) < r.w2) := fun z => e5 (decide_eq_true ((max3 hm2 hle2).mpr z))
          have g1 : ¬ ((r.q : Int) < 2) := fun z => e1 (decide_eq_true z)
          have g2 : ¬ ((20 : Int) < (r.q : Int)) := fun z => e2 (decide_eq_true z)
          have g3 : ¬ r.b0 = 0 := fun z => e3 (decide_eq_true (by rw [z]; rfl))
          let f : Nat → Nat → Bool := fun x y => decide (V.bl (decide (vn x = vn 0)) = V.bl (decide (vn y = vn 0)))
          have hf : ∀ x y, f x y = true ↔ (x = 0 ↔ y = 0) := fun x y => by
            show decide (V.bl (decide (vn x = vn 0)) = V.bl (decide (vn y = vn 0))) = true ↔ _
            rw [decide_eq_true_iff, V.bl.injEq]
            have e : ∀ n : Nat, decide (vn n = vn 0) = decide (n = 0) := fun n => by
              rw [decide_eq_decide]
              exact ⟨vn_inj, fun z => by rw [z]⟩
            rw [e, e, decide_eq_decide]
          refine ⟨_, rfl, a, C, dx, _, _, rfl, h1, T.cl, T.n1, rodF_beads, _, rfl, a, C, dx, _, _, rfl, h1, T.cl, T.n2, rodF_worths, ba, wa, bL r, wL r, rfl, .inl ⟨SqL.of h2, SqL.of h3, fun D hD => ?_⟩⟩
          refine lc_prsV (K := K) (i := 1) (j := 2) (vs := [1, 2]) (prs_L (SqL.of h2) (SqL.of h3) rfl) (by show 3 ≤ 1000; decide) (zs := [V.bl (f r.b0 r.w0), V.bl (f r.b1 r.w1), V.bl (f r.b2 r.w2)]) rfl hD (fun _ _ => rfl) (fun k x y z H' Q' e1 e2 e3 s hQ => ?_) (fun H' s e => ?_)
          · match k with
            | 0 =>
              cases e1; cases e2; cases e3
              exact ⟨_, rfl, rfl, _, rfl, rfl, rfl, hQ H' (Same.refl _)⟩
            | 1 =>
              cases e1; cases e2; cases e3
              exact ⟨_, rfl, rfl, _, rfl, rfl, rfl, hQ H' (Same.refl _)⟩
            | 2 =>
              cases e1; cases e2; cases e3
              exact ⟨_, rfl, rfl, _, rfl, rfl, rfl, hQ H' (Same.refl _)⟩
            | k + 3 => cases e1
          · refine ⟨D, [f r.b0 r.w0, f r.b1 r.w1, f r.b2 r.w2], rfl, .inl (.inl e), ?_⟩
            have e : ([f r.b0 r.w0, f r.b1 r.w1, f r.b2 r.w2] : List Bool).all id = decide r.fair := by
              rw [Bool.eq_iff_iff, decide_eq_true_iff]
              simp only [List.all_cons, List.all_nil, Bool.and_true, Bool.and_eq_true, id, hf]
              unfold Rd.fair
              constructor
              · rintro ⟨a, b, c⟩
                exact ⟨by omega, by omega, g3, hd, by omega, by omega, a, b, c⟩
              · rintro ⟨_, _, _, _, _, _, a, b, c⟩
                exact ⟨a, b, c⟩
            rw [e]
            exact k H' s
    · refine ite2 (fun e => ⟨_, rfl, a, C, dx, _, _, rfl, h1, T.cl, T.n1, rodF_beads, ba, _, _, _, rfl, rfl, SqL.of h2, atI_nat (j := 1) rfl, rfl, _, rfl, ite2 (fun e' => no fun z => hd z.2.2.2.1) fun e' => ?_⟩) fun e => ?_
      · exact absurd (decide_eq_true (show vn r.b1 = vn 0 by rw [show r.b1 = 0 by omega])) e'
      · exact absurd (decide_eq_true (show (0 : Int) < (r.b2 : Int) by omega)) e
end
end Bw

namespace Bw
open PySem PySem.Spec PyProof.Rows L2 Bd0
open Bm (Rd Tp many lexT)
def small (r : Rd) : Prop := (r.b0 ≤ 15 ∧ r.b1 ≤ 15 ∧ r.b2 ≤ 15) ∧ smallW r
theorem small_of {r : Rd} (h : r.fair) : small r := ⟨h.2.2.2.2.1, h.2.2.2.2.2.1⟩
def L3 (r : Rd) (x y k : Nat) : List Tp := (List.range k).map fun z => (x, y, z)
def L2' (r : Rd) (x j : Nat) : List Tp := (List.range j).flatMap fun y => L3 r x y (r.b2 + 1)
def L1' (r : Rd) (i : Nat) : List Tp := (List.range i).flatMap fun x => L2' r x (r.b1 + 1)
theorem tps_L (r : Rd) : r.tps = L1' r (r.b0 + 1) := rfl
theorem L1_succ (r : Rd) (i : Nat) : L1' r (i + 1) = L1' r i ++ L2' r i (r.b1 + 1) := by
  unfold L1'
  rw [List.range_succ, List.flatMap_append, List.flatMap_singleton]
theorem L2_succ (r : Rd) (x i : Nat) : L2' r x (i + 1) = L2' r x i ++ L3 r x i (r.b2 + 1) := by
  unfold L2'
  rw [List.range_succ, List.flatMap_append, List.flatMap_singleton]
theorem L3_succ (r : Rd) (x y k : Nat) : L3 r x y (k + 1) = L3 r x y k ++ [(x, y, k)] := by
  unfold L3
  rw [List.range_succ, List.map_append]
  rfl
theorem L3_len (r : Rd) (x y k : Nat) : (L3 r x y k).length = k := by unfold L3; rw [List.length_map, List.length_range]
theorem L2_len (r : Rd) (x j : Nat) : (L2' r x j).length = j * (r.b2 + 1) := by
  unfold L2'
  rw [len_flatMap (c := r.b2 + 1) fun y _ => L3_len r x y _, List.length_range]
theorem L1_len (r : Rd) (i : Nat) : (L1' r i).length = i * ((r.b1 + 1) * (r.b2 + 1)) := by
  unfold L1'
  rw [len_flatMap (c := (r.b1 + 1) * (r.b2 + 1)) fun y _ => L2_len r y _, List.length_range]
theorem L_small {r : Rd} (h : small r) {i j k : Nat} (hi : i ≤ r.b0 + 1) (hj : j ≤ r.b1 + 1) (hk : k ≤ r.b2 + 1) : (L1' r i ++ L2' r i j ++ L3 r i j k).length ≤ 5000 := by
  rw [List.length_append, List.length_append, L1_len, L2_len, L3_len]
  obtain ⟨⟨a, b, c⟩, _⟩ := h
  have h1 : (r.b1 + 1) * (r.b2 + 1) ≤ 16 * 16 := Nat.mul_le_mul (by omega) (by omega)
  have h2 : i * ((r.b1 + 1) * (r.b2 + 1)) ≤ 16 * 256 := Nat.mul_le_mul (by omega) h1
  have h3 : j * (r.b2 + 1) ≤ 16 * 16 := Nat.mul_le_mul (by omega) (by omega)
  omega
theorem tps_len {r : Rd} (h : small r) : r.tps.length ≤ 5000 := by
  have := L_small h (i := r.b0 + 1) (j := 0) (k := 0) (Nat.le_refl _) (Nat.zero_le _) (Nat.zero_le _)
  rw [tps_L]
  rw [List.length_append, List.length_append] at this
  omega
theorem small5000 {n : Nat} (h : n ≤ 5000) : n < sizeLine := Nat.lt_of_le_of_lt h (by decide)
section
variable {P : Program} {w : World} {K : PySem.W.Frag} {mg : Str → Option Value} {base : Heap}
/-! ### rod.pushes() -/
def Pushes (CP : Addr) (r : Rd) (H : Hp) (l : Addr) (ts : List Tp) : Prop := ∃ vs, H l = some (.lst vs) ∧ Objs (fun b t => PushAt CP r H b t) vs ts
def sp_Rod_pushes (C CP : Addr) : Sp := fun vs H Q _ => ∃ (a : Addr) (r : Rd), vs = [.ref a] ∧ RodAt C H a r ∧ small r ∧ ∀ (H' : Hp) (l : Addr), Same H H' → H l = none → Pushes CP r H' l r.tps → Q (.ref l) H'
theorem sc_Rod_pushes : FnScope ["self", "found", "first", "second", "third", "beads"] ["self"] (defScope s_Rod_pushes) := ⟨rfl, rfl, rfl, by decide +kernel, rfl, by decide +kernel, by decide +kernel⟩
theorem ok_Rod_pushes {C CP f : Addr} {fd : FuncData} (F : Fun K "pushes" "Rod.pushes" s_Rod_pushes f fd) (B : TB mg) (T : ClsR K C) (GP : Mkr P w K mg base CP 1 "Push" ["self", "beads", "count"] (sp_Push_init CP)) (GC : Mt P w K mg base C 1 "count_of" ["self", "beads"] (sp_Rod_count_of K C)) :
    FnOk P w K mg base CX0 3 f fd ["self"] (sp_Rod_pushes C CP) := by
  refine F.ok sc_Rod_pushes (fun vs H Q E h => ?_) (fun cdv A outer s H vs Q E hr h => ?_)
  · obtain ⟨a, r, rfl, _⟩ := h
    rfl
  have hr1 : Room 1 (A.deeper (envOfC "Rod.pushes" (defScope s_Rod_pushes) s.heap.objs.size f cdv)) := hr.mono (by decide)
  refine ⟨_, pss_cons (ps_set (i := 1) sc_Rod_pushes.nd rfl (Or.inl rfl) (pe_lst pa_nil))
      (pss_cons (ps_for PassesOwn.never rfl (pi_range1 rfl B.range (pa_cons (pe_op op_add (pe_ix ix_list (pe_fld (pv 0) rfl) pe_int (fun _ _ => rfl)) pe_int) pa_nil)) (pg_name (i := 2) sc_Rod_pushes.nd rfl (Or.inl rfl))
        (pss_one (ps_for PassesOwn.never rfl (pi_range1 rfl B.range (pa_cons (pe_op op_add (pe_ix ix_list (pe_fld (pv 0) rfl) pe_int (fun _ _ => rfl)) pe_int) pa_nil)) (pg_name (i := 3) sc_Rod_pushes.nd rfl (Or.inl rfl))
          (pss_one (ps_for PassesOwn.never rfl (pi_range1 rfl B.range (pa_cons (pe_op op_add (pe_ix ix_list (pe_fld (pv 0) rfl) pe_int (fun _ _ => rfl)) pe_int) pa_nil)) (pg_name (i := 4) sc_Rod_pushes.nd rfl (Or.inl rfl))
            (pss_cons (ps_set (i := 5) sc_Rod_pushes.nd rfl (Or.inl rfl) (pe_tup (pa_cons (pv 2) (pa_cons (pv 3) (pa_cons (pv 4) pa_nil)))))
            (pss_one (ps_expr (pe_bm PySem.F.plainAttrs_list PySem.F.slot_list_append PySem.F.type_list_append mt_append (pv 1)
              (pa_cons (pe_mk GP hr (by rfl) (pa_cons (pv 5) (pa_cons (pe_mt (pv 0) T.cl GC hr1 (by exact (pa_cons (pv 5) pa_nil))) pa_nil))) pa_nil))))))))))
      (pss_one (ps_ret (pv 1)))), ?_⟩
  obtain ⟨a, r, rfl, ha, hsm, k⟩ := h
  obtain ⟨⟨s0, s1, s2⟩, hw⟩ := id hsm
  have z : ∀ i : Nat, V.int (0 + (i : Int)) = vn i := fun i => by rw [Int.zero_add]
  refine ⟨Nat.zero_le _, fun l hl => ?_⟩
  have sb : ∀ {H' : Hp}, Same H H' → ∃ dx ba wa, H' a = some (.ins C dx (rodF r ba wa)) ∧ H' ba = some (.lst (bL r)) := fun {H'} s => by
    obtain ⟨dx, ba, wa, e1, e2, e3⟩ := ha.same s
    exact ⟨dx, ba, wa, e1, e2⟩
  have z0 : Same H (upd H l (.lst [])) := same_upd hl
  obtain ⟨dx, ba, wa, e1, e2⟩ := sb z0
  refine ⟨_, rfl, a, C, dx, _, _, rfl, e1, T.cl, T.n1, rodF_beads, ba, _, _, _, rfl, rfl, SqL.of e2, atI_nat (j := 0) rfl, _, _, rfl, rfl, _, rfl, by omega, by omega, ?_⟩
  have n0 : ((r.b0 : Int) + 1).toNat = r.b0 + 1 := by omega
  refine for_range (n := ((r.b0 : Int) + 1).toNat) (fun i σ H' => ∃ v2 v3 v4 v5, σ = [some (.ref a), some (.ref l), v2, v3, v4, v5] ∧ Same H H' ∧ Pushes CP r H' l (L1' r i))
    ⟨none, none, none, none, rfl, z0, [], upd_same, Objs.nil⟩ ?_ ?_
  · rintro i σ H1 hi ⟨v2, v3, v4, v5, rfl, s1', p1⟩
    obtain ⟨dx, ba, wa, e1, e2⟩ := sb s1'
    refine ⟨_, rfl, a, C, dx, _, _, rfl, e1, T.cl, T.n1, rodF_beads, ba, _, _, _, rfl, rfl, SqL.of e2, atI_nat (j := 1) rfl, _, _, rfl, rfl, _, rfl, by omega, by omega, ?_⟩
    have n1 : ((r.b1 : Int) + 1).toNat = r.b1 + 1 := by omega
    refine for_range (n := ((r.b1 : Int) + 1).toNat) (fun j σ H' => ∃ v3 v4 v5, σ = [some (.ref a), some (.ref l), some (.int (0 + (i : Int))), v3, v4, v5] ∧ Same H H' ∧ Pushes CP r H' l (L1' r i ++ L2' r i j))
      ⟨_, _, _, rfl, s1', by rw [show L2' r i 0 = [] from rfl, List.append_nil]; exact p1⟩ ?_ ?_
    · rintro j σ H2 hj ⟨v3, v4, v5, rfl, s2', p2⟩
      obtain ⟨dx, ba, wa, e1, e2⟩ := sb s2'
      refine ⟨_, rfl, a, C, dx, _, _, rfl, e1, T.cl, T.n1, rodF_beads, ba, _, _, _, rfl, rfl, SqL.of e2, atI_nat (j := 2) rfl, _, _, rfl, rfl, _, rfl, by omega, by omega, ?_⟩
      have n2 : ((r.b2 : Int) + 1).toNat = r.b2 + 1 := by omega
      refine for_range (n := ((r.b2 : Int) + 1).toNat) (fun m σ H' => ∃ v4 v5, σ = [some (.ref a), some (.ref l), some (.int (0 + (i : Int))), some (.int (0 + (j : Int))), v4, v5] ∧ Same H H' ∧ Pushes CP r H' l (L1' r i ++ L2' r i j ++ L3 r i j m))
        ⟨_, _, rfl, s2', by rw [show L3 r i j 0 = [] from rfl, List.append_nil]; exact p2⟩ ?_ ?_
      · rintro m σ H3 hm ⟨v4, v5, rfl, s3', us, el, ob⟩
        -- beads = (first, second, third)
        refine ⟨_, rfl, _, rfl, _, rfl, (by show 3 ≤ sizeLine; decide), fun tt htt => ?_⟩
        have sT : Same H3 (upd H3 tt (.tup [.int (0 + (i : Int)), .int (0 + (j : Int)), .int (0 + (m : Int))])) := same_upd htt
        have eT : (upd H3 tt (.tup [.int (0 + (i : Int)), .int (0 + (j : Int)), .int (0 + (m : Int))])) tt = some (.tup (tupV (i, j, m))) := by
          rw [upd_same, z, z, z]
          rfl
        generalize upd H3 tt (.tup [.int (0 + (i : Int)), .int (0 + (j : Int)), .int (0 + (m : Int))]) = H4 at sT eT
        have s4 : Same H H4 := s3'.trans sT
        obtain ⟨dx, ba, wa, e1, e2⟩ := sb s4
        -- found.append(Push(beads, self.count_of(beads)))
        refine ⟨_, rfl, .inl ⟨rfl, _, SqL.of (sT _ _ el)⟩, _, rfl, _, rfl, a, dx, _, rfl, e1, rodF_m _ (by decide +kernel), _, rfl, ?_⟩
        refine ⟨a, tt, r, (i, j, m), rfl, ha.same s4, .inr (SqT.of eT), hw, fun H5 s5 => ?_⟩
        intro x dx' nx ndx ne
        have t5 : H5 tt = some (.tup (tupV (i, j, m))) := s5 _ _ eT
        have s45 : Same H H5 := s4.trans s5
        refine ⟨x, dx', tt, r, (i, j, m), rfl, upd_same, by rw [upd_ne (ne_of_none t5 nx), upd_ne (ne_of_none t5 ndx)]; exact t5, fun H6 ex kp => ⟨rfl, ?_⟩⟩
        have s6 : Same H5 H6 := Same.made nx ndx kp
        have s46 : Same H3 H6 := (sT.trans s5).trans s6
        refine ⟨l, _, _, rfl, rfl, s46 _ _ el, ?_, ?_⟩
        · rw [ob.1]
          exact small5000 (L_small hsm (by omega) (by omega) (by omega))
        · refine ⟨_, _, rfl, same_put hl (s45.trans s6), us ++ [.ref x], upd_same, ?_⟩
          rw [L3_succ, ← List.append_assoc]
          refine (ob.imp fun b t hb => ?_).snoc ?_
          · exact (hb.same s46).put (s46 _ _ el)
          · exact PushAt.put ⟨dx', tt, ex, s6 _ _ t5⟩ (s46 _ _ el)
      · rintro σ H3 ⟨v4, v5, rfl, s3', p3⟩
        exact ⟨_, _, _, rfl, s3', by rw [L2_succ, ← List.append_assoc]; rw [n2] at p3; exact p3⟩
    · rintro σ H2 ⟨v3, v4, v5, rfl, s2', p2⟩
      exact ⟨_, _, _, _, rfl, s2', by rw [L1_succ]; rw [n1] at p2; exact p2⟩
  · rintro σ H1 ⟨v2, v3, v4, v5, rfl, s1', p1⟩
    rw [n0, ← tps_L] at p1
    exact ⟨_, rfl, k H1 l s1' hl p1⟩
end
end Bw

namespace Bw
open PySem PySem.Spec PyProof.Rows L2 Bd0
open Bm (Rd Tp many lexT)
theorem take_more {α : Type} {l : List α} {i : Nat} {x : α} (h : l[i]? = some x) : l.take (i + 1) = l.take i ++ [x] := by
  rw [List.take_add_one, h]
  rfl
theorem upd_id {H : Hp} {d : Addr} {o : HO} (h : H d = some o) : upd H d o = H := by
  funext b
  by_cases hb : b = d
  · rw [hb, upd_same, h]
  · rw [upd_ne hb]
section
variable {P : Program} {w : World} {K : PySem.W.Frag} {mg : Str → Option Value} {base : Heap}
/-! ### rod.fault() -/
def sp_Rod_fault (C : Addr) : Sp := fun vs H Q _ => ∃ (a : Addr) (r : Rd), vs = [.ref a] ∧ RodAt C H a r ∧ ∀ H' : Hp, Same H H' → Q (vn r.fault) H'
theorem sc_Rod_fault : FnScope ["self", "there", "push", "digit"] ["self"] (defScope s_Rod_fault) := ⟨rfl, rfl, rfl, by decide +kernel, rfl, by decide +kernel, by decide +kernel⟩
theorem ok_Rod_fault {C CP f : Addr} {fd : FuncData} (F : Fun K "fault" "Rod.fault" s_Rod_fault f fd) (B : TB mg) (M : CM mg) (T : ClsR K C) (TP : ClsP K CP) (GF : Mt P w K mg base C 1 "has_fair_decks" ["self"] (sp_Rod_has_fair_decks C))
    (GC : Mt P w K mg base C 1 "count_of" ["self", "beads"] (sp_Rod_count_of K C)) (GP : Mt P w K mg base C 3 "pushes" ["self"] (sp_Rod_pushes C CP)) : FnOk P w K mg base CX0 4 f fd ["self"] (sp_Rod_fault C) := by
  refine F.ok sc_Rod_fault (fun vs H Q E h => ?_) (fun cdv A outer s H vs Q E hr h => ?_)
  · obtain ⟨a, r, rfl, _⟩ := h
    rfl
  have hr1 : Room 1 (A.deeper (envOfC "Rod.fault" (defScope s_Rod_fault) s.heap.objs.size f cdv)) := hr.mono (by decide)
  refine ⟨_, pss_cons (ps_if (pt_not (pt_val (pe_mt0 (pv 0) T.cl GF hr1))) (pss_one (ps_ret (pe_cst rfl M.deck))) pss_nil)
      (pss_cons (ps_if (pt_cmpR op_gt (pe_mt (pv 0) T.cl GC hr1 (by exact (pa_cons (pe_fld (pv 0) rfl) pa_nil))) (pe_cst rfl M.mostCount) (nomark _)) (pss_one (ps_ret (pe_cst rfl M.heavy))) pss_nil)
      (pss_cons (ps_set (i := 1) sc_Rod_fault.nd rfl (Or.inr rfl) pe_dnewK)
      (pss_cons (ps_for PassesOwn.never rfl (pi_list (pe_mt0 (pv 0) T.cl GP hr)) (pg_name (i := 2) sc_Rod_fault.nd rfl (Or.inl rfl))
        (pss_one (ps_dput (hu_of hr) (pv 1) (pe_fld (pv 2) rfl) pe_bl rfl)))
      (pss_cons (ps_if (pt_not (pt_val (pe_callB (cr_all rfl) (by rfl) B.all (by decide +kernel) (pa_cons
          (pe_lc (own := [("digit", 3)]) (g := gName 3) (tt := tYes) rfl sc_Rod_fault.nd (pi_range1 rfl B.range (pa_cons (pe_fld (pv 0) rfl) pa_nil))
            (blkOk_by (own := [("digit", 3)]) (N := ["self", "there", "push", "digit"]) (sc := defScope s_Rod_fault) (by decide +kernel))
            (fun _ _ _ _ _ => pg_name (i := 3) sc_Rod_fault.nd rfl (Or.inl rfl)) (fun _ _ _ _ _ => pts_nil)
            (fun _ _ _ _ _ => pe_cmp (pc_din (hu_of hr) (pv 3) (pv 1)) rfl)) pa_nil)))) (pss_one (ps_ret (pe_cst rfl M.gap))) pss_nil)
      (pss_one (ps_ret pe_int)))))), ?_⟩
  obtain ⟨a, r, rfl, ha, k⟩ := h
  obtain ⟨dx, ba, wa, h1, h2, h3⟩ := id ha
  -- not self.has_fair_decks()
  refine ⟨_, rfl, a, dx, _, rfl, h1, rodF_m _ (by decide +kernel), a, r, rfl, ha, fun H1 s1 => ⟨_, rfl, ?_⟩⟩
  by_cases hf : r.fair
  rotate_left
  · rw [decide_eq_false hf]
    refine iteT ?_
    have := k H1 s1
    rw [show r.fault = 2 by unfold Bm.Rd.fault; rw [if_pos hf]] at this
    exact this
  rw [decide_eq_true hf]
  refine iteF ?_
  have hsm := small_of hf
  -- self.count_of(self.beads) > MOST_COUNT
  refine ⟨_, rfl, a, dx, _, rfl, s1 _ _ h1, rodF_m _ (by decide +kernel), _, rfl, a, C, dx, _, _, rfl, s1 _ _ h1, T.cl, T.n1, rodF_beads, a, ba, r, r.all, rfl, ha.same s1, .inl (SqL.of (s1 _ _ h2)), hsm.2, fun H2 s2 => ?_⟩
  refine ⟨_, _, rfl, rfl, _, rfl, ite2 (fun e => ?_) fun e => ?_⟩
  · have e' : (255 : Int) < ((r.cnt r.all : Nat) : Int) := of_decide_eq_true e
    have := k H2 (s1.trans s2)
    rw [show r.fault = 3 by unfold Bm.Rd.fault; rw [if_neg (fun z => z hf), if_pos (by show 255 < r.most; unfold Rd.most; omega)]] at this
    exact this
  have hm : ¬ 255 < r.most := fun z => e (decide_eq_true (by show (255 : Int) < ((r.cnt r.all : Nat) : Int); unfold Rd.most at z; omega))
  -- there = {}
  intro d hd
  have s02 : Same H H2 := s1.trans s2
  have s3 : Same H2 (upd H2 d (.dK [])) := same_upd hd
  -- for push in self.pushes()
  refine ⟨_, rfl, a, dx, _, rfl, s3 _ _ (s02 _ _ h1), rodF_m _ (by decide +kernel), a, r, rfl, (ha.same s02).same s3, hsm, fun H4 l s4 hl ⟨us, el, ob⟩ => ?_⟩
  have ed : H4 d = some (.dK []) := s4 _ _ upd_same
  have ld : l ≠ d := ne_of el ed (fun z => by cases z)
  have s24 : Same H2 H4 := s3.trans s4
  have sput : ∀ kvs, Same H (upd H4 d (.dK kvs)) := fun kvs => s02.trans (same_put hd s24)
  refine ⟨l, rfl, ⟨_, SqL.of el⟩, for_list (K := K) (a := l) (xs := us) (fun i σ H' => ∃ v2 v3 kvs, σ = [some (.ref a), some (.ref d), v2, v3] ∧ H' = upd H4 d (.dK kvs) ∧ kvs.length ≤ i ∧
      ∀ n : Nat, (valV kvs (Sum.inl (n : Int))).isSome = true ↔ ∃ t ∈ r.tps.take i, r.cnt t = n)
    ⟨none, none, [], rfl, (upd_id ed).symm, Nat.le_refl _, fun n => by simp [valV]⟩ ?_ ?_ ?_⟩
  · rintro i σ H' _ ⟨v2, v3, kvs, rfl, rfl, _, _⟩
    exact SqL.of (by rw [upd_ne ld]; exact el)
  · rintro i x σ H' hx ⟨v2, v3, kvs, rfl, rfl, hlen, hk⟩
    obtain ⟨b, t, rfl, ht, hb⟩ := ob.ref hx
    obtain ⟨dx2, ta, hb1, hb2⟩ := hb.putD (ys := kvs) ed
    have hi : i < r.tps.length := (List.getElem?_eq_some_iff.mp ht).1
    have hle := tps_len hsm
    refine ⟨_, rfl, _, rfl, b, CP, dx2, _, _, rfl, hb1, TP.cl, TP.n1, pushF_count, d, _, rfl, DPut.k (k := Sum.inl (r.cnt t : Int)) upd_same (small5000 (by omega)), ?_⟩
    refine ⟨_, _, putK kvs (Sum.inl (r.cnt t : Int)) (.bl true), rfl, by rw [upd_upd], Nat.le_trans (length_putK _ _ _) (by omega), fun n => ?_⟩
    rw [valV_put, take_more ht]
    by_cases hn : r.cnt t = n
    · rw [if_pos (by rw [hn])]
      simp only [Option.isSome_some, true_iff]
      exact ⟨t, by simp, hn⟩
    · rw [if_neg (fun z => hn (by have := Sum.inl.inj z; omega)), hk]
      constructor
      · rintro ⟨t', h', e'⟩
        exact ⟨t', List.mem_append_left _ h', e'⟩
      · rintro ⟨t', h', e'⟩
        rcases List.mem_append.mp h' with h' | h'
        · exact ⟨t', h', e'⟩
        · have : t' = t := by simpa using h'
          subst this
          exact absurd e' hn
  · rintro σ H' ⟨v2, v3, kvs, rfl, rfl, hlen, hk⟩
    rw [ob.1, List.take_length] at hk
    have sH := sput kvs
    have edk : (upd H4 d (.dK kvs)) d = some (.dK kvs) := upd_same
    generalize upd H4 d (.dK kvs) = H5 at sH edk
    -- if not all([digit in there for digit in range(self.ratio)])
    refine ⟨_, rfl, a, C, dx, _, _, rfl, sH _ _ h1, T.cl, T.n0, rodF_ratio, _, rfl, by have := hf.1; omega, by have := hf.2.1; omega, fun D hD => ?_⟩
    have hq : ((r.q : Int)).toNat = r.q := Int.toNat_natCast _
    refine lc_rngV (n := ((r.q : Int)).toNat) (i := 3) (vs := [3]) (zs := ((List.range r.q).map fun (n : Nat) => (valV kvs (Sum.inl (n : Int))).isSome).map V.bl) (by have := hf.2.1; omega) (by simp) hD (fun _ => rfl) (fun n z H6 Q' hn hz s6 hQ => ?_) (fun H6 s6 e6 => ?_)
    · rw [List.map_map, List.getElem?_map, List.getElem?_range (by omega)] at hz
      have hz' := Option.some.inj hz
      subst hz'
      refine ⟨_, rfl, _, rfl, d, _, rfl, DGet.k (k := Sum.inl (0 + (n : Int))) (s6 _ _ edk), ?_⟩
      rw [Int.zero_add]
      exact hQ H6 (Same.refl _)
    · refine ⟨D, _, rfl, .inl (.inl e6), _, rfl, ?_⟩
      have e : (((List.range r.q).map fun (n : Nat) => (valV kvs (Sum.inl (n : Int))).isSome).all id) = decide r.whole := by
        rw [Bool.eq_iff_iff, decide_eq_true_iff, List.all_eq_true]
        unfold Bm.Rd.whole
        constructor
        · intro h dg hdg
          exact (hk dg).mp (h _ (List.mem_map.mpr ⟨dg, List.mem_range.mpr hdg, rfl⟩))
        · intro h b hb
          obtain ⟨n, hn, rfl⟩ := List.mem_map.mp hb
          exact (hk n).mpr (h n (List.mem_range.mp hn))
      rw [e]
      have kk := k H6 (sH.trans s6)
      by_cases hw : r.whole
      · rw [decide_eq_true hw]
        refine iteF ?_
        rw [show r.fault = 0 by unfold Bm.Rd.fault; rw [if_neg (fun z => z hf), if_neg hm, if_neg (fun z => z hw)]] at kk
        exact kk
      · rw [decide_eq_false hw]
        refine iteT ?_
        rw [show r.fault = 4 by unfold Bm.Rd.fault; rw [if_neg (fun z => z hf), if_neg hm, if_pos hw]] at kk
        exact kk
end
end Bw

namespace Bw
open PySem PySem.Spec PyProof.Rows L2 Bd0
open Bm (Rd Tp many lexT readMake rdAt chunk badShape)
/-! ### Fault(rule, place) -/
def faultF (y1 y2 : V) : List (Str × V) := [("place", y2), ("rule", y1)]
structure ClsF (K : PySem.W.Frag) (C : Addr) : Prop where
  ox : OexC K C
  nR : PySem.W.findIn K (.ref C) "rule" = some none
  nP : PySem.W.findIn K (.ref C) "place" = some none
  xf : XfC K C
  te : PySem.W.exmOne K (.ref C) (.ref C) = some true
section
variable {P : Program} {w : World} {K : PySem.W.Frag} {mg : Str → Option Value} {base : Heap}
def sp_Fault_init (C : Addr) : Sp := fun vs H Q _ => ∃ (a : Addr) (y1 y2 : V), vs = [.ref a, y1, y2] ∧ H a = some (exo a C none) ∧
  ∀ dx, H dx = none → dx ≠ a → Q .non (upd (upd (upd H dx (exd dx [("rule", y1)])) a (exo a C (some dx))) dx (exd dx (faultF y1 y2)))
theorem sc_Fault_init : FnScope ["self", "rule", "place"] ["self", "rule", "place"] (defScope s_Fault_init) := ⟨rfl, rfl, rfl, by decide +kernel, rfl, by decide +kernel, by decide +kernel⟩
theorem ok_Fault_init {C f : Addr} {fd : FuncData} (F : Fun K "__init__" "Fault.__init__" s_Fault_init f fd) (T : ClsF K C) : FnOk P w K mg base CX0 1 f fd ["self", "rule", "place"] (sp_Fault_init C) := by
  refine F.ok sc_Fault_init (fun vs H Q E h => ?_) (fun cdv A outer s H vs Q E hr h => ⟨_, pss_cons (ps_ost (pv 0) (pv 1)) (pss_one (ps_ost (pv 0) (pv 2))), ?_⟩)
  · obtain ⟨a, y1, y2, rfl, _⟩ := h
    rfl
  · obtain ⟨a, y1, y2, rfl, ha, k⟩ := h
    refine ⟨_, rfl, _, rfl, a, C, rfl, T.ox, T.nR, .inl ⟨ha, fun dx n ne => ?_⟩⟩
    refine ⟨_, rfl, _, rfl, a, C, rfl, T.ox, T.nP, .inr ⟨dx, [("rule", y1)], upd_same, by rw [upd_ne ne]; exact upd_same, (by show 1 ≤ 900; decide), ?_⟩⟩
    exact k dx n ne
/-- the class as its maker needs it -/
structure FaultMk (P : Program) (w : World) (K : PySem.W.Frag) (mg : Str → Option Value) (base : Heap) (C : Addr) : Prop where
  cf : ClsF K C
  ex : ∃ f fd, FnOk P w K mg base CX0 1 f fd ["self", "rule", "place"] (sp_Fault_init C) ∧ PySem.W.findIn K (.ref C) "__init__" = some (some (.ref f)) ∧ PySem.W.typeIn K (.ref f) = some (.type "function") ∧ mg "Fault" = some (.ref C) ∧ Binds K fd ["self", "rule", "place"] []
/-- raise Fault(a, b) -/
def tRaiseF (C : Addr) (W : WX) (ta : TA) : TS := fun _ σ H => tMkO C (sp_Fault_init C) [] ta σ H fun cls d H' => W cls d σ H'
theorem ps_raiseF {X : Cx} {C : Addr} {W : WX} {e : Expr} {es : List Expr} {p pos pos2 : Pos} {ta : TA} (hc : X.calm = true) (M : FaultMk X.prog X.w X.K X.mg X.base C) (hr : Room 2 X.A) (tk : Takes X W) (ha : PA X (e :: es) ta) (hg : Gl X "Fault" := by rfl)
    (he : starEach (e :: es) X.env = (false, eval e X.env) :: starEach es X.env := by rfl) (hpl : (backTo pos (starEach es X.env)).any (·.1) = false := by rfl) :
    PS X (.Raise (some (.Call (.Name "Fault" p) (e :: es) [] pos)) none pos2) (tRaiseF C W ta) := by
  obtain ⟨f, fd, F, iC, tI, gm, hb⟩ := M.ex
  exact ps_raise (pos := pos2) hc tk (pmk_oex (p := p) (pos := pos) M.cf.ox iC tI F hr hb .nil pass0 hg gm ha (by decide) he hpl)
/-- what the made error is -/
theorem fault_made {C : Addr} {H1 : Hp} {y1 y2 : V} {Q : XK} (h : ∀ d, H1 d = none → Q (.ref C) (some d) (upd H1 d (.xd (faultF y1 y2)))) :
    ([y1, y2] : List V).length ≤ 1000 ∧ ∀ a, H1 a = none → sp_Fault_init C (.ref a :: ([y1, y2] ++ [])) (upd H1 a (exo a C none))
      (fun v H2 => v = .non ∧ ∃ (d : Addr) (fs : List (Str × V)), H2 a = some (exo a C (some d)) ∧ H2 d = some (exd d fs) ∧ H1 d = none ∧ Q (.ref C) (some d) (upd (del H2 a) d (.xd fs))) (fun _ _ _ => False) := by
  refine ⟨by show 2 ≤ 1000; decide, fun a na => ⟨a, y1, y2, rfl, upd_same, fun dx n ne => ⟨rfl, dx, faultF y1 y2, ?_, upd_same, ?_, ?_⟩⟩⟩
  · rw [upd_ne ne.symm, upd_same]
  · rw [upd_ne ne] at n
    exact n
  · have n1 : H1 dx = none := by
      rw [upd_ne ne] at n
      exact n
    have e : upd (del (upd (upd (upd (upd H1 a (exo a C none)) dx (exd dx [("rule", y1)])) a (exo a C (some dx))) dx (exd dx (faultF y1 y2))) a) dx (.xd (faultF y1 y2)) = upd H1 dx (.xd (faultF y1 y2)) := by
      funext b
      by_cases h1 : b = dx
      · rw [h1, upd_same, upd_same]
      · rw [upd_ne h1, upd_ne h1]
        by_cases h2 : b = a
        · rw [h2, del_same, na]
        · rw [del_ne h2, upd_ne h1, upd_ne h2, upd_ne h1, upd_ne h2]
    rw [e]
    exact h dx n1
/-! ### rods_of(make) -/
theorem nums_len (l : List Nat) : (nums l).length = l.length := List.length_map _
theorem nums_at {l : List Nat} {i x : Nat} (h : l[i]? = some x) : (nums l)[i]? = some (vn x) := by
  unfold nums
  rw [List.getElem?_map, h]
  rfl
theorem chunk_len {l : List Nat} {k : Nat} (h : k < l.length / 7) : (chunk l k).length = 7 := by
  unfold Bm.chunk
  rw [List.length_take, List.length_drop]
  omega
theorem nums7 : ∀ {c : List Nat}, c.length = 7 → nums c = rodL (Bm.rdOf c)
  | [a, b, d, e, f, g, h], _ => rfl
theorem cut_chunk {l : List Nat} {k : Nat} (h : k < l.length / 7) : cutV (nums l) (some ((0 + (k : Int)) * 7)) (some ((0 + (k : Int) + 1) * 7)) = rodL (rdAt l k) := by
  have e1 : (0 + (k : Int)) * 7 = ((7 * k : Nat) : Int) := by omega
  have e2 : (0 + (k : Int) + 1) * 7 = ((7 * k + 7 : Nat) : Int) := by omega
  unfold cutV
  rw [e1, e2, HT.sIx_nat, HT.sIx_nat, nums_len, show min (7 * k) l.length = 7 * k by omega, show min (7 * k + 7) l.length - 7 * k = 7 by omega]
  unfold Bm.rdAt
  rw [← nums7 (chunk_len h)]
  unfold nums Bm.chunk
  rw [List.map_take, List.map_drop]
theorem RodAt.put {C : Addr} {H : Hp} {a l : Addr} {r : Rd} {xs ys : List V} (h : RodAt C H a r) (hl : H l = some (.lst xs)) (hx : ∀ v ∈ xs, ∃ b, v = V.ref b) : RodAt C (upd H l (.lst ys)) a r := by
  obtain ⟨dx, ba, wa, h1, h2, h3⟩ := h
  have no : ∀ n m : Nat, ∀ zs, (HO.lst (vn n :: vn m :: zs)) ≠ .lst xs := fun n m zs z => by
    have e : vn n :: vn m :: zs = xs := HO.lst.inj z
    obtain ⟨b, hb⟩ := hx (vn n) (by rw [← e]; simp)
    cases hb
  exact ⟨dx, ba, wa, by rw [upd_ne (ne_of h1 hl (fun z => by cases z))]; exact h1, by rw [upd_ne (ne_of h2 hl (no _ _ _))]; exact h2, by rw [upd_ne (ne_of h3 hl (no _ _ _))]; exact h3⟩
theorem Objs.refs {α : Type} {R : Addr → α → Prop} {vs : List V} {xs : List α} (h : Objs R vs xs) : ∀ v ∈ vs, ∃ b, v = V.ref b := fun v hv => by
  obtain ⟨i, hi, e⟩ := List.getElem_of_mem hv
  obtain ⟨a, x, e1, _⟩ := h.ref (i := i) (v := v) (by rw [List.getElem?_eq_getElem hi, e])
  exact ⟨a, e1⟩
def Rods (CR : Addr) (H : Hp) (p : Addr) (rs : List Rd) : Prop := ∃ us, H p = some (.lst us) ∧ Objs (fun b r => RodAt CR H b r) us rs
theorem Rods.same {CR : Addr} {H H' : Hp} {p : Addr} {rs : List Rd} (h : Rods CR H p rs) (s : Same H H') : Rods CR H' p rs := by
  obtain ⟨us, e, o⟩ := h
  exact ⟨us, s _ _ e, o.imp fun b r k => k.same s⟩
def sp_rods_of (K : PySem.W.Frag) (CR CF : Addr) : Sp := fun vs H Q E => ∃ (b : Addr) (l : List Nat), vs = [.ref b] ∧ SqL K H b (nums l) ∧ l.length ≤ 700 ∧
  (∀ e, readMake l = .error e → ∀ (H' : Hp) (d : Addr), Same H H' → H' d = some (.xd (faultF (vn e.1) (vn e.2))) → E (.ref CF) (some d) H') ∧
  (∀ rs, readMake l = .ok rs → ∀ (H' : Hp) (p : Addr), Same H H' → H p = none → Rods CR H' p rs → Q (.ref p) H')
theorem sc_rods_of : FnScope ["make", "many", "found", "place", "rod", "rule"] ["make"] (defScope s_rods_of) := ⟨rfl, rfl, rfl, by decide +kernel, rfl, by decide +kernel, by decide +kernel⟩
theorem find_first {p : Nat → Bool} {n i : Nat} (hi : i < n) (h : p i = true) (no : ∀ j, j < i → p j = false) : (List.range n).find? p = some i := by
  rw [List.find?_range_eq_some]
  exact ⟨h, List.mem_range.mpr hi, fun j hj => by rw [no j hj]; rfl⟩
theorem ok_rods_of {CR CF f : Addr} {fd : FuncData} (F : Fun K "rods_of" "rods_of" s_rods_of f fd) (B : TB mg) (M : CM mg) (TR : ClsR K CR) (GF : FaultMk P w K mg base CF) (GR : Mkr P w K mg base CR 1 "Rod" ["self", "numbers"] (sp_Rod_init CR))
    (GU : Mt P w K mg base CR 4 "fault" ["self"] (sp_Rod_fault CR)) : FnOk P w K mg base (L2.CX P w) 5 f fd ["make"] (sp_rods_of K CR CF) := by
  refine F.okX sc_rods_of (fun vs H Q E h => ?_) (fun cdv A outer s H vs Q E hr h => ?_)
  · obtain ⟨b, l, rfl, _⟩ := h
    rfl
  have hr2 : Room 2 (A.deeper (envOfC "rods_of" (defScope s_rods_of) s.heap.objs.size f cdv)) := hr.mono (by decide)
  refine ⟨_, pss_cons (ps_set (i := 1) sc_rods_of.nd rfl (Or.inl rfl) (pe_op op_fdiv (pe_callB call_len (by rfl) B.len (by decide +kernel) (pa_cons (pv 0) pa_nil)) (pe_cst rfl M.numbers)))
      (pss_cons (ps_if (PW.pt (pw_or (pt_cmpR op_ne (pe_op op_mod (pe_callB call_len (by rfl) B.len (by decide +kernel) (pa_cons (pv 0) pa_nil)) (pe_cst rfl M.numbers)) pe_int (nomark _))
          (pw_or (pt_cmpR op_lt (pv 1) pe_int (nomark _)) (pw_or1 (pt_cmpR op_gt (pv 1) (pe_cst rfl M.mostRods) (nomark _))))))
        (pss_one (ps_raiseF rfl GF hr2 (takes_of rfl rfl rfl rfl) (by exact (pa_cons (pe_cst rfl M.shape) (pa_cons pe_int pa_nil))))) pss_nil)
      (pss_cons (ps_set (i := 2) sc_rods_of.nd rfl (Or.inl rfl) (pe_lst pa_nil))
      (pss_cons (ps_for (passes_of rfl) rfl (pi_range1 rfl B.range (pa_cons (pv 1) pa_nil)) (pg_name (i := 3) sc_rods_of.nd rfl (Or.inl rfl))
        (pss_cons (ps_set (i := 4) sc_rods_of.nd rfl (Or.inl rfl) (pe_mk GR hr2 (by rfl) (pa_cons (pe_slice sl_list (pv 0) (po_some (pe_op op_mul (pv 3) (pe_cst rfl M.numbers))) (po_some (pe_op op_mul (pe_op op_add (pv 3) pe_int) (pe_cst rfl M.numbers)))) pa_nil)))
        (pss_cons (ps_set (i := 5) sc_rods_of.nd rfl (Or.inl rfl) (pe_mt0 (pv 4) TR.cl GU hr))
        (pss_cons (ps_if (pt_cmpR op_ne (pv 5) pe_int (nomark _)) (pss_one (ps_raiseF rfl GF hr2 (takes_of rfl rfl rfl rfl) (by exact (pa_cons (pv 5) (pa_cons (pv 3) pa_nil))))) pss_nil)
        (pss_one (ps_expr (pe_bm PySem.F.plainAttrs_list PySem.F.slot_list_append PySem.F.type_list_append mt_append (pv 2) (pa_cons (pv 4) pa_nil))))))))
      (pss_one (ps_ret (pv 2)))))), ?_⟩
  obtain ⟨b, l, rfl, hS, hlen, kE, kQ⟩ := h
  refine ⟨_, rfl, _, _, rfl, .inl ⟨_, hS, rfl⟩, _, _, rfl, rfl, ⟨by decide, by decide⟩, ?_⟩
  have en : ((nums l).length : Int) = (l.length : Int) := by rw [nums_len]
  rw [en]
  refine ⟨_, rfl, _, _, rfl, .inl ⟨_, hS, rfl⟩, _, _, rfl, rfl, (by show (0 : Int) < 7; decide), rfl, _, rfl, ?_⟩
  rw [en]
  refine ite2 (fun e => iteT ?r1) fun e1 => ⟨_, rfl, _, _, rfl, rfl, _, rfl, ite2 (fun e => iteT ?r2) fun e2 => ⟨_, rfl, _, _, rfl, rfl, _, rfl, ite2 (fun e => ?r3) fun e3 => ?rest⟩⟩
  case r1 =>
    refine fault_made fun d hd => ?_
    have hb : badShape l := by
      left
      intro z
      have e' : (!decide (V.int ((l.length : Int) % 7) = V.int 0)) = true := e
      rw [show ((l.length : Int) % 7) = 0 by omega] at e'
      simp at e'
    exact kE (1, 0) (by unfold Bm.readMake; rw [if_pos hb]) _ d (same_upd hd) upd_same
  case r2 =>
    refine fault_made fun d hd => ?_
    have hb : badShape l := by
      right; left
      have : (l.length : Int) / 7 < 1 := of_decide_eq_true e
      omega
    exact kE (1, 0) (by unfold Bm.readMake; rw [if_pos hb]) _ d (same_upd hd) upd_same
  case r3 =>
    refine fault_made fun d hd => ?_
    have hb : badShape l := by
      right; right
      have : (64 : Int) < (l.length : Int) / 7 := of_decide_eq_true e
      omega
    exact kE (1, 0) (by unfold Bm.readMake; rw [if_pos hb]) _ d (same_upd hd) upd_same
  case rest =>
    have g1 : ¬ (l.length % 7 ≠ 0) := fun z => e1 (by
      have : ¬ ((l.length : Int) % 7 = 0) := by omega
      simp [this])
    have g2 : ¬ ((l.length : Int) / 7 < 1) := fun z => e2 (decide_eq_true z)
    have g3 : ¬ (64 < (l.length : Int) / 7) := fun z => e3 (decide_eq_true z)
    have hb : ¬ badShape l := by
      unfold Bm.badShape
      omega
    -- found = []
    refine ⟨Nat.zero_le _, fun p hp => ?_⟩
    have nn : ((l.length : Int) / 7).toNat = l.length / 7 := by omega
    refine ⟨_, rfl, _, rfl, by omega, by omega, for_range (n := ((l.length : Int) / 7).toNat) (fun i σ H' => ∃ v3 v4 v5 us, σ = [some (.ref b), some (.int ((l.length : Int) / 7)), some (.ref p), v3, v4, v5] ∧ Same H H' ∧ H' p = some (.lst us) ∧
        Objs (fun b r => RodAt CR H' b r) us ((List.range i).map (rdAt l)) ∧ ∀ j, j < i → (rdAt l j).fault = 0)
      ⟨none, none, none, [], rfl, same_upd hp, upd_same, Objs.nil, fun j hj => absurd hj (Nat.not_lt_zero _)⟩ ?_ ?_⟩
    · rintro i σ H1 hi ⟨v3, v4, v5, us, rfl, s1, ep, ob, no⟩
      rw [nn] at hi
      -- rod = Rod(make[..])
      refine ⟨_, rfl, _, rfl, _, _, rfl, rfl, .inr (by omega), _, rfl, _, rfl, _, _, rfl, rfl, _, _, rfl, rfl, .inr (by omega), _, rfl, b, _, rfl, s1.seq hS, fun c hc => ?_⟩
      rw [cut_chunk hi]
      intro x dx nx ndx ne
      have ec : (upd H1 c (.lst (rodL (rdAt l i)))) c = some (.lst (rodL (rdAt l i))) := upd_same
      have sc : Same H1 (upd H1 c (.lst (rodL (rdAt l i)))) := same_upd hc
      generalize upd H1 c (.lst (rodL (rdAt l i))) = H2 at ec sc nx ndx
      refine ⟨x, dx, c, rdAt l i, rfl, upd_same, by rw [upd_ne (ne_of_none ec nx), upd_ne (ne_of_none ec ndx)]; exact ec, fun H3 ba wa e1 e2 e3 n1 n2 kp => ⟨rfl, ?_⟩⟩
      have s3 : Same H2 H3 := Same.made nx ndx kp
      have hrod : RodAt CR H3 x (rdAt l i) := ⟨dx, ba, wa, e1, e2, e3⟩
      -- rule = rod.fault()
      refine ⟨_, rfl, x, dx, _, rfl, e1, rodF_m _ (by decide +kernel), x, rdAt l i, rfl, hrod, fun H4 s4 => ?_⟩
      have s14 : Same H1 H4 := (sc.trans s3).trans s4
      refine ⟨_, rfl, rfl, _, rfl, ite2 (fun e => ?_) fun e => ?_⟩
      · -- raise Fault(rule, place)
        refine ⟨_, rfl, _, rfl, fault_made fun d hd => ?_⟩
        have hf : (rdAt l i).fault ≠ 0 := fun z => by
          rw [z] at e
          simp at e
        rw [Int.zero_add]
        refine kE ((rdAt l i).fault, i) ?_ _ d ((s1.trans s14).trans (same_upd hd)) upd_same
        unfold Bm.readMake
        rw [if_neg hb, find_first (i := i) hi (by simpa using hf) fun j hj => by simpa using no j hj]
      · have hf : (rdAt l i).fault = 0 := by
          have e' : decide (vn (rdAt l i).fault = vn 0) = true := by simpa using e
          exact vn_inj (of_decide_eq_true e')
        refine ⟨_, rfl, .inl ⟨rfl, _, SqL.of (s14 _ _ ep)⟩, _, rfl, p, _, _, rfl, rfl, s14 _ _ ep, ?_, ?_⟩
        · rw [ob.1, List.length_map, List.length_range]
          exact small1000 (by omega)
        · refine ⟨_, _, _, us ++ [.ref x], rfl, same_put hp (s1.trans s14), upd_same, ?_, fun j hj => ?_⟩
          · rw [List.range_succ, List.map_append]
            refine (ob.imp fun b r hb => ?_).snoc ?_
            · exact (hb.same s14).put (s14 _ _ ep) ob.refs
            · exact (hrod.same s4).put (s14 _ _ ep) ob.refs
          · by_cases h : j = i
            · rw [h]; exact hf
            · exact no j (by omega)
    · rintro σ H1 ⟨v3, v4, v5, us, rfl, s1, ep, ob, no⟩
      rw [nn] at ob no
      refine ⟨_, rfl, kQ _ ?_ H1 p s1 hp ⟨us, ep, ob⟩⟩
      unfold Bm.readMake
      rw [if_neg hb]
      have : (List.range (l.length / 7)).find? (fun i => decide ((rdAt l i).fault ≠ 0)) = none := by
        rw [List.find?_eq_none]
        intro j hj
        simpa using no j (List.mem_range.mp hj)
      rw [this]
end
end Bw

namespace Bw
open PySem PySem.Spec PyProof.Rows L2 Bd0
open Bm (Rd Tp many lexT readMake rdAt chunk badShape)
open L2H (RoomH PinOk cxH roomH_of)
section
variable {P : Program} {w : World} {K : PySem.W.Frag} {mg : Str → Option Value} {base : Heap}
theorem okP {x qual : Str} {st : Stmt} {f : Addr} {fd : FuncData} {N ps : List Str} {k : Nat} {sp : Addr → Value → Option Addr → Sp} (F : Fun K x qual st f fd) (S : FnScope N ps (defScope st)) (len : ∀ a c d vs H Q E, sp a c d vs H Q E → vs.length = ps.length)
    (hbody : ∀ (cdv : Value) (A : Around) (outer : List Env) (s : Shared) (H : Hp) (vs : List V) (Q : VK) (E : XK) (a : Addr) (oe : Obj) (cls : Value) (d : Option Addr), Zc cls d oe → (∃ vs, oe.data = .fields vs) → RoomH k (A.deeper (envOfC qual (defScope st) s.heap.objs.size f cdv)) → sp a cls d vs H Q E →
      ∃ t, PSs (cxH CX0 P w K mg base N qual (defScope st) f cdv A outer s H E (a, oe)).nox (defBody st) t ∧ t { nx := fun _ H' => Q .non H', rt := Q } (L2.start N vs) H) : FnP P w K mg base (k + 1) f fd ps sp := by
  obtain ⟨oc, od, kV, doc, pm, an, cdv, ct, osl, rfl, lk, hcd⟩ := F.ex
  refine fn_ofP lk hcd S len fun A outer s H vs Q E p cls d hz hf hr hsp => ?_
  obtain ⟨t, h, q⟩ := hbody cdv A outer s H vs Q E p.1 p.2 cls d hz hf hr hsp
  exact ⟨t, h.nox, q⟩
/-! ### refused(fault), in the except suite -/
def sp_refused (CF : Addr) : Addr → Value → Option Addr → Sp := fun a cls d vs H Q _ => ∃ (dd : Addr) (y1 y2 : V), vs = [.ref a] ∧ cls = .ref CF ∧ d = some dd ∧ H dd = some (.xd (faultF y1 y2)) ∧ ∀ (H' : Hp) (p : Addr), Same H H' → H' p = some (.lst [.int (-5), y1, y2]) → Q (.ref p) H'
theorem sc_refused : FnScope ["fault"] ["fault"] (defScope s_refused) := ⟨rfl, rfl, rfl, by decide +kernel, rfl, by decide +kernel, by decide +kernel⟩
theorem faultF_rule {y1 y2 : V} : (faultF y1 y2).lookup ("rule" : Str) = some y1 := (lk_past (by decide +kernel)).trans lk_here
theorem faultF_place {y1 y2 : V} : (faultF y1 y2).lookup ("place" : Str) = some y2 := lk_here
theorem ok_refused {CF f : Addr} {fd : FuncData} (F : Fun K "refused" "refused" s_refused f fd) (T : ClsF K CF) (cF : Cst mg "FAULTY" (-5)) : FnP P w K mg base 1 f fd ["fault"] (sp_refused CF) := by
  refine okP F sc_refused (fun a c d vs H Q E h => ?_) (fun cdv A outer s H vs Q E a oe cls d hz hf hr h => ⟨_, pss_one (ps_ret (pe_lst (pa_cons (pe_cst rfl cF) (pa_cons (pe_xfP (C := CF) T.xf T.nR (List.mem_singleton.mpr rfl) hz hf (pv 0)) (pa_cons (pe_xfP (C := CF) T.xf T.nP (List.mem_singleton.mpr rfl) hz hf (pv 0)) pa_nil))))), ?_⟩)
  · obtain ⟨dd, y1, y2, rfl, _⟩ := h
    rfl
  · obtain ⟨dd, y1, y2, rfl, ec, ed, hd, k⟩ := h
    refine ⟨_, rfl, rfl, ec, dd, _, _, ed, hd, faultF_rule, _, rfl, rfl, ec, dd, _, _, ed, hd, faultF_place, (by show 3 ≤ sizeLine; decide), fun p hp => ?_⟩
    exact k _ p (same_upd hp) upd_same
structure Refuse (P : Program) (w : World) (K : PySem.W.Frag) (mg : Str → Option Value) (base : Heap) (CF : Addr) : Prop where
  cf : ClsF K CF
  gF : mg "Fault" = some (.ref CF)
  ex : ∃ f fd, FnP P w K mg base 1 f fd ["fault"] (sp_refused CF) ∧ mg "refused" = some (.ref f) ∧ PySem.W.keepIn K (.ref f) = true ∧ Binds K fd ["fault"] []
/-- refused(fault) in the suite -/
theorem pe_refused {X : Cx} {CF : Addr} {q pos : Pos} {e : Expr} {es : List Expr} {t : TA} {a : Addr} {oe : Obj} {cls : Value} {d : Option Addr} {pn : List (Addr × Obj)}
    (R : Refuse X.prog X.w X.K X.mg X.base CF) (hr : Room 1 X.A) (hz : Zc cls d oe) (hf : ∃ vs, oe.data = .fields vs) (hg : Gl X "refused")
    (ha : PA (X.suite a ((a, oe) :: pn)) (e :: es) t) (he : starEach (e :: es) X.env = (false, eval e X.env) :: starEach es X.env := by rfl) (hpl : (backTo pos (starEach es X.env)).any (·.1) = false := by rfl) :
    PE (X.suite a ((a, oe) :: pn)) (.Call (.Name "refused" q) (e :: es) [] pos) (tCallP (sp_refused CF) a cls d t) := by
  obtain ⟨f, fd, F, gm, kp, hb⟩ := R.ex
  exact pe_fnP F (roomH_of hr) hz hf hg gm kp hb ha (by decide) he hpl
/-- what the try wishes of a fault: the answer -/
theorem fault_end {CF : Addr} {H0 H : Hp} {d : Addr} {rule place : Nat} {i : Nat} {D : Ends} {σ : St} (T : ClsF K CF) (s : Same H0 H) (hd : H d = some (.xd (faultF (vn rule) (vn place)))) (hs : ∀ a : Addr, (σ.set i (some (.ref a)))[i]? = some (some (.ref a)))
    (k : ∀ (H' : Hp) (p : Addr), Same H0 H' → H' p = some (.lst (([-5, (rule : Int), (place : Int)] : List Int).map V.int)) → D.rt (.ref p) H') :
    wAs K (.ref CF) i (fun a cls d => tRet (tCallP (sp_refused CF) a cls d (tCons (tVar i) tNil))) (fun _ _ _ _ => False) D (.ref CF) (some d) σ H := by
  refine ⟨true, T.te, fun _ a ha => ?_, fun z => Bool.noConfusion z⟩
  exact ⟨_, hs a, d, vn rule, vn place, rfl, rfl, rfl, hd, fun H' p s' e => k H' p (s.trans s') e⟩
end
end Bw

namespace Bw
open PySem PySem.Spec PyProof.Rows L2 Bd0
open Bm (Rd Tp many lexT readMake rdAt chunk badShape)
section
variable {P : Program} {w : World} {K : PySem.W.Frag} {mg : Str → Option Value} {base : Heap}
/-! ### digits_of(rods, value) -/
def sp_digits_of (CR : Addr) : Sp := fun vs H Q _ => ∃ (p : Addr) (rs : List Rd) (v : Nat), vs = [.ref p, vn v] ∧ Rods CR H p rs ∧ (∀ r ∈ rs, r.good) ∧ rs.length ≤ 64 ∧
  ∀ (H' : Hp) (t f : Addr), Same H H' → H t = none → H f = none → H' t = some (.tup [.ref f, vn (Bm.restM rs v)]) → H' f = some (.lst (nums (Bm.digitsM rs v))) → Q (.ref t) H'
theorem sc_digits_of : FnScope ["rods", "value", "found", "rod"] ["rods", "value"] (defScope s_digits_of) := ⟨rfl, rfl, rfl, by decide +kernel, rfl, by decide +kernel, by decide +kernel⟩
theorem ok_digits_of {CR f : Addr} {fd : FuncData} (F : Fun K "digits_of" "digits_of" s_digits_of f fd) (TR : ClsR K CR) : FnOk P w K mg base CX0 1 f fd ["rods", "value"] (sp_digits_of CR) := by
  refine F.ok sc_digits_of (fun vs H Q E h => ?_) (fun cdv A outer s H vs Q E hr h => ⟨_, pss_cons (ps_set (i := 2) sc_digits_of.nd rfl (Or.inl rfl) (pe_lst pa_nil))
      (pss_cons (ps_for PassesOwn.never rfl (pi_list (pv 0)) (pg_name (i := 3) sc_digits_of.nd rfl (Or.inl rfl))
        (pss_cons (ps_expr (pe_bm PySem.F.plainAttrs_list PySem.F.slot_list_append PySem.F.type_list_append mt_append (pv 2) (pa_cons (pe_op op_mod (pv 1) (pe_fld (pv 3) rfl)) pa_nil)))
        (pss_one (ps_set (i := 1) sc_digits_of.nd rfl (Or.inl rfl) (pe_op op_fdiv (pv 1) (pe_fld (pv 3) rfl))))))
      (pss_one (ps_ret (pe_tup (pa_cons (pv 2) (pa_cons (pv 1) pa_nil)))))), ?_⟩)
  · obtain ⟨p, rs, v, rfl, _⟩ := h
    rfl
  · obtain ⟨p, rs, v, rfl, ⟨us, ep, ob⟩, hg, hlen, k⟩ := h
    refine ⟨Nat.zero_le _, fun l hl => ?_⟩
    refine ⟨_, rfl, p, rfl, ⟨_, SqL.of (same_upd hl _ _ ep)⟩, for_list (K := K) (a := p) (xs := us) (fun i σ H' => ∃ v3, σ = [some (.ref p), some (vn (Bm.restM (rs.take i) v)), some (.ref l), v3] ∧ H' = upd H l (.lst (nums ((Bm.digitsM rs v).take i))))
      ⟨none, rfl, rfl⟩ (fun i σ H' _ ⟨_, _, e⟩ => by rw [e]; exact SqL.of (same_upd hl _ _ ep)) ?_ ?_⟩
    · rintro i x σ H' hx ⟨v3, rfl, rfl⟩
      obtain ⟨b, r, rfl, hr', hb⟩ := ob.ref hx
      obtain ⟨dx, ba, wa, h1, h2, h3⟩ := hb.same (same_upd (o := .lst (nums ((Bm.digitsM rs v).take i))) hl)
      have gr := hg r (List.mem_of_getElem? hr')
      have q1 := gr.1.1
      have q2 := gr.1.2.1
      have hd := Bm.digit_rest hr' v
      refine ⟨_, rfl, .inl ⟨rfl, _, SqL.of upd_same⟩, _, rfl, _, rfl, b, CR, dx, _, _, rfl, h1, TR.cl, TR.n0, rodF_ratio, _, _, rfl, rfl, (by show (0 : Int) < (r.q : Int); omega), l, _, _, rfl, rfl, upd_same, ?_, ?_⟩
      · rw [nums_len, List.length_take]
        have hi : i < rs.length := (List.getElem?_eq_some_iff.mp hr').1
        exact small1000 (by omega)
      · have e1 : nums ((Bm.digitsM rs v).take i) ++ [V.int (((Bm.restM (rs.take i) v : Nat) : Int) % ((r.q : Nat) : Int))] = nums ((Bm.digitsM rs v).take (i + 1)) := by
          rw [take_more hd, ← Int.natCast_emod]
          unfold nums
          rw [List.map_append]
          rfl
        rw [upd_upd]
        have h1' : (upd H l (.lst (nums ((Bm.digitsM rs v).take (i + 1))))) b = some (.ins CR dx (rodF r ba wa)) := by
          obtain ⟨dx', ba', wa', g1, g2, g3⟩ := hb
          have g1' := same_upd (o := .lst (nums ((Bm.digitsM rs v).take i))) hl _ _ g1
          rw [h1] at g1'
          rw [upd_ne (ne_of_none g1 hl), g1]
          exact g1'.symm
        refine ⟨_, rfl, _, rfl, b, CR, dx, _, _, rfl, (by rw [e1]; exact h1'), TR.cl, TR.n0, rodF_ratio, _, _, rfl, rfl, ⟨by show (0 : Int) < (r.q : Int); omega, by show (r.q : Int) < 1073741824; omega⟩, ?_⟩
        refine ⟨some (.ref b), ?_, by rw [e1]⟩
        rw [Bm.restM_take hr']
        show [some (V.ref p), some (V.int (((Bm.restM (rs.take i) v : Nat) : Int) / ((r.q : Nat) : Int))), some (V.ref l), some (V.ref b)] = _
        rw [← Int.natCast_ediv]
    · rintro σ H' ⟨v3, rfl, rfl⟩
      have e : (Bm.digitsM rs v).take us.length = Bm.digitsM rs v := by
        rw [ob.1, ← Bm.digits_len rs v, List.take_length]
      rw [e, ob.1, List.take_length]
      refine ⟨_, rfl, _, rfl, (by show 2 ≤ sizeLine; decide), fun t ht => ?_⟩
      have htl : t ≠ l := fun z => by rw [z, upd_same] at ht; cases ht
      refine k _ t l ((same_upd hl).trans (same_upd ht)) (by rw [upd_ne htl] at ht; exact ht) hl upd_same ?_
      rw [upd_ne htl.symm]
      exact upd_same
end
end Bw

namespace Bw
open PySem PySem.Spec PyProof.Rows L2 Bd0
open Bm (Rd Tp many lexT readMake rdAt chunk badShape)
section
variable {P : Program} {w : World} {K : PySem.W.Frag} {mg : Str → Option Value} {base : Heap}
/-! ### told_standings(some) -/
def Tups (H : Hp) (us : List V) (ts : List Tp) : Prop := LRel (fun v t => ∃ b, v = V.ref b ∧ H b = some (.tup (tupV t))) us ts
theorem Tups.same {H H' : Hp} {us : List V} {ts : List Tp} (h : Tups H us ts) (s : Same H H') : Tups H' us ts := h.imp fun v t ⟨b, e, q⟩ => ⟨b, e, s _ _ q⟩
/-- a standing in a list; or nothing in it -/
def Some1 (H : Hp) (p : Addr) : Option (List Tp) → Prop
  | none => H p = some (.lst [])
  | some ts => ∃ (c : Addr) (us : List V), H p = some (.lst [.ref c]) ∧ H c = some (.lst us) ∧ Tups H us ts
def sp_told_standings : Sp := fun vs H Q _ => ∃ (p : Addr) (x : Option (List Tp)), vs = [.ref p] ∧ Some1 H p x ∧ (∀ ts, x = some ts → ts.length ≤ 64) ∧ ∀ (H' : Hp) (q : Addr), Same H H' → H' q = some (.lst ((Bm.told x).map V.int)) → Q (.ref q) H'
theorem sc_told_standings : FnScope ["some", "found", "beads"] ["some"] (defScope s_told_standings) := ⟨rfl, rfl, rfl, by decide +kernel, rfl, by decide +kernel, by decide +kernel⟩
theorem flat_snoc (ts : List Tp) (t : Tp) : Bm.intsN (Bm.flat (ts ++ [t])) = Bm.intsN (Bm.flat ts) ++ [(t.1 : Int), (t.2.1 : Int), (t.2.2 : Int)] := by
  unfold Bm.intsN Bm.flat
  rw [List.flatMap_append, List.map_append]
  rfl
theorem flat_len : ∀ ts : List Tp, (Bm.intsN (Bm.flat ts)).length = 3 * ts.length
  | [] => rfl
  | t :: ts => by
    have ih := flat_len ts
    unfold Bm.intsN Bm.flat at ih ⊢
    rw [List.length_map] at ih ⊢
    rw [List.flatMap_cons, List.length_append, ih]
    simp only [List.length_cons, List.length_nil]
    omega
theorem shaped_empty : SeqAt.shaped (.list []) = true := by decide +kernel
theorem canLay_tups : ∀ ts : List Tp, PyData.canLayAll0 (ts.map tupD) = true
  | [] => rfl
  | t :: ts => by
    rw [List.map_cons]
    show (PyData.canLay0 (tupD t) && PyData.canLayAll0 (ts.map tupD)) = true
    rw [canLay_tups ts]
    rfl
theorem shaped_some (ts : List Tp) : SeqAt.shaped (.list [.list (ts.map tupD)]) = true := by
  unfold SeqAt.shaped
  have h1 : PyData.canLay0 (.list [.list (ts.map tupD)]) = true := by
    show (PyData.canLayAll0 (ts.map tupD) && true) = true
    rw [canLay_tups]
    rfl
  have h2 : PyData.depth (.list [.list (ts.map tupD)]) ≤ 64 := by
    have := depth_tups ts
    simp only [PyData.depth, PyData.depthAll]
    omega
  rw [h1, decide_eq_true h2]
  rfl
theorem ok_told_standings {f : Addr} {fd : FuncData} (F : Fun K "told_standings" "told_standings" s_told_standings f fd) (B : TB mg) (cN : Cst mg "NONE_SUCH" (-2)) : FnOk P w K mg base CX0 1 f fd ["some"] sp_told_standings := by
  refine F.ok sc_told_standings (fun vs H Q E h => ?_) (fun cdv A outer s H vs Q E hr h => ⟨_, pss_cons (ps_if (pt_cmpR (op_eqD hr.units) (pv 0) (pe_lst pa_nil) (nomark _)) (pss_one (ps_ret (pe_lst (pa_cons (pe_cst rfl cN) pa_nil)))) pss_nil)
      (pss_cons (ps_set (i := 1) sc_told_standings.nd rfl (Or.inl rfl) (pe_lst (pa_cons pe_int pa_nil)))
      (pss_cons (ps_for PassesOwn.never rfl (pi_list (pe_ix ix_list (pv 0) pe_int (fun _ _ => rfl))) (pg_name (i := 2) sc_told_standings.nd rfl (Or.inl rfl))
        (pss_one (ps_expr (pe_bm PySem.F.plainAttrs_list PySem.F.slot_list_extend PySem.F.type_list_extend mt_extend (pv 1) (pa_cons (pe_callTy call_list_of (by rfl) B.list (by decide +kernel) (pa_cons (pv 2) pa_nil)) pa_nil)))))
      (pss_one (ps_ret (pv 1))))), ?_⟩)
  · obtain ⟨p, x, rfl, _⟩ := h
    rfl
  · obtain ⟨p, x, rfl, hx, hlen, k⟩ := h
    cases x with
    | none =>
      have ep : H p = some (.lst []) := hx
      refine ⟨_, rfl, Nat.zero_le _, fun e he => ?_⟩
      refine ⟨.list [], .list [], .lst (.inl (.inl (same_upd he _ _ ep))) .nil, .lst (.inl (.inl upd_same)) .nil, shaped_empty, shaped_empty, _, rfl, ?_⟩
      refine if_true_of (by decide +kernel) ?_
      refine ⟨(by show 1 ≤ sizeLine; decide), fun q hq => k _ q ((same_upd he).trans (same_upd hq)) upd_same⟩
    | some ts =>
      obtain ⟨c, us, ep, ec, hts⟩ := id hx
      refine ⟨_, rfl, Nat.zero_le _, fun e he => ?_⟩
      have s1 : Same H (upd H e (.lst [])) := same_upd he
      refine ⟨.list [.list (ts.map tupD)], .list [], .lst (.inl (.inl (s1 _ _ ep))) (.cons (.lst (.inl (.inl (s1 _ _ ec))) (dp_tups (hts.same s1))) .nil), .lst (.inl (.inl upd_same)) .nil, shaped_some ts, shaped_empty, _, rfl, ?_⟩
      refine if_false_of (by simp [PyData.eqv, PyData.eqvAll]) ?_
      refine ⟨(by show 1 ≤ sizeLine; decide), fun l hl => ?_⟩
      have s2 : Same H (upd (upd H e (.lst [])) l (.lst [.int 0])) := s1.trans (same_upd hl)
      have hl0 : H l = none := s1.free hl
      have e2 : (upd (upd H e (.lst [])) l (.lst [.int 0])) l = some (.lst [.int 0]) := upd_same
      generalize upd (upd H e (.lst [])) l (.lst [.int 0]) = H2 at s2 e2
      refine ⟨_, rfl, p, _, _, _, rfl, rfl, SqL.of (s2 _ _ ep), atI_nat (j := 0) rfl, c, rfl, ⟨_, SqL.of (s2 _ _ ec)⟩, for_list (K := K) (a := c) (xs := us) (fun i σ H' => ∃ v2, σ = [some (.ref p), some (.ref l), v2] ∧ Same H H' ∧ H' l = some (.lst ((0 :: Bm.intsN (Bm.flat (ts.take i))).map V.int)))
        ⟨none, rfl, s2, e2⟩ (fun i σ H' _ ⟨_, _, s', _⟩ => SqL.of (s' _ _ ec)) ?_ ?_⟩
      · rintro i u σ H' hu ⟨v2, rfl, s', el⟩
        obtain ⟨t, ht, b, rfl, hb⟩ := hts.at_ hu
        have hb' := s' _ _ hb
        have hi : i < ts.length := (List.getElem?_eq_some_iff.mp ht).1
        have hl64 := hlen ts rfl
        refine ⟨_, rfl, .inl ⟨rfl, _, SqL.of el⟩, _, rfl, b, _, rfl, .inr (SqT.of hb'), fun z hz => ?_⟩
        have elz := same_upd (o := .lst (tupV t)) hz _ _ el
        have hlz : l ≠ z := ne_of_none el hz
        refine ⟨l, z, _, _, rfl, rfl, elz, upd_same, ?_, ?_⟩
        · rw [List.length_map, List.length_cons, flat_len, List.length_take]
          show _ + 3 ≤ sizeLine
          exact Nat.le_of_lt (small1000 (by omega))
        · refine ⟨_, rfl, same_put hl0 (s'.trans (same_upd hz)), ?_⟩
          rw [upd_same, take_more ht, flat_snoc]
          rw [← List.cons_append, List.map_append]
          rfl
      · rintro σ H' ⟨v2, rfl, s', el⟩
        rw [hts.1, List.take_length] at el
        exact ⟨_, rfl, k H' l s' el⟩
end
end Bw

namespace Bw
open PySem PySem.Spec PyProof.Rows L2 Bd0
open Bm (Rd Tp many lexT readMake rdAt chunk badShape)
abbrev iV (T : List Int) : List V := T.map V.int
theorem iV_len (T : List Int) : (iV T).length = T.length := List.length_map _
theorem iV_at {T : List Int} {i : Nat} {x : Int} (h : T[i]? = some x) : (iV T)[i]? = some (.int x) := by
  unfold iV
  rw [List.getElem?_map, h]
  rfl
theorem getD_at {T : List Int} {i : Nat} (h : i < T.length) : T[i]? = some (T.getD i 0) := by
  rw [List.getD_eq_getElem?_getD, List.getElem?_eq_getElem h]
  rfl
theorem ixN_nat {n j : Nat} (h : j < n) : ixN n (j : Int) = some j := by
  unfold ixN
  rw [if_pos (by omega), if_pos (by omega)]
  simp
section
variable {P : Program} {w : World} {K : PySem.W.Frag} {mg : Str → Option Value} {base : Heap}
/-! ### load_below(rod, digit, load, count) -/
def sp_load_below (CR : Addr) : Sp := fun vs H Q _ => ∃ (a : Addr) (r : Rd) (d c : Nat) (L : Int), vs = [.ref a, vn d, .int L, vn c] ∧ RodAt CR H a r ∧ r.good ∧ Q (.int (Bm.lowI r.q d L c)) H
theorem sc_load_below : FnScope ["rod", "digit", "load", "count"] ["rod", "digit", "load", "count"] (defScope s_load_below) := ⟨rfl, rfl, rfl, by decide +kernel, rfl, by decide +kernel, by decide +kernel⟩
theorem ok_load_below {CR f : Addr} {fd : FuncData} (F : Fun K "load_below" "load_below" s_load_below f fd) (TR : ClsR K CR) : FnOk P w K mg base CX0 1 f fd ["rod", "digit", "load", "count"] (sp_load_below CR) := by
  refine F.ok sc_load_below (fun vs H Q E h => ?_) (fun cdv A outer s H vs Q E hr h => ⟨_, pss_one (ps_ret (pe_op op_sub (pe_op op_add (pv 1) (pe_op op_mul (pv 2) (pe_fld (pv 0) rfl))) (pv 3))), ?_⟩)
  · obtain ⟨a, r, d, c, L, rfl, _⟩ := h
    rfl
  · obtain ⟨a, r, d, c, L, rfl, ⟨dx, ba, wa, h1, h2, h3⟩, g, k⟩ := h
    have q20 := g.1.2.1
    exact ⟨_, rfl, _, rfl, _, rfl, a, CR, dx, _, _, rfl, h1, TR.cl, TR.n0, rodF_ratio, _, _, rfl, rfl, .inr (by omega), _, _, rfl, rfl, _, rfl, _, _, rfl, rfl, k⟩
/-! ### at_load(table, load, otherwise) -/
def sp_at_load : Sp := fun vs H Q _ => ∃ (p : Addr) (T : List Int) (L o : Int), vs = [.ref p, .int L, .int o] ∧ H p = some (.lst (iV T)) ∧ Q (.int (Bm.atL T L o)) H
theorem sc_at_load : FnScope ["table", "load", "otherwise"] ["table", "load", "otherwise"] (defScope s_at_load) := ⟨rfl, rfl, rfl, by decide +kernel, rfl, by decide +kernel, by decide +kernel⟩
theorem ok_at_load {f : Addr} {fd : FuncData} (F : Fun K "at_load" "at_load" s_at_load f fd) (B : TB mg) : FnOk P w K mg base CX0 1 f fd ["table", "load", "otherwise"] sp_at_load := by
  refine F.ok sc_at_load (fun vs H Q E h => ?_) (fun cdv A outer s H vs Q E hr h => ⟨_, pss_cons (ps_if (PW.pt (pw_or (pt_cmpR op_lt (pv 1) pe_int (nomark _)) (pw_or1 (pt_cmpR op_ge (pv 1) (pe_callB call_len (by rfl) B.len (by decide +kernel) (pa_cons (pv 0) pa_nil)) (nomark _))))) (pss_one (ps_ret (pv 2))) pss_nil)
      (pss_one (ps_ret (pe_ix ix_list (pv 0) (pv 1) (fun _ _ => rfl)))), ?_⟩)
  · obtain ⟨p, T, L, o, rfl, _⟩ := h
    rfl
  · obtain ⟨p, T, L, o, rfl, ep, k⟩ := h
    have hl : ((iV T).length : Int) = (T.length : Int) := by rw [iV_len]
    have yes : (L < 0 ∨ (T.length : Int) ≤ L) → Q (.int o) H := fun z => by
      unfold Bm.atL at k
      rw [if_pos z] at k
      exact k
    refine ⟨_, rfl, _, _, rfl, rfl, _, rfl, ite2 (fun e => iteT ⟨_, rfl, yes (.inl (of_decide_eq_true e))⟩) fun e1 => ?_⟩
    refine ⟨_, rfl, _, rfl, _, _, rfl, .inl ⟨_, SqL.of ep, rfl⟩, _, _, rfl, rfl, _, rfl, ite2 (fun e => ⟨_, rfl, yes (.inr ?_)⟩) fun e2 => ?_⟩
    · have : ((iV T).length : Int) ≤ L := of_decide_eq_true e
      omega
    · have g1 : ¬ L < 0 := fun z => e1 (decide_eq_true z)
      have g2 : ¬ ((iV T).length : Int) ≤ L := fun z => e2 (decide_eq_true z)
      have hi : L.toNat < T.length := by omega
      have ea : atI (iV T) L = some (.int (T.getD L.toNat 0)) := by
        have := atI_nat (iV_at (getD_at hi))
        rw [show ((L.toNat : Nat) : Int) = L by omega] at this
        exact this
      refine ⟨_, rfl, _, rfl, p, _, _, _, rfl, rfl, SqL.of ep, ea, ?_⟩
      unfold Bm.atL at k
      rw [if_neg (by omega)] at k
      exact k
/-! ### loads_of(rod, table) -/
def sp_loads_of (CR : Addr) : Sp := fun vs H Q _ => ∃ (a p : Addr) (r : Rd) (T : List Int), vs = [.ref a, .ref p] ∧ RodAt CR H a r ∧ r.good ∧ H p = some (.lst (iV T)) ∧ 1 ≤ T.length ∧ ∀ (H' : Hp), Same H H' → Q (vn (Bm.loadsM r T.length)) H'
theorem sc_loads_of : FnScope ["rod", "table", "most"] ["rod", "table"] (defScope s_loads_of) := ⟨rfl, rfl, rfl, by decide +kernel, rfl, by decide +kernel, by decide +kernel⟩
theorem ok_loads_of {CR f : Addr} {fd : FuncData} (F : Fun K "loads_of" "loads_of" s_loads_of f fd) (B : TB mg) (TR : ClsR K CR) (GC : Mt P w K mg base CR 1 "count_of" ["self", "beads"] (sp_Rod_count_of K CR)) : FnOk P w K mg base CX0 2 f fd ["rod", "table"] (sp_loads_of CR) := by
  refine F.ok sc_loads_of (fun vs H Q E h => ?_) (fun cdv A outer s H vs Q E hr h => ⟨_, pss_cons (ps_set (i := 2) sc_loads_of.nd rfl (Or.inl rfl) (pe_op op_add (pe_op op_sub (pe_callB call_len (by rfl) B.len (by decide +kernel) (pa_cons (pv 1) pa_nil)) pe_int) (pe_mt (pv 0) TR.cl GC hr (by exact (pa_cons (pe_fld (pv 0) rfl) pa_nil)))))
      (pss_one (ps_ret (pe_op op_add (pe_op op_fdiv (pv 2) (pe_fld (pv 0) rfl)) pe_int))), ?_⟩)
  · obtain ⟨a, p, r, T, rfl, _⟩ := h
    rfl
  · obtain ⟨a, p, r, T, rfl, ha, g, ep, h1', k⟩ := h
    obtain ⟨dx, ba, wa, h1, h2, h3⟩ := id ha
    have q20 := g.1.2.1
    have q2 := g.1.1
    refine ⟨_, rfl, _, _, rfl, .inl ⟨_, SqL.of ep, rfl⟩, _, _, rfl, rfl, _, rfl, a, dx, _, rfl, h1, rodF_m _ (by decide +kernel), _, rfl, a, CR, dx, _, _, rfl, h1, TR.cl, TR.n1, rodF_beads, a, ba, r, r.all, rfl, ha, .inl (SqL.of h2), (small_of g.1).2, fun H2 s2 => ?_⟩
    refine ⟨_, _, rfl, rfl, _, rfl, _, rfl, a, CR, dx, _, _, rfl, s2 _ _ h1, TR.cl, TR.n0, rodF_ratio, _, _, rfl, rfl, ⟨by omega, by omega⟩, _, _, rfl, rfl, ?_⟩
    have e : V.int ((((iV T).length : Int) - 1 + ((r.cnt r.all : Nat) : Int)) / ((r.q : Nat) : Int) + 1) = vn (Bm.loadsM r T.length) := by
      show V.int _ = V.int ((_ : Nat) : Int)
      congr 1
      unfold Bm.loadsM Rd.most
      rw [iV_len, Int.natCast_add, Int.natCast_ediv, Int.natCast_add, Int.natCast_sub h1']
      rfl
    rw [← e] at k
    exact k H2 s2
/-! ### way_row(rod) -/
def sp_way_row (CR : Addr) : Sp := fun vs H Q _ => ∃ (a : Addr) (r : Rd), vs = [.ref a] ∧ RodAt CR H a r ∧ r.good ∧ ∀ (H' : Hp) (p : Addr), Same H H' → H p = none → H' p = some (.lst (iV (Bm.rowM Bm.gW 0 r))) → Q (.ref p) H'
theorem sc_way_row : FnScope ["rod", "found", "push"] ["rod"] (defScope s_way_row) := ⟨rfl, rfl, rfl, by decide +kernel, rfl, by decide +kernel, by decide +kernel⟩
theorem rep1 (n : Nat) (o : Int) : (List.replicate n [V.int o]).flatten = iV (List.replicate n o) := by
  unfold iV
  rw [List.map_replicate]
  induction n with
  | zero => rfl
  | succ n ih => rw [List.replicate_succ, List.flatten_cons, ih, List.replicate_succ]; rfl
theorem iV_set (T : List Int) (i : Nat) (x : Int) : (iV T).set i (.int x) = iV (T.set i x) := by
  unfold iV
  rw [List.map_set]
theorem ok_way_row {CR CP f : Addr} {fd : FuncData} (F : Fun K "way_row" "way_row" s_way_row f fd) (TR : ClsR K CR) (TP : ClsP K CP) (GC : Mt P w K mg base CR 1 "count_of" ["self", "beads"] (sp_Rod_count_of K CR)) (GP : Mt P w K mg base CR 3 "pushes" ["self"] (sp_Rod_pushes CR CP)) : FnOk P w K mg base CX0 4 f fd ["rod"] (sp_way_row CR) := by
  refine F.ok sc_way_row (fun vs H Q E h => ?_) (fun cdv A outer s H vs Q E hr h => ?_)
  · obtain ⟨a, r, rfl, _⟩ := h
    rfl
  have hr1 : Room 1 (A.deeper (envOfC "way_row" (defScope s_way_row) s.heap.objs.size f cdv)) := hr.mono (by decide)
  refine ⟨_, pss_cons (ps_set (i := 1) sc_way_row.nd rfl (Or.inl rfl) (pe_op op_rep (pe_lst (pa_cons pe_int pa_nil)) (pe_op op_add (pe_mt (pv 0) TR.cl GC hr1 (by exact (pa_cons (pe_fld (pv 0) rfl) pa_nil))) pe_int)))
      (pss_cons (ps_for PassesOwn.never rfl (pi_list (pe_mt0 (pv 0) TR.cl GP hr)) (pg_name (i := 2) sc_way_row.nd rfl (Or.inl rfl))
        (pss_one (ps_asg (pe_op op_add (pe_ix ix_list (pv 1) (pe_fld (pv 2) rfl) (fun _ _ => rfl)) pe_int) (pg_sub (pv 1) (pe_fld (pv 2) rfl) set_list))))
      (pss_one (ps_ret (pv 1)))), ?_⟩
  obtain ⟨a, r, rfl, ha, g, k⟩ := h
  obtain ⟨dx, ba, wa, h1, h2, h3⟩ := id ha
  have hsm := small_of g.1
  have hmost : r.most ≤ 255 := g.2.1
  refine ⟨(by show 1 ≤ sizeLine; decide), fun e he => ?_⟩
  have s1 : Same H (upd H e (.lst [.int 0])) := same_upd he
  have ee : (upd H e (.lst [.int 0])) e = some (.lst [.int 0]) := upd_same
  generalize upd H e (.lst [.int 0]) = H1 at s1 ee
  refine ⟨_, rfl, a, dx, _, rfl, s1 _ _ h1, rodF_m _ (by decide +kernel), _, rfl, a, CR, dx, _, _, rfl, s1 _ _ h1, TR.cl, TR.n1, rodF_beads, a, ba, r, r.all, rfl, ha.same s1, .inl (SqL.of (s1 _ _ h2)), hsm.2, fun H2 s2 => ?_⟩
  have em : (((r.cnt r.all : Nat) : Int) + 1).toNat = r.most + 1 := by unfold Rd.most; omega
  refine ⟨_, _, rfl, rfl, e, _, [.int 0], rfl, rfl, s2 _ _ ee, ?_, ?_, ?_, fun l hl => ?_⟩
  · unfold Rd.most at hmost; omega
  · unfold Rd.most at hmost; omega
  · rw [em]
    exact Nat.le_of_lt (small1000 (by show 1 * (r.most + 1) ≤ 1000; omega))
  rw [em, rep1]
  have s02 : Same H H2 := s1.trans s2
  have hl0 : H l = none := s02.free hl
  have s3 : Same H2 (upd H2 l (.lst (iV (List.replicate (r.most + 1) 0)))) := same_upd hl
  have el : (upd H2 l (.lst (iV (List.replicate (r.most + 1) 0)))) l = some (.lst (iV (List.replicate (r.most + 1) 0))) := upd_same
  generalize upd H2 l (.lst (iV (List.replicate (r.most + 1) 0))) = H3 at s3 el
  have s03 : Same H H3 := s02.trans s3
  refine ⟨_, rfl, a, dx, _, rfl, s03 _ _ h1, rodF_m _ (by decide +kernel), a, r, rfl, ha.same s03, hsm, fun H4 b s4 hb ⟨us, eb, ob⟩ => ?_⟩
  have ne : b ≠ l := fun z => by rw [z, el] at hb; cases hb
  have el4 := s4 _ _ el
  refine ⟨b, rfl, ⟨_, SqL.of eb⟩, for_list (K := K) (a := b) (xs := us) (fun i σ H' => ∃ v2, σ = [some (.ref a), some (.ref l), v2] ∧ H' = upd H4 l (.lst (iV ((r.tps.take i).foldl (Bm.setRow Bm.gW r) (List.replicate (r.most + 1) 0)))))
    ⟨none, rfl, (upd_id el4).symm⟩ (fun i σ H' _ ⟨_, _, e⟩ => by rw [e]; exact SqL.of (by rw [upd_ne ne]; exact eb)) ?_ ?_⟩
  · rintro i x σ H' hx ⟨v2, rfl, rfl⟩
    obtain ⟨c, t, rfl, ht, hc⟩ := ob.ref hx
    generalize hF : (r.tps.take i).foldl (Bm.setRow Bm.gW r) (List.replicate (r.most + 1) 0) = F
    have hFl : F.length = r.most + 1 := by rw [← hF, Bm.setRow_len, List.length_replicate]
    have hct : r.cnt t < F.length := by
      have := Bm.cnt_le (List.mem_of_getElem? ht)
      omega
    obtain ⟨dx2, ta, g1, g2⟩ := hc.put (ys := iV F) el4
    refine ⟨_, rfl, _, rfl, c, CP, dx2, _, _, rfl, g1, TP.cl, TP.n1, pushF_count, l, _, _, _, rfl, rfl, SqL.of upd_same, atI_nat (iV_at (getD_at hct)), _, _, rfl, rfl, ?_⟩
    refine ⟨_, rfl, _, rfl, c, CP, dx2, _, _, rfl, g1, TP.cl, TP.n1, pushF_count, l, _, _, _, rfl, rfl, upd_same, ixN_nat (by rw [iV_len]; exact hct), ?_⟩
    refine ⟨_, rfl, ?_⟩
    rw [upd_upd, take_more ht, List.foldl_append, hF, iV_set]
    rfl
  · rintro σ H' ⟨v2, rfl, rfl⟩
    rw [ob.1, List.take_length]
    exact ⟨_, rfl, k _ l (same_put hl0 (s03.trans s4)) hl0 upd_same⟩
end
end Bw

namespace Bw
open PySem PySem.Spec PyProof.Rows L2 Bd0
open Bm (Rd Tp many lexT readMake rdAt chunk badShape)
theorem rowW_small {r : Rd} (h : small r) {c : Nat} (hc : c ≤ r.most) : 0 ≤ (Bm.rowM Bm.gW 0 r).getD c 0 ∧ (Bm.rowM Bm.gW 0 r).getD c 0 ≤ 5000 := by
  rw [Bm.rowW_at r hc]
  unfold Bm.gw Bm.wN Bm.encN
  rw [Bm.smN_len]
  have h1 := List.length_filter_le (fun t => r.cnt t == c) r.tps
  have h2 := tps_len h
  omega
theorem fold_succ {β : Type} (f : β → Nat → β) (a : β) (i : Nat) : (List.range (i + 1)).foldl f a = f ((List.range i).foldl f a) i := by
  rw [List.range_succ, List.foldl_append]
  rfl
theorem above_len (cell : Rd → Nat → List Int → Nat → Int) (r : Rd) (d : Nat) (T : List Int) : (Bm.aboveM cell r d T).length = Bm.loadsM r T.length := by
  unfold Bm.aboveM
  rw [List.length_map, List.length_range]
theorem loads_256 {r : Rd} (g : r.good) {n : Nat} (h : n ≤ 256) : 1 ≤ Bm.loadsM r n ∧ Bm.loadsM r n ≤ 256 := by
  unfold Bm.loadsM
  have h1 := g.1.1
  have h2 := g.2.1
  have h3 : (n - 1 + r.most) / r.q ≤ 510 / 2 := Nat.le_trans (Nat.div_le_div_right (by omega)) (Nat.div_le_div_left h1 (by decide))
  generalize (n - 1 + r.most) / r.q = x at h3 ⊢
  omega
theorem range_snoc (f : Nat → Int) (i : Nat) : iV ((List.range (i + 1)).map f) = iV ((List.range i).map f) ++ [.int (f i)] := by
  rw [List.range_succ, List.map_append]
  unfold iV
  rw [List.map_append]
  rfl
section
variable {P : Program} {w : World} {K : PySem.W.Frag} {mg : Str → Option Value} {base : Heap}
/-! ### ways_above(rod, digit, table) -/
def sp_above (cell : Rd → Nat → List Int → Nat → Int) (CR : Addr) : Sp := fun vs H Q _ => ∃ (a p : Addr) (r : Rd) (d : Nat) (T : List Int), vs = [.ref a, vn d, .ref p] ∧ RodAt CR H a r ∧ r.good ∧ H p = some (.lst (iV T)) ∧ 1 ≤ T.length ∧ T.length ≤ 256 ∧
  ∀ (H' : Hp) (q : Addr), Same H H' → H q = none → H' q = some (.lst (iV (Bm.aboveM cell r d T))) → Q (.ref q) H'
theorem sc_ways_above : FnScope ["rod", "digit", "table", "row", "found", "load", "total", "count"] ["rod", "digit", "table"] (defScope s_ways_above) := ⟨rfl, rfl, rfl, by decide +kernel, rfl, by decide +kernel, by decide +kernel⟩
theorem ok_ways_above {CR f : Addr} {fd : FuncData} (F : Fun K "ways_above" "ways_above" s_ways_above f fd) (B : TB mg) (TR : ClsR K CR) (GB : Fn P w K mg base CX0 1 "load_below" ["rod", "digit", "load", "count"] (sp_load_below CR)) (GA : Fn P w K mg base CX0 1 "at_load" ["table", "load", "otherwise"] sp_at_load)
    (GL : Fn P w K mg base CX0 2 "loads_of" ["rod", "table"] (sp_loads_of CR)) (GW : Fn P w K mg base CX0 4 "way_row" ["rod"] (sp_way_row CR)) : FnOk P w K mg base CX0 5 f fd ["rod", "digit", "table"] (sp_above Bm.cellW CR) := by
  refine F.ok sc_ways_above (fun vs H Q E h => ?_) (fun cdv A outer s H vs Q E hr h => ?_)
  · obtain ⟨a, p, r, d, T, rfl, _⟩ := h
    rfl
  have hr1 : Room 1 (A.deeper (envOfC "ways_above" (defScope s_ways_above) s.heap.objs.size f cdv)) := hr.mono (by decide)
  have hr2 : Room 2 (A.deeper (envOfC "ways_above" (defScope s_ways_above) s.heap.objs.size f cdv)) := hr.mono (by decide)
  refine ⟨_, pss_cons (ps_set (i := 3) sc_ways_above.nd rfl (Or.inl rfl) (pe_fn GW hr rfl (by exact (pa_cons (pv 0) pa_nil))))
      (pss_cons (ps_set (i := 4) sc_ways_above.nd rfl (Or.inl rfl) (pe_lst pa_nil))
      (pss_cons (ps_for PassesOwn.never rfl (pi_range1 rfl B.range (pa_cons (pe_fn GL hr2 rfl (by exact (pa_cons (pv 0) (pa_cons (pv 2) pa_nil)))) pa_nil)) (pg_name (i := 5) sc_ways_above.nd rfl (Or.inl rfl))
        (pss_cons (ps_set (i := 6) sc_ways_above.nd rfl (Or.inl rfl) pe_int)
        (pss_cons (ps_for PassesOwn.never rfl (pi_range1 rfl B.range (pa_cons (pe_callB call_len (by rfl) B.len (by decide +kernel) (pa_cons (pv 3) pa_nil)) pa_nil)) (pg_name (i := 7) sc_ways_above.nd rfl (Or.inl rfl))
          (pss_one (ps_set (i := 6) sc_ways_above.nd rfl (Or.inl rfl) (pe_op op_add (pv 6) (pe_op op_mul (pe_ix ix_list (pv 3) (pv 7) (fun _ _ => rfl))
            (pe_fn GA hr1 rfl (by exact (pa_cons (pv 2) (pa_cons (pe_fn GB hr1 rfl (by exact (pa_cons (pv 0) (pa_cons (pv 1) (pa_cons (pv 5) (pa_cons (pv 7) pa_nil)))))) (pa_cons pe_int pa_nil))))))))))
        (pss_one (ps_expr (pe_bm PySem.F.plainAttrs_list PySem.F.slot_list_append PySem.F.type_list_append mt_append (pv 4) (pa_cons (pv 6) pa_nil)))))))
      (pss_one (ps_ret (pv 4))))), ?_⟩
  obtain ⟨a, p, r, d, T, rfl, ha, g, ep, l1, l2, k⟩ := h
  have hsm := small_of g.1
  have hmost : r.most ≤ 255 := g.2.1
  obtain ⟨n1, n2⟩ := loads_256 g l2
  refine ⟨_, rfl, a, r, rfl, ha, g, fun H1 q s1 hq eq => ?_⟩
  refine ⟨Nat.zero_le _, fun l hl => ?_⟩
  have hl0 : H l = none := s1.free hl
  have s2 : Same H1 (upd H1 l (.lst [])) := same_upd hl
  have el : (upd H1 l (.lst [])) l = some (.lst []) := upd_same
  have ql : q ≠ l := ne_of_none eq hl
  generalize upd H1 l (.lst []) = H2 at s2 el
  have s02 := s1.trans s2
  refine ⟨_, rfl, _, rfl, a, p, r, T, rfl, ha.same s02, g, s02 _ _ ep, l1, fun H3 s3 => ?_⟩
  refine ⟨_, rfl, by omega, by omega, for_range (n := (((Bm.loadsM r T.length : Nat) : Int)).toNat) (fun i σ H' => ∃ v5 v6 v7, σ = [some (.ref a), some (vn d), some (.ref p), some (.ref q), some (.ref l), v5, v6, v7] ∧ Same H1 H' ∧ H' l = some (.lst (iV ((List.range i).map (Bm.cellW r d T)))))
      ⟨none, none, none, rfl, s2.trans s3, s3 _ _ el⟩ ?_ ?_⟩
  · rintro i σ H' hi ⟨v5, v6, v7, rfl, s', el'⟩
    have hi' : i < Bm.loadsM r T.length := by omega
    have eq' := s' _ _ eq
    have ep' := s' _ _ (s1 _ _ ep)
    have er : ((iV (Bm.rowM Bm.gW 0 r)).length : Int) = ((r.most + 1 : Nat) : Int) := by rw [iV_len, Bm.rowM_len]
    refine ⟨_, rfl, _, _, rfl, .inl ⟨_, SqL.of eq', rfl⟩, ?_⟩
    rw [er]
    refine ⟨_, rfl, by omega, by omega, for_range (n := (((r.most + 1 : Nat) : Int)).toNat) (fun j σ H2 => ∃ v7, σ = [some (.ref a), some (vn d), some (.ref p), some (.ref q), some (.ref l), some (.int (0 + (i : Int))), some (.int ((List.range j).foldl (fun tot c => tot + (Bm.rowM Bm.gW 0 r).getD c 0 * Bm.atL T (Bm.lowLoad r.q d i c) 0) 0)), v7] ∧ H2 = H')
      ⟨v7, rfl, rfl⟩ ?_ ?_⟩
    · rintro j σ H5 hj ⟨v7, rfl, rfl⟩
      have hj' : j ≤ r.most := by omega
      obtain ⟨b1, b2⟩ := rowW_small hsm hj'
      have hjl : j < (Bm.rowM Bm.gW 0 r).length := by rw [Bm.rowM_len]; omega
      have ea : atI (iV (Bm.rowM Bm.gW 0 r)) (0 + (j : Int)) = some (.int ((Bm.rowM Bm.gW 0 r).getD j 0)) := by
        rw [Int.zero_add]
        exact atI_nat (iV_at (getD_at hjl))
      refine ⟨_, rfl, _, rfl, _, rfl, q, _, _, _, rfl, rfl, SqL.of eq', ea, _, rfl, _, rfl, _, rfl, _, rfl, _, rfl, a, r, d, j, 0 + (i : Int), ?_, (ha.same s1).same s', g, p, T, _, _, rfl, ep', ?_⟩
      · rw [Int.zero_add, Int.zero_add]
        rfl
      · refine ⟨_, _, rfl, rfl, .inl (by omega), _, _, rfl, rfl, ?_⟩
        refine ⟨some (.int (0 + (j : Int))), ?_, rfl⟩
        rw [fold_succ, Int.zero_add]
        rfl
    · rintro σ H5 ⟨v7, rfl, rfl⟩
      have en : (((r.most + 1 : Nat) : Int)).toNat = r.most + 1 := Int.toNat_natCast _
      rw [en]
      refine ⟨_, rfl, .inl ⟨rfl, _, SqL.of el'⟩, _, rfl, l, _, _, rfl, rfl, el', ?_, ?_⟩
      · rw [iV_len, List.length_map, List.length_range]
        exact small1000 (by omega)
      · refine ⟨_, _, _, rfl, same_put hl s', ?_⟩
        rw [upd_same, range_snoc]
        rfl
  · rintro σ H' ⟨v5, v6, v7, rfl, s', el'⟩
    have en : (((Bm.loadsM r T.length : Nat) : Int)).toNat = Bm.loadsM r T.length := Int.toNat_natCast _
    rw [en] at el'
    exact ⟨_, rfl, k H' l (s1.trans s') hl0 el'⟩
end
end Bw

namespace Bw
open PySem PySem.Spec PyProof.Rows L2 Bd0
open Bm (Rd Tp many lexT readMake rdAt chunk badShape)
structure ClsT (K : PySem.W.Frag) (C : Addr) : Prop where
  cl : Cls K C
  n0 : NoAttr K C "rods"
  n1 : NoAttr K C "digits"
  n2 : NoAttr K C "load"
def tabFl (p da : Addr) (L : Nat) : List (Str × V) := [("rods", .ref p), ("digits", .ref da), ("load", vn L)]
section
variable {p da : Addr} {L : Nat}
theorem tabFl_rods : (tabFl p da L).lookup ("rods" : Str) = some (.ref p) := lk_here
theorem tabFl_digits : (tabFl p da L).lookup ("digits" : Str) = some (.ref da) := (lk_past (by decide +kernel)).trans lk_here
theorem tabFl_load : (tabFl p da L).lookup ("load" : Str) = some (vn L) := (lk_past (by decide +kernel)).trans ((lk_past (by decide +kernel)).trans lk_here)
theorem tabFl_m (x : Str) (h : ((x == ("rods" : Str)) || ((x == ("digits" : Str)) || (x == ("load" : Str)))) = false) : (tabFl p da L).lookup x = none := by
  rw [Bool.or_eq_false_iff, Bool.or_eq_false_iff] at h
  exact (lk_past h.1).trans ((lk_past h.2.1).trans ((lk_past h.2.2).trans rfl))
theorem tabFl_new : putF "load" (vn L) (putF "digits" (.ref da) (putF "rods" (.ref p) [])) = tabFl p da L := by
  show putF "load" (vn L) (putF "digits" (.ref da) [("rods", .ref p)]) = _
  rw [put_past (by decide +kernel)]
  show putF "load" (vn L) [("rods", .ref p), ("digits", .ref da)] = _
  rw [put_past (by decide +kernel), put_past (by decide +kernel)]
  rfl
end
/-- how the tables' object lies -/
def TabAt (CT CR : Addr) (H : Hp) (t : Addr) (rs : List Rd) (v : Nat) : Prop := ∃ dx p da, H t = some (.ins CT dx (tabFl p da (Bm.restM rs v))) ∧ Rods CR H p rs ∧ H da = some (.lst (nums (Bm.digitsM rs v)))
theorem TabAt.same {CT CR : Addr} {H H' : Hp} {t : Addr} {rs : List Rd} {v : Nat} (h : TabAt CT CR H t rs v) (s : Same H H') : TabAt CT CR H' t rs v := by
  obtain ⟨dx, p, da, h1, h2, h3⟩ := h
  exact ⟨dx, p, da, s _ _ h1, h2.same s, s _ _ h3⟩
theorem Rods.putI {CR C dx : Addr} {H : Hp} {p t : Addr} {rs : List Rd} {o : HO} (h : Rods CR H p rs) (ht : H t = some (.ins C dx [])) : Rods CR (upd H t o) p rs := by
  obtain ⟨us, ep, ob⟩ := h
  refine ⟨us, by rw [upd_ne (ne_of ep ht (fun z => by cases z))]; exact ep, ob.imp fun b r ⟨dx2, ba, wa, h1, h2, h3⟩ => ⟨dx2, ba, wa, ?_, ?_, ?_⟩⟩
  · rw [upd_ne (ne_of h1 ht (fun z => by cases z))]; exact h1
  · rw [upd_ne (ne_of h2 ht (fun z => by cases z))]; exact h2
  · rw [upd_ne (ne_of h3 ht (fun z => by cases z))]; exact h3
section
variable {P : Program} {w : World} {K : PySem.W.Frag} {mg : Str → Option Value} {base : Heap}
/-! ### Tables(rods, value) -/
def sp_Tables_init (CT CR : Addr) : Sp := fun vs H Q _ => ∃ (t dx p : Addr) (rs : List Rd) (v : Nat), vs = [.ref t, .ref p, vn v] ∧ H t = some (.ins CT dx []) ∧ Rods CR H p rs ∧ (∀ r ∈ rs, r.good) ∧ rs.length ≤ 64 ∧
  ∀ (H' : Hp) (da : Addr), H' t = some (.ins CT dx (tabFl p da (Bm.restM rs v))) → H' da = some (.lst (nums (Bm.digitsM rs v))) → (∀ b o, H b = some o → b ≠ t → H' b = some o) → Q .non H'
theorem sc_Tables_init : FnScope ["self", "rods", "value"] ["self", "rods", "value"] (defScope s_Tables_init) := ⟨rfl, rfl, rfl, by decide +kernel, rfl, by decide +kernel, by decide +kernel⟩
theorem ok_Tables_init {CT CR f : Addr} {fd : FuncData} (F : Fun K "__init__" "Tables.__init__" s_Tables_init f fd) (TT : ClsT K CT) (GD : Fn P w K mg base CX0 1 "digits_of" ["rods", "value"] (sp_digits_of CR)) : FnOk P w K mg base CX0 2 f fd ["self", "rods", "value"] (sp_Tables_init CT CR) := by
  refine F.ok sc_Tables_init (fun vs H Q E h => ?_) (fun cdv A outer s H vs Q E hr h => ⟨_, pss_cons (ps_fld (pv 0) (pv 1) rfl)
      (pss_one (ps_asg (pe_fn GD hr rfl (by exact (pa_cons (pv 1) (pa_cons (pv 2) pa_nil)))) (pg_tup rfl (pgs_cons (pg_fld (pv 0)) (pgs_cons (pg_fld (pv 0)) pgs_nil))))), ?_⟩)
  · obtain ⟨t, dx, p, rs, v, rfl, _⟩ := h
    rfl
  · obtain ⟨t, dx, p, rs, v, rfl, et, hp, hg, h64, k⟩ := h
    refine ⟨_, rfl, _, rfl, t, CT, dx, [], rfl, et, TT.cl, TT.n0, (by show 0 < 1000; decide), ?_⟩
    have hp1 : Rods CR (upd H t (.ins CT dx (putF "rods" (.ref p) []))) p rs := hp.putI et
    have et1 : (upd H t (.ins CT dx (putF "rods" (.ref p) []))) t = some (.ins CT dx (putF "rods" (.ref p) [])) := upd_same
    have ot : ∀ b o, H b = some o → b ≠ t → (upd H t (.ins CT dx (putF "rods" (.ref p) []))) b = some o := fun b o e n => by rw [upd_ne n]; exact e
    generalize upd H t (.ins CT dx (putF "rods" (.ref p) [])) = H1 at hp1 et1 ot
    refine ⟨_, rfl, _, rfl, p, rs, v, rfl, hp1, hg, h64, fun H2 tt ff s2 nt nf ett eff => ?_⟩
    have nft : ff ≠ t := ne_of eff (s2 _ _ et1) (fun z => by cases z)
    refine ⟨tt, _, rfl, SqT.of ett, rfl, _, _, rfl, ?_⟩
    refine ⟨_, rfl, t, CT, dx, _, rfl, s2 _ _ et1, TT.cl, TT.n1, (by show 1 < 1000; decide), ?_⟩
    refine ⟨_, _, rfl, _, rfl, t, CT, dx, _, rfl, upd_same, TT.cl, TT.n2, (by show 2 < 1000; decide), rfl, ?_⟩
    refine k _ ff ?_ ?_ fun b o e n => ?_
    · rw [upd_same, tabFl_new]
    · rw [upd_ne nft, upd_ne nft]
      exact eff
    · rw [upd_ne n, upd_ne n]
      exact s2 _ _ (ot _ _ e n)
/-! ### tables.below(place, load, push) -/
def sp_Tables_below (CT CR CP : Addr) : Sp := fun vs H Q _ => ∃ (t b : Addr) (rs : List Rd) (v i : Nat) (r : Rd) (d : Nat) (L : Int) (x : Tp), vs = [.ref t, vn i, .int L, .ref b] ∧ TabAt CT CR H t rs v ∧ rs[i]? = some r ∧ (Bm.digitsM rs v)[i]? = some d ∧ r.good ∧ PushAt CP r H b x ∧ Q (.int (Bm.lowI r.q d L (r.cnt x))) H
theorem sc_Tables_below : FnScope ["self", "place", "load", "push"] ["self", "place", "load", "push"] (defScope s_Tables_below) := ⟨rfl, rfl, rfl, by decide +kernel, rfl, by decide +kernel, by decide +kernel⟩
theorem ok_Tables_below {CT CR CP f : Addr} {fd : FuncData} (F : Fun K "below" "Tables.below" s_Tables_below f fd) (TT : ClsT K CT) (TP : ClsP K CP) (GB : Fn P w K mg base CX0 1 "load_below" ["rod", "digit", "load", "count"] (sp_load_below CR)) : FnOk P w K mg base CX0 2 f fd ["self", "place", "load", "push"] (sp_Tables_below CT CR CP) := by
  refine F.ok sc_Tables_below (fun vs H Q E h => ?_) (fun cdv A outer s H vs Q E hr h => ⟨_, pss_one (ps_ret (pe_fn GB hr rfl (by exact (pa_cons (pe_ix ix_list (pe_fld (pv 0) rfl) (pv 1) (fun _ _ => rfl)) (pa_cons (pe_ix ix_list (pe_fld (pv 0) rfl) (pv 1) (fun _ _ => rfl)) (pa_cons (pv 2) (pa_cons (pe_fld (pv 3) rfl) pa_nil))))))), ?_⟩)
  · obtain ⟨t, b, rs, v, i, r, d, L, x, rfl, _⟩ := h
    rfl
  · obtain ⟨t, b, rs, v, i, r, d, L, x, rfl, ⟨dx, p, da, et, ⟨us, ep, ob⟩, ed⟩, hr', hd, g, ⟨dx2, ta, g1, g2⟩, k⟩ := h
    obtain ⟨a, ea, ha⟩ := ob.2 _ _ hr'
    exact ⟨_, rfl, t, CT, dx, _, _, rfl, et, TT.cl, TT.n0, tabFl_rods, _, rfl, p, _, _, _, rfl, rfl, SqL.of ep, atI_nat ea, _, rfl, t, CT, dx, _, _, rfl, et, TT.cl, TT.n1, tabFl_digits, _, rfl, da, _, _, _, rfl, rfl, SqL.of ed, atI_nat (nums_at hd), _, rfl, _, rfl, b, CP, dx2, _, _, rfl, g1, TP.cl, TP.n1, pushF_count, a, r, d, r.cnt x, L, rfl, ha, g, k⟩
end
end Bw

namespace Bw
open PySem PySem.Spec PyProof.Rows L2 Bd0
open Bm (Rd Tp many lexT readMake rdAt chunk badShape)
/-- tables in a list -/
def TabsL (H : Hp) (q : Addr) (tab : Nat → List Int) (n : Nat) : Prop := ∃ us, H q = some (.lst us) ∧ us.length = n + 1 ∧ ∀ i, i ≤ n → ∃ c, us[i]? = some (V.ref c) ∧ H c = some (.lst (iV (tab i)))
theorem TabsL.same {H H' : Hp} {q : Addr} {tab : Nat → List Int} {n : Nat} (h : TabsL H q tab n) (s : Same H H') : TabsL H' q tab n := by
  obtain ⟨us, e, l, k⟩ := h
  refine ⟨us, s _ _ e, l, fun i hi => ?_⟩
  obtain ⟨c, a, b⟩ := k i hi
  exact ⟨c, a, s _ _ b⟩
theorem atI_neg1 {α : Type} {us : List α} {i : Nat} {v : α} (hl : us.length = i + 1) (h : us[i]? = some v) : atI us (-1) = some v := by
  have e : us = us.take i ++ [v] := by
    have := take_more h
    rw [← this, ← hl, List.take_length]
  rw [e]
  exact atI_last _ _
theorem tab_succ (cell : Rd → Nat → List Int → Nat → Int) (T0 : List Int) {rs : List Rd} {ds : List Nat} {i : Nat} {r : Rd} {d : Nat} (h1 : rs[i]? = some r) (h2 : ds[i]? = some d) :
    Bm.tabM cell T0 ((rs.zip ds).take (i + 1)) = Bm.aboveM cell r d (Bm.tabM cell T0 ((rs.zip ds).take i)) := by
  rw [take_more (Bm.zip_at h1 h2)]
  unfold Bm.tabM
  rw [List.foldl_append]
  rfl
theorem dig_at {rs : List Rd} (v : Nat) {i : Nat} (h : i < rs.length) : ∃ d, (Bm.digitsM rs v)[i]? = some d := ⟨_, List.getElem?_eq_getElem (by rw [Bm.digits_len]; exact h)⟩
/-- a loop over pairs that lie in an earlier heap -/
theorem for_prsG {K : PySem.W.Frag} {J : It} {tb : TS} {D : Ends} {σ : L2.St} {H0 H : Hp} {n i j : Nat} {xs ys : List V} (hJ : Prs J n xs ys H0) (Pv : Nat → L2.St → Hp → Prop) (h0 : Pv 0 σ H) (hq : ∀ k σ' H', Pv k σ' H' → Same H0 H')
    (hs : ∀ (k : Nat) (x y : V) (T : Addr) (σ' : L2.St) (H' : Hp), xs[k]? = some x → ys[k]? = some y → Pv k σ' H' → H' T = none → tb { D with nx := Pv (k + 1), ct := Pv (k + 1), bk := D.nx } ((σ'.set i (some x)).set j (some y)) (upd H' T (.tup [x, y])))
    (hd : ∀ σ' H', Pv n σ' H' → D.nx σ' H') :
    ∃ W : Nat → Nat → L2.St → Hp → Prop, (∃ m, W 0 m σ H) ∧ ∀ k m σ H, W k m σ H →
      (J.stop k H ∧ D.nx σ H) ∨ (J.go k H ∧ ∃ N : L2.St → Hp → Prop, (∀ σ' H', N σ' H' → ∃ m', m' < m ∧ W (k + 1) m' σ' H') ∧ ∀ v H', J.yld k H v H' → gTup K 2 (gCons (gName i) (gCons (gName j) gNil)) v σ H' fun σ2 H2 => tb { D with nx := N, ct := N, bk := D.nx } σ2 H2) := by
  refine ⟨fun k m σ' H' => k + m = n ∧ Pv k σ' H', ⟨n, by omega, h0⟩, ?_⟩
  rintro k m σ' H' ⟨em, p⟩
  have s := hq k σ' H' p
  by_cases hk : k < n
  · right
    refine ⟨hJ.go k H' s hk, Pv (k + 1), fun σ2 H2 p2 => ⟨m - 1, by omega, by omega, p2⟩, fun v H2 hy => ?_⟩
    obtain ⟨T, x, y, rfl, nT, rfl, ex, ey⟩ := hJ.yld k H' v H2 s hk hy
    exact ⟨T, [x, y], rfl, .inl (.inl upd_same), rfl, x, [y], rfl, y, [], rfl, rfl, hs k x y T σ' H' ex ey p nT⟩
  · left
    have e : k = n := by omega
    subst e
    exact ⟨hJ.stop H' s, hd σ' H' p⟩
section
variable {P : Program} {w : World} {K : PySem.W.Frag} {mg : Str → Option Value} {base : Heap}
/-! ### tables.ways() -/
def sp_Tables_tabs (CT CR : Addr) (tab : List Rd → Nat → Nat → List Int) : Sp := fun vs H Q _ => ∃ (t : Addr) (rs : List Rd) (v : Nat), vs = [.ref t] ∧ TabAt CT CR H t rs v ∧ (∀ r ∈ rs, r.good) ∧ rs.length ≤ 64 ∧
  ∀ (H' : Hp) (q : Addr), Same H H' → TabsL H' q (tab rs v) rs.length → Q (.ref q) H'
theorem sc_Tables_ways : FnScope ["self", "found", "rod", "digit"] ["self"] (defScope s_Tables_ways) := ⟨rfl, rfl, rfl, by decide +kernel, rfl, by decide +kernel, by decide +kernel⟩
theorem ok_Tables_ways {CT CR f : Addr} {fd : FuncData} (F : Fun K "ways" "Tables.ways" s_Tables_ways f fd) (B : TB mg) (TT : ClsT K CT) (GA : Fn P w K mg base CX0 5 "ways_above" ["rod", "digit", "table"] (sp_above Bm.cellW CR)) : FnOk P w K mg base CX0 6 f fd ["self"] (sp_Tables_tabs CT CR Bm.tabW) := by
  refine F.ok sc_Tables_ways (fun vs H Q E h => ?_) (fun cdv A outer s H vs Q E hr h => ⟨_, pss_cons (ps_set (i := 1) sc_Tables_ways.nd rfl (Or.inl rfl) (pe_lst (pa_cons (pe_lst (pa_cons pe_int pa_nil)) pa_nil)))
      (pss_cons (ps_for PassesOwn.never rfl (pi_zipB (by rfl) B.zip (pa_cons (pe_fld (pv 0) rfl) (pa_cons (pe_fld (pv 0) rfl) pa_nil))) (pg_tup rfl (pgs_cons (pg_name (i := 2) sc_Tables_ways.nd rfl (Or.inl rfl)) (pgs_cons (pg_name (i := 3) sc_Tables_ways.nd rfl (Or.inl rfl)) pgs_nil)))
        (pss_one (ps_expr (pe_bm PySem.F.plainAttrs_list PySem.F.slot_list_append PySem.F.type_list_append mt_append (pv 1) (pa_cons
          (pe_fn GA hr rfl (by exact (pa_cons (pv 2) (pa_cons (pv 3) (pa_cons (pe_ix ix_list (pv 1) (pe_un un_neg pe_int) (fun _ _ => rfl)) pa_nil))))) pa_nil)))))
      (pss_one (ps_ret (pv 1)))), ?_⟩)
  · obtain ⟨t, rs, v, rfl, _⟩ := h
    rfl
  · obtain ⟨t, rs, v, rfl, ⟨dx, p, da, et, ⟨us, ep, ob⟩, ed⟩, hg, h64, k⟩ := h
    refine ⟨(by show 1 ≤ sizeLine; decide), fun c0 hc0 => ⟨(by show 1 ≤ sizeLine; decide), fun l hl => ?_⟩⟩
    have s1 : Same H (upd H c0 (.lst (iV [1]))) := same_upd hc0
    have e0 : (upd H c0 (.lst (iV [1]))) c0 = some (.lst (iV [1])) := upd_same
    change (upd H c0 (.lst (iV [1]))) l = none at hl
    show gName 1 (V.ref l) (L2.start ["self", "found", "rod", "digit"] [V.ref t]) (upd (upd H c0 (.lst (iV [1]))) l (.lst [.ref c0])) _
    generalize upd H c0 (.lst (iV [1])) = H1 at s1 e0 hl
    have s2 : Same H1 (upd H1 l (.lst [.ref c0])) := same_upd hl
    have hl0 : H l = none := s1.free hl
    have el : (upd H1 l (.lst [.ref c0])) l = some (.lst [.ref c0]) := upd_same
    have nc : c0 ≠ l := ne_of_none e0 hl
    have e02 := s2 _ _ e0
    generalize upd H1 l (.lst [.ref c0]) = H2 at s2 el e02
    have s02 := s1.trans s2
    have hle : us.length = (nums (Bm.digitsM rs v)).length := by rw [ob.1, nums_len, Bm.digits_len]
    refine ⟨_, rfl, t, CT, dx, _, _, rfl, s02 _ _ et, TT.cl, TT.n0, tabFl_rods, _, rfl, t, CT, dx, _, _, rfl, s02 _ _ et, TT.cl, TT.n1, tabFl_digits, p, da, us, nums (Bm.digitsM rs v), rfl, .inl ⟨SqL.of (s02 _ _ ep), SqL.of (s02 _ _ ed), ?_⟩⟩
    refine for_prsG (K := K) (i := 2) (j := 3) (n := us.length) (prs_L (SqL.of ep) (SqL.of ed) hle)
      (fun i σ H' => ∃ v2 v3, σ = [some (.ref t), some (.ref l), v2, v3] ∧ Same H H' ∧ ((Bm.tabW rs v i).length ≤ 256 ∧ 1 ≤ (Bm.tabW rs v i).length) ∧ ∃ ws, H' l = some (.lst ws) ∧ ws.length = i + 1 ∧ ∀ j, j ≤ i → ∃ c, ws[j]? = some (V.ref c) ∧ c ≠ l ∧ H' c = some (.lst (iV (Bm.tabW rs v j))))
      ⟨none, none, rfl, s02, ⟨(by show 1 ≤ 256; omega), (by show 1 ≤ 1; omega)⟩, _, el, rfl, fun j hj => ⟨c0, by rw [show j = 0 by omega]; rfl, nc, by rw [show j = 0 by omega]; exact e02⟩⟩ (fun i σ' H' ⟨_, _, _, s, _⟩ => s) ?_ ?_
    · rintro i x y T σ' H' hx hy ⟨v2, v3, rfl, s', ⟨n1, n2⟩, ws, el', lw, hw⟩ hT
      obtain ⟨a, r, rfl, hr', ha⟩ := ob.ref hx
      have hi : i < rs.length := (List.getElem?_eq_some_iff.mp hr').1
      obtain ⟨d, hd⟩ := dig_at v hi
      have ey := nums_at hd
      rw [hy] at ey
      have ey' := Option.some.inj ey
      subst ey'
      have gr := hg r (List.mem_of_getElem? hr')
      have s3 : Same H' (upd H' T (.tup [.ref a, vn d])) := same_upd hT
      obtain ⟨c, ec, nc', hc⟩ := hw i (Nat.le_refl _)
      refine ⟨_, rfl, .inl ⟨rfl, _, SqL.of (s3 _ _ el')⟩, _, rfl, _, rfl, _, rfl, _, rfl, l, _, _, _, rfl, rfl, SqL.of (s3 _ _ el'), atI_neg1 lw ec, ?_⟩
      generalize upd H' T (.tup [.ref a, vn d]) = H3 at s3
      refine ⟨a, c, r, d, _, rfl, (ha.same s').same s3, gr, s3 _ _ hc, n2, n1, fun H4 q s4 hq eq => ?_⟩
      have s34 := s3.trans s4
      have hql : q ≠ l := fun z => by rw [z, s3 _ _ el'] at hq; cases hq
      refine ⟨l, _, _, rfl, rfl, s34 _ _ el', ?_, ?_⟩
      · rw [lw]
        exact small1000 (by omega)
      · have et : Bm.tabW rs v (i + 1) = Bm.aboveM Bm.cellW r d (Bm.tabW rs v i) := tab_succ _ _ hr' hd
        obtain ⟨m1, m2⟩ := loads_256 gr n1
        refine ⟨_, _, rfl, same_put hl0 (s'.trans s34), ⟨by rw [et, above_len]; exact m2, by rw [et, above_len]; exact m1⟩, _, upd_same, by rw [List.length_append, lw]; rfl, fun j hj => ?_⟩
        by_cases h : j ≤ i
        · obtain ⟨c', e', n', h'⟩ := hw j h
          refine ⟨c', ?_, n', ?_⟩
          · rw [List.getElem?_append_left (by omega)]
            exact e'
          · rw [upd_ne n']
            exact s34 _ _ h'
        · have ej : j = i + 1 := by omega
          subst ej
          refine ⟨q, ?_, hql, ?_⟩
          · rw [List.getElem?_append_right (by omega), lw, Nat.sub_self]
            rfl
          · rw [upd_ne hql, eq, et]
    · rintro σ' H' ⟨v2, v3, rfl, s', _, ws, el', lw, hw⟩
      rw [ob.1] at lw hw
      exact ⟨_, rfl, k H' l s' ⟨ws, el', lw, fun i hi => by
        obtain ⟨c, a1, _, a2⟩ := hw i hi
        exact ⟨c, a1, a2⟩⟩⟩
end
end Bw

namespace Bw
open PySem PySem.Spec PyProof.Rows L2 Bd0
open Bm (Rd Tp many lexT readMake rdAt chunk badShape)
/-- Tables(rods, value) made -/
theorem make_tab {CT CR : Addr} {H : Hp} {p : Addr} {rs : List Rd} {v : Nat} {R : Addr → Hp → Prop} {E : XK} (hp : Rods CR H p rs) (hg : ∀ r ∈ rs, r.good) (h64 : rs.length ≤ 64) (k : ∀ (H' : Hp) (t : Addr), Same H H' → TabAt CT CR H' t rs v → R t H') :
    ∀ x dx, H x = none → H dx = none → dx ≠ x → sp_Tables_init CT CR (.ref x :: ([.ref p, vn v] ++ [])) (upd (upd H dx (.own x)) x (.ins CT dx [])) (fun v H2 => v = .non ∧ R x H2) E := by
  intro x dx nx ndx ne
  have s1 : Same H (upd H dx (.own x)) := same_upd ndx
  have nx1 : (upd H dx (.own x)) x = none := by rw [upd_ne ne.symm]; exact nx
  have s2 : Same H (upd (upd H dx (.own x)) x (.ins CT dx [])) := s1.trans (same_upd nx1)
  refine ⟨x, dx, p, rs, v, rfl, upd_same, hp.same s2, hg, h64, fun H' da e1 e2 kp => ⟨rfl, ?_⟩⟩
  have s3 : Same H H' := fun b o e => kp b o (s2 _ _ e) (ne_of_none e nx)
  exact k H' x s3 ⟨dx, p, da, e1, hp.same s3, e2⟩
end Bw

namespace Bw
open PySem PySem.Spec PyProof.Rows L2 Bd0
open Bm (Rd Tp many lexT readMake rdAt chunk badShape)
theorem set_getD {F : List Int} {c : Nat} (h : c < F.length) : F.set c (F.getD c 0) = F := by
  refine List.ext_getElem? fun i => ?_
  rw [List.getElem?_set]
  by_cases e : c = i
  · subst e
    rw [if_pos rfl, if_pos h]
    exact (getD_at h).symm
  · rw [if_neg e]
theorem dec_int' {a b : Int} {c : Bool} (h : decide (V.int a = V.int b) = c) : (c = true ↔ a = b) := by
  rw [← h, decide_eq_true_iff]
  exact ⟨fun z => V.int.inj z, fun z => by rw [z]⟩
section
variable {P : Program} {w : World} {K : PySem.W.Frag} {mg : Str → Option Value} {base : Heap}
/-! ### few_row(rod) -/
def sp_few_row (CR : Addr) : Sp := fun vs H Q _ => ∃ (a : Addr) (r : Rd), vs = [.ref a] ∧ RodAt CR H a r ∧ r.good ∧ ∀ (H' : Hp) (p : Addr), Same H H' → H p = none → H' p = some (.lst (iV (Bm.rowM Bm.gF (-1) r))) → Q (.ref p) H'
theorem sc_few_row : FnScope ["rod", "found", "push"] ["rod"] (defScope s_few_row) := ⟨rfl, rfl, rfl, by decide +kernel, rfl, by decide +kernel, by decide +kernel⟩
theorem ok_few_row {CR CP f : Addr} {fd : FuncData} (F : Fun K "few_row" "few_row" s_few_row f fd) (cN : Cst mg "NEVER" (-1)) (TR : ClsR K CR) (TP : ClsP K CP) (GC : Mt P w K mg base CR 1 "count_of" ["self", "beads"] (sp_Rod_count_of K CR)) (GP : Mt P w K mg base CR 3 "pushes" ["self"] (sp_Rod_pushes CR CP)) : FnOk P w K mg base CX0 4 f fd ["rod"] (sp_few_row CR) := by
  refine F.ok sc_few_row (fun vs H Q E h => ?_) (fun cdv A outer s H vs Q E hr h => ?_)
  · obtain ⟨a, r, rfl, _⟩ := h
    rfl
  have hr1 : Room 1 (A.deeper (envOfC "few_row" (defScope s_few_row) s.heap.objs.size f cdv)) := hr.mono (by decide)
  refine ⟨_, pss_cons (ps_set (i := 1) sc_few_row.nd rfl (Or.inl rfl) (pe_op op_rep (pe_lst (pa_cons (pe_cst rfl cN) pa_nil)) (pe_op op_add (pe_mt (pv 0) TR.cl GC hr1 (by exact (pa_cons (pe_fld (pv 0) rfl) pa_nil))) pe_int)))
      (pss_cons (ps_for PassesOwn.never rfl (pi_list (pe_mt0 (pv 0) TR.cl GP hr)) (pg_name (i := 2) sc_few_row.nd rfl (Or.inl rfl))
        (pss_one (ps_if (PW.pt (pw_or (pt_cmpR op_eq (pe_ix ix_list (pv 1) (pe_fld (pv 2) rfl) (fun _ _ => rfl)) (pe_cst rfl cN) (nomark _)) (pw_or1 (pt_cmpR op_lt (pe_fld (pv 2) rfl) (pe_ix ix_list (pv 1) (pe_fld (pv 2) rfl) (fun _ _ => rfl)) (nomark _)))))
          (pss_one (ps_asg (pe_fld (pv 2) rfl) (pg_sub (pv 1) (pe_fld (pv 2) rfl) set_list))) pss_nil)))
      (pss_one (ps_ret (pv 1)))), ?_⟩
  obtain ⟨a, r, rfl, ha, g, k⟩ := h
  obtain ⟨dx, ba, wa, h1, h2, h3⟩ := id ha
  have hsm := small_of g.1
  have hmost : r.most ≤ 255 := g.2.1
  refine ⟨(by show 1 ≤ sizeLine; decide), fun e he => ?_⟩
  have s1 : Same H (upd H e (.lst [.int (-1)])) := same_upd he
  have ee : (upd H e (.lst [.int (-1)])) e = some (.lst [.int (-1)]) := upd_same
  generalize upd H e (.lst [.int (-1)]) = H1 at s1 ee
  refine ⟨_, rfl, a, dx, _, rfl, s1 _ _ h1, rodF_m _ (by decide +kernel), _, rfl, a, CR, dx, _, _, rfl, s1 _ _ h1, TR.cl, TR.n1, rodF_beads, a, ba, r, r.all, rfl, ha.same s1, .inl (SqL.of (s1 _ _ h2)), hsm.2, fun H2 s2 => ?_⟩
  have em : (((r.cnt r.all : Nat) : Int) + 1).toNat = r.most + 1 := by unfold Rd.most; omega
  refine ⟨_, _, rfl, rfl, e, _, [.int (-1)], rfl, rfl, s2 _ _ ee, ?_, ?_, ?_, fun l hl => ?_⟩
  · unfold Rd.most at hmost; omega
  · unfold Rd.most at hmost; omega
  · rw [em]
    exact Nat.le_of_lt (small1000 (by show 1 * (r.most + 1) ≤ 1000; omega))
  rw [em, rep1]
  have s02 : Same H H2 := s1.trans s2
  have hl0 : H l = none := s02.free hl
  have s3 : Same H2 (upd H2 l (.lst (iV (List.replicate (r.most + 1) (-1))))) := same_upd hl
  have el : (upd H2 l (.lst (iV (List.replicate (r.most + 1) (-1))))) l = some (.lst (iV (List.replicate (r.most + 1) (-1)))) := upd_same
  generalize upd H2 l (.lst (iV (List.replicate (r.most + 1) (-1)))) = H3 at s3 el
  have s03 : Same H H3 := s02.trans s3
  refine ⟨_, rfl, a, dx, _, rfl, s03 _ _ h1, rodF_m _ (by decide +kernel), a, r, rfl, ha.same s03, hsm, fun H4 b s4 hb ⟨us, eb, ob⟩ => ?_⟩
  have ne : b ≠ l := fun z => by rw [z, el] at hb; cases hb
  have el4 := s4 _ _ el
  refine ⟨b, rfl, ⟨_, SqL.of eb⟩, for_list (K := K) (a := b) (xs := us) (fun i σ H' => ∃ v2, σ = [some (.ref a), some (.ref l), v2] ∧ H' = upd H4 l (.lst (iV ((r.tps.take i).foldl (Bm.setRow Bm.gF r) (List.replicate (r.most + 1) (-1))))))
    ⟨none, rfl, (upd_id el4).symm⟩ (fun i σ H' _ ⟨_, _, e⟩ => by rw [e]; exact SqL.of (by rw [upd_ne ne]; exact eb)) ?_ ?_⟩
  · rintro i x σ H' hx ⟨v2, rfl, rfl⟩
    obtain ⟨c, t, rfl, ht, hc⟩ := ob.ref hx
    have hFs : (r.tps.take (i + 1)).foldl (Bm.setRow Bm.gF r) (List.replicate (r.most + 1) (-1)) = Bm.setRow Bm.gF r ((r.tps.take i).foldl (Bm.setRow Bm.gF r) (List.replicate (r.most + 1) (-1))) t := by
      rw [take_more ht, List.foldl_append]
      rfl
    rw [hFs]
    generalize hF : (r.tps.take i).foldl (Bm.setRow Bm.gF r) (List.replicate (r.most + 1) (-1)) = F
    have hFl : F.length = r.most + 1 := by rw [← hF, Bm.setRow_len, List.length_replicate]
    have hct : r.cnt t < F.length := by
      have := Bm.cnt_le (List.mem_of_getElem? ht)
      omega
    obtain ⟨dx2, ta, g1, g2⟩ := hc.put (ys := iV F) el4
    have yes : (F.getD (r.cnt t) 0 = -1 ∨ (many t : Int) < F.getD (r.cnt t) 0) → Bm.setRow Bm.gF r F t = F.set (r.cnt t) (many t : Int) := fun z => by
      unfold Bm.setRow Bm.gF
      rw [if_pos z]
    have no : ¬ (F.getD (r.cnt t) 0 = -1 ∨ (many t : Int) < F.getD (r.cnt t) 0) → Bm.setRow Bm.gF r F t = F := fun z => by
      unfold Bm.setRow Bm.gF
      rw [if_neg z, set_getD hct]
    have put : (F.getD (r.cnt t) 0 = -1 ∨ (many t : Int) < F.getD (r.cnt t) 0) → upd (upd H4 l (.lst (iV F))) l (.lst ((iV F).set (r.cnt t) (vn (many t)))) = upd H4 l (.lst (iV (Bm.setRow Bm.gF r F t))) := fun z => by
      rw [upd_upd, yes z, ← iV_set]
    refine ⟨_, rfl, _, rfl, c, CP, dx2, _, _, rfl, g1, TP.cl, TP.n1, pushF_count, l, _, _, _, rfl, rfl, SqL.of upd_same, atI_nat (iV_at (getD_at hct)), rfl, _, rfl, ite2 (fun e => iteT ?_) fun e => ?_⟩
    · have z := (dec_int' rfl).mp e
      refine ⟨_, rfl, c, CP, dx2, _, _, rfl, g1, TP.cl, TP.n2, pushF_many, _, rfl, _, rfl, c, CP, dx2, _, _, rfl, g1, TP.cl, TP.n1, pushF_count, l, _, _, _, rfl, rfl, upd_same, ixN_nat (by rw [iV_len]; exact hct), ?_⟩
      exact ⟨_, rfl, put (.inl z)⟩
    · have z1 : ¬ F.getD (r.cnt t) 0 = -1 := fun z => e ((dec_int' rfl).mpr z)
      refine ⟨_, rfl, c, CP, dx2, _, _, rfl, g1, TP.cl, TP.n2, pushF_many, _, rfl, _, rfl, c, CP, dx2, _, _, rfl, g1, TP.cl, TP.n1, pushF_count, l, _, _, _, rfl, rfl, SqL.of upd_same, atI_nat (iV_at (getD_at hct)), _, _, rfl, rfl, _, rfl, ite2 (fun e => ?_) fun e => ?_⟩
      · have z : (many t : Int) < F.getD (r.cnt t) 0 := of_decide_eq_true e
        refine ⟨_, rfl, c, CP, dx2, _, _, rfl, g1, TP.cl, TP.n2, pushF_many, _, rfl, _, rfl, c, CP, dx2, _, _, rfl, g1, TP.cl, TP.n1, pushF_count, l, _, _, _, rfl, rfl, upd_same, ixN_nat (by rw [iV_len]; exact hct), ?_⟩
        exact ⟨_, rfl, put (.inr z)⟩
      · have z2 : ¬ (many t : Int) < F.getD (r.cnt t) 0 := fun z => e (decide_eq_true z)
        exact ⟨_, rfl, by rw [no (fun z => z.elim z1 z2)]⟩
  · rintro σ H' ⟨v2, rfl, rfl⟩
    rw [ob.1, List.take_length]
    exact ⟨_, rfl, k _ l (same_put hl0 (s03.trans s4)) hl0 upd_same⟩
/-! ### fewest_above(rod, digit, table) -/
theorem sc_fewest_above : FnScope ["rod", "digit", "table", "row", "found", "load", "least", "count", "below"] ["rod", "digit", "table"] (defScope s_fewest_above) := ⟨rfl, rfl, rfl, by decide +kernel, rfl, by decide +kernel, by decide +kernel⟩
theorem ok_fewest_above {CR f : Addr} {fd : FuncData} (F : Fun K "fewest_above" "fewest_above" s_fewest_above f fd) (B : TB mg) (cN : Cst mg "NEVER" (-1)) (TR : ClsR K CR) (GB : Fn P w K mg base CX0 1 "load_below" ["rod", "digit", "load", "count"] (sp_load_below CR)) (GA : Fn P w K mg base CX0 1 "at_load" ["table", "load", "otherwise"] sp_at_load)
    (GL : Fn P w K mg base CX0 2 "loads_of" ["rod", "table"] (sp_loads_of CR)) (GW : Fn P w K mg base CX0 4 "few_row" ["rod"] (sp_few_row CR)) : FnOk P w K mg base CX0 5 f fd ["rod", "digit", "table"] (sp_above Bm.cellF CR) := by
  refine F.ok sc_fewest_above (fun vs H Q E h => ?_) (fun cdv A outer s H vs Q E hr h => ?_)
  · obtain ⟨a, p, r, d, T, rfl, _⟩ := h
    rfl
  have hr1 : Room 1 (A.deeper (envOfC "fewest_above" (defScope s_fewest_above) s.heap.objs.size f cdv)) := hr.mono (by decide)
  have hr2 : Room 2 (A.deeper (envOfC "fewest_above" (defScope s_fewest_above) s.heap.objs.size f cdv)) := hr.mono (by decide)
  refine ⟨_, pss_cons (ps_set (i := 3) sc_fewest_above.nd rfl (Or.inl rfl) (pe_fn GW hr rfl (by exact (pa_cons (pv 0) pa_nil))))
      (pss_cons (ps_set (i := 4) sc_fewest_above.nd rfl (Or.inl rfl) (pe_lst pa_nil))
      (pss_cons (ps_for PassesOwn.never rfl (pi_range1 rfl B.range (pa_cons (pe_fn GL hr2 rfl (by exact (pa_cons (pv 0) (pa_cons (pv 2) pa_nil)))) pa_nil)) (pg_name (i := 5) sc_fewest_above.nd rfl (Or.inl rfl))
        (pss_cons (ps_set (i := 6) sc_fewest_above.nd rfl (Or.inl rfl) (pe_cst rfl cN))
        (pss_cons (ps_for PassesOwn.never rfl (pi_range1 rfl B.range (pa_cons (pe_callB call_len (by rfl) B.len (by decide +kernel) (pa_cons (pv 3) pa_nil)) pa_nil)) (pg_name (i := 7) sc_fewest_above.nd rfl (Or.inl rfl))
          (pss_cons (ps_set (i := 8) sc_fewest_above.nd rfl (Or.inl rfl)
            (pe_fn GA hr1 rfl (by exact (pa_cons (pv 2) (pa_cons (pe_fn GB hr1 rfl (by exact (pa_cons (pv 0) (pa_cons (pv 1) (pa_cons (pv 5) (pa_cons (pv 7) pa_nil)))))) (pa_cons (pe_cst rfl cN) pa_nil))))))
          (pss_one (ps_if (PW.pt (pw_and (pt_cmpR op_ne (pe_ix ix_list (pv 3) (pv 7) (fun _ _ => rfl)) (pe_cst rfl cN) (nomark _)) (pw_and (pt_cmpR op_ne (pv 8) (pe_cst rfl cN) (nomark _))
              (pw_and1 (PW.pt (pw_or (pt_cmpR op_eq (pv 6) (pe_cst rfl cN) (nomark _)) (pw_or1 (pt_cmpR op_lt (pe_op op_add (pe_ix ix_list (pv 3) (pv 7) (fun _ _ => rfl)) (pv 8)) (pv 6) (nomark _)))))))))
            (pss_one (ps_set (i := 6) sc_fewest_above.nd rfl (Or.inl rfl) (pe_op op_add (pe_ix ix_list (pv 3) (pv 7) (fun _ _ => rfl)) (pv 8)))) pss_nil))))
        (pss_one (ps_expr (pe_bm PySem.F.plainAttrs_list PySem.F.slot_list_append PySem.F.type_list_append mt_append (pv 4) (pa_cons (pv 6) pa_nil)))))))
      (pss_one (ps_ret (pv 4))))), ?_⟩
  obtain ⟨a, p, r, d, T, rfl, ha, g, ep, l1, l2, k⟩ := h
  have hsm := small_of g.1
  have hmost : r.most ≤ 255 := g.2.1
  obtain ⟨n1, n2⟩ := loads_256 g l2
  refine ⟨_, rfl, a, r, rfl, ha, g, fun H1 q s1 hq eq => ?_⟩
  refine ⟨Nat.zero_le _, fun l hl => ?_⟩
  have hl0 : H l = none := s1.free hl
  have s2 : Same H1 (upd H1 l (.lst [])) := same_upd hl
  have el : (upd H1 l (.lst [])) l = some (.lst []) := upd_same
  have ql : q ≠ l := ne_of_none eq hl
  generalize upd H1 l (.lst []) = H2 at s2 el
  have s02 := s1.trans s2
  refine ⟨_, rfl, _, rfl, a, p, r, T, rfl, ha.same s02, g, s02 _ _ ep, l1, fun H3 s3 => ?_⟩
  refine ⟨_, rfl, by omega, by omega, for_range (n := (((Bm.loadsM r T.length : Nat) : Int)).toNat) (fun i σ H' => ∃ v5 v6 v7 v8, σ = [some (.ref a), some (vn d), some (.ref p), some (.ref q), some (.ref l), v5, v6, v7, v8] ∧ Same H1 H' ∧ H' l = some (.lst (iV ((List.range i).map (Bm.cellF r d T)))))
      ⟨none, none, none, none, rfl, s2.trans s3, s3 _ _ el⟩ ?_ ?_⟩
  · rintro i σ H' hi ⟨v5, v6, v7, v8, rfl, s', el'⟩
    have hi' : i < Bm.loadsM r T.length := by omega
    have eq' := s' _ _ eq
    have ep' := s' _ _ (s1 _ _ ep)
    have er : ((iV (Bm.rowM Bm.gF (-1) r)).length : Int) = ((r.most + 1 : Nat) : Int) := by rw [iV_len, Bm.rowM_len]
    refine ⟨_, rfl, _, _, rfl, .inl ⟨_, SqL.of eq', rfl⟩, ?_⟩
    rw [er]
    refine ⟨_, rfl, by omega, by omega, for_range (n := (((r.most + 1 : Nat) : Int)).toNat) (fun j σ H2 => ∃ v7 v8, σ = [some (.ref a), some (vn d), some (.ref p), some (.ref q), some (.ref l), some (.int (0 + (i : Int))), some (.int ((List.range j).foldl (Bm.stepF r d T i) (-1))), v7, v8] ∧ H2 = H')
      ⟨v7, v8, rfl, rfl⟩ ?_ ?_⟩
    · rintro j σ H5 hj ⟨v7, v8, rfl, rfl⟩
      have hj' : j ≤ r.most := by omega
      have hjl : j < (Bm.rowM Bm.gF (-1) r).length := by rw [Bm.rowM_len]; omega
      have ea : atI (iV (Bm.rowM Bm.gF (-1) r)) (0 + (j : Int)) = some (.int ((Bm.rowM Bm.gF (-1) r).getD j 0)) := by
        rw [Int.zero_add]
        exact atI_nat (iV_at (getD_at hjl))
      have eL : Bm.lowI r.q d (0 + (i : Int)) j = Bm.lowLoad r.q d i j := by
        rw [Int.zero_add]
        rfl
      have hst : Bm.stepF r d T i ((List.range j).foldl (Bm.stepF r d T i) (-1)) j = if ((Bm.rowM Bm.gF (-1) r).getD j 0 ≠ -1 ∧ Bm.atL T (Bm.lowI r.q d (0 + (i : Int)) j) (-1) ≠ -1 ∧ ((List.range j).foldl (Bm.stepF r d T i) (-1) = -1 ∨ (Bm.rowM Bm.gF (-1) r).getD j 0 + Bm.atL T (Bm.lowI r.q d (0 + (i : Int)) j) (-1) < (List.range j).foldl (Bm.stepF r d T i) (-1)))
          then (Bm.rowM Bm.gF (-1) r).getD j 0 + Bm.atL T (Bm.lowI r.q d (0 + (i : Int)) j) (-1) else (List.range j).foldl (Bm.stepF r d T i) (-1) := by
        rw [eL]
        rfl
      have hnx : (List.range (j + 1)).foldl (Bm.stepF r d T i) (-1) = Bm.stepF r d T i ((List.range j).foldl (Bm.stepF r d T i) (-1)) j := fold_succ _ _ _
      rw [hnx, hst]
      generalize (List.range j).foldl (Bm.stepF r d T i) (-1) = least
      generalize (Bm.rowM Bm.gF (-1) r).getD j 0 = wj at ea
      refine ⟨_, rfl, _, rfl, _, rfl, _, rfl, _, rfl, a, r, d, j, 0 + (i : Int), by rw [Int.zero_add, Int.zero_add]; rfl, (ha.same s1).same s', g, p, T, _, _, rfl, ep', ?_⟩
      generalize Bm.atL T (Bm.lowI r.q d (0 + (i : Int)) j) (-1) = bj
      refine ⟨_, rfl, _, rfl, q, _, _, _, rfl, rfl, SqL.of eq', ea, rfl, _, rfl, ite2 (fun e1 => ?_) fun e1 => iteF ?_⟩
      · have y1 : wj ≠ -1 := fun z => by rw [z] at e1; simp at e1
        refine ⟨_, rfl, rfl, _, rfl, ite2 (fun e2 => ?_) fun e2 => iteF ?_⟩
        · have y2 : bj ≠ -1 := fun z => by rw [z] at e2; simp at e2
          refine ⟨_, rfl, rfl, _, rfl, ite2 (fun e3 => iteT ?_) fun e3 => ?_⟩
          · have y3 : least = -1 := (dec_int' rfl).mp e3
            rw [if_pos ⟨y1, y2, .inl y3⟩]
            exact ⟨_, rfl, _, rfl, q, _, _, _, rfl, rfl, SqL.of eq', ea, _, rfl, _, _, rfl, rfl, _, _, rfl, rfl⟩
          · have y3 : ¬ least = -1 := fun z => e3 ((dec_int' rfl).mpr z)
            refine ⟨_, rfl, _, rfl, q, _, _, _, rfl, rfl, SqL.of eq', ea, _, rfl, _, _, rfl, rfl, _, rfl, _, _, rfl, rfl, _, rfl, ite2 (fun e4 => ?_) fun e4 => ?_⟩
            · have y4 : wj + bj < least := of_decide_eq_true e4
              rw [if_pos ⟨y1, y2, .inr y4⟩]
              exact ⟨_, rfl, _, rfl, q, _, _, _, rfl, rfl, SqL.of eq', ea, _, rfl, _, _, rfl, rfl, _, _, rfl, rfl⟩
            · have y4 : ¬ wj + bj < least := fun z => e4 (decide_eq_true z)
              rw [if_neg (fun z => z.2.2.elim y3 y4)]
              exact ⟨_, _, rfl, rfl⟩
        · have y2 : ¬ bj ≠ -1 := fun z => e2 (by simp [z])
          rw [if_neg (fun z => y2 z.2.1)]
          exact ⟨_, _, rfl, rfl⟩
      · have y1 : ¬ wj ≠ -1 := fun z => e1 (by simp [z])
        rw [if_neg (fun z => y1 z.1)]
        exact ⟨_, _, rfl, rfl⟩
    · rintro σ H5 ⟨v7, v8, rfl, rfl⟩
      have en : (((r.most + 1 : Nat) : Int)).toNat = r.most + 1 := Int.toNat_natCast _
      rw [en]
      refine ⟨_, rfl, .inl ⟨rfl, _, SqL.of el'⟩, _, rfl, l, _, _, rfl, rfl, el', ?_, ?_⟩
      · rw [iV_len, List.length_map, List.length_range]
        exact small1000 (by omega)
      · refine ⟨_, _, _, _, rfl, same_put hl s', ?_⟩
        rw [upd_same, range_snoc]
        rfl
  · rintro σ H' ⟨v5, v6, v7, v8, rfl, s', el'⟩
    have en : (((Bm.loadsM r T.length : Nat) : Int)).toNat = Bm.loadsM r T.length := Int.toNat_natCast _
    rw [en] at el'
    exact ⟨_, rfl, k H' l (s1.trans s') hl0 el'⟩
end
end Bw

namespace Bw
open PySem PySem.Spec PyProof.Rows L2 Bd0
open Bm (Rd Tp many lexT readMake rdAt chunk badShape)
section
variable {P : Program} {w : World} {K : PySem.W.Frag} {mg : Str → Option Value} {base : Heap}
/-! ### tables.fewest() -/
theorem sc_Tables_fewest : FnScope ["self", "found", "rod", "digit"] ["self"] (defScope s_Tables_fewest) := ⟨rfl, rfl, rfl, by decide +kernel, rfl, by decide +kernel, by decide +kernel⟩
theorem ok_Tables_fewest {CT CR f : Addr} {fd : FuncData} (F : Fun K "fewest" "Tables.fewest" s_Tables_fewest f fd) (B : TB mg) (TT : ClsT K CT) (GA : Fn P w K mg base CX0 5 "fewest_above" ["rod", "digit", "table"] (sp_above Bm.cellF CR)) : FnOk P w K mg base CX0 6 f fd ["self"] (sp_Tables_tabs CT CR Bm.tabF) := by
  refine F.ok sc_Tables_fewest (fun vs H Q E h => ?_) (fun cdv A outer s H vs Q E hr h => ⟨_, pss_cons (ps_set (i := 1) sc_Tables_fewest.nd rfl (Or.inl rfl) (pe_lst (pa_cons (pe_lst (pa_cons pe_int pa_nil)) pa_nil)))
      (pss_cons (ps_for PassesOwn.never rfl (pi_zipB (by rfl) B.zip (pa_cons (pe_fld (pv 0) rfl) (pa_cons (pe_fld (pv 0) rfl) pa_nil))) (pg_tup rfl (pgs_cons (pg_name (i := 2) sc_Tables_fewest.nd rfl (Or.inl rfl)) (pgs_cons (pg_name (i := 3) sc_Tables_fewest.nd rfl (Or.inl rfl)) pgs_nil)))
        (pss_one (ps_expr (pe_bm PySem.F.plainAttrs_list PySem.F.slot_list_append PySem.F.type_list_append mt_append (pv 1) (pa_cons
          (pe_fn GA hr rfl (by exact (pa_cons (pv 2) (pa_cons (pv 3) (pa_cons (pe_ix ix_list (pv 1) (pe_un un_neg pe_int) (fun _ _ => rfl)) pa_nil))))) pa_nil)))))
      (pss_one (ps_ret (pv 1)))), ?_⟩)
  · obtain ⟨t, rs, v, rfl, _⟩ := h
    rfl
  · obtain ⟨t, rs, v, rfl, ⟨dx, p, da, et, ⟨us, ep, ob⟩, ed⟩, hg, h64, k⟩ := h
    refine ⟨(by show 1 ≤ sizeLine; decide), fun c0 hc0 => ⟨(by show 1 ≤ sizeLine; decide), fun l hl => ?_⟩⟩
    have s1 : Same H (upd H c0 (.lst (iV [0]))) := same_upd hc0
    have e0 : (upd H c0 (.lst (iV [0]))) c0 = some (.lst (iV [0])) := upd_same
    change (upd H c0 (.lst (iV [0]))) l = none at hl
    show gName 1 (V.ref l) (L2.start ["self", "found", "rod", "digit"] [V.ref t]) (upd (upd H c0 (.lst (iV [0]))) l (.lst [.ref c0])) _
    generalize upd H c0 (.lst (iV [0])) = H1 at s1 e0 hl
    have s2 : Same H1 (upd H1 l (.lst [.ref c0])) := same_upd hl
    have hl0 : H l = none := s1.free hl
    have el : (upd H1 l (.lst [.ref c0])) l = some (.lst [.ref c0]) := upd_same
    have nc : c0 ≠ l := ne_of_none e0 hl
    have e02 := s2 _ _ e0
    generalize upd H1 l (.lst [.ref c0]) = H2 at s2 el e02
    have s02 := s1.trans s2
    have hle : us.length = (nums (Bm.digitsM rs v)).length := by rw [ob.1, nums_len, Bm.digits_len]
    refine ⟨_, rfl, t, CT, dx, _, _, rfl, s02 _ _ et, TT.cl, TT.n0, tabFl_rods, _, rfl, t, CT, dx, _, _, rfl, s02 _ _ et, TT.cl, TT.n1, tabFl_digits, p, da, us, nums (Bm.digitsM rs v), rfl, .inl ⟨SqL.of (s02 _ _ ep), SqL.of (s02 _ _ ed), ?_⟩⟩
    refine for_prsG (K := K) (i := 2) (j := 3) (n := us.length) (prs_L (SqL.of ep) (SqL.of ed) hle)
      (fun i σ H' => ∃ v2 v3, σ = [some (.ref t), some (.ref l), v2, v3] ∧ Same H H' ∧ ((Bm.tabF rs v i).length ≤ 256 ∧ 1 ≤ (Bm.tabF rs v i).length) ∧ ∃ ws, H' l = some (.lst ws) ∧ ws.length = i + 1 ∧ ∀ j, j ≤ i → ∃ c, ws[j]? = some (V.ref c) ∧ c ≠ l ∧ H' c = some (.lst (iV (Bm.tabF rs v j))))
      ⟨none, none, rfl, s02, ⟨(by show 1 ≤ 256; omega), (by show 1 ≤ 1; omega)⟩, _, el, rfl, fun j hj => ⟨c0, by rw [show j = 0 by omega]; rfl, nc, by rw [show j = 0 by omega]; exact e02⟩⟩ (fun i σ' H' ⟨_, _, _, s, _⟩ => s) ?_ ?_
    · rintro i x y T σ' H' hx hy ⟨v2, v3, rfl, s', ⟨n1, n2⟩, ws, el', lw, hw⟩ hT
      obtain ⟨a, r, rfl, hr', ha⟩ := ob.ref hx
      have hi : i < rs.length := (List.getElem?_eq_some_iff.mp hr').1
      obtain ⟨d, hd⟩ := dig_at v hi
      have ey := nums_at hd
      rw [hy] at ey
      have ey' := Option.some.inj ey
      subst ey'
      have gr := hg r (List.mem_of_getElem? hr')
      have s3 : Same H' (upd H' T (.tup [.ref a, vn d])) := same_upd hT
      obtain ⟨c, ec, nc', hc⟩ := hw i (Nat.le_refl _)
      refine ⟨_, rfl, .inl ⟨rfl, _, SqL.of (s3 _ _ el')⟩, _, rfl, _, rfl, _, rfl, _, rfl, l, _, _, _, rfl, rfl, SqL.of (s3 _ _ el'), atI_neg1 lw ec, ?_⟩
      generalize upd H' T (.tup [.ref a, vn d]) = H3 at s3
      refine ⟨a, c, r, d, _, rfl, (ha.same s').same s3, gr, s3 _ _ hc, n2, n1, fun H4 q s4 hq eq => ?_⟩
      have s34 := s3.trans s4
      have hql : q ≠ l := fun z => by rw [z, s3 _ _ el'] at hq; cases hq
      refine ⟨l, _, _, rfl, rfl, s34 _ _ el', ?_, ?_⟩
      · rw [lw]
        exact small1000 (by omega)
      · have et : Bm.tabF rs v (i + 1) = Bm.aboveM Bm.cellF r d (Bm.tabF rs v i) := tab_succ _ _ hr' hd
        obtain ⟨m1, m2⟩ := loads_256 gr n1
        refine ⟨_, _, rfl, same_put hl0 (s'.trans s34), ⟨by rw [et, above_len]; exact m2, by rw [et, above_len]; exact m1⟩, _, upd_same, by rw [List.length_append, lw]; rfl, fun j hj => ?_⟩
        by_cases h : j ≤ i
        · obtain ⟨c', e', n', h'⟩ := hw j h
          refine ⟨c', ?_, n', ?_⟩
          · rw [List.getElem?_append_left (by omega)]
            exact e'
          · rw [upd_ne n']
            exact s34 _ _ h'
        · have ej : j = i + 1 := by omega
          subst ej
          refine ⟨q, ?_, hql, ?_⟩
          · rw [List.getElem?_append_right (by omega), lw, Nat.sub_self]
            rfl
          · rw [upd_ne hql, eq, et]
    · rintro σ' H' ⟨v2, v3, rfl, s', _, ws, el', lw, hw⟩
      rw [ob.1] at lw hw
      exact ⟨_, rfl, k H' l s' ⟨ws, el', lw, fun i hi => by
        obtain ⟨c, a1, _, a2⟩ := hw i hi
        exact ⟨c, a1, a2⟩⟩⟩
end
end Bw

namespace Bw
open PySem PySem.Spec PyProof.Rows L2 Bd0
open Bm (Rd Tp many lexT readMake rdAt chunk badShape)
theorem few_ok {rs : List Rd} (g : ∀ r ∈ rs, r.good) (v : Nat) (h : ¬ Bm.atL (Bm.tabF rs v rs.length) (Bm.restM rs v : Int) (-1) = -1) : ∃ ts, Bm.fewM rs (Bm.digitsM rs v) (Bm.tabF rs v) rs.length (Bm.restM rs v : Int) = some ts ∧ ts.length = rs.length := by
  have hT := Bm.tabsF g v rs.length (Nat.le_refl _)
  rw [List.take_length] at hT
  have e := hT.atN (v / Bm.spn rs)
  rw [Bm.vAt_all] at e
  have er : Bm.restM rs v = v / Bm.spn rs := Bm.restM_eq rs v
  rw [er, show Bm.atL (Bm.tabF rs v rs.length) ((v / Bm.spn rs : Nat) : Int) (-1) = Bm.encT (Bm.WT rs v) from e] at h
  cases hw : Bm.WT rs v with
  | none =>
    rw [hw] at h
    exact absurd rfl h
  | some b =>
    obtain ⟨ts, e1, e2, e3⟩ := Bm.few_some g v (tab := Bm.tabF rs v) (fun i hi => Bm.tabsF g v i hi) rs.length (v / Bm.spn rs) b (Nat.le_refl _) (by rw [List.take_length, Bm.vAt_all]; exact hw)
    rw [List.take_length] at e2
    exact ⟨ts, by rw [er]; exact e1, e2.len.symm⟩
theorem getD_dig {ds : List Nat} {i d : Nat} (h : ds[i]? = some d) : ds.getD i 0 = d := by
  rw [List.getD_eq_getElem?_getD, h]
  rfl
theorem drop_at {α : Type} {l : List α} {i : Nat} {x : α} (h : l[i]? = some x) : l.drop i = x :: l.drop (i + 1) := by
  obtain ⟨hi, e⟩ := List.getElem?_eq_some_iff.mp h
  rw [← e]
  exact List.drop_eq_getElem_cons hi
theorem atL_in {T : List Int} {L : Int} (h : Bm.atL T L (-1) ≠ -1) : 0 ≤ L ∧ L < (T.length : Int) := by
  unfold Bm.atL at h
  by_cases c : L < 0 ∨ (T.length : Int) ≤ L
  · rw [if_pos c] at h
    exact absurd rfl h
  · omega
section
variable {P : Program} {w : World} {K : PySem.W.Frag} {mg : Str → Option Value} {base : Heap}
/-! ### push_sparest(tables, fewest, place, load) -/
def sparP (T : List Int) (due : Int) (r : Rd) (d : Nat) (L : Int) : Tp → Bool := fun t => decide (Bm.atL T (Bm.lowI r.q d L (r.cnt t)) (-1) ≠ -1) && decide ((many t : Int) + Bm.atL T (Bm.lowI r.q d L (r.cnt t)) (-1) = due)
def sp_push_sparest (CT CR CP : Addr) : Sp := fun vs H Q _ => ∃ (t q : Addr) (rs : List Rd) (v i : Nat) (r : Rd) (d : Nat) (L : Int) (x : Tp), vs = [.ref t, .ref q, vn i, .int L] ∧ TabAt CT CR H t rs v ∧ TabsL H q (Bm.tabF rs v) rs.length ∧ rs[i]? = some r ∧ (Bm.digitsM rs v)[i]? = some d ∧ r.good ∧
  Bm.atL (Bm.tabF rs v (i + 1)) L (-1) ≠ -1 ∧ r.tps.find? (sparP (Bm.tabF rs v i) ((Bm.tabF rs v (i + 1)).getD L.toNat 0) r d L) = some x ∧ ∀ (H' : Hp) (b : Addr), Same H H' → PushAt CP r H' b x → Q (.ref b) H'
theorem sc_push_sparest : FnScope ["tables", "fewest", "place", "load", "due", "push", "below"] ["tables", "fewest", "place", "load"] (defScope s_push_sparest) := ⟨rfl, rfl, rfl, by decide +kernel, rfl, by decide +kernel, by decide +kernel⟩
theorem ok_push_sparest {CT CR CP f : Addr} {fd : FuncData} (F : Fun K "push_sparest" "push_sparest" s_push_sparest f fd) (cN : Cst mg "NEVER" (-1)) (TT : ClsT K CT) (TR : ClsR K CR) (TP : ClsP K CP) (GP : Mt P w K mg base CR 3 "pushes" ["self"] (sp_Rod_pushes CR CP)) (GA : Fn P w K mg base CX0 1 "at_load" ["table", "load", "otherwise"] sp_at_load)
    (GB : Mt P w K mg base CT 2 "below" ["self", "place", "load", "push"] (sp_Tables_below CT CR CP)) : FnOk P w K mg base CX0 4 f fd ["tables", "fewest", "place", "load"] (sp_push_sparest CT CR CP) := by
  refine F.ok sc_push_sparest (fun vs H Q E h => ?_) (fun cdv A outer s H vs Q E hr h => ?_)
  · obtain ⟨t, q, rs, v, i, r, d, L, x, rfl, _⟩ := h
    rfl
  have hr1 : Room 1 (A.deeper (envOfC "push_sparest" (defScope s_push_sparest) s.heap.objs.size f cdv)) := hr.mono (by decide)
  have hr2 : Room 2 (A.deeper (envOfC "push_sparest" (defScope s_push_sparest) s.heap.objs.size f cdv)) := hr.mono (by decide)
  refine ⟨_, pss_cons (ps_set (i := 4) sc_push_sparest.nd rfl (Or.inl rfl) (pe_ix ix_list (pe_ix ix_list (pv 1) (pe_op op_add (pv 2) pe_int) (fun _ _ => rfl)) (pv 3) (fun _ _ => rfl)))
      (pss_cons (ps_for PassesOwn.never rfl (pi_list (pe_mt0 (pe_ix ix_list (pe_fld (pv 0) rfl) (pv 2) (fun _ _ => rfl)) TR.cl GP hr)) (pg_name (i := 5) sc_push_sparest.nd rfl (Or.inl rfl))
        (pss_cons (ps_set (i := 6) sc_push_sparest.nd rfl (Or.inl rfl) (pe_fn GA hr1 rfl (by exact (pa_cons (pe_ix ix_list (pv 1) (pv 2) (fun _ _ => rfl)) (pa_cons (pe_mt (pv 0) TT.cl GB hr2 (by exact (pa_cons (pv 2) (pa_cons (pv 3) (pa_cons (pv 5) pa_nil))))) (pa_cons (pe_cst rfl cN) pa_nil))))))
        (pss_one (ps_if (PW.pt (pw_and (pt_cmpR op_ne (pv 6) (pe_cst rfl cN) (nomark _)) (pw_and1 (pt_cmpR op_eq (pe_op op_add (pe_fld (pv 5) rfl) (pv 6)) (pv 4) (nomark _))))) (pss_one (ps_ret (pv 5))) pss_nil))))
      pss_never), ?_⟩
  obtain ⟨t, q, rs, v, i, r, d, L, x, rfl, ht, hq, hr', hd, g, hat, hx, kk⟩ := h
  obtain ⟨dx, p, da, e1, ⟨us, ep, ob⟩, e3⟩ := id ht
  obtain ⟨ws, eq, lq, hw⟩ := id hq
  obtain ⟨a, ea, ha⟩ := ob.2 _ _ hr'
  obtain ⟨dxa, ba, wa, h1, h2, h3⟩ := id ha
  have hil : i < rs.length := (List.getElem?_eq_some_iff.mp hr').1
  obtain ⟨c1, ec1, hc1⟩ := hw (i + 1) (by omega)
  obtain ⟨c0, ec0, hc0⟩ := hw i (by omega)
  obtain ⟨b1, b2⟩ := atL_in hat
  have eL : atI (iV (Bm.tabF rs v (i + 1))) L = some (.int ((Bm.tabF rs v (i + 1)).getD L.toNat 0)) := by
    have := atI_nat (iV_at (getD_at (T := Bm.tabF rs v (i + 1)) (i := L.toNat) (by omega)))
    rw [show ((L.toNat : Nat) : Int) = L by omega] at this
    exact this
  generalize (Bm.tabF rs v (i + 1)).getD L.toNat 0 = due at hx eL
  refine ⟨_, rfl, _, rfl, _, _, rfl, rfl, q, _, _, _, rfl, rfl, SqL.of eq, (atI_nat ec1 : atI ws ((i : Int) + 1) = _), _, rfl, c1, _, _, _, rfl, rfl, SqL.of hc1, eL, ?_⟩
  refine ⟨_, rfl, t, CT, dx, _, _, rfl, e1, TT.cl, TT.n0, tabFl_rods, _, rfl, p, _, _, _, rfl, rfl, SqL.of ep, atI_nat ea, a, dxa, _, rfl, h1, rodF_m _ (by decide +kernel), a, r, rfl, ha, small_of g.1, fun H1 l s1 nl ⟨ps, el, op⟩ => ?_⟩
  refine ⟨l, rfl, ⟨_, SqL.of el⟩, for_list (K := K) (a := l) (xs := ps) (fun j σ H' => ∃ v5 v6, σ = [some (.ref t), some (.ref q), some (vn i), some (.int L), some (.int due), v5, v6] ∧ H' = H1 ∧ (r.tps.drop j).find? (sparP (Bm.tabF rs v i) due r d L) = some x)
    ⟨none, none, rfl, rfl, hx⟩ (fun j σ H' _ ⟨_, _, _, e, _⟩ => by rw [e]; exact SqL.of el) ?_ ?_⟩
  · rintro j y σ H' hy ⟨v5, v6, rfl, rfl, hp⟩
    obtain ⟨b, u, rfl, hu, hb⟩ := op.ref hy
    obtain ⟨dxb, tb, g1, g2⟩ := id hb
    rw [drop_at hu, List.find?_cons] at hp
    have hP : sparP (Bm.tabF rs v i) due r d L u = (decide (Bm.atL (Bm.tabF rs v i) (Bm.lowI r.q d L (r.cnt u)) (-1) ≠ -1) && decide ((many u : Int) + Bm.atL (Bm.tabF rs v i) (Bm.lowI r.q d L (r.cnt u)) (-1) = due)) := rfl
    refine ⟨_, rfl, _, rfl, q, _, _, _, rfl, rfl, SqL.of (s1 _ _ eq), atI_nat ec0, _, rfl, t, dx, _, rfl, s1 _ _ e1, tabFl_m _ (by decide +kernel), _, rfl, _, rfl, _, rfl, t, b, rs, v, i, r, d, L, u, rfl, ht.same s1, hr', hd, g, hb, c0, Bm.tabF rs v i, _, _, rfl, s1 _ _ hc0, ?_⟩
    generalize Bm.atL (Bm.tabF rs v i) (Bm.lowI r.q d L (r.cnt u)) (-1) = bj at hP
    have skip : ¬ (bj ≠ -1 ∧ (many u : Int) + bj = due) → (r.tps.drop (j + 1)).find? (sparP (Bm.tabF rs v i) due r d L) = some x := fun z => by
      have : sparP (Bm.tabF rs v i) due r d L u = false := by
        rw [hP, Bool.eq_false_iff]
        intro w
        rw [Bool.and_eq_true, decide_eq_true_iff, decide_eq_true_iff] at w
        exact z w
      rw [this] at hp
      exact hp
    refine ⟨_, rfl, rfl, _, rfl, ite2 (fun e2 => ?_) fun e2 => iteF ?_⟩
    · have y2 : bj ≠ -1 := fun z => by rw [z] at e2; simp at e2
      refine ⟨_, rfl, b, CP, dxb, _, _, rfl, g1, TP.cl, TP.n2, pushF_many, _, rfl, _, _, rfl, rfl, _, rfl, rfl, _, rfl, ite2 (fun e3 => ?_) fun e3 => ?_⟩
      · have y3 : (many u : Int) + bj = due := (dec_int' rfl).mp e3
        have hT : sparP (Bm.tabF rs v i) due r d L u = true := by
          rw [hP, decide_eq_true y2, decide_eq_true y3]
          rfl
        rw [hT] at hp
        have ex := Option.some.inj hp
        subst ex
        exact ⟨_, rfl, kk _ b s1 hb⟩
      · have y3 : ¬ (many u : Int) + bj = due := fun z => e3 ((dec_int' rfl).mpr z)
        exact ⟨_, _, rfl, rfl, skip fun z => y3 z.2⟩
    · have y2 : ¬ bj ≠ -1 := fun z => e2 (by simp [z])
      exact ⟨_, _, rfl, rfl, skip fun z => y2 z.1⟩
  · rintro σ H' ⟨v5, v6, rfl, rfl, hp⟩
    rw [op.1, List.drop_length] at hp
    cases hp
end
end Bw

namespace Bw
open PySem PySem.Spec PyProof.Rows L2 Bd0
open Bm (Rd Tp many lexT readMake rdAt chunk badShape)
theorem Tups.put {H : Hp} {us : List V} {ts : List Tp} {l : Addr} {xs ys : List V} (h : Tups H us ts) (e : H l = some (.lst xs)) : Tups (upd H l (.lst ys)) us ts := h.imp fun v t ⟨b, e1, q⟩ => ⟨b, e1, by rw [upd_ne (ne_of q e (fun z => by cases z))]; exact q⟩
theorem Tups.rev {H : Hp} {us : List V} {ts : List Tp} (h : Tups H us ts) : Tups H us.reverse ts.reverse := by
  refine ⟨by rw [List.length_reverse, List.length_reverse, h.1], fun i t ht => ?_⟩
  have hi : i < ts.length := by
    have := (List.getElem?_eq_some_iff.mp ht).1
    rw [List.length_reverse] at this
    exact this
  rw [List.getElem?_reverse hi] at ht
  obtain ⟨v, e, q⟩ := h.2 _ _ ht
  refine ⟨v, ?_, q⟩
  rw [List.getElem?_reverse (by rw [h.1]; exact hi), h.1]
  exact e
section
variable {P : Program} {w : World} {K : PySem.W.Frag} {mg : Str → Option Value} {base : Heap}
/-! ### sparest(rods, value) -/
def sp_sparest (CR : Addr) : Sp := fun vs H Q _ => ∃ (p : Addr) (rs : List Rd) (v : Nat), vs = [.ref p, vn v] ∧ Rods CR H p rs ∧ (∀ r ∈ rs, r.good) ∧ rs.length ≤ 64 ∧
  ∀ (H' : Hp) (q : Addr), Same H H' → Some1 H' q (Bm.fewA rs v) → (∀ ts, Bm.fewA rs v = some ts → ts.length ≤ 64) → Q (.ref q) H'
theorem sc_sparest : FnScope ["rods", "value", "tables", "fewest", "load", "found", "place", "push"] ["rods", "value"] (defScope s_sparest) := ⟨rfl, rfl, rfl, by decide +kernel, rfl, by decide +kernel, by decide +kernel⟩
theorem ok_sparest {CT CR CP f : Addr} {fd : FuncData} (F : Fun K "sparest" "sparest" s_sparest f fd) (B : TB mg) (cN : Cst mg "NEVER" (-1)) (TT : ClsT K CT) (TP : ClsP K CP) (GT : Mkr P w K mg base CT 2 "Tables" ["self", "rods", "value"] (sp_Tables_init CT CR)) (GA : Fn P w K mg base CX0 1 "at_load" ["table", "load", "otherwise"] sp_at_load)
    (GW : Mt P w K mg base CT 6 "fewest" ["self"] (sp_Tables_tabs CT CR Bm.tabF)) (GB : Mt P w K mg base CT 2 "below" ["self", "place", "load", "push"] (sp_Tables_below CT CR CP)) (GN : Fn P w K mg base CX0 4 "push_sparest" ["tables", "fewest", "place", "load"] (sp_push_sparest CT CR CP)) :
    FnOk P w K mg base CX0 7 f fd ["rods", "value"] (sp_sparest CR) := by
  refine F.ok sc_sparest (fun vs H Q E h => ?_) (fun cdv A outer s H vs Q E hr h => ?_)
  · obtain ⟨p, rs, v, rfl, _⟩ := h
    rfl
  have hr1 : Room 1 (A.deeper (envOfC "sparest" (defScope s_sparest) s.heap.objs.size f cdv)) := hr.mono (by decide)
  have hr2 : Room 2 (A.deeper (envOfC "sparest" (defScope s_sparest) s.heap.objs.size f cdv)) := hr.mono (by decide)
  have hr3 : Room 3 (A.deeper (envOfC "sparest" (defScope s_sparest) s.heap.objs.size f cdv)) := hr.mono (by decide)
  have hr4 : Room 4 (A.deeper (envOfC "sparest" (defScope s_sparest) s.heap.objs.size f cdv)) := hr.mono (by decide)
  refine ⟨_, pss_cons (ps_set (i := 2) sc_sparest.nd rfl (Or.inl rfl) (pe_mk GT hr3 (by rfl) (by exact (pa_cons (pv 0) (pa_cons (pv 1) pa_nil)))))
      (pss_cons (ps_set (i := 3) sc_sparest.nd rfl (Or.inl rfl) (pe_mt0 (pv 2) TT.cl GW hr))
      (pss_cons (ps_set (i := 4) sc_sparest.nd rfl (Or.inl rfl) (pe_fld (pv 2) rfl))
      (pss_cons (ps_if (pt_cmpR op_eq (pe_fn GA hr1 rfl (by exact (pa_cons (pe_ix ix_list (pv 3) (pe_un un_neg pe_int) (fun _ _ => rfl)) (pa_cons (pv 4) (pa_cons (pe_cst rfl cN) pa_nil))))) (pe_cst rfl cN) (nomark _)) (pss_one (ps_ret (pe_lst pa_nil))) pss_nil)
      (pss_cons (ps_set (i := 5) sc_sparest.nd rfl (Or.inl rfl) (pe_lst pa_nil))
      (pss_cons (ps_for PassesOwn.never rfl (pi_revR rfl B.rev (prg_1 rfl B.range (pe_callB call_len (by rfl) B.len (by decide +kernel) (pa_cons (pv 0) pa_nil)))) (pg_name (i := 6) sc_sparest.nd rfl (Or.inl rfl))
        (pss_cons (ps_set (i := 7) sc_sparest.nd rfl (Or.inl rfl) (pe_fn GN hr4 rfl (by exact (pa_cons (pv 2) (pa_cons (pv 3) (pa_cons (pv 6) (pa_cons (pv 4) pa_nil)))))))
        (pss_cons (ps_set (i := 4) sc_sparest.nd rfl (Or.inl rfl) (pe_mt (pv 2) TT.cl GB hr2 (by exact (pa_cons (pv 6) (pa_cons (pv 4) (pa_cons (pv 7) pa_nil))))))
        (pss_one (ps_expr (pe_bm PySem.F.plainAttrs_list PySem.F.slot_list_append PySem.F.type_list_append mt_append (pv 5) (pa_cons (pe_fld (pv 7) rfl) pa_nil)))))))
      (pss_one (ps_ret (pe_lst (pa_cons (pe_revL (pv 5)) pa_nil))))))))), ?_⟩
  obtain ⟨p, rs, v, rfl, hp, hg, h64, kk⟩ := h
  refine ⟨_, rfl, _, rfl, make_tab hp hg h64 fun H1 t s1 ht => ?_⟩
  obtain ⟨dx, p', da, e1, e2, e3⟩ := id ht
  refine ⟨_, rfl, t, dx, _, rfl, e1, tabFl_m _ (by decide +kernel), t, rs, v, rfl, ht, hg, h64, fun H2 q s2 hq => ?_⟩
  obtain ⟨us, eq, lq, hw⟩ := id hq
  refine ⟨_, rfl, t, CT, dx, _, _, rfl, s2 _ _ e1, TT.cl, TT.n2, tabFl_load, ?_⟩
  obtain ⟨c, ec, hc⟩ := hw rs.length (Nat.le_refl _)
  have s02 := s1.trans s2
  refine ⟨_, rfl, _, rfl, q, _, _, _, rfl, rfl, SqL.of eq, atI_neg1 lq ec, _, rfl, c, _, _, _, rfl, hc, rfl, _, rfl, ite2 (fun e => ?_) fun e => ?_⟩
  · have hle : Bm.atL (Bm.tabF rs v rs.length) (Bm.restM rs v : Int) (-1) = -1 := (dec_int' rfl).mp e
    have hn : Bm.fewA rs v = none := by
      unfold Bm.fewA
      rw [if_pos hle]
    refine ⟨Nat.zero_le _, fun o ho => kk _ o (s02.trans (same_upd ho)) ?_ fun ts z => by rw [hn] at z; cases z⟩
    rw [hn]
    exact upd_same
  · have hle : ¬ Bm.atL (Bm.tabF rs v rs.length) (Bm.restM rs v : Int) (-1) = -1 := fun z => e ((dec_int' rfl).mpr z)
    obtain ⟨ts, hts, lts⟩ := few_ok hg v hle
    have hn : Bm.fewA rs v = some ts := by
      unfold Bm.fewA
      rw [if_neg hle, hts]
    refine ⟨Nat.zero_le _, fun l hl => ?_⟩
    have s3 : Same H2 (upd H2 l (.lst [])) := same_upd hl
    have el : (upd H2 l (.lst [])) l = some (.lst []) := upd_same
    generalize upd H2 l (.lst []) = H3 at s3 el
    obtain ⟨pu, epu, opu⟩ := hp.same (s02.trans s3)
    refine ⟨_, rfl, _, _, rfl, .inl ⟨_, SqL.of epu, rfl⟩, _, rfl, ?_⟩
    have epn : (pu.length : Int) = (rs.length : Int) := by rw [opu.1]
    rw [epn]
    refine ⟨by omega, by omega, by omega, by omega, for_rangeC (n := ((rs.length : Int) - 0).toNat) (fun j σ H' => ∃ (L : Int) (v6 v7 : Option V) (xs : List V) (ss : List Tp), σ = [some (.ref p), some (vn v), some (.ref t), some (.ref q), some (.int L), some (.ref l), v6, v7] ∧ Same H2 H' ∧ H' l = some (.lst xs) ∧ Tups H' xs ss ∧ ss.length = j ∧
        Bm.atL (Bm.tabF rs v (rs.length - j)) L (-1) ≠ -1 ∧ ((Bm.fewM rs (Bm.digitsM rs v) (Bm.tabF rs v) (rs.length - j) L).map fun s => s ++ ss.reverse) = some ts)
      ⟨_, none, none, [], [], rfl, s3, el, LRel.nil, rfl, hle, by rw [Nat.sub_zero, hts]; simp⟩ ?_ ?_⟩
    · rintro j σ H' hj ⟨L, v6, v7, xs, ss, rfl, s', el', hT, ls, hat, hM⟩
      have hj' : j < rs.length := by omega
      obtain ⟨i, hi⟩ : ∃ i, rs.length - j = i + 1 := ⟨rs.length - j - 1, by omega⟩
      have ex : (0 : Int) + ((((rs.length : Int) - 0).toNat : Nat) : Int) - 1 + (j : Int) * (-1) = ((i : Nat) : Int) := by omega
      rw [ex]
      have hil : i < rs.length := by omega
      have hr' : rs[i]? = some rs[i] := List.getElem?_eq_getElem hil
      have gr := hg _ (List.getElem_mem hil)
      generalize rs[i] = r at hr' gr
      obtain ⟨d, hd⟩ := dig_at v hil
      rw [hi] at hM hat
      have hF : Bm.fewM rs (Bm.digitsM rs v) (Bm.tabF rs v) (i + 1) L = match r.tps.find? (sparP (Bm.tabF rs v i) ((Bm.tabF rs v (i + 1)).getD L.toNat 0) r d L) with
          | none => none
          | some t => (Bm.fewM rs (Bm.digitsM rs v) (Bm.tabF rs v) i (Bm.lowI r.q d L (r.cnt t))).map fun s => s ++ [t] := by
        conv => lhs; unfold Bm.fewM
        rw [hr']
        dsimp only
        rw [getD_dig hd]
        rfl
      rw [hF] at hM
      cases hx : r.tps.find? (sparP (Bm.tabF rs v i) ((Bm.tabF rs v (i + 1)).getD L.toNat 0) r d L) with
      | none =>
        rw [hx] at hM
        cases hM
      | some x =>
        rw [hx] at hM
        dsimp only at hM
        have hat2 : Bm.atL (Bm.tabF rs v i) (Bm.lowI r.q d L (r.cnt x)) (-1) ≠ -1 := by
          have := List.find?_some hx
          unfold sparP at this
          rw [Bool.and_eq_true, decide_eq_true_iff] at this
          exact this.1
        have s02' := s02.trans s'
        have ht' := ht.same (s2.trans s')
        refine ⟨_, rfl, _, rfl, _, rfl, _, rfl, t, q, rs, v, i, r, d, L, x, rfl, ht', hq.same s', hr', hd, gr, hat, hx, fun H5 b s5 hb => ?_⟩
        obtain ⟨dxb, tb, hb1, hb2⟩ := id hb
        refine ⟨_, rfl, t, dx, _, rfl, s5 _ _ (s' _ _ (s2 _ _ e1)), tabFl_m _ (by decide +kernel), _, rfl, _, rfl, _, rfl, t, b, rs, v, i, r, d, L, x, rfl, ht'.same s5, hr', hd, gr, hb, ?_⟩
        refine ⟨_, rfl, .inl ⟨rfl, _, SqL.of (s5 _ _ el')⟩, _, rfl, b, CP, dxb, _, _, rfl, hb1, TP.cl, TP.n0, pushF_beads, l, _, _, rfl, rfl, s5 _ _ el', ?_, ?_⟩
        · rw [hT.1, ls]
          exact small1000 (by omega)
        · refine ⟨_, _, _, xs ++ [.ref tb], ss ++ [x], rfl, same_put hl (s'.trans s5), upd_same, ?_, by rw [List.length_append, ls]; rfl, ?_, ?_⟩
          · refine ((hT.same s5).put (s5 _ _ el')).snoc ⟨tb, rfl, ?_⟩
            rw [upd_ne (ne_of hb2 (s5 _ _ el') (fun z => by cases z))]
            exact hb2
          · rw [show rs.length - (j + 1) = i by omega]
            exact hat2
          · rw [show rs.length - (j + 1) = i by omega, List.reverse_append]
            rw [Option.map_map] at hM
            rw [← hM]
            congr 1
            funext s
            show s ++ (x :: ss.reverse) = (s ++ [x]) ++ ss.reverse
            simp
    · rintro σ H' ⟨L, v6, v7, xs, ss, rfl, s', el', hT, ls, _, hM⟩
      have en : (((rs.length : Int) - 0).toNat) = rs.length := by omega
      rw [en, Nat.sub_self] at hM
      have hM' : ss.reverse = ts := by
        have : (some ([] : List Tp)).map (fun s => s ++ ss.reverse) = some ts := hM
        simpa using this
      refine ⟨_, rfl, l, xs, rfl, SqL.of el', fun o ho => ⟨(by show 1 ≤ sizeLine; decide), fun o2 ho2 => ?_⟩⟩
      have so : Same H' (upd (upd H' o (.lst xs.reverse)) o2 (.lst [.ref o])) := (same_upd ho).trans (same_upd ho2)
      refine kk _ o2 ((s02.trans s').trans so) ?_ fun ts' z => by rw [hn] at z; cases z; omega
      rw [hn]
      refine ⟨o, xs.reverse, upd_same, ?_, ?_⟩
      · have : o ≠ o2 := fun z => by rw [z, upd_same] at ho2; cases ho2
        rw [upd_ne this]
        exact upd_same
      · rw [← hM']
        exact (hT.rev).same so
/-! ### fewest(value, make) -/
def sp_fewest (K : PySem.W.Frag) : Sp := fun vs H Q _ => ∃ (b : Addr) (v : Nat) (l : List Nat), vs = [vn v, .ref b] ∧ SqL K H b (nums l) ∧ l.length ≤ 700 ∧ ∀ (H' : Hp) (p : Addr), H' p = some (.lst ((Bm.ansFewest v l).map V.int)) → Q (.ref p) H'
theorem sc_fewest : FnScope ["value", "make", "rods", "fault"] ["value", "make"] (defScope s_fewest) := ⟨rfl, rfl, rfl, by decide +kernel, rfl, by decide +kernel, by decide +kernel⟩
theorem ok_fewest {CR CF f : Addr} {fd : FuncData} (F : Fun K "fewest" "fewest" s_fewest f fd) (R : Refuse P w K mg base CF) (GR : Fn P w K mg base (L2.CX P w) 5 "rods_of" ["make"] (sp_rods_of K CR CF)) (GN : Fn P w K mg base CX0 7 "sparest" ["rods", "value"] (sp_sparest CR)) (GT : Fn P w K mg base CX0 1 "told_standings" ["some"] sp_told_standings) : FnOk P w K mg base CX0 8 f fd ["value", "make"] (sp_fewest K) := by
  refine F.ok sc_fewest (fun vs H Q E h => ?_) (fun cdv A outer s H vs Q E hr h => ?_)
  · obtain ⟨b, v, l, rfl, _⟩ := h
    rfl
  have hr1 : Room 1 (A.deeper (envOfC "fewest" (defScope s_fewest) s.heap.objs.size f cdv)) := hr.mono (by decide)
  have hr5 : Room 5 (A.deeper (envOfC "fewest" (defScope s_fewest) s.heap.objs.size f cdv)) := hr.mono (by decide)
  refine ⟨_, pss_cons (ps_try_as (i := 3) (tb := fun W => tAsg (tCallS (sp_rods_of K CR CF) (WE W) (tCons (tVar 1) tNil)) (gName 2)) (ts := fun a cls d => tRet (tCallP (sp_refused CF) a cls d (tCons (tVar 3) tNil))) (Wout := fun _ _ _ _ => False) rfl rfl sc_fewest.nd rfl rfl ⟨rfl, by decide, Or.inl R.gF⟩ takes0
        (fun W pn xe tk _ => pss_one (ps_set (i := 2) sc_fewest.nd rfl (Or.inl rfl) (by exact (pe_fnS GR hr5 rfl (fun σ => passAt tk σ) (by exact (pa_cons (pv 1) pa_nil))))))
        (fun a oe cls d pn hz hf => pss_one (ps_ret (pe_refused R hr1 hz hf rfl (by exact (pa_cons (pv 3) pa_nil))))))
      (pss_one (ps_ret (pe_fn GT hr1 rfl (by exact (pa_cons (pe_fn GN hr rfl (by exact (pa_cons (pv 2) (pa_cons (pv 0) pa_nil)))) pa_nil))))), ?_⟩
  obtain ⟨b, v, l, rfl, hS, hlen, kk⟩ := h
  refine ⟨_, rfl, b, l, rfl, hS, hlen, fun e he H' d sd hd => ?_, fun rs he H' p sp np hp => ?_⟩
  · refine fault_end R.cf (Same.refl H') hd (fun _ => rfl) fun H2 p _ e2 => kk H2 p ?_
    unfold Bm.ansFewest Bm.ansM
    rw [he]
    exact e2
  · obtain ⟨hg, l1, l2⟩ := Bm.read_good he
    refine ⟨_, rfl, _, rfl, p, rs, v, rfl, hp, hg, l2, fun H2 q s2 h1 hl => ⟨q, _, rfl, h1, hl, fun H3 o s3 e3 => kk H3 o ?_⟩⟩
    unfold Bm.ansFewest Bm.ansM
    rw [he]
    exact e3
end
end Bw

namespace Bw
open PySem PySem.Spec PyProof.Rows L2 Bd0
theorem exm_self {K : PySem.W.Frag} {S : Addr} (h1 : PySem.W.subIn K (.ref S) (.type "BaseException") = some true) (h2 : PySem.W.isClsIn K S = true) (h3 : PySem.W.typeIn K (.ref S) = some (.type "type")) (h4 : PySem.W.subIn K (.ref S) (.ref S) = some true) :
    PySem.W.exmOne K (.ref S) (.ref S) = some true := by
  have e1 : (PySem.W.subIn K (.ref S) (.type "BaseException") == some true) = true := by rw [h1] <;> rfl
  have e2 : ((PySem.W.clsIn K S).isSome && PySem.W.typeIn K (.ref S) == some (.type "type")) = true := by
    have h2' : (PySem.W.clsIn K S).isSome = true := h2
    rw [h2', h3] <;> rfl
  show (if (PySem.W.subIn K (.ref S) (.type "BaseException") == some true) = true then (if ((PySem.W.clsIn K S).isSome && PySem.W.typeIn K (.ref S) == some (.type "type")) = true then PySem.W.subIn K (.ref S) (.ref S) else none) else none) = some true
  rw [if_pos e1, if_pos e2]
  exact h4
theorem all_mk {P : Program} {w : World} {K : PySem.W.Frag} {h : Heap} {mg : Str → Option Value} {fa : Addr} (X : K.In h) (G : h.Ns mainGlobals mg) (hfa : mg "fewest" = some (.ref fa))
    {t_MOST_RODS : Tok}
    {t_NUMBERS : Tok}
    {t_LEAST_RATIO : Tok}
    {t_MOST_RATIO : Tok}
    {t_MOST_BEADS : Tok}
    {t_MOST_WORTH : Tok}
    {t_MOST_COUNT : Tok}
    {t_SHAPE : Tok}
    {t_DECK : Tok}
    {t_HEAVY : Tok}
    {t_GAP : Tok}
    {t_NEVER : Tok}
    {t_NONE_SUCH : Tok}
    {t_FAULTY : Tok}
    {CP : Addr}
    {CR : Addr}
    {CT : Addr}
    {CF : Addr} {nm q : Str} {NN : Addr} {bs : List Value} {sn : List Str} {sub : List Value} {ab : Bool} {col : Option Bool} {dd : Option Addr} {m0 m1 m2 m3 m5 : Option Value}
    {f_Fault_init : Addr} {od_Fault_init an_Fault_init : Option Addr} {sl_Fault_init : Array (Option Value)} {oc_Fault_init kV_Fault_init dc_Fault_init pm_Fault_init cd_Fault_init ct_Fault_init : Value}
    {f_Push_init : Addr} {od_Push_init an_Push_init : Option Addr} {sl_Push_init : Array (Option Value)} {oc_Push_init kV_Push_init dc_Push_init pm_Push_init cd_Push_init ct_Push_init : Value}
    {f_Rod_init : Addr} {od_Rod_init an_Rod_init : Option Addr} {sl_Rod_init : Array (Option Value)} {oc_Rod_init kV_Rod_init dc_Rod_init pm_Rod_init cd_Rod_init ct_Rod_init : Value}
    {f_Rod_count_of : Addr} {od_Rod_count_of an_Rod_count_of : Option Addr} {sl_Rod_count_of : Array (Option Value)} {oc_Rod_count_of kV_Rod_count_of dc_Rod_count_of pm_Rod_count_of cd_Rod_count_of ct_Rod_count_of : Value}
    {f_Rod_has_fair_decks : Addr} {od_Rod_has_fair_decks an_Rod_has_fair_decks : Option Addr} {sl_Rod_has_fair_decks : Array (Option Value)} {oc_Rod_has_fair_decks kV_Rod_has_fair_decks dc_Rod_has_fair_decks pm_Rod_has_fair_decks cd_Rod_has_fair_decks ct_Rod_has_fair_decks : Value}
    {f_Rod_pushes : Addr} {od_Rod_pushes an_Rod_pushes : Option Addr} {sl_Rod_pushes : Array (Option Value)} {oc_Rod_pushes kV_Rod_pushes dc_Rod_pushes pm_Rod_pushes cd_Rod_pushes ct_Rod_pushes : Value}
    {f_Rod_fault : Addr} {od_Rod_fault an_Rod_fault : Option Addr} {sl_Rod_fault : Array (Option Value)} {oc_Rod_fault kV_Rod_fault dc_Rod_fault pm_Rod_fault cd_Rod_fault ct_Rod_fault : Value}
    {f_rods_of : Addr} {od_rods_of an_rods_of : Option Addr} {sl_rods_of : Array (Option Value)} {oc_rods_of kV_rods_of dc_rods_of pm_rods_of cd_rods_of ct_rods_of : Value}
    {f_digits_of : Addr} {od_digits_of an_digits_of : Option Addr} {sl_digits_of : Array (Option Value)} {oc_digits_of kV_digits_of dc_digits_of pm_digits_of cd_digits_of ct_digits_of : Value}
    {f_load_below : Addr} {od_load_below an_load_below : Option Addr} {sl_load_below : Array (Option Value)} {oc_load_below kV_load_below dc_load_below pm_load_below cd_load_below ct_load_below : Value}
    {f_at_load : Addr} {od_at_load an_at_load : Option Addr} {sl_at_load : Array (Option Value)} {oc_at_load kV_at_load dc_at_load pm_at_load cd_at_load ct_at_load : Value}
    {f_loads_of : Addr} {od_loads_of an_loads_of : Option Addr} {sl_loads_of : Array (Option Value)} {oc_loads_of kV_loads_of dc_loads_of pm_loads_of cd_loads_of ct_loads_of : Value}
    {f_way_row : Addr} {od_way_row an_way_row : Option Addr} {sl_way_row : Array (Option Value)} {oc_way_row kV_way_row dc_way_row pm_way_row cd_way_row ct_way_row : Value}
    {f_few_row : Addr} {od_few_row an_few_row : Option Addr} {sl_few_row : Array (Option Value)} {oc_few_row kV_few_row dc_few_row pm_few_row cd_few_row ct_few_row : Value}
    {f_ways_above : Addr} {od_ways_above an_ways_above : Option Addr} {sl_ways_above : Array (Option Value)} {oc_ways_above kV_ways_above dc_ways_above pm_ways_above cd_ways_above ct_ways_above : Value}
    {f_fewest_above : Addr} {od_fewest_above an_fewest_above : Option Addr} {sl_fewest_above : Array (Option Value)} {oc_fewest_above kV_fewest_above dc_fewest_above pm_fewest_above cd_fewest_above ct_fewest_above : Value}
    {f_Tables_init : Addr} {od_Tables_init an_Tables_init : Option Addr} {sl_Tables_init : Array (Option Value)} {oc_Tables_init kV_Tables_init dc_Tables_init pm_Tables_init cd_Tables_init ct_Tables_init : Value}
    {f_Tables_ways : Addr} {od_Tables_ways an_Tables_ways : Option Addr} {sl_Tables_ways : Array (Option Value)} {oc_Tables_ways kV_Tables_ways dc_Tables_ways pm_Tables_ways cd_Tables_ways ct_Tables_ways : Value}
    {f_Tables_fewest : Addr} {od_Tables_fewest an_Tables_fewest : Option Addr} {sl_Tables_fewest : Array (Option Value)} {oc_Tables_fewest kV_Tables_fewest dc_Tables_fewest pm_Tables_fewest cd_Tables_fewest ct_Tables_fewest : Value}
    {f_Tables_below : Addr} {od_Tables_below an_Tables_below : Option Addr} {sl_Tables_below : Array (Option Value)} {oc_Tables_below kV_Tables_below dc_Tables_below pm_Tables_below cd_Tables_below ct_Tables_below : Value}
    {f_sparest : Addr} {od_sparest an_sparest : Option Addr} {sl_sparest : Array (Option Value)} {oc_sparest kV_sparest dc_sparest pm_sparest cd_sparest ct_sparest : Value}
    {f_push_sparest : Addr} {od_push_sparest an_push_sparest : Option Addr} {sl_push_sparest : Array (Option Value)} {oc_push_sparest kV_push_sparest dc_push_sparest pm_push_sparest cd_push_sparest ct_push_sparest : Value}
    {f_refused : Addr} {od_refused an_refused : Option Addr} {sl_refused : Array (Option Value)} {oc_refused kV_refused dc_refused pm_refused cd_refused ct_refused : Value}
    {f_told_standings : Addr} {od_told_standings an_told_standings : Option Addr} {sl_told_standings : Array (Option Value)} {oc_told_standings kV_told_standings dc_told_standings pm_told_standings cd_told_standings ct_told_standings : Value}
    {f_fewest : Addr} {od_fewest an_fewest : Option Addr} {sl_fewest : Array (Option Value)} {oc_fewest kV_fewest dc_fewest pm_fewest cd_fewest ct_fewest : Value}
    (nb_sum : PySem.W.nsIn K mainGlobals "sum" = some none)
    (nb_zip : PySem.W.nsIn K mainGlobals "zip" = some none)
    (nb_max : PySem.W.nsIn K mainGlobals "max" = some none)
    (nb_min : PySem.W.nsIn K mainGlobals "min" = some none)
    (nb_all : PySem.W.nsIn K mainGlobals "all" = some none)
    (nb_range : PySem.W.nsIn K mainGlobals "range" = some none)
    (nb_len : PySem.W.nsIn K mainGlobals "len" = some none)
    (nb_int : PySem.W.nsIn K mainGlobals "int" = some none)
    (nb_list : PySem.W.nsIn K mainGlobals "list" = some none)
    (nb_tuple : PySem.W.nsIn K mainGlobals "tuple" = some none)
    (nb_reversed : PySem.W.nsIn K mainGlobals "reversed" = some none)
    (cs_MOST_RODS : PySem.W.nsIn K mainGlobals "MOST_RODS" = some (some (.int 64 t_MOST_RODS)))
    (cs_NUMBERS : PySem.W.nsIn K mainGlobals "NUMBERS" = some (some (.int 7 t_NUMBERS)))
    (cs_LEAST_RATIO : PySem.W.nsIn K mainGlobals "LEAST_RATIO" = some (some (.int 2 t_LEAST_RATIO)))
    (cs_MOST_RATIO : PySem.W.nsIn K mainGlobals "MOST_RATIO" = some (some (.int 20 t_MOST_RATIO)))
    (cs_MOST_BEADS : PySem.W.nsIn K mainGlobals "MOST_BEADS" = some (some (.int 15 t_MOST_BEADS)))
    (cs_MOST_WORTH : PySem.W.nsIn K mainGlobals "MOST_WORTH" = some (some (.int 63 t_MOST_WORTH)))
    (cs_MOST_COUNT : PySem.W.nsIn K mainGlobals "MOST_COUNT" = some (some (.int 255 t_MOST_COUNT)))
    (cs_SHAPE : PySem.W.nsIn K mainGlobals "SHAPE" = some (some (.int 1 t_SHAPE)))
    (cs_DECK : PySem.W.nsIn K mainGlobals "DECK" = some (some (.int 2 t_DECK)))
    (cs_HEAVY : PySem.W.nsIn K mainGlobals "HEAVY" = some (some (.int 3 t_HEAVY)))
    (cs_GAP : PySem.W.nsIn K mainGlobals "GAP" = some (some (.int 4 t_GAP)))
    (cs_NEVER : PySem.W.nsIn K mainGlobals "NEVER" = some (some (.int (-1) t_NEVER)))
    (cs_NONE_SUCH : PySem.W.nsIn K mainGlobals "NONE_SUCH" = some (some (.int (-2) t_NONE_SUCH)))
    (cs_FAULTY : PySem.W.nsIn K mainGlobals "FAULTY" = some (some (.int (-5) t_FAULTY)))
    (ns_Push : PySem.W.nsIn K mainGlobals "Push" = some (some (.ref CP)))
    (pg_Push : PySem.W.plainGet K CP Str.empty = true)
    (hd_Push : PySem.W.hasDictIn K CP = true)
    (po_Push : PySem.W.plainOver K CP = true)
    (sa_Push : PySem.W.findIn K (.ref CP) "__setattr__" = some (some (.builtin "object.__setattr__")))
    (mk_Push : PySem.W.makesIn K CP = true)
    (kc_Push : PySem.W.keepIn K (.ref CP) = true)
    (na_Push_beads : PySem.W.findIn K (.ref CP) "beads" = some none)
    (na_Push_count : PySem.W.findIn K (.ref CP) "count" = some none)
    (na_Push_many : PySem.W.findIn K (.ref CP) "many" = some none)
    (ns_Rod : PySem.W.nsIn K mainGlobals "Rod" = some (some (.ref CR)))
    (pg_Rod : PySem.W.plainGet K CR Str.empty = true)
    (hd_Rod : PySem.W.hasDictIn K CR = true)
    (po_Rod : PySem.W.plainOver K CR = true)
    (sa_Rod : PySem.W.findIn K (.ref CR) "__setattr__" = some (some (.builtin "object.__setattr__")))
    (mk_Rod : PySem.W.makesIn K CR = true)
    (kc_Rod : PySem.W.keepIn K (.ref CR) = true)
    (na_Rod_ratio : PySem.W.findIn K (.ref CR) "ratio" = some none)
    (na_Rod_beads : PySem.W.findIn K (.ref CR) "beads" = some none)
    (na_Rod_worths : PySem.W.findIn K (.ref CR) "worths" = some none)
    (ns_Tables : PySem.W.nsIn K mainGlobals "Tables" = some (some (.ref CT)))
    (pg_Tables : PySem.W.plainGet K CT Str.empty = true)
    (hd_Tables : PySem.W.hasDictIn K CT = true)
    (po_Tables : PySem.W.plainOver K CT = true)
    (sa_Tables : PySem.W.findIn K (.ref CT) "__setattr__" = some (some (.builtin "object.__setattr__")))
    (mk_Tables : PySem.W.makesIn K CT = true)
    (kc_Tables : PySem.W.keepIn K (.ref CT) = true)
    (na_Tables_rods : PySem.W.findIn K (.ref CT) "rods" = some none)
    (na_Tables_digits : PySem.W.findIn K (.ref CT) "digits" = some none)
    (na_Tables_load : PySem.W.findIn K (.ref CT) "load" = some none)
    (ns_Fault : PySem.W.nsIn K mainGlobals "Fault" = some (some (.ref CF)))
    (xL : K.lookup CF = some (excClassObj nm q CF NN bs [.type "ValueError", .type "Exception", .type "BaseException", .type "object"] true sn sub ab col dd m0 m1 m2 m3 m5 "ValueError.__new__"))
    (sa_Fault : PySem.W.findIn K (.ref CF) "__setattr__" = some (some (.builtin "object.__setattr__")))
    (ga : PySem.W.findIn K (.ref CF) "__getattribute__" = some (some (.builtin "BaseException.__getattribute__")))
    (gg : PySem.W.findIn K (.ref CF) "__getattr__" = some none)
    (na_rule : PySem.W.findIn K (.ref CF) "rule" = some none)
    (na_place : PySem.W.findIn K (.ref CF) "place" = some none)
    (kC : PySem.W.keepIn K (.ref CF) = true)
    (eC : PySem.W.subIn K (.ref CF) (.type "BaseException") = some true)
    (tC : PySem.W.typeIn K (.ref CF) = some (.type "type"))
    (hC : PySem.W.hasDictIn K CF = true)
    (iC : PySem.W.isClsIn K CF = true)
    (sC : PySem.W.subIn K (.ref CF) (.ref CF) = some true)
    (fi_Fault_init : PySem.W.findIn K (.ref CF) "__init__" = some (some (.ref f_Fault_init)))
    (ty_Fault_init : PySem.W.typeIn K (.ref f_Fault_init) = some (.type "function"))
    (l_Fault_init : K.lookup f_Fault_init = some ⟨oc_Fault_init, od_Fault_init, .func (PySem.W.fnOf "__init__" "Fault.__init__" (defArgs s_Fault_init) (defBody s_Fault_init) (defScope s_Fault_init) .none kV_Fault_init dc_Fault_init pm_Fault_init an_Fault_init cd_Fault_init ct_Fault_init), sl_Fault_init⟩)
    (c_Fault_init : PySem.W.codeIn K cd_Fault_init "Fault.__init__" = true)
    (k_Fault_init : PySem.W.keepIn K (.ref f_Fault_init) = true)
    (fi_Push_init : PySem.W.findIn K (.ref CP) "__init__" = some (some (.ref f_Push_init)))
    (is_Push_init : PySem.W.isFn K (.ref f_Push_init) = true)
    (l_Push_init : K.lookup f_Push_init = some ⟨oc_Push_init, od_Push_init, .func (PySem.W.fnOf "__init__" "Push.__init__" (defArgs s_Push_init) (defBody s_Push_init) (defScope s_Push_init) .none kV_Push_init dc_Push_init pm_Push_init an_Push_init cd_Push_init ct_Push_init), sl_Push_init⟩)
    (c_Push_init : PySem.W.codeIn K cd_Push_init "Push.__init__" = true)
    (k_Push_init : PySem.W.keepIn K (.ref f_Push_init) = true)
    (fi_Rod_init : PySem.W.findIn K (.ref CR) "__init__" = some (some (.ref f_Rod_init)))
    (is_Rod_init : PySem.W.isFn K (.ref f_Rod_init) = true)
    (l_Rod_init : K.lookup f_Rod_init = some ⟨oc_Rod_init, od_Rod_init, .func (PySem.W.fnOf "__init__" "Rod.__init__" (defArgs s_Rod_init) (defBody s_Rod_init) (defScope s_Rod_init) .none kV_Rod_init dc_Rod_init pm_Rod_init an_Rod_init cd_Rod_init ct_Rod_init), sl_Rod_init⟩)
    (c_Rod_init : PySem.W.codeIn K cd_Rod_init "Rod.__init__" = true)
    (k_Rod_init : PySem.W.keepIn K (.ref f_Rod_init) = true)
    (fi_Rod_count_of : PySem.W.findIn K (.ref CR) "count_of" = some (some (.ref f_Rod_count_of)))
    (is_Rod_count_of : PySem.W.isFn K (.ref f_Rod_count_of) = true)
    (l_Rod_count_of : K.lookup f_Rod_count_of = some ⟨oc_Rod_count_of, od_Rod_count_of, .func (PySem.W.fnOf "count_of" "Rod.count_of" (defArgs s_Rod_count_of) (defBody s_Rod_count_of) (defScope s_Rod_count_of) .none kV_Rod_count_of dc_Rod_count_of pm_Rod_count_of an_Rod_count_of cd_Rod_count_of ct_Rod_count_of), sl_Rod_count_of⟩)
    (c_Rod_count_of : PySem.W.codeIn K cd_Rod_count_of "Rod.count_of" = true)
    (k_Rod_count_of : PySem.W.keepIn K (.ref f_Rod_count_of) = true)
    (fi_Rod_has_fair_decks : PySem.W.findIn K (.ref CR) "has_fair_decks" = some (some (.ref f_Rod_has_fair_decks)))
    (is_Rod_has_fair_decks : PySem.W.isFn K (.ref f_Rod_has_fair_decks) = true)
    (l_Rod_has_fair_decks : K.lookup f_Rod_has_fair_decks = some ⟨oc_Rod_has_fair_decks, od_Rod_has_fair_decks, .func (PySem.W.fnOf "has_fair_decks" "Rod.has_fair_decks" (defArgs s_Rod_has_fair_decks) (defBody s_Rod_has_fair_decks) (defScope s_Rod_has_fair_decks) .none kV_Rod_has_fair_decks dc_Rod_has_fair_decks pm_Rod_has_fair_decks an_Rod_has_fair_decks cd_Rod_has_fair_decks ct_Rod_has_fair_decks), sl_Rod_has_fair_decks⟩)
    (c_Rod_has_fair_decks : PySem.W.codeIn K cd_Rod_has_fair_decks "Rod.has_fair_decks" = true)
    (k_Rod_has_fair_decks : PySem.W.keepIn K (.ref f_Rod_has_fair_decks) = true)
    (fi_Rod_pushes : PySem.W.findIn K (.ref CR) "pushes" = some (some (.ref f_Rod_pushes)))
    (is_Rod_pushes : PySem.W.isFn K (.ref f_Rod_pushes) = true)
    (l_Rod_pushes : K.lookup f_Rod_pushes = some ⟨oc_Rod_pushes, od_Rod_pushes, .func (PySem.W.fnOf "pushes" "Rod.pushes" (defArgs s_Rod_pushes) (defBody s_Rod_pushes) (defScope s_Rod_pushes) .none kV_Rod_pushes dc_Rod_pushes pm_Rod_pushes an_Rod_pushes cd_Rod_pushes ct_Rod_pushes), sl_Rod_pushes⟩)
    (c_Rod_pushes : PySem.W.codeIn K cd_Rod_pushes "Rod.pushes" = true)
    (k_Rod_pushes : PySem.W.keepIn K (.ref f_Rod_pushes) = true)
    (fi_Rod_fault : PySem.W.findIn K (.ref CR) "fault" = some (some (.ref f_Rod_fault)))
    (is_Rod_fault : PySem.W.isFn K (.ref f_Rod_fault) = true)
    (l_Rod_fault : K.lookup f_Rod_fault = some ⟨oc_Rod_fault, od_Rod_fault, .func (PySem.W.fnOf "fault" "Rod.fault" (defArgs s_Rod_fault) (defBody s_Rod_fault) (defScope s_Rod_fault) .none kV_Rod_fault dc_Rod_fault pm_Rod_fault an_Rod_fault cd_Rod_fault ct_Rod_fault), sl_Rod_fault⟩)
    (c_Rod_fault : PySem.W.codeIn K cd_Rod_fault "Rod.fault" = true)
    (k_Rod_fault : PySem.W.keepIn K (.ref f_Rod_fault) = true)
    (ns_rods_of : PySem.W.nsIn K mainGlobals "rods_of" = some (some (.ref f_rods_of)))
    (l_rods_of : K.lookup f_rods_of = some ⟨oc_rods_of, od_rods_of, .func (PySem.W.fnOf "rods_of" "rods_of" (defArgs s_rods_of) (defBody s_rods_of) (defScope s_rods_of) .none kV_rods_of dc_rods_of pm_rods_of an_rods_of cd_rods_of ct_rods_of), sl_rods_of⟩)
    (c_rods_of : PySem.W.codeIn K cd_rods_of "rods_of" = true)
    (k_rods_of : PySem.W.keepIn K (.ref f_rods_of) = true)
    (ns_digits_of : PySem.W.nsIn K mainGlobals "digits_of" = some (some (.ref f_digits_of)))
    (l_digits_of : K.lookup f_digits_of = some ⟨oc_digits_of, od_digits_of, .func (PySem.W.fnOf "digits_of" "digits_of" (defArgs s_digits_of) (defBody s_digits_of) (defScope s_digits_of) .none kV_digits_of dc_digits_of pm_digits_of an_digits_of cd_digits_of ct_digits_of), sl_digits_of⟩)
    (c_digits_of : PySem.W.codeIn K cd_digits_of "digits_of" = true)
    (k_digits_of : PySem.W.keepIn K (.ref f_digits_of) = true)
    (ns_load_below : PySem.W.nsIn K mainGlobals "load_below" = some (some (.ref f_load_below)))
    (l_load_below : K.lookup f_load_below = some ⟨oc_load_below, od_load_below, .func (PySem.W.fnOf "load_below" "load_below" (defArgs s_load_below) (defBody s_load_below) (defScope s_load_below) .none kV_load_below dc_load_below pm_load_below an_load_below cd_load_below ct_load_below), sl_load_below⟩)
    (c_load_below : PySem.W.codeIn K cd_load_below "load_below" = true)
    (k_load_below : PySem.W.keepIn K (.ref f_load_below) = true)
    (ns_at_load : PySem.W.nsIn K mainGlobals "at_load" = some (some (.ref f_at_load)))
    (l_at_load : K.lookup f_at_load = some ⟨oc_at_load, od_at_load, .func (PySem.W.fnOf "at_load" "at_load" (defArgs s_at_load) (defBody s_at_load) (defScope s_at_load) .none kV_at_load dc_at_load pm_at_load an_at_load cd_at_load ct_at_load), sl_at_load⟩)
    (c_at_load : PySem.W.codeIn K cd_at_load "at_load" = true)
    (k_at_load : PySem.W.keepIn K (.ref f_at_load) = true)
    (ns_loads_of : PySem.W.nsIn K mainGlobals "loads_of" = some (some (.ref f_loads_of)))
    (l_loads_of : K.lookup f_loads_of = some ⟨oc_loads_of, od_loads_of, .func (PySem.W.fnOf "loads_of" "loads_of" (defArgs s_loads_of) (defBody s_loads_of) (defScope s_loads_of) .none kV_loads_of dc_loads_of pm_loads_of an_loads_of cd_loads_of ct_loads_of), sl_loads_of⟩)
    (c_loads_of : PySem.W.codeIn K cd_loads_of "loads_of" = true)
    (k_loads_of : PySem.W.keepIn K (.ref f_loads_of) = true)
    (ns_way_row : PySem.W.nsIn K mainGlobals "way_row" = some (some (.ref f_way_row)))
    (l_way_row : K.lookup f_way_row = some ⟨oc_way_row, od_way_row, .func (PySem.W.fnOf "way_row" "way_row" (defArgs s_way_row) (defBody s_way_row) (defScope s_way_row) .none kV_way_row dc_way_row pm_way_row an_way_row cd_way_row ct_way_row), sl_way_row⟩)
    (c_way_row : PySem.W.codeIn K cd_way_row "way_row" = true)
    (k_way_row : PySem.W.keepIn K (.ref f_way_row) = true)
    (ns_few_row : PySem.W.nsIn K mainGlobals "few_row" = some (some (.ref f_few_row)))
    (l_few_row : K.lookup f_few_row = some ⟨oc_few_row, od_few_row, .func (PySem.W.fnOf "few_row" "few_row" (defArgs s_few_row) (defBody s_few_row) (defScope s_few_row) .none kV_few_row dc_few_row pm_few_row an_few_row cd_few_row ct_few_row), sl_few_row⟩)
    (c_few_row : PySem.W.codeIn K cd_few_row "few_row" = true)
    (k_few_row : PySem.W.keepIn K (.ref f_few_row) = true)
    (ns_ways_above : PySem.W.nsIn K mainGlobals "ways_above" = some (some (.ref f_ways_above)))
    (l_ways_above : K.lookup f_ways_above = some ⟨oc_ways_above, od_ways_above, .func (PySem.W.fnOf "ways_above" "ways_above" (defArgs s_ways_above) (defBody s_ways_above) (defScope s_ways_above) .none kV_ways_above dc_ways_above pm_ways_above an_ways_above cd_ways_above ct_ways_above), sl_ways_above⟩)
    (c_ways_above : PySem.W.codeIn K cd_ways_above "ways_above" = true)
    (k_ways_above : PySem.W.keepIn K (.ref f_ways_above) = true)
    (ns_fewest_above : PySem.W.nsIn K mainGlobals "fewest_above" = some (some (.ref f_fewest_above)))
    (l_fewest_above : K.lookup f_fewest_above = some ⟨oc_fewest_above, od_fewest_above, .func (PySem.W.fnOf "fewest_above" "fewest_above" (defArgs s_fewest_above) (defBody s_fewest_above) (defScope s_fewest_above) .none kV_fewest_above dc_fewest_above pm_fewest_above an_fewest_above cd_fewest_above ct_fewest_above), sl_fewest_above⟩)
    (c_fewest_above : PySem.W.codeIn K cd_fewest_above "fewest_above" = true)
    (k_fewest_above : PySem.W.keepIn K (.ref f_fewest_above) = true)
    (fi_Tables_init : PySem.W.findIn K (.ref CT) "__init__" = some (some (.ref f_Tables_init)))
    (is_Tables_init : PySem.W.isFn K (.ref f_Tables_init) = true)
    (l_Tables_init : K.lookup f_Tables_init = some ⟨oc_Tables_init, od_Tables_init, .func (PySem.W.fnOf "__init__" "Tables.__init__" (defArgs s_Tables_init) (defBody s_Tables_init) (defScope s_Tables_init) .none kV_Tables_init dc_Tables_init pm_Tables_init an_Tables_init cd_Tables_init ct_Tables_init), sl_Tables_init⟩)
    (c_Tables_init : PySem.W.codeIn K cd_Tables_init "Tables.__init__" = true)
    (k_Tables_init : PySem.W.keepIn K (.ref f_Tables_init) = true)
    (fi_Tables_ways : PySem.W.findIn K (.ref CT) "ways" = some (some (.ref f_Tables_ways)))
    (is_Tables_ways : PySem.W.isFn K (.ref f_Tables_ways) = true)
    (l_Tables_ways : K.lookup f_Tables_ways = some ⟨oc_Tables_ways, od_Tables_ways, .func (PySem.W.fnOf "ways" "Tables.ways" (defArgs s_Tables_ways) (defBody s_Tables_ways) (defScope s_Tables_ways) .none kV_Tables_ways dc_Tables_ways pm_Tables_ways an_Tables_ways cd_Tables_ways ct_Tables_ways), sl_Tables_ways⟩)
    (c_Tables_ways : PySem.W.codeIn K cd_Tables_ways "Tables.ways" = true)
    (k_Tables_ways : PySem.W.keepIn K (.ref f_Tables_ways) = true)
    (fi_Tables_fewest : PySem.W.findIn K (.ref CT) "fewest" = some (some (.ref f_Tables_fewest)))
    (is_Tables_fewest : PySem.W.isFn K (.ref f_Tables_fewest) = true)
    (l_Tables_fewest : K.lookup f_Tables_fewest = some ⟨oc_Tables_fewest, od_Tables_fewest, .func (PySem.W.fnOf "fewest" "Tables.fewest" (defArgs s_Tables_fewest) (defBody s_Tables_fewest) (defScope s_Tables_fewest) .none kV_Tables_fewest dc_Tables_fewest pm_Tables_fewest an_Tables_fewest cd_Tables_fewest ct_Tables_fewest), sl_Tables_fewest⟩)
    (c_Tables_fewest : PySem.W.codeIn K cd_Tables_fewest "Tables.fewest" = true)
    (k_Tables_fewest : PySem.W.keepIn K (.ref f_Tables_fewest) = true)
    (fi_Tables_below : PySem.W.findIn K (.ref CT) "below" = some (some (.ref f_Tables_below)))
    (is_Tables_below : PySem.W.isFn K (.ref f_Tables_below) = true)
    (l_Tables_below : K.lookup f_Tables_below = some ⟨oc_Tables_below, od_Tables_below, .func (PySem.W.fnOf "below" "Tables.below" (defArgs s_Tables_below) (defBody s_Tables_below) (defScope s_Tables_below) .none kV_Tables_below dc_Tables_below pm_Tables_below an_Tables_below cd_Tables_below ct_Tables_below), sl_Tables_below⟩)
    (c_Tables_below : PySem.W.codeIn K cd_Tables_below "Tables.below" = true)
    (k_Tables_below : PySem.W.keepIn K (.ref f_Tables_below) = true)
    (ns_sparest : PySem.W.nsIn K mainGlobals "sparest" = some (some (.ref f_sparest)))
    (l_sparest : K.lookup f_sparest = some ⟨oc_sparest, od_sparest, .func (PySem.W.fnOf "sparest" "sparest" (defArgs s_sparest) (defBody s_sparest) (defScope s_sparest) .none kV_sparest dc_sparest pm_sparest an_sparest cd_sparest ct_sparest), sl_sparest⟩)
    (c_sparest : PySem.W.codeIn K cd_sparest "sparest" = true)
    (k_sparest : PySem.W.keepIn K (.ref f_sparest) = true)
    (ns_push_sparest : PySem.W.nsIn K mainGlobals "push_sparest" = some (some (.ref f_push_sparest)))
    (l_push_sparest : K.lookup f_push_sparest = some ⟨oc_push_sparest, od_push_sparest, .func (PySem.W.fnOf "push_sparest" "push_sparest" (defArgs s_push_sparest) (defBody s_push_sparest) (defScope s_push_sparest) .none kV_push_sparest dc_push_sparest pm_push_sparest an_push_sparest cd_push_sparest ct_push_sparest), sl_push_sparest⟩)
    (c_push_sparest : PySem.W.codeIn K cd_push_sparest "push_sparest" = true)
    (k_push_sparest : PySem.W.keepIn K (.ref f_push_sparest) = true)
    (ns_refused : PySem.W.nsIn K mainGlobals "refused" = some (some (.ref f_refused)))
    (l_refused : K.lookup f_refused = some ⟨oc_refused, od_refused, .func (PySem.W.fnOf "refused" "refused" (defArgs s_refused) (defBody s_refused) (defScope s_refused) .none kV_refused dc_refused pm_refused an_refused cd_refused ct_refused), sl_refused⟩)
    (c_refused : PySem.W.codeIn K cd_refused "refused" = true)
    (k_refused : PySem.W.keepIn K (.ref f_refused) = true)
    (ns_told_standings : PySem.W.nsIn K mainGlobals "told_standings" = some (some (.ref f_told_standings)))
    (l_told_standings : K.lookup f_told_standings = some ⟨oc_told_standings, od_told_standings, .func (PySem.W.fnOf "told_standings" "told_standings" (defArgs s_told_standings) (defBody s_told_standings) (defScope s_told_standings) .none kV_told_standings dc_told_standings pm_told_standings an_told_standings cd_told_standings ct_told_standings), sl_told_standings⟩)
    (c_told_standings : PySem.W.codeIn K cd_told_standings "told_standings" = true)
    (k_told_standings : PySem.W.keepIn K (.ref f_told_standings) = true)
    (ns_fewest : PySem.W.nsIn K mainGlobals "fewest" = some (some (.ref f_fewest)))
    (l_fewest : K.lookup f_fewest = some ⟨oc_fewest, od_fewest, .func (PySem.W.fnOf "fewest" "fewest" (defArgs s_fewest) (defBody s_fewest) (defScope s_fewest) .none kV_fewest dc_fewest pm_fewest an_fewest cd_fewest ct_fewest), sl_fewest⟩)
    (c_fewest : PySem.W.codeIn K cd_fewest "fewest" = true)
    (k_fewest : PySem.W.keepIn K (.ref f_fewest) = true)
    : ∃ fd : FuncData, (∀ (s : Shared) (us : List Value), us.length = (["value", "make"] : List Str).length → BindsTo s fd ⟨us, []⟩ ((["value", "make"] : List Str).zip us)) ∧ ∀ base : Heap, K.In base → base.Ns mainGlobals mg → FnOk P w K mg base CX0 8 fa fd ["value", "make"] (sp_fewest K) := by
  have e := hfa.symm.trans (PySem.W.mg_of X G ns_fewest)
  cases e
  have B : TB mg := ⟨PySem.W.mg_none_of X G nb_sum, PySem.W.mg_none_of X G nb_zip, PySem.W.mg_none_of X G nb_max, PySem.W.mg_none_of X G nb_min, PySem.W.mg_none_of X G nb_all, PySem.W.mg_none_of X G nb_range, PySem.W.mg_none_of X G nb_len, PySem.W.mg_none_of X G nb_int, PySem.W.mg_none_of X G nb_list, PySem.W.mg_none_of X G nb_tuple, PySem.W.mg_none_of X G nb_reversed⟩
  have M : CM mg := ⟨⟨_, PySem.W.mg_of X G cs_MOST_RODS⟩, ⟨_, PySem.W.mg_of X G cs_NUMBERS⟩, ⟨_, PySem.W.mg_of X G cs_LEAST_RATIO⟩, ⟨_, PySem.W.mg_of X G cs_MOST_RATIO⟩, ⟨_, PySem.W.mg_of X G cs_MOST_BEADS⟩, ⟨_, PySem.W.mg_of X G cs_MOST_WORTH⟩, ⟨_, PySem.W.mg_of X G cs_MOST_COUNT⟩, ⟨_, PySem.W.mg_of X G cs_SHAPE⟩, ⟨_, PySem.W.mg_of X G cs_DECK⟩, ⟨_, PySem.W.mg_of X G cs_HEAVY⟩, ⟨_, PySem.W.mg_of X G cs_GAP⟩⟩
  have c_MOST_RODS : Cst mg "MOST_RODS" 64 := ⟨_, PySem.W.mg_of X G cs_MOST_RODS⟩
  have c_NUMBERS : Cst mg "NUMBERS" 7 := ⟨_, PySem.W.mg_of X G cs_NUMBERS⟩
  have c_LEAST_RATIO : Cst mg "LEAST_RATIO" 2 := ⟨_, PySem.W.mg_of X G cs_LEAST_RATIO⟩
  have c_MOST_RATIO : Cst mg "MOST_RATIO" 20 := ⟨_, PySem.W.mg_of X G cs_MOST_RATIO⟩
  have c_MOST_BEADS : Cst mg "MOST_BEADS" 15 := ⟨_, PySem.W.mg_of X G cs_MOST_BEADS⟩
  have c_MOST_WORTH : Cst mg "MOST_WORTH" 63 := ⟨_, PySem.W.mg_of X G cs_MOST_WORTH⟩
  have c_MOST_COUNT : Cst mg "MOST_COUNT" 255 := ⟨_, PySem.W.mg_of X G cs_MOST_COUNT⟩
  have c_SHAPE : Cst mg "SHAPE" 1 := ⟨_, PySem.W.mg_of X G cs_SHAPE⟩
  have c_DECK : Cst mg "DECK" 2 := ⟨_, PySem.W.mg_of X G cs_DECK⟩
  have c_HEAVY : Cst mg "HEAVY" 3 := ⟨_, PySem.W.mg_of X G cs_HEAVY⟩
  have c_GAP : Cst mg "GAP" 4 := ⟨_, PySem.W.mg_of X G cs_GAP⟩
  have c_NEVER : Cst mg "NEVER" (-1) := ⟨_, PySem.W.mg_of X G cs_NEVER⟩
  have c_NONE_SUCH : Cst mg "NONE_SUCH" (-2) := ⟨_, PySem.W.mg_of X G cs_NONE_SUCH⟩
  have c_FAULTY : Cst mg "FAULTY" (-5) := ⟨_, PySem.W.mg_of X G cs_FAULTY⟩
  have TP : ClsP K CP := ⟨⟨pg_Push, hd_Push, po_Push, sa_Push⟩, na_Push_beads, na_Push_count, na_Push_many⟩
  have TR : ClsR K CR := ⟨⟨pg_Rod, hd_Rod, po_Rod, sa_Rod⟩, na_Rod_ratio, na_Rod_beads, na_Rod_worths⟩
  have TT : ClsT K CT := ⟨⟨pg_Tables, hd_Tables, po_Tables, sa_Tables⟩, na_Tables_rods, na_Tables_digits, na_Tables_load⟩
  have cf : ClsF K CF := ⟨⟨⟨nm, q, NN, bs, _, sn, sub, ab, col, dd, m0, m1, m2, m3, m5, xL, by decide +kernel⟩, sa_Fault, eC, tC, kC⟩, na_rule, na_place, ⟨ga, gg, eC, hC⟩, exm_self eC iC tC sC⟩
  have F_Fault_init := fun_mk (st := s_Fault_init) l_Fault_init c_Fault_init k_Fault_init
  have b_Fault_init := F_Fault_init.binds (ps := ["self", "rule", "place"]) fun _ _ _ _ _ _ us hl => match us, hl with | [_, _, _], _ => rfl
  have F_Push_init := fun_mk (st := s_Push_init) l_Push_init c_Push_init k_Push_init
  have b_Push_init := F_Push_init.binds (ps := ["self", "beads", "count"]) fun _ _ _ _ _ _ us hl => match us, hl with | [_, _, _], _ => rfl
  have F_Rod_init := fun_mk (st := s_Rod_init) l_Rod_init c_Rod_init k_Rod_init
  have b_Rod_init := F_Rod_init.binds (ps := ["self", "numbers"]) fun _ _ _ _ _ _ us hl => match us, hl with | [_, _], _ => rfl
  have F_Rod_count_of := fun_mk (st := s_Rod_count_of) l_Rod_count_of c_Rod_count_of k_Rod_count_of
  have b_Rod_count_of := F_Rod_count_of.binds (ps := ["self", "beads"]) fun _ _ _ _ _ _ us hl => match us, hl with | [_, _], _ => rfl
  have F_Rod_has_fair_decks := fun_mk (st := s_Rod_has_fair_decks) l_Rod_has_fair_decks c_Rod_has_fair_decks k_Rod_has_fair_decks
  have b_Rod_has_fair_decks := F_Rod_has_fair_decks.binds (ps := ["self"]) fun _ _ _ _ _ _ us hl => match us, hl with | [_], _ => rfl
  have F_Rod_pushes := fun_mk (st := s_Rod_pushes) l_Rod_pushes c_Rod_pushes k_Rod_pushes
  have b_Rod_pushes := F_Rod_pushes.binds (ps := ["self"]) fun _ _ _ _ _ _ us hl => match us, hl with | [_], _ => rfl
  have F_Rod_fault := fun_mk (st := s_Rod_fault) l_Rod_fault c_Rod_fault k_Rod_fault
  have b_Rod_fault := F_Rod_fault.binds (ps := ["self"]) fun _ _ _ _ _ _ us hl => match us, hl with | [_], _ => rfl
  have F_rods_of := fun_mk (st := s_rods_of) l_rods_of c_rods_of k_rods_of
  have b_rods_of := F_rods_of.binds (ps := ["make"]) fun _ _ _ _ _ _ us hl => match us, hl with | [_], _ => rfl
  have F_digits_of := fun_mk (st := s_digits_of) l_digits_of c_digits_of k_digits_of
  have b_digits_of := F_digits_of.binds (ps := ["rods", "value"]) fun _ _ _ _ _ _ us hl => match us, hl with | [_, _], _ => rfl
  have F_load_below := fun_mk (st := s_load_below) l_load_below c_load_below k_load_below
  have b_load_below := F_load_below.binds (ps := ["rod", "digit", "load", "count"]) fun _ _ _ _ _ _ us hl => match us, hl with | [_, _, _, _], _ => rfl
  have F_at_load := fun_mk (st := s_at_load) l_at_load c_at_load k_at_load
  have b_at_load := F_at_load.binds (ps := ["table", "load", "otherwise"]) fun _ _ _ _ _ _ us hl => match us, hl with | [_, _, _], _ => rfl
  have F_loads_of := fun_mk (st := s_loads_of) l_loads_of c_loads_of k_loads_of
  have b_loads_of := F_loads_of.binds (ps := ["rod", "table"]) fun _ _ _ _ _ _ us hl => match us, hl with | [_, _], _ => rfl
  have F_way_row := fun_mk (st := s_way_row) l_way_row c_way_row k_way_row
  have b_way_row := F_way_row.binds (ps := ["rod"]) fun _ _ _ _ _ _ us hl => match us, hl with | [_], _ => rfl
  have F_few_row := fun_mk (st := s_few_row) l_few_row c_few_row k_few_row
  have b_few_row := F_few_row.binds (ps := ["rod"]) fun _ _ _ _ _ _ us hl => match us, hl with | [_], _ => rfl
  have F_ways_above := fun_mk (st := s_ways_above) l_ways_above c_ways_above k_ways_above
  have b_ways_above := F_ways_above.binds (ps := ["rod", "digit", "table"]) fun _ _ _ _ _ _ us hl => match us, hl with | [_, _, _], _ => rfl
  have F_fewest_above := fun_mk (st := s_fewest_above) l_fewest_above c_fewest_above k_fewest_above
  have b_fewest_above := F_fewest_above.binds (ps := ["rod", "digit", "table"]) fun _ _ _ _ _ _ us hl => match us, hl with | [_, _, _], _ => rfl
  have F_Tables_init := fun_mk (st := s_Tables_init) l_Tables_init c_Tables_init k_Tables_init
  have b_Tables_init := F_Tables_init.binds (ps := ["self", "rods", "value"]) fun _ _ _ _ _ _ us hl => match us, hl with | [_, _, _], _ => rfl
  have F_Tables_ways := fun_mk (st := s_Tables_ways) l_Tables_ways c_Tables_ways k_Tables_ways
  have b_Tables_ways := F_Tables_ways.binds (ps := ["self"]) fun _ _ _ _ _ _ us hl => match us, hl with | [_], _ => rfl
  have F_Tables_fewest := fun_mk (st := s_Tables_fewest) l_Tables_fewest c_Tables_fewest k_Tables_fewest
  have b_Tables_fewest := F_Tables_fewest.binds (ps := ["self"]) fun _ _ _ _ _ _ us hl => match us, hl with | [_], _ => rfl
  have F_Tables_below := fun_mk (st := s_Tables_below) l_Tables_below c_Tables_below k_Tables_below
  have b_Tables_below := F_Tables_below.binds (ps := ["self", "place", "load", "push"]) fun _ _ _ _ _ _ us hl => match us, hl with | [_, _, _, _], _ => rfl
  have F_sparest := fun_mk (st := s_sparest) l_sparest c_sparest k_sparest
  have b_sparest := F_sparest.binds (ps := ["rods", "value"]) fun _ _ _ _ _ _ us hl => match us, hl with | [_, _], _ => rfl
  have F_push_sparest := fun_mk (st := s_push_sparest) l_push_sparest c_push_sparest k_push_sparest
  have b_push_sparest := F_push_sparest.binds (ps := ["tables", "fewest", "place", "load"]) fun _ _ _ _ _ _ us hl => match us, hl with | [_, _, _, _], _ => rfl
  have F_refused := fun_mk (st := s_refused) l_refused c_refused k_refused
  have b_refused := F_refused.binds (ps := ["fault"]) fun _ _ _ _ _ _ us hl => match us, hl with | [_], _ => rfl
  have F_told_standings := fun_mk (st := s_told_standings) l_told_standings c_told_standings k_told_standings
  have b_told_standings := F_told_standings.binds (ps := ["some"]) fun _ _ _ _ _ _ us hl => match us, hl with | [_], _ => rfl
  have F_fewest := fun_mk (st := s_fewest) l_fewest c_fewest k_fewest
  refine ⟨PySem.W.fnOf "fewest" "fewest" (defArgs s_fewest) (defBody s_fewest) (defScope s_fewest) .none kV_fewest dc_fewest pm_fewest an_fewest cd_fewest ct_fewest, fun s us hu => match us, hu with | [_, _], _ => .of_eq rfl, fun base _ _ => ?_⟩
  have G_Fault : FaultMk P w K mg base CF := ⟨cf, _, _, ok_Fault_init F_Fault_init cf, fi_Fault_init, ty_Fault_init, PySem.W.mg_of X G ns_Fault, b_Fault_init⟩
  have R : Refuse P w K mg base CF := ⟨cf, PySem.W.mg_of X G ns_Fault, _, _, ok_refused F_refused cf c_FAULTY, PySem.W.mg_of X G ns_refused, k_refused, b_refused⟩
  have G_Push_init : Mkr P w K mg base CP 1 "Push" ["self", "beads", "count"] (sp_Push_init CP) := ⟨_, _, ok_Push_init F_Push_init B TP, ⟨mk_Push, fi_Push_init, is_Push_init, kc_Push⟩, PySem.W.mg_of X G ns_Push, b_Push_init⟩
  have G_Rod_init : Mkr P w K mg base CR 1 "Rod" ["self", "numbers"] (sp_Rod_init CR) := ⟨_, _, ok_Rod_init F_Rod_init TR, ⟨mk_Rod, fi_Rod_init, is_Rod_init, kc_Rod⟩, PySem.W.mg_of X G ns_Rod, b_Rod_init⟩
  have G_Rod_count_of : Mt P w K mg base CR 1 "count_of" ["self", "beads"] (sp_Rod_count_of K CR) := ⟨_, _, ok_Rod_count_of F_Rod_count_of B TR, ⟨fi_Rod_count_of, is_Rod_count_of, k_Rod_count_of⟩, b_Rod_count_of⟩
  have G_Rod_has_fair_decks : Mt P w K mg base CR 1 "has_fair_decks" ["self"] (sp_Rod_has_fair_decks CR) := ⟨_, _, ok_Rod_has_fair_decks F_Rod_has_fair_decks B M TR, ⟨fi_Rod_has_fair_decks, is_Rod_has_fair_decks, k_Rod_has_fair_decks⟩, b_Rod_has_fair_decks⟩
  have G_Rod_pushes : Mt P w K mg base CR 3 "pushes" ["self"] (sp_Rod_pushes CR CP) := ⟨_, _, ok_Rod_pushes F_Rod_pushes B TR G_Push_init G_Rod_count_of, ⟨fi_Rod_pushes, is_Rod_pushes, k_Rod_pushes⟩, b_Rod_pushes⟩
  have G_Rod_fault : Mt P w K mg base CR 4 "fault" ["self"] (sp_Rod_fault CR) := ⟨_, _, ok_Rod_fault F_Rod_fault B M TR TP G_Rod_has_fair_decks G_Rod_count_of G_Rod_pushes, ⟨fi_Rod_fault, is_Rod_fault, k_Rod_fault⟩, b_Rod_fault⟩
  have G_rods_of : Fn P w K mg base (L2.CX P w) 5 "rods_of" ["make"] (sp_rods_of K CR CF) := ⟨_, _, ok_rods_of F_rods_of B M TR G_Fault G_Rod_init G_Rod_fault, PySem.W.mg_of X G ns_rods_of, k_rods_of, b_rods_of⟩
  have G_digits_of : Fn P w K mg base CX0 1 "digits_of" ["rods", "value"] (sp_digits_of CR) := ⟨_, _, ok_digits_of F_digits_of TR, PySem.W.mg_of X G ns_digits_of, k_digits_of, b_digits_of⟩
  have G_told_standings : Fn P w K mg base CX0 1 "told_standings" ["some"] (sp_told_standings) := ⟨_, _, ok_told_standings F_told_standings B c_NONE_SUCH, PySem.W.mg_of X G ns_told_standings, k_told_standings, b_told_standings⟩
  have G_load_below : Fn P w K mg base CX0 1 "load_below" ["rod", "digit", "load", "count"] (sp_load_below CR) := ⟨_, _, ok_load_below F_load_below TR, PySem.W.mg_of X G ns_load_below, k_load_below, b_load_below⟩
  have G_at_load : Fn P w K mg base CX0 1 "at_load" ["table", "load", "otherwise"] (sp_at_load) := ⟨_, _, ok_at_load F_at_load B, PySem.W.mg_of X G ns_at_load, k_at_load, b_at_load⟩
  have G_loads_of : Fn P w K mg base CX0 2 "loads_of" ["rod", "table"] (sp_loads_of CR) := ⟨_, _, ok_loads_of F_loads_of B TR G_Rod_count_of, PySem.W.mg_of X G ns_loads_of, k_loads_of, b_loads_of⟩
  have G_Tables_init : Mkr P w K mg base CT 2 "Tables" ["self", "rods", "value"] (sp_Tables_init CT CR) := ⟨_, _, ok_Tables_init F_Tables_init TT G_digits_of, ⟨mk_Tables, fi_Tables_init, is_Tables_init, kc_Tables⟩, PySem.W.mg_of X G ns_Tables, b_Tables_init⟩
  have G_Tables_below : Mt P w K mg base CT 2 "below" ["self", "place", "load", "push"] (sp_Tables_below CT CR CP) := ⟨_, _, ok_Tables_below F_Tables_below TT TP G_load_below, ⟨fi_Tables_below, is_Tables_below, k_Tables_below⟩, b_Tables_below⟩
  have G_few_row : Fn P w K mg base CX0 4 "few_row" ["rod"] (sp_few_row CR) := ⟨_, _, ok_few_row F_few_row c_NEVER TR TP G_Rod_count_of G_Rod_pushes, PySem.W.mg_of X G ns_few_row, k_few_row, b_few_row⟩
  have G_fewest_above : Fn P w K mg base CX0 5 "fewest_above" ["rod", "digit", "table"] (sp_above Bm.cellF CR) := ⟨_, _, ok_fewest_above F_fewest_above B c_NEVER TR G_load_below G_at_load G_loads_of G_few_row, PySem.W.mg_of X G ns_fewest_above, k_fewest_above, b_fewest_above⟩
  have G_Tables_fewest : Mt P w K mg base CT 6 "fewest" ["self"] (sp_Tables_tabs CT CR Bm.tabF) := ⟨_, _, ok_Tables_fewest F_Tables_fewest B TT G_fewest_above, ⟨fi_Tables_fewest, is_Tables_fewest, k_Tables_fewest⟩, b_Tables_fewest⟩
  have G_push_sparest : Fn P w K mg base CX0 4 "push_sparest" ["tables", "fewest", "place", "load"] (sp_push_sparest CT CR CP) := ⟨_, _, ok_push_sparest F_push_sparest c_NEVER TT TR TP G_Rod_pushes G_at_load G_Tables_below, PySem.W.mg_of X G ns_push_sparest, k_push_sparest, b_push_sparest⟩
  have G_sparest : Fn P w K mg base CX0 7 "sparest" ["rods", "value"] (sp_sparest CR) := ⟨_, _, ok_sparest F_sparest B c_NEVER TT TP G_Tables_init G_at_load G_Tables_fewest G_Tables_below G_push_sparest, PySem.W.mg_of X G ns_sparest, k_sparest, b_sparest⟩
  exact ok_fewest F_fewest R G_rods_of G_sparest G_told_standings
theorem nums_nat : ∀ {ns : List Int}, (∀ x ∈ ns, 0 ≤ x) → nums (ns.map Int.toNat) = ns.map V.int
  | [], _ => rfl
  | x :: ns, h => by
    have ih := nums_nat (ns := ns) fun y hy => h y (by simp [hy])
    have hx := h x (by simp)
    show vn x.toNat :: nums (ns.map Int.toNat) = V.int x :: ns.map V.int
    rw [ih]
    congr 1
    show V.int ((x.toNat : Nat) : Int) = V.int x
    congr 1
    omega
theorem in_list {lo hi : Int} {a b : Nat} {ns : List Int} (h : (PySem.W.Codec.inLen a b ns && ns.all (PySem.W.Codec.inInt lo hi)) = true) : ns.length ≤ b ∧ ∀ x ∈ ns, lo ≤ x ∧ x ≤ hi := by
  rw [Bool.and_eq_true] at h
  refine ⟨(PySem.W.Codec.inNat_iff.mp h.1).2, fun x hx => ?_⟩
  have := List.all_eq_true.mp h.2 x hx
  exact PySem.W.Codec.inInt_iff.mp this
end Bw
open PySem PySem.W PyProof.Rows
set_option maxRecDepth 100000 in
set_option maxHeartbeats 8000000 in
theorem PySem.Challenge.cw_beadframes_s10_fewest_holds : PySem.Challenge.rw_beadframes_s10_fewest.Holds := by
  w_on; k_headS; (case hw => exact ⟨[.int 0, .list []], by decide +kernel, by decide +kernel⟩)
  k_fillS
  refine L2.walk_specK (r := PySem.Challenge.rw_beadframes_s10_fewest) (k := 8) (CX := L2.CX0) (ps := ["value", "make"]) (sp := fun K => Bw.sp_fewest K) (by decide +kernel) rfl rfl ⟨rfl, by decide, by decide⟩ (fun w h Y => PySem.W.kIn_of Y) ?F ?S (fun _ _ _ _ z => z)
  case F =>
    intro w mg fa h Y KX G hmg
    refine' Bw.all_mk KX G hmg ?nb_sum ?nb_zip ?nb_max ?nb_min ?nb_all ?nb_range ?nb_len ?nb_int ?nb_list ?nb_tuple ?nb_reversed ?cs_MOST_RODS ?cs_NUMBERS ?cs_LEAST_RATIO ?cs_MOST_RATIO ?cs_MOST_BEADS ?cs_MOST_WORTH ?cs_MOST_COUNT ?cs_SHAPE ?cs_DECK ?cs_HEAVY ?cs_GAP ?cs_NEVER ?cs_NONE_SUCH ?cs_FAULTY ?ns_Push ?pg_Push ?hd_Push ?po_Push ?sa_Push ?mk_Push ?kc_Push ?na_Push_beads ?na_Push_count ?na_Push_many ?ns_Rod ?pg_Rod ?hd_Rod ?po_Rod ?sa_Rod ?mk_Rod ?kc_Rod ?na_Rod_ratio ?na_Rod_beads ?na_Rod_worths ?ns_Tables ?pg_Tables ?hd_Tables ?po_Tables ?sa_Tables ?mk_Tables ?kc_Tables ?na_Tables_rods ?na_Tables_digits ?na_Tables_load ?ns_Fault ?xL ?sa_Fault ?ga ?gg ?na_rule ?na_place ?kC ?eC ?tC ?hC ?iC ?sC ?fi_Fault_init ?ty_Fault_init ?l_Fault_init ?c_Fault_init ?k_Fault_init ?fi_Push_init ?is_Push_init ?l_Push_init ?c_Push_init ?k_Push_init ?fi_Rod_init ?is_Rod_init ?l_Rod_init ?c_Rod_init ?k_Rod_init ?fi_Rod_count_of ?is_Rod_count_of ?l_Rod_count_of ?c_Rod_count_of ?k_Rod_count_of ?fi_Rod_has_fair_decks ?is_Rod_has_fair_decks ?l_Rod_has_fair_decks ?c_Rod_has_fair_decks ?k_Rod_has_fair_decks ?fi_Rod_pushes ?is_Rod_pushes ?l_Rod_pushes ?c_Rod_pushes ?k_Rod_pushes ?fi_Rod_fault ?is_Rod_fault ?l_Rod_fault ?c_Rod_fault ?k_Rod_fault ?ns_rods_of ?l_rods_of ?c_rods_of ?k_rods_of ?ns_digits_of ?l_digits_of ?c_digits_of ?k_digits_of ?ns_load_below ?l_load_below ?c_load_below ?k_load_below ?ns_at_load ?l_at_load ?c_at_load ?k_at_load ?ns_loads_of ?l_loads_of ?c_loads_of ?k_loads_of ?ns_way_row ?l_way_row ?c_way_row ?k_way_row ?ns_few_row ?l_few_row ?c_few_row ?k_few_row ?ns_ways_above ?l_ways_above ?c_ways_above ?k_ways_above ?ns_fewest_above ?l_fewest_above ?c_fewest_above ?k_fewest_above ?fi_Tables_init ?is_Tables_init ?l_Tables_init ?c_Tables_init ?k_Tables_init ?fi_Tables_ways ?is_Tables_ways ?l_Tables_ways ?c_Tables_ways ?k_Tables_ways ?fi_Tables_fewest ?is_Tables_fewest ?l_Tables_fewest ?c_Tables_fewest ?k_Tables_fewest ?fi_Tables_below ?is_Tables_below ?l_Tables_below ?c_Tables_below ?k_Tables_below ?ns_sparest ?l_sparest ?c_sparest ?k_sparest ?ns_push_sparest ?l_push_sparest ?c_push_sparest ?k_push_sparest ?ns_refused ?l_refused ?c_refused ?k_refused ?ns_told_standings ?l_told_standings ?c_told_standings ?k_told_standings ?ns_fewest ?l_fewest ?c_fewest ?k_fewest
    (case nb_sum => k_is)
    (case nb_zip => k_is)
    (case nb_max => k_is)
    (case nb_min => k_is)
    (case nb_all => k_is)
    (case nb_range => k_is)
    (case nb_len => k_is)
    (case nb_int => k_is)
    (case nb_list => k_is)
    (case nb_tuple => k_is)
    (case nb_reversed => k_is)
    (case cs_MOST_RODS => k_is)
    (case cs_NUMBERS => k_is)
    (case cs_LEAST_RATIO => k_is)
    (case cs_MOST_RATIO => k_is)
    (case cs_MOST_BEADS => k_is)
    (case cs_MOST_WORTH => k_is)
    (case cs_MOST_COUNT => k_is)
    (case cs_SHAPE => k_is)
    (case cs_DECK => k_is)
    (case cs_HEAVY => k_is)
    (case cs_GAP => k_is)
    (case cs_NEVER => k_is)
    (case cs_NONE_SUCH => k_is)
    (case cs_FAULTY => k_is)
    (case ns_Push => k_is)
    (case pg_Push => k_is)
    (case hd_Push => k_is)
    (case po_Push => k_is)
    (case sa_Push => k_is)
    (case mk_Push => k_is)
    (case kc_Push => k_is)
    (case na_Push_beads => k_is)
    (case na_Push_count => k_is)
    (case na_Push_many => k_is)
    (case ns_Rod => k_is)
    (case pg_Rod => k_is)
    (case hd_Rod => k_is)
    (case po_Rod => k_is)
    (case sa_Rod => k_is)
    (case mk_Rod => k_is)
    (case kc_Rod => k_is)
    (case na_Rod_ratio => k_is)
    (case na_Rod_beads => k_is)
    (case na_Rod_worths => k_is)
    (case ns_Tables => k_is)
    (case pg_Tables => k_is)
    (case hd_Tables => k_is)
    (case po_Tables => k_is)
    (case sa_Tables => k_is)
    (case mk_Tables => k_is)
    (case kc_Tables => k_is)
    (case na_Tables_rods => k_is)
    (case na_Tables_digits => k_is)
    (case na_Tables_load => k_is)
    (case ns_Fault => k_is)
    (case xL => k_is)
    (case sa_Fault => k_is)
    (case ga => k_is)
    (case gg => k_is)
    (case na_rule => k_is)
    (case na_place => k_is)
    (case kC => k_is)
    (case eC => k_is)
    (case tC => k_is)
    (case hC => k_is)
    (case iC => k_is)
    (case sC => first | rfl | k_is)
    (case fi_Fault_init => k_is)
    (case ty_Fault_init => k_is)
    (case l_Fault_init => k_is)
    (case c_Fault_init => k_is)
    (case k_Fault_init => k_is)
    (case fi_Push_init => k_is)
    (case is_Push_init => k_is)
    (case l_Push_init => k_is)
    (case c_Push_init => k_is)
    (case k_Push_init => k_is)
    (case fi_Rod_init => k_is)
    (case is_Rod_init => k_is)
    (case l_Rod_init => k_is)
    (case c_Rod_init => k_is)
    (case k_Rod_init => k_is)
    (case fi_Rod_count_of => k_is)
    (case is_Rod_count_of => k_is)
    (case l_Rod_count_of => k_is)
    (case c_Rod_count_of => k_is)
    (case k_Rod_count_of => k_is)
    (case fi_Rod_has_fair_decks => k_is)
    (case is_Rod_has_fair_decks => k_is)
    (case l_Rod_has_fair_decks => k_is)
    (case c_Rod_has_fair_decks => k_is)
    (case k_Rod_has_fair_decks => k_is)
    (case fi_Rod_pushes => k_is)
    (case is_Rod_pushes => k_is)
    (case l_Rod_pushes => k_is)
    (case c_Rod_pushes => k_is)
    (case k_Rod_pushes => k_is)
    (case fi_Rod_fault => k_is)
    (case is_Rod_fault => k_is)
    (case l_Rod_fault => k_is)
    (case c_Rod_fault => k_is)
    (case k_Rod_fault => k_is)
    (case ns_rods_of => k_is)
    (case l_rods_of => k_is)
    (case c_rods_of => k_is)
    (case k_rods_of => k_is)
    (case ns_digits_of => k_is)
    (case l_digits_of => k_is)
    (case c_digits_of => k_is)
    (case k_digits_of => k_is)
    (case ns_load_below => k_is)
    (case l_load_below => k_is)
    (case c_load_below => k_is)
    (case k_load_below => k_is)
    (case ns_at_load => k_is)
    (case l_at_load => k_is)
    (case c_at_load => k_is)
    (case k_at_load => k_is)
    (case ns_loads_of => k_is)
    (case l_loads_of => k_is)
    (case c_loads_of => k_is)
    (case k_loads_of => k_is)
    (case ns_way_row => k_is)
    (case l_way_row => k_is)
    (case c_way_row => k_is)
    (case k_way_row => k_is)
    (case ns_few_row => k_is)
    (case l_few_row => k_is)
    (case c_few_row => k_is)
    (case k_few_row => k_is)
    (case ns_ways_above => k_is)
    (case l_ways_above => k_is)
    (case c_ways_above => k_is)
    (case k_ways_above => k_is)
    (case ns_fewest_above => k_is)
    (case l_fewest_above => k_is)
    (case c_fewest_above => k_is)
    (case k_fewest_above => k_is)
    (case fi_Tables_init => k_is)
    (case is_Tables_init => k_is)
    (case l_Tables_init => k_is)
    (case c_Tables_init => k_is)
    (case k_Tables_init => k_is)
    (case fi_Tables_ways => k_is)
    (case is_Tables_ways => k_is)
    (case l_Tables_ways => k_is)
    (case c_Tables_ways => k_is)
    (case k_Tables_ways => k_is)
    (case fi_Tables_fewest => k_is)
    (case is_Tables_fewest => k_is)
    (case l_Tables_fewest => k_is)
    (case c_Tables_fewest => k_is)
    (case k_Tables_fewest => k_is)
    (case fi_Tables_below => k_is)
    (case is_Tables_below => k_is)
    (case l_Tables_below => k_is)
    (case c_Tables_below => k_is)
    (case k_Tables_below => k_is)
    (case ns_sparest => k_is)
    (case l_sparest => k_is)
    (case c_sparest => k_is)
    (case k_sparest => k_is)
    (case ns_push_sparest => k_is)
    (case l_push_sparest => k_is)
    (case c_push_sparest => k_is)
    (case k_push_sparest => k_is)
    (case ns_refused => k_is)
    (case l_refused => k_is)
    (case c_refused => k_is)
    (case k_refused => k_is)
    (case ns_told_standings => k_is)
    (case l_told_standings => k_is)
    (case c_told_standings => k_is)
    (case k_told_standings => k_is)
    (case ns_fewest => k_is)
    (case l_fewest => k_is)
    (case c_fewest => k_is)
    (case k_fewest => k_is)
  case S =>
    intro K H xs a hO hwi hask hx
    cases hx with
    | cons h1 h2 =>
      cases h2 with
      | cons h2 h3 =>
        cases h3
        cases h1
        cases h2 with
        | lst hs ha =>
          have e := L2.ints_dw a.2.1 _ ha
          subst e
          have q : (Codec.inInt 0 9999999999999999999999999999999999999999999999999999999999999999999999999999999999999999999999999999 a.1 && ((Codec.inLen 0 700 a.2.1 && a.2.1.all (Codec.inInt 0 4294967295)) && true)) = true := hwi
          rw [Bool.and_eq_true, Bool.and_eq_true] at q
          have q0 := Codec.inInt_iff.mp q.1
          obtain ⟨q1, q2⟩ := Bw.in_list q.2.1
          refine ⟨_, a.1.toNat, a.2.1.map Int.toNat, by (show [L2.V.int a.1, _] = [L2.V.int ((a.1.toNat : Nat) : Int), _]); rw [Int.toNat_of_nonneg q0.1], by rw [Bw.nums_nat fun x hx => (q2 x hx).1]; exact hs, by rw [List.length_map]; exact q1, fun H' p hp => ?_⟩
          rw [← Bm.fewest_ans] at hp
          exact .lst (L2.SqL.of hp) (L2.dw_ints _)
#print axioms PySem.Challenge.cw_beadframes_s10_fewest_holds
