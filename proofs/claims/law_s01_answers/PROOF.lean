import PyProof.Rows.All
import PyKg56
import Wide.All
import OpenK.AllK
import Wide.FinOn
import Open.SpecLaws
import KE.OsGo
import KE.GoesEnum
import KE.SortKeyHeap
import HandS.ForSpec
import HandS.ForMost
import HandS.TryMany
import HandS.Evl
import HandS.ExcInit
import HandS.ExcField
import HandS.CallSlots
import HandS.Deep
import HandS.TupLe
import HandS.SortKw
import HandS.Lambda
import HandS.Walk
import PySem.Challenge.RW_skatingmarks_s01_answers
import HandS.EndTab
import HandS.HeadHook4
import KE.KNest
set_option Elab.async false
/-! Numbers of the judges: what is put together. Plain Lean. -/
namespace Sk
theorem foldl_add : ∀ (l : List Int) (a : Int), l.foldl (fun a b => a + b) a = a + l.sum
  | [], a => by simp
  | x :: l, a => by
    rw [List.foldl_cons, foldl_add l, List.sum_cons]
    omega
theorem sum_foldl (l : List Int) : l.foldl (fun a b => a + b) 0 = l.sum := by
  rw [foldl_add]; omega
theorem min_fold : ∀ (l : List Int) (x : Int), (l.foldl min x ∈ x :: l) ∧ (l.foldl min x ≤ x) ∧ ∀ y ∈ l, l.foldl min x ≤ y
  | [], x => ⟨by simp, Int.le_refl _, fun y h => by cases h⟩
  | z :: l, x => by
    obtain ⟨h1, h2, h3⟩ := min_fold l (min x z)
    rw [List.foldl_cons]
    refine ⟨?_, by omega, fun y hy => ?_⟩
    · rcases List.mem_cons.mp h1 with e | m
      · rw [e]
        by_cases c : x ≤ z
        · rw [Int.min_eq_left c]; simp
        · rw [Int.min_eq_right (by omega)]; simp
      · simp [m]
    · rcases List.mem_cons.mp hy with e | m
      · subst e; omega
      · exact h3 y m
theorem max_fold : ∀ (l : List Int) (x : Int), (l.foldl max x ∈ x :: l) ∧ (x ≤ l.foldl max x) ∧ ∀ y ∈ l, y ≤ l.foldl max x
  | [], x => ⟨by simp, Int.le_refl _, fun y h => by cases h⟩
  | z :: l, x => by
    obtain ⟨h1, h2, h3⟩ := max_fold l (max x z)
    rw [List.foldl_cons]
    refine ⟨?_, by omega, fun y hy => ?_⟩
    · rcases List.mem_cons.mp h1 with e | m
      · rw [e]
        by_cases c : x ≤ z
        · rw [Int.max_eq_right c]; simp
        · rw [Int.max_eq_left (by omega)]; simp
      · simp [m]
    · rcases List.mem_cons.mp hy with e | m
      · subst e; omega
      · exact h3 y m
theorem least_is {l : List Int} {a : Int} (ha : a ∈ l) (hl : ∀ y ∈ l, a ≤ y) : Kg56.least l = a := by
  cases l with
  | nil => cases ha
  | cons x l =>
    obtain ⟨h1, h2, h3⟩ := min_fold l x
    show l.foldl min x = a
    have e1 := hl _ h1
    rcases List.mem_cons.mp ha with e | m
    · subst e; omega
    · have := h3 a m; omega
theorem most_is {l : List Int} {a : Int} (ha : a ∈ l) (hl : ∀ y ∈ l, y ≤ a) : Kg56.most l = a := by
  cases l with
  | nil => cases ha
  | cons x l =>
    obtain ⟨h1, h2, h3⟩ := max_fold l x
    show l.foldl max x = a
    have e1 := hl _ h1
    rcases List.mem_cons.mp ha with e | m
    · subst e; omega
    · have := h3 a m; omega
theorem perm_sum {l m : List Int} (p : l.Perm m) : l.sum = m.sum := by
  induction p with
  | nil => rfl
  | cons x _ ih => rw [List.sum_cons, List.sum_cons, ih]
  | swap x y l => simp only [List.sum_cons]; omega
  | trans _ _ h1 h2 => exact h1.trans h2
/-- what stands between the least and the greatest of numbers in order -/
def inner (ms : List Int) : List Int := (ms.drop 1).take (ms.length - 1 - 1)
theorem inner_trim {ns ms : List Int} (h5 : 5 ≤ ns.length) (p : ms.Perm ns) (o : ms.Pairwise (· ≤ ·)) : (inner ms).sum = (Kg56.trimmed ns).1 ∧ (inner ms).length = (Kg56.trimmed ns).2 := by
  have hl : ms.length = ns.length := p.length_eq
  cases ms with
  | nil => simp at hl; omega
  | cons a r =>
    rcases List.eq_nil_or_concat r with rfl | ⟨mid, z, rfl⟩
    · simp at hl; omega
    · have hm : (a :: (mid ++ [z])).length = mid.length + 2 := by simp
      have hi : inner (a :: (mid ++ [z])) = mid := by
        unfold inner
        rw [hm]
        show (mid ++ [z]).take (mid.length + 2 - 1 - 1) = mid
        have : mid.length + 2 - 1 - 1 = mid.length := by omega
        rw [this, List.take_left' rfl]
      rw [List.concat_eq_append] at *
      rw [hi]
      have oa := List.pairwise_cons.mp o
      have oz := List.pairwise_append.mp oa.2
      have e1 : Kg56.least ns = a := least_is (p.mem_iff.mp List.mem_cons_self) fun y hy => by
        rcases List.mem_cons.mp (p.mem_iff.mpr hy) with e | m
        · omega
        · exact oa.1 y m
      have e2 : Kg56.most ns = z := most_is (p.mem_iff.mp (by simp)) fun y hy => by
        rcases List.mem_cons.mp (p.mem_iff.mpr hy) with e | m
        · subst e; exact oa.1 z (by simp)
        · rcases List.mem_append.mp m with m | m
          · exact oz.2.2 y m z (by simp)
          · simp at m; omega
      have es : ns.sum = a + (mid.sum + z) := by
        rw [← perm_sum p, List.sum_cons, List.sum_append]; simp
      unfold Kg56.trimmed
      rw [if_pos h5, sum_foldl, e1, e2, es]
      refine ⟨by show mid.sum = a + (mid.sum + z) - z - a; omega, ?_⟩
      show mid.length = ns.length - 2
      rw [← hl, hm]; omega
theorem trim_few {ns : List Int} (h5 : ¬ 5 ≤ ns.length) : ns.sum = (Kg56.trimmed ns).1 ∧ ns.length = (Kg56.trimmed ns).2 := by
  unfold Kg56.trimmed
  rw [if_neg h5, sum_foldl]
  exact ⟨rfl, rfl⟩
theorem trim_pos {ns : List Int} (h : 0 < ns.length) : 0 < (Kg56.trimmed ns).2 ∧ (Kg56.trimmed ns).2 ≤ ns.length := by
  unfold Kg56.trimmed
  split
  · exact ⟨by show 0 < ns.length - 2; omega, by show ns.length - 2 ≤ _; omega⟩
  · exact ⟨h, Nat.le_refl _⟩
/-- away(top, bottom), as Python has it -/
theorem nearest_neg {t : Int} {b : Nat} (h : t < 0) : Kg56.nearest t b = -((2 * (-t) + b) / (2 * b)) := by
  unfold Kg56.nearest
  rw [if_pos h]
  have e : ((t.natAbs : Nat) : Int) = -t := by omega
  rw [Int.natCast_ediv]
  push_cast
  rw [show (t.natAbs : Int) = -t from e]
theorem nearest_nn {t : Int} {b : Nat} (h : ¬ t < 0) : Kg56.nearest t b = (2 * t + b) / (2 * b) := by
  unfold Kg56.nearest
  rw [if_neg h]
  have e : ((t.natAbs : Nat) : Int) = t := by omega
  rw [Int.natCast_ediv]
  push_cast
  rw [show (t.natAbs : Int) = t from e]
theorem part_int (v p : Nat) : ((Kg56.part v p : Nat) : Int) = ((v : Int) * p + 50) / 100 := by
  unfold Kg56.part
  rw [Int.natCast_ediv]
  push_cast
  rfl
/-- what so many falls cost, one by one -/
def fallSum : Nat → Nat
  | 0 => 0
  | n + 1 => fallSum n + 100 * min 3 (1 + n / 2)
theorem fall_sum : ∀ n, fallSum n = Kg56.fallsCost n
  | 0 => rfl
  | n + 1 => by
    rw [fallSum, fall_sum n]
    unfold Kg56.fallsCost
    rcases (show n = 0 ∨ n = 1 ∨ n = 2 ∨ n = 3 ∨ 4 ≤ n by omega) with rfl | rfl | rfl | rfl | h
    · rfl
    · rfl
    · rfl
    · rfl
    · have : 2 ≤ n / 2 := by omega
      omega
end Sk

set_option Elab.async false
set_option linter.all false
/-! Callers' texts: read as the program reads them, and as the specification does. Plain Lean. -/
namespace Sk
open Kg56 (Text ascii Jump Element)
/-- the place of the written text among some that a row is -/
def numberIn (some : List Text) (row : Text) : Option Nat := some.findIdx? fun w => row == w
def EDGES : List Text := ["", "e", "!"].map ascii
def MISS : List Text := ["", "q", "<", "<<"].map ascii
def PARTS : List Text := ["U", "L", "C", "S", "Co"].map ascii
def LEVELS : List Text := ["B", "1", "2", "3", "4"].map ascii
def splitPlus : Text → List Text
  | [] => [[]]
  | b :: r => if b = 43 then [] :: splitPlus r else match splitPlus r with
    | h :: t => (b :: h) :: t
    | [] => [[b]]
def kindFirst (row : Text) : Option Nat := Kg56.KINDS.findIdx? fun w => row.take w.length == w
def edgeFirst (kind : Nat) (row : Text) : Nat := if (kind = 3 ∨ kind = 4) ∧ (row.take 1 = [101] ∨ row.take 1 = [33]) then (numberIn EDGES (row.take 1)).getD 0 else 0
def jumpOf (row : Text) : Option Jump :=
  if row = [69, 117] then some ⟨6, 1, 0, 0⟩ else match row with
  | [] => none
  | d :: r => if 48 < d ∧ d ≤ 52 then match kindFirst r with
      | none => none
      | some k =>
        let behind := r.drop (Kg56.KINDS.getD k []).length
        let edge := edgeFirst k behind
        match numberIn MISS (behind.drop (if 0 < edge then 1 else 0)) with
        | none => none
        | some m => some ⟨k, d - 48, edge, m⟩
    else none
def mayBe (l : List Jump) : Bool :=
  let small := (List.range l.length).filter fun i => (l[i]?.map (·.kind)) == some 6
  if small = [] then true else small == [1] && (l.length == 3 && (match l[2]? with
    | some j => j.kind == 1 || j.kind == 3
    | none => false))
def allSome : List (Option Jump) → Option (List Jump)
  | [] => some []
  | none :: _ => none
  | some j :: r => (allSome r).map (j :: ·)
def jumpsOf (row : Text) : Option (List Jump) :=
  let js := (splitPlus row).map jumpOf
  if 3 < js.length then none else match allSome js with
    | none => none
    | some l => if mayBe l = true then some l else none

/-! ### one jump -/
def kindCase (r : Text) : Option (Nat × Text) := match r with
    | 84 :: q => some (0, q) | 83 :: q => some (1, q) | 76 :: 111 :: q => some (2, q) | 70 :: q => some (3, q) | 76 :: 122 :: q => some (4, q) | 65 :: q => some (5, q) | _ => none
theorem kinds_pick (r : Text) : Kg56.pick Kg56.KINDS r = kindCase r := by
  unfold kindCase
  split
  case h_7 h0 h1 h2 h3 h4 h5 =>
    match r with
    | [] => rfl
    | [a] =>
      have n0 : a ≠ 84 := fun e => h0 [] (by rw [e])
      have n1 : a ≠ 83 := fun e => h1 [] (by rw [e])
      have n3 : a ≠ 70 := fun e => h3 [] (by rw [e])
      have n5 : a ≠ 65 := fun e => h5 [] (by rw [e])
      simp [Kg56.pick, Kg56.KINDS, ascii, Kg56.startsWith, List.range, List.range.loop, n0, n1, n3, n5]
    | a :: b :: q =>
      have n0 : a ≠ 84 := fun e => h0 _ (by rw [e])
      have n1 : a ≠ 83 := fun e => h1 _ (by rw [e])
      have n3 : a ≠ 70 := fun e => h3 _ (by rw [e])
      have n5 : a ≠ 65 := fun e => h5 _ (by rw [e])
      have n2 : ¬ (a = 76 ∧ b = 111) := fun e => h2 q (by rw [e.1, e.2])
      have n4 : ¬ (a = 76 ∧ b = 122) := fun e => h4 q (by rw [e.1, e.2])
      simp [Kg56.pick, Kg56.KINDS, ascii, Kg56.startsWith, List.range, List.range.loop, n0, n1, n3, n5, n2, n4]
  all_goals simp [Kg56.pick, Kg56.KINDS, ascii, Kg56.startsWith, List.range, List.range.loop]
theorem kind_first (r : Text) : kindFirst r = (kindCase r).map (·.1) := by
  unfold kindCase
  split
  case h_7 h0 h1 h2 h3 h4 h5 =>
    match r with
    | [] => rfl
    | [a] =>
      have n0 : a ≠ 84 := fun e => h0 [] (by rw [e])
      have n1 : a ≠ 83 := fun e => h1 [] (by rw [e])
      have n3 : a ≠ 70 := fun e => h3 [] (by rw [e])
      have n5 : a ≠ 65 := fun e => h5 [] (by rw [e])
      simp [kindFirst, Kg56.KINDS, ascii, n0, n1, n3, n5]
    | a :: b :: q =>
      have n0 : a ≠ 84 := fun e => h0 _ (by rw [e])
      have n1 : a ≠ 83 := fun e => h1 _ (by rw [e])
      have n3 : a ≠ 70 := fun e => h3 _ (by rw [e])
      have n5 : a ≠ 65 := fun e => h5 _ (by rw [e])
      have n2 : ¬ (a = 76 ∧ b = 111) := fun e => h2 q (by rw [e.1, e.2])
      have n4 : ¬ (a = 76 ∧ b = 122) := fun e => h4 q (by rw [e.1, e.2])
      simp [kindFirst, Kg56.KINDS, ascii, n0, n1, n3, n5, n2, n4]
  all_goals simp [kindFirst, Kg56.KINDS, ascii, List.findIdx?_cons]
theorem kind_drop {r q : Text} {k : Nat} (h : kindCase r = some (k, q)) : r.drop (Kg56.KINDS.getD k []).length = q ∧ k < 6 := by
  unfold kindCase at h
  split at h
  case h_7 => cases h
  all_goals
    cases h
    exact ⟨rfl, by decide⟩
def markCase (t : Text) : Option (Nat × Text) := match t with
  | 113 :: q => some (0, q) | 60 :: 60 :: q => some (2, q) | 60 :: q => some (1, q) | _ => none
theorem marks_pick (t : Text) : Kg56.pick Kg56.MARKS t = markCase t := by
  unfold markCase
  split
  case h_1 => simp [Kg56.pick, Kg56.MARKS, ascii, Kg56.startsWith, List.range, List.range.loop]
  case h_2 => simp [Kg56.pick, Kg56.MARKS, ascii, Kg56.startsWith, List.range, List.range.loop]
  case h_3 q h =>
    match q with
    | [] => simp [Kg56.pick, Kg56.MARKS, ascii, Kg56.startsWith, List.range, List.range.loop]
    | a :: q =>
      have n : a ≠ 60 := fun e => h q (by rw [e])
      simp [Kg56.pick, Kg56.MARKS, ascii, Kg56.startsWith, List.range, List.range.loop, n]
  case h_4 h0 h1 h2 =>
    match t with
    | [] => rfl
    | a :: q =>
      have n0 : a ≠ 113 := fun e => h0 _ (by rw [e])
      have n2 : a ≠ 60 := fun e => h2 _ (by rw [e])
      simp [Kg56.pick, Kg56.MARKS, ascii, Kg56.startsWith, List.range, List.range.loop, n0, n2]
/-- e or ! behind F and Lz -/
def edgeCase (k : Nat) (t : Text) : Nat × Text := match t with
  | 101 :: q => if k = 3 ∨ k = 4 then (1, q) else (0, t)
  | 33 :: q => if k = 3 ∨ k = 4 then (2, q) else (0, t)
  | _ => (0, t)
theorem edge_first (k : Nat) (t : Text) : edgeFirst k t = (edgeCase k t).1 ∧ t.drop (if 0 < edgeFirst k t then 1 else 0) = (edgeCase k t).2 := by
  have key : edgeFirst k t = (edgeCase k t).1 := by
    unfold edgeCase
    split
    · rename_i q
      by_cases c : k = 3 ∨ k = 4
      · rw [if_pos c]
        exact if_pos ⟨c, .inl rfl⟩
      · rw [if_neg c]
        exact if_neg (fun h => c h.1)
    · rename_i q
      by_cases c : k = 3 ∨ k = 4
      · rw [if_pos c]
        exact if_pos ⟨c, .inr rfl⟩
      · rw [if_neg c]
        exact if_neg (fun h => c h.1)
    · rename_i h1 h2
      refine if_neg ?_
      rintro ⟨_, h | h⟩
      · match t with
        | [] => simp at h
        | a :: q => simp at h; exact h1 q (by rw [h])
      · match t with
        | [] => simp at h
        | a :: q => simp at h; exact h2 q (by rw [h])
  refine ⟨key, ?_⟩
  rw [key]
  unfold edgeCase
  split
  · split <;> rfl
  · split <;> rfl
  · rfl
def missCase (t : Text) : Option Nat := match t with
  | [] => some 0 | [113] => some 1 | [60] => some 2 | [60, 60] => some 3 | _ => none
theorem miss_is (t : Text) : numberIn MISS t = missCase t := by
  unfold missCase
  split
  case h_5 h0 h1 h2 h3 =>
    have n0 : t ≠ [] := fun e => h0 e
    have n1 : t ≠ [113] := fun e => h1 e
    have n2 : t ≠ [60] := fun e => h2 e
    have n3 : t ≠ [60, 60] := fun e => h3 e
    simp [numberIn, MISS, ascii, n0, n1, n2, n3]
  all_goals rfl
/-- what stands behind a piece: nothing, or a plus -/
def Tail (s : Text) : Prop := s = [] ∨ ∃ r, s = 43 :: r
theorem kind_app {r s : Text} (hr : 43 ∉ r) (hs : Tail s) : kindCase (r ++ s) = (kindCase r).map fun x => (x.1, x.2 ++ s) := by
  rcases hs with rfl | ⟨s', rfl⟩
  · rw [List.append_nil]; cases kindCase r <;> simp
  · match r with
    | [] => rfl
    | [a] =>
      unfold kindCase
      simp only [List.cons_append, List.nil_append]
      split <;> simp_all
    | a :: b :: q =>
      unfold kindCase
      simp only [List.cons_append]
      split <;> simp_all
theorem edge_app {k : Nat} {r s : Text} (hs : Tail s) : edgeCase k (r ++ s) = ((edgeCase k r).1, (edgeCase k r).2 ++ s) := by
  match r with
  | [] =>
    rcases hs with rfl | ⟨s', rfl⟩ <;> rfl
  | a :: q =>
    unfold edgeCase
    simp only [List.cons_append]
    split <;> simp_all <;> split <;> simp_all
theorem edge_no {k : Nat} {r : Text} (h : 43 ∉ r) : 43 ∉ (edgeCase k r).2 := by
  unfold edgeCase
  split
  · split
    · simp at h ⊢; exact h
    · exact h
  · split
    · simp at h ⊢; exact h
    · exact h
  · exact h
theorem kind_no {r q : Text} {k : Nat} (h : 43 ∉ r) (e : kindCase r = some (k, q)) : 43 ∉ q := by
  unfold kindCase at e
  split at e
  case h_7 => cases e
  all_goals
    cases e
    simp at h ⊢
    exact h
/-- behind kind and edge: what's missing -/
def endCase (k d e : Nat) (u : Text) : Jump × Text := match markCase u with
  | some m => (⟨k, d, e, m.1 + 1⟩, m.2)
  | none => (⟨k, d, e, 0⟩, u)
def digitCase (d : Nat) (r : Text) : Option (Jump × Text) := if 49 ≤ d ∧ d ≤ 52 then (kindCase r).map fun k => endCase k.1 (d - 48) (edgeCase k.1 k.2).1 (edgeCase k.1 k.2).2 else none
theorem spec_digit {d : Nat} {r : Text} (h : ∀ q, d :: r ≠ 69 :: 117 :: q) : Kg56.jump? (d :: r) = digitCase d r := by
  unfold Kg56.jump?
  split
  · rename_i q e
    exact absurd e (h q)
  · rename_i d' r' _ e
    cases e
    unfold digitCase
    rw [kinds_pick]
    by_cases c : 49 ≤ d ∧ d ≤ 52
    · rw [if_pos c, if_pos c]
      congr 1
      funext k
      show (match Kg56.pick Kg56.MARKS (edgeCase k.1 k.2).2 with
        | some m => ((⟨k.1, d - 48, (edgeCase k.1 k.2).1, m.1 + 1⟩ : Jump), m.2)
        | none => (⟨k.1, d - 48, (edgeCase k.1 k.2).1, 0⟩, (edgeCase k.1 k.2).2)) = _
      rw [marks_pick]
      rfl
    · rw [if_neg c, if_neg c]
  · rename_i e
    cases e
/-- the rest of a jump's text stands neither at an end nor at a plus -/
def Bad (x : Text) : Prop := x ≠ [] ∧ ∀ r, x ≠ 43 :: r
theorem mark_ok {u s : Text} {k d e : Nat} (hu : 43 ∉ u) (hs : Tail s) :
    (∀ m, missCase u = some m → endCase k d e (u ++ s) = (⟨k, d, e, m⟩, s)) ∧ (missCase u = none → Bad (endCase k d e (u ++ s)).2) := by
  unfold endCase
  have bad : ∀ {a : Nat} {q : Text}, a ≠ 43 → Bad (a :: q ++ s) := fun {a q} h => ⟨by simp, fun r e => h (by simp at e; exact e.1)⟩
  match u with
  | [] =>
    refine ⟨fun m h => ?_, fun h => by simp [missCase] at h⟩
    have : m = 0 := by simp [missCase] at h; exact h.symm
    subst this
    rcases hs with rfl | ⟨s', rfl⟩ <;> rfl
  | [a] =>
    have ha : a ≠ 43 := fun e => hu (by simp [e])
    by_cases c1 : a = 113
    · subst c1
      exact ⟨fun m h => by simp [missCase] at h; subst h; rfl, fun h => by simp [missCase] at h⟩
    · by_cases c2 : a = 60
      · subst c2
        refine ⟨fun m h => ?_, fun h => by simp [missCase] at h⟩
        simp [missCase] at h; subst h
        rcases hs with rfl | ⟨s', rfl⟩ <;> rfl
      · refine ⟨fun m h => by simp [missCase, c1, c2] at h, fun _ => ?_⟩
        have e : markCase ([a] ++ s) = none := by simp [markCase, c1, c2]
        rw [e]
        exact bad ha
  | a :: b :: q =>
    have ha : a ≠ 43 := fun e => hu (by simp [e])
    have hb : b ≠ 43 := fun e => hu (by simp [e])
    by_cases c1 : a = 113
    · subst c1
      refine ⟨fun m h => by simp [missCase] at h, fun _ => ?_⟩
      show Bad (b :: q ++ s)
      exact bad hb
    · by_cases c2 : a = 60
      · subst c2
        by_cases c3 : b = 60
        · subst c3
          match q with
          | [] =>
            exact ⟨fun m h => by simp [missCase] at h; subst h; rfl, fun h => by simp [missCase] at h⟩
          | c :: q =>
            have hc : c ≠ 43 := fun e => hu (by simp [e])
            refine ⟨fun m h => by simp [missCase] at h, fun _ => ?_⟩
            show Bad (c :: q ++ s)
            exact bad hc
        · refine ⟨fun m h => by simp [missCase, c3] at h, fun _ => ?_⟩
          have e : markCase (60 :: b :: q ++ s) = some (1, b :: q ++ s) := by
            unfold markCase
            split <;> simp_all
          rw [e]
          exact bad hb
      · refine ⟨fun m h => by simp [missCase, c1, c2] at h, fun _ => ?_⟩
        have e : markCase (a :: b :: q ++ s) = none := by simp [markCase, c1, c2]
        rw [e]
        exact bad ha
theorem jump_of {d : Nat} {r : Text} (ne : d :: r ≠ [69, 117]) : jumpOf (d :: r) = if 48 < d ∧ d ≤ 52 then (kindCase r).bind fun k => (missCase (edgeCase k.1 k.2).2).map fun m => ⟨k.1, d - 48, (edgeCase k.1 k.2).1, m⟩ else none := by
  unfold jumpOf
  rw [if_neg ne]
  show (if 48 < d ∧ d ≤ 52 then _ else none) = _
  by_cases cd : 48 < d ∧ d ≤ 52
  · rw [if_pos cd, if_pos cd, kind_first]
    cases hk : kindCase r with
    | none => rfl
    | some k =>
      obtain ⟨k, q⟩ := k
      obtain ⟨e1, _⟩ := kind_drop hk
      obtain ⟨e2, e3⟩ := edge_first k q
      show (match numberIn MISS ((r.drop (Kg56.KINDS.getD k []).length).drop (if 0 < edgeFirst k (r.drop (Kg56.KINDS.getD k []).length) then 1 else 0)) with
        | none => none
        | some m => some (⟨k, d - 48, edgeFirst k (r.drop (Kg56.KINDS.getD k []).length), m⟩ : Jump)) = _
      rw [e1, e3, e2, miss_is]
      show _ = (missCase (edgeCase k q).2).map _
      cases missCase (edgeCase k q).2 <;> rfl
  · rw [if_neg cd, if_neg cd]
theorem jump_piece {p s : Text} (hp : 43 ∉ p) (hs : Tail s) : (∀ j, jumpOf p = some j → Kg56.jump? (p ++ s) = some (j, s)) ∧ (jumpOf p = none → ∀ x, Kg56.jump? (p ++ s) = some x → Bad x.2) := by
  match p with
  | [] =>
    refine ⟨fun j h => by simp [jumpOf] at h, fun _ x h => ?_⟩
    rcases hs with rfl | ⟨s', rfl⟩
    · cases h
    · rw [List.nil_append, spec_digit (fun q e => by cases e)] at h
      simp [digitCase] at h
  | d :: r =>
    by_cases c : ∃ q, d :: r = 69 :: 117 :: q
    · obtain ⟨q, e⟩ := c
      cases e
      match q with
      | [] =>
        refine ⟨fun j h => ?_, fun h => by simp [jumpOf] at h⟩
        have : j = ⟨6, 1, 0, 0⟩ := by simp [jumpOf] at h; exact h.symm
        subst this; rfl
      | a :: q =>
        have ha : a ≠ 43 := fun e => hp (by simp [e])
        refine ⟨fun j h => by simp [jumpOf] at h, fun _ x h => ?_⟩
        have h' : some ((⟨6, 1, 0, 0⟩ : Jump), a :: q ++ s) = some x := h
        cases h'
        exact ⟨by simp, fun r e => ha (by simp at e; exact e.1)⟩
    · have hr : 43 ∉ r := fun m => hp (List.mem_cons_of_mem _ m)
      have nq : ∀ q, d :: (r ++ s) ≠ 69 :: 117 :: q := fun q e => by
        have e1 : d = 69 := (List.cons.inj e).1
        have e2 : r ++ s = 117 :: q := (List.cons.inj e).2
        match r with
        | [] =>
          rcases hs with rfl | ⟨s', rfl⟩ <;> simp at e2
        | a :: q => simp at e2; exact c ⟨q, by rw [e1, e2.1]⟩
      rw [List.cons_append, spec_digit nq, jump_of (fun e => c ⟨[], e⟩)]
      unfold digitCase
      by_cases cd : 48 < d ∧ d ≤ 52
      · rw [if_pos cd, if_pos (by omega), kind_app hr hs]
        cases hk : kindCase r with
        | none => exact And.intro (fun j h => by simp at h) (fun _ x h => by simp at h)
        | some k =>
          obtain ⟨k, q⟩ := k
          have hq := edge_no (k := k) (kind_no hr hk)
          obtain ⟨m1, m2⟩ := mark_ok (k := k) (d := d - 48) (e := (edgeCase k q).1) hq hs
          have ea := edge_app (k := k) (r := q) hs
          have ea1 : (edgeCase k (q ++ s)).1 = (edgeCase k q).1 := by rw [ea]
          have ea2 : (edgeCase k (q ++ s)).2 = (edgeCase k q).2 ++ s := by rw [ea]
          show (∀ j, (missCase (edgeCase k q).2).map (fun m => (⟨k, d - 48, (edgeCase k q).1, m⟩ : Jump)) = some j → some (endCase k (d - 48) (edgeCase k (q ++ s)).1 (edgeCase k (q ++ s)).2) = some (j, s)) ∧
            ((missCase (edgeCase k q).2).map (fun m => (⟨k, d - 48, (edgeCase k q).1, m⟩ : Jump)) = none → ∀ x, some (endCase k (d - 48) (edgeCase k (q ++ s)).1 (edgeCase k (q ++ s)).2) = some x → Bad x.2)
          rw [ea1, ea2]
          cases hm : missCase (edgeCase k q).2 with
          | none =>
            refine And.intro (fun j h => by cases h) fun _ x hx => ?_
            rw [← Option.some.inj hx]
            exact m2 hm
          | some m =>
            refine And.intro (fun j h => ?_) fun h => by cases h
            cases h
            rw [m1 m hm]
      · rw [if_neg cd, if_neg (by omega)]
        exact And.intro (fun j h => by cases h) (fun _ x h => by cases h)

/-! ### jumps with pluses between -/
theorem split_piece : ∀ t : Text, ∃ p s, t = p ++ s ∧ 43 ∉ p ∧ Tail s ∧ splitPlus t = p :: (match s with
    | [] => []
    | _ :: r => splitPlus r)
  | [] => ⟨[], [], rfl, by simp, .inl rfl, rfl⟩
  | b :: r => by
    by_cases c : b = 43
    · subst c
      exact ⟨[], 43 :: r, rfl, by simp, .inr ⟨r, rfl⟩, rfl⟩
    · obtain ⟨p, s, e, hp, hs, hq⟩ := split_piece r
      refine ⟨b :: p, s, by rw [e]; rfl, by simp [hp, Ne.symm c], hs, ?_⟩
      rw [splitPlus, if_neg c, hq]
theorem jumps_split : ∀ (n : Nat) (t : Text), Kg56.jumps? n t = if (splitPlus t).length ≤ n then allSome ((splitPlus t).map jumpOf) else none
  | 0, t => by
    obtain ⟨p, s, _, _, _, e⟩ := split_piece t
    rw [if_neg (by rw [e]; simp)]
    rfl
  | n + 1, t => by
    obtain ⟨p, s, e, hp, hs, hq⟩ := split_piece t
    obtain ⟨j1, j2⟩ := jump_piece hp hs
    rw [hq]
    subst e
    show ((Kg56.jump? (p ++ s)).bind fun x => match x.2 with
      | [] => some [x.1]
      | 43 :: r => (Kg56.jumps? n r).map fun l => x.1 :: l
      | _ => none) = _
    cases hj : jumpOf p with
    | none =>
      generalize (match s with
        | [] => []
        | _ :: r => splitPlus r) = tl
      have e0 : allSome ((p :: tl).map jumpOf) = none := by rw [List.map_cons, hj]; rfl
      have e1 : (if (p :: tl).length ≤ n + 1 then allSome ((p :: tl).map jumpOf) else none) = none := by
        rw [e0]
        split <;> rfl
      rw [e1]
      cases hx : Kg56.jump? (p ++ s) with
      | none => rfl
      | some x =>
        obtain ⟨b1, b2⟩ := j2 hj x hx
        obtain ⟨j, y⟩ := x
        show (match y with
          | [] => some [j]
          | 43 :: r => (Kg56.jumps? n r).map fun l => j :: l
          | _ => none) = none
        split
        · exact absurd rfl b1
        · exact absurd rfl (b2 _)
        · rfl
    | some j =>
      rw [j1 j hj]
      rcases hs with rfl | ⟨r, rfl⟩
      · show some [j] = if ([p] : List Text).length ≤ n + 1 then allSome ([p].map jumpOf) else none
        rw [if_pos (by simp), List.map_cons, hj]
        rfl
      · show (Kg56.jumps? n r).map (fun l => j :: l) = if (p :: splitPlus r).length ≤ n + 1 then allSome ((p :: splitPlus r).map jumpOf) else none
        rw [jumps_split n r, List.map_cons, hj]
        by_cases c : (splitPlus r).length ≤ n
        · rw [if_pos c, if_pos (by simp; omega)]
          rfl
        · rw [if_neg c, if_neg (by simp; omega)]
          rfl
theorem allSome_len : ∀ {l : List (Option Jump)} {js : List Jump}, allSome l = some js → js.length = l.length
  | [], js, h => by cases h; rfl
  | none :: _, js, h => by cases h
  | some j :: r, js, h => by
    have h' : (allSome r).map (j :: ·) = some js := h
    cases e : allSome r with
    | none => rw [e] at h'; cases h'
    | some q =>
      rw [e] at h'
      cases h'
      simp [allSome_len e]
theorem mayBe_right {l : List Jump} (h1 : 1 ≤ l.length) (h3 : l.length ≤ 3) : mayBe l = Kg56.rightJumps l := by
  match l with
  | [a] =>
    by_cases ca : a.kind = 6 <;> simp [mayBe, Kg56.rightJumps, List.range, List.range.loop, ca]
  | [a, b] =>
    by_cases ca : a.kind = 6 <;> by_cases cb : b.kind = 6 <;> simp [mayBe, Kg56.rightJumps, List.range, List.range.loop, ca, cb]
  | [a, b, c] =>
    by_cases ca : a.kind = 6 <;> by_cases cb : b.kind = 6 <;> by_cases cc : c.kind = 6 <;> (try have na : (a.kind == 6) = false := beq_eq_false_iff_ne.mpr ca) <;> (try have nc : (c.kind == 6) = false := beq_eq_false_iff_ne.mpr cc) <;> simp [mayBe, Kg56.rightJumps, List.range, List.range.loop, bne, *]
  | [] => simp at h1
  | _ :: _ :: _ :: _ :: _ => simp at h3
theorem split_pos (t : Text) : 1 ≤ (splitPlus t).length := by
  obtain ⟨p, s, _, _, _, e⟩ := split_piece t
  rw [e]; simp
theorem jumps_of (t : Text) : jumpsOf t = (Kg56.jumps? 3 t).bind fun l => if Kg56.rightJumps l = true then some l else none := by
  rw [jumps_split]
  unfold jumpsOf
  simp only [List.length_map]
  by_cases c : (splitPlus t).length ≤ 3
  · rw [if_neg (by omega), if_pos c]
    cases e : allSome ((splitPlus t).map jumpOf) with
    | none => rfl
    | some l =>
      have hl := allSome_len e
      rw [List.length_map] at hl
      have := split_pos t
      show (if mayBe l = true then some l else none) = if Kg56.rightJumps l = true then some l else none
      rw [mayBe_right (by omega) (by omega)]
  · rw [if_pos (by omega), if_neg c]
    rfl
/-- what begins as a jump -/
theorem jump_head {p : Text} {j : Jump} (h : jumpOf p = some j) : ∃ d r, p = d :: r ∧ (d = 69 ∨ (49 ≤ d ∧ d ≤ 52)) := by
  match p with
  | [] => simp [jumpOf] at h
  | d :: r =>
    refine ⟨d, r, rfl, ?_⟩
    by_cases c : d :: r = [69, 117]
    · exact .inl (List.cons.inj c).1
    · rw [jump_of c] at h
      by_cases cd : 48 < d ∧ d ≤ 52
      · exact .inr (by omega)
      · rw [if_neg cd] at h; cases h
theorem jumps_head {t : Text} {l : List Jump} (h : jumpsOf t = some l) : ∃ d r, t = d :: r ∧ (d = 69 ∨ (49 ≤ d ∧ d ≤ 52)) := by
  obtain ⟨p, s, e, hp, hs, hq⟩ := split_piece t
  have : ∃ j, jumpOf p = some j := by
    cases hj : jumpOf p with
    | some j => exact ⟨j, rfl⟩
    | none =>
      exfalso
      unfold jumpsOf at h
      rw [hq] at h
      generalize (match s with
        | [] => []
        | _ :: r => splitPlus r) = tl at h
      have h' : (if 3 < ((p :: tl).map jumpOf).length then none else match allSome ((p :: tl).map jumpOf) with
        | none => none
        | some l => if mayBe l = true then some l else none) = some l := h
      rw [List.map_cons, hj] at h'
      by_cases c3 : 3 < ((none : Option Jump) :: tl.map jumpOf).length
      · rw [if_pos c3] at h'; cases h'
      · rw [if_neg c3] at h'
        cases h'
  obtain ⟨j, hj⟩ := this
  obtain ⟨d, r, e1, e2⟩ := jump_head hj
  exact ⟨d, r ++ s, by rw [e, e1]; rfl, e2⟩

/-! ### spins, steps -/
def nameOf (row : Text) : Option Nat :=
  let fl := if row.take 1 = [70] then 1 else 0
  let left := row.drop fl
  let ch := if left.take 1 = [67] ∧ numberIn PARTS left = none then 1 else 0
  (numberIn PARTS (left.drop ch)).map fun last => 10 * fl + 5 * ch + last
def spinOf (t : Text) : Option Element := match numberIn LEVELS (t.drop (t.length - 1)) with
  | none => none
  | some v => if (t.drop (t.length - 3)).take (t.length - 1 - (t.length - 3)) = ascii "Sp" then (nameOf (t.take (t.length - 3))).map fun n => .spin n v else none
def stepsOf (t : Text) : Option Element := if t = ascii "ChSq1" then some .choreo else match numberIn LEVELS (t.drop 4) with
  | none => none
  | some v => if t.take 4 = ascii "StSq" then some (.steps v) else none
def elementOf (t : Text) : Option Element := match jumpsOf t with
  | some l => some (.jumps l)
  | none => match spinOf t with
    | some e => some e
    | none => stepsOf t
theorem level_is (t : Text) : numberIn LEVELS t = Kg56.level? t := by
  unfold Kg56.level?
  split
  · rfl
  · rename_i d hd
    by_cases c : 49 ≤ d ∧ d ≤ 52
    · rw [if_pos c]
      rcases (show d = 49 ∨ d = 50 ∨ d = 51 ∨ d = 52 by omega) with rfl | rfl | rfl | rfl <;> rfl
    · rw [if_neg c]
      have n1 : d ≠ 66 := fun e => hd (by rw [e])
      have n2 : d ≠ 49 := by omega
      have n3 : d ≠ 50 := by omega
      have n4 : d ≠ 51 := by omega
      have n5 : d ≠ 52 := by omega
      simp [numberIn, LEVELS, ascii, n1, n2, n3, n4, n5]
  · rename_i h1 h2
    match t with
    | [] => rfl
    | [a] => exact absurd rfl (h2 a)
    | a :: b :: q => simp [numberIn, LEVELS, ascii]
theorem level_one {t : Text} {v : Nat} (h : Kg56.level? t = some v) : (∃ c, t = [c]) ∧ v ≤ 4 := by
  unfold Kg56.level? at h
  split at h
  · cases h; exact ⟨⟨_, rfl⟩, by decide⟩
  · split at h
    · cases h; exact ⟨⟨_, rfl⟩, by omega⟩
    · cases h
  · cases h
def NAMES : List Text := ["", "F"].flatMap fun f => ["", "C"].flatMap fun c => ["U", "L", "C", "S", "Co"].map fun p => ascii (f ++ c ++ p)
theorem spins_names : Kg56.SPINS = NAMES.map fun w => w ++ ascii "Sp" := by decide
theorem parts_case {t : Text} {n : Nat} (h : numberIn PARTS t = some n) : n < 5 ∧ t = PARTS.getD n [] := by
  unfold numberIn at h
  obtain ⟨hl, h1, h2⟩ := List.findIdx?_eq_some_iff_getElem.mp h
  refine ⟨hl, ?_⟩
  rw [List.getD_eq_getElem?_getD, List.getElem?_eq_getElem hl]
  exact eq_of_beq h1
theorem name_get : ∀ n, n < 20 → nameOf (NAMES.getD n []) = some n := by decide
theorem name_is {row : Text} {n : Nat} (h : nameOf row = some n) : n < 20 ∧ row = NAMES.getD n [] := by
  unfold nameOf at h
  simp only at h
  generalize hf : (if row.take 1 = [70] then 1 else 0) = fl at h
  generalize hc : (if (row.drop fl).take 1 = [67] ∧ numberIn PARTS (row.drop fl) = none then 1 else 0) = ch at h
  cases hl : numberIn PARTS ((row.drop fl).drop ch) with
  | none => rw [hl] at h; cases h
  | some last =>
    rw [hl] at h
    have hn : 10 * fl + 5 * ch + last = n := Option.some.inj h
    obtain ⟨l5, el⟩ := parts_case hl
    have h1 : row.drop fl = (if ch = 1 then [67] else []) ++ PARTS.getD last [] := by
      by_cases c : (row.drop fl).take 1 = [67] ∧ numberIn PARTS (row.drop fl) = none
      · rw [if_pos c] at hc
        subst hc
        rw [if_pos rfl, ← el, ← c.1]
        exact (List.take_append_drop 1 _).symm
      · rw [if_neg c] at hc
        subst hc
        rw [if_neg (by decide), ← el]; rfl
    have h2 : row = (if fl = 1 then [70] else []) ++ row.drop fl := by
      by_cases c : row.take 1 = [70]
      · rw [if_pos c] at hf
        subst hf
        rw [if_pos rfl, ← c]
        exact (List.take_append_drop 1 _).symm
      · rw [if_neg c] at hf
        subst hf
        rw [if_neg (by decide)]; rfl
    have f1 : fl = 0 ∨ fl = 1 := by subst hf; split <;> simp
    have c1 : ch = 0 ∨ ch = 1 := by subst hc; split <;> simp
    rw [h1] at h2
    subst hn
    rw [h2]
    rcases f1 with rfl | rfl <;> rcases c1 with rfl | rfl <;> (rcases (show last = 0 ∨ last = 1 ∨ last = 2 ∨ last = 3 ∨ last = 4 by omega) with rfl | rfl | rfl | rfl | rfl) <;> exact ⟨by decide, rfl⟩
theorem spin_shape {t : Text} {n v : Nat} : spinOf t = some (.spin n v) ↔ ∃ c, t = Kg56.SPINS.getD n [] ++ [c] ∧ Kg56.level? [c] = some v ∧ n < 20 := by
  unfold spinOf
  rw [level_is]
  constructor
  · intro h
    cases hv : Kg56.level? (t.drop (t.length - 1)) with
    | none => rw [hv] at h; cases h
    | some w =>
      rw [hv] at h
      obtain ⟨⟨c, ec⟩, _⟩ := level_one hv
      have h' : (if (t.drop (t.length - 3)).take (t.length - 1 - (t.length - 3)) = ascii "Sp" then (nameOf (t.take (t.length - 3))).map (fun n => Element.spin n w) else none) = some (.spin n v) := h
      by_cases cs : (t.drop (t.length - 3)).take (t.length - 1 - (t.length - 3)) = ascii "Sp"
      · rw [if_pos cs] at h'
        cases hn : nameOf (t.take (t.length - 3)) with
        | none => rw [hn] at h'; cases h'
        | some m =>
          rw [hn] at h'
          cases h'
          obtain ⟨m1, m2⟩ := name_is hn
          rw [ec] at hv
          refine ⟨c, ?_, hv, m1⟩
          have l3 : 3 ≤ t.length := by
            have q := congrArg List.length cs
            rw [List.length_take, List.length_drop] at q
            have q2 : (ascii "Sp").length = 2 := rfl
            omega
          have e1 : t = t.take (t.length - 3) ++ ((t.drop (t.length - 3)).take 2 ++ t.drop (t.length - 1)) := by
            have a1 : t.drop (t.length - 1) = (t.drop (t.length - 3)).drop 2 := by rw [List.drop_drop]; congr 1; omega
            rw [a1, List.take_append_drop, List.take_append_drop]
          have e2 : t.length - 1 - (t.length - 3) = 2 := by omega
          rw [e2] at cs
          rw [cs, ec, m2] at e1
          rw [e1, spins_names, List.getD_eq_getElem?_getD, List.getD_eq_getElem?_getD, List.getElem?_map]
          rcases (show ∃ x, NAMES[n]? = some x from ⟨_, List.getElem?_eq_getElem (show n < NAMES.length from m1)⟩) with ⟨x, hx⟩
          rw [hx]
          simp
      · rw [if_neg cs] at h'; cases h'
  · rintro ⟨c, rfl, hv, hn⟩
    have e0 : Kg56.SPINS.getD n [] = NAMES.getD n [] ++ ascii "Sp" := by
      rw [spins_names, List.getD_eq_getElem?_getD, List.getD_eq_getElem?_getD, List.getElem?_map, List.getElem?_eq_getElem (show n < NAMES.length from hn)]
      rfl
    rw [e0]
    generalize hw : NAMES.getD n [] = w
    have hs2 : (ascii "Sp").length = 2 := rfl
    have len : (w ++ ascii "Sp" ++ [c]).length = w.length + 3 := by simp [hs2]
    have d1 : (w ++ ascii "Sp" ++ [c]).drop ((w ++ ascii "Sp" ++ [c]).length - 1) = [c] := by
      rw [len]
      exact List.drop_left' (by simp [hs2])
    have d2 : (w ++ ascii "Sp" ++ [c]).drop ((w ++ ascii "Sp" ++ [c]).length - 3) = ascii "Sp" ++ [c] := by
      rw [len, List.append_assoc]
      exact List.drop_left' (by omega)
    have d3 : (w ++ ascii "Sp" ++ [c]).take ((w ++ ascii "Sp" ++ [c]).length - 3) = w := by
      rw [len, List.append_assoc]
      exact List.take_left' (by omega)
    rw [d1, hv, d2, d3]
    have e2 : (w ++ ascii "Sp" ++ [c]).length - 1 - ((w ++ ascii "Sp" ++ [c]).length - 3) = 2 := by rw [len]; omega
    rw [e2]
    have e3 : (ascii "Sp" ++ [c]).take 2 = ascii "Sp" := rfl
    show (if (ascii "Sp" ++ [c]).take 2 = ascii "Sp" then (nameOf w).map (fun n => Element.spin n v) else none) = _
    rw [if_pos e3, ← hw, name_get n hn]
    rfl
theorem spin_only {t : Text} {e : Element} (h : spinOf t = some e) : ∃ n v, e = .spin n v := by
  unfold spinOf at h
  split at h
  · cases h
  · split at h
    · rename_i v _ _
      cases hn : nameOf (t.take (t.length - 3)) with
      | none => rw [hn] at h; cases h
      | some m => rw [hn] at h; cases h; exact ⟨_, _, rfl⟩
    · cases h
/-- no spin's name with Sp begins another's -/
theorem spins_apart : ∀ i, i < 20 → ∀ j, j < 20 → Kg56.startsWith (Kg56.SPINS.getD i []) (Kg56.SPINS.getD j []) = true → i = j := by decide
theorem starts_app {p t s : Text} (h : Kg56.startsWith p t = true) : Kg56.startsWith p (t ++ s) = true := by
  unfold Kg56.startsWith at h ⊢
  have e := eq_of_beq h
  have hl : p.length ≤ t.length := by
    have q := congrArg List.length e
    rw [List.length_take] at q
    omega
  rw [List.take_append_of_le_length hl]
  exact h
theorem starts_of {p t s : Text} (h : Kg56.startsWith p (t ++ s) = true) (hl : p.length ≤ t.length) : Kg56.startsWith p t = true := by
  unfold Kg56.startsWith at h ⊢
  rw [List.take_append_of_le_length hl] at h
  exact h
/-- the specification's way with spins -/
def specSpin (t : Text) : Option Element := ((List.range Kg56.SPINS.length).find? fun i => Kg56.startsWith (Kg56.SPINS.getD i []) t).bind fun i => (Kg56.level? (t.drop (Kg56.SPINS.getD i []).length)).map fun v => .spin i v
theorem starts_self (p s : Text) : Kg56.startsWith p (p ++ s) = true := by
  unfold Kg56.startsWith
  rw [List.take_left' rfl]
  exact beq_self_eq_true p
theorem starts_eq {p t : Text} (h : Kg56.startsWith p t = true) : t = p ++ t.drop p.length := by
  have e := eq_of_beq (show (t.take p.length == p) = true from h)
  calc t = t.take p.length ++ t.drop p.length := (List.take_append_drop _ _).symm
    _ = p ++ t.drop p.length := by rw [e]
/-- of two that begin a text one begins the other -/
theorem starts_two {p q t : Text} (hp : Kg56.startsWith p t = true) (hq : Kg56.startsWith q t = true) (h : p.length ≤ q.length) : Kg56.startsWith p q = true := by
  have e := starts_eq hq
  rw [e] at hp
  exact starts_of hp h
theorem spin_spec (t : Text) : spinOf t = specSpin t ∧ (∀ n v, spinOf t = some (.spin n v) → Kg56.startsWith (Kg56.SPINS.getD n []) t = true) := by
  have back : ∀ n v, spinOf t = some (.spin n v) → Kg56.startsWith (Kg56.SPINS.getD n []) t = true := fun n v h => by
    obtain ⟨c, e, _, _⟩ := spin_shape.mp h
    rw [e]
    exact starts_self _ _
  refine ⟨?_, back⟩
  have to : ∀ n v, spinOf t = some (.spin n v) → specSpin t = some (.spin n v) := fun n v h => by
    obtain ⟨c, e, hv, hn⟩ := spin_shape.mp h
    have hs := back n v h
    unfold specSpin
    cases hf : (List.range Kg56.SPINS.length).find? (fun i => Kg56.startsWith (Kg56.SPINS.getD i []) t) with
    | none =>
      have := List.find?_eq_none.mp hf n (List.mem_range.mpr hn)
      exact absurd hs this
    | some i =>
      have hi : Kg56.startsWith (Kg56.SPINS.getD i []) t = true := List.find?_some (p := fun i => Kg56.startsWith (Kg56.SPINS.getD i []) t) hf
      have hi2 : i < 20 := List.mem_range.mp (List.mem_of_find?_eq_some hf)
      have : i = n := by
        rcases Nat.le_total (Kg56.SPINS.getD i []).length (Kg56.SPINS.getD n []).length with q | q
        · exact spins_apart i hi2 n hn (starts_two hi hs q)
        · exact (spins_apart n hn i hi2 (starts_two hs hi q)).symm
      subst this
      show (Kg56.level? (t.drop (Kg56.SPINS.getD i []).length)).map (fun v => Element.spin i v) = _
      rw [e, List.drop_left' rfl, hv]
      rfl
  cases h : spinOf t with
  | some e =>
    obtain ⟨n, v, rfl⟩ := spin_only h
    exact (to n v h).symm
  | none =>
    unfold specSpin
    cases hf : (List.range Kg56.SPINS.length).find? (fun i => Kg56.startsWith (Kg56.SPINS.getD i []) t) with
    | none => rfl
    | some i =>
      have hi : Kg56.startsWith (Kg56.SPINS.getD i []) t = true := List.find?_some (p := fun i => Kg56.startsWith (Kg56.SPINS.getD i []) t) hf
      have hi2 : i < 20 := List.mem_range.mp (List.mem_of_find?_eq_some hf)
      show none = (Kg56.level? (t.drop (Kg56.SPINS.getD i []).length)).map (fun v => Element.spin i v)
      cases hv : Kg56.level? (t.drop (Kg56.SPINS.getD i []).length) with
      | none => rfl
      | some v =>
        obtain ⟨⟨c, ec⟩, _⟩ := level_one hv
        have e := starts_eq hi
        rw [ec] at e hv
        have := spin_shape.mpr ⟨c, e, hv, hi2⟩
        rw [h] at this
        cases this
theorem spins_head : ∀ i, i < 20 → (Kg56.SPINS.getD i []).head? = some 70 ∨ (Kg56.SPINS.getD i []).head? = some 67 ∨ (Kg56.SPINS.getD i []).head? = some 85 ∨ (Kg56.SPINS.getD i []).head? = some 76 ∨ (Kg56.SPINS.getD i []).head? = some 83 := by decide
theorem starts_head {p t : Text} {d : Nat} (h : Kg56.startsWith p t = true) (hp : p.head? = some d) : t.head? = some d := by
  rw [starts_eq h]
  match p with
  | [] => cases hp
  | a :: q => exact hp
theorem spins_steps : ∀ i, i < 20 → (Kg56.SPINS.getD i []).take 4 ≠ ascii "StSq" ∧ Kg56.startsWith (Kg56.SPINS.getD i []) (ascii "StSq") = false ∧ Kg56.startsWith (Kg56.SPINS.getD i []) (ascii "ChSq1") = false ∧ Kg56.startsWith (ascii "StSq") (Kg56.SPINS.getD i []) = false := by decide
/-- **An element read**, by both -/
theorem element_of (t : Text) : elementOf t = Kg56.element? t := by
  have none_jumps : ∀ {d : Nat}, t.head? = some d → d ≠ 69 → ¬ (49 ≤ d ∧ d ≤ 52) → jumpsOf t = none := fun {d} hd h1 h2 => by
    cases h : jumpsOf t with
    | none => rfl
    | some l =>
      obtain ⟨d', r, e, h3⟩ := jumps_head h
      rw [e] at hd
      cases hd
      rcases h3 with h3 | h3
      · exact absurd h3 h1
      · exact absurd h3 h2
  have none_spin : (∀ i, i < 20 → Kg56.startsWith (Kg56.SPINS.getD i []) t = false) → spinOf t = none := fun hn => by
    cases h : spinOf t with
    | none => rfl
    | some e =>
      obtain ⟨n, v, rfl⟩ := spin_only h
      have h1 := (spin_spec t).2 n v h
      obtain ⟨_, _, _, hn20⟩ := spin_shape.mp h
      rw [hn n hn20] at h1
      cases h1
  unfold Kg56.element? elementOf
  by_cases c1 : t = ascii "ChSq1"
  · rw [if_pos c1, none_jumps (d := 67) (by rw [c1]; rfl) (by decide) (by decide), none_spin (fun i hi => by rw [c1]; exact (spins_steps i hi).2.2.1)]
    show stepsOf t = _
    unfold stepsOf
    rw [if_pos c1]
  · rw [if_neg c1]
    by_cases c2 : Kg56.startsWith (ascii "StSq") t = true
    · have ht : t.head? = some 83 := starts_head c2 rfl
      have no : ∀ i, i < 20 → Kg56.startsWith (Kg56.SPINS.getD i []) t = false := fun i hi => by
        cases h : Kg56.startsWith (Kg56.SPINS.getD i []) t with
        | false => rfl
        | true =>
          rcases Nat.le_total (Kg56.SPINS.getD i []).length (ascii "StSq").length with q | q
          · have := starts_two h c2 q
            rw [(spins_steps i hi).2.1] at this
            cases this
          · have := starts_two c2 h q
            rw [(spins_steps i hi).2.2.2] at this
            cases this
      rw [if_pos c2, none_jumps ht (by decide) (by decide), none_spin no]
      show stepsOf t = _
      unfold stepsOf
      have e4 : t.take 4 = ascii "StSq" := eq_of_beq (show (t.take (ascii "StSq").length == ascii "StSq") = true from c2)
      rw [if_neg c1, level_is]
      cases Kg56.level? (t.drop 4) with
      | none => rfl
      | some v =>
        show (if t.take 4 = ascii "StSq" then some (Element.steps v) else none) = _
        rw [if_pos e4]
        rfl
    · rw [if_neg c2]
      have hst : stepsOf t = none := by
        unfold stepsOf
        rw [if_neg c1]
        split
        · rfl
        · rw [if_neg]
          intro e
          exact c2 (show (t.take (ascii "StSq").length == ascii "StSq") = true from (by
            show (t.take 4 == ascii "StSq") = true
            rw [e]
            exact beq_self_eq_true _))
      have e3 := (spin_spec t).1
      cases hf : (List.range Kg56.SPINS.length).find? (fun i => Kg56.startsWith (Kg56.SPINS.getD i []) t) with
      | some i =>
        have hi : Kg56.startsWith (Kg56.SPINS.getD i []) t = true := List.find?_some (p := fun i => Kg56.startsWith (Kg56.SPINS.getD i []) t) hf
        have hi2 : i < 20 := List.mem_range.mp (List.mem_of_find?_eq_some hf)
        have hj : jumpsOf t = none := by
          rcases spins_head i hi2 with h | h | h | h | h
          · exact none_jumps (starts_head hi h) (by decide) (by decide)
          · exact none_jumps (starts_head hi h) (by decide) (by decide)
          · exact none_jumps (starts_head hi h) (by decide) (by decide)
          · exact none_jumps (starts_head hi h) (by decide) (by decide)
          · exact none_jumps (starts_head hi h) (by decide) (by decide)
        rw [hj]
        show (match spinOf t with
          | some e => some e
          | none => stepsOf t) = _
        rw [e3, hst]
        unfold specSpin
        rw [hf]
        show (match (Kg56.level? (t.drop (Kg56.SPINS.getD i []).length)).map (fun v => Element.spin i v) with
          | some e => some e
          | none => none) = (Kg56.level? (t.drop (Kg56.SPINS.getD i []).length)).map (fun v => Element.spin i v)
        cases (Kg56.level? (t.drop (Kg56.SPINS.getD i []).length)).map (fun v => Element.spin i v) <;> rfl
      | none =>
        have hs : spinOf t = none := by
          rw [e3]
          unfold specSpin
          rw [hf]
          rfl
        rw [hs, hst, jumps_of]
        show _ = (Kg56.jumps? 3 t).bind fun l => if Kg56.rightJumps l = true then some (Element.jumps l) else none
        cases Kg56.jumps? 3 t with
        | none => rfl
        | some l =>
          show (match (if Kg56.rightJumps l = true then some l else none) with
            | some l => some (Element.jumps l)
            | none => none) = if Kg56.rightJumps l = true then some (Element.jumps l) else none
          by_cases c : Kg56.rightJumps l = true
          · rw [if_pos c, if_pos c]
          · rw [if_neg c, if_neg c]
/-! ### the pieces, from the left -/
theorem split_snoc (b : Nat) : ∀ t : Text, ∃ init last, splitPlus t = init ++ [last] ∧ splitPlus (t ++ [b]) = if b = 43 then init ++ [last] ++ [[]] else init ++ [last ++ [b]]
  | [] => ⟨[], [], rfl, by
    show splitPlus [b] = _
    rw [splitPlus]
    by_cases c : b = 43
    · rw [if_pos c, if_pos c]; rfl
    · rw [if_neg c, if_neg c]; rfl⟩
  | x :: t => by
    obtain ⟨init, last, h1, h2⟩ := split_snoc b t
    by_cases cx : x = 43
    · refine ⟨[] :: init, last, by rw [splitPlus, if_pos cx, h1]; rfl, ?_⟩
      rw [List.cons_append, splitPlus, if_pos cx, h2]
      split <;> rfl
    · cases init with
      | nil =>
        refine ⟨[], x :: last, by rw [splitPlus, if_neg cx, h1]; rfl, ?_⟩
        rw [List.cons_append, splitPlus, if_neg cx, h2]
        by_cases cb : b = 43
        · rw [if_pos cb, if_pos cb]; rfl
        · rw [if_neg cb, if_neg cb]; rfl
      | cons f r =>
        refine ⟨(x :: f) :: r, last, by rw [splitPlus, if_neg cx, h1]; rfl, ?_⟩
        rw [List.cons_append, splitPlus, if_neg cx, h2]
        by_cases cb : b = 43
        · rw [if_pos cb, if_pos cb]; rfl
        · rw [if_neg cb, if_neg cb]; rfl
theorem split_sizes : ∀ t : Text, (splitPlus t).length ≤ t.length + 1 ∧ ∀ p ∈ splitPlus t, p.length ≤ t.length
  | [] => ⟨by simp [splitPlus], fun p hp => by simp [splitPlus] at hp; simp [hp]⟩
  | x :: t => by
    obtain ⟨h1, h2⟩ := split_sizes t
    rw [splitPlus]
    by_cases c : x = 43
    · rw [if_pos c]
      refine ⟨by simp only [List.length_cons]; omega, fun p hp => ?_⟩
      rcases List.mem_cons.mp hp with e | m
      · subst e; simp
      · have := h2 p m; simp only [List.length_cons]; omega
    · rw [if_neg c]
      cases hs : splitPlus t with
      | nil => exact ⟨by simp, fun p hp => by simp at hp; subst hp; simp⟩
      | cons f r =>
        rw [hs] at h1 h2
        refine ⟨by simp only [List.length_cons] at h1 ⊢; omega, fun p hp => ?_⟩
        rcases List.mem_cons.mp hp with e | m
        · subst e
          have := h2 f List.mem_cons_self
          simp only [List.length_cons]; omega
        · have := h2 p (List.mem_cons_of_mem _ m)
          simp only [List.length_cons]; omega
end Sk

set_option Elab.async false
/-! A program: which elements count, what they come to. The program's way and the specification's. Plain Lean. -/
namespace Sk
open Kg56 (Jump Element Told Gone)

/-! ### what a text can be -/
def JWf (j : Jump) : Prop := (j.kind = 6 ∧ j.turns = 1 ∧ j.edge = 0 ∧ j.less = 0 ∨ j.kind < 6 ∧ 1 ≤ j.turns ∧ j.turns ≤ 4) ∧ j.edge < 3 ∧ j.less < 4
def EWf : Element → Prop
  | .jumps l => 1 ≤ l.length ∧ l.length ≤ 3 ∧ ∀ j ∈ l, JWf j
  | .spin n v => n < 20 ∧ v ≤ 4
  | .steps v => v ≤ 4
  | .choreo => True
theorem miss_lt {t : Kg56.Text} {m : Nat} (h : missCase t = some m) : m < 4 := by
  unfold missCase at h
  split at h <;> cases h <;> decide
theorem edge_lt (k : Nat) (t : Kg56.Text) : (edgeCase k t).1 < 3 := by
  unfold edgeCase
  split
  · split
    · exact (by decide : 1 < 3)
    · exact (by decide : 0 < 3)
  · split
    · exact (by decide : 2 < 3)
    · exact (by decide : 0 < 3)
  · exact (by decide : 0 < 3)
theorem jump_wf {p : Kg56.Text} {j : Jump} (h : jumpOf p = some j) : JWf j := by
  obtain ⟨d, r, rfl, _⟩ := jump_head h
  by_cases c : d :: r = [69, 117]
  · have : j = ⟨6, 1, 0, 0⟩ := by
      have h' : jumpOf [69, 117] = some j := by rw [← c]; exact h
      exact (Option.some.inj h').symm
    subst this
    exact ⟨.inl ⟨rfl, rfl, rfl, rfl⟩, by decide, by decide⟩
  · rw [jump_of c] at h
    by_cases cd : 48 < d ∧ d ≤ 52
    · rw [if_pos cd] at h
      cases hk : kindCase r with
      | none => rw [hk] at h; cases h
      | some k =>
        obtain ⟨k, q⟩ := k
        rw [hk] at h
        have h' : (missCase (edgeCase k q).2).map (fun m => (⟨k, d - 48, (edgeCase k q).1, m⟩ : Jump)) = some j := h
        cases hm : missCase (edgeCase k q).2 with
        | none => rw [hm] at h'; cases h'
        | some m =>
          rw [hm] at h'
          cases h'
          exact ⟨.inr ⟨(kind_drop hk).2, by show 1 ≤ d - 48; omega, by show d - 48 ≤ 4; omega⟩, edge_lt k q, miss_lt hm⟩
    · rw [if_neg cd] at h; cases h
theorem allSome_mem : ∀ {l : List (Option Jump)} {js : List Jump}, allSome l = some js → l = js.map some
  | [], js, h => by cases h; rfl
  | none :: _, js, h => by cases h
  | some j :: r, js, h => by
    have h' : (allSome r).map (j :: ·) = some js := h
    cases e : allSome r with
    | none => rw [e] at h'; cases h'
    | some q =>
      rw [e] at h'
      cases h'
      rw [allSome_mem e]
      rfl
theorem element_wf {t : Kg56.Text} {e : Element} (h : elementOf t = some e) : EWf e := by
  unfold elementOf at h
  cases hj : jumpsOf t with
  | some l =>
    rw [hj] at h
    have e1 : e = .jumps l := (Option.some.inj h).symm
    subst e1
    unfold jumpsOf at hj
    by_cases c3 : 3 < ((splitPlus t).map jumpOf).length
    · rw [if_pos c3] at hj; cases hj
    · rw [if_neg c3] at hj
      cases ha : allSome ((splitPlus t).map jumpOf) with
      | none => rw [ha] at hj; cases hj
      | some js =>
        rw [ha] at hj
        by_cases cm : mayBe js = true
        · have : js = l := by
            have hj' : (if mayBe js = true then some js else none) = some l := hj
            rw [if_pos cm] at hj'
            exact Option.some.inj hj'
          subst this
          have hl := allSome_len ha
          have hm := allSome_mem ha
          rw [List.length_map] at hl c3
          have := split_pos t
          refine ⟨by omega, by omega, fun j hjm => ?_⟩
          have : some j ∈ (splitPlus t).map jumpOf := by rw [hm]; exact List.mem_map.mpr ⟨j, hjm, rfl⟩
          obtain ⟨p, _, hp⟩ := List.mem_map.mp this
          exact jump_wf hp
        · have hj' : (if mayBe js = true then some js else none) = some l := hj
          rw [if_neg cm] at hj'
          cases hj'
  | none =>
    rw [hj] at h
    cases hs : spinOf t with
    | some x =>
      rw [hs] at h
      have e1 : x = e := Option.some.inj h
      subst e1
      obtain ⟨n, v, rfl⟩ := spin_only hs
      obtain ⟨c, _, hv, hn⟩ := spin_shape.mp hs
      exact ⟨hn, (level_one hv).2⟩
    | none =>
      rw [hs] at h
      have h' : stepsOf t = some e := h
      unfold stepsOf at h'
      by_cases c1 : t = Kg56.ascii "ChSq1"
      · rw [if_pos c1] at h'
        cases h'
        exact True.intro
      · rw [if_neg c1, level_is] at h'
        cases hv : Kg56.level? (t.drop 4) with
        | none => rw [hv] at h'; cases h'
        | some v =>
          rw [hv] at h'
          have h2 : (if t.take 4 = Kg56.ascii "StSq" then some (Element.steps v) else none) = some e := h'
          by_cases c2 : t.take 4 = Kg56.ascii "StSq"
          · rw [if_pos c2] at h2
            cases h2
            exact (level_one hv).2
          · rw [if_neg c2] at h2; cases h2

/-! ### worths -/
/-- what a jump is worth but for an edge and what's missing below half a turn -/
def whole (j : Jump) : Nat := if j.kind = 6 then 50 else (if j.less = 3 then (if j.turns ≤ 1 then 0 else (Kg56.TABLE.getD j.kind []).getD (j.turns - 2) 0) else (Kg56.TABLE.getD j.kind []).getD (j.turns - 1) 0)
theorem worth_pos : ∀ k, k < 6 → ∀ t, t < 5 → ∀ e, e < 3 → ∀ l, l < 4 → (t < 3 ∨ (0 < Jump.worth ⟨k, t, e, l⟩ ∧ 0 < Kg56.part (Jump.worth ⟨k, t, e, l⟩) 70)) := by decide +kernel
theorem worth_le : ∀ k, k < 7 → ∀ t, t < 5 → ∀ e, e < 3 → ∀ l, l < 4 → Jump.worth ⟨k, t, e, l⟩ ≤ 1250 ∧ whole ⟨k, t, e, l⟩ ≤ 1250 := by decide +kernel
theorem JWf.le {j : Jump} (h : JWf j) : j.worth ≤ 1250 ∧ whole j ≤ 1250 := by
  obtain ⟨k, t, e, l⟩ := j
  obtain ⟨h1, h2, h3⟩ := h
  exact worth_le k (by rcases h1 with h | h <;> simp at h <;> omega) t (by rcases h1 with h | h <;> simp at h <;> omega) e h2 l h3
theorem JWf.pos {j : Jump} (h : JWf j) (h3 : 3 ≤ j.turns) : 0 < j.worth ∧ 0 < Kg56.part j.worth 70 ∧ j.kind ≠ 6 := by
  obtain ⟨k, t, e, l⟩ := j
  obtain ⟨h1, h2, h4⟩ := h
  have hk : k < 6 ∧ t < 5 := by rcases h1 with h | h <;> simp at h h3 <;> omega
  obtain ⟨p1, p2⟩ := (worth_pos k hk.1 t hk.2 e h2 l h4).resolve_left (by have : 3 ≤ t := h3; omega)
  exact ⟨p1, p2, by show k ≠ 6; omega⟩
theorem JWf.worth {j : Jump} (h : JWf j) : j.worth = if j.less = 2 ∧ j.edge = 1 then Kg56.part (whole j) 60 else if j.less = 2 ∨ j.edge = 1 then Kg56.part (whole j) 80 else whole j := by
  unfold Kg56.Jump.worth whole
  by_cases c : j.kind = 6
  · have q : j.edge = 0 ∧ j.less = 0 := by rcases h.1 with h | h <;> omega
    rw [if_pos c, if_pos c, if_neg (by omega), if_neg (by omega)]
  · rw [if_neg c, if_neg c]
theorem part_all (v : Nat) : Kg56.part v 100 = v := by unfold Kg56.part; omega
theorem part_none (v : Nat) : Kg56.part v 0 = 0 := by unfold Kg56.part; omega

/-! ### jumps that come again -/
abbrev Seen := List ((Nat × Nat) × Bool)
def before (seen : Seen) (j : Jump) : List Bool := (seen.filter fun x => x.1 == (j.kind, j.turns)).map (·.2)
def jumpWorth (free : Bool) (seen : Seen) (j : Jump) (inRow : Bool) : Nat :=
  if j.turns < 3 ∨ before seen j = [] then j.worth
  else if free = false ∨ 2 ≤ (before seen j).length then 0
  else if inRow = true ∨ (before seen j).getD 0 false = true then j.worth
  else Kg56.part j.worth 70
structure Acc where
  seen : Seen
  plain : Nat
  by_ : Nat
def takeOne (free inRow : Bool) (a : Acc) (j : Jump) : Acc :=
  if 0 < jumpWorth free a.seen j inRow then ⟨a.seen ++ [((j.kind, j.turns), inRow)], a.plain + jumpWorth free a.seen j inRow, max a.by_ j.worth⟩ else a
def great (seen : Seen) : Seen := seen.filter fun x => decide (3 ≤ x.1.2)
theorem before_great {seen : Seen} {j : Jump} (h : 3 ≤ j.turns) : before seen j = ((great seen).filter fun x => x.1 == (j.kind, j.turns)).map (·.2) := by
  unfold before great
  rw [List.filter_filter]
  congr 1
  refine List.filter_congr fun x _ => ?_
  by_cases c : x.1 = (j.kind, j.turns)
  · rw [c]; simp [h]
  · have : (x.1 == (j.kind, j.turns)) = false := beq_eq_false_iff_ne.mpr c
    rw [this]; rfl
/-- the share of the next jump -/
def share (free inRow : Bool) (done : Seen) (j : Jump) : Nat :=
  if j.kind = 6 ∨ j.turns < 3 then 100 else
    let was := done.filter fun x => x.1 == (j.kind, j.turns)
    if was = [] then 100 else if free = false ∨ 2 ≤ was.length then 0 else if inRow = false ∧ was.all (fun x => !x.2) = true then 70 else 100
def doneThen (free inRow : Bool) (done : Seen) (j : Jump) : Seen :=
  if j.kind = 6 ∨ j.turns < 3 then done else
    let was := done.filter fun x => x.1 == (j.kind, j.turns)
    if was ≠ [] ∧ (free = false ∨ 2 ≤ was.length) then done else done ++ [((j.kind, j.turns), inRow)]
theorem shares_cons (free inRow : Bool) (done : Seen) (j : Jump) (r : List Jump) : Kg56.shares free inRow done (j :: r) = share free inRow done j :: Kg56.shares free inRow (doneThen free inRow done j) r := by
  rw [Kg56.shares]
  unfold share doneThen
  by_cases c : j.kind = 6 ∨ j.turns < 3
  · rw [if_pos c, if_pos c, if_pos c]
  · rw [if_neg c, if_neg c, if_neg c]
    simp only
    generalize hw : done.filter (fun x => x.1 == (j.kind, j.turns)) = was
    by_cases c1 : was = []
    · simp [c1]
    · by_cases c2 : free = false ∨ 2 ≤ was.length
      · simp [c1, c2]
      · by_cases c3 : inRow = false ∧ was.all (fun x => !x.2) = true <;> simp only [c1, c2, c3, if_true, if_false, not_false_eq_true, ne_eq, and_false, and_true] <;> rfl
theorem rowDone_cons (free inRow : Bool) (done : Seen) (j : Jump) (r : List Jump) : Kg56.rowDone free inRow done (j :: r) = Kg56.rowDone free inRow (doneThen free inRow done j) r := by
  rw [Kg56.rowDone]
  unfold doneThen
  by_cases c : j.kind = 6 ∨ j.turns < 3
  · rw [if_pos c, if_pos c]
  · rw [if_neg c, if_neg c]
theorem jump_share {free inRow : Bool} {seen : Seen} {j : Jump} (h : JWf j) : jumpWorth free seen j inRow = Kg56.part j.worth (share free inRow (great seen) j) := by
  unfold jumpWorth share
  by_cases c : j.turns < 3
  · rw [if_pos (.inl c), if_pos (.inr c), part_all]
  · obtain ⟨p1, p2, p3⟩ := h.pos (by omega)
    rw [before_great (by omega)]
    have c' : ¬ (j.kind = 6 ∨ j.turns < 3) := by omega
    rw [if_neg c']
    simp only
    generalize (great seen).filter (fun x => x.1 == (j.kind, j.turns)) = was
    by_cases c1 : was = []
    · rw [c1]
      rw [if_pos (Or.inr (by rfl)), if_pos (by rfl), part_all]
    · rw [if_neg (show ¬ (j.turns < 3 ∨ was.map (·.2) = []) by simp [c, c1]), if_neg c1, List.length_map]
      by_cases c2 : free = false ∨ 2 ≤ was.length
      · rw [if_pos c2, if_pos c2, part_none]
      · rw [if_neg c2, if_neg c2]
        match was with
        | [] => exact absurd rfl c1
        | [x] =>
          obtain ⟨kt, b⟩ := x
          cases inRow <;> cases b <;> simp [part_all]
        | _ :: _ :: _ => exact absurd (Or.inr (by simp)) c2
theorem great_snoc {seen : Seen} {x : (Nat × Nat) × Bool} : great (seen ++ [x]) = if 3 ≤ x.1.2 then great seen ++ [x] else great seen := by
  unfold great
  rw [List.filter_append]
  by_cases c : 3 ≤ x.1.2 <;> simp [c]
theorem take_great {free inRow : Bool} {a : Acc} {j : Jump} (h : JWf j) : great (takeOne free inRow a j).seen = doneThen free inRow (great a.seen) j := by
  unfold takeOne
  rw [jump_share h]
  by_cases c : j.turns < 3
  · unfold doneThen
    rw [if_pos (show j.kind = 6 ∨ j.turns < 3 from .inr c)]
    split
    · show great (a.seen ++ _) = _
      rw [great_snoc, if_neg (by show ¬ 3 ≤ j.turns; omega)]
    · rfl
  · obtain ⟨p1, p2, p3⟩ := h.pos (by omega)
    have c' : ¬ (j.kind = 6 ∨ j.turns < 3) := by omega
    unfold doneThen share
    rw [if_neg c', if_neg c']
    simp only
    generalize hw : (great a.seen).filter (fun x => x.1 == (j.kind, j.turns)) = was
    have snoc : great (a.seen ++ [((j.kind, j.turns), inRow)]) = great a.seen ++ [((j.kind, j.turns), inRow)] := by rw [great_snoc, if_pos (by show 3 ≤ j.turns; omega)]
    by_cases c1 : was = []
    · rw [if_pos c1, part_all, if_pos p1, if_neg (fun h => h.1 c1)]
      exact snoc
    · rw [if_neg c1]
      by_cases c2 : free = false ∨ 2 ≤ was.length
      · rw [if_pos c2, part_none, if_neg (Nat.lt_irrefl 0), if_pos ⟨c1, c2⟩]
      · rw [if_neg c2, if_neg (show ¬ (was ≠ [] ∧ (free = false ∨ 2 ≤ was.length)) from fun h => c2 h.2)]
        by_cases c3 : inRow = false ∧ was.all (fun x => !x.2) = true
        · rw [if_pos c3, if_pos p2]
          exact snoc
        · rw [if_neg c3, part_all, if_pos p1]
          exact snoc
def taken (free inRow : Bool) (a : Acc) (l : List Jump) : Acc := l.foldl (takeOne free inRow) a
theorem taken_is (free inRow : Bool) : ∀ (l : List Jump) (a : Acc), (∀ j ∈ l, JWf j) →
    great (taken free inRow a l).seen = Kg56.rowDone free inRow (great a.seen) l ∧
    (taken free inRow a l).plain = a.plain + (((l.map Jump.worth).zip (Kg56.shares free inRow (great a.seen) l)).map fun x => Kg56.part x.1 x.2).sum ∧
    (taken free inRow a l).by_ = ((((l.map Jump.worth).zip (Kg56.shares free inRow (great a.seen) l)).filter fun x => decide (0 < x.2)).map fun x => x.1).foldl max a.by_
  | [], a, _ => ⟨rfl, rfl, rfl⟩
  | j :: r, a, h => by
    have hj : JWf j := h j List.mem_cons_self
    obtain ⟨i1, i2, i3⟩ := taken_is free inRow r (takeOne free inRow a j) fun x hx => h x (List.mem_cons_of_mem _ hx)
    have e0 : taken free inRow a (j :: r) = taken free inRow (takeOne free inRow a j) r := rfl
    rw [take_great hj] at i1 i2 i3
    rw [e0, i1, i2, i3, rowDone_cons, shares_cons]
    refine ⟨rfl, ?_, ?_⟩
    · rw [List.map_cons, List.zip_cons_cons, List.map_cons, List.sum_cons]
      have : (takeOne free inRow a j).plain = a.plain + Kg56.part j.worth (share free inRow (great a.seen) j) := by
        unfold takeOne
        rw [jump_share hj]
        by_cases c : 0 < Kg56.part j.worth (share free inRow (great a.seen) j)
        · rw [if_pos c]
        · rw [if_neg c]; omega
      rw [this]
      show _ = a.plain + (Kg56.part j.worth (share free inRow (great a.seen) j) + _)
      omega
    · rw [List.map_cons, List.zip_cons_cons]
      have : (takeOne free inRow a j).by_ = if 0 < share free inRow (great a.seen) j then max a.by_ j.worth else a.by_ := by
        unfold takeOne
        rw [jump_share hj]
        by_cases c : 0 < share free inRow (great a.seen) j
        · rw [if_pos c]
          by_cases cp : 0 < Kg56.part j.worth (share free inRow (great a.seen) j)
          · rw [if_pos cp]
          · rw [if_neg cp]
            -- a worth that comes to nothing here is nothing
            have hw : j.worth = 0 := by
              by_cases ct : j.turns < 3
              · have : share free inRow (great a.seen) j = 100 := if_pos (.inr ct)
                rw [this, part_all] at cp
                omega
              · obtain ⟨p1, p2, _⟩ := hj.pos (by omega)
                exfalso
                have : share free inRow (great a.seen) j = 70 ∨ share free inRow (great a.seen) j = 100 := by
                  revert c
                  unfold share
                  simp only
                  split
                  · intro _; exact .inr rfl
                  · split
                    · intro _; exact .inr rfl
                    · split
                      · intro h; exact absurd h (Nat.lt_irrefl 0)
                      · split
                        · intro _; exact .inl rfl
                        · intro _; exact .inr rfl
                rcases this with e | e
                · rw [e] at cp; exact cp p2
                · rw [e, part_all] at cp; exact cp p1
            rw [hw]
            show a.by_ = max a.by_ 0
            omega
        · have e : share free inRow (great a.seen) j = 0 := by omega
          rw [if_neg c, e, part_none, if_neg (Nat.lt_irrefl 0)]
      rw [this, List.filter_cons]
      by_cases c : 0 < share free inRow (great a.seen) j
      · rw [if_pos c, if_pos (show decide (0 < share free inRow (great a.seen) j) = true from decide_eq_true c)]
        rfl
      · rw [if_neg c, if_neg (show ¬ decide (0 < share free inRow (great a.seen) j) = true by simp; omega)]
theorem taken_plain_le {free inRow : Bool} : ∀ (l : List Jump) (a : Acc), (∀ j ∈ l, JWf j) → (taken free inRow a l).plain ≤ a.plain + 1250 * l.length
  | [], a, _ => by show a.plain ≤ _; simp
  | j :: r, a, h => by
    have ih := taken_plain_le (free := free) (inRow := inRow) r (takeOne free inRow a j) fun x hx => h x (List.mem_cons_of_mem _ hx)
    have hj := (h j List.mem_cons_self).le
    have e0 : taken free inRow a (j :: r) = taken free inRow (takeOne free inRow a j) r := rfl
    rw [e0, List.length_cons]
    have : (takeOne free inRow a j).plain ≤ a.plain + 1250 := by
      unfold takeOne
      split
      · show a.plain + jumpWorth free a.seen j inRow ≤ _
        have : jumpWorth free a.seen j inRow ≤ 1250 := by
          unfold jumpWorth
          split
          · exact hj.1
          · split
            · omega
            · split
              · exact hj.1
              · unfold Kg56.part; omega
        omega
      · omega
    omega
theorem taken_by_le {free inRow : Bool} : ∀ (l : List Jump) (a : Acc), (∀ j ∈ l, JWf j) → a.by_ ≤ 1250 → (taken free inRow a l).by_ ≤ 1250
  | [], a, _, h0 => h0
  | j :: r, a, h, h0 => by
    have hj := (h j List.mem_cons_self).le
    refine taken_by_le (free := free) (inRow := inRow) r (takeOne free inRow a j) (fun x hx => h x (List.mem_cons_of_mem _ hx)) ?_
    unfold takeOne
    split
    · show max a.by_ j.worth ≤ 1250
      omega
    · exact h0

/-! ### what's gone by -/
def gone (free : Bool) : Gone → List Told → Gone
  | g, [] => g
  | g, t :: r => if Kg56.counts free g t.element = true then gone free (g.and free t.element) r else gone free g r
def g0 : Gone := ⟨0, 0, 0, [], 0, 0, []⟩
abbrev Val := Told × (Bool × (Nat × Nat))
def valOf (free : Bool) (g : Gone) (t : Told) : Val := if Kg56.counts free g t.element = true then (t, (true, Kg56.worth free g t.element)) else (t, (false, (0, 0)))
theorem valued_snoc (free : Bool) (t : Told) : ∀ (l : List Told) (g : Gone), Kg56.valued free g (l ++ [t]) = Kg56.valued free g l ++ [valOf free (gone free g l) t]
  | [], g => by
    show (if Kg56.counts free g t.element = true then (t, (true, Kg56.worth free g t.element)) :: [] else (t, (false, (0, 0))) :: []) = [valOf free g t]
    unfold valOf
    split <;> rfl
  | x :: l, g => by
    rw [List.cons_append, Kg56.valued, Kg56.valued, gone]
    by_cases c : Kg56.counts free g x.element = true
    · rw [if_pos c, if_pos c, if_pos c, valued_snoc free t l, List.cons_append]
    · rw [if_neg c, if_neg c, if_neg c, valued_snoc free t l, List.cons_append]
theorem gone_snoc (free : Bool) (t : Told) : ∀ (l : List Told) (g : Gone), gone free g (l ++ [t]) = if Kg56.counts free (gone free g l) t.element = true then (gone free g l).and free t.element else gone free g l
  | [], g => rfl
  | x :: l, g => by
    rw [List.cons_append, gone, gone]
    by_cases c : Kg56.counts free g x.element = true
    · rw [if_pos c, if_pos c, gone_snoc free t l]
    · rw [if_neg c, if_neg c, gone_snoc free t l]
theorem valued_len (free : Bool) : ∀ (l : List Told) (g : Gone), (Kg56.valued free g l).length = l.length
  | [], _ => rfl
  | x :: l, g => by
    rw [Kg56.valued]
    split <;> simp [valued_len free l]
def sortOf : Element → Nat
  | .jumps _ => 0
  | .spin _ _ => 1
  | .steps _ => 2
  | .choreo => 3
def jumpsIn : Element → List Jump
  | .jumps l => l
  | _ => []
def nameIn : Element → Nat
  | .spin n _ => n
  | _ => 0
def levelIn : Element → Nat
  | .jumps _ => 0
  | .spin _ v => v
  | .steps v => v
  | .choreo => 1
/-- the elements of a sort that count -/
def counted (sort : Nat) (l : List Val) : List Element := (l.filter fun x => x.2.1 && sortOf x.1.element == sort).map fun x => x.1.element
theorem counted_cons (sort : Nat) (x : Val) (l : List Val) : counted sort (x :: l) = if (x.2.1 && sortOf x.1.element == sort) = true then x.1.element :: counted sort l else counted sort l := by
  unfold counted
  rw [List.filter_cons]
  split <;> rfl
structure Is (g : Gone) (g' : Gone) (l : List Val) : Prop where
  jumps : g.jumps + (counted 0 l).length = g'.jumps
  rows : g.rows + ((counted 0 l).filter fun e => decide (2 ≤ (jumpsIn e).length)).length = g'.rows
  threes : g.threes + ((counted 0 l).filter fun e => decide (3 ≤ (jumpsIn e).length)).length = g'.threes
  spins : g.spins ++ (counted 1 l).map nameIn = g'.spins
  steps : g.steps + (counted 2 l).length = g'.steps
  choreo : g.choreo + (counted 3 l).length = g'.choreo
theorem gone_is (free : Bool) : ∀ (l : List Told) (g : Gone), Is g (gone free g l) (Kg56.valued free g l)
  | [], g => ⟨rfl, rfl, rfl, List.append_nil _, rfl, rfl⟩
  | x :: l, g => by
    rw [gone, Kg56.valued]
    by_cases c : Kg56.counts free g x.element = true
    · rw [if_pos c, if_pos c]
      obtain ⟨i1, i2, i3, i4, i5, i6⟩ := gone_is free l (g.and free x.element)
      have cy : ∀ {s : Nat} {e : Element}, x.element = e → sortOf e = s → counted s ((x, (true, Kg56.worth free g x.element)) :: Kg56.valued free (g.and free x.element) l) = e :: counted s (Kg56.valued free (g.and free x.element) l) := fun {s e} he hs => by
        rw [counted_cons]
        show (if (true && sortOf x.element == s) = true then x.element :: _ else _) = _
        rw [he, hs, if_pos (by simp)]
      have cn : ∀ {s : Nat} {e : Element}, x.element = e → sortOf e ≠ s → counted s ((x, (true, Kg56.worth free g x.element)) :: Kg56.valued free (g.and free x.element) l) = counted s (Kg56.valued free (g.and free x.element) l) := fun {s e} he hs => by
        rw [counted_cons]
        show (if (true && sortOf x.element == s) = true then x.element :: _ else _) = _
        rw [he, if_neg (by simp [hs])]
      generalize hv : Kg56.valued free (g.and free x.element) l = vl at i1 i2 i3 i4 i5 i6 cy cn ⊢
      cases he : x.element with
      | jumps js =>
        have aj : (g.and free x.element) = { g with jumps := g.jumps + 1, rows := g.rows + (if 2 ≤ js.length then 1 else 0), threes := g.threes + (if 3 ≤ js.length then 1 else 0), done := Kg56.rowDone free (decide (2 ≤ js.length)) g.done js } := by rw [he]; rfl
        have y0 := cy he (show sortOf (.jumps js) = 0 from rfl)
        have n1 := cn he (show sortOf (.jumps js) ≠ 1 from (by decide : (0 : Nat) ≠ 1))
        have n2 := cn he (show sortOf (.jumps js) ≠ 2 from (by decide : (0 : Nat) ≠ 2))
        have n3 := cn he (show sortOf (.jumps js) ≠ 3 from (by decide : (0 : Nat) ≠ 3))
        rw [he] at y0 n1 n2 n3
        rw [he] at aj
        rw [he, aj] at i1 i2 i3 i4 i5 i6
        rw [aj]
        refine ⟨?_, ?_, ?_, by rw [n1]; exact i4, by rw [n2]; exact i5, by rw [n3]; exact i6⟩
        · rw [y0, List.length_cons, ← i1]; show _ = g.jumps + 1 + _; omega
        · rw [y0, List.filter_cons, ← i2]
          show _ = g.rows + (if 2 ≤ js.length then 1 else 0) + _
          by_cases q : 2 ≤ js.length
          · rw [if_pos (show decide (2 ≤ (jumpsIn (.jumps js)).length) = true from decide_eq_true q), if_pos q, List.length_cons]; omega
          · rw [if_neg (show ¬ decide (2 ≤ (jumpsIn (.jumps js)).length) = true from fun h => q (of_decide_eq_true h)), if_neg q]; omega
        · rw [y0, List.filter_cons, ← i3]
          show _ = g.threes + (if 3 ≤ js.length then 1 else 0) + _
          by_cases q : 3 ≤ js.length
          · rw [if_pos (show decide (3 ≤ (jumpsIn (.jumps js)).length) = true from decide_eq_true q), if_pos q, List.length_cons]; omega
          · rw [if_neg (show ¬ decide (3 ≤ (jumpsIn (.jumps js)).length) = true from fun h => q (of_decide_eq_true h)), if_neg q]; omega
      | spin n v =>
        have aj : (g.and free x.element) = { g with spins := g.spins ++ [n] } := by rw [he]; rfl
        have n0 := cn he (show sortOf (.spin n v) ≠ 0 from (by decide : (1 : Nat) ≠ 0))
        have y1 := cy he (show sortOf (.spin n v) = 1 from rfl)
        have n2 := cn he (show sortOf (.spin n v) ≠ 2 from (by decide : (1 : Nat) ≠ 2))
        have n3 := cn he (show sortOf (.spin n v) ≠ 3 from (by decide : (1 : Nat) ≠ 3))
        rw [he] at n0 y1 n2 n3
        rw [he] at aj
        rw [he, aj] at i1 i2 i3 i4 i5 i6
        rw [aj]
        refine ⟨by rw [n0]; exact i1, by rw [n0]; exact i2, by rw [n0]; exact i3, ?_, by rw [n2]; exact i5, by rw [n3]; exact i6⟩
        rw [y1, ← i4, List.map_cons]
        show g.spins ++ (n :: _) = (g.spins ++ [n]) ++ _
        rw [List.append_assoc]; rfl
      | steps v =>
        have aj : (g.and free x.element) = { g with steps := g.steps + 1 } := by rw [he]; rfl
        have n0 := cn he (show sortOf (.steps v) ≠ 0 from (by decide : (2 : Nat) ≠ 0))
        have n1 := cn he (show sortOf (.steps v) ≠ 1 from (by decide : (2 : Nat) ≠ 1))
        have y2 := cy he (show sortOf (.steps v) = 2 from rfl)
        have n3 := cn he (show sortOf (.steps v) ≠ 3 from (by decide : (2 : Nat) ≠ 3))
        rw [he] at n0 n1 y2 n3
        rw [he] at aj
        rw [he, aj] at i1 i2 i3 i4 i5 i6
        rw [aj]
        refine ⟨by rw [n0]; exact i1, by rw [n0]; exact i2, by rw [n0]; exact i3, by rw [n1]; exact i4, ?_, by rw [n3]; exact i6⟩
        rw [y2, List.length_cons, ← i5]; show _ = g.steps + 1 + _; omega
      | choreo =>
        have aj : (g.and free x.element) = { g with choreo := g.choreo + 1 } := by rw [he]; rfl
        have n0 := cn he (show sortOf .choreo ≠ 0 from (by decide : (3 : Nat) ≠ 0))
        have n1 := cn he (show sortOf .choreo ≠ 1 from (by decide : (3 : Nat) ≠ 1))
        have n2 := cn he (show sortOf .choreo ≠ 2 from (by decide : (3 : Nat) ≠ 2))
        have y3 := cy he (show sortOf .choreo = 3 from rfl)
        rw [he] at n0 n1 n2 y3
        rw [he] at aj
        rw [he, aj] at i1 i2 i3 i4 i5 i6
        rw [aj]
        refine ⟨by rw [n0]; exact i1, by rw [n0]; exact i2, by rw [n0]; exact i3, by rw [n1]; exact i4, by rw [n2]; exact i5, ?_⟩
        rw [y3, List.length_cons, ← i6]; show _ = g.choreo + 1 + _; omega
    · rw [if_neg c, if_neg c]
      obtain ⟨i1, i2, i3, i4, i5, i6⟩ := gone_is free l g
      have cc : ∀ s, counted s ((x, (false, (0, 0))) :: Kg56.valued free g l) = counted s (Kg56.valued free g l) := fun s => by
        rw [counted_cons]; exact if_neg (by simp)
      exact ⟨by rw [cc]; exact i1, by rw [cc]; exact i2, by rw [cc]; exact i3, by rw [cc]; exact i4, by rw [cc]; exact i5, by rw [cc]; exact i6⟩

/-! ### the second half -/
def flag (x : Val) : Bool := x.2.1 && (x.1.second && Kg56.isJumps x.1.element)
/-- the places, from k on, of those that may get more -/
def flags : Nat → List Val → List Nat
  | _, [] => []
  | k, x :: r => if flag x = true then k :: flags (k + 1) r else flags (k + 1) r
theorem flags_len : ∀ (l : List Val) (k : Nat), (flags k l).length = Kg56.late l
  | [], _ => rfl
  | x :: r, k => by
    rw [flags]
    have e : Kg56.late (x :: r) = if flag x = true then Kg56.late r + 1 else Kg56.late r := by
      unfold Kg56.late
      rw [List.filter_cons]
      show (if flag x = true then _ else _ : List Val).length = _
      split <;> rfl
    rw [e]
    split
    · rw [List.length_cons, flags_len r]
    · exact flags_len r _
theorem flags_ge : ∀ (l : List Val) (k : Nat), ∀ i ∈ flags k l, k ≤ i ∧ i < k + l.length
  | [], _, i, h => by cases h
  | x :: r, k, i, h => by
    rw [flags] at h
    rw [List.length_cons]
    split at h
    · rcases List.mem_cons.mp h with e | m
      · omega
      · have := flags_ge r _ i m; omega
    · have := flags_ge r _ i h; omega
theorem flags_app : ∀ (a b : List Val) (k : Nat), flags k (a ++ b) = flags k a ++ flags (k + a.length) b
  | [], b, k => by simp [flags]
  | x :: a, b, k => by
    rw [List.cons_append, flags, flags, flags_app a b]
    have : k + 1 + a.length = k + (x :: a).length := by rw [List.length_cons]; omega
    rw [this]
    split <;> rfl
/-- the places of those that get more -/
def moreAt (free : Bool) (l : List Val) : List Nat := (flags 0 l).drop ((flags 0 l).length - Kg56.moreMost free)
theorem more_iff {free : Bool} {a r : List Val} {x : Val} : a.length ∈ moreAt free (a ++ x :: r) ↔ flag x = true ∧ Kg56.late r < Kg56.moreMost free := by
  unfold moreAt
  rw [flags_app, Nat.zero_add, flags]
  have hA : a.length ∉ flags 0 a := fun h => by have := flags_ge a 0 _ h; omega
  have hB : a.length ∉ flags (a.length + 1) r := fun h => by have := flags_ge r _ _ h; omega
  have hL := flags_len r (a.length + 1)
  generalize flags 0 a = A at hA ⊢
  generalize flags (a.length + 1) r = B at hB hL ⊢
  by_cases c : flag x = true
  · rw [if_pos c]
    generalize a.length = n at hA hB ⊢
    rw [List.length_append, List.length_cons, ← hL]
    generalize hd : A.length + (B.length + 1) - Kg56.moreMost free = d
    rw [List.drop_append]
    constructor
    · intro h
      refine ⟨c, ?_⟩
      rcases List.mem_append.mp h with h | h
      · exact absurd (List.mem_of_mem_drop h) hA
      · by_cases q : d ≤ A.length
        · have : 0 < Kg56.moreMost free := by cases free <;> decide
          omega
        · exfalso
          have : d - A.length = (d - A.length - 1) + 1 := by omega
          rw [this, List.drop_succ_cons] at h
          exact hB (List.mem_of_mem_drop h)
    · rintro ⟨_, h⟩
      have : d - A.length = 0 := by omega
      rw [this]
      exact List.mem_append.mpr (.inr (by simp))
  · rw [if_neg c]
    constructor
    · intro h
      rcases List.mem_append.mp (List.mem_of_mem_drop h) with h | h
      · exact absurd h hA
      · exact absurd h hB
    · rintro ⟨h, _⟩
      exact absurd h c
/-- an element's worth in the end -/
def ownOf (free : Bool) (l : List Val) (i : Nat) (x : Val) : Nat := if i ∈ moreAt free l then Kg56.part x.2.2.1 110 else x.2.2.1
theorem raised_app (free : Bool) : ∀ (r a : List Val), Kg56.raised free r = r.mapIdx fun i x => (x.1, (ownOf free (a ++ r) (a.length + i) x, x.2.2.2))
  | [], _ => rfl
  | x :: r, a => by
    have ih := raised_app free r (a ++ [x])
    rw [List.mapIdx_cons, Kg56.raised]
    have e1 : (if (x.2.1 && (x.1.second && Kg56.isJumps x.1.element)) = true ∧ Kg56.late r < Kg56.moreMost free then Kg56.part x.2.2.1 110 else x.2.2.1) = ownOf free (a ++ x :: r) (a.length + 0) x := by
      unfold ownOf
      show (if flag x = true ∧ Kg56.late r < Kg56.moreMost free then Kg56.part x.2.2.1 110 else x.2.2.1) = if a.length ∈ moreAt free (a ++ x :: r) then Kg56.part x.2.2.1 110 else x.2.2.1
      by_cases c : flag x = true ∧ Kg56.late r < Kg56.moreMost free
      · rw [if_pos c, if_pos (more_iff.mpr c)]
      · rw [if_neg c, if_neg (fun h => c (more_iff.mp h))]
    rw [e1, ih]
    congr 1
    have e2 : a ++ [x] ++ r = a ++ x :: r := by simp
    have e3 : ∀ i, (a ++ [x]).length + i = a.length + (i + 1) := fun i => by simp; omega
    rw [e2]
    congr 1
    funext i y
    rw [e3]
theorem raised_is (free : Bool) (l : List Val) : Kg56.raised free l = l.mapIdx fun i x => (x.1, (ownOf free l i x, x.2.2.2)) := by
  have h := raised_app free l []
  rw [h]
  simp only [List.nil_append, List.length_nil, Nat.zero_add]
theorem graded_zero (gs : List Int) : Kg56.graded 0 gs = 0 := by
  unfold Kg56.graded Kg56.nearest
  simp only
  rw [show (Kg56.trimmed gs).1 * ((0 : Nat) : Int) = 0 by simp]
  rw [if_neg (by decide)]
  generalize 10 * (Kg56.trimmed gs).2 = b
  have : (2 * Int.natAbs 0 + b) / (2 * b) = 0 := by
    rcases Nat.eq_zero_or_pos b with rfl | h
    · rfl
    · exact Nat.div_eq_of_lt (by simp; omega)
  rw [this]
  rfl
/-- what its grades make, as the program has it -/
def madeOf (x : Val) : Int := if x.2.1 = true then Kg56.graded x.2.2.2 x.1.grades else 0
def ValOk (x : Val) : Prop := x.2.2.1 ≤ 3750 ∧ x.2.2.2 ≤ 1250 ∧ (x.2.1 = false → x.2.2 = (0, 0))
theorem sheet_is (p : Kg56.Program) (h : ∀ x ∈ Kg56.valued p.free g0 p.elements, ValOk x) :
    p.sheet = (Kg56.valued p.free g0 p.elements).mapIdx fun i x => (ownOf p.free (Kg56.valued p.free g0 p.elements) i x, madeOf x) := by
  unfold Kg56.Program.sheet Kg56.Program.raised
  rw [show (⟨0, 0, 0, [], 0, 0, []⟩ : Gone) = g0 from rfl, raised_is]
  generalize Kg56.valued p.free g0 p.elements = l at h
  apply List.ext_getElem
  · simp
  · intro i h1 h2
    simp only [List.getElem_map, List.getElem_mapIdx]
    congr 1
    unfold madeOf
    have hx := h (l[i]'(by simpa using h2)) (List.getElem_mem _)
    by_cases c : (l[i]'(by simpa using h2)).2.1 = true
    · rw [if_pos c]
    · rw [if_neg c]
      have e : (l[i]'(by simpa using h2)).2.2 = (0, 0) := hx.2.2 (by simpa using c)
      rw [show (l[i]'(by simpa using h2)).2.2.2 = 0 by rw [e]]
      exact graded_zero _
theorem spin_le : ∀ n, n < 20 → ∀ v, v < 5 → Kg56.spinWorth n v ≤ 400 := by decide +kernel
theorem steps_le : ∀ v, v < 5 → Kg56.stepsWorth v ≤ 390 := by decide
theorem worth_jumps (free : Bool) (g : Gone) (seen : Seen) (l : List Jump) (hw : ∀ j ∈ l, JWf j) (hs : great seen = g.done) :
    Kg56.worth free g (.jumps l) = ((taken free (decide (2 ≤ l.length)) ⟨seen, 0, 0⟩ l).plain, (taken free (decide (2 ≤ l.length)) ⟨seen, 0, 0⟩ l).by_) ∧
    great (taken free (decide (2 ≤ l.length)) ⟨seen, 0, 0⟩ l).seen = Kg56.rowDone free (decide (2 ≤ l.length)) g.done l := by
  obtain ⟨i1, i2, i3⟩ := taken_is free (decide (2 ≤ l.length)) l ⟨seen, 0, 0⟩ hw
  rw [hs] at i1 i2 i3
  refine ⟨?_, i1⟩
  rw [i2, i3]
  show _ = (0 + _, _)
  rw [Nat.zero_add]
  rfl
theorem val_ok (free : Bool) (g : Gone) (seen : Seen) (hs : great seen = g.done) (t : Told) (he : EWf t.element) : ValOk (valOf free g t) := by
  unfold valOf
  by_cases c : Kg56.counts free g t.element = true
  · rw [if_pos c]
    have fin : (Kg56.worth free g t.element).1 ≤ 3750 ∧ (Kg56.worth free g t.element).2 ≤ 1250 := by
      cases h : t.element with
      | jumps l =>
        rw [h] at he
        obtain ⟨w, _⟩ := worth_jumps free g seen l he.2.2 hs
        have w1 := taken_plain_le (free := free) (inRow := decide (2 ≤ l.length)) l ⟨seen, 0, 0⟩ he.2.2
        have w2 := taken_by_le (free := free) (inRow := decide (2 ≤ l.length)) l ⟨seen, 0, 0⟩ he.2.2 (Nat.zero_le _)
        have := he.2.1
        rw [w]
        have w1' : (taken free (decide (2 ≤ l.length)) ⟨seen, 0, 0⟩ l).plain ≤ 0 + 1250 * l.length := w1
        exact ⟨by show (taken free (decide (2 ≤ l.length)) ⟨seen, 0, 0⟩ l).plain ≤ 3750; omega, w2⟩
      | spin n v =>
        rw [h] at he
        have := spin_le n he.1 v (by have := he.2; omega)
        exact ⟨by show Kg56.spinWorth n v ≤ _; omega, by show Kg56.spinWorth n v ≤ _; omega⟩
      | steps v =>
        rw [h] at he
        have := steps_le v (by have : v ≤ 4 := he; omega)
        exact ⟨by show Kg56.stepsWorth v ≤ _; omega, by show Kg56.stepsWorth v ≤ _; omega⟩
      | choreo => exact ⟨(by decide : 200 ≤ 3750), (by decide : 200 ≤ 1250)⟩
    exact ⟨fin.1, fin.2, fun h => by cases h⟩
  · rw [if_neg c]
    exact ⟨Nat.zero_le _, Nat.zero_le _, fun _ => rfl⟩
end Sk

set_option Elab.async false
set_option linter.all false
namespace Sk
open Kg56 (Element Told Gone)
/-- whether an element of jumps counts, by those that count -/
def countsJ (free : Bool) (vals : List Val) (l : List Kg56.Jump) : Bool :=
  decide ((counted 0 vals).length < Kg56.jumpsMost free) && ((decide (l.length < 2) || decide (((counted 0 vals).filter fun e => decide (2 ≤ (jumpsIn e).length)).length < Kg56.rowsMost free)) &&
    (decide (l.length < 3) || decide (((counted 0 vals).filter fun e => decide (3 ≤ (jumpsIn e).length)).length < Kg56.threesMost free)))
def doesCount (free : Bool) (vals : List Val) (e : Element) : Bool := match e with
  | .jumps l => countsJ free vals l
  | .spin n _ => decide ((counted 1 vals).length < 3) && !((counted 1 vals).map nameIn).contains n
  | .steps _ => decide ((counted 2 vals).length < 1)
  | .choreo => free && decide ((counted 3 vals).length < 1)
theorem counts_is (free : Bool) (l : List Told) (e : Element) : Kg56.counts free (gone free g0 l) e = doesCount free (Kg56.valued free g0 l) e := by
  obtain ⟨i1, i2, i3, i4, i5, i6⟩ := gone_is free l g0
  have j1 : (counted 0 (Kg56.valued free g0 l)).length = (gone free g0 l).jumps := by rw [← i1]; exact (Nat.zero_add _).symm
  have j2 : ((counted 0 (Kg56.valued free g0 l)).filter fun e => decide (2 ≤ (jumpsIn e).length)).length = (gone free g0 l).rows := by rw [← i2]; exact (Nat.zero_add _).symm
  have j3 : ((counted 0 (Kg56.valued free g0 l)).filter fun e => decide (3 ≤ (jumpsIn e).length)).length = (gone free g0 l).threes := by rw [← i3]; exact (Nat.zero_add _).symm
  have j4 : (counted 1 (Kg56.valued free g0 l)).map nameIn = (gone free g0 l).spins := by rw [← i4]; rfl
  have j5 : (counted 2 (Kg56.valued free g0 l)).length = (gone free g0 l).steps := by rw [← i5]; exact (Nat.zero_add _).symm
  have j6 : (counted 3 (Kg56.valued free g0 l)).length = (gone free g0 l).choreo := by rw [← i6]; exact (Nat.zero_add _).symm
  cases e with
  | jumps js =>
    show _ = countsJ free _ js
    unfold countsJ
    rw [j1, j2, j3]
    rfl
  | spin n v =>
    show _ = (decide ((counted 1 (Kg56.valued free g0 l)).length < 3) && _)
    rw [j4]
    have : (counted 1 (Kg56.valued free g0 l)).length = (gone free g0 l).spins.length := by rw [← j4, List.length_map]
    rw [this]
    rfl
  | steps v =>
    show _ = decide ((counted 2 (Kg56.valued free g0 l)).length < 1)
    rw [j5]
    rfl
  | choreo =>
    show _ = (free && decide ((counted 3 (Kg56.valued free g0 l)).length < 1))
    rw [j6]
    rfl
theorem counted_len (s : Nat) (l : List Val) : (counted s l).length ≤ l.length := by
  unfold counted
  rw [List.length_map]
  exact List.length_filter_le _ _
theorem counted_sort {s : Nat} {l : List Val} {e : Element} (h : e ∈ counted s l) : sortOf e = s := by
  unfold counted at h
  obtain ⟨x, hx, rfl⟩ := List.mem_map.mp h
  have := (List.mem_filter.mp hx).2
  simp at this
  exact this.2
end Sk

set_option Elab.async false
set_option linter.all false
set_option maxRecDepth 100000
set_option maxHeartbeats 4000000
namespace SkW
open PySem PySem.Spec PyProof.Rows L2
/-! ### the text, by places -/
def top (i : Nat) : Stmt := PySem.Challenge.pw_skatingmarks_s01_answers.main.body.getD i (.Pass ⟨0, 0, 0, 0⟩)
abbrev s_hundredths : Stmt := top 2
abbrev s_away : Stmt := top 3
abbrev s_kept : Stmt := top 4
abbrev s_graded : Stmt := top 5
abbrev s_component : Stmt := top 6
abbrev s_components_of : Stmt := top 7
abbrev s_taken_off : Stmt := top 8
abbrev s_jumps_element : Stmt := top 28
abbrev s_order_in : Stmt := top 44
abbrev s_order_in_all : Stmt := top 45
abbrev s_placed : Stmt := top 46
abbrev s_turned : Stmt := top 47
abbrev s_segment_places : Stmt := top 48
abbrev s_places_in_all : Stmt := top 49
abbrev s_codes : Stmt := top 61
abbrev s_number_in : Stmt := top 62
abbrev s_split_by_plus : Stmt := top 63
abbrev s_kind_at_first : Stmt := top 64
abbrev s_edge_at_first : Stmt := top 65
abbrev s_jump_of : Stmt := top 66
abbrev s_may_be_row : Stmt := top 67
abbrev s_jumps_of : Stmt := top 68
abbrev s_name_of : Stmt := top 69
abbrev s_level_of : Stmt := top 70
abbrev s_spin_of : Stmt := top 71
abbrev s_steps_of : Stmt := top 72
abbrev s_element_of : Stmt := top 73
abbrev s_need : Stmt := top 91
abbrev s_need_segment : Stmt := top 92
abbrev s_need_text : Stmt := top 93
abbrev s_element_in : Stmt := top 94
abbrev s_flat : Stmt := top 95
abbrev s_of_skating : Stmt := top 99
abbrev s_told : Stmt := top 100
abbrev s_answer : Stmt := top 101
abbrev s_rows_at : Stmt := top 102
abbrev s_answers : Stmt := top 103
abbrev s_Jump___init__ : Stmt := inClass (top 26) 0
abbrev s_Jump_whole_worth : Stmt := inClass (top 26) 1
abbrev s_Jump_worth : Stmt := inClass (top 26) 2
abbrev s_Jump_told : Stmt := inClass (top 26) 3
abbrev s_Element___init__ : Stmt := inClass (top 27) 0
abbrev s_Element_is_row : Stmt := inClass (top 27) 1
abbrev s_Element_own_worth : Stmt := inClass (top 27) 2
abbrev s_Element_told : Stmt := inClass (top 27) 3
abbrev s_Skated___init__ : Stmt := inClass (top 40) 0
abbrev s_Skated_made : Stmt := inClass (top 40) 1
abbrev s_Program___init__ : Stmt := inClass (top 41) 0
abbrev s_Program_counted : Stmt := inClass (top 41) 1
abbrev s_Program_do_jumps_count : Stmt := inClass (top 41) 2
abbrev s_Program_does_count : Stmt := inClass (top 41) 3
abbrev s_Program_jump_worth : Stmt := inClass (top 41) 4
abbrev s_Program_take_jumps : Stmt := inClass (top 41) 5
abbrev s_Program_take : Stmt := inClass (top 41) 6
abbrev s_Program_with_bonus : Stmt := inClass (top 41) 7
abbrev s_Program_worths : Stmt := inClass (top 41) 8
abbrev s_Result___init__ : Stmt := inClass (top 42) 0
abbrev s_Refused___init__ : Stmt := inClass (top 90) 0
abbrev s_Keeper___init__ : Stmt := inClass (top 96) 0
abbrev s_Keeper_begin : Stmt := inClass (top 96) 1
abbrev s_Keeper_skater : Stmt := inClass (top 96) 2
abbrev s_Keeper_read : Stmt := inClass (top 96) 3
abbrev s_Keeper_need_skater : Stmt := inClass (top 96) 4
abbrev s_Keeper_start : Stmt := inClass (top 96) 5
abbrev s_Keeper_need_program : Stmt := inClass (top 96) 6
abbrev s_Keeper_element : Stmt := inClass (top 96) 7
abbrev s_Keeper_marks : Stmt := inClass (top 96) 8
abbrev s_Keeper_faults : Stmt := inClass (top 96) 9
abbrev s_Keeper_end : Stmt := inClass (top 96) 10
abbrev s_Keeper_sheet : Stmt := inClass (top 96) 11
abbrev s_Keeper_places : Stmt := inClass (top 96) 12
abbrev s_Keeper_all_places : Stmt := inClass (top 96) 13
/-- where all stands that the top has written -/
structure Ad where
  f_hundredths : Addr
  d_hundredths : FuncData
  f_away : Addr
  d_away : FuncData
  f_kept : Addr
  d_kept : FuncData
  f_graded : Addr
  d_graded : FuncData
  f_component : Addr
  d_component : FuncData
  f_components_of : Addr
  d_components_of : FuncData
  f_taken_off : Addr
  d_taken_off : FuncData
  f_jumps_element : Addr
  d_jumps_element : FuncData
  f_order_in : Addr
  d_order_in : FuncData
  f_order_in_all : Addr
  d_order_in_all : FuncData
  f_placed : Addr
  d_placed : FuncData
  f_turned : Addr
  d_turned : FuncData
  f_segment_places : Addr
  d_segment_places : FuncData
  f_places_in_all : Addr
  d_places_in_all : FuncData
  f_codes : Addr
  d_codes : FuncData
  f_number_in : Addr
  d_number_in : FuncData
  f_split_by_plus : Addr
  d_split_by_plus : FuncData
  f_kind_at_first : Addr
  d_kind_at_first : FuncData
  f_edge_at_first : Addr
  d_edge_at_first : FuncData
  f_jump_of : Addr
  d_jump_of : FuncData
  f_may_be_row : Addr
  d_may_be_row : FuncData
  f_jumps_of : Addr
  d_jumps_of : FuncData
  f_name_of : Addr
  d_name_of : FuncData
  f_level_of : Addr
  d_level_of : FuncData
  f_spin_of : Addr
  d_spin_of : FuncData
  f_steps_of : Addr
  d_steps_of : FuncData
  f_element_of : Addr
  d_element_of : FuncData
  f_need : Addr
  d_need : FuncData
  f_need_segment : Addr
  d_need_segment : FuncData
  f_need_text : Addr
  d_need_text : FuncData
  f_element_in : Addr
  d_element_in : FuncData
  f_flat : Addr
  d_flat : FuncData
  f_of_skating : Addr
  d_of_skating : FuncData
  f_told : Addr
  d_told : FuncData
  f_answer : Addr
  d_answer : FuncData
  f_rows_at : Addr
  d_rows_at : FuncData
  f_answers : Addr
  d_answers : FuncData
  f_Jump___init__ : Addr
  d_Jump___init__ : FuncData
  f_Jump_whole_worth : Addr
  d_Jump_whole_worth : FuncData
  f_Jump_worth : Addr
  d_Jump_worth : FuncData
  f_Jump_told : Addr
  d_Jump_told : FuncData
  f_Element___init__ : Addr
  d_Element___init__ : FuncData
  f_Element_is_row : Addr
  d_Element_is_row : FuncData
  f_Element_own_worth : Addr
  d_Element_own_worth : FuncData
  f_Element_told : Addr
  d_Element_told : FuncData
  f_Skated___init__ : Addr
  d_Skated___init__ : FuncData
  f_Skated_made : Addr
  d_Skated_made : FuncData
  f_Program___init__ : Addr
  d_Program___init__ : FuncData
  f_Program_counted : Addr
  d_Program_counted : FuncData
  f_Program_do_jumps_count : Addr
  d_Program_do_jumps_count : FuncData
  f_Program_does_count : Addr
  d_Program_does_count : FuncData
  f_Program_jump_worth : Addr
  d_Program_jump_worth : FuncData
  f_Program_take_jumps : Addr
  d_Program_take_jumps : FuncData
  f_Program_take : Addr
  d_Program_take : FuncData
  f_Program_with_bonus : Addr
  d_Program_with_bonus : FuncData
  f_Program_worths : Addr
  d_Program_worths : FuncData
  f_Result___init__ : Addr
  d_Result___init__ : FuncData
  f_Refused___init__ : Addr
  d_Refused___init__ : FuncData
  f_Keeper___init__ : Addr
  d_Keeper___init__ : FuncData
  f_Keeper_begin : Addr
  d_Keeper_begin : FuncData
  f_Keeper_skater : Addr
  d_Keeper_skater : FuncData
  f_Keeper_read : Addr
  d_Keeper_read : FuncData
  f_Keeper_need_skater : Addr
  d_Keeper_need_skater : FuncData
  f_Keeper_start : Addr
  d_Keeper_start : FuncData
  f_Keeper_need_program : Addr
  d_Keeper_need_program : FuncData
  f_Keeper_element : Addr
  d_Keeper_element : FuncData
  f_Keeper_marks : Addr
  d_Keeper_marks : FuncData
  f_Keeper_faults : Addr
  d_Keeper_faults : FuncData
  f_Keeper_end : Addr
  d_Keeper_end : FuncData
  f_Keeper_sheet : Addr
  d_Keeper_sheet : FuncData
  f_Keeper_places : Addr
  d_Keeper_places : FuncData
  f_Keeper_all_places : Addr
  d_Keeper_all_places : FuncData
  c_Jump : Addr
  c_Element : Addr
  c_Skated : Addr
  c_Program : Addr
  c_Result : Addr
  c_Refused : Addr
  c_Keeper : Addr
  t_JUMP_WORTHS : Addr
  u_JUMP_WORTHS : List Addr
  t_SPIN_WORTHS : Addr
  u_SPIN_WORTHS : List Addr
  t_STEPS_WORTHS : Addr
  t_MOST_JUMPED : Addr
  t_MOST_ROWS : Addr
  t_MOST_OF_THREE : Addr
  t_MOST_OTHERS : Addr
  t_MOST_BONUS : Addr
  t_KINDS : Addr
  t_EDGED : Addr
  t_BEHIND_SMALL : Addr
  t_EDGES : Addr
  t_MISSING : Addr
  t_LAST_PARTS : Addr
  t_SHAPES : Addr
  u_SHAPES : List Addr
/-- a tuple that the top has written -/
def KT (K : PySem.W.Frag) (a : Addr) (xs : List V) : Prop := ∃ (o : Obj) (its : Array Value) (n : Nat), K.lookup a = some o ∧ o.cls = .type "tuple" ∧ o.data = .seq its n ∧ its.size ≤ sizeLine ∧ Vals xs its.toList
theorem KT.t {K : PySem.W.Frag} {a : Addr} {xs : List V} (h : KT K a xs) (H : Hp) : SqT K H a xs := .inr h
/-- what the top has written -/
structure Txt (K : PySem.W.Frag) (mg : Str → Option Value) (a : Ad) : Prop where
  g_hundredths : mg "hundredths" = some (.ref a.f_hundredths)
  k_hundredths : PySem.W.keepIn K (.ref a.f_hundredths) = true
  F_hundredths : Fun K "hundredths" "hundredths" s_hundredths a.f_hundredths a.d_hundredths
  b_hundredths : Binds K a.d_hundredths ["number", "many"] []
  g_away : mg "away" = some (.ref a.f_away)
  k_away : PySem.W.keepIn K (.ref a.f_away) = true
  F_away : Fun K "away" "away" s_away a.f_away a.d_away
  b_away : Binds K a.d_away ["top", "bottom"] []
  g_kept : mg "kept" = some (.ref a.f_kept)
  k_kept : PySem.W.keepIn K (.ref a.f_kept) = true
  F_kept : Fun K "kept" "kept" s_kept a.f_kept a.d_kept
  b_kept : Binds K a.d_kept ["numbers"] []
  g_graded : mg "graded" = some (.ref a.f_graded)
  k_graded : PySem.W.keepIn K (.ref a.f_graded) = true
  F_graded : Fun K "graded" "graded" s_graded a.f_graded a.d_graded
  b_graded : Binds K a.d_graded ["grades", "by"] []
  g_component : mg "component" = some (.ref a.f_component)
  k_component : PySem.W.keepIn K (.ref a.f_component) = true
  F_component : Fun K "component" "component" s_component a.f_component a.d_component
  b_component : Binds K a.d_component ["quarters"] []
  g_components_of : mg "components_of" = some (.ref a.f_components_of)
  k_components_of : PySem.W.keepIn K (.ref a.f_components_of) = true
  F_components_of : Fun K "components_of" "components_of" s_components_of a.f_components_of a.d_components_of
  b_components_of : Binds K a.d_components_of ["rows", "factor"] []
  g_taken_off : mg "taken_off" = some (.ref a.f_taken_off)
  k_taken_off : PySem.W.keepIn K (.ref a.f_taken_off) = true
  F_taken_off : Fun K "taken_off" "taken_off" s_taken_off a.f_taken_off a.d_taken_off
  b_taken_off : Binds K a.d_taken_off ["falls", "others", "seconds"] []
  g_jumps_element : mg "jumps_element" = some (.ref a.f_jumps_element)
  k_jumps_element : PySem.W.keepIn K (.ref a.f_jumps_element) = true
  F_jumps_element : Fun K "jumps_element" "jumps_element" s_jumps_element a.f_jumps_element a.d_jumps_element
  b_jumps_element : Binds K a.d_jumps_element ["jumps"] []
  g_order_in : mg "order_in" = some (.ref a.f_order_in)
  k_order_in : PySem.W.keepIn K (.ref a.f_order_in) = true
  F_order_in : Fun K "order_in" "order_in" s_order_in a.f_order_in a.d_order_in
  b_order_in : Binds K a.d_order_in ["result", "free"] []
  g_order_in_all : mg "order_in_all" = some (.ref a.f_order_in_all)
  k_order_in_all : PySem.W.keepIn K (.ref a.f_order_in_all) = true
  F_order_in_all : Fun K "order_in_all" "order_in_all" s_order_in_all a.f_order_in_all a.d_order_in_all
  b_order_in_all : Binds K a.d_order_in_all ["results"] []
  g_placed : mg "placed" = some (.ref a.f_placed)
  k_placed : PySem.W.keepIn K (.ref a.f_placed) = true
  F_placed : Fun K "placed" "placed" s_placed a.f_placed a.d_placed
  b_placed : Binds K a.d_placed ["told"] []
  g_turned : mg "turned" = some (.ref a.f_turned)
  k_turned : PySem.W.keepIn K (.ref a.f_turned) = true
  F_turned : Fun K "turned" "turned" s_turned a.f_turned a.d_turned
  b_turned : Binds K a.d_turned ["order"] []
  g_segment_places : mg "segment_places" = some (.ref a.f_segment_places)
  k_segment_places : PySem.W.keepIn K (.ref a.f_segment_places) = true
  F_segment_places : Fun K "segment_places" "segment_places" s_segment_places a.f_segment_places a.d_segment_places
  b_segment_places : Binds K a.d_segment_places ["results", "free"] []
  g_places_in_all : mg "places_in_all" = some (.ref a.f_places_in_all)
  k_places_in_all : PySem.W.keepIn K (.ref a.f_places_in_all) = true
  F_places_in_all : Fun K "places_in_all" "places_in_all" s_places_in_all a.f_places_in_all a.d_places_in_all
  b_places_in_all : Binds K a.d_places_in_all ["results"] []
  g_codes : mg "codes" = some (.ref a.f_codes)
  k_codes : PySem.W.keepIn K (.ref a.f_codes) = true
  F_codes : Fun K "codes" "codes" s_codes a.f_codes a.d_codes
  b_codes : Binds K a.d_codes ["written"] []
  g_number_in : mg "number_in" = some (.ref a.f_number_in)
  k_number_in : PySem.W.keepIn K (.ref a.f_number_in) = true
  F_number_in : Fun K "number_in" "number_in" s_number_in a.f_number_in a.d_number_in
  b_number_in : Binds K a.d_number_in ["some", "row"] []
  g_split_by_plus : mg "split_by_plus" = some (.ref a.f_split_by_plus)
  k_split_by_plus : PySem.W.keepIn K (.ref a.f_split_by_plus) = true
  F_split_by_plus : Fun K "split_by_plus" "split_by_plus" s_split_by_plus a.f_split_by_plus a.d_split_by_plus
  b_split_by_plus : Binds K a.d_split_by_plus ["row"] []
  g_kind_at_first : mg "kind_at_first" = some (.ref a.f_kind_at_first)
  k_kind_at_first : PySem.W.keepIn K (.ref a.f_kind_at_first) = true
  F_kind_at_first : Fun K "kind_at_first" "kind_at_first" s_kind_at_first a.f_kind_at_first a.d_kind_at_first
  b_kind_at_first : Binds K a.d_kind_at_first ["row"] []
  g_edge_at_first : mg "edge_at_first" = some (.ref a.f_edge_at_first)
  k_edge_at_first : PySem.W.keepIn K (.ref a.f_edge_at_first) = true
  F_edge_at_first : Fun K "edge_at_first" "edge_at_first" s_edge_at_first a.f_edge_at_first a.d_edge_at_first
  b_edge_at_first : Binds K a.d_edge_at_first ["kind", "row"] []
  g_jump_of : mg "jump_of" = some (.ref a.f_jump_of)
  k_jump_of : PySem.W.keepIn K (.ref a.f_jump_of) = true
  F_jump_of : Fun K "jump_of" "jump_of" s_jump_of a.f_jump_of a.d_jump_of
  b_jump_of : Binds K a.d_jump_of ["row"] []
  g_may_be_row : mg "may_be_row" = some (.ref a.f_may_be_row)
  k_may_be_row : PySem.W.keepIn K (.ref a.f_may_be_row) = true
  F_may_be_row : Fun K "may_be_row" "may_be_row" s_may_be_row a.f_may_be_row a.d_may_be_row
  b_may_be_row : Binds K a.d_may_be_row ["jumps"] []
  g_jumps_of : mg "jumps_of" = some (.ref a.f_jumps_of)
  k_jumps_of : PySem.W.keepIn K (.ref a.f_jumps_of) = true
  F_jumps_of : Fun K "jumps_of" "jumps_of" s_jumps_of a.f_jumps_of a.d_jumps_of
  b_jumps_of : Binds K a.d_jumps_of ["row"] []
  g_name_of : mg "name_of" = some (.ref a.f_name_of)
  k_name_of : PySem.W.keepIn K (.ref a.f_name_of) = true
  F_name_of : Fun K "name_of" "name_of" s_name_of a.f_name_of a.d_name_of
  b_name_of : Binds K a.d_name_of ["row"] []
  g_level_of : mg "level_of" = some (.ref a.f_level_of)
  k_level_of : PySem.W.keepIn K (.ref a.f_level_of) = true
  F_level_of : Fun K "level_of" "level_of" s_level_of a.f_level_of a.d_level_of
  b_level_of : Binds K a.d_level_of ["row"] []
  g_spin_of : mg "spin_of" = some (.ref a.f_spin_of)
  k_spin_of : PySem.W.keepIn K (.ref a.f_spin_of) = true
  F_spin_of : Fun K "spin_of" "spin_of" s_spin_of a.f_spin_of a.d_spin_of
  b_spin_of : Binds K a.d_spin_of ["row"] []
  g_steps_of : mg "steps_of" = some (.ref a.f_steps_of)
  k_steps_of : PySem.W.keepIn K (.ref a.f_steps_of) = true
  F_steps_of : Fun K "steps_of" "steps_of" s_steps_of a.f_steps_of a.d_steps_of
  b_steps_of : Binds K a.d_steps_of ["row"] []
  g_element_of : mg "element_of" = some (.ref a.f_element_of)
  k_element_of : PySem.W.keepIn K (.ref a.f_element_of) = true
  F_element_of : Fun K "element_of" "element_of" s_element_of a.f_element_of a.d_element_of
  b_element_of : Binds K a.d_element_of ["row"] []
  g_need : mg "need" = some (.ref a.f_need)
  k_need : PySem.W.keepIn K (.ref a.f_need) = true
  F_need : Fun K "need" "need" s_need a.f_need a.d_need
  b_need : Binds K a.d_need ["good", "code"] []
  g_need_segment : mg "need_segment" = some (.ref a.f_need_segment)
  k_need_segment : PySem.W.keepIn K (.ref a.f_need_segment) = true
  F_need_segment : Fun K "need_segment" "need_segment" s_need_segment a.f_need_segment a.d_need_segment
  b_need_segment : Binds K a.d_need_segment ["free"] []
  g_need_text : mg "need_text" = some (.ref a.f_need_text)
  k_need_text : PySem.W.keepIn K (.ref a.f_need_text) = true
  F_need_text : Fun K "need_text" "need_text" s_need_text a.f_need_text a.d_need_text
  b_need_text : Binds K a.d_need_text ["text"] []
  g_element_in : mg "element_in" = some (.ref a.f_element_in)
  k_element_in : PySem.W.keepIn K (.ref a.f_element_in) = true
  F_element_in : Fun K "element_in" "element_in" s_element_in a.f_element_in a.d_element_in
  b_element_in : Binds K a.d_element_in ["text"] []
  g_flat : mg "flat" = some (.ref a.f_flat)
  k_flat : PySem.W.keepIn K (.ref a.f_flat) = true
  F_flat : Fun K "flat" "flat" s_flat a.f_flat a.d_flat
  b_flat : Binds K a.d_flat ["rows"] []
  g_of_skating : mg "of_skating" = some (.ref a.f_of_skating)
  k_of_skating : PySem.W.keepIn K (.ref a.f_of_skating) = true
  F_of_skating : Fun K "of_skating" "of_skating" s_of_skating a.f_of_skating a.d_of_skating
  b_of_skating : Binds K a.d_of_skating ["keeper", "call", "some", "rows"] []
  g_told : mg "told" = some (.ref a.f_told)
  k_told : PySem.W.keepIn K (.ref a.f_told) = true
  F_told : Fun K "told" "told" s_told a.f_told a.d_told
  b_told : Binds K a.d_told ["keeper", "call", "some", "rows"] []
  g_answer : mg "answer" = some (.ref a.f_answer)
  k_answer : PySem.W.keepIn K (.ref a.f_answer) = true
  F_answer : Fun K "answer" "answer" s_answer a.f_answer a.d_answer
  b_answer : Binds K a.d_answer ["keeper", "call", "some", "rows"] []
  g_rows_at : mg "rows_at" = some (.ref a.f_rows_at)
  k_rows_at : PySem.W.keepIn K (.ref a.f_rows_at) = true
  F_rows_at : Fun K "rows_at" "rows_at" s_rows_at a.f_rows_at a.d_rows_at
  b_rows_at : Binds K a.d_rows_at ["calls", "at", "many"] []
  g_answers : mg "answers" = some (.ref a.f_answers)
  k_answers : PySem.W.keepIn K (.ref a.f_answers) = true
  F_answers : Fun K "answers" "answers" s_answers a.f_answers a.d_answers
  b_answers : Binds K a.d_answers ["calls"] []
  F_Jump___init__ : Fun K "__init__" "Jump.__init__" s_Jump___init__ a.f_Jump___init__ a.d_Jump___init__
  b_Jump___init__ : Binds K a.d_Jump___init__ ["self", "kind", "turns", "edge", "missing"] []
  F_Jump_whole_worth : Fun K "whole_worth" "Jump.whole_worth" s_Jump_whole_worth a.f_Jump_whole_worth a.d_Jump_whole_worth
  b_Jump_whole_worth : Binds K a.d_Jump_whole_worth ["self"] []
  M_Jump_whole_worth : Meth K a.c_Jump "whole_worth" a.f_Jump_whole_worth
  F_Jump_worth : Fun K "worth" "Jump.worth" s_Jump_worth a.f_Jump_worth a.d_Jump_worth
  b_Jump_worth : Binds K a.d_Jump_worth ["self"] []
  M_Jump_worth : Meth K a.c_Jump "worth" a.f_Jump_worth
  F_Jump_told : Fun K "told" "Jump.told" s_Jump_told a.f_Jump_told a.d_Jump_told
  b_Jump_told : Binds K a.d_Jump_told ["self"] []
  M_Jump_told : Meth K a.c_Jump "told" a.f_Jump_told
  F_Element___init__ : Fun K "__init__" "Element.__init__" s_Element___init__ a.f_Element___init__ a.d_Element___init__
  b_Element___init__ : Binds K a.d_Element___init__ ["self", "sort", "jumps", "name", "level"] []
  F_Element_is_row : Fun K "is_row" "Element.is_row" s_Element_is_row a.f_Element_is_row a.d_Element_is_row
  b_Element_is_row : Binds K a.d_Element_is_row ["self"] []
  M_Element_is_row : Meth K a.c_Element "is_row" a.f_Element_is_row
  F_Element_own_worth : Fun K "own_worth" "Element.own_worth" s_Element_own_worth a.f_Element_own_worth a.d_Element_own_worth
  b_Element_own_worth : Binds K a.d_Element_own_worth ["self"] []
  M_Element_own_worth : Meth K a.c_Element "own_worth" a.f_Element_own_worth
  F_Element_told : Fun K "told" "Element.told" s_Element_told a.f_Element_told a.d_Element_told
  b_Element_told : Binds K a.d_Element_told ["self"] []
  M_Element_told : Meth K a.c_Element "told" a.f_Element_told
  F_Skated___init__ : Fun K "__init__" "Skated.__init__" s_Skated___init__ a.f_Skated___init__ a.d_Skated___init__
  b_Skated___init__ : Binds K a.d_Skated___init__ ["self", "element", "is_later", "grades"] []
  F_Skated_made : Fun K "made" "Skated.made" s_Skated_made a.f_Skated_made a.d_Skated_made
  b_Skated_made : Binds K a.d_Skated_made ["self"] []
  M_Skated_made : Meth K a.c_Skated "made" a.f_Skated_made
  F_Program___init__ : Fun K "__init__" "Program.__init__" s_Program___init__ a.f_Program___init__ a.d_Program___init__
  b_Program___init__ : Binds K a.d_Program___init__ ["self", "free"] []
  F_Program_counted : Fun K "counted" "Program.counted" s_Program_counted a.f_Program_counted a.d_Program_counted
  b_Program_counted : Binds K a.d_Program_counted ["self", "sort"] []
  M_Program_counted : Meth K a.c_Program "counted" a.f_Program_counted
  F_Program_do_jumps_count : Fun K "do_jumps_count" "Program.do_jumps_count" s_Program_do_jumps_count a.f_Program_do_jumps_count a.d_Program_do_jumps_count
  b_Program_do_jumps_count : Binds K a.d_Program_do_jumps_count ["self", "element"] []
  M_Program_do_jumps_count : Meth K a.c_Program "do_jumps_count" a.f_Program_do_jumps_count
  F_Program_does_count : Fun K "does_count" "Program.does_count" s_Program_does_count a.f_Program_does_count a.d_Program_does_count
  b_Program_does_count : Binds K a.d_Program_does_count ["self", "element"] []
  M_Program_does_count : Meth K a.c_Program "does_count" a.f_Program_does_count
  F_Program_jump_worth : Fun K "jump_worth" "Program.jump_worth" s_Program_jump_worth a.f_Program_jump_worth a.d_Program_jump_worth
  b_Program_jump_worth : Binds K a.d_Program_jump_worth ["self", "jump", "is_row"] []
  M_Program_jump_worth : Meth K a.c_Program "jump_worth" a.f_Program_jump_worth
  F_Program_take_jumps : Fun K "take_jumps" "Program.take_jumps" s_Program_take_jumps a.f_Program_take_jumps a.d_Program_take_jumps
  b_Program_take_jumps : Binds K a.d_Program_take_jumps ["self", "one"] []
  M_Program_take_jumps : Meth K a.c_Program "take_jumps" a.f_Program_take_jumps
  F_Program_take : Fun K "take" "Program.take" s_Program_take a.f_Program_take a.d_Program_take
  b_Program_take : Binds K a.d_Program_take ["self", "element", "is_later", "grades"] []
  M_Program_take : Meth K a.c_Program "take" a.f_Program_take
  F_Program_with_bonus : Fun K "with_bonus" "Program.with_bonus" s_Program_with_bonus a.f_Program_with_bonus a.d_Program_with_bonus
  b_Program_with_bonus : Binds K a.d_Program_with_bonus ["self"] []
  M_Program_with_bonus : Meth K a.c_Program "with_bonus" a.f_Program_with_bonus
  F_Program_worths : Fun K "worths" "Program.worths" s_Program_worths a.f_Program_worths a.d_Program_worths
  b_Program_worths : Binds K a.d_Program_worths ["self"] []
  M_Program_worths : Meth K a.c_Program "worths" a.f_Program_worths
  F_Result___init__ : Fun K "__init__" "Result.__init__" s_Result___init__ a.f_Result___init__ a.d_Result___init__
  b_Result___init__ : Binds K a.d_Result___init__ ["self", "program", "factor"] []
  F_Refused___init__ : Fun K "__init__" "Refused.__init__" s_Refused___init__ a.f_Refused___init__ a.d_Refused___init__
  b_Refused___init__ : Binds K a.d_Refused___init__ ["self", "code"] []
  F_Keeper___init__ : Fun K "__init__" "Keeper.__init__" s_Keeper___init__ a.f_Keeper___init__ a.d_Keeper___init__
  b_Keeper___init__ : Binds K a.d_Keeper___init__ ["self"] []
  F_Keeper_begin : Fun K "begin" "Keeper.begin" s_Keeper_begin a.f_Keeper_begin a.d_Keeper_begin
  b_Keeper_begin : Binds K a.d_Keeper_begin ["self", "judges", "short", "free"] []
  M_Keeper_begin : Meth K a.c_Keeper "begin" a.f_Keeper_begin
  F_Keeper_skater : Fun K "skater" "Keeper.skater" s_Keeper_skater a.f_Keeper_skater a.d_Keeper_skater
  b_Keeper_skater : Binds K a.d_Keeper_skater ["self"] []
  M_Keeper_skater : Meth K a.c_Keeper "skater" a.f_Keeper_skater
  F_Keeper_read : Fun K "read" "Keeper.read" s_Keeper_read a.f_Keeper_read a.d_Keeper_read
  b_Keeper_read : Binds K a.d_Keeper_read ["self", "text"] []
  M_Keeper_read : Meth K a.c_Keeper "read" a.f_Keeper_read
  F_Keeper_need_skater : Fun K "need_skater" "Keeper.need_skater" s_Keeper_need_skater a.f_Keeper_need_skater a.d_Keeper_need_skater
  b_Keeper_need_skater : Binds K a.d_Keeper_need_skater ["self", "skater", "free"] []
  M_Keeper_need_skater : Meth K a.c_Keeper "need_skater" a.f_Keeper_need_skater
  F_Keeper_start : Fun K "start" "Keeper.start" s_Keeper_start a.f_Keeper_start a.d_Keeper_start
  b_Keeper_start : Binds K a.d_Keeper_start ["self", "skater", "free"] []
  M_Keeper_start : Meth K a.c_Keeper "start" a.f_Keeper_start
  F_Keeper_need_program : Fun K "need_program" "Keeper.need_program" s_Keeper_need_program a.f_Keeper_need_program a.d_Keeper_need_program
  b_Keeper_need_program : Binds K a.d_Keeper_need_program ["self"] []
  M_Keeper_need_program : Meth K a.c_Keeper "need_program" a.f_Keeper_need_program
  F_Keeper_element : Fun K "element" "Keeper.element" s_Keeper_element a.f_Keeper_element a.d_Keeper_element
  b_Keeper_element : Binds K a.d_Keeper_element ["self", "second", "text", "grades"] []
  M_Keeper_element : Meth K a.c_Keeper "element" a.f_Keeper_element
  F_Keeper_marks : Fun K "marks" "Keeper.marks" s_Keeper_marks a.f_Keeper_marks a.d_Keeper_marks
  b_Keeper_marks : Binds K a.d_Keeper_marks ["self", "rows"] []
  M_Keeper_marks : Meth K a.c_Keeper "marks" a.f_Keeper_marks
  F_Keeper_faults : Fun K "faults" "Keeper.faults" s_Keeper_faults a.f_Keeper_faults a.d_Keeper_faults
  b_Keeper_faults : Binds K a.d_Keeper_faults ["self", "falls", "others", "seconds"] []
  M_Keeper_faults : Meth K a.c_Keeper "faults" a.f_Keeper_faults
  F_Keeper_end : Fun K "end" "Keeper.end" s_Keeper_end a.f_Keeper_end a.d_Keeper_end
  b_Keeper_end : Binds K a.d_Keeper_end ["self"] []
  M_Keeper_end : Meth K a.c_Keeper "end" a.f_Keeper_end
  F_Keeper_sheet : Fun K "sheet" "Keeper.sheet" s_Keeper_sheet a.f_Keeper_sheet a.d_Keeper_sheet
  b_Keeper_sheet : Binds K a.d_Keeper_sheet ["self", "skater", "free"] []
  M_Keeper_sheet : Meth K a.c_Keeper "sheet" a.f_Keeper_sheet
  F_Keeper_places : Fun K "places" "Keeper.places" s_Keeper_places a.f_Keeper_places a.d_Keeper_places
  b_Keeper_places : Binds K a.d_Keeper_places ["self", "free"] []
  M_Keeper_places : Meth K a.c_Keeper "places" a.f_Keeper_places
  F_Keeper_all_places : Fun K "all_places" "Keeper.all_places" s_Keeper_all_places a.f_Keeper_all_places a.d_Keeper_all_places
  b_Keeper_all_places : Binds K a.d_Keeper_all_places ["self"] []
  M_Keeper_all_places : Meth K a.c_Keeper "all_places" a.f_Keeper_all_places
  gC_Jump : mg "Jump" = some (.ref a.c_Jump)
  C_Jump : Cls K a.c_Jump
  mk_Jump : Mk K a.c_Jump a.f_Jump___init__
  n_Jump_kind : NoAttr K a.c_Jump "kind"
  n_Jump_turns : NoAttr K a.c_Jump "turns"
  n_Jump_edge : NoAttr K a.c_Jump "edge"
  n_Jump_missing : NoAttr K a.c_Jump "missing"
  gC_Element : mg "Element" = some (.ref a.c_Element)
  C_Element : Cls K a.c_Element
  mk_Element : Mk K a.c_Element a.f_Element___init__
  n_Element_sort_told : NoAttr K a.c_Element "sort_told"
  n_Element_jumps : NoAttr K a.c_Element "jumps"
  n_Element_name : NoAttr K a.c_Element "name"
  n_Element_level : NoAttr K a.c_Element "level"
  gC_Skated : mg "Skated" = some (.ref a.c_Skated)
  C_Skated : Cls K a.c_Skated
  mk_Skated : Mk K a.c_Skated a.f_Skated___init__
  n_Skated_skill : NoAttr K a.c_Skated "skill"
  n_Skated_is_later : NoAttr K a.c_Skated "is_later"
  n_Skated_grades : NoAttr K a.c_Skated "grades"
  n_Skated_is_counted : NoAttr K a.c_Skated "is_counted"
  n_Skated_plain_worth : NoAttr K a.c_Skated "plain_worth"
  n_Skated_goes_by : NoAttr K a.c_Skated "goes_by"
  gC_Program : mg "Program" = some (.ref a.c_Program)
  C_Program : Cls K a.c_Program
  mk_Program : Mk K a.c_Program a.f_Program___init__
  n_Program_free : NoAttr K a.c_Program "free"
  n_Program_skated : NoAttr K a.c_Program "skated"
  n_Program_seen : NoAttr K a.c_Program "seen"
  n_Program_rows : NoAttr K a.c_Program "rows"
  n_Program_told_faults : NoAttr K a.c_Program "told_faults"
  gC_Result : mg "Result" = some (.ref a.c_Result)
  C_Result : Cls K a.c_Result
  mk_Result : Mk K a.c_Result a.f_Result___init__
  n_Result_pairs : NoAttr K a.c_Result "pairs"
  n_Result_all_elements : NoAttr K a.c_Result "all_elements"
  n_Result_components : NoAttr K a.c_Result "components"
  n_Result_off : NoAttr K a.c_Result "off"
  n_Result_score : NoAttr K a.c_Result "score"
  gC_Refused : mg "Refused" = some (.ref a.c_Refused)
  ox_Refused : OexC K a.c_Refused
  oi_Refused : PySem.W.findIn K (.ref a.c_Refused) "__init__" = some (some (.ref a.f_Refused___init__))
  ot_Refused : PySem.W.typeIn K (.ref a.f_Refused___init__) = some (.type "function")
  xf_Refused : XfC K a.c_Refused
  no_Refused : PySem.W.findIn K (.ref a.c_Refused) "code" = some none
  te_Refused : PySem.W.exmOne K (.ref a.c_Refused) (.ref a.c_Refused) = some true
  vV : PySem.W.findCls K (.type "ValueError") (.type "type") "__init__" = some (.val (.builtin "ValueError.__init__"))
  gC_Keeper : mg "Keeper" = some (.ref a.c_Keeper)
  C_Keeper : Cls K a.c_Keeper
  mk_Keeper : Mk K a.c_Keeper a.f_Keeper___init__
  n_Keeper_judges : NoAttr K a.c_Keeper "judges"
  n_Keeper_factors : NoAttr K a.c_Keeper "factors"
  n_Keeper_results : NoAttr K a.c_Keeper "results"
  n_Keeper_skater_now : NoAttr K a.c_Keeper "skater_now"
  n_Keeper_program : NoAttr K a.c_Keeper "program"
  n_len : mg "len" = none
  n_abs : mg "abs" = none
  n_sum : mg "sum" = none
  n_sorted : mg "sorted" = none
  n_list : mg "list" = none
  n_min : mg "min" = none
  n_max : mg "max" = none
  n_int : mg "int" = none
  n_ord : mg "ord" = none
  n_any : mg "any" = none
  n_all : mg "all" = none
  n_range : mg "range" = none
  n_enumerate : mg "enumerate" = none
  n_ValueError : mg "ValueError" = none
  i_MANY_JUDGES : ∃ t, mg "MANY_JUDGES" = some (.int (5) t)
  i_JUMPS : ∃ t, mg "JUMPS" = some (.int (0) t)
  i_SPIN : ∃ t, mg "SPIN" = some (.int (1) t)
  i_STEPS : ∃ t, mg "STEPS" = some (.int (2) t)
  i_OTHERS : ∃ t, mg "OTHERS" = some (.int (3) t)
  i_SMALL : ∃ t, mg "SMALL" = some (.int (6) t)
  i_ON_EDGE : ∃ t, mg "ON_EDGE" = some (.int (1) t)
  i_SHORT_OF : ∃ t, mg "SHORT_OF" = some (.int (2) t)
  i_HALF_OFF : ∃ t, mg "HALF_OFF" = some (.int (3) t)
  i_SMALL_WORTH : ∃ t, mg "SMALL_WORTH" = some (.int (50) t)
  i_OTHERS_WORTH : ∃ t, mg "OTHERS_WORTH" = some (.int (200) t)
  i_MORE : ∃ t, mg "MORE" = some (.int (50) t)
  i_FLYING : ∃ t, mg "FLYING" = some (.int (10) t)
  i_CHANGED : ∃ t, mg "CHANGED" = some (.int (5) t)
  i_FREE : ∃ t, mg "FREE" = some (.int (1) t)
  i_MOST_SPINS : ∃ t, mg "MOST_SPINS" = some (.int (3) t)
  i_LEAST_REPEATED : ∃ t, mg "LEAST_REPEATED" = some (.int (3) t)
  i_REPEATED : ∃ t, mg "REPEATED" = some (.int (70) t)
  i_LATER : ∃ t, mg "LATER" = some (.int (110) t)
  i_MOST_JUMPS : ∃ t, mg "MOST_JUMPS" = some (.int (3) t)
  i_PLUS : ∃ t, mg "PLUS" = some (.int (43) t)
  i_NOUGHT : ∃ t, mg "NOUGHT" = some (.int (48) t)
  i_NOT_SO : ∃ t, mg "NOT_SO" = some (.int (-1) t)
  i_NOTHING_THERE : ∃ t, mg "NOTHING_THERE" = some (.int (-2) t)
  i_BEING_SKATED : ∃ t, mg "BEING_SKATED" = some (.int (-3) t)
  i_WRONG : ∃ t, mg "WRONG" = some (.int (-4) t)
  i_TOO_MANY : ∃ t, mg "TOO_MANY" = some (.int (-5) t)
  i_LEAST_JUDGES : ∃ t, mg "LEAST_JUDGES" = some (.int (3) t)
  i_MOST_JUDGES : ∃ t, mg "MOST_JUDGES" = some (.int (9) t)
  i_MOST_FACTOR : ∃ t, mg "MOST_FACTOR" = some (.int (1000) t)
  i_MOST_SKATERS : ∃ t, mg "MOST_SKATERS" = some (.int (30) t)
  i_MOST_TEXT : ∃ t, mg "MOST_TEXT" = some (.int (40) t)
  i_MOST_ELEMENTS : ∃ t, mg "MOST_ELEMENTS" = some (.int (20) t)
  i_MOST_GRADE : ∃ t, mg "MOST_GRADE" = some (.int (5) t)
  i_MOST_QUARTERS : ∃ t, mg "MOST_QUARTERS" = some (.int (40) t)
  i_MOST_FALLS : ∃ t, mg "MOST_FALLS" = some (.int (20) t)
  i_MOST_SECONDS : ∃ t, mg "MOST_SECONDS" = some (.int (300) t)
  s_LEVELS : ∃ t, mg "LEVELS" = some (.str "B1234" t)
  t_JUMP_WORTHS : mg "JUMP_WORTHS" = some (.ref a.t_JUMP_WORTHS)
  T_JUMP_WORTHS : KT K a.t_JUMP_WORTHS (a.u_JUMP_WORTHS.map V.ref)
  U_JUMP_WORTHS : Paired (fun p (xs : List Int) => KT K p (xs.map V.int)) a.u_JUMP_WORTHS [[40, 130, 420, 950], [40, 130, 430, 970], [50, 170, 490, 1050], [50, 180, 530, 1100], [60, 210, 590, 1150], [110, 330, 800, 1250]]
  t_SPIN_WORTHS : mg "SPIN_WORTHS" = some (.ref a.t_SPIN_WORTHS)
  T_SPIN_WORTHS : KT K a.t_SPIN_WORTHS (a.u_SPIN_WORTHS.map V.ref)
  U_SPIN_WORTHS : Paired (fun p (xs : List Int) => KT K p (xs.map V.int)) a.u_SPIN_WORTHS [[100, 120, 150, 190, 240], [120, 150, 190, 240, 270], [110, 140, 180, 230, 260], [110, 130, 160, 210, 250], [150, 170, 200, 250, 300]]
  t_STEPS_WORTHS : mg "STEPS_WORTHS" = some (.ref a.t_STEPS_WORTHS)
  T_STEPS_WORTHS : KT K a.t_STEPS_WORTHS [.int 150, .int 180, .int 260, .int 330, .int 390]
  t_MOST_JUMPED : mg "MOST_JUMPED" = some (.ref a.t_MOST_JUMPED)
  T_MOST_JUMPED : KT K a.t_MOST_JUMPED [.int 3, .int 7]
  t_MOST_ROWS : mg "MOST_ROWS" = some (.ref a.t_MOST_ROWS)
  T_MOST_ROWS : KT K a.t_MOST_ROWS [.int 1, .int 3]
  t_MOST_OF_THREE : mg "MOST_OF_THREE" = some (.ref a.t_MOST_OF_THREE)
  T_MOST_OF_THREE : KT K a.t_MOST_OF_THREE [.int 0, .int 1]
  t_MOST_OTHERS : mg "MOST_OTHERS" = some (.ref a.t_MOST_OTHERS)
  T_MOST_OTHERS : KT K a.t_MOST_OTHERS [.int 0, .int 1]
  t_MOST_BONUS : mg "MOST_BONUS" = some (.ref a.t_MOST_BONUS)
  T_MOST_BONUS : KT K a.t_MOST_BONUS [.int 1, .int 3]
  t_KINDS : mg "KINDS" = some (.ref a.t_KINDS)
  T_KINDS : KT K a.t_KINDS [.str "T", .str "S", .str "Lo", .str "F", .str "Lz", .str "A"]
  t_EDGED : mg "EDGED" = some (.ref a.t_EDGED)
  T_EDGED : KT K a.t_EDGED [.int 3, .int 4]
  t_BEHIND_SMALL : mg "BEHIND_SMALL" = some (.ref a.t_BEHIND_SMALL)
  T_BEHIND_SMALL : KT K a.t_BEHIND_SMALL [.int 1, .int 3]
  t_EDGES : mg "EDGES" = some (.ref a.t_EDGES)
  T_EDGES : KT K a.t_EDGES [.str "", .str "e", .str "!"]
  t_MISSING : mg "MISSING" = some (.ref a.t_MISSING)
  T_MISSING : KT K a.t_MISSING [.str "", .str "q", .str "<", .str "<<"]
  t_LAST_PARTS : mg "LAST_PARTS" = some (.ref a.t_LAST_PARTS)
  T_LAST_PARTS : KT K a.t_LAST_PARTS [.str "U", .str "L", .str "C", .str "S", .str "Co"]
  t_SHAPES : mg "SHAPES" = some (.ref a.t_SHAPES)
  T_SHAPES : KT K a.t_SHAPES (a.u_SHAPES.map V.ref)
  U_SHAPES : Paired (fun p (xs : List Int) => KT K p (xs.map V.int)) a.u_SHAPES [[0, 0], [3, 0], [0, 0], [0, 1], [2, 0], [1, 2], [0, 3], [3, 0], [0, 0], [2, 0], [1, 0], [0, 0]]
/-! ### an object's attributes, in their order -/
def F_Jump (v1 v2 v3 v4 : V) : List (Str × V) := [("kind", v1), ("turns", v2), ("edge", v3), ("missing", v4)]
def F_Element (v1 v2 v3 v4 : V) : List (Str × V) := [("sort_told", v1), ("jumps", v2), ("name", v3), ("level", v4)]
def F_Skated (v1 v2 v3 v4 v5 v6 : V) : List (Str × V) := [("skill", v1), ("is_later", v2), ("grades", v3), ("is_counted", v4), ("plain_worth", v5), ("goes_by", v6)]
def F_Program (v1 v2 v3 v4 v5 : V) : List (Str × V) := [("free", v1), ("skated", v2), ("seen", v3), ("rows", v4), ("told_faults", v5)]
def F_Result (v1 v2 v3 v4 v5 : V) : List (Str × V) := [("pairs", v1), ("all_elements", v2), ("components", v3), ("off", v4), ("score", v5)]
def F_Keeper (v1 v2 v3 v4 v5 : V) : List (Str × V) := [("judges", v1), ("factors", v2), ("results", v3), ("skater_now", v4), ("program", v5)]
theorem sc_hundredths : FnScope ["number", "many"] ["number", "many"] (defScope s_hundredths) := ⟨rfl, rfl, rfl, by decide +kernel, rfl, by decide +kernel, by decide +kernel⟩
theorem sc_away : FnScope ["top", "bottom", "found"] ["top", "bottom"] (defScope s_away) := ⟨rfl, rfl, rfl, by decide +kernel, rfl, by decide +kernel, by decide +kernel⟩
theorem sc_kept : FnScope ["numbers"] ["numbers"] (defScope s_kept) := ⟨rfl, rfl, rfl, by decide +kernel, rfl, by decide +kernel, by decide +kernel⟩
theorem sc_graded : FnScope ["grades", "by", "some"] ["grades", "by"] (defScope s_graded) := ⟨rfl, rfl, rfl, by decide +kernel, rfl, by decide +kernel, by decide +kernel⟩
theorem sc_component : FnScope ["quarters", "some"] ["quarters"] (defScope s_component) := ⟨rfl, rfl, rfl, by decide +kernel, rfl, by decide +kernel, by decide +kernel⟩
theorem sc_components_of : FnScope ["rows", "factor", "row"] ["rows", "factor"] (defScope s_components_of) := ⟨rfl, rfl, rfl, by decide +kernel, rfl, by decide +kernel, by decide +kernel⟩
theorem sc_taken_off : FnScope ["falls", "others", "seconds", "found", "fall"] ["falls", "others", "seconds"] (defScope s_taken_off) := ⟨rfl, rfl, rfl, by decide +kernel, rfl, by decide +kernel, by decide +kernel⟩
theorem sc_jumps_element : FnScope ["jumps"] ["jumps"] (defScope s_jumps_element) := ⟨rfl, rfl, rfl, by decide +kernel, rfl, by decide +kernel, by decide +kernel⟩
theorem sc_order_in : FnScope ["result", "free"] ["result", "free"] (defScope s_order_in) := ⟨rfl, rfl, rfl, by decide +kernel, rfl, by decide +kernel, by decide +kernel⟩
theorem sc_order_in_all : FnScope ["results", "short", "free"] ["results"] (defScope s_order_in_all) := ⟨rfl, rfl, rfl, by decide +kernel, rfl, by decide +kernel, by decide +kernel⟩
theorem sc_placed : FnScope ["told", "found", "order", "skater", "number", "place", "one"] ["told"] (defScope s_placed) := ⟨rfl, rfl, rfl, by decide +kernel, rfl, by decide +kernel, by decide +kernel⟩
theorem sc_turned : FnScope ["order", "number"] ["order"] (defScope s_turned) := ⟨rfl, rfl, rfl, by decide +kernel, rfl, by decide +kernel, by decide +kernel⟩
theorem sc_segment_places : FnScope ["results", "free", "some", "skater", "pair"] ["results", "free"] (defScope s_segment_places) := ⟨rfl, rfl, rfl, by decide +kernel, rfl, by decide +kernel, by decide +kernel⟩
theorem sc_places_in_all : FnScope ["results", "some", "skater", "pair", "order"] ["results"] (defScope s_places_in_all) := ⟨rfl, rfl, rfl, by decide +kernel, rfl, by decide +kernel, by decide +kernel⟩
theorem sc_codes : FnScope ["written", "sign"] ["written"] (defScope s_codes) := ⟨rfl, rfl, rfl, by decide +kernel, rfl, by decide +kernel, by decide +kernel⟩
theorem sc_number_in : FnScope ["some", "row", "number", "written"] ["some", "row"] (defScope s_number_in) := ⟨rfl, rfl, rfl, by decide +kernel, rfl, by decide +kernel, by decide +kernel⟩
theorem sc_split_by_plus : FnScope ["row", "found", "byte"] ["row"] (defScope s_split_by_plus) := ⟨rfl, rfl, rfl, by decide +kernel, rfl, by decide +kernel, by decide +kernel⟩
theorem sc_kind_at_first : FnScope ["row", "kind", "written"] ["row"] (defScope s_kind_at_first) := ⟨rfl, rfl, rfl, by decide +kernel, rfl, by decide +kernel, by decide +kernel⟩
theorem sc_edge_at_first : FnScope ["kind", "row"] ["kind", "row"] (defScope s_edge_at_first) := ⟨rfl, rfl, rfl, by decide +kernel, rfl, by decide +kernel, by decide +kernel⟩
theorem sc_jump_of : FnScope ["row", "kind", "behind", "edge", "missing"] ["row"] (defScope s_jump_of) := ⟨rfl, rfl, rfl, by decide +kernel, rfl, by decide +kernel, by decide +kernel⟩
theorem sc_may_be_row : FnScope ["jumps", "small", "place", "jump"] ["jumps"] (defScope s_may_be_row) := ⟨rfl, rfl, rfl, by decide +kernel, rfl, by decide +kernel, by decide +kernel⟩
theorem sc_jumps_of : FnScope ["row", "jumps", "piece", "jump"] ["row"] (defScope s_jumps_of) := ⟨rfl, rfl, rfl, by decide +kernel, rfl, by decide +kernel, by decide +kernel⟩
theorem sc_name_of : FnScope ["row", "flying", "left", "changed", "last"] ["row"] (defScope s_name_of) := ⟨rfl, rfl, rfl, by decide +kernel, rfl, by decide +kernel, by decide +kernel⟩
theorem sc_level_of : FnScope ["row", "sign"] ["row"] (defScope s_level_of) := ⟨rfl, rfl, rfl, by decide +kernel, rfl, by decide +kernel, by decide +kernel⟩
theorem sc_spin_of : FnScope ["row", "level", "name"] ["row"] (defScope s_spin_of) := ⟨rfl, rfl, rfl, by decide +kernel, rfl, by decide +kernel, by decide +kernel⟩
theorem sc_steps_of : FnScope ["row", "level"] ["row"] (defScope s_steps_of) := ⟨rfl, rfl, rfl, by decide +kernel, rfl, by decide +kernel, by decide +kernel⟩
theorem sc_element_of : FnScope ["row", "found"] ["row"] (defScope s_element_of) := ⟨rfl, rfl, rfl, by decide +kernel, rfl, by decide +kernel, by decide +kernel⟩
theorem sc_need : FnScope ["good", "code"] ["good", "code"] (defScope s_need) := ⟨rfl, rfl, rfl, by decide +kernel, rfl, by decide +kernel, by decide +kernel⟩
theorem sc_need_segment : FnScope ["free"] ["free"] (defScope s_need_segment) := ⟨rfl, rfl, rfl, by decide +kernel, rfl, by decide +kernel, by decide +kernel⟩
theorem sc_need_text : FnScope ["text", "byte"] ["text"] (defScope s_need_text) := ⟨rfl, rfl, rfl, by decide +kernel, rfl, by decide +kernel, by decide +kernel⟩
theorem sc_element_in : FnScope ["text", "found"] ["text"] (defScope s_element_in) := ⟨rfl, rfl, rfl, by decide +kernel, rfl, by decide +kernel, by decide +kernel⟩
theorem sc_flat : FnScope ["rows", "found", "row"] ["rows"] (defScope s_flat) := ⟨rfl, rfl, rfl, by decide +kernel, rfl, by decide +kernel, by decide +kernel⟩
theorem sc_of_skating : FnScope ["keeper", "call", "some", "rows"] ["keeper", "call", "some", "rows"] (defScope s_of_skating) := ⟨rfl, rfl, rfl, by decide +kernel, rfl, by decide +kernel, by decide +kernel⟩
theorem sc_told : FnScope ["keeper", "call", "some", "rows"] ["keeper", "call", "some", "rows"] (defScope s_told) := ⟨rfl, rfl, rfl, by decide +kernel, rfl, by decide +kernel, by decide +kernel⟩
theorem sc_answer : FnScope ["keeper", "call", "some", "rows", "e"] ["keeper", "call", "some", "rows"] (defScope s_answer) := ⟨rfl, rfl, rfl, by decide +kernel, rfl, by decide +kernel, by decide +kernel⟩
theorem sc_rows_at : FnScope ["calls", "at", "many", "found", "here", "turn", "end"] ["calls", "at", "many"] (defScope s_rows_at) := ⟨rfl, rfl, rfl, by decide +kernel, rfl, by decide +kernel, by decide +kernel⟩
theorem sc_answers : FnScope ["calls", "keeper", "found", "at", "call", "many", "lists", "begin", "rows", "end", "one"] ["calls"] (defScope s_answers) := ⟨rfl, rfl, rfl, by decide +kernel, rfl, by decide +kernel, by decide +kernel⟩
theorem sc_Jump___init__ : FnScope ["self", "kind", "turns", "edge", "missing"] ["self", "kind", "turns", "edge", "missing"] (defScope s_Jump___init__) := ⟨rfl, rfl, rfl, by decide +kernel, rfl, by decide +kernel, by decide +kernel⟩
theorem sc_Jump_whole_worth : FnScope ["self", "turns"] ["self"] (defScope s_Jump_whole_worth) := ⟨rfl, rfl, rfl, by decide +kernel, rfl, by decide +kernel, by decide +kernel⟩
theorem sc_Jump_worth : FnScope ["self", "is_less"] ["self"] (defScope s_Jump_worth) := ⟨rfl, rfl, rfl, by decide +kernel, rfl, by decide +kernel, by decide +kernel⟩
theorem sc_Jump_told : FnScope ["self"] ["self"] (defScope s_Jump_told) := ⟨rfl, rfl, rfl, by decide +kernel, rfl, by decide +kernel, by decide +kernel⟩
theorem sc_Element___init__ : FnScope ["self", "sort", "jumps", "name", "level"] ["self", "sort", "jumps", "name", "level"] (defScope s_Element___init__) := ⟨rfl, rfl, rfl, by decide +kernel, rfl, by decide +kernel, by decide +kernel⟩
theorem sc_Element_is_row : FnScope ["self"] ["self"] (defScope s_Element_is_row) := ⟨rfl, rfl, rfl, by decide +kernel, rfl, by decide +kernel, by decide +kernel⟩
theorem sc_Element_own_worth : FnScope ["self", "more"] ["self"] (defScope s_Element_own_worth) := ⟨rfl, rfl, rfl, by decide +kernel, rfl, by decide +kernel, by decide +kernel⟩
theorem sc_Element_told : FnScope ["self", "found", "jump"] ["self"] (defScope s_Element_told) := ⟨rfl, rfl, rfl, by decide +kernel, rfl, by decide +kernel, by decide +kernel⟩
theorem sc_Skated___init__ : FnScope ["self", "element", "is_later", "grades"] ["self", "element", "is_later", "grades"] (defScope s_Skated___init__) := ⟨rfl, rfl, rfl, by decide +kernel, rfl, by decide +kernel, by decide +kernel⟩
theorem sc_Skated_made : FnScope ["self"] ["self"] (defScope s_Skated_made) := ⟨rfl, rfl, rfl, by decide +kernel, rfl, by decide +kernel, by decide +kernel⟩
theorem sc_Program___init__ : FnScope ["self", "free"] ["self", "free"] (defScope s_Program___init__) := ⟨rfl, rfl, rfl, by decide +kernel, rfl, by decide +kernel, by decide +kernel⟩
theorem sc_Program_counted : FnScope ["self", "sort", "one"] ["self", "sort"] (defScope s_Program_counted) := ⟨rfl, rfl, rfl, by decide +kernel, rfl, by decide +kernel, by decide +kernel⟩
theorem sc_Program_do_jumps_count : FnScope ["self", "element", "some", "of_three", "one"] ["self", "element"] (defScope s_Program_do_jumps_count) := ⟨rfl, rfl, rfl, by decide +kernel, rfl, by decide +kernel, by decide +kernel⟩
theorem sc_Program_does_count : FnScope ["self", "element", "some", "one"] ["self", "element"] (defScope s_Program_does_count) := ⟨rfl, rfl, rfl, by decide +kernel, rfl, by decide +kernel, by decide +kernel⟩
theorem sc_Program_jump_worth : FnScope ["self", "jump", "is_row", "before", "kind", "turns", "stood"] ["self", "jump", "is_row"] (defScope s_Program_jump_worth) := ⟨rfl, rfl, rfl, by decide +kernel, rfl, by decide +kernel, by decide +kernel⟩
theorem sc_Program_take_jumps : FnScope ["self", "one", "is_row", "jump", "found"] ["self", "one"] (defScope s_Program_take_jumps) := ⟨rfl, rfl, rfl, by decide +kernel, rfl, by decide +kernel, by decide +kernel⟩
theorem sc_Program_take : FnScope ["self", "element", "is_later", "grades", "one"] ["self", "element", "is_later", "grades"] (defScope s_Program_take) := ⟨rfl, rfl, rfl, by decide +kernel, rfl, by decide +kernel, by decide +kernel⟩
theorem sc_Program_with_bonus : FnScope ["self", "some", "place", "one"] ["self"] (defScope s_Program_with_bonus) := ⟨rfl, rfl, rfl, by decide +kernel, rfl, by decide +kernel, by decide +kernel⟩
theorem sc_Program_worths : FnScope ["self", "more", "found", "place", "one", "own"] ["self"] (defScope s_Program_worths) := ⟨rfl, rfl, rfl, by decide +kernel, rfl, by decide +kernel, by decide +kernel⟩
theorem sc_Result___init__ : FnScope ["self", "program", "factor", "falls", "others", "seconds", "own", "made"] ["self", "program", "factor"] (defScope s_Result___init__) := ⟨rfl, rfl, rfl, by decide +kernel, rfl, by decide +kernel, by decide +kernel⟩
theorem sc_Refused___init__ : FnScope ["self", "code"] ["self", "code"] (defScope s_Refused___init__) := ⟨rfl, rfl, rfl, by decide +kernel, rfl, by decide +kernel, by decide +kernel⟩
theorem sc_Keeper___init__ : FnScope ["self"] ["self"] (defScope s_Keeper___init__) := ⟨rfl, rfl, rfl, by decide +kernel, rfl, by decide +kernel, by decide +kernel⟩
theorem sc_Keeper_begin : FnScope ["self", "judges", "short", "free"] ["self", "judges", "short", "free"] (defScope s_Keeper_begin) := ⟨rfl, rfl, rfl, by decide +kernel, rfl, by decide +kernel, by decide +kernel⟩
theorem sc_Keeper_skater : FnScope ["self"] ["self"] (defScope s_Keeper_skater) := ⟨rfl, rfl, rfl, by decide +kernel, rfl, by decide +kernel, by decide +kernel⟩
theorem sc_Keeper_read : FnScope ["self", "text"] ["self", "text"] (defScope s_Keeper_read) := ⟨rfl, rfl, rfl, by decide +kernel, rfl, by decide +kernel, by decide +kernel⟩
theorem sc_Keeper_need_skater : FnScope ["self", "skater", "free"] ["self", "skater", "free"] (defScope s_Keeper_need_skater) := ⟨rfl, rfl, rfl, by decide +kernel, rfl, by decide +kernel, by decide +kernel⟩
theorem sc_Keeper_start : FnScope ["self", "skater", "free", "pair"] ["self", "skater", "free"] (defScope s_Keeper_start) := ⟨rfl, rfl, rfl, by decide +kernel, rfl, by decide +kernel, by decide +kernel⟩
theorem sc_Keeper_need_program : FnScope ["self"] ["self"] (defScope s_Keeper_need_program) := ⟨rfl, rfl, rfl, by decide +kernel, rfl, by decide +kernel, by decide +kernel⟩
theorem sc_Keeper_element : FnScope ["self", "second", "text", "grades", "found", "many", "grade"] ["self", "second", "text", "grades"] (defScope s_Keeper_element) := ⟨rfl, rfl, rfl, by decide +kernel, rfl, by decide +kernel, by decide +kernel⟩
theorem sc_Keeper_marks : FnScope ["self", "rows", "row", "quarters"] ["self", "rows"] (defScope s_Keeper_marks) := ⟨rfl, rfl, rfl, by decide +kernel, rfl, by decide +kernel, by decide +kernel⟩
theorem sc_Keeper_faults : FnScope ["self", "falls", "others", "seconds"] ["self", "falls", "others", "seconds"] (defScope s_Keeper_faults) := ⟨rfl, rfl, rfl, by decide +kernel, rfl, by decide +kernel, by decide +kernel⟩
theorem sc_Keeper_end : FnScope ["self", "free", "found"] ["self"] (defScope s_Keeper_end) := ⟨rfl, rfl, rfl, by decide +kernel, rfl, by decide +kernel, by decide +kernel⟩
theorem sc_Keeper_sheet : FnScope ["self", "skater", "free", "found"] ["self", "skater", "free"] (defScope s_Keeper_sheet) := ⟨rfl, rfl, rfl, by decide +kernel, rfl, by decide +kernel, by decide +kernel⟩
theorem sc_Keeper_places : FnScope ["self", "free"] ["self", "free"] (defScope s_Keeper_places) := ⟨rfl, rfl, rfl, by decide +kernel, rfl, by decide +kernel, by decide +kernel⟩
theorem sc_Keeper_all_places : FnScope ["self"] ["self"] (defScope s_Keeper_all_places) := ⟨rfl, rfl, rfl, by decide +kernel, rfl, by decide +kernel, by decide +kernel⟩
end SkW

set_option Elab.async false
set_option linter.all false
set_option maxRecDepth 100000
set_option maxHeartbeats 4000000
namespace SkW
open PySem PySem.Spec PyProof.Rows L2 Evl
/-! ### names of the module -/
section
variable {X : Cx} {x : Str} {pos : Pos}
theorem pe_gint {n : Int} (hg : Gl X x) (hm : ∃ t, X.mg x = some (.int n t)) (hd : (x == ("__debug__" : Str)) = false := by decide) : PE X (.Name x pos) (tC (.int n)) := by
  obtain ⟨t, e⟩ := hm
  exact pe_glob hg e ⟨t, rfl⟩ hd
theorem pe_gstr {s : Str} (hg : Gl X x) (hm : ∃ t, X.mg x = some (.str s t)) (hd : (x == ("__debug__" : Str)) = false := by decide) : PE X (.Name x pos) (tC (.str s)) := by
  obtain ⟨t, e⟩ := hm
  exact pe_glob hg e ⟨t, rfl⟩ hd
theorem pe_gref {a : Addr} (hg : Gl X x) (hm : X.mg x = some (.ref a)) (hd : (x == ("__debug__" : Str)) = false := by decide) : PE X (.Name x pos) (tC (.ref a)) := pe_glob hg hm rfl hd
end
/-! ### what a reading evaluates to: more of it -/
section
variable {K : PySem.W.Frag} {σ : L2.St} {H H' : Hp} {ta tb te tx : TE} {t u : TT} {x y z v : V} {r : R2} {D : Ends} {tu tw : TS}
theorem rv_mul {i j : Int} (hc : (-(2 ^ 64) < i ∧ i < 2 ^ 64) ∨ (-(2 ^ 64) < j ∧ j < 2 ^ 64)) : RV (rI CMul fun i j => .int (i * j)) (.int i) (.int j) H (.int (i * j)) := rv_I hc
theorem rv_div {i j : Int} (hc : 0 < j ∧ j < 1073741824) : RV (rI CDiv fun i j => .int (i / j)) (.int i) (.int j) H (.int (i / j)) := rv_I hc
theorem rv_mod {i j : Int} (hc : 0 < j) : RV (rI (fun _ j => 0 < j) fun i j => .int (i % j)) (.int i) (.int j) H (.int (i % j)) := rv_I hc
theorem ev_fld {p C dx : Addr} {fs : List (Str × V)} {f : Str} (h : Ev ta σ H (.ref p)) (ho : H p = some (.ins C dx fs)) (hc : Cls K C) (hn : NoAttr K C f) (hl : fs.lookup f = some v) : Ev (tFld K ta f) σ H v := fun H1 e Q q =>
  h H1 e _ fun H2 e2 => ⟨p, C, dx, fs, v, rfl, e2 _ _ (e _ _ ho), hc, hn, hl, q H2 e2⟩
theorem ru_neg' {i : Int} : RU (rU fun i => .int (-i)) (.int i) H (.int (-i)) := ru_neg
theorem rc_abs {i : Int} : RC (fun xs H Q => ∃ i, xs = [.int i] ∧ Q (.int (if i < 0 then -i else i)) H) [.int i] H (.int (if i < 0 then -i else i)) := fun H1 _ _ q => ⟨i, rfl, q H1 (Ex.refl H1)⟩
theorem rc_max {i j : Int} : RC (fun xs H Q => ∃ i j, xs = [.int i, .int j] ∧ Q (.int (if j > i then j else i)) H) [.int i, .int j] H (.int (if j > i then j else i)) := fun H1 _ _ q => ⟨i, j, rfl, q H1 (Ex.refl H1)⟩
theorem rc_min {i j : Int} : RC (fun xs H Q => ∃ i j, xs = [.int i, .int j] ∧ Q (.int (if j < i then j else i)) H) [.int i, .int j] H (.int (if j < i then j else i)) := fun H1 _ _ q => ⟨i, j, rfl, q H1 (Ex.refl H1)⟩
theorem rc_intb {b : Bool} : RC (fun xs H Q => (∃ i, xs = [.int i] ∧ Q (.int i) H) ∨ ∃ k, xs = [.bl k] ∧ Q (.int (if k then 1 else 0)) H) [.bl b] H (.int (if b then 1 else 0)) := fun H1 _ _ q => .inr ⟨b, rfl, q H1 (Ex.refl H1)⟩
theorem rc_len {p : Addr} {ys : List V} (h : SqL K H p ys ∨ SqT K H p ys) : RC (fun xs H Q => ∃ p ys, xs = [.ref p] ∧ (SqL K H p ys ∨ SqT K H p ys) ∧ Q (.int ys.length) H) [.ref p] H (.int ys.length) := fun H1 e _ q =>
  ⟨p, ys, rfl, h.imp (ex_l e) (ex_t e), q H1 (Ex.refl H1)⟩
theorem rcl_list {p : Addr} {ys : List V} (h : SqL K H p ys ∨ SqT K H p ys) : RCL (fun xs H Q => ∃ p ys, xs = [.ref p] ∧ (SqL K H p ys ∨ SqT K H p ys) ∧ ∀ l, H l = none → Q (.ref l) (upd H l (.lst ys))) [.ref p] H ys := fun H1 e _ q =>
  ⟨p, ys, rfl, h.imp (ex_l e) (ex_t e), fun l hl => q l _ hl (Ex.new hl) upd_same⟩
theorem rc_sum {p : Addr} {ns : List Int} (h : SqL K H p (ns.map V.int)) : RC (rSum K) [.ref p] H (.int ns.sum) := fun H1 e _ q => ⟨p, ns, rfl, ex_l e h, q H1 (Ex.refl H1)⟩
theorem el_is {xs ys : List V} (h : EvL te σ H xs) (e : xs = ys) : EvL te σ H ys := e ▸ h
theorem ev_sumN {ns : List Int} (h : EvL ta σ H (ns.map V.int)) : Ev (tCB (rSum K) (tCons ta tNil)) σ H (.int ns.sum) := fun H1 e _ q => h H1 e _ fun p H2 _ e2 h2 => ⟨p, ns, rfl, sq_of h2, q H2 e2⟩
theorem ev_lenN' {xs : List V} (h : EvL ta σ H xs) : Ev (tCB (fun xs H Q => ∃ p ys, xs = [.ref p] ∧ (SqL K H p ys ∨ SqT K H p ys) ∧ Q (.int ys.length) H) (tCons ta tNil)) σ H (.int xs.length) := fun H1 e _ q =>
  h H1 e _ fun p H2 _ e2 h2 => ⟨p, xs, rfl, .inl (sq_of h2), q H2 e2⟩
theorem ev_anyN {bs : List Bool} (h : EvL ta σ H (bs.map V.bl)) : Ev (tCB (rAny K) (tCons ta tNil)) σ H (.bl (bs.any id)) := fun H1 e _ q => h H1 e _ fun p H2 _ e2 h2 => ⟨p, bs, rfl, sq_of h2, q H2 e2⟩
theorem ev_allN {bs : List Bool} (h : EvL ta σ H (bs.map V.bl)) : Ev (tCB (rAll K) (tCons ta tNil)) σ H (.bl (bs.all id)) := fun H1 e _ q => h H1 e _ fun p H2 _ e2 h2 => ⟨p, bs, rfl, sq_of h2, q H2 e2⟩
theorem et_yes : EvT tYes σ H true := fun H1 _ _ q => q H1 (Ex.refl H1)
/-- [e for x in xs], every item once -/
theorem el_map {p : Addr} {xs ys : List V} {tl : TE} {j : Nat} {vs : List Nat} (h : Ev tl σ H (.ref p)) (hx : SqL K H p xs) (hz : xs.length ≤ 40000) (hw : ∀ x, wipe ((wipe σ vs).set j (some x)) vs = wipe σ vs) (hl : ys.length = xs.length)
    (he : ∀ (i : Nat) (x y : V) H1, Ex H H1 → xs[i]? = some x → ys[i]? = some y → Ev te ((wipe σ vs).set j (some x)) H1 y) : EvL (tLc (iList K tl) (gName j) tYes te vs) σ H ys := by
  refine el_is (el_lcL (f := fun _ => true) (v := fun i => ys.getD i .non) h hx hz hw (fun _ _ _ _ _ => et_yes) (fun i x H1 e hi _ => ?_)) ?_
  · obtain ⟨h1, _⟩ := List.getElem?_eq_some_iff.mp hi
    have e2 : ys[i]? = some ys[i] := List.getElem?_eq_getElem (by omega)
    have e3 : ys.getD i .non = ys[i] := by rw [List.getD_eq_getElem?_getD, e2]; rfl
    rw [e3]
    exact he i x _ H1 e hi e2
  · unfold given
    rw [List.filter_eq_self.mpr (fun _ _ => rfl), ← hl]
    apply List.ext_getElem?
    intro i
    rw [List.getElem?_map]
    by_cases c : i < ys.length
    · rw [List.getElem?_range c, List.getElem?_eq_getElem c]
      show some (ys.getD i .non) = _
      rw [List.getD_eq_getElem?_getD, List.getElem?_eq_getElem c]; rfl
    · rw [List.getElem?_eq_none (by simpa using c), List.getElem?_eq_none (by omega)]
      rfl
theorem ev_meth {C p dx : Addr} {m : Str} {sp : Sp} {dvs vs : List V} {E : XK} {ta' : TA} {fs : List (Str × V)} (h : Ev ta σ H (.ref p)) (ho : H p = some (.ins C dx fs)) (hl : fs.lookup m = none) (ha : EvA ta' σ H vs) (hs : SpV sp (.ref p :: (vs ++ dvs)) H z) : Ev (tMeth C m sp dvs E ta ta') σ H z := fun H1 e Q q =>
  h H1 e _ fun H2 e2 => ⟨p, dx, fs, rfl, e2 _ _ (e _ _ ho), hl, ha H2 (e.trans e2) _ fun H3 e3 => hs H3 ((e.trans e2).trans e3) Q (fun H4 e4 => q H4 ((e2.trans e3).trans e4)) E⟩
theorem el_meth {C p dx : Addr} {m : Str} {sp : Sp} {dvs vs xs : List V} {E : XK} {ta' : TA} {fs : List (Str × V)} (h : Ev ta σ H (.ref p)) (ho : H p = some (.ins C dx fs)) (hl : fs.lookup m = none) (ha : EvA ta' σ H vs) (hs : SpL sp (.ref p :: (vs ++ dvs)) H xs) : EvL (tMeth C m sp dvs E ta ta') σ H xs := fun H1 e Q q =>
  h H1 e _ fun H2 e2 => ⟨p, dx, fs, rfl, e2 _ _ (e _ _ ho), hl, ha H2 (e.trans e2) _ fun H3 e3 => hs H3 ((e.trans e2).trans e3) Q (fun q2 H4 hq e4 h4 => q q2 H4 (fresh_back (e2.trans e3) hq) ((e2.trans e3).trans e4) h4) E⟩
/-- xs.extend(a new list) -/
theorem s_extL {l : Addr} {xs ys : List V} (hl : H l = some (.lst xs)) (ha : Ev ta σ H (.ref l)) (h : EvL te σ H ys) (hz : xs.length + ys.length ≤ 100000) (k : ∀ H1, Ex H H1 → D.nx σ (upd H1 l (.lst (xs ++ ys)))) :
    tDrop (tBM K "list" rExtend ta (tCons te tNil)) D σ H := ha H (Ex.refl H) _ fun H1 e1 =>
  ⟨.inl ⟨rfl, xs, sq_of (e1 l _ hl)⟩, h H1 e1 _ fun q H2 hq e2 h2 => ⟨l, q, xs, ys, rfl, rfl, e2 l _ (e1 l _ hl), h2, sz_of hz, k H2 (e1.trans e2)⟩⟩
/-- what is new -/
def nw (H H' : Hp) : Hp := fun b => if (H b).isSome = true then none else H' b
theorem nw_some {b : Addr} {o : HO} (h : nw H H' b = some o) : H b = none ∧ H' b = some o := by
  unfold nw at h
  cases e : H b with
  | some x => rw [e, if_pos (by rfl)] at h; cases h
  | none => rw [e, if_neg (by decide)] at h; exact ⟨rfl, h⟩
theorem nw_of {b : Addr} (h : H b = none) : nw H H' b = H' b := by
  unfold nw
  rw [h]; rfl
theorem nw_le : Ex (nw H H') H' := fun _ _ h => (nw_some h).2
theorem nw_mono {H2 : Hp} (e : Ex H' H2) : Ex (nw H H') (nw H H2) := fun b o h => by
  obtain ⟨h1, h2⟩ := nw_some h
  rw [nw_of h1]
  exact e b o h2
theorem nw_back {H1 H2 : Hp} (e : Ex H H1) : Ex (nw H1 H2) (nw H H2) := fun b o h => by
  obtain ⟨h1, h2⟩ := nw_some h
  rw [nw_of (fresh_back e h1)]
  exact h2
/-- a statement over a heap that has grown -/
theorem r_ret (e0 : Ex H H') (h : Ev te σ H v) (k : ∀ H1, Ex H H1 → D.rt v H1) : tRet te D σ H' := h H' e0 _ fun H1 e1 => k H1 (e0.trans e1)
end
end SkW

set_option Elab.async false
set_option linter.all false
set_option maxRecDepth 100000
set_option maxHeartbeats 4000000
/-! ### enumerate(v), v anything that begins an iterator: without a start -/
namespace SkE
open PySem PySem.Spec PyProof.Rows
open AutoSeq1 (wpAny_loadPart')
theorem enum_new_any {v : Value} {o : Obj} {Hv : Heap → Prop} (B : Begins v o Hv) :
    Meets (Builtin.«enumerate.__new__» ⟨[.type "enumerate", v], []⟩)
      (fun _ R z => Hv z.heap ∧ R (.ok (.ret (.ref (z.heap.push o).objs.size)))
        { z with heap := (z.heap.push o).push { cls := .type "enumerate", data := .fields #[.none, .bool false, .ref z.heap.objs.size, rawInt 0, .none, .none] } }) :=
  .of_wp fun pr wo Ar Rs z hz => by
    obtain ⟨hp, gg, dd, tt, oo⟩ := z
    obtain ⟨z1, z2⟩ := hz
    have zsub := sub_enumerate
    have zit : ∀ {Ar' : Around} {Ez : Value → Shared → Prop} {Qz : Value → Shared → Prop}, Qz (.ref hp.objs.size) ⟨hp.push o, gg, dd, tt, oo⟩ → wpAny (model pr wo) Ar' (pyIter v) Qz Ez ⟨hp, gg, dd, tt, oo⟩ :=
      fun qz => B.iter pr wo _ _ ⟨hp, gg, dd, tt, oo⟩ _ z1 qz
    wp_walk using zit
    refine wpAny_stack_any fun stk => wpAny_pure ?_
    split
    · rename_i kls _ _ _ _ _
      cases (kls == Value.type "enumerate") <;> (wp_walk using zit; exact ⟨_, rfl, z2⟩)
    · wp_walk using zit
      exact ⟨_, rfl, z2⟩
theorem call_enum_any {prog : Program} {w : World} {A : Around} {E : Value → Shared → Prop} {s : Shared} {v : Value} {o : Obj} {Hv : Heap → Prop} {Q : Value → Shared → Prop} (B : Begins v o Hv) (hv : Hv s.heap)
    (k : ∀ hn, IsEnum hn (s.heap.objs.size + 1) s.heap.objs.size 0 .none → hn.get? s.heap.objs.size = some o → (∀ b u, s.heap.get? b = some u → hn.get? b = some u) → Q (.ref (s.heap.objs.size + 1)) { s with heap := hn }) :
    wpAny (model prog w) A (call (.type "enumerate") [v]) Q E s := by
  refine callType_new F.called_enumerate (by decide) (F.typeCall_enumerate_1 _) (F.newCall_enumerate_1 _) (fun ob => F.args_object_init_2 ob _) F.entry_enumerate_new (enum_new_any B) ⟨hv, ?_⟩
  have sz : (s.heap.push o).objs.size = s.heap.objs.size + 1 := Heap.size_push ..
  show _ ∧ _
  rw [sz]
  have ie : IsEnum ((s.heap.push o).push { cls := .type "enumerate", data := .fields #[.none, .bool false, .ref s.heap.objs.size, rawInt 0, .none, .none] }) (s.heap.objs.size + 1) s.heap.objs.size 0 .none := by
    have g := Heap.get?_push_size (s.heap.push o) (o := { cls := .type "enumerate", data := .fields #[.none, .bool false, .ref s.heap.objs.size, rawInt 0, .none, .none] }) rfl
    rw [sz] at g
    exact g
  exact ⟨⟨_, ie, rfl⟩, k _ ie (Heap.get?_push_of_some _ (Heap.get?_push_size _ B.free)) fun b u x => Heap.get?_push_of_some _ (Heap.get?_push_of_some _ x)⟩
end SkE
namespace SkW
open PySem PySem.Spec PyProof.Rows L2 Evl
/-- a tuple's items, each in a new pair with its number -/
def IteT (K : PySem.W.Frag) (t : Addr) : It :=
  ⟨fun i H => ∃ (xs : List V) (x : V), SqT K H t xs ∧ xs[i]? = some x, fun i H v H' => ∃ T x, v = .ref T ∧ H T = none ∧ H' = upd H T (.tup [.int (i : Nat), x]) ∧ ∀ xs, SqT K H t xs → xs[i]? = some x, fun i H => ∃ xs : List V, SqT K H t xs ∧ i = xs.length⟩
theorem isTuple_of {h : Heap} {t : Addr} {vs : Array Value} (p : IsTup h t vs) : h.IsTuple t vs := p
theorem turn_enumT {P : Program} {w : World} {K : PySem.W.Frag} {elts : List Expr} {kk : Nat} {tpos : Pos} (t e it : Addr) (hti : t ≠ it) (hte : t ≠ e) :
    Turn P w K (.Tuple elts kk tpos) (IteT K t) [e, it] e (fun i h => (∃ old, IsEnum h e it ((i : Nat) : Int) old) ∧ h.IsTupleIter it t i ∧ e ≠ it) where
  mem := List.mem_cons_self
  obj := fun i h st b hb => by
    obtain ⟨⟨old, he⟩, ⟨ob, ho, hc, hd⟩, _⟩ := st
    rcases List.mem_cons.mp hb with z | z
    · subst z
      exact ⟨_, he, fun v q => nomatch q⟩
    · have z' : b = it := by simpa using z
      subst z'
      exact ⟨ob, ho, fun v q => by rw [hd] at q; cases q⟩
  keep := fun i h h' st k => by
    obtain ⟨⟨old, he⟩, hi, ne⟩ := st
    exact ⟨⟨old, k e (by simp) _ he⟩, hi.at fun ob q => k it (by simp) ob q, ne⟩
  item := by
    intro X hP hw hK hc i pins s σ H E I hf st hg
    subst hP hw hK
    obtain ⟨⟨old, he⟩, hit, ne⟩ := st
    obtain ⟨xs, x, hq, hx⟩ := hg
    obtain ⟨its, rv, p, hz⟩ := I.tuple hq
    obtain ⟨u, hu, ru⟩ := rv.get hx
    have hel : e < s.heap.objs.size := Heap.lt_size he
    have hil : it < s.heap.objs.size := by obtain ⟨_, q, _⟩ := hit; exact Heap.lt_size q
    have hin : i < its.toArray.size := by
      obtain ⟨q, _⟩ := List.getElem?_eq_some_iff.mp hu
      simpa using q
    have D : Draws X.prog X.w X.A.in1 it [it, t] its.toArray.size (fun i v => its.toArray[i]? = some v) (fun i h => h.IsTupleIter it t i ∧ h.IsTuple t its.toArray) := Draws.tuple (A := X.A.in1) (show X.A.in1.handled = none from I.ok.hd hc) it t hti its.toArray
    have hef : e ∉ [it, t] := fun z => by
      rcases List.mem_cons.mp z with z | z
      · exact ne z
      · have z' : e = t := by simpa using z
        exact hte z'.symm
    refine wpAny_pyNext_enum_itemD D he ⟨hit, isTuple_of p⟩ hin ne hef fun y h1 tk hy ho hst hT hsz hk => ?_
    have ey : y = u := by
      rw [show its.toArray[i]? = its[i]? from by simp, hu] at hy
      exact (Option.some.inj hy).symm
    subst ey
    refine ⟨_, rfl, wpAny_letOwnedTupleGo_enum (s := { s with heap := h1, toks := tk + 1 }) ho fun h2 he2 sb => ?_⟩
    have hT2 : h2.get? s.heap.objs.size = some { cls := .type "tuple", data := .seq #[.int i tk, y] } := (sb.2 _ (Nat.ne_of_gt hel)).trans hT
    have new : ObjOk X.prog X.w (upd H s.heap.objs.size (.tup [.int (i : Nat), x])) h2 s.heap.objs.size (.tup [.int (i : Nat), x]) :=
      ⟨(by decide : 2 ≤ sizeLine), [.int i tk, y], .cons ⟨_, rfl⟩ (.cons ru .nil), ⟨_, hT2, rfl, _, rfl⟩⟩
    have I1 : Inv X pins σ (upd H s.heap.objs.size (.tup [.int (i : Nat), x])) { s with heap := h2, toks := tk + 1 } :=
      I.turnedNew (ch := [e, it]) (fun b ob hb q => (sb.2 b (fun z => hb (by simp [z]))).trans (hk b ob (fun z => hb (by simp [z])) (fun z => hb (by simp [z])) q)) hf (Nat.le_refl _) new
    refine ⟨.ref s.heap.objs.size, _, I1, rfl, ⟨_, x, rfl, I.hok.fresh (Nat.le_refl _), rfl, fun ys hy => by rw [I.tuple_inj hy hq]; exact hx⟩, ⟨⟨y, ?_⟩, hst.1.at fun ob q => (sb.2 it (Ne.symm ne)).trans q, ne⟩, fun b hb => ?_⟩
    · have e1 : ((i + 1 : Nat) : Int) = (i : Int) + 1 := by omega
      rw [e1]
      exact he2
    · have hb' : b < s.heap.objs.size := by
        rcases List.mem_cons.mp hb with z | z
        · rw [z]; exact hel
        · have z' : b = it := by simpa using z
          rw [z']; exact hil
      rw [upd_ne (Nat.ne_of_lt hb')]
      exact (hf b hb).1
  done := by
    intro X hP hw hK hc i pins s σ H E I hf st hg
    subst hP hw hK
    obtain ⟨⟨old, he⟩, hit, ne⟩ := st
    obtain ⟨xs, hq, hx⟩ := hg
    obtain ⟨its, rv, p, hz⟩ := I.tuple hq
    obtain ⟨f0, f1, f2, f3, f4, f5⟩ := hf it (by simp)
    have hl := rv.length
    have D : Draws X.prog X.w X.A.in1 it [it, t] its.toArray.size (fun i v => its.toArray[i]? = some v) (fun i h => h.IsTupleIter it t i ∧ h.IsTuple t its.toArray) := Draws.tuple (A := X.A.in1) (show X.A.in1.handled = none from I.ok.hd hc) it t hti its.toArray
    have hn : its.toArray.size = i := by rw [List.size_toArray, ← hl, hx]
    exact wpAny_pyNext_enum_endD D he (by rw [hn]; exact ⟨hit, isTuple_of p⟩) fun h1 eb => ⟨rfl, I.turned (t' := s.toks) (fun b ob hb q => eb b ob hb q) f0 f1 f3 f4 f5⟩
  self := fun A i s Q E st h => let ⟨⟨_, he⟩, _⟩ := st; wpAny_pyIter_enum he h
/-- enumerate over a list or a tuple -/
def iEnumS (K : PySem.W.Frag) (ta : TA) : TI := fun σ H R => ta σ H fun vs H1 => ∃ t xs, vs = [.ref t] ∧ ((SqL K H1 t xs ∧ R (Ite K t) H1) ∨ (SqT K H1 t xs ∧ R (IteT K t) H1))
theorem pi_enumS {X : Cx} {e : Expr} {ta : TA} {p pos tpos : Pos} {elts : List Expr} {kk : Nat} (hg : Gl X "enumerate") (hm : X.mg "enumerate" = none) (ha : PA X [e] ta) (hs : starEach [e] X.env = [(false, eval e X.env)] := by rfl) :
    PI X (.Tuple elts kk tpos) (.Call (.Name "enumerate" p) [e] [] pos) (iEnumS X.K ta) := by
  refine ⟨fun pins s σ H R I h => ?_⟩
  refine Call_ (ld_blt I hg hm boot_enumerate (PyProof.Rows.callWith_type1 (thn (ha.run pos pins s σ H _ I h) fun us s1 ⟨vs, H1, I1, r1, q1⟩ => ?_) hs rfl))
  obtain ⟨t, xs, ex, q⟩ := q1
  subst ex
  cases r1 with
  | cons r rr =>
    cases rr
    cases r
    have fresh : ∀ b ∈ [s1.heap.objs.size + 1, s1.heap.objs.size], FpOk X pins H1 b := fun b hb => by
      have hle : s1.heap.objs.size ≤ b := by
        rcases List.mem_cons.mp hb with z | z
        · omega
        · have z' : b = s1.heap.objs.size := by simpa using z
          omega
      exact I1.fpOk hle (I1.hok.fresh hle)
    rcases q with ⟨hq, q⟩ | ⟨hq, q⟩
    · obtain ⟨its, rv, p', hz⟩ := I1.list hq
      refine call_enumerate_list p'.isList fun h' he hit hsz hk => wpAny_pyIter_enum he ?_
      exact ⟨s1.heap.objs.size + 1, [s1.heap.objs.size + 1, s1.heap.objs.size], _, _, H1, rfl, I1.kept (t' := s1.toks) hk, turn_enum t (s1.heap.objs.size + 1) s1.heap.objs.size, ⟨⟨.none, he⟩, hit, Nat.succ_ne_self _⟩, fresh, q⟩
    · obtain ⟨its, rv, p', hz⟩ := I1.tuple hq
      have hlt : t < s1.heap.objs.size := p'.lt
      refine SkE.call_enum_any (begins_tuple t its.toArray) (isTuple_of p') fun h' he hit hk => wpAny_pyIter_enum he ?_
      exact ⟨s1.heap.objs.size + 1, [s1.heap.objs.size + 1, s1.heap.objs.size], _, _, H1, rfl, I1.kept (t' := s1.toks) hk, turn_enumT t (s1.heap.objs.size + 1) s1.heap.objs.size (Nat.ne_of_lt hlt) (Nat.ne_of_lt (Nat.lt_succ_of_lt hlt)), ⟨⟨.none, he⟩, ⟨_, hit, rfl, rfl⟩, Nat.succ_ne_self _⟩, fresh, q⟩
/-! ### in a tuple of data; a list and the empty one; one tuple of numbers above another -/
theorem Room.u65 {k : Nat} {A : Around} (r : Room k A) : A.units + 65 < cLine := by have := r.un; omega
def rInT (K : PySem.W.Frag) : R2 := fun x y H Q => ∃ d ds, Dp K H x d ∧ Dp K H y (.tuple ds) ∧ SeqAt.shaped d = true ∧ SeqAt.shaped (.tuple ds) = true ∧ Q (.bl (ds.any fun z => PyData.eqv z d)) H
theorem op_inT {X : Cx} {k : Nat} (hr : Room k X.A) : OpR X (compareOp .In) (rInT X.K) := by
  intro pins s σ H x y v u Q I rx ry hh
  obtain ⟨d, ds, d1, d2, s1, s2, q⟩ := hh
  obtain ⟨as1, r1⟩ := Dp.reads I d x v d1 rx
  obtain ⟨as2, r2⟩ := Dp.reads I (.tuple ds) y u d2 ry
  exact SeqAt.in_tuple_reads r2 r1 (SeqAt.canLay_of_shaped s2) (SeqAt.canLay_of_shaped s1) (room_in_shaped s1 (Room.u65 hr)) ⟨.bl _, H, I, rfl, q⟩
def rEqNil (K : PySem.W.Frag) : R2 := fun x y H Q => ∃ p q xs, x = .ref p ∧ y = .ref q ∧ SqL K H p xs ∧ SqL K H q [] ∧ Q (.bl xs.isEmpty) H
theorem op_eqNil {X : Cx} {k : Nat} (hr : Room k X.A) : OpR X (compareOp .Eq) (rEqNil X.K) := by
  intro pins s σ H x y v u Q I rx ry hh
  obtain ⟨p, q, xs, rfl, rfl, hp, hq, hQ⟩ := hh
  cases rx
  cases ry
  obtain ⟨i1, v1, p1, _⟩ := I.list hp
  obtain ⟨i2, v2, p2, _⟩ := I.list hq
  cases v2
  cases xs with
  | nil =>
    cases v1
    exact SeqAt.eq_listAt (e := fun _ => true) p1.isList p2.isList rfl hr.units0 (fun j h1 _ => absurd h1 (Nat.not_lt_zero j)) ⟨.bl true, H, I, rfl, hQ⟩
  | cons a r =>
    cases v1 with
    | @cons _ b _ t _ _ =>
      exact SeqAt.eq_list_lengthsAt p1.isList p2.isList (by simp) hr.units0 ⟨.bl false, H, I, rfl, hQ⟩
theorem lexAt_ahead : ∀ (ns ms : List Int) (e r : Nat → Bool) (i : Nat), ns.length = ms.length → (∀ j x y, ns[j]? = some x → ms[j]? = some y → e (i + j) = decide (x = y) ∧ r (i + j) = decide (y < x)) → Ob.lexAt e r false i ns.length = Kg56.ahead ns ms
  | [], ms, e, r, i, hl, _ => by
    have : ms = [] := List.length_eq_zero_iff.mp hl.symm
    subst this
    rfl
  | x :: ns, [], _, _, _, hl, _ => by simp at hl
  | x :: ns, y :: ms, e, r, i, hl, h => by
    obtain ⟨h1, h2⟩ := h 0 x y rfl rfl
    have ih := lexAt_ahead ns ms e r (i + 1) (by simpa using hl) fun j x y hx hy => by
      have q := h (j + 1) x y (by simpa using hx) (by simpa using hy)
      rw [show i + 1 + j = i + (j + 1) by omega]
      exact q
    rw [Nat.add_zero] at h1 h2
    rw [List.length_cons, Ob.lexAt_succ, h1, h2, ih]
    show _ = (decide (y < x) || (x == y && Kg56.ahead ns ms))
    by_cases c : x = y
    · subst c
      simp
    · simp [c]
def rGtT (K : PySem.W.Frag) : R2 := fun x y H Q => ∃ (p q : Addr) (ns ms : List Int), x = .ref p ∧ y = .ref q ∧ SqT K H p (ns.map V.int) ∧ SqT K H q (ms.map V.int) ∧ ns.length = ms.length ∧ Q (.bl (Kg56.ahead ns ms)) H
theorem op_gtT {X : Cx} {k : Nat} (hr : Room k X.A) : OpR X (compareOp .Gt) (rGtT X.K) := by
  intro pins s σ H x y v u Q I rx ry hh
  obtain ⟨p, q, ns, ms, rfl, rfl, hp, hq, hl, hQ⟩ := hh
  cases rx
  cases ry
  obtain ⟨ia, va, pa, _⟩ := I.tuple hp
  obtain ⟨ib, vb, pb, _⟩ := I.tuple hq
  have ja : IntsAre ia ns := Vals.ints va
  have jb : IntsAre ib ms := Vals.ints vb
  have za : ia.toArray.size = ns.length := by rw [List.size_toArray, ja.length]
  have zb : ib.toArray.size = ms.length := by rw [List.size_toArray, jb.length]
  have ga : ∀ j (hj : j < ia.toArray.size), ∃ t, ia.toArray[j] = .int (ns.getD j 0) t := fun j hj => PyProof.Rows.IntsAre.int_at ja _ _ (by simp at hj; simp [hj])
  have gb : ∀ j (hj : j < ib.toArray.size), ∃ t, ib.toArray[j] = .int (ms.getD j 0) t := fun j hj => PyProof.Rows.IntsAre.int_at jb _ _ (by simp at hj; simp [hj])
  have big := Ob.RcOp.tuples_gt (A := X.A) (s := s) (e := fun j => (ns.getD j 0 == ms.getD j 0)) (r := fun j => decide (ms.getD j 0 < ns.getD j 0)) pa pb hr.units0 (fun j h1 h2 => by
    obtain ⟨ta, ea⟩ := ga j h1
    obtain ⟨tb, eb⟩ := gb j h2
    rw [ea, eb]
    exact SeqAt.EqAt.int_int _ _ _ _) (fun j h1 h2 _ => by
    obtain ⟨ta, ea⟩ := ga j h1
    obtain ⟨tb, eb⟩ := gb j h2
    rw [ea, eb]
    exact Ob.RcOp.gt_int _ _ _ _)
  rw [za, zb, ← hl, Nat.min_self, decide_eq_false (by omega), lexAt_ahead ns ms _ _ 0 hl (fun j x y hx hy => by
    rw [Nat.zero_add, List.getD_eq_getElem?_getD, List.getD_eq_getElem?_getD, hx, hy]
    exact ⟨rfl, rfl⟩)] at big
  exact big X.prog X.w X.xe (EP X pins σ Q) ⟨.bl _, H, I, rfl, hQ⟩
end SkW

set_option Elab.async false
set_option linter.all false
set_option maxRecDepth 100000
set_option maxHeartbeats 4000000
namespace SkW
open PySem PySem.Spec PyProof.Rows L2 Evl
theorem walk_enumT {K : PySem.W.Frag} {p : Addr} {xs : List V} : Walk (IteT K p) xs.length (fun H => SqT K H p xs) (YPair (fun i => some (.int (i : Nat))) (fun i => xs[i]?)) := by
  refine ⟨fun i _ hi q => ⟨xs, xs[i], q, by simp [hi]⟩, fun _ q => ⟨xs, q, rfl⟩, fun i H v H' _ q y => ?_⟩
  obtain ⟨T, x, z1, z2, z3, z4⟩ := y
  exact ⟨T, .int (i : Nat), x, z1, z2, z3, rfl, z4 xs q⟩
section
variable {K : PySem.W.Frag} {σ : L2.St} {H H' : Hp} {ta tb te tx : TE} {t u : TT} {x y z v : V} {r : R2} {D : Ends} {tu tw tz : TS}
/-- what's given at every turn -/
theorem given_all {n : Nat} {ys : List V} (hl : ys.length = n) : given n (fun _ => true) (fun i => ys.getD i .non) = ys := by
  subst hl
  unfold given
  rw [List.filter_eq_self.mpr (fun _ _ => rfl)]
  apply List.ext_getElem?
  intro i
  rw [List.getElem?_map]
  by_cases c : i < ys.length
  · rw [List.getElem?_range c, List.getElem?_eq_getElem c]
    show some (ys.getD i .non) = _
    rw [List.getD_eq_getElem?_getD, List.getElem?_eq_getElem c]; rfl
  · rw [List.getElem?_eq_none (by simpa using c), List.getElem?_eq_none (by omega)]
    rfl
/-- [e for c in a text] -/
theorem el_str {s : Str} {ys : List V} {tl : TE} {j : Nat} {vs : List Nat} (h : Ev tl σ H (.str s)) (hz : s.cps.size ≤ 40000) (hw : ∀ x, wipe ((wipe σ vs).set j (some x)) vs = wipe σ vs) (hl : ys.length = s.cps.size)
    (he : ∀ (i c : Nat) (y : V) H1, Ex H H1 → s.cps[i]? = some c → ys[i]? = some y → Ev te ((wipe σ vs).set j (some (.str ⟨#[c]⟩))) H1 y) : EvL (tLc (iStr tl) (gName j) tYes te vs) σ H ys := fun H0 e Q q => h H0 e _ fun H1 e1 => ⟨s, rfl, fun Dl hD =>
  lc_it walk_str (Cw H1 (fun _ => true) (fun i => ys.getD i .non) Dl) ⟨hD, Ex.new hD, upd_same⟩ (fun _ _ _ _ => trivial) (fun i x H2 H3 hi p hy => by
    obtain ⟨rfl, c, hc, rfl⟩ := hy
    refine ⟨hw _, cw_turn p (by omega) et_yes fun _ => ?_⟩
    have hi2 : i < ys.length := by omega
    have e2 : ys[i]? = some ys[i] := List.getElem?_eq_getElem hi2
    have e3 : ys.getD i .non = ys[i] := by rw [List.getD_eq_getElem?_getD, e2]; rfl
    rw [e3]
    exact he i c _ H1 (e.trans e1) hc e2) (fun H2 p => by
    have h3 := p.2.2
    rw [given_all hl] at h3
    exact q Dl H2 (fresh_back e1 p.1) (e1.trans p.2.1) h3)⟩
/-- [e for i, x in enumerate(a list) if ..] -/
theorem el_enum {p : Addr} {xs : List V} {ta' : TA} {j1 j2 : Nat} {vs : List Nat} (f : Nat → Bool) (v : Nat → V) (h : EvA ta' σ H [.ref p]) (hx : SqL K H p xs) (hz : xs.length ≤ 40000) (hw : ∀ x y, wipe (((wipe σ vs).set j1 (some x)).set j2 (some y)) vs = wipe σ vs)
    (ht : ∀ (i : Nat) (x : V) H1, Ex H H1 → xs[i]? = some x → EvT t (((wipe σ vs).set j1 (some (.int (i : Nat)))).set j2 (some x)) H1 (f i)) (he : ∀ (i : Nat) (x : V) H1, Ex H H1 → xs[i]? = some x → f i = true → Ev te (((wipe σ vs).set j1 (some (.int (i : Nat)))).set j2 (some x)) H1 (v i)) :
    EvL (tLc (iEnum K ta') (gTup K 2 (gCons (gName j1) (gCons (gName j2) gNil))) t te vs) σ H (given xs.length f v) := fun H0 e Q q => h H0 e _ fun H1 e1 => ⟨p, xs, rfl, ex_l (e.trans e1) hx, fun Dl hD =>
  lc_it walk_enum (Cw H1 f v Dl) ⟨hD, Ex.new hD, upd_same⟩ (fun _ _ _ q => ex_l ((e.trans e1).trans q.2.1) hx) (fun i x H2 H3 hi pc hy => by
    obtain ⟨T, n, y, rfl, hT, rfl, e1', e2'⟩ := hy
    cases e1'
    have pc' : Cw H1 f v Dl i (upd H2 T (.tup [.int (i : Nat), y])) := ⟨pc.1, pc.2.1.trans (Ex.new hT), by rw [upd_ne (ne_of_none pc.2.2 hT)]; exact pc.2.2⟩
    exact ⟨T, [.int (i : Nat), y], rfl, st_of upd_same, rfl, _, _, rfl, _, _, rfl, rfl, hw _ _, cw_turn pc' (by omega) (ht i y H1 (e.trans e1) e2') (fun hf => he i y H1 (e.trans e1) e2' hf)⟩) (fun H2 p => q Dl H2 (fresh_back e1 p.1) (e1.trans p.2.1) p.2.2)⟩
/-- for i, x in enumerate(a list | a tuple) -/
theorem q_forEnumS {p : Addr} {xs : List V} {ta' : TA} {j1 j2 : Nat} (h : EvA ta' σ H [.ref p]) (hx : SqL K H p xs ∨ SqT K H p xs) (Pv : Nat → L2.St → Hp → Prop) (h0 : ∀ H1, Ex H H1 → Pv 0 σ H1) (hl : ∀ i σ' H', Pv i σ' H' → Ex H H')
    (hs : ∀ i x σ' H' H2, xs[i]? = some x → Pv i σ' H' → Ex H' H2 → tu { D with nx := Pv (i + 1), ct := Pv (i + 1), bk := tz D } ((σ'.set j1 (some (.int (i : Nat)))).set j2 (some x)) H2) (hd : ∀ σ' H', Pv xs.length σ' H' → tz D σ' H') :
    tSeq (tFor (iEnumS K ta') (gTup K 2 (gCons (gName j1) (gCons (gName j2) gNil))) tu) tz D σ H := h H (Ex.refl H) _ fun H1 e1 => by
  have turn : ∀ (i : Nat) (x : V) (σ' : L2.St) (H' H2 : Hp), Pv i σ' H' → YPair (fun i => some (.int (i : Nat))) (fun i => xs[i]?) i H' x H2 →
      gTup K 2 (gCons (gName j1) (gCons (gName j2) gNil)) x σ' H2 fun σ2 H3 => tu { D with nx := Pv (i + 1), ct := Pv (i + 1), bk := tz D } σ2 H3 := fun i x σ' H' H2 pv hy => by
    obtain ⟨T, n, y, rfl, hT, rfl, e1', e2'⟩ := hy
    cases e1'
    exact ⟨T, [.int (i : Nat), y], rfl, st_of upd_same, rfl, _, _, rfl, _, _, rfl, rfl, hs i y σ' H' _ e2' pv (Ex.new hT)⟩
  rcases hx with hx | hx
  · exact ⟨p, xs, rfl, .inl ⟨ex_l e1 hx, for_it (D := { D with nx := tz D }) walk_enum Pv (h0 H1 e1) (fun i σ' H' _ pv => ex_l (hl i σ' H' pv) hx) (fun i x σ' H' H2 _ pv hy => turn i x σ' H' H2 pv hy) hd⟩⟩
  · exact ⟨p, xs, rfl, .inr ⟨ex_t e1 hx, for_it (D := { D with nx := tz D }) walk_enumT Pv (h0 H1 e1) (fun i σ' H' _ pv => ex_t (hl i σ' H' pv) hx) (fun i x σ' H' H2 _ pv hy => turn i x σ' H' H2 pv hy) hd⟩⟩
theorem q_forEnum {p : Addr} {xs : List V} {ta' : TA} {j1 j2 : Nat} (h : EvA ta' σ H [.ref p]) (hx : SqL K H p xs) (Pv : Nat → L2.St → Hp → Prop) (h0 : ∀ H1, Ex H H1 → Pv 0 σ H1) (hl : ∀ i σ' H', Pv i σ' H' → SqL K H' p xs)
    (hs : ∀ i x σ' H' H2, xs[i]? = some x → Pv i σ' H' → Ex H' H2 → tu { D with nx := Pv (i + 1), ct := Pv (i + 1), bk := tz D } ((σ'.set j1 (some (.int (i : Nat)))).set j2 (some x)) H2) (hd : ∀ σ' H', Pv xs.length σ' H' → tz D σ' H') :
    tSeq (tFor (iEnum K ta') (gTup K 2 (gCons (gName j1) (gCons (gName j2) gNil))) tu) tz D σ H := h H (Ex.refl H) _ fun H1 e1 =>
  ⟨p, xs, rfl, ex_l e1 hx, for_it (D := { D with nx := tz D }) walk_enum Pv (h0 H1 e1) (fun i σ' H' _ pv => hl i σ' H' pv) (fun i x σ' H' H2 _ pv hy => by
    obtain ⟨T, n, y, rfl, hT, rfl, e1', e2'⟩ := hy
    cases e1'
    exact ⟨T, [.int (i : Nat), y], rfl, st_of upd_same, rfl, _, _, rfl, _, _, rfl, rfl, hs i y σ' H' _ e2' pv (Ex.new hT)⟩) hd⟩
/-! ### lists of numbers compared -/
theorem dp_ints : ∀ ns : List Int, DpAll K H (ns.map V.int) (ns.map PyData.int)
  | [] => .nil
  | n :: r => .cons (.int n) (dp_ints r)
theorem depth_nums : ∀ ns : List Int, PyData.depthAll (ns.map PyData.int) = 0
  | [] => rfl
  | n :: r => by
    show max (PyData.depth (.int n)) (PyData.depthAll (r.map PyData.int)) = 0
    rw [depth_nums r]
    rfl
theorem lay_nums : ∀ ns : List Int, PyData.canLayAll0 (ns.map PyData.int) = true
  | [] => rfl
  | n :: r => by
    show (PyData.canLay0 (.int n) && PyData.canLayAll0 (r.map PyData.int)) = true
    rw [lay_nums r]
    rfl
theorem shaped_nums (ns : List Int) : SeqAt.shaped (.list (ns.map PyData.int)) = true := by
  show (PyData.canLay0 (.list (ns.map PyData.int)) && decide (PyData.depth (.list (ns.map PyData.int)) ≤ 64)) = true
  have e1 : PyData.canLay0 (.list (ns.map PyData.int)) = true := by simp only [PyData.canLay0]; exact lay_nums ns
  have e2 : PyData.depth (.list (ns.map PyData.int)) ≤ 64 := by simp only [PyData.depth]; rw [depth_nums]; omega
  rw [e1, decide_eq_true e2]
  rfl
theorem eqv_nums : ∀ ns ms : List Int, PyData.eqvAll (ns.map PyData.int) (ms.map PyData.int) = decide (ns = ms)
  | [], [] => by simp [PyData.eqvAll]
  | [], _ :: _ => by simp [PyData.eqvAll]
  | _ :: _, [] => by simp [PyData.eqvAll]
  | n :: r, m :: s => by
    rw [List.map_cons, List.map_cons, PyData.eqvAll, eqv_nums r s]
    by_cases c : n = m
    · subst c; simp [PyData.eqv]
    · simp [PyData.eqv, c]
theorem eqv_lists (ns ms : List Int) : PyData.eqv (.list (ns.map PyData.int)) (.list (ms.map PyData.int)) = decide (ns = ms) := by
  rw [PyData.eqv]; exact eqv_nums ns ms
theorem dp_nums {p : Addr} {ns : List Int} (h : SqL K H p (ns.map V.int)) : Dp K H (.ref p) (.list (ns.map PyData.int)) := .lst h (dp_ints ns)
theorem rv_eqN {p q : Addr} {ns ms : List Int} (h1 : SqL K H p (ns.map V.int)) (h2 : SqL K H q (ms.map V.int)) : RV (rEqD K) (.ref p) (.ref q) H (.bl (decide (ns = ms))) := fun H1 e _ k =>
  ⟨_, _, dp_nums (ex_l e h1), dp_nums (ex_l e h2), shaped_nums ns, shaped_nums ms, by rw [eqv_lists]; exact k H1 (Ex.refl H1)⟩
theorem rv_neN {p q : Addr} {ns ms : List Int} (h1 : SqL K H p (ns.map V.int)) (h2 : SqL K H q (ms.map V.int)) : RV (rNeD K) (.ref p) (.ref q) H (.bl (!decide (ns = ms))) := fun H1 e _ k =>
  ⟨_, _, dp_nums (ex_l e h1), dp_nums (ex_l e h2), shaped_nums ns, shaped_nums ms, by rw [eqv_lists]; exact k H1 (Ex.refl H1)⟩
/-- a list that stands against a new one -/
theorem ev_eqNew {p : Addr} {ns ms : List Int} (ha : Ev ta σ H (.ref p)) (h1 : SqL K H p (ns.map V.int)) (hb : EvL tb σ H (ms.map V.int)) : Ev (tOp (rEqD K) ta tb) σ H (.bl (decide (ns = ms))) :=
  ev_opL ha hb fun q H1 hq e => rv_eqN (ex_l e h1) (sq_of hq)
theorem ev_eqNew2 {ns ms : List Int} (ha : EvL ta σ H (ns.map V.int)) (hb : EvL tb σ H (ms.map V.int)) : Ev (tOp (rEqD K) ta tb) σ H (.bl (decide (ns = ms))) :=
  ev_opLL ha hb fun q q2 H1 h1 h2 e => rv_eqN (sq_of h1) (sq_of h2)
theorem ev_neNew2 {ns ms : List Int} (ha : EvL ta σ H (ns.map V.int)) (hb : EvL tb σ H (ms.map V.int)) : Ev (tOp (rNeD K) ta tb) σ H (.bl (!decide (ns = ms))) :=
  ev_opLL ha hb fun q q2 H1 h1 h2 e => rv_neN (sq_of h1) (sq_of h2)
end
section
variable {K : PySem.W.Frag} {σ : L2.St} {H : Hp} {te tl : TE}
/-- new but for D -/
def nwD (Dl : Addr) (H H' : Hp) : Hp := fun b => if b = Dl then none else nw H H' b
theorem nwD_some {Dl b : Addr} {o : HO} {H' : Hp} (h : nwD Dl H H' b = some o) : b ≠ Dl ∧ nw H H' b = some o := by
  unfold nwD at h
  by_cases c : b = Dl
  · rw [if_pos c] at h; cases h
  · rw [if_neg c] at h; exact ⟨c, h⟩
theorem nwD_of {Dl b : Addr} {H' : Hp} (h : b ≠ Dl) : nwD Dl H H' b = nw H H' b := if_neg h
/-- [e for x in xs], each item told by a relation to what is new -/
theorem lc_rel {p : Addr} {xs : List V} {j : Nat} {vs : List Nat} {Q : VK} (R : Nat → V → Hp → Prop) (Rm : ∀ i y H1 H2, Ex H1 H2 → R i y H1 → R i y H2) (h : Ev tl σ H (.ref p)) (hx : SqL K H p xs) (hz : xs.length ≤ 40000) (hw : ∀ x, wipe ((wipe σ vs).set j (some x)) vs = wipe σ vs)
    (he : ∀ (i : Nat) (x : V) H1, Ex H H1 → xs[i]? = some x → ∀ Q1 : VK, (∀ y H2, Ex H1 H2 → R i y (nw H1 H2) → Q1 y H2) → te ((wipe σ vs).set j (some x)) H1 Q1)
    (k : ∀ Dl ys H2, H Dl = none → Ex H H2 → H2 Dl = some (.lst ys) → ys.length = xs.length → (∀ i y, ys[i]? = some y → R i y (nw H H2)) → Q (.ref Dl) H2) : tLc (iList K tl) (gName j) tYes te vs σ H Q := h H (Ex.refl H) _ fun H0 e0 => ⟨p, rfl, ⟨xs, ex_l e0 hx⟩, fun Dl hD =>
  lc_list (xs := xs) (fun i H1 => Ex H H1 ∧ H Dl = none ∧ ∃ ys, H1 Dl = some (.lst ys) ∧ ys.length = i ∧ ∀ m y, ys[m]? = some y → R m y (nwD Dl H H1))
    ⟨e0.trans (Ex.new hD), fresh_back e0 hD, [], upd_same, rfl, fun m y hy => by simp at hy⟩ (fun i H1 _ pv => ex_l pv.1 hx) (fun i x H1 hi pv => by
      obtain ⟨e1, hDl, ys, h1, hl, hR⟩ := pv
      refine ⟨hw x, he i x H1 e1 hi _ fun y H2 e2 hy => ⟨ys, e2 _ _ h1, ?_, (e1.trans e2).mut hDl, hDl, ys ++ [y], upd_same, by simp [hl], fun m z hz => ?_⟩⟩
      · have := (List.getElem?_eq_some_iff.mp hi).1
        exact sz_lt (by omega)
      · have same : Ex (nwD Dl H H2) (nwD Dl H (upd H2 Dl (.lst (ys ++ [y])))) := fun b o q => by
          obtain ⟨q1, q2⟩ := nwD_some q
          obtain ⟨q3, q4⟩ := nw_some q2
          rw [nwD_of q1, nw_of q3, upd_ne q1]
          exact q4
        by_cases c : m < ys.length
        · rw [List.getElem?_append_left c] at hz
          refine Rm m z _ _ same (Rm m z _ _ (fun b o q => ?_) (hR m z hz))
          obtain ⟨q1, q2⟩ := nwD_some q
          rw [nwD_of q1]
          exact nw_mono e2 _ _ q2
        · have hm : m = i := by
            have := (List.getElem?_eq_some_iff.mp hz).1
            rw [List.length_append] at this
            simp at this
            omega
          subst hm
          rw [List.getElem?_append_right (by omega)] at hz
          have : z = y := by
            rw [hl, Nat.sub_self] at hz
            exact (Option.some.inj hz).symm
          subst this
          refine Rm m z _ _ same (Rm m z _ _ (fun b o q => ?_) hy)
          obtain ⟨q1, q2⟩ := nw_some q
          rw [nwD_of (fun z => by rw [z, h1] at q1; cases q1), nw_of (fresh_back e1 q1)]
          exact q2) (fun H1 pv => by
      obtain ⟨e1, hDl, ys, h1, hl, hR⟩ := pv
      exact k Dl ys H1 hDl e1 h1 hl fun m y hy => Rm m y _ _ (fun b o q => (nwD_some q).2) (hR m y hy))⟩
end
/-! ### rules inside a comprehension: the fragment's own letter -/
section
variable {X : Cx} {K : PySem.W.Frag} {e : Expr} {es : List Expr} {f : Str} {ta tl : TE} {pos : Pos}
theorem pe_fldK (hK : X.K = K) (he : PE X e ta) (hb : attributeBase e f X.env (eval e X.env) = eval e X.env) : PE X (.Attribute e f pos) (tFld K ta f) := hK ▸ pe_fld he hb
theorem pg_tupK {k n : Nat} {t : TGs} (hK : X.K = K) (hc : X.calm = true) (h : PGs X es t) (hn : (assignEach es X.env).length = n := by rfl) (hst : (assignEach es X.env).findIdx? (·.1) = none := by rfl) : PG X (.Tuple es k pos) (gTup K n t) := hK ▸ pg_tup hc h hn hst
theorem ix_tupK (hK : X.K = K) : IxR X (rIxT K) := hK ▸ ix_tup
theorem ix_listK (hK : X.K = K) : IxR X (rIxL K) := hK ▸ ix_list
theorem call_len_seqK (hK : X.K = K) : CallR X (.builtin "len") (fun xs H Q => ∃ p ys, xs = [.ref p] ∧ (SqL K H p ys ∨ SqT K H p ys) ∧ Q (.int ys.length) H) := hK ▸ call_len_seq
theorem call_list_ofK (hK : X.K = K) : CallR X (.type "list") (fun xs H Q => ∃ p ys, xs = [.ref p] ∧ (SqL K H p ys ∨ SqT K H p ys) ∧ ∀ l, H l = none → Q (.ref l) (upd H l (.lst ys))) := hK ▸ call_list_of
theorem op_gtTK {k : Nat} (hK : X.K = K) (hr : Room k X.A) : OpR X (compareOp .Gt) (rGtT K) := hK ▸ op_gtT hr
theorem cr_allK (hK : X.K = K) (hc : X.calm = true) : CallR X (.builtin "all") (rAll K) := hK ▸ cr_all hc
theorem pi_listK {tg l : Expr} (hK : X.K = K) (hl : PE X l tl) : PI X tg l (iList K tl) := hK ▸ pi_list hl
end
end SkW

set_option Elab.async false
set_option linter.all false
set_option maxRecDepth 100000
set_option maxHeartbeats 4000000
namespace SkW
open PySem PySem.Spec PyProof.Rows L2 Evl
theorem given_zs {α : Type} (g : α → Bool) (v : α → V) : ∀ zs : List α, given zs.length (fun i => (zs[i]?).any g) (fun i => ((zs[i]?).map v).getD .non) = (zs.filter g).map v
  | [] => rfl
  | z :: zs => by
    have ih := given_zs g v zs
    unfold given at ih ⊢
    rw [List.length_cons, List.range_succ_eq_map, List.filter_cons]
    have hf : ((List.range zs.length).map Nat.succ).filter (fun i => ((z :: zs)[i]?).any g) = ((List.range zs.length).filter fun i => (zs[i]?).any g).map Nat.succ := by
      rw [List.filter_map]
      rfl
    have hm : (((List.range zs.length).filter fun i => (zs[i]?).any g).map Nat.succ).map (fun i => (((z :: zs)[i]?).map v).getD .non) = ((List.range zs.length).filter fun i => (zs[i]?).any g).map (fun i => ((zs[i]?).map v).getD .non) := by
      rw [List.map_map]
      rfl
    rw [List.filter_cons]
    by_cases c : g z = true
    · rw [if_pos (by simpa using c), if_pos c, List.map_cons, List.map_cons, hf, hm, ih]
      rfl
    · rw [if_neg (by simpa using c), if_neg c, hf, hm, ih]
section
variable {K : PySem.W.Frag} {σ : L2.St} {H H' : Hp} {te tl : TE} {t : TT}
/-- [e for z in zs if ..], any target -/
theorem el_pickG {α : Type} (zs : List α) (f : α → Bool) (u v : α → V) (sz : α → L2.St) {g : TG} {p : Addr} {vs : List Nat} (h : Ev tl σ H (.ref p)) (hx : SqL K H p (zs.map u)) (hz : zs.length ≤ 40000)
    (hg : ∀ z H1, Ex H H1 → z ∈ zs → ∀ Q : L2.St → Hp → Prop, Q (sz z) H1 → g (u z) (wipe σ vs) H1 Q) (hw : ∀ z ∈ zs, wipe (sz z) vs = wipe σ vs) (ht : ∀ z H1, Ex H H1 → z ∈ zs → EvT t (sz z) H1 (f z)) (he : ∀ z H1, Ex H H1 → z ∈ zs → f z = true → Ev te (sz z) H1 (v z)) :
    EvL (tLc (iList K tl) g t te vs) σ H ((zs.filter f).map v) := fun H0 e Q q => h H0 e _ fun H1 e1 => ⟨p, rfl, ⟨_, ex_l (e.trans e1) hx⟩, fun Dl hD =>
  lc_list (xs := zs.map u) (Cw H1 (fun i => (zs[i]?).any f) (fun i => ((zs[i]?).map v).getD .non) Dl) ⟨hD, Ex.new hD, upd_same⟩ (fun i H' _ p => ex_l ((e.trans e1).trans p.2.1) hx) (fun i x H' hi p => by
    rw [List.getElem?_map] at hi
    cases hzi : zs[i]? with
    | none => rw [hzi] at hi; cases hi
    | some z =>
      rw [hzi] at hi
      cases hi
      have hm := List.mem_of_getElem? hzi
      have hlt := (List.getElem?_eq_some_iff.mp hzi).1
      refine hg z H' ((e.trans e1).trans p.2.1) hm _ ⟨hw z hm, cw_turn p (by omega) ?_ fun hf => ?_⟩
      · show EvT t (sz z) H1 ((zs[i]?).any f)
        rw [hzi]
        exact ht z H1 (e.trans e1) hm
      · have hf' : (zs[i]?).any f = true := hf
        rw [hzi] at hf'
        show Ev te (sz z) H1 (((zs[i]?).map v).getD .non)
        rw [hzi]
        exact he z H1 (e.trans e1) hm hf')
    (fun H' p => q Dl H' (fresh_back e1 p.1) (e1.trans p.2.1) (by
      have h3 := p.2.2
      rw [List.length_map, given_zs] at h3
      exact h3))⟩
/-- [e for x in xs if ..] -/
theorem el_pick {α : Type} (zs : List α) (f : α → Bool) (u v : α → V) {p : Addr} {j : Nat} {vs : List Nat} (h : Ev tl σ H (.ref p)) (hx : SqL K H p (zs.map u)) (hz : zs.length ≤ 40000) (hw : ∀ x, wipe ((wipe σ vs).set j (some x)) vs = wipe σ vs)
    (ht : ∀ z H1, Ex H H1 → z ∈ zs → EvT t ((wipe σ vs).set j (some (u z))) H1 (f z)) (he : ∀ z H1, Ex H H1 → z ∈ zs → f z = true → Ev te ((wipe σ vs).set j (some (u z))) H1 (v z)) :
    EvL (tLc (iList K tl) (gName j) t te vs) σ H ((zs.filter f).map v) :=
  el_pickG zs f u v (fun z => (wipe σ vs).set j (some (u z))) h hx hz (fun z H1 _ _ Q q => q) (fun z _ => hw _) ht he
/-- two lists side by side -/
theorem paired_zip {α β : Type} {R : α → β → Prop} : ∀ {xs : List α} {ys : List β}, Paired R xs ys → ∃ zs : List (α × β), zs.map (·.1) = xs ∧ zs.map (·.2) = ys ∧ ∀ z ∈ zs, R z.1 z.2
  | _, _, .nil => ⟨[], rfl, rfl, fun _ h => by cases h⟩
  | _, _, .cons q t => by
    obtain ⟨zs, h1, h2, h3⟩ := paired_zip t
    exact ⟨(_, _) :: zs, by rw [List.map_cons, h1], by rw [List.map_cons, h2], fun z h => by
      rcases List.mem_cons.mp h with e | m
      · rw [e]; exact q
      · exact h3 z m⟩
theorem paired_of_zip {α β γ δ : Type} {R : γ → δ → Prop} {f : α → γ} {g : β → δ} : ∀ {zs : List (α × β)}, (∀ z ∈ zs, R (f z.1) (g z.2)) → Paired R (zs.map fun z => f z.1) (zs.map fun z => g z.2)
  | [], _ => .nil
  | z :: zs, h => .cons (h z List.mem_cons_self) (paired_of_zip fun z' m => h z' (List.mem_cons_of_mem _ m))
theorem zip_filter {α β : Type} (f : β → Bool) : ∀ (zs : List (α × β)), (zs.filter fun z => f z.2).map (·.2) = (zs.map (·.2)).filter f
  | [] => rfl
  | z :: zs => by
    rw [List.filter_cons, List.map_cons, List.filter_cons]
    by_cases c : f z.2 = true
    · rw [if_pos c, if_pos c, List.map_cons, zip_filter f zs]
    · rw [if_neg c, if_neg c, zip_filter f zs]
/-- tables of code objects; what the program doesn't write -/
def tblO : HO → Bool
  | .tbl _ => true
  | _ => false
def hardO : HO → Bool
  | .tbl _ => true
  | .ext _ => true
  | _ => false
/-- all but what may change, and the tables -/
def frz (M : List Addr) (H : Hp) : Hp := fun b => if b ∈ M then none else match H b with
  | some o => if tblO o = true then none else some o
  | none => none
theorem frz_some {M : List Addr} {b : Addr} {o : HO} (h : frz M H b = some o) : b ∉ M ∧ H b = some o ∧ tblO o = false := by
  unfold frz at h
  by_cases c : b ∈ M
  · rw [if_pos c] at h; cases h
  · rw [if_neg c] at h
    cases e : H b with
    | none => rw [e] at h; cases h
    | some o' =>
      rw [e] at h
      have h' : (if tblO o' = true then none else some o') = some o := h
      by_cases c2 : tblO o' = true
      · rw [if_pos c2] at h'; cases h'
      · rw [if_neg c2] at h'; cases h'; exact ⟨c, rfl, Bool.eq_false_iff.mpr c2⟩
theorem frz_of {M : List Addr} {b : Addr} {o : HO} (h : b ∉ M) (hv : H b = some o) (ho : tblO o = false := by rfl) : frz M H b = some o := by
  unfold frz
  rw [if_neg h, hv]
  show (if tblO o = true then none else some o) = some o
  rw [if_neg (by rw [ho]; decide)]
theorem frz_le {M : List Addr} : Ex (frz M H) H := fun b o h => (frz_some h).2.1
theorem frz_mono {M : List Addr} (e : Ex H H') : Ex (frz M H) (frz M H') := fun b o h => by
  obtain ⟨h1, h2, h3⟩ := frz_some h
  exact frz_of h1 (e b o h2) h3
theorem frz_upd {M : List Addr} {p : Addr} {o : HO} (h : p ∈ M) : Ex (frz M H) (frz M (upd H p o)) := fun b o' hb => by
  obtain ⟨h1, h2, h3⟩ := frz_some hb
  exact frz_of h1 (by rw [upd_ne (show b ≠ p from fun z => h1 (by rw [z]; exact h))]; exact h2) h3
/-- what's new, but for tables -/
def nwT (H H' : Hp) : Hp := frz [] (nw H H')
/-- something that's no table stands there -/
def Nt (H : Hp) (b : Addr) : Prop := ∃ o, H b = some o ∧ tblO o = false
theorem Nt.ne {b : Addr} (h : Nt H b) : H b ≠ none := by
  obtain ⟨o, e, _⟩ := h
  rw [e]; intro z; cases z
/-- a heap later on: what may not change stands, what's there stays there, tables and code objects stand -/
structure Gr (M : List Addr) (H H' : Hp) : Prop where
  fz : Ex (frz M H) (frz M H')
  live : ∀ b, Nt H b → Nt H' b
  stay : ∀ b o, H b = some o → hardO o = true → H' b = some o
theorem Gr.refl (M : List Addr) (H : Hp) : Gr M H H := ⟨Ex.refl _, fun _ h => h, fun _ _ h _ => h⟩
theorem Gr.of {M : List Addr} (e : Ex H H') : Gr M H H' := ⟨frz_mono e, fun b ⟨o, h, h2⟩ => ⟨o, e b o h, h2⟩, fun b o h _ => e b o h⟩
theorem Gr.trans {M : List Addr} {H1 H2 H3 : Hp} (a : Gr M H1 H2) (b : Gr M H2 H3) : Gr M H1 H3 := ⟨a.fz.trans b.fz, fun x h => b.live x (a.live x h), fun x o h q => b.stay x o (a.stay x o h q) q⟩
theorem Gr.upd {M : List Addr} {p : Addr} {o v : HO} (h : p ∈ M) (e : Gr M H H') (hp : H' p = some v) (hv : hardO v = false := by rfl) (ho : tblO o = false := by rfl) : Gr M H (upd H' p o) := by
  refine e.trans ⟨frz_upd h, fun b hb => ?_, fun b u hb hu => ?_⟩
  · by_cases c : b = p
    · exact ⟨o, by rw [c, upd_same], ho⟩
    · obtain ⟨u, h1, h2⟩ := hb
      exact ⟨u, by rw [upd_ne c]; exact h1, h2⟩
  · rw [upd_ne (fun z => by rw [z, hp] at hb; cases hb; rw [hv] at hu; cases hu)]
    exact hb
theorem Gr.ex {M : List Addr} (g : Gr M H H') : Ex (frz M H) H' := g.fz.trans frz_le
/-- what was fresh may change unseen -/
theorem Gr.less {M : List Addr} {o : Addr} (ho : H o = none) (g : Gr (o :: M) H H') : Gr M H H' := by
  refine ⟨fun b v hb => ?_, g.live, g.stay⟩
  obtain ⟨h1, h2, h3⟩ := frz_some hb
  have nb : b ∉ o :: M := fun z => by
    rcases List.mem_cons.mp z with e | m
    · rw [e, ho] at h2; cases h2
    · exact h1 m
  obtain ⟨_, q2, _⟩ := frz_some (g.fz b v (frz_of nb h2 h3))
  exact frz_of h1 q2 h3
def Alive (M : List Addr) (H : Hp) : Prop := ∀ m ∈ M, Nt H m
theorem Alive.gr {M N : List Addr} (h : Alive M H) (g : Gr N H H') : Alive M H' := fun m hm => g.live m (h m hm)
theorem Alive.new {M : List Addr} {p : Addr} (h : Alive M H) (hp : H p = none) : p ∉ M := fun hm => (h p hm).ne hp
theorem new_fz {M : List Addr} {p : Addr} {o : HO} (h : Alive M H) (hp : H p = none) (hp' : H' p = some o) (ho : tblO o = false := by rfl) : frz M H' p = some o := frz_of (h.new hp) hp' ho
/-- what's new may not change -/
theorem nwT_fz {M : List Addr} (h : Alive M H) : Ex (nwT H H') (frz M H') := fun b o hb => by
  obtain ⟨_, h2, h3⟩ := frz_some hb
  obtain ⟨h4, h5⟩ := nw_some h2
  exact frz_of (h.new h4) h5 h3
theorem nwT_of {b : Addr} {o : HO} (h : nw H H' b = some o) (ho : tblO o = false := by rfl) : nwT H H' b = some o := frz_of List.not_mem_nil h ho
/-- o.f = e -/
theorem q_setF {D : Ends} {tz : TS} {ta : TE} {v : V} {p C dx : Addr} {fs : List (Str × V)} {f : Str} (h : Ev te σ H v) (ho : Ev ta σ H (.ref p)) (hp : H p = some (.ins C dx fs)) (hc : Cls K C) (hn : NoAttr K C f) (hl : fs.length < 1000) (k : ∀ H1, Ex H H1 → tz D σ (upd H1 p (.ins C dx (putF f v fs)))) : tSeq (sFld K ta te f) tz D σ H :=
  h H (Ex.refl H) _ fun H1 e1 => ho H1 e1 _ fun H2 e2 => ⟨p, C, dx, fs, rfl, e2 _ _ (e1 _ _ hp), hc, hn, hl, k H2 (e1.trans e2)⟩
theorem s_setF {D : Ends} {ta : TE} {v : V} {p C dx : Addr} {fs : List (Str × V)} {f : Str} (h : Ev te σ H v) (ho : Ev ta σ H (.ref p)) (hp : H p = some (.ins C dx fs)) (hc : Cls K C) (hn : NoAttr K C f) (hl : fs.length < 1000) (k : ∀ H1, Ex H H1 → D.nx σ (upd H1 p (.ins C dx (putF f v fs)))) : sFld K ta te f D σ H :=
  h H (Ex.refl H) _ fun H1 e1 => ho H1 e1 _ fun H2 e2 => ⟨p, C, dx, fs, rfl, e2 _ _ (e1 _ _ hp), hc, hn, hl, k H2 (e1.trans e2)⟩
/-- o.f = a new list -/
theorem q_setFL {D : Ends} {tz : TS} {ta : TE} {xs : List V} {p C dx : Addr} {fs : List (Str × V)} {f : Str} (h : EvL te σ H xs) (ho : Ev ta σ H (.ref p)) (hp : H p = some (.ins C dx fs)) (hc : Cls K C) (hn : NoAttr K C f) (hl : fs.length < 1000) (k : ∀ q H1, H q = none → Ex H H1 → H1 q = some (.lst xs) → tz D σ (upd H1 p (.ins C dx (putF f (.ref q) fs)))) : tSeq (sFld K ta te f) tz D σ H :=
  h H (Ex.refl H) _ fun q H1 hq e1 h1 => ho H1 e1 _ fun H2 e2 => ⟨p, C, dx, fs, rfl, e2 _ _ (e1 _ _ hp), hc, hn, hl, k q H2 hq (e1.trans e2) (e2 _ _ h1)⟩
theorem q_setFU {D : Ends} {tz : TS} {ta : TE} {xs : List V} {p C dx : Addr} {fs : List (Str × V)} {f : Str} (h : EvU te σ H xs) (ho : Ev ta σ H (.ref p)) (hp : H p = some (.ins C dx fs)) (hc : Cls K C) (hn : NoAttr K C f) (hl : fs.length < 1000) (k : ∀ q H1, H q = none → Ex H H1 → H1 q = some (.tup xs) → tz D σ (upd H1 p (.ins C dx (putF f (.ref q) fs)))) : tSeq (sFld K ta te f) tz D σ H :=
  h H (Ex.refl H) _ fun q H1 hq e1 h1 => ho H1 e1 _ fun H2 e2 => ⟨p, C, dx, fs, rfl, e2 _ _ (e1 _ _ hp), hc, hn, hl, k q H2 hq (e1.trans e2) (e2 _ _ h1)⟩
end
end SkW

set_option Elab.async false
set_option linter.all false
set_option maxRecDepth 100000
set_option maxHeartbeats 4000000
namespace SkW
open PySem PySem.Spec PyProof.Rows L2 Evl
section
variable {P : Program} {w : World} {K : PySem.W.Frag} {mg : Str → Option Value} {base : Heap} {a : Ad}
def sp_hundredths : Sp := fun vs H Q _ => ∃ v p : Nat, vs = [.int v, .int p] ∧ p ≤ 1000 ∧ RetV (.int (Kg56.part v p : Nat)) H Q
theorem ok_hundredths (T : Txt K mg a) : FnOk P w K mg base CX0 1 a.f_hundredths a.d_hundredths ["number", "many"] (sp_hundredths) := by
  refine T.F_hundredths.ok sc_hundredths (fun vs H Q E h => ?_) (fun cdv A outer s H vs Q E hr h => ?_)
  · obtain ⟨_, _, rfl, _⟩ := h
    rfl
  refine ⟨_, (pss_one (ps_ret (pe_op op_fdiv (pe_op op_add (pe_op op_mul (pv 0) (pv 1)) pe_int) pe_int))), ?_⟩

  obtain ⟨v, p, rfl, hp, k⟩ := h
  refine s_ret (ev_op (ev_op (ev_op (ev_var rfl) (ev_var rfl) (rv_mul (.inr (by omega)))) ev_c rv_I0) ev_c (rv_div (by decide))) fun H1 e => ?_
  rw [← Sk.part_int]
  exact k.go e
def sp_away : Sp := fun vs H Q _ => ∃ (t : Int) (b : Nat), vs = [.int t, .int b] ∧ 0 < b ∧ b ≤ 1000 ∧ RetV (.int (Kg56.nearest t b)) H Q
theorem ok_away (T : Txt K mg a) : FnOk P w K mg base CX0 1 a.f_away a.d_away ["top", "bottom"] (sp_away) := by
  refine T.F_away.ok sc_away (fun vs H Q E h => ?_) (fun cdv A outer s H vs Q E hr h => ?_)
  · obtain ⟨_, _, rfl, _⟩ := h
    rfl
  refine ⟨_, (pss_cons (ps_set (i := 2) sc_away.nd rfl (Or.inl rfl) (pe_op op_fdiv (pe_op op_add (pe_op op_mul pe_int (pe_callB call_abs rfl T.n_abs (by decide +kernel) (by exact (pa_cons (pv 0) pa_nil)))) (pv 1)) (pe_op op_mul pe_int (pv 1))))
    (pss_cons (ps_if (pt_cmpR op_lt (pv 0) pe_int (nomark _)) (pss_one (ps_ret (pe_un un_neg (pv 2)))) pss_nil)
    (pss_one (ps_ret (pv 2))))), ?_⟩

  obtain ⟨t, b, rfl, h0, h1, k⟩ := h
  refine q_asg (ev_op (ev_op (ev_op ev_c (ev_cb (ea_cons (ev_var rfl) ea_nil) rc_abs) (rv_mul (.inl (by omega)))) (ev_var rfl) rv_I0) (ev_op ev_c (ev_var rfl) (rv_mul (.inl (by omega)))) (rv_div (by omega))) fun H1 e1 => ?_
  refine q_when (et_test (ev_op (ev_var rfl) ev_c rv_I0)) (fun hb H2 e2 => ?_) (fun hb H2 e2 => ?_)
  · have ht : t < 0 := of_decide_eq_true hb
    refine s_ret (ev_un (ev_var rfl) ru_neg) fun H3 e3 => ?_
    rw [if_pos ht, ← Sk.nearest_neg ht]
    exact k.go ((e1.trans e2).trans e3)
  · have ht : ¬ t < 0 := of_decide_eq_false hb
    refine s_ret (ev_var rfl) fun H3 e3 => ?_
    rw [if_neg ht, ← Sk.nearest_nn ht]
    exact k.go ((e1.trans e2).trans e3)
theorem cut_inner {ms : List Int} (h : 2 ≤ ms.length) : cutV (ms.map V.int) (some 1) (some (-1)) = (Sk.inner ms).map V.int := by
  unfold cutV Sk.inner
  rw [List.length_map]
  have e1 : HT.sIx ms.length 0 (some 1) = 1 := by
    have := HT.sIx_nat ms.length 0 1
    rw [show ((1 : Nat) : Int) = 1 from rfl] at this
    rw [this]; omega
  have e2 : HT.sIx ms.length ms.length (some (-1)) = ms.length - 1 := by
    unfold HT.sIx
    simp
    omega
  rw [e1, e2, ← List.map_drop, ← List.map_take]
def sp_kept (K : PySem.W.Frag) : Sp := fun vs H Q _ => ∃ (p : Addr) (ns : List Int), vs = [.ref p] ∧ SqL K H p (ns.map V.int) ∧ ns.length < 64 ∧
  ∀ ms : List Int, ms.sum = (Kg56.trimmed ns).1 → ms.length = (Kg56.trimmed ns).2 → RetL (ms.map V.int) H Q
theorem ok_kept (T : Txt K mg a) : FnOk P w K mg base CX0 1 a.f_kept a.d_kept ["numbers"] (sp_kept K) := by
  refine T.F_kept.ok sc_kept (fun vs H Q E h => ?_) (fun cdv A outer s H vs Q E hr h => ?_)
  · obtain ⟨_, _, rfl, _⟩ := h
    rfl
  refine ⟨_, (pss_cons (ps_if (pt_cmpR op_lt (pe_callB call_len_seq rfl T.n_len (by decide +kernel) (by exact (pa_cons (pv 0) pa_nil))) (pe_gint rfl T.i_MANY_JUDGES) (nomark _)) (pss_one (ps_ret (pe_callTy call_list_of rfl T.n_list (by decide +kernel) (by exact (pa_cons (pv 0) pa_nil))))) pss_nil)
    (pss_one (ps_ret (pe_slice sl_list (pe_callB cr_sorted rfl T.n_sorted (by decide +kernel) (by exact (pa_cons (pv 0) pa_nil))) (po_some pe_int) (po_some (pe_un un_neg pe_int)))))), ?_⟩

  obtain ⟨p, ns, rfl, hs, h64, k⟩ := h
  refine q_when (et_test (ev_op (ev_cb (ea_cons (ev_var rfl) ea_nil) (rc_len (.inl hs))) ev_c rv_I0)) (fun hb H1 e1 => ?_) (fun hb H1 e1 => ?_)
  · have h5 : ¬ 5 ≤ ns.length := by
      have := of_decide_eq_true hb
      rw [List.length_map] at this
      omega
    obtain ⟨t1, t2⟩ := Sk.trim_few h5
    exact s_retL (el_cb (ea_cons (ev_var rfl) ea_nil) (rcl_list (.inl (ex_l e1 hs)))) fun q H2 hq e2 h2 => (k ns t1 t2).go e1 hq e2 h2
  · have h5 : 5 ≤ ns.length := by
      have := of_decide_eq_false hb
      rw [List.length_map] at this
      omega
    refine ⟨_, rfl, p, ns, rfl, ex_l e1 hs, h64, fun ms q hp ho hq => ?_⟩
    refine ⟨1, rfl, 1, rfl, _, rfl, q, ms.map V.int, rfl, sq_of upd_same, fun q2 hq2 => ?_⟩
    obtain ⟨t1, t2⟩ := Sk.inner_trim h5 hp ho
    rw [cut_inner (by have := hp.length_eq; omega)]
    exact (k _ t1 t2).go e1 (fresh_back (Ex.new hq) hq2) ((Ex.new hq).trans (Ex.new hq2)) upd_same
theorem sv_away {H : Hp} {t j : Int} {b : Nat} (hj : j = (b : Int)) (h0 : 0 < b) (h1 : b ≤ 1000) : SpV sp_away [.int t, .int j] H (.int (Kg56.nearest t b)) := by
  subst hj
  exact fun H1 e Q q E => ⟨t, b, rfl, h0, h1, q⟩
def sp_graded (K : PySem.W.Frag) : Sp := fun vs H Q _ => ∃ (p : Addr) (ns : List Int) (by_ : Nat), vs = [.ref p, .int by_] ∧ SqL K H p (ns.map V.int) ∧ ns.length < 64 ∧ 0 < ns.length ∧ by_ ≤ 100000 ∧ RetV (.int (Kg56.graded by_ ns)) H Q
theorem ok_graded (T : Txt K mg a) : FnOk P w K mg base CX0 3 a.f_graded a.d_graded ["grades", "by"] (sp_graded K) := by
  refine T.F_graded.ok sc_graded (fun vs H Q E h => ?_) (fun cdv A outer s H vs Q E hr h => ?_)
  · obtain ⟨_, _, _, rfl, _⟩ := h
    rfl
  refine ⟨_, (pss_cons (ps_set (i := 2) sc_graded.nd rfl (Or.inl rfl) (pe_call (ok_kept T) (hr.mono (by decide)) rfl T.g_kept T.k_kept T.b_kept .nil pass0 (by exact (pa_cons (pv 0) pa_nil))))
    (pss_one (ps_ret (pe_call (ok_away T) (hr.mono (by decide)) rfl T.g_away T.k_away T.b_away .nil pass0 (by exact (pa_cons (pe_op op_mul (pe_callB (cr_sum rfl) rfl T.n_sum (by decide +kernel) (by exact (pa_cons (pv 2) pa_nil))) (pv 1)) (pa_cons (pe_op op_mul pe_int (pe_callB call_len_seq rfl T.n_len (by decide +kernel) (by exact (pa_cons (pv 2) pa_nil)))) pa_nil))))))), ?_⟩

  obtain ⟨p, ns, by_, rfl, hs, h64, h0, hb, k⟩ := h
  obtain ⟨l0, l1⟩ := Sk.trim_pos h0
  refine ⟨_, rfl, p, ns, rfl, hs, h64, fun ms t1 t2 q H1 hq e1 h1 => ?_⟩
  refine s_ret (ev_call (ea_cons (ev_op (ev_cb (ea_cons (ev_var rfl) ea_nil) (rc_sum (sq_of h1))) (ev_var rfl) (rv_mul (.inr (by omega)))) (ea_cons (ev_op ev_c (ev_cb (ea_cons (ev_var rfl) ea_nil) (rc_len (.inl (sq_of h1)))) (rv_mul (.inl (by decide)))) ea_nil))
    (sv_away (b := 10 * (Kg56.trimmed ns).2) (by rw [List.length_map, t2]; omega) (by omega) (by omega))) fun H2 e2 => ?_
  rw [t1]
  exact k.go (e1.trans e2)
def sp_component (K : PySem.W.Frag) : Sp := fun vs H Q _ => ∃ (p : Addr) (ns : List Int), vs = [.ref p] ∧ SqL K H p (ns.map V.int) ∧ ns.length < 64 ∧ 0 < ns.length ∧ RetV (.int (Kg56.component ns)) H Q
theorem ok_component (T : Txt K mg a) : FnOk P w K mg base CX0 3 a.f_component a.d_component ["quarters"] (sp_component K) := by
  refine T.F_component.ok sc_component (fun vs H Q E h => ?_) (fun cdv A outer s H vs Q E hr h => ?_)
  · obtain ⟨_, _, rfl, _⟩ := h
    rfl
  refine ⟨_, (pss_cons (ps_set (i := 1) sc_component.nd rfl (Or.inl rfl) (pe_call (ok_kept T) (hr.mono (by decide)) rfl T.g_kept T.k_kept T.b_kept .nil pass0 (by exact (pa_cons (pv 0) pa_nil))))
    (pss_one (ps_ret (pe_call (ok_away T) (hr.mono (by decide)) rfl T.g_away T.k_away T.b_away .nil pass0 (by exact (pa_cons (pe_op op_mul pe_int (pe_callB (cr_sum rfl) rfl T.n_sum (by decide +kernel) (by exact (pa_cons (pv 1) pa_nil)))) (pa_cons (pe_callB call_len_seq rfl T.n_len (by decide +kernel) (by exact (pa_cons (pv 1) pa_nil))) pa_nil))))))), ?_⟩

  obtain ⟨p, ns, rfl, hs, h64, h0, k⟩ := h
  obtain ⟨l0, l1⟩ := Sk.trim_pos h0
  refine ⟨_, rfl, p, ns, rfl, hs, h64, fun ms t1 t2 q H1 hq e1 h1 => ?_⟩
  refine s_ret (ev_call (ea_cons (ev_op ev_c (ev_cb (ea_cons (ev_var rfl) ea_nil) (rc_sum (sq_of h1))) (rv_mul (.inl (by decide)))) (ea_cons (ev_cb (ea_cons (ev_var rfl) ea_nil) (rc_len (.inl (sq_of h1)))) ea_nil))
    (sv_away (b := (Kg56.trimmed ns).2) (by rw [List.length_map, t2]) (by omega) (by omega))) fun H2 e2 => ?_
  rw [t1]
  exact k.go (e1.trans e2)
/-- lists of numbers, one a component -/
def Rows (K : PySem.W.Frag) (H : Hp) (rs : List Addr) (rows : List (List Int)) : Prop := Paired (fun p (ns : List Int) => SqL K H p (ns.map V.int)) rs rows
theorem Rows.ex {H H' : Hp} {rs : List Addr} {rows : List (List Int)} (h : Rows K H rs rows) (e : Ex H H') : Rows K H' rs rows := Paired.mapP h fun _ _ q => ex_l e q
theorem paired_get {α β : Type} {R : α → β → Prop} : ∀ {xs : List α} {ys : List β} {i : Nat} {x : α}, Paired R xs ys → xs[i]? = some x → ∃ y, ys[i]? = some y ∧ R x y
  | _, _, _, _, .nil, e => by simp at e
  | _, _, 0, _, .cons r _, e => by simp at e; subst e; exact ⟨_, rfl, r⟩
  | _, _, i + 1, x, .cons _ t, e => by
    obtain ⟨y, h1, h2⟩ := paired_get (i := i) (x := x) t (by simpa using e)
    exact ⟨y, by simpa using h1, h2⟩
theorem at_map {α : Type} {f : α → V} {l : List α} {i : Nat} {x : V} (h : (l.map f)[i]? = some x) : ∃ y, l[i]? = some y ∧ x = f y := by
  rw [List.getElem?_map] at h
  cases hh : l[i]? with
  | none => rw [hh] at h; cases h
  | some y => rw [hh] at h; exact ⟨y, rfl, (Option.some.inj h).symm⟩
def sp_components_of (K : PySem.W.Frag) : Sp := fun vs H Q _ => ∃ (p : Addr) (rs : List Addr) (rows : List (List Int)) (f : Nat), vs = [.ref p, .int f] ∧ SqL K H p (rs.map V.ref) ∧ Rows K H rs rows ∧ rows.length ≤ 100 ∧ (∀ ns ∈ rows, 0 < ns.length ∧ ns.length < 64) ∧ f ≤ 1000 ∧
  RetV (.int (Kg56.nearest ((rows.map Kg56.component).foldl (fun a b => a + b) 0 * f) 100)) H Q
theorem ok_components_of (T : Txt K mg a) : FnOk P w K mg base CX0 5 a.f_components_of a.d_components_of ["rows", "factor"] (sp_components_of K) := by
  refine T.F_components_of.ok sc_components_of (fun vs H Q E h => ?_) (fun cdv A outer s H vs Q E hr h => ?_)
  · obtain ⟨_, _, _, _, rfl, _⟩ := h
    rfl
  refine ⟨_, (pss_one (ps_ret (pe_call (ok_away T) (hr.mono (by decide)) rfl T.g_away T.k_away T.b_away .nil pass0 (by exact (pa_cons (pe_op op_mul (pe_callB (cr_sum rfl) rfl T.n_sum (by decide +kernel) (by exact (pa_cons (pe_lc (own := [("row", 2)]) rfl sc_components_of.nd (pi_list (pv 0)) (blkOk_by (N := ["rows", "factor", "row"]) (sc := defScope s_components_of) (by decide +kernel)) (fun _ _ _ _ _ => (pg_name (i := 2) sc_components_of.nd rfl (by first | exact Or.inl rfl | exact Or.inr rfl))) (fun _ _ _ _ _ => pts_nil) (fun _ _ _ _ _ => (pe_call (ok_component T) (hr.mono (by decide)) rfl T.g_component T.k_component T.b_component .nil pass0 (by exact (pa_cons (pv 2) pa_nil))))) pa_nil))) (pv 1)) (pa_cons pe_int pa_nil)))))), ?_⟩

  obtain ⟨p, rs, rows, f, rfl, hs, hr2, h100, hrow, hf, k⟩ := h
  have hlen : rs.length = rows.length := Paired.length hr2
  refine s_ret (ev_call (ea_cons (ev_op (ev_sumN (ns := rows.map Kg56.component) (el_map (ev_var rfl) hs ?_ ?_ ?_ ?_)) (ev_var rfl) (rv_mul (.inr (by omega)))) (ea_cons ev_c ea_nil)) (sv_away (b := 100) rfl (by decide) (by decide))) fun H1 e1 => ?_
  · rw [List.length_map]; omega
  · exact fun _ => rfl
  · simp [hlen]
  · intro i x y H2 e2 hx hy
    obtain ⟨r, hr3, rfl⟩ := at_map hx
    obtain ⟨ns, hn, hq⟩ := paired_get hr2 hr3
    rw [List.getElem?_map, List.getElem?_map, hn] at hy
    cases hy
    obtain ⟨m0, m1⟩ := hrow ns (List.mem_of_getElem? hn)
    exact ev_call (ea_cons (ev_var rfl) ea_nil) fun H3 e3 Q3 q3 E3 => ⟨r, ns, rfl, ex_l (e2.trans e3) hq, m1, m0, q3⟩
  · rw [Sk.sum_foldl] at k
    exact k.go e1
def sp_taken_off : Sp := fun vs H Q _ => ∃ f o s : Nat, vs = [.int f, .int o, .int s] ∧ f ≤ 1000 ∧ o ≤ 1000 ∧ s ≤ 1000 ∧ RetV (.int (Kg56.fallsCost f + (100 * o + 100 * ((s + 4) / 5)) : Nat)) H Q
theorem ok_taken_off (T : Txt K mg a) : FnOk P w K mg base CX0 1 a.f_taken_off a.d_taken_off ["falls", "others", "seconds"] (sp_taken_off) := by
  refine T.F_taken_off.ok sc_taken_off (fun vs H Q E h => ?_) (fun cdv A outer s H vs Q E hr h => ?_)
  · obtain ⟨_, _, _, rfl, _⟩ := h
    rfl
  refine ⟨_, (pss_cons (ps_set (i := 3) sc_taken_off.nd rfl (Or.inl rfl) (pe_op op_add (pe_op op_mul pe_int (pv 1)) (pe_op op_mul pe_int (pe_op op_fdiv (pe_op op_add (pv 2) pe_int) pe_int))))
    (pss_cons (ps_for PassesOwn.never rfl (pi_range1 rfl T.n_range (by exact (pa_cons (pv 0) pa_nil))) (pg_name (i := 4) sc_taken_off.nd rfl (Or.inl rfl))
      (pss_one (ps_set (i := 3) sc_taken_off.nd rfl (Or.inl rfl) (pe_op op_add (pv 3) (pe_op op_mul pe_int (pe_callB (call_min2 rfl) rfl T.n_min (by decide +kernel) (by exact (pa_cons pe_int (pa_cons (pe_op op_add pe_int (pe_op op_fdiv (pv 4) pe_int)) pa_nil)))))))))
    (pss_one (ps_ret (pv 3))))), ?_⟩

  obtain ⟨f, o, s1, rfl, hf, ho, hs1, k⟩ := h
  refine q_asg (ev_op (ev_op ev_c (ev_var rfl) (rv_mul (.inl (by decide)))) (ev_op ev_c (ev_op (ev_op (ev_var rfl) ev_c rv_I0) ev_c (rv_div (by decide))) (rv_mul (.inl (by decide)))) rv_I0) fun H1 e1 => ?_
  refine q_forR1 (n := f) (ea_cons (ev_var rfl) ea_nil) (by omega) (fun i σ' H' => Ex H H' ∧ ∃ x, σ' = [some (.int f), some (.int o), some (.int s1), some (.int (100 * o + 100 * ((s1 + 4) / 5) + Sk.fallSum i : Nat)), x]) (fun H2 e2 => ⟨e1.trans e2, none, ?_⟩) (fun i σ' H' hi ⟨e2, x, hσ⟩ => ?_) (fun σ' H' ⟨e2, x, hσ⟩ => ?_)
  · show _ = [_, _, _, some (V.int ((100 * o + 100 * ((s1 + 4) / 5) + 0 : Nat) : Int)), none]
    have : ((100 * o + 100 * ((s1 + 4) / 5) + 0 : Nat) : Int) = 100 * (o : Int) + 100 * (((s1 : Int) + 4) / 5) := by omega
    rw [this]
    rfl
  · subst hσ
    refine s_asg (ev_op (ev_var rfl) (ev_op ev_c (ev_cb (ea_cons ev_c (ea_cons (ev_op ev_c (ev_op (ev_var rfl) ev_c (rv_div (by decide))) rv_I0) ea_nil)) rc_min) (rv_mul (.inl (by decide)))) rv_I0) fun H2 e3 => ⟨e2.trans e3, some (.int i), ?_⟩
    have : ((100 * o + 100 * ((s1 + 4) / 5) + Sk.fallSum (i + 1) : Nat) : Int) = ((100 * o + 100 * ((s1 + 4) / 5) + Sk.fallSum i : Nat) : Int) + 100 * (if (1 + (i : Int) / 2) < 3 then (1 + (i : Int) / 2) else 3) := by
      rw [Sk.fallSum]
      split <;> omega
    rw [this]
    rfl
  · subst hσ
    refine s_ret (ev_var rfl) fun H2 e3 => ?_
    have : ((100 * o + 100 * ((s1 + 4) / 5) + Sk.fallSum (f : Int).toNat : Nat) : Int) = ((Kg56.fallsCost f + (100 * o + 100 * ((s1 + 4) / 5)) : Nat) : Int) := by
      rw [← Sk.fall_sum]
      have : (f : Int).toNat = f := by omega
      rw [this]
      omega
    rw [this]
    exact k.go (e2.trans e3)
end
end SkW

set_option Elab.async false
set_option linter.all false
set_option maxRecDepth 100000
set_option maxHeartbeats 4000000
namespace SkW
open PySem PySem.Spec PyProof.Rows L2 Evl
section
variable {P : Program} {w : World} {K : PySem.W.Frag} {mg : Str → Option Value} {base : Heap} {a : Ad}
/-! ### jumps, elements in the heap -/
def JumpAt (a : Ad) (H : Hp) (p : Addr) (j : Kg56.Jump) : Prop := Sk.JWf j ∧ ∃ dx, H p = some (.ins a.c_Jump dx (F_Jump (.int j.kind) (.int j.turns) (.int j.edge) (.int j.less)))
theorem JumpAt.ex {H H' : Hp} {p : Addr} {j : Kg56.Jump} (h : JumpAt a H p j) (e : Ex H H') : JumpAt a H' p j := ⟨h.1, let ⟨dx, q⟩ := h.2; ⟨dx, e _ _ q⟩⟩
/-- a list of jumps at q -/
def JumpsAt (a : Ad) (H : Hp) (q : Addr) (l : List Kg56.Jump) : Prop := ∃ js : List Addr, H q = some (.lst (js.map V.ref)) ∧ Paired (JumpAt a H) js l
theorem JumpsAt.ex {H H' : Hp} {q : Addr} {l : List Kg56.Jump} (h : JumpsAt a H q l) (e : Ex H H') : JumpsAt a H' q l := by
  obtain ⟨js, h1, h2⟩ := h
  exact ⟨js, e _ _ h1, Paired.mapP h2 fun _ _ q => q.ex e⟩
def ElemAt (a : Ad) (H : Hp) (p : Addr) (e : Kg56.Element) : Prop := Sk.EWf e ∧ ∃ dx q, H p = some (.ins a.c_Element dx (F_Element (.int (Sk.sortOf e : Nat)) (.ref q) (.int (Sk.nameIn e : Nat)) (.int (Sk.levelIn e : Nat)))) ∧ JumpsAt a H q (Sk.jumpsIn e)
theorem ElemAt.ex {H H' : Hp} {p : Addr} {x : Kg56.Element} (h : ElemAt a H p x) (e : Ex H H') : ElemAt a H' p x := by
  obtain ⟨h1, dx, q, h2, h3⟩ := h
  exact ⟨h1, dx, q, e _ _ h2, h3.ex e⟩
/-- all but the object at p stands -/
def But (p : Addr) (H H' : Hp) : Prop := ∀ b o, H b = some o → b ≠ p → H' b = some o
/-- a written table's item -/
theorem ev_table {σ : L2.St} {H : Hp} {t : Addr} {u : List Addr} {rows : List (List Int)} {te1 te2 : TE} {k i : Nat} {row : List Int} {v : Int} (hT : KT K t (u.map V.ref)) (hU : Paired (fun p (xs : List Int) => KT K p (xs.map V.int)) u rows)
    (h1 : Ev te1 σ H (.int k)) (h2 : Ev te2 σ H (.int i)) (hk : rows[k]? = some row) (hi : row[i]? = some v) : Ev (tOp (rIxT K) (tOp (rIxT K) (tC (.ref t)) te1) te2) σ H (.int v) := by
  have get : ∀ {us : List Addr} {rs : List (List Int)} {k : Nat} {row : List Int}, Paired (fun p (xs : List Int) => KT K p (xs.map V.int)) us rs → rs[k]? = some row → ∃ q, us[k]? = some q ∧ KT K q (row.map V.int) := by
    intro us rs k row h
    induction h generalizing k with
    | nil => intro e; simp at e
    | cons r _ ih =>
      intro e
      match k with
      | 0 => simp at e; subst e; exact ⟨_, rfl, r⟩
      | k + 1 => obtain ⟨q, a1, a2⟩ := ih (k := k) (by simpa using e); exact ⟨q, by simpa using a1, a2⟩
  obtain ⟨q, hq, hr⟩ := get hU hk
  exact ev_op (ev_op ev_c h1 (rv_ixT (hT.t H) (atI_nat (by rw [List.getElem?_map, hq]; rfl)))) h2 (rv_ixT (hr.t H) (atI_nat (by rw [List.getElem?_map, hi]; rfl)))
def sp_Jump_init (a : Ad) : Sp := fun vs H Q _ => ∃ (p dx : Addr) (v1 v2 v3 v4 : V), vs = [.ref p, v1, v2, v3, v4] ∧ H p = some (.ins a.c_Jump dx []) ∧ ∀ H', H' p = some (.ins a.c_Jump dx (F_Jump v1 v2 v3 v4)) → But p H H' → Q .non H'
theorem ok_Jump___init__ (T : Txt K mg a) : FnOk P w K mg base CX0 1 a.f_Jump___init__ a.d_Jump___init__ ["self", "kind", "turns", "edge", "missing"] (sp_Jump_init a) := by
  refine T.F_Jump___init__.ok sc_Jump___init__ (fun vs H Q E h => ?_) (fun cdv A outer s H vs Q E hr h => ?_)
  · obtain ⟨_, _, _, _, _, _, rfl, _⟩ := h
    rfl
  refine ⟨_, (pss_cons (ps_fld (pv 0) (pv 1) rfl)
    (pss_cons (ps_fld (pv 0) (pv 2) rfl)
    (pss_cons (ps_fld (pv 0) (pv 3) rfl)
    (pss_one (ps_fld (pv 0) (pv 4) rfl))))), ?_⟩

  obtain ⟨p, dx, v1, v2, v3, v4, rfl, hp, k⟩ := h
  refine ⟨_, rfl, _, rfl, p, _, dx, [], rfl, hp, T.C_Jump, T.n_Jump_kind, (by decide : 0 < 1000), ?_⟩
  refine ⟨_, rfl, _, rfl, p, _, dx, _, rfl, upd_same, T.C_Jump, T.n_Jump_turns, (by decide : 1 < 1000), ?_⟩
  refine ⟨_, rfl, _, rfl, p, _, dx, _, rfl, upd_same, T.C_Jump, T.n_Jump_edge, (by decide : 2 < 1000), ?_⟩
  refine ⟨_, rfl, _, rfl, p, _, dx, _, rfl, upd_same, T.C_Jump, T.n_Jump_missing, (by decide : 3 < 1000), ?_⟩
  exact k _ upd_same fun b o e hb => by rw [upd_ne hb, upd_ne hb, upd_ne hb, upd_ne hb]; exact e
def sp_Element_init (a : Ad) : Sp := fun vs H Q _ => ∃ (p dx : Addr) (v1 v2 v3 v4 : V), vs = [.ref p, v1, v2, v3, v4] ∧ H p = some (.ins a.c_Element dx []) ∧ ∀ H', H' p = some (.ins a.c_Element dx (F_Element v1 v2 v3 v4)) → But p H H' → Q .non H'
theorem ok_Element___init__ (T : Txt K mg a) : FnOk P w K mg base CX0 1 a.f_Element___init__ a.d_Element___init__ ["self", "sort", "jumps", "name", "level"] (sp_Element_init a) := by
  refine T.F_Element___init__.ok sc_Element___init__ (fun vs H Q E h => ?_) (fun cdv A outer s H vs Q E hr h => ?_)
  · obtain ⟨_, _, _, _, _, _, rfl, _⟩ := h
    rfl
  refine ⟨_, (pss_cons (ps_fld (pv 0) (pv 1) rfl)
    (pss_cons (ps_fld (pv 0) (pv 2) rfl)
    (pss_cons (ps_fld (pv 0) (pv 3) rfl)
    (pss_one (ps_fld (pv 0) (pv 4) rfl))))), ?_⟩

  obtain ⟨p, dx, v1, v2, v3, v4, rfl, hp, k⟩ := h
  refine ⟨_, rfl, _, rfl, p, _, dx, [], rfl, hp, T.C_Element, T.n_Element_sort_told, (by decide : 0 < 1000), ?_⟩
  refine ⟨_, rfl, _, rfl, p, _, dx, _, rfl, upd_same, T.C_Element, T.n_Element_jumps, (by decide : 1 < 1000), ?_⟩
  refine ⟨_, rfl, _, rfl, p, _, dx, _, rfl, upd_same, T.C_Element, T.n_Element_name, (by decide : 2 < 1000), ?_⟩
  refine ⟨_, rfl, _, rfl, p, _, dx, _, rfl, upd_same, T.C_Element, T.n_Element_level, (by decide : 3 < 1000), ?_⟩
  exact k _ upd_same fun b o e hb => by rw [upd_ne hb, upd_ne hb, upd_ne hb, upd_ne hb]; exact e
/-- a new object and its __init__: all that stood stands -/
theorem But.made {C x dx : Addr} {H H1 : Hp} (nx : H x = none) (nd : H dx = none) (k : But x (upd (upd H dx (.own x)) x (.ins C dx [])) H1) : Ex H H1 := fun b o e =>
  k b o (by rw [upd_ne (ne_of_none e nx), upd_ne (ne_of_none e nd)]; exact e) (ne_of_none e nx)
theorem jump_table {j : Kg56.Jump} (h : Sk.JWf j) (h6 : j.kind ≠ 6) : ∀ i, i < 4 → ∃ row : List Int, ([[40, 130, 420, 950], [40, 130, 430, 970], [50, 170, 490, 1050], [50, 180, 530, 1100], [60, 210, 590, 1150], [110, 330, 800, 1250]] : List (List Int))[j.kind]? = some row ∧ row[i]? = some (((Kg56.TABLE.getD j.kind []).getD i 0 : Nat) : Int) := by
  have hk : j.kind < 6 := by rcases h.1 with h | h <;> omega
  have all : ∀ k, k < 6 → ∀ i, i < 4 → ∃ row : List Int, ([[40, 130, 420, 950], [40, 130, 430, 970], [50, 170, 490, 1050], [50, 180, 530, 1100], [60, 210, 590, 1150], [110, 330, 800, 1250]] : List (List Int))[k]? = some row ∧ row[i]? = some (((Kg56.TABLE.getD k []).getD i 0 : Nat) : Int) := by
    intro k hk i hi
    rcases (show k = 0 ∨ k = 1 ∨ k = 2 ∨ k = 3 ∨ k = 4 ∨ k = 5 by omega) with rfl | rfl | rfl | rfl | rfl | rfl <;> rcases (show i = 0 ∨ i = 1 ∨ i = 2 ∨ i = 3 by omega) with rfl | rfl | rfl | rfl <;> exact ⟨_, rfl, rfl⟩
  exact fun i hi => all j.kind hk i hi
def sp_whole (a : Ad) : Sp := fun vs H Q _ => ∃ (p : Addr) (j : Kg56.Jump), vs = [.ref p] ∧ JumpAt a H p j ∧ RetV (.int (Sk.whole j : Nat)) H Q
theorem dec_ints {i j : Nat} {b : Bool} (h : decide (V.int (i : Int) = V.int (j : Int)) = b) : decide (i = j) = b := by
  rw [← h]
  by_cases c : i = j
  · subst c; simp
  · rw [decide_eq_false c, decide_eq_false (by intro z; injection z with z; omega)]
theorem ok_Jump_whole_worth (T : Txt K mg a) : FnOk P w K mg base CX0 1 a.f_Jump_whole_worth a.d_Jump_whole_worth ["self"] (sp_whole a) := by
  refine T.F_Jump_whole_worth.ok sc_Jump_whole_worth (fun vs H Q E h => ?_) (fun cdv A outer s H vs Q E hr h => ?_)
  · obtain ⟨_, _, rfl, _⟩ := h
    rfl
  refine ⟨_, (pss_cons (ps_if (pt_cmpR op_eq (pe_fld (pv 0) rfl) (pe_gint rfl T.i_SMALL) (nomark _)) (pss_one (ps_ret (pe_gint rfl T.i_SMALL_WORTH))) pss_nil)
    (pss_cons (ps_set (i := 1) sc_Jump_whole_worth.nd rfl (Or.inl rfl) (pe_op op_sub (pe_fld (pv 0) rfl) (pe_callTy call_int1 rfl T.n_int (by decide +kernel) (by exact (pa_cons (pe_cmpR op_eq (pe_fld (pv 0) rfl) (pe_gint rfl T.i_HALF_OFF) (nomark _)) pa_nil)))))
    (pss_cons (ps_if (pt_cmpR op_eq (pv 1) pe_int (nomark _)) (pss_one (ps_ret pe_int)) pss_nil)
    (pss_one (ps_ret (pe_ix ix_tup (pe_ix ix_tup (pe_gref rfl T.t_JUMP_WORTHS) (pe_fld (pv 0) rfl) (fun _ _ => rfl)) (pe_op op_sub (pv 1) pe_int) (fun _ _ => rfl))))))), ?_⟩

  obtain ⟨p, j, rfl, ⟨hw, dx, hp⟩, k⟩ := h
  refine q_when (et_test (ev_op (ev_fld (ev_var rfl) hp T.C_Jump T.n_Jump_kind rfl) ev_c (rv_eq rfl))) (fun hb H1 e1 => ?_) (fun hb H1 e1 => ?_)
  · have c : j.kind = 6 := of_decide_eq_true (dec_ints (j := 6) hb)
    refine s_ret ev_c fun H2 e2 => ?_
    have : Sk.whole j = 50 := if_pos c
    rw [this] at k
    exact k.go (e1.trans e2)
  · have c : j.kind ≠ 6 := of_decide_eq_false (dec_ints (j := 6) hb)
    have ht : 1 ≤ j.turns ∧ j.turns ≤ 4 := by rcases hw.1 with h | h <;> omega
    refine q_asg ((ev_op (ev_fld (ev_var rfl) hp T.C_Jump T.n_Jump_turns rfl) (ev_cb (ea_cons (ev_op (ev_fld (ev_var rfl) hp T.C_Jump T.n_Jump_missing rfl) ev_c (rv_eq rfl)) ea_nil) rc_intb) rv_I0).mono e1) fun H2 e2 => ?_
    have e02 := e1.trans e2
    have tv : (j.turns : Int) - (if decide (V.int (j.less : Int) = V.int 3) = true then 1 else 0) = ((if j.less = 3 then j.turns - 1 else j.turns : Nat) : Int) := by
      by_cases c3 : j.less = 3
      · rw [if_pos c3, c3, if_pos (by decide)]; omega
      · have : decide (V.int (j.less : Int) = V.int 3) = false := decide_eq_false (by intro z; injection z with z; omega)
        rw [if_neg c3, this, if_neg (by decide)]; omega
    rw [tv]
    refine q_when ((et_test (ev_op (ev_var rfl) ev_c (rv_eq rfl))).mono (Ex.refl H2)) (fun hb2 H3 e3 => ?_) (fun hb2 H3 e3 => ?_)
    · have c0 : (if j.less = 3 then j.turns - 1 else j.turns) = 0 := of_decide_eq_true (dec_ints (j := 0) hb2)
      refine s_ret ev_c fun H4 e4 => ?_
      have : Sk.whole j = 0 := by
        unfold Sk.whole
        rw [if_neg c]
        by_cases c3 : j.less = 3
        · rw [if_pos c3] at c0 ⊢
          rw [if_pos (by omega)]
        · rw [if_neg c3] at c0; omega
      rw [this] at k
      exact k.go ((e02.trans e3).trans e4)
    · have c0 : (if j.less = 3 then j.turns - 1 else j.turns) ≠ 0 := of_decide_eq_false (dec_ints (j := 0) hb2)
      have e03 := e02.trans e3
      generalize hn : (if j.less = 3 then j.turns - 1 else j.turns) = n at c0
      have hn4 : n - 1 < 4 := by rw [← hn]; split <;> omega
      obtain ⟨row, r1, r2⟩ := jump_table hw c (n - 1) hn4
      have hi : ((n : Int) - 1) = ((n - 1 : Nat) : Int) := by omega
      refine s_ret (ev_table (i := n - 1) T.T_JUMP_WORTHS T.U_JUMP_WORTHS (ev_fld (ev_var rfl) (e03 _ _ hp) T.C_Jump T.n_Jump_kind rfl) (by rw [← hi]; exact ev_op (ev_var rfl) ev_c rv_I0) r1 r2) fun H4 e4 => ?_
      have : Sk.whole j = (Kg56.TABLE.getD j.kind []).getD (n - 1) 0 := by
        unfold Sk.whole
        rw [if_neg c]
        by_cases c3 : j.less = 3
        · rw [if_pos c3] at hn ⊢
          rw [if_neg (by omega)]
          congr 1
          omega
        · rw [if_neg c3] at hn ⊢
          rw [← hn]
      rw [this] at k
      exact k.go (e03.trans e4)
end
end SkW

set_option Elab.async false
set_option linter.all false
set_option maxRecDepth 100000
set_option maxHeartbeats 4000000
namespace SkW
open PySem PySem.Spec PyProof.Rows L2 Evl
section
variable {P : Program} {w : World} {K : PySem.W.Frag} {mg : Str → Option Value} {base : Heap} {a : Ad}
theorem sv_whole {H : Hp} {p : Addr} {j : Kg56.Jump} (h : JumpAt a H p j) : SpV (sp_whole a) [.ref p] H (.int (Sk.whole j : Nat)) := fun H1 e Q q E => ⟨p, j, rfl, h.ex e, q⟩
theorem sv_hundredths {H : Hp} {i j : Int} {v p : Nat} (hi : i = (v : Int)) (hj : j = (p : Int)) (hp : p ≤ 1000) : SpV sp_hundredths [.int i, .int j] H (.int (Kg56.part v p : Nat)) := by
  subst hi hj
  exact fun H1 e Q q E => ⟨v, p, rfl, hp, q⟩
def sp_worth (a : Ad) : Sp := fun vs H Q _ => ∃ (p : Addr) (j : Kg56.Jump), vs = [.ref p] ∧ JumpAt a H p j ∧ RetV (.int (j.worth : Nat)) H Q
theorem ok_Jump_worth (T : Txt K mg a) : FnOk P w K mg base CX0 2 a.f_Jump_worth a.d_Jump_worth ["self"] (sp_worth a) := by
  refine T.F_Jump_worth.ok sc_Jump_worth (fun vs H Q E h => ?_) (fun cdv A outer s H vs Q E hr h => ?_)
  · obtain ⟨_, _, rfl, _⟩ := h
    rfl
  refine ⟨_, (pss_cons (ps_set (i := 1) sc_Jump_worth.nd rfl (Or.inl rfl) (pe_cmpR op_eq (pe_fld (pv 0) rfl) (pe_gint rfl T.i_SHORT_OF) (nomark _)))
    (pss_cons (ps_if (PW.pt (pw_and (pt_val (pv 1)) (pw_and1 (pt_cmpR op_eq (pe_fld (pv 0) rfl) (pe_gint rfl T.i_ON_EDGE) (nomark _))))) (pss_one (ps_ret (pe_call (ok_hundredths T) (hr.mono (by decide)) rfl T.g_hundredths T.k_hundredths T.b_hundredths .nil pass0 (by exact (pa_cons (pe_meth0 (pv 0) T.C_Jump T.M_Jump_whole_worth (ok_Jump_whole_worth T) (hr.mono (by decide)) T.b_Jump_whole_worth .nil pass0) (pa_cons pe_int pa_nil)))))) pss_nil)
    (pss_cons (ps_if (PW.pt (pw_or (pt_val (pv 1)) (pw_or1 (pt_cmpR op_eq (pe_fld (pv 0) rfl) (pe_gint rfl T.i_ON_EDGE) (nomark _))))) (pss_one (ps_ret (pe_call (ok_hundredths T) (hr.mono (by decide)) rfl T.g_hundredths T.k_hundredths T.b_hundredths .nil pass0 (by exact (pa_cons (pe_meth0 (pv 0) T.C_Jump T.M_Jump_whole_worth (ok_Jump_whole_worth T) (hr.mono (by decide)) T.b_Jump_whole_worth .nil pass0) (pa_cons pe_int pa_nil)))))) pss_nil)
    (pss_one (ps_ret (pe_meth0 (pv 0) T.C_Jump T.M_Jump_whole_worth (ok_Jump_whole_worth T) (hr.mono (by decide)) T.b_Jump_whole_worth .nil pass0)))))), ?_⟩

  obtain ⟨p, j, rfl, hj, k⟩ := h
  obtain ⟨dx, hp⟩ := hj.2
  have hww := hj.1.worth
  refine q_asg (ev_op (ev_fld (ev_var rfl) hp T.C_Jump T.n_Jump_missing rfl) ev_c (rv_eq rfl)) fun H1 e1 => ?_
  have b2 : decide (V.int (j.less : Int) = V.int 2) = decide (j.less = 2) := (dec_ints (j := 2) rfl).symm
  have b1 : decide (V.int (j.edge : Int) = V.int 1) = decide (j.edge = 1) := (dec_ints (j := 1) rfl).symm
  rw [b2]
  have hj1 := hj.ex e1
  obtain ⟨dx1, hp1⟩ := hj1.2
  refine q_when (et_and (et_B (ev_var rfl)) fun _ => et_test (ev_op (ev_fld (ev_var rfl) hp1 T.C_Jump T.n_Jump_edge rfl) ev_c (rv_eq rfl))) (fun hb H2 e2 => ?_) (fun hb H2 e2 => ?_)
  · rw [b1] at hb
    have c : j.less = 2 ∧ j.edge = 1 := by simpa using hb
    refine s_ret (ev_call (ea_cons (ev_meth (ev_var rfl) (e2 _ _ hp1) rfl ea_nil (sv_whole (hj1.ex e2))) (ea_cons ev_c ea_nil)) (sv_hundredths rfl (p := 60) rfl (by decide))) fun H3 e3 => ?_
    rw [hww, if_pos c] at k
    exact k.go ((e1.trans e2).trans e3)
  · rw [b1] at hb
    have c : ¬ (j.less = 2 ∧ j.edge = 1) := by simpa using hb
    rw [if_neg c] at hww
    refine q_when ((et_or (et_B (ev_var rfl)) fun _ => et_test (ev_op (ev_fld (ev_var rfl) hp1 T.C_Jump T.n_Jump_edge rfl) ev_c (rv_eq rfl))).mono e2) (fun hb2 H3 e3 => ?_) (fun hb2 H3 e3 => ?_)
    · rw [b1] at hb2
      have c2 : j.less = 2 ∨ j.edge = 1 := by simpa using hb2
      refine s_ret (ev_call (ea_cons (ev_meth (ev_var rfl) ((e2.trans e3) _ _ hp1) rfl ea_nil (sv_whole (hj1.ex (e2.trans e3)))) (ea_cons ev_c ea_nil)) (sv_hundredths rfl (p := 80) rfl (by decide))) fun H4 e4 => ?_
      rw [hww, if_pos c2] at k
      exact k.go (((e1.trans e2).trans e3).trans e4)
    · rw [b1] at hb2
      have c2 : ¬ (j.less = 2 ∨ j.edge = 1) := by
        have : (decide (j.less = 2) || decide (j.edge = 1)) = false := hb2
        simpa using this
      refine s_ret (ev_meth (ev_var rfl) ((e2.trans e3) _ _ hp1) rfl ea_nil (sv_whole (hj1.ex (e2.trans e3)))) fun H4 e4 => ?_
      rw [hww, if_neg c2] at k
      exact k.go (((e1.trans e2).trans e3).trans e4)
theorem sv_worth {H : Hp} {p : Addr} {j : Kg56.Jump} (h : JumpAt a H p j) : SpV (sp_worth a) [.ref p] H (.int (j.worth : Nat)) := fun H1 e Q q E => ⟨p, j, rfl, h.ex e, q⟩
/-- a jump as it's told -/
def jumpOut (j : Kg56.Jump) : List V := [.int j.kind, .int j.turns, .int j.edge, .int j.less, .int (j.worth : Nat)]
def sp_Jump_told (a : Ad) : Sp := fun vs H Q _ => ∃ (p : Addr) (j : Kg56.Jump), vs = [.ref p] ∧ JumpAt a H p j ∧ RetL (jumpOut j) H Q
theorem ok_Jump_told (T : Txt K mg a) : FnOk P w K mg base CX0 3 a.f_Jump_told a.d_Jump_told ["self"] (sp_Jump_told a) := by
  refine T.F_Jump_told.ok sc_Jump_told (fun vs H Q E h => ?_) (fun cdv A outer s H vs Q E hr h => ?_)
  · obtain ⟨_, _, rfl, _⟩ := h
    rfl
  refine ⟨_, (pss_one (ps_ret (pe_lst (pa_cons (pe_fld (pv 0) rfl) (pa_cons (pe_fld (pv 0) rfl) (pa_cons (pe_fld (pv 0) rfl) (pa_cons (pe_fld (pv 0) rfl) (pa_cons (pe_meth0 (pv 0) T.C_Jump T.M_Jump_worth (ok_Jump_worth T) (hr.mono (by decide)) T.b_Jump_worth .nil pass0) pa_nil)))))))), ?_⟩

  obtain ⟨p, j, rfl, hj, k⟩ := h
  obtain ⟨dx, hp⟩ := hj.2
  refine s_retL (el_lst (ea_cons (ev_fld (ev_var rfl) hp T.C_Jump T.n_Jump_kind rfl) (ea_cons (ev_fld (ev_var rfl) hp T.C_Jump T.n_Jump_turns rfl) (ea_cons (ev_fld (ev_var rfl) hp T.C_Jump T.n_Jump_edge rfl) (ea_cons (ev_fld (ev_var rfl) hp T.C_Jump T.n_Jump_missing rfl)
    (ea_cons (ev_meth (ev_var rfl) hp rfl ea_nil (sv_worth hj)) ea_nil))))) (Nat.le_of_ble_eq_true rfl)) fun q H1 hq e1 h1 => k.go (Ex.refl H) hq e1 h1
theorem sl_Jump_told {H : Hp} {p : Addr} {j : Kg56.Jump} (h : JumpAt a H p j) : SpL (sp_Jump_told a) [.ref p] H (jumpOut j) := fun H1 e Q q E => ⟨p, j, rfl, h.ex e, fun x H2 hx e2 h2 => q x H2 hx e2 h2⟩
def sp_is_row (a : Ad) : Sp := fun vs H Q _ => ∃ (p : Addr) (e : Kg56.Element), vs = [.ref p] ∧ ElemAt a H p e ∧ RetV (.bl (decide (2 ≤ (Sk.jumpsIn e).length))) H Q
theorem JumpsAt.len {H : Hp} {q : Addr} {l : List Kg56.Jump} (h : JumpsAt a H q l) : ∃ xs : List V, H q = some (.lst xs) ∧ xs.length = l.length := by
  obtain ⟨js, h1, h2⟩ := h
  exact ⟨_, h1, by rw [List.length_map]; exact Paired.length h2⟩
theorem ok_Element_is_row (T : Txt K mg a) : FnOk P w K mg base CX0 1 a.f_Element_is_row a.d_Element_is_row ["self"] (sp_is_row a) := by
  refine T.F_Element_is_row.ok sc_Element_is_row (fun vs H Q E h => ?_) (fun cdv A outer s H vs Q E hr h => ?_)
  · obtain ⟨_, _, rfl, _⟩ := h
    rfl
  refine ⟨_, (pss_one (ps_ret (pe_cmpR op_ge (pe_callB call_len_seq rfl T.n_len (by decide +kernel) (by exact (pa_cons (pe_fld (pv 0) rfl) pa_nil))) pe_int (nomark _)))), ?_⟩

  obtain ⟨p, x, rfl, ⟨_, dx, q, hp, hq⟩, k⟩ := h
  obtain ⟨xs, h1, h2⟩ := hq.len
  refine s_ret (ev_op (ev_cb (ea_cons (ev_fld (ev_var rfl) hp T.C_Element T.n_Element_jumps rfl) ea_nil) (rc_len (.inl (sq_of h1)))) ev_c rv_I0) fun H1 e1 => ?_
  have : decide ((2 : Int) ≤ (xs.length : Int)) = decide (2 ≤ (Sk.jumpsIn x).length) := by rw [h2]; exact decide_eq_decide.mpr (by omega)
  rw [this]
  exact k.go e1
/-- what an element without jumps is worth -/
def ownWorth : Kg56.Element → Nat
  | .jumps _ => 0
  | .spin n v => Kg56.spinWorth n v
  | .steps v => Kg56.stepsWorth v
  | .choreo => 200
def sp_own_worth (a : Ad) : Sp := fun vs H Q _ => ∃ (p : Addr) (e : Kg56.Element), vs = [.ref p] ∧ ElemAt a H p e ∧ Sk.sortOf e ≠ 0 ∧ RetV (.int (ownWorth e : Nat)) H Q
theorem spin_table : ∀ n, n < 20 → ∀ v, v < 5 → ∃ row : List Int, ([[100, 120, 150, 190, 240], [120, 150, 190, 240, 270], [110, 140, 180, 230, 260], [110, 130, 160, 210, 250], [150, 170, 200, 250, 300]] : List (List Int))[n % 5]? = some row ∧
    row[v]? = some (((([[100, 120, 150, 190, 240], [120, 150, 190, 240, 270], [110, 140, 180, 230, 260], [110, 130, 160, 210, 250], [150, 170, 200, 250, 300]].getD (n % 5) []).getD v 0 : Nat)) : Int) := by
  intro n hn v hv
  rcases (show n % 5 = 0 ∨ n % 5 = 1 ∨ n % 5 = 2 ∨ n % 5 = 3 ∨ n % 5 = 4 by omega) with e | e | e | e | e <;> rw [e] <;> rcases (show v = 0 ∨ v = 1 ∨ v = 2 ∨ v = 3 ∨ v = 4 by omega) with rfl | rfl | rfl | rfl | rfl <;> exact ⟨_, rfl, rfl⟩
theorem steps_table : ∀ v, v < 5 → ([150, 180, 260, 330, 390] : List Int)[v]? = some ((Kg56.stepsWorth v : Nat) : Int) := by
  intro v hv
  rcases (show v = 0 ∨ v = 1 ∨ v = 2 ∨ v = 3 ∨ v = 4 by omega) with rfl | rfl | rfl | rfl | rfl <;> rfl
theorem ok_Element_own_worth (T : Txt K mg a) : FnOk P w K mg base CX0 1 a.f_Element_own_worth a.d_Element_own_worth ["self"] (sp_own_worth a) := by
  refine T.F_Element_own_worth.ok sc_Element_own_worth (fun vs H Q E h => ?_) (fun cdv A outer s H vs Q E hr h => ?_)
  · obtain ⟨_, _, rfl, _⟩ := h
    rfl
  refine ⟨_, (pss_cons (ps_if (pt_cmpR op_eq (pe_fld (pv 0) rfl) (pe_gint rfl T.i_STEPS) (nomark _)) (pss_one (ps_ret (pe_ix ix_tup (pe_gref rfl T.t_STEPS_WORTHS) (pe_fld (pv 0) rfl) (fun _ _ => rfl)))) pss_nil)
    (pss_cons (ps_if (pt_cmpR op_eq (pe_fld (pv 0) rfl) (pe_gint rfl T.i_OTHERS) (nomark _)) (pss_one (ps_ret (pe_gint rfl T.i_OTHERS_WORTH))) pss_nil)
    (pss_cons (ps_set (i := 1) sc_Element_own_worth.nd rfl (Or.inl rfl) (pe_op op_add (pe_op op_mul (pe_gint rfl T.i_MORE) (pe_callTy call_int1 rfl T.n_int (by decide +kernel) (by exact (pa_cons (pe_cmpR op_ge (pe_fld (pv 0) rfl) (pe_gint rfl T.i_FLYING) (nomark _)) pa_nil)))) (pe_op op_mul (pe_gint rfl T.i_MORE) (pe_callTy call_int1 rfl T.n_int (by decide +kernel) (by exact (pa_cons (pe_cmpR op_ge (pe_op op_mod (pe_fld (pv 0) rfl) (pe_gint rfl T.i_FLYING)) (pe_gint rfl T.i_CHANGED) (nomark _)) pa_nil))))))
    (pss_one (ps_ret (pe_op op_add (pe_ix ix_tup (pe_ix ix_tup (pe_gref rfl T.t_SPIN_WORTHS) (pe_op op_mod (pe_fld (pv 0) rfl) (pe_gint rfl T.i_CHANGED)) (fun _ _ => rfl)) (pe_fld (pv 0) rfl) (fun _ _ => rfl)) (pv 1))))))), ?_⟩

  obtain ⟨p, x, rfl, ⟨hw, dx, q, hp, hq⟩, h0, k⟩ := h
  refine q_when (et_test (ev_op (ev_fld (ev_var rfl) hp T.C_Element T.n_Element_sort_told rfl) ev_c (rv_eq rfl))) (fun hb H1 e1 => ?_) (fun hb H1 e1 => ?_)
  · have c : Sk.sortOf x = 2 := of_decide_eq_true (dec_ints (j := 2) hb)
    match x, c with
    | .steps v, _ =>
      have hv : v < 5 := by have : v ≤ 4 := hw; omega
      refine s_ret (ev_op ev_c (ev_fld (ev_var rfl) (e1 _ _ hp) T.C_Element T.n_Element_level rfl) (rv_ixT (T.T_STEPS_WORTHS.t H1) (atI_nat (j := v) (v := .int ((Kg56.stepsWorth v : Nat) : Int)) (by
        have := steps_table v hv
        show (([150, 180, 260, 330, 390] : List Int).map V.int)[v]? = _
        rw [List.getElem?_map, this]; rfl)))) fun H2 e2 => ?_
      exact k.go (e1.trans e2)
  · have c : Sk.sortOf x ≠ 2 := of_decide_eq_false (dec_ints (j := 2) hb)
    refine q_when ((et_test (ev_op (ev_fld (ev_var rfl) hp T.C_Element T.n_Element_sort_told rfl) ev_c (rv_eq rfl))).mono e1) (fun hb2 H2 e2 => ?_) (fun hb2 H2 e2 => ?_)
    · have c2 : Sk.sortOf x = 3 := of_decide_eq_true (dec_ints (j := 3) hb2)
      match x, c2 with
      | .choreo, _ => exact s_ret ev_c fun H3 e3 => k.go ((e1.trans e2).trans e3)
    · have c2 : Sk.sortOf x ≠ 3 := of_decide_eq_false (dec_ints (j := 3) hb2)
      match x, hw, h0, c, c2, hp, k with
      | .jumps _, _, h0, _, _, _, _ => exact absurd rfl h0
      | .steps _, _, _, c, _, _, _ => exact absurd rfl c
      | .choreo, _, _, _, c2, _, _ => exact absurd rfl c2
      | .spin n v, hw, _, _, _, hp, k =>
        have hn : n < 20 := hw.1
        have hv : v < 5 := by have : v ≤ 4 := hw.2; omega
        have e02 := e1.trans e2
        refine q_asg ((ev_op (ev_op ev_c (ev_cb (ea_cons (ev_op (ev_fld (ev_var rfl) hp T.C_Element T.n_Element_name rfl) ev_c rv_I0) ea_nil) rc_intb) (rv_mul (.inl (by decide))))
          (ev_op ev_c (ev_cb (ea_cons (ev_op (ev_op (ev_fld (ev_var rfl) hp T.C_Element T.n_Element_name rfl) ev_c (rv_mod (by decide))) ev_c rv_I0) ea_nil) rc_intb) (rv_mul (.inl (by decide)))) rv_I0).mono e02) fun H3 e3 => ?_
        have e03 := e02.trans e3
        obtain ⟨row, r1, r2⟩ := spin_table n hn v hv
        refine s_ret (ev_op (ev_table T.T_SPIN_WORTHS T.U_SPIN_WORTHS (k := n % 5) (by
          have : ((n % 5 : Nat) : Int) = (n : Int) % 5 := by omega
          rw [this]
          exact ev_op (ev_fld (ev_var rfl) (e03 _ _ hp) T.C_Element T.n_Element_name rfl) ev_c (rv_mod (by decide))) (ev_fld (ev_var rfl) (e03 _ _ hp) T.C_Element T.n_Element_level rfl) r1 r2) (ev_var rfl) rv_I0) fun H4 e4 => ?_
        have : (((([[100, 120, 150, 190, 240], [120, 150, 190, 240, 270], [110, 140, 180, 230, 260], [110, 130, 160, 210, 250], [150, 170, 200, 250, 300]].getD (n % 5) []).getD v 0 : Nat)) : Int) + (50 * (if decide ((10 : Int) ≤ (n : Int)) = true then 1 else 0) + 50 * (if decide ((5 : Int) ≤ (n : Int) % 10) = true then 1 else 0)) = ((ownWorth (.spin n v) : Nat) : Int) := by
          show _ = ((Kg56.spinWorth n v : Nat) : Int)
          unfold Kg56.spinWorth
          generalize (([[100, 120, 150, 190, 240], [120, 150, 190, 240, 270], [110, 140, 180, 230, 260], [110, 130, 160, 210, 250], [150, 170, 200, 250, 300]].getD (n % 5) []).getD v 0 : Nat) = tv
          have d1 : decide ((10 : Int) ≤ (n : Int)) = decide (10 ≤ n) := decide_eq_decide.mpr (by omega)
          have d2 : decide ((5 : Int) ≤ (n : Int) % 10) = decide (n / 5 % 2 = 1) := decide_eq_decide.mpr (by omega)
          rw [d1, d2]
          by_cases c1 : 10 ≤ n <;> by_cases c2 : n / 5 % 2 = 1 <;> simp [c1, c2] <;> omega
        rw [← this] at k
        exact k.go (e03.trans e4)
theorem sv_own {H : Hp} {p : Addr} {x : Kg56.Element} (h : ElemAt a H p x) (h0 : Sk.sortOf x ≠ 0) : SpV (sp_own_worth a) [.ref p] H (.int (ownWorth x : Nat)) := fun H1 e Q q E => ⟨p, x, rfl, h.ex e, h0, q⟩
/-- an element as it's told -/
def elemOut (e : Kg56.Element) : List V := .int ((Kg56.showElement e).1 : Nat) :: (Kg56.showElement e).2.map fun n => .int (n : Nat)
def sp_Element_told (a : Ad) : Sp := fun vs H Q _ => ∃ (p : Addr) (e : Kg56.Element), vs = [.ref p] ∧ ElemAt a H p e ∧ RetL (elemOut e) H Q
theorem ok_Element_told (T : Txt K mg a) : FnOk P w K mg base CX0 4 a.f_Element_told a.d_Element_told ["self"] (sp_Element_told a) := by
  refine T.F_Element_told.ok sc_Element_told (fun vs H Q E h => ?_) (fun cdv A outer s H vs Q E hr h => ?_)
  · obtain ⟨_, _, rfl, _⟩ := h
    rfl
  refine ⟨_, (pss_cons (ps_if (pt_cmpR op_eq (pe_fld (pv 0) rfl) (pe_gint rfl T.i_JUMPS) (nomark _)) (pss_cons (ps_set (i := 1) sc_Element_told.nd rfl (Or.inl rfl) (pe_lst (pa_cons (pe_gint rfl T.i_JUMPS) pa_nil)))
    (pss_cons (ps_for PassesOwn.never rfl (pi_list (pe_fld (pv 0) rfl)) (pg_name (i := 2) sc_Element_told.nd rfl (Or.inl rfl))
      (pss_one (ps_expr (pe_bm PySem.F.plainAttrs_list PySem.F.slot_list_extend PySem.F.type_list_extend mt_extend (pv 1) (by exact (pa_cons (pe_meth0 (pv 2) T.C_Jump T.M_Jump_told (ok_Jump_told T) (hr.mono (by decide)) T.b_Jump_told .nil pass0) pa_nil))))))
    (pss_one (ps_ret (pv 1))))) pss_nil)
    (pss_cons (ps_if (pt_cmpR op_eq (pe_fld (pv 0) rfl) (pe_gint rfl T.i_SPIN) (nomark _)) (pss_one (ps_ret (pe_lst (pa_cons (pe_gint rfl T.i_SPIN) (pa_cons (pe_fld (pv 0) rfl) (pa_cons (pe_fld (pv 0) rfl) (pa_cons (pe_meth0 (pv 0) T.C_Element T.M_Element_own_worth (ok_Element_own_worth T) (hr.mono (by decide)) T.b_Element_own_worth .nil pass0) pa_nil))))))) pss_nil)
    (pss_cons (ps_if (pt_cmpR op_eq (pe_fld (pv 0) rfl) (pe_gint rfl T.i_STEPS) (nomark _)) (pss_one (ps_ret (pe_lst (pa_cons (pe_gint rfl T.i_STEPS) (pa_cons (pe_fld (pv 0) rfl) (pa_cons (pe_meth0 (pv 0) T.C_Element T.M_Element_own_worth (ok_Element_own_worth T) (hr.mono (by decide)) T.b_Element_own_worth .nil pass0) pa_nil)))))) pss_nil)
    (pss_one (ps_ret (pe_lst (pa_cons (pe_gint rfl T.i_OTHERS) (pa_cons (pe_meth0 (pv 0) T.C_Element T.M_Element_own_worth (ok_Element_own_worth T) (hr.mono (by decide)) T.b_Element_own_worth .nil pass0) pa_nil)))))))), ?_⟩

  obtain ⟨p, x, rfl, hx, k⟩ := h
  obtain ⟨hw, dx, q, hp, hq⟩ := id hx
  refine q_when (et_test (ev_op (ev_fld (ev_var rfl) hp T.C_Element T.n_Element_sort_told rfl) ev_c (rv_eq rfl))) (fun hb H1 e1 => ?_) (fun hb H1 e1 => ?_)
  · have c : Sk.sortOf x = 0 := of_decide_eq_true (dec_ints (j := 0) hb)
    match x, c, hq, k, hw with
    | .jumps l, _, hq, k, hw =>
      refine q_asgL (el_lst (ea_cons ev_c ea_nil) (by decide)) fun f H2 hf e2 h2 => ?_
      obtain ⟨js, hq1, hq2⟩ := (hq.ex e1)
      have hl : js.length = l.length := Paired.length hq2
      have hl3 : l.length ≤ 3 := hw.2.1
      refine q_forLn (H := H2) (ev_fld (ev_var rfl) ((e1.trans e2) _ _ hp) T.C_Element T.n_Element_jumps rfl) (sq_of (e2 _ _ hq1)) (fun i σ' H' => Ex H1 H' ∧ H' f = some (.lst (.int 0 :: (l.take i).flatMap jumpOut)) ∧ ∃ y, σ' = [some (.ref p), some (.ref f), y])
        (fun H3 e3 => ⟨e2.trans e3, e3 _ _ h2, none, rfl⟩) (fun i σ' H' _ ⟨e3, _, _⟩ => sq_of (e3 _ _ hq1)) (fun i z σ' H' hi ⟨e3, h3, y, hσ⟩ => ?_) (fun σ' H' ⟨e3, h3, y, hσ⟩ => ?_)
      · subst hσ
        obtain ⟨r, hr, rfl⟩ := at_map hi
        obtain ⟨j, hj, hrj⟩ := paired_get hq2 hr
        have hil : i < l.length := (List.getElem?_eq_some_iff.mp hj).1
        have hj3 := hrj.ex e3
        obtain ⟨dxj, hpj⟩ := hj3.2
        have hj' : l[i]? = some j := hj
        have take1 : l.take (i + 1) = l.take i ++ [j] := by rw [List.take_add_one, hj']; rfl
        have flen : (V.int 0 :: (l.take i).flatMap jumpOut).length ≤ 100 := by
          rw [List.length_cons, List.length_flatMap]
          have : ((l.take i).map fun j => (jumpOut j).length) = (l.take i).map fun _ => 5 := List.map_congr_left fun _ _ => rfl
          rw [this, List.map_const', List.sum_replicate_nat, List.length_take]
          omega
        refine s_extL h3 (ev_var rfl) (el_meth (ev_var rfl) hpj rfl ea_nil (sl_Jump_told hj3)) (by have : (jumpOut j).length = 5 := rfl; omega) fun H4 e4 => ⟨(e3.trans e4).mut (fresh_back (Ex.refl H1) hf), ?_, _, rfl⟩
        rw [upd_same, take1, List.flatMap_append]
        show some (HO.lst ((V.int 0 :: List.flatMap jumpOut (l.take i)) ++ jumpOut j)) = _
        rw [List.flatMap_cons, List.flatMap_nil, List.append_nil]
        rfl
      · subst hσ
        refine s_ret (ev_var rfl) fun H3 e4 => ?_
        refine k f H3 (fresh_back e1 hf) ((e1.trans e3).trans e4) ?_
        have := e4 _ _ h3
        rw [List.length_map, hl, List.take_length] at this
        rw [this]
        unfold elemOut Kg56.showElement
        show some (HO.lst (V.int 0 :: l.flatMap jumpOut)) = some (HO.lst (V.int 0 :: (l.flatMap fun j => [j.kind, j.turns, j.edge, j.less, j.worth]).map fun n => V.int (n : Nat)))
        rw [List.map_flatMap]
        rfl
  · have c : Sk.sortOf x ≠ 0 := of_decide_eq_false (dec_ints (j := 0) hb)
    refine q_when ((et_test (ev_op (ev_fld (ev_var rfl) hp T.C_Element T.n_Element_sort_told rfl) ev_c (rv_eq rfl))).mono e1) (fun hb2 H2 e2 => ?_) (fun hb2 H2 e2 => ?_)
    · have c2 : Sk.sortOf x = 1 := of_decide_eq_true (dec_ints (j := 1) hb2)
      have hx2 := hx.ex (e1.trans e2)
      have hp2 := (e1.trans e2) _ _ hp
      match x, c, c2, hx2, hp2, k with
      | .spin n v, c, _, hx2, hp2, k =>
        exact s_retL (el_lst (ea_cons ev_c (ea_cons (ev_fld (ev_var rfl) hp2 T.C_Element T.n_Element_name rfl) (ea_cons (ev_fld (ev_var rfl) hp2 T.C_Element T.n_Element_level rfl) (ea_cons (ev_meth (ev_var rfl) hp2 rfl ea_nil (sv_own hx2 c)) ea_nil)))) (Nat.le_of_ble_eq_true rfl)) fun f H3 hf e3 h3 => k.go (e1.trans e2) hf e3 h3
    · have c2 : Sk.sortOf x ≠ 1 := of_decide_eq_false (dec_ints (j := 1) hb2)
      refine q_when ((et_test (ev_op (ev_fld (ev_var rfl) hp T.C_Element T.n_Element_sort_told rfl) ev_c (rv_eq rfl))).mono (e1.trans e2)) (fun hb3 H3 e3 => ?_) (fun hb3 H3 e3 => ?_)
      · have c3 : Sk.sortOf x = 2 := of_decide_eq_true (dec_ints (j := 2) hb3)
        have e03 := (e1.trans e2).trans e3
        have hx3 := hx.ex e03
        have hp3 := e03 _ _ hp
        match x, c, c3, hx3, hp3, k with
        | .steps v, c, _, hx3, hp3, k =>
          exact s_retL (el_lst (ea_cons ev_c (ea_cons (ev_fld (ev_var rfl) hp3 T.C_Element T.n_Element_level rfl) (ea_cons (ev_meth (ev_var rfl) hp3 rfl ea_nil (sv_own hx3 c)) ea_nil))) (Nat.le_of_ble_eq_true rfl)) fun f H4 hf e4 h4 => k.go e03 hf e4 h4
      · have c3 : Sk.sortOf x ≠ 2 := of_decide_eq_false (dec_ints (j := 2) hb3)
        have e03 := (e1.trans e2).trans e3
        have hx3 := hx.ex e03
        have hp3 := e03 _ _ hp
        match x, c, c2, c3, hx3, hp3, k with
        | .jumps _, c, _, _, _, _, _ => exact absurd rfl c
        | .spin _ _, _, c2, _, _, _, _ => exact absurd rfl c2
        | .steps _, _, _, c3, _, _, _ => exact absurd rfl c3
        | .choreo, c, _, _, hx3, hp3, k =>
          exact s_retL (el_lst (ea_cons ev_c (ea_cons (ev_meth (ev_var rfl) hp3 rfl ea_nil (sv_own hx3 c)) ea_nil)) (by decide)) fun f H4 hf e4 h4 => k.go e03 hf e4 h4
/-- a new element's object -/
theorem elem_made {H H1 : Hp} {x dx q : Addr} {e : Kg56.Element} (nx : H x = none) (nd : H dx = none) (hw : Sk.EWf e) (h : H1 x = some (.ins a.c_Element dx (F_Element (.int (Sk.sortOf e : Nat)) (.ref q) (.int (Sk.nameIn e : Nat)) (.int (Sk.levelIn e : Nat)))))
    (k : But x (upd (upd H dx (.own x)) x (.ins a.c_Element dx [])) H1) {H0 : Hp} (e0 : Ex H0 H) (hq : JumpsAt a (nw H0 H) q (Sk.jumpsIn e)) : Ex H H1 ∧ ElemAt a (nw H0 H1) x e := by
  have ee := But.made nx nd k
  exact ⟨ee, hw, dx, q, by rw [nw_of (fresh_back e0 nx)]; exact h, hq.ex (nw_mono ee)⟩
/-- jumps_element: H0 is the heap ahead of the jumps' making -/
def sp_jumps_element (a : Ad) : Sp := fun vs H Q _ => ∃ (q : Addr) (l : List Kg56.Jump) (H0 : Hp), vs = [.ref q] ∧ Sk.EWf (.jumps l) ∧ Ex H0 H ∧ JumpsAt a (nw H0 H) q l ∧ ∀ x H1, Ex H H1 → ElemAt a (nw H0 H1) x (.jumps l) → Q (.ref x) H1
theorem ok_jumps_element (T : Txt K mg a) : FnOk P w K mg base CX0 3 a.f_jumps_element a.d_jumps_element ["jumps"] (sp_jumps_element a) := by
  refine T.F_jumps_element.ok sc_jumps_element (fun vs H Q E h => ?_) (fun cdv A outer s H vs Q E hr h => ?_)
  · obtain ⟨_, _, _, rfl, _⟩ := h
    rfl
  refine ⟨_, (pss_one (ps_ret (pe_make T.mk_Element (ok_Element___init__ T) (hr.mono (by decide)) rfl T.gC_Element T.b_Element___init__ .nil pass0 (by exact (pa_cons (pe_gint rfl T.i_JUMPS) (pa_cons (pv 0) (pa_cons pe_int (pa_cons pe_int pa_nil)))))))), ?_⟩

  obtain ⟨q, l, H0, rfl, hw, e0, hq, k⟩ := h
  refine ⟨_, rfl, fun x dx nx nd ne => ⟨x, dx, _, _, _, _, rfl, upd_same, fun H1 h1 k1 => ⟨rfl, ?_⟩⟩⟩
  obtain ⟨e1, r1⟩ := elem_made (e := .jumps l) nx nd hw h1 k1 e0 hq
  exact k x H1 e1 r1
end
end SkW

set_option Elab.async false
set_option linter.all false
set_option maxRecDepth 100000
set_option maxHeartbeats 4000000
namespace SkW
open PySem PySem.Spec PyProof.Rows L2 Evl
/-! ### texts as lists of numbers -/
def iz (t : Kg56.Text) : List Int := t.map fun (n : Nat) => (n : Int)
def tv (t : Kg56.Text) : List V := (iz t).map V.int
theorem iz_inj : ∀ {s t : Kg56.Text}, iz s = iz t → s = t
  | [], [], _ => rfl
  | [], _ :: _, h => by cases h
  | _ :: _, [], h => by cases h
  | a :: s, b :: t, h => by
    have h1 : (a : Int) = (b : Int) := (List.cons.inj h).1
    have h2 : iz s = iz t := (List.cons.inj h).2
    rw [iz_inj h2, Int.ofNat.inj h1]
theorem iz_dec (s t : Kg56.Text) : decide (iz s = iz t) = decide (s = t) := decide_eq_decide.mpr ⟨iz_inj, fun h => by rw [h]⟩
theorem tv_len (t : Kg56.Text) : (tv t).length = t.length := by unfold tv iz; simp
theorem tv_drop (t : Kg56.Text) (n : Nat) : (tv t).drop n = tv (t.drop n) := by unfold tv iz; rw [List.map_drop, List.map_drop]
theorem tv_take (t : Kg56.Text) (n : Nat) : (tv t).take n = tv (t.take n) := by unfold tv iz; rw [List.map_take, List.map_take]
theorem tv_get (t : Kg56.Text) (i : Nat) : (tv t)[i]? = t[i]?.map fun n => V.int (n : Nat) := by
  unfold tv iz
  rw [List.getElem?_map, List.getElem?_map]
  cases t[i]? <;> rfl
theorem six_neg (n k : Nat) (d : Nat) : HT.sIx n d (some (-((k + 1 : Nat) : Int))) = n - (k + 1) := by
  unfold HT.sIx
  simp
  omega
theorem cut_from (t : Kg56.Text) (n : Nat) : cutV (tv t) (some (n : Int)) none = tv (t.drop n) := by
  unfold cutV
  rw [HT.sIx_nat, HT.sIx_none, tv_len, tv_drop, tv_take]
  congr 1
  by_cases c : n ≤ t.length
  · rw [Nat.min_eq_left c, List.take_of_length_le (by rw [List.length_drop]; exact Nat.le_refl _)]
  · rw [Nat.min_eq_right (by omega), List.drop_of_length_le (Nat.le_refl _), List.drop_of_length_le (by omega)]; simp
theorem cut_to (t : Kg56.Text) (n : Nat) : cutV (tv t) none (some (n : Int)) = tv (t.take n) := by
  unfold cutV
  rw [HT.sIx_nat, HT.sIx_none, tv_len, tv_drop, tv_take, List.drop_zero, Nat.sub_zero]
  congr 1
  by_cases c : n ≤ t.length
  · rw [Nat.min_eq_left c]
  · rw [Nat.min_eq_right (by omega), List.take_of_length_le (Nat.le_refl _), List.take_of_length_le (by omega)]
theorem cut_last (t : Kg56.Text) : cutV (tv t) (some (-1)) none = tv (t.drop (t.length - 1)) := by
  unfold cutV
  have e := six_neg (tv t).length 0 0
  rw [show (-((0 + 1 : Nat) : Int)) = -1 from rfl] at e
  rw [e, HT.sIx_none, tv_len, tv_drop, tv_take]
  congr 1
  exact List.take_of_length_le (by rw [List.length_drop]; omega)
theorem cut_sp (t : Kg56.Text) : cutV (tv t) (some (-3)) (some (-1)) = tv ((t.drop (t.length - 3)).take (t.length - 1 - (t.length - 3))) := by
  unfold cutV
  have e := six_neg (tv t).length 0 (tv t).length
  have e3 := six_neg (tv t).length 2 0
  rw [show (-((0 + 1 : Nat) : Int)) = -1 from rfl] at e
  rw [show (-((2 + 1 : Nat) : Int)) = -3 from rfl] at e3
  rw [e, e3, tv_len, tv_drop, tv_take]
theorem cut_name (t : Kg56.Text) : cutV (tv t) none (some (-3)) = tv (t.take (t.length - 3)) := by
  unfold cutV
  have e3 := six_neg (tv t).length 2 (tv t).length
  rw [show (-((2 + 1 : Nat) : Int)) = -3 from rfl] at e3
  rw [e3, HT.sIx_none, tv_len, tv_drop, tv_take, List.drop_zero, Nat.sub_zero]
def optV : Option Nat → V
  | some n => .int (n : Nat)
  | none => .non
section
variable {P : Program} {w : World} {K : PySem.W.Frag} {mg : Str → Option Value} {base : Heap} {a : Ad}
def codesOf (s : Str) : Kg56.Text := s.cps.toList
def sp_codes : Sp := fun vs H Q _ => ∃ s : Str, vs = [.str s] ∧ s.cps.size ≤ 1000 ∧ RetL (tv (codesOf s)) H Q
theorem ok_codes (T : Txt K mg a) : FnOk P w K mg base CX0 1 a.f_codes a.d_codes ["written"] (sp_codes) := by
  refine T.F_codes.ok sc_codes (fun vs H Q E h => ?_) (fun cdv A outer s H vs Q E hr h => ?_)
  · obtain ⟨_, rfl, _⟩ := h
    rfl
  refine ⟨_, (pss_one (ps_ret (pe_lc (own := [("sign", 1)]) rfl sc_codes.nd (pi_str (pv 0)) (blkOk_by (N := ["written", "sign"]) (sc := defScope s_codes) (by decide +kernel)) (fun _ _ _ _ _ => (pg_name (i := 1) sc_codes.nd rfl (by first | exact Or.inl rfl | exact Or.inr rfl))) (fun _ _ _ _ _ => pts_nil) (fun _ _ _ _ _ => (pe_callB call_ord rfl T.n_ord (by decide +kernel) (by exact (pa_cons (pv 1) pa_nil))))))), ?_⟩

  obtain ⟨s, rfl, hs, k⟩ := h
  refine s_retL (el_str (ys := tv (codesOf s)) (ev_var rfl) ?_ ?_ ?_ ?_) fun q H1 hq e1 h1 => k.go (Ex.refl H) hq e1 h1
  · omega
  · exact fun _ => rfl
  · rw [tv_len]; unfold codesOf; simp
  · intro i c y H1 e1 hc hy
    rw [tv_get] at hy
    have hc' : (codesOf s)[i]? = some c := by unfold codesOf; simpa using hc
    rw [hc'] at hy
    cases hy
    exact ev_cb (ea_cons (ev_var rfl) ea_nil) fun H2 e2 Q2 q2 => ⟨⟨#[c]⟩, rfl, rfl, q2 H2 (Ex.refl H2)⟩
theorem sl_codes {H : Hp} {s : Str} (hs : s.cps.size ≤ 1000) : SpL sp_codes [.str s] H (tv (codesOf s)) := fun H1 e Q q E => ⟨s, rfl, hs, fun x H2 hx e2 h2 => q x H2 hx e2 h2⟩
/-- codes of a written text, as an expression -/
theorem el_codes {σ : L2.St} {H : Hp} {te : TE} {s : Str} {E : XK} (h : Ev te σ H (.str s)) (hs : s.cps.size ≤ 1000) : EvL (tCall sp_codes [] E (tCons te tNil)) σ H ((iz (codesOf s)).map V.int) := el_call (ea_cons h ea_nil) (sl_codes hs)
def sp_number_in (K : PySem.W.Frag) : Sp := fun vs H Q _ => ∃ (p r : Addr) (ws : List Str) (row : Kg56.Text), vs = [.ref p, .ref r] ∧ (SqL K H p (ws.map V.str) ∨ SqT K H p (ws.map V.str)) ∧ SqL K H r (tv row) ∧ (∀ s ∈ ws, s.cps.size ≤ 1000) ∧
  RetV (optV (Sk.numberIn (ws.map codesOf) row)) H Q
theorem ok_number_in (T : Txt K mg a) : FnOk P w K mg base CX0 3 a.f_number_in a.d_number_in ["some", "row"] (sp_number_in K) := by
  refine T.F_number_in.ok sc_number_in (fun vs H Q E h => ?_) (fun cdv A outer s H vs Q E hr h => ?_)
  · obtain ⟨_, _, _, _, rfl, _⟩ := h
    rfl
  refine ⟨_, (pss_cons (ps_for PassesOwn.never rfl (pi_enumS rfl T.n_enumerate (by exact (pa_cons (pv 0) pa_nil))) (pg_tup (n := 2) rfl (pgs_cons (pg_name (i := 2) sc_number_in.nd rfl (Or.inl rfl)) (pgs_cons (pg_name (i := 3) sc_number_in.nd rfl (Or.inl rfl)) pgs_nil)))
      (pss_one (ps_if (pt_cmpR (op_eqD hr.units) (pv 1) (pe_call (ok_codes T) (hr.mono (by decide)) rfl T.g_codes T.k_codes T.b_codes .nil pass0 (by exact (pa_cons (pv 3) pa_nil))) (nomark _)) (pss_one (ps_ret (pv 2))) pss_nil)))
    (pss_one (ps_ret pe_non))), ?_⟩

  obtain ⟨p, r, ws, row, rfl, hp, hr2, hws, k⟩ := h
  refine q_forEnumS (ea_cons (ev_var rfl) ea_nil) hp (fun i σ' H' => Ex H H' ∧ (∀ j s, j < i → ws[j]? = some s → row ≠ codesOf s) ∧ ∃ x y, σ' = [some (.ref p), some (.ref r), x, y]) (fun H1 e1 => ⟨e1, fun j s hj => by omega, none, none, rfl⟩) (fun i σ' H' pv => pv.1) (fun i x σ' H' H2 hi pv e2 => ?_) (fun σ' H' pv => ?_)
  · obtain ⟨e1, hno, x1, y1, hσ⟩ := pv
    subst hσ
    obtain ⟨s1, hs1, rfl⟩ := at_map hi
    have hsz := hws s1 (List.mem_of_getElem? hs1)
    have e02 := e1.trans e2
    refine s_when (et_test (ev_eqNew (ns := iz row) (ms := iz (codesOf s1)) (ev_var rfl) (ex_l e02 hr2) (el_codes (ev_var rfl) hsz))) (fun hb H3 e3 => ?_) (fun hb H3 e3 => ?_)
    · rw [iz_dec] at hb
      have hrow : row = codesOf s1 := of_decide_eq_true hb
      refine s_ret (ev_var rfl) fun H4 e4 => ?_
      have hf : Sk.numberIn (ws.map codesOf) row = some i := by
        unfold Sk.numberIn
        have hil : i < ws.length := (List.getElem?_eq_some_iff.mp hs1).1
        refine List.findIdx?_eq_some_iff_getElem.mpr ⟨by rw [List.length_map]; exact hil, ?_, fun j hj => ?_⟩
        · rw [List.getElem_map]
          rw [List.getElem?_eq_getElem hil] at hs1
          rw [Option.some.inj hs1, hrow]
          exact beq_self_eq_true _
        · rw [List.getElem_map]
          have := hno j _ hj (List.getElem?_eq_getElem (by omega))
          simpa using this
      rw [hf] at k
      exact k.go ((e02.trans e3).trans e4)
    · rw [iz_dec] at hb
      have hrow : row ≠ codesOf s1 := of_decide_eq_false hb
      refine ⟨e02.trans e3, fun j s hj hs => ?_, _, _, rfl⟩
      by_cases c : j = i
      · subst c
        rw [hs1] at hs
        rw [← Option.some.inj hs]
        exact hrow
      · exact hno j s (by omega) hs
  · obtain ⟨e1, hno, x1, y1, hσ⟩ := pv
    subst hσ
    refine s_ret ev_c fun H2 e2 => ?_
    have hf : Sk.numberIn (ws.map codesOf) row = none := by
      unfold Sk.numberIn
      refine List.findIdx?_eq_none_iff.mpr fun x hx => ?_
      obtain ⟨s, hs, rfl⟩ := List.mem_map.mp hx
      obtain ⟨j, hj⟩ := List.getElem?_of_mem hs
      have := hno j s (by rw [List.length_map]; exact (List.getElem?_eq_some_iff.mp hj).1) hj
      simpa using this
    rw [hf] at k
    exact k.go (e1.trans e2)
theorem sv_number {H : Hp} {p r : Addr} {ws : List Str} {row : Kg56.Text} (hp : SqL K H p (ws.map V.str) ∨ SqT K H p (ws.map V.str)) (hr : SqL K H r (tv row)) (hws : ∀ s ∈ ws, s.cps.size ≤ 1000) :
    SpV (sp_number_in K) [.ref p, .ref r] H (optV (Sk.numberIn (ws.map codesOf) row)) := fun H1 e Q q E => ⟨p, r, ws, row, rfl, hp.imp (ex_l e) (ex_t e), ex_l e hr, hws, q⟩
end
end SkW

set_option Elab.async false
set_option linter.all false
set_option maxRecDepth 100000
set_option maxHeartbeats 4000000
namespace SkW
open PySem PySem.Spec PyProof.Rows L2 Evl
section
variable {P : Program} {w : World} {K : PySem.W.Frag} {mg : Str → Option Value} {base : Heap} {a : Ad}
theorem paired_snoc {α β : Type} {R : α → β → Prop} : ∀ {xs : List α} {ys : List β} {x : α} {y : β}, Paired R xs ys → R x y → Paired R (xs ++ [x]) (ys ++ [y])
  | _, _, _, _, .nil, h => .cons h .nil
  | _, _, _, _, .cons q t, h => .cons q (paired_snoc t h)
theorem paired_last {α β : Type} {R : α → β → Prop} : ∀ {xs : List α} {init : List β} {y : β}, Paired R xs (init ++ [y]) → ∃ xi x, xs = xi ++ [x] ∧ Paired R xi init ∧ R x y
  | _, [], y, .cons q .nil => ⟨[], _, rfl, .nil, q⟩
  | _, i :: init, y, .cons q t => by
    obtain ⟨xi, x, e, h1, h2⟩ := paired_last t
    exact ⟨_ :: xi, x, by rw [e]; rfl, .cons q h1, h2⟩
theorem paired_mem {α β : Type} {R S : α → β → Prop} : ∀ {xs : List α} {ys : List β}, Paired R xs ys → (∀ x y, x ∈ xs → y ∈ ys → R x y → S x y) → Paired S xs ys
  | _, _, .nil, _ => .nil
  | _, _, .cons q t, f => .cons (f _ _ List.mem_cons_self List.mem_cons_self q) (paired_mem t fun x y hx hy => f x y (List.mem_cons_of_mem _ hx) (List.mem_cons_of_mem _ hy))
theorem paired_left {α β : Type} {R : α → β → Prop} {x : α} : ∀ {xs : List α} {ys : List β}, Paired R xs ys → x ∈ xs → ∃ y, R x y
  | _, _, .nil, h => by cases h
  | _, _, .cons q t, h => by
    rcases List.mem_cons.mp h with e | e
    · exact ⟨_, e ▸ q⟩
    · exact paired_left t e
def PieceAt (H : Hp) (q : Addr) (t : Kg56.Text) : Prop := H q = some (.lst (tv t))
def sp_split (K : PySem.W.Frag) : Sp := fun vs H Q _ => ∃ (r : Addr) (t : Kg56.Text), vs = [.ref r] ∧ SqL K H r (tv t) ∧ t.length ≤ 1000 ∧
  ∀ p qs H2, Ex H H2 → H p = none → H2 p = some (.lst (qs.map V.ref)) → Paired (PieceAt H2) qs (Sk.splitPlus t) → Q (.ref p) H2
structure SplitInv (H : Hp) (p : Addr) (t : Kg56.Text) (H' : Hp) : Prop where
  ex : Ex H H'
  np : H p = none
  qs : ∃ qs : List Addr, H' p = some (.lst (qs.map V.ref)) ∧ Paired (fun q t => PieceAt H' q t ∧ H q = none ∧ q ≠ p) qs (Sk.splitPlus t) ∧ qs.Nodup
theorem ok_split_by_plus (T : Txt K mg a) : FnOk P w K mg base CX0 1 a.f_split_by_plus a.d_split_by_plus ["row"] (sp_split K) := by
  refine T.F_split_by_plus.ok sc_split_by_plus (fun vs H Q E h => ?_) (fun cdv A outer s H vs Q E hr h => ?_)
  · obtain ⟨_, _, rfl, _⟩ := h
    rfl
  refine ⟨_, (pss_cons (ps_set (i := 1) sc_split_by_plus.nd rfl (Or.inl rfl) (pe_lst (pa_cons (pe_lst pa_nil) pa_nil)))
    (pss_cons (ps_for PassesOwn.never rfl (pi_list (pv 0)) (pg_name (i := 2) sc_split_by_plus.nd rfl (Or.inl rfl))
      (pss_one (ps_if (pt_cmpR op_eq (pv 2) (pe_gint rfl T.i_PLUS) (nomark _)) (pss_one (ps_expr (pe_bm PySem.F.plainAttrs_list PySem.F.slot_list_append PySem.F.type_list_append mt_append (pv 1) (by exact (pa_cons (pe_lst pa_nil) pa_nil))))) (pss_one (ps_expr (pe_bm PySem.F.plainAttrs_list PySem.F.slot_list_append PySem.F.type_list_append mt_append (pe_ix ix_list (pv 1) (pe_un un_neg pe_int) (fun _ _ => rfl)) (by exact (pa_cons (pv 2) pa_nil))))))))
    (pss_one (ps_ret (pv 1))))), ?_⟩

  obtain ⟨r, t, rfl, hr2, ht, k⟩ := h
  refine ⟨Nat.zero_le _, fun q hq => ⟨(by decide : 1 ≤ sizeLine), fun p hp => ?_⟩⟩
  have hpH : H p = none := fresh_back (Ex.new hq) hp
  have hqp : q ≠ p := fun z => by rw [z, upd_same] at hp; cases hp
  have e1 : Ex H (upd (upd H q (.lst [])) p (.lst [.ref q])) := (Ex.new hq).trans (Ex.new hp)
  refine q_forLn (σ := [some (.ref r), some (.ref p), none]) (H := upd (upd H q (.lst [])) p (.lst [.ref q])) (ev_var rfl) (ex_l e1 hr2) (fun i σ' H' => SplitInv H p (t.take i) H' ∧ ∃ y, σ' = [some (.ref r), some (.ref p), y]) (fun H1 e2 => ?_) (fun i σ' H' _ pv => ex_l pv.1.ex hr2) (fun i x σ' H' hi pv => ?_) (fun σ' H' pv => ?_)
  · refine ⟨⟨e1.trans e2, hpH, [q], e2 _ _ upd_same, .cons ⟨e2 _ _ ?_, hq, hqp⟩ .nil, List.nodup_cons.mpr ⟨by simp, List.nodup_nil⟩⟩, none, rfl⟩
    rw [upd_ne hqp, upd_same]; rfl
  · obtain ⟨⟨ex, np, qs, hp1, hq1, nd⟩, y, hσ⟩ := pv
    subst hσ
    rw [tv_get] at hi
    obtain ⟨b, hb, rfl⟩ : ∃ b, t[i]? = some b ∧ x = V.int ((b : Nat) : Int) := by
      cases e : t[i]? with
      | none => rw [e] at hi; cases hi
      | some b => rw [e] at hi; exact ⟨b, rfl, (Option.some.inj hi).symm⟩
    have hib := (List.getElem?_eq_some_iff.mp hb).1
    have et : t.take (i + 1) = t.take i ++ [b] := by rw [List.take_add_one, hb]; rfl
    obtain ⟨init, last, h1, h2⟩ := Sk.split_snoc b (t.take i)
    rw [h1] at hq1
    obtain ⟨xi, ql, rfl, hpi, hpl, hnl, hnp⟩ := paired_last hq1
    obtain ⟨z1, z2⟩ := Sk.split_sizes (t.take i)
    have htl : (t.take i).length ≤ 1000 := by rw [List.length_take]; omega
    have hlen : (init ++ [last]).length ≤ 1001 := by rw [← h1]; omega
    have hll : last.length ≤ 1000 := by have := z2 last (by rw [h1]; simp); omega
    have hxl : (xi ++ [ql]).length ≤ 1001 := by
      have : xi.length = init.length := Paired.length hpi
      rw [List.length_append] at hlen ⊢
      rw [this]; exact hlen
    refine s_if (et_test (ev_op (ev_var rfl) ev_c (rv_eq rfl))) (fun hb1 H2 e2 => ?_) (fun hb1 H2 e2 => ?_)
    · have c : b = 43 := by
        have := of_decide_eq_true hb1
        exact Int.ofNat.inj (V.int.inj this)
      rw [if_pos c] at h2
      refine s_appL (xs := (xi ++ [ql]).map V.ref) (e2 _ _ hp1) (ev_var rfl) (el_lst ea_nil (Nat.zero_le _)) (by rw [List.length_map]; omega) fun qn H3 hqn e3 h3 => ⟨⟨((ex.trans e2).trans e3).mut np, np, xi ++ [ql] ++ [qn], ?_, ?_, ?_⟩, _, rfl⟩
      · rw [upd_same]; simp
      · rw [et, h2]
        have hqp2 : qn ≠ p := fun z => by rw [z, e2 _ _ hp1] at hqn; cases hqn
        refine paired_snoc (Paired.mapP (paired_snoc hpi ⟨hpl, hnl, hnp⟩) fun q' t' k' => ⟨?_, k'.2⟩) ⟨?_, fresh_back (ex.trans e2) hqn, hqp2⟩
        · show upd H3 p _ q' = _
          rw [upd_ne k'.2.2]
          exact e3 _ _ (e2 _ _ k'.1)
        · show upd H3 p _ qn = _
          rw [upd_ne hqp2, h3]; rfl
      · refine List.nodup_append.mpr ⟨nd, List.nodup_cons.mpr ⟨by simp, List.nodup_nil⟩, fun a' ha b' hb' => ?_⟩
        rw [List.mem_singleton] at hb'
        subst hb'
        intro z
        subst z
        obtain ⟨y', hy⟩ := paired_left (paired_snoc hpi (⟨hpl, hnl, hnp⟩ : PieceAt H' ql last ∧ H ql = none ∧ ql ≠ p)) ha
        have h5 : H2 a' = _ := e2 _ _ hy.1
        rw [h5] at hqn; cases hqn
    · have c : b ≠ 43 := fun z => by subst z; exact absurd hb1 (by decide)
      rw [if_neg c] at h2
      refine s_app (l := ql) (xs := tv last) (e2 _ _ hpl) (ev_op (ev_var rfl) (ev_un ev_c ru_neg) (rv_ixL (sq_of (e2 _ _ hp1)) (by rw [List.map_append]; exact atI_last _ _))) (ev_var rfl) (by rw [tv_len]; omega) fun H3 e3 => ⟨⟨((ex.trans e2).trans e3).mut hnl, np, xi ++ [ql], ?_, ?_, nd⟩, _, rfl⟩
      · rw [upd_ne (Ne.symm hnp)]
        exact e3 _ _ (e2 _ _ hp1)
      · rw [et, h2]
        refine paired_snoc (paired_mem hpi fun q' t' hq' _ k' => ⟨?_, k'.2⟩) ⟨?_, hnl, hnp⟩
        · show upd H3 ql _ q' = _
          rw [upd_ne (fun z => by
            subst z
            exact (List.nodup_append.mp nd).2.2 q' hq' q' (List.mem_singleton.mpr rfl) rfl)]
          exact e3 _ _ (e2 _ _ k'.1)
        · show upd H3 ql _ ql = _
          rw [upd_same]
          unfold tv iz
          simp
  · obtain ⟨⟨ex, np, qs, hp1, hq1, nd⟩, y, hσ⟩ := pv
    subst hσ
    rw [tv_len, List.take_length] at hq1
    exact s_ret (ev_var rfl) fun H2 e2 => k p qs H2 (ex.trans e2) np (e2 _ _ hp1) (Paired.mapP hq1 fun _ _ k' => e2 _ _ k'.1)
end
end SkW

set_option Elab.async false
set_option linter.all false
set_option maxRecDepth 100000
set_option maxHeartbeats 4000000
namespace SkW
open PySem PySem.Spec PyProof.Rows L2 Evl
section
variable {K : PySem.W.Frag} {σ : L2.St} {H H' : Hp} {ta tb tc te tx : TE} {x y z v : V} {r r' : R2}
theorem rc_lenS {s : Str} (h : s.length ≤ 100000) : RC (fun xs H Q => ∃ z : Str, xs = [.str z] ∧ z.length ≤ sizeLine ∧ Q (.int z.length) H) [.str s] H (.int s.length) := fun H1 _ _ q => ⟨s, rfl, sz_of h, q H1 (Ex.refl H1)⟩
theorem rv_isN : RV (fun x y H Q => y = .non ∧ Q (.bl (decide (x = .non))) H) x .non H (.bl (decide (x = .non))) := fun H1 _ _ q => ⟨rfl, q H1 (Ex.refl H1)⟩
theorem rv_notN : RV (fun x y H Q => y = .non ∧ Q (.bl (!decide (x = .non))) H) x .non H (.bl (!decide (x = .non))) := fun H1 _ _ q => ⟨rfl, q H1 (Ex.refl H1)⟩
theorem opt_non (o : Option Nat) : decide (optV o = .non) = o.isNone := by cases o <;> rfl
/-- a promise over a new list -/
theorem ev_callN {sp : Sp} {E : XK} {xs : List V} (hb : EvL te σ H xs) (hs : ∀ p H1, Ex H H1 → H1 p = some (.lst xs) → SpV sp [.ref p] H1 z) : Ev (tCall sp [] E (tCons te tNil)) σ H z := fun H1 e Q q =>
  hb H1 e _ fun p H2 _ e2 h2 => hs p H2 (e.trans e2) h2 H2 (Ex.refl H2) Q (fun H3 e3 => q H3 (e2.trans e3)) E
theorem ev_callN2 {sp : Sp} {E : XK} {xs : List V} (ha : Ev ta σ H v) (hb : EvL te σ H xs) (hs : ∀ p H1, Ex H H1 → H1 p = some (.lst xs) → SpV sp [v, .ref p] H1 z) : Ev (tCall sp [] E (tCons ta (tCons te tNil))) σ H z := fun H1 e Q q =>
  ha H1 e _ fun H2 e2 => hb H2 (e.trans e2) _ fun p H3 _ e3 h3 => hs p H3 ((e.trans e2).trans e3) h3 H3 (Ex.refl H3) Q (fun H4 e4 => q H4 ((e2.trans e3).trans e4)) E
theorem ev_chain {a b : Bool} (ha : Ev ta σ H x) (hb : Ev tb σ H y) (h1 : RV r x y H (.bl a)) (hc : a = true → Ev tc σ H z) (h2 : a = true → RV r' y z H (.bl b)) : Ev (tChain r r' ta tb tc) σ H (.bl (a && b)) := fun H1 e Q q =>
  ha H1 e _ fun H2 e2 => hb H2 (e.trans e2) _ fun H3 e3 => h1 H3 ((e.trans e2).trans e3) _ fun H4 e4 => ⟨a, rfl, by
    have e14 := (e2.trans e3).trans e4
    cases a with
    | false => exact q H4 e14
    | true => exact hc rfl H4 (e.trans e14) _ fun H5 e5 => h2 rfl H5 ((e.trans e14).trans e5) _ fun H6 e6 => q H6 ((e14.trans e5).trans e6)⟩
end
/-! ### the written words -/
def KW : List Str := ["T", "S", "Lo", "F", "Lz", "A"]
def EW : List Str := ["", "e", "!"]
def MW : List Str := ["", "q", "<", "<<"]
def PW : List Str := ["U", "L", "C", "S", "Co"]
def LW : List Str := ["B", "1", "2", "3", "4"]
theorem kw_is : KW.map codesOf = Kg56.KINDS := by decide
theorem ew_is : EW.map codesOf = Sk.EDGES := by decide
theorem mw_is : MW.map codesOf = Sk.MISS := by decide
theorem pw_is : PW.map codesOf = Sk.PARTS := by decide
theorem lw_is : LW.map codesOf = Sk.LEVELS := by decide
theorem sz_kw : ∀ s ∈ KW, s.cps.size ≤ 1000 := by decide
theorem sz_ew : ∀ s ∈ EW, s.cps.size ≤ 1000 := by decide
theorem sz_mw : ∀ s ∈ MW, s.cps.size ≤ 1000 := by decide
theorem sz_pw : ∀ s ∈ PW, s.cps.size ≤ 1000 := by decide
theorem sz_lw : ∀ s ∈ LW, s.cps.size ≤ 1000 := by decide
section
variable {P : Program} {w : World} {K : PySem.W.Frag} {mg : Str → Option Value} {base : Heap} {a : Ad}
theorem sv_numW {H : Hp} {p r : Addr} {ws : List Str} {ts : List Kg56.Text} {row : Kg56.Text} (hp : SqL K H p (ws.map V.str) ∨ SqT K H p (ws.map V.str)) (hr : SqL K H r (tv row)) (hws : ∀ s ∈ ws, s.cps.size ≤ 1000) (e : ws.map codesOf = ts) :
    SpV (sp_number_in K) [.ref p, .ref r] H (optV (Sk.numberIn ts row)) := e ▸ sv_number hp hr hws
def sp_kind (K : PySem.W.Frag) : Sp := fun vs H Q _ => ∃ (r : Addr) (row : Kg56.Text), vs = [.ref r] ∧ SqL K H r (tv row) ∧ RetV (optV (Sk.kindFirst row)) H Q
theorem ok_kind_at_first (T : Txt K mg a) : FnOk P w K mg base CX0 2 a.f_kind_at_first a.d_kind_at_first ["row"] (sp_kind K) := by
  refine T.F_kind_at_first.ok sc_kind_at_first (fun vs H Q E h => ?_) (fun cdv A outer s H vs Q E hr h => ?_)
  · obtain ⟨_, _, rfl, _⟩ := h
    rfl
  refine ⟨_, (pss_cons (ps_for PassesOwn.never rfl (pi_enumS rfl T.n_enumerate (by exact (pa_cons (pe_gref rfl T.t_KINDS) pa_nil))) (pg_tup (n := 2) rfl (pgs_cons (pg_name (i := 1) sc_kind_at_first.nd rfl (Or.inl rfl)) (pgs_cons (pg_name (i := 2) sc_kind_at_first.nd rfl (Or.inl rfl)) pgs_nil)))
      (pss_one (ps_if (pt_cmpR (op_eqD hr.units) (pe_slice sl_list (pv 0) po_none (po_some (pe_callB call_len_str rfl T.n_len (by decide +kernel) (by exact (pa_cons (pv 2) pa_nil))))) (pe_call (ok_codes T) (hr.mono (by decide)) rfl T.g_codes T.k_codes T.b_codes .nil pass0 (by exact (pa_cons (pv 2) pa_nil))) (nomark _)) (pss_one (ps_ret (pv 1))) pss_nil)))
    (pss_one (ps_ret pe_non))), ?_⟩

  obtain ⟨r, row, rfl, hr2, k⟩ := h
  refine q_forEnumS (p := a.t_KINDS) (xs := KW.map V.str) (ea_cons ev_c ea_nil) (.inr (T.T_KINDS.t H)) (fun i σ' H' => Ex H H' ∧ (∀ j s, j < i → KW[j]? = some s → row.take (codesOf s).length ≠ codesOf s) ∧ ∃ x y, σ' = [some (.ref r), x, y]) (fun H1 e1 => ⟨e1, fun j s hj => by omega, none, none, rfl⟩) (fun i σ' H' pv => pv.1) (fun i x σ' H' H2 hi pv e2 => ?_) (fun σ' H' pv => ?_)
  · obtain ⟨e1, hno, x1, y1, hσ⟩ := pv
    subst hσ
    obtain ⟨s1, hs1, rfl⟩ := at_map hi
    have hsz := sz_kw s1 (List.mem_of_getElem? hs1)
    have e02 := e1.trans e2
    have hsl : s1.length = (codesOf s1).length := by unfold codesOf; exact (Array.length_toList).symm
    refine s_when (et_test (ev_eqNew2 (ns := iz (row.take (codesOf s1).length)) (ms := iz (codesOf s1)) (el_is (el_sl (lo := none) (hi := some ((s1.length : Nat) : Int)) (ev_var rfl) eo_none (eo_some (ev_cb (ea_cons (ev_var rfl) ea_nil) (rc_lenS (by show s1.cps.size ≤ _; omega)))) (ex_l e02 hr2)) (by rw [cut_to, hsl]; rfl)) (el_codes (ev_var rfl) hsz))) (fun hb H3 e3 => ?_) (fun hb H3 e3 => ?_)
    · rw [iz_dec] at hb
      have hrow := of_decide_eq_true hb
      refine s_ret (ev_var rfl) fun H4 e4 => ?_
      have hf : Sk.kindFirst row = some i := by
        unfold Sk.kindFirst
        rw [← kw_is]
        have hil : i < KW.length := (List.getElem?_eq_some_iff.mp hs1).1
        refine List.findIdx?_eq_some_iff_getElem.mpr ⟨by rw [List.length_map]; exact hil, ?_, fun j hj => ?_⟩
        · rw [List.getElem_map]
          rw [List.getElem?_eq_getElem hil] at hs1
          rw [Option.some.inj hs1, hrow]
          exact beq_self_eq_true _
        · rw [List.getElem_map]
          have := hno j _ hj (List.getElem?_eq_getElem (by omega))
          simpa using this
      rw [hf] at k
      exact k.go ((e02.trans e3).trans e4)
    · rw [iz_dec] at hb
      have hrow := of_decide_eq_false hb
      refine ⟨e02.trans e3, fun j s hj hs => ?_, _, _, rfl⟩
      by_cases c : j = i
      · subst c
        rw [hs1] at hs
        rw [← Option.some.inj hs]
        exact hrow
      · exact hno j s (by omega) hs
  · obtain ⟨e1, hno, x1, y1, hσ⟩ := pv
    subst hσ
    refine s_ret ev_c fun H2 e2 => ?_
    have hf : Sk.kindFirst row = none := by
      unfold Sk.kindFirst
      rw [← kw_is]
      refine List.findIdx?_eq_none_iff.mpr fun x hx => ?_
      obtain ⟨s, hs, rfl⟩ := List.mem_map.mp hx
      obtain ⟨j, hj⟩ := List.getElem?_of_mem hs
      have := hno j s (by rw [List.length_map]; exact (List.getElem?_eq_some_iff.mp hj).1) hj
      simpa using this
    rw [hf] at k
    exact k.go (e1.trans e2)
theorem sv_kind {H : Hp} {r : Addr} {row : Kg56.Text} (hr : SqL K H r (tv row)) : SpV (sp_kind K) [.ref r] H (optV (Sk.kindFirst row)) := fun H1 e Q q E => ⟨r, row, rfl, ex_l e hr, q⟩
def sp_edge (K : PySem.W.Frag) : Sp := fun vs H Q _ => ∃ (n : Nat) (r : Addr) (row : Kg56.Text), vs = [.int n, .ref r] ∧ SqL K H r (tv row) ∧ RetV (.int (Sk.edgeFirst n row : Nat)) H Q
theorem shaped_two (xs ys : List Int) : SeqAt.shaped (.tuple [.list (xs.map PyData.int), .list (ys.map PyData.int)]) = true := by
  show (PyData.canLay0 _ && decide (PyData.depth _ ≤ 64)) = true
  have e1 : PyData.canLay0 (.tuple [.list (xs.map PyData.int), .list (ys.map PyData.int)]) = true := by simp only [PyData.canLay0, PyData.canLayAll0, lay_nums]; rfl
  have e2 : PyData.depth (.tuple [.list (xs.map PyData.int), .list (ys.map PyData.int)]) ≤ 64 := by simp only [PyData.depth, PyData.depthAll, depth_nums]; omega
  rw [e1, decide_eq_true e2]
  rfl
/-- a new list in a tuple of two new lists -/
theorem et_inTwo {σ : L2.St} {H : Hp} {t1 t2 t3 : TE} {xs ys zs : List Int} (h1 : EvL t1 σ H (xs.map V.int)) (h2 : EvL t2 σ H (ys.map V.int)) (h3 : EvL t3 σ H (zs.map V.int)) :
    EvT (tTest (tOp (rInT K) t1 (tTup (tCons t2 (tCons t3 tNil))))) σ H (decide (ys = xs) || decide (zs = xs)) := fun H1 e Q q =>
  h1 H1 e _ fun p H2 _ e2 k2 => h2 H2 (e.trans e2) _ fun p2 H3 _ e3 k3 => h3 H3 ((e.trans e2).trans e3) _ fun p3 H4 _ e4 k4 => ⟨Nat.le_of_ble_eq_true rfl, fun t ht => by
    have et : Ex H4 (upd H4 t (.tup [.ref p2, .ref p3])) := Ex.new ht
    refine ⟨_, [.list (ys.map PyData.int), .list (zs.map PyData.int)], dp_nums (sq_of ((e3.trans (e4.trans et)) _ _ k2)), .tup (st_of upd_same) (.cons (dp_nums (sq_of ((e4.trans et) _ _ k3))) (.cons (dp_nums (sq_of (et _ _ k4))) .nil)), shaped_nums xs, shaped_two ys zs, ?_⟩
    have : ([PyData.list (ys.map PyData.int), PyData.list (zs.map PyData.int)].any fun z => PyData.eqv z (.list (xs.map PyData.int))) = (decide (ys = xs) || decide (zs = xs)) := by
      simp only [List.any_cons, List.any_nil, eqv_lists, Bool.or_false]
    exact ⟨_, by rw [this], q _ (((e2.trans e3).trans e4).trans et)⟩⟩
theorem ok_edge_at_first (T : Txt K mg a) : FnOk P w K mg base CX0 4 a.f_edge_at_first a.d_edge_at_first ["kind", "row"] (sp_edge K) := by
  refine T.F_edge_at_first.ok sc_edge_at_first (fun vs H Q E h => ?_) (fun cdv A outer s H vs Q E hr h => ?_)
  · obtain ⟨_, _, _, rfl, _⟩ := h
    rfl
  refine ⟨_, (pss_cons (ps_if (PW.pt (pw_and (pt_cmpR op_in_seq (pv 0) (pe_gref rfl T.t_EDGED) rfl) (pw_and1 (pt_cmpR (op_inT hr) (pe_slice sl_list (pv 1) po_none (po_some pe_int)) (pe_tup (pa_cons (pe_call (ok_codes T) (hr.mono (by decide)) rfl T.g_codes T.k_codes T.b_codes .nil pass0 (by exact (pa_cons (pe_ix ix_tup (pe_gref rfl T.t_EDGES) pe_int (fun _ _ => rfl)) pa_nil))) (pa_cons (pe_call (ok_codes T) (hr.mono (by decide)) rfl T.g_codes T.k_codes T.b_codes .nil pass0 (by exact (pa_cons (pe_ix ix_tup (pe_gref rfl T.t_EDGES) pe_int (fun _ _ => rfl)) pa_nil))) pa_nil))) rfl)))) (pss_one (ps_ret (pe_call (ok_number_in T) (hr.mono (by decide)) rfl T.g_number_in T.k_number_in T.b_number_in .nil pass0 (by exact (pa_cons (pe_gref rfl T.t_EDGES) (pa_cons (pe_slice sl_list (pv 1) po_none (po_some pe_int)) pa_nil)))))) pss_nil)
    (pss_one (ps_ret pe_int))), ?_⟩

  obtain ⟨n, r, row, rfl, hr2, k⟩ := h
  have cut1 : cutV (tv row) none (some 1) = (iz (row.take 1)).map V.int := cut_to row 1
  refine q_when (b := decide (n = 3 ∨ n = 4) && (decide (iz (codesOf "e") = iz (row.take 1)) || decide (iz (codesOf "!") = iz (row.take 1)))) (et_and (et_is (et_test (ev_op (ev_var rfl) ev_c (rv_isT (T.T_EDGED.t H) rfl rfl))) ?_) fun _ => et_inTwo (el_is (el_sl (ev_var rfl) eo_none (eo_some ev_c) hr2) cut1)
    (el_codes (s := "e") (ev_op ev_c ev_c (rv_ixT (T.T_EDGES.t H) rfl)) (by decide)) (el_codes (s := "!") (ev_op ev_c ev_c (rv_ixT (T.T_EDGES.t H) rfl)) (by decide))) (fun hb H1 e1 => ?_) (fun hb H1 e1 => ?_)
  · show (decide ((3 : Int) = (n : Int)) || (decide ((4 : Int) = (n : Int)) || false)) = _
    rw [Bool.or_false, ← Bool.decide_or]
    exact decide_eq_decide.mpr (by omega)
  · rw [iz_dec, iz_dec, ← Bool.decide_or, ← Bool.decide_and] at hb
    have c := of_decide_eq_true hb
    have c' : (n = 3 ∨ n = 4) ∧ (row.take 1 = [101] ∨ row.take 1 = [33]) := ⟨c.1, c.2.imp (fun e => e.symm.trans (by decide)) fun e => e.symm.trans (by decide)⟩
    refine s_ret (v := .int (Sk.edgeFirst n row : Nat)) (ev_is (ev_callN2 ev_c (el_is (el_sl (ev_var rfl) eo_none (eo_some ev_c) (ex_l e1 hr2)) cut1) fun p H2 e2 h2 => sv_numW (ws := EW) (.inr (T.T_EDGES.t H2)) (sq_of h2) sz_ew ew_is) ?_) fun H2 e2 => k.go (e1.trans e2)
    unfold Sk.edgeFirst
    rw [if_pos c']
    rcases c'.2 with e | e <;> rw [e] <;> rfl
  · rw [iz_dec, iz_dec, ← Bool.decide_or, ← Bool.decide_and] at hb
    have c := of_decide_eq_false hb
    have c' : ¬ ((n = 3 ∨ n = 4) ∧ (row.take 1 = [101] ∨ row.take 1 = [33])) := fun z => c ⟨z.1, z.2.imp (fun e => Eq.trans (by decide) e.symm) fun e => Eq.trans (by decide) e.symm⟩
    unfold Sk.edgeFirst at k
    rw [if_neg c'] at k
    exact s_ret ev_c fun H2 e2 => k.go (e1.trans e2)
theorem sv_edge {H : Hp} {n : Nat} {r : Addr} {row : Kg56.Text} (hr : SqL K H r (tv row)) : SpV (sp_edge K) [.int n, .ref r] H (.int (Sk.edgeFirst n row : Nat)) := fun H1 e Q q E => ⟨n, r, row, rfl, ex_l e hr, q⟩
end
end SkW

set_option Elab.async false
set_option linter.all false
set_option maxRecDepth 100000
set_option maxHeartbeats 4000000
namespace SkW
open PySem PySem.Spec PyProof.Rows L2 Evl
section
variable {P : Program} {w : World} {K : PySem.W.Frag} {mg : Str → Option Value} {base : Heap} {a : Ad}
/-- what's read: a jump's object, or None -/
def JumpV (a : Ad) (H : Hp) (v : V) (o : Option Kg56.Jump) : Prop := match o with
  | some j => ∃ x, v = .ref x ∧ JumpAt a H x j
  | none => v = .non
theorem JumpV.ex {H H' : Hp} {v : V} {o : Option Kg56.Jump} (h : JumpV a H v o) (e : Ex H H') : JumpV a H' v o := by
  cases o with
  | none => exact h
  | some j => obtain ⟨x, h1, h2⟩ := h; exact ⟨x, h1, h2.ex e⟩
def ElemV (a : Ad) (H : Hp) (v : V) (o : Option Kg56.Element) : Prop := match o with
  | some j => ∃ x, v = .ref x ∧ ElemAt a H x j
  | none => v = .non
theorem ElemV.ex {H H' : Hp} {v : V} {o : Option Kg56.Element} (h : ElemV a H v o) (e : Ex H H') : ElemV a H' v o := by
  cases o with
  | none => exact h
  | some j => obtain ⟨x, h1, h2⟩ := h; exact ⟨x, h1, h2.ex e⟩
theorem make_jump {σ : L2.St} {H : Hp} {ta : TA} {E : XK} {Q : VK} {j : Kg56.Jump} (h : EvA ta σ H [.int j.kind, .int j.turns, .int j.edge, .int j.less]) (hw : Sk.JWf j) (k : ∀ x H1, Ex H H1 → JumpAt a (nw H H1) x j → Q (.ref x) H1) : tMake a.c_Jump (sp_Jump_init a) [] E ta σ H Q :=
  h H (Ex.refl H) _ fun H1 e1 => fun x dx nx nd ne => ⟨x, dx, _, _, _, _, rfl, upd_same, fun H2 h2 k2 => ⟨rfl, k x H2 (e1.trans (But.made nx nd k2)) ⟨hw, dx, by rw [nw_of (fresh_back e1 nx)]; exact h2⟩⟩⟩
theorem make_elem {σ : L2.St} {H : Hp} {t1 t3 t4 : TE} {E : XK} {Q : VK} {j : Kg56.Element} (h1 : Ev t1 σ H (.int (Sk.sortOf j : Nat))) (h3 : Ev t3 σ H (.int (Sk.nameIn j : Nat))) (h4 : Ev t4 σ H (.int (Sk.levelIn j : Nat))) (hw : Sk.EWf j) (hj : Sk.jumpsIn j = [])
    (k : ∀ x H1, Ex H H1 → ElemAt a (nw H H1) x j → Q (.ref x) H1) : tMake a.c_Element (sp_Element_init a) [] E (tCons t1 (tCons (tLst tNil) (tCons t3 (tCons t4 tNil)))) σ H Q :=
  h1 H (Ex.refl H) _ fun H1 e1 => ⟨Nat.zero_le _, fun q hq => by
    have eq1 : Ex H1 (upd H1 q (.lst [])) := Ex.new hq
    refine h3 _ (e1.trans eq1) _ fun H2 e2 => h4 _ ((e1.trans eq1).trans e2) _ fun H3 e3 => fun x dx nx nd ne => ⟨x, dx, _, _, _, _, rfl, upd_same, fun H4 g4 k4 => ⟨rfl, ?_⟩⟩
    have e13 : Ex H H3 := ((e1.trans eq1).trans e2).trans e3
    obtain ⟨e5, r5⟩ := elem_made (e := j) nx nd hw g4 k4 e13 (show JumpsAt a (nw H H3) q (Sk.jumpsIn j) by
      rw [hj]
      refine ⟨[], ?_, .nil⟩
      rw [nw_of (fresh_back e1 hq)]
      exact (e2.trans e3) _ _ upd_same)
    exact k x H4 (e13.trans e5) r5⟩
def sp_jump (a : Ad) (K : PySem.W.Frag) : Sp := fun vs H Q _ => ∃ (r : Addr) (row : Kg56.Text), vs = [.ref r] ∧ SqL K H r (tv row) ∧ ∀ v H1, Ex H H1 → JumpV a (nw H H1) v (Sk.jumpOf row) → Q v H1
theorem eu_is : codesOf "Eu" = [69, 117] := by decide
theorem kw_at : ∀ n, n < 6 → ∃ s, KW[n]? = some s ∧ (KW.map V.str)[n]? = some (.str s) ∧ s.length ≤ 100000 ∧ s.length = (Kg56.KINDS.getD n []).length := by
  intro n hn
  rcases (show n = 0 ∨ n = 1 ∨ n = 2 ∨ n = 3 ∨ n = 4 ∨ n = 5 by omega) with rfl | rfl | rfl | rfl | rfl | rfl <;> exact ⟨_, rfl, rfl, by decide, by decide⟩
theorem ok_jump_of (T : Txt K mg a) : FnOk P w K mg base CX0 5 a.f_jump_of a.d_jump_of ["row"] (sp_jump a K) := by
  refine T.F_jump_of.ok sc_jump_of (fun vs H Q E h => ?_) (fun cdv A outer s H vs Q E hr h => ?_)
  · obtain ⟨_, _, rfl, _⟩ := h
    rfl
  refine ⟨_, (pss_cons (ps_if (pt_cmpR (op_eqD hr.units) (pv 0) (pe_call (ok_codes T) (hr.mono (by decide)) rfl T.g_codes T.k_codes T.b_codes .nil pass0 (by exact (pa_cons pe_str pa_nil))) (nomark _)) (pss_one (ps_ret (pe_make T.mk_Jump (ok_Jump___init__ T) (hr.mono (by decide)) rfl T.gC_Jump T.b_Jump___init__ .nil pass0 (by exact (pa_cons (pe_gint rfl T.i_SMALL) (pa_cons pe_int (pa_cons pe_int (pa_cons pe_int pa_nil)))))))) pss_nil)
    (pss_cons (ps_if (PW.pt (pw_or (pt_cmpR (op_eqD hr.units) (pv 0) (pe_lst pa_nil) (nomark _)) (pw_or1 (pt_not (pt_chain op_lt op_le (pe_gint rfl T.i_NOUGHT) (pe_ix ix_list (pv 0) pe_int (fun _ _ => rfl)) (pe_op op_add (pe_gint rfl T.i_NOUGHT) pe_int)))))) (pss_one (ps_ret pe_non)) pss_nil)
    (pss_cons (ps_set (i := 1) sc_jump_of.nd rfl (Or.inl rfl) (pe_call (ok_kind_at_first T) (hr.mono (by decide)) rfl T.g_kind_at_first T.k_kind_at_first T.b_kind_at_first .nil pass0 (by exact (pa_cons (pe_slice sl_list (pv 0) (po_some pe_int) po_none) pa_nil))))
    (pss_cons (ps_if (pt_cmpR op_isN (pv 1) pe_non (nomark _)) (pss_one (ps_ret pe_non)) pss_nil)
    (pss_cons (ps_set (i := 2) sc_jump_of.nd rfl (Or.inl rfl) (pe_slice sl_list (pv 0) (po_some (pe_op op_add pe_int (pe_callB call_len_str rfl T.n_len (by decide +kernel) (by exact (pa_cons (pe_ix ix_tup (pe_gref rfl T.t_KINDS) (pv 1) (fun _ _ => rfl)) pa_nil))))) po_none))
    (pss_cons (ps_set (i := 3) sc_jump_of.nd rfl (Or.inl rfl) (pe_call (ok_edge_at_first T) (hr.mono (by decide)) rfl T.g_edge_at_first T.k_edge_at_first T.b_edge_at_first .nil pass0 (by exact (pa_cons (pv 1) (pa_cons (pv 2) pa_nil)))))
    (pss_cons (ps_set (i := 4) sc_jump_of.nd rfl (Or.inl rfl) (pe_call (ok_number_in T) (hr.mono (by decide)) rfl T.g_number_in T.k_number_in T.b_number_in .nil pass0 (by exact (pa_cons (pe_gref rfl T.t_MISSING) (pa_cons (pe_slice sl_list (pv 2) (po_some (pe_callTy call_int1 rfl T.n_int (by decide +kernel) (by exact (pa_cons (pe_cmpR op_gt (pv 3) pe_int (nomark _)) pa_nil)))) po_none) pa_nil)))))
    (pss_cons (ps_if (pt_cmpR op_isN (pv 4) pe_non (nomark _)) (pss_one (ps_ret pe_non)) pss_nil)
    (pss_one (ps_ret (pe_make T.mk_Jump (ok_Jump___init__ T) (hr.mono (by decide)) rfl T.gC_Jump T.b_Jump___init__ .nil pass0 (by exact (pa_cons (pv 1) (pa_cons (pe_op op_sub (pe_ix ix_list (pv 0) pe_int (fun _ _ => rfl)) (pe_gint rfl T.i_NOUGHT)) (pa_cons (pv 3) (pa_cons (pv 4) pa_nil)))))))))))))))), ?_⟩

  obtain ⟨r, row, rfl, hr2, k⟩ := h
  refine q_when (et_test (ev_eqNew (ns := iz row) (ms := iz (codesOf "Eu")) (ev_var rfl) hr2 (el_codes ev_c (by decide)))) (fun hb H1 e1 => ?_) (fun hb H1 e1 => ?_)
  · rw [iz_dec] at hb
    have c : row = [69, 117] := (of_decide_eq_true hb).trans eu_is
    subst c
    refine make_jump (j := ⟨6, 1, 0, 0⟩) (ea_cons ev_c (ea_cons ev_c (ea_cons ev_c (ea_cons ev_c ea_nil)))) ⟨.inl ⟨rfl, rfl, rfl, rfl⟩, by decide, by decide⟩ fun x H2 e2 hx => k _ _ (e1.trans e2) ⟨x, rfl, hx.ex (nw_back e1)⟩
  rw [iz_dec] at hb
  have c : row ≠ [69, 117] := fun z => of_decide_eq_false hb (z.trans eu_is.symm)
  rcases row with _ | ⟨d, rest⟩
  · refine q_when (b := true || true) (et_or (et_test (ev_eqNew (ns := iz []) (ms := []) (ev_var rfl) (ex_l e1 hr2) (el_lst ea_nil (Nat.zero_le _)))) (fun z => by cases z)) (fun _ H2 e2 => ?_) (fun z => by cases z)
    exact s_ret ev_c fun H3 e3 => k _ _ ((e1.trans e2).trans e3) (show JumpV a _ _ (Sk.jumpOf []) from rfl)
  have at0 : atI (tv (d :: rest)) 0 = some (.int (d : Nat)) := atI_nat (j := 0) rfl
  refine q_when (b := false || !(decide ((48 : Int) < (d : Int)) && decide ((d : Int) ≤ 48 + 4))) (et_or (et_is (et_test (ev_eqNew (ns := iz (d :: rest)) (ms := []) (ev_var rfl) (ex_l e1 hr2) (el_lst ea_nil (Nat.zero_le _)))) (by unfold iz; rfl)) (fun _ => et_not (et_test (ev_chain ev_c (ev_op (ev_var rfl) ev_c (rv_ixL (ex_l e1 hr2) at0)) rv_I0 (fun _ => ev_op ev_c ev_c rv_I0) fun _ => rv_I0)))) (fun hb2 H2 e2 => ?_) (fun hb2 H2 e2 => ?_)
  · refine s_ret ev_c fun H3 e3 => k _ _ ((e1.trans e2).trans e3) ?_
    have c2 : ¬ (48 < d ∧ d ≤ 52) := by
      intro z
      have z1 : decide ((48 : Int) < (d : Int)) = true := decide_eq_true (by omega)
      have z2 : decide ((d : Int) ≤ 48 + 4) = true := decide_eq_true (by omega)
      rw [z1, z2] at hb2
      cases hb2
    show JumpV a _ _ (Sk.jumpOf (d :: rest))
    unfold Sk.jumpOf
    rw [if_neg c]
    show JumpV a _ _ (if 48 < d ∧ d ≤ 52 then _ else none)
    rw [if_neg c2]
    rfl
  have c2 : 48 < d ∧ d ≤ 52 := by
    refine Decidable.byContradiction fun z => ?_
    have hz : decide ((48 : Int) < (d : Int) ∧ (d : Int) ≤ 48 + 4) = false := decide_eq_false (by omega)
    rw [Bool.false_or, ← Bool.decide_and, hz] at hb2
    cases hb2
  have e02 := e1.trans e2
  have cut1 : cutV (tv (d :: rest)) (some 1) none = tv rest := cut_from (d :: rest) 1
  refine q_asg (ev_callN (el_is (el_sl (ev_var rfl) (eo_some ev_c) eo_none (ex_l e02 hr2)) cut1) fun p H3 e3 h3 => sv_kind (sq_of h3)) fun H3 e3 => ?_
  have e03 := e02.trans e3
  have hjd : Sk.jumpOf (d :: rest) = (match Sk.kindFirst rest with
      | none => none
      | some k => match Sk.numberIn Sk.MISS ((rest.drop (Kg56.KINDS.getD k []).length).drop (if 0 < Sk.edgeFirst k (rest.drop (Kg56.KINDS.getD k []).length) then 1 else 0)) with
        | none => none
        | some m => some ⟨k, d - 48, Sk.edgeFirst k (rest.drop (Kg56.KINDS.getD k []).length), m⟩) := by
    show (if d :: rest = [69, 117] then _ else if 48 < d ∧ d ≤ 52 then _ else _) = _
    rw [if_neg c, if_pos c2] <;> rfl
  rw [hjd] at k
  refine q_when (et_test (ev_op (ev_var rfl) ev_c rv_isN)) (fun hb3 H4 e4 => ?_) (fun hb3 H4 e4 => ?_)
  · rw [opt_non] at hb3
    have c3 : Sk.kindFirst rest = none := Option.isNone_iff_eq_none.mp hb3
    rw [c3] at k
    exact s_ret ev_c fun H5 e5 => k _ _ ((e03.trans e4).trans e5) rfl
  rw [opt_non] at hb3
  obtain ⟨kd, c3⟩ : ∃ kd, Sk.kindFirst rest = some kd := by
    cases z : Sk.kindFirst rest with
    | none => rw [z] at hb3; cases hb3
    | some kd => exact ⟨kd, rfl⟩
  rw [c3] at k ⊢
  have hkd : kd < 6 := by
    unfold Sk.kindFirst at c3
    obtain ⟨z, _⟩ := List.findIdx?_eq_some_iff_getElem.mp c3
    exact z
  obtain ⟨s, s1, s2, s3, s4⟩ := kw_at kd hkd
  have e04 := e03.trans e4
  have cut2 : cutV (tv (d :: rest)) (some (1 + (s.length : Nat))) none = tv (rest.drop (Kg56.KINDS.getD kd []).length) := by
    have := cut_from (d :: rest) (1 + s.length)
    rw [show ((1 + s.length : Nat) : Int) = 1 + (s.length : Nat) by omega] at this
    rw [this, s4, Nat.add_comm]
    rfl
  refine q_asgL (el_is (el_sl (ev_var rfl) (eo_some (ev_op ev_c (ev_cb (ea_cons (ev_op ev_c (ev_var rfl) (rv_ixT (T.T_KINDS.t H4) (atI_nat s2))) ea_nil) (rc_lenS s3)) rv_I0)) eo_none (ex_l e04 hr2)) cut2) fun b H5 hb5 e5 h5 => ?_
  generalize hbe : rest.drop (Kg56.KINDS.getD kd []).length = behind at h5 k ⊢
  refine q_asg (ev_call (ea_cons (ev_var rfl) (ea_cons (ev_var rfl) ea_nil)) (sv_edge (n := kd) (sq_of h5))) fun H6 e6 => ?_
  have cut3 : cutV (tv behind) (some (if decide ((0 : Int) < (Sk.edgeFirst kd behind : Nat)) = true then 1 else 0)) none = tv (behind.drop (if 0 < Sk.edgeFirst kd behind then 1 else 0)) := by
    rw [← cut_from]
    congr 2
    by_cases z : 0 < Sk.edgeFirst kd behind
    · rw [if_pos z, if_pos (decide_eq_true (by omega))]; rfl
    · rw [if_neg z, if_neg (by rw [decide_eq_true_eq]; omega)]; rfl
  refine q_asg (ev_callN2 ev_c (el_is (el_sl (ev_var rfl) (eo_some (ev_cb (ea_cons (ev_op (ev_var rfl) ev_c rv_I0) ea_nil) rc_intb)) eo_none (sq_of (e6 _ _ h5))) cut3) fun p H7 e7 h7 => sv_numW (ws := MW) (.inr (T.T_MISSING.t H7)) (sq_of h7) sz_mw mw_is) fun H7 e7 => ?_
  have e07 := ((e04.trans e5).trans e6).trans e7
  refine q_when (et_test (ev_op (ev_var rfl) ev_c rv_isN)) (fun hb4 H8 e8 => ?_) (fun hb4 H8 e8 => ?_)
  · rw [opt_non] at hb4
    have c4 := Option.isNone_iff_eq_none.mp hb4
    simp only [hbe, c4] at k
    exact s_ret ev_c fun H9 e9 => k _ _ ((e07.trans e8).trans e9) rfl
  rw [opt_non] at hb4
  obtain ⟨m, c4⟩ : ∃ m, Sk.numberIn Sk.MISS (behind.drop (if 0 < Sk.edgeFirst kd behind then 1 else 0)) = some m := by
    cases z : Sk.numberIn Sk.MISS (behind.drop (if 0 < Sk.edgeFirst kd behind then 1 else 0)) with
    | none => rw [z] at hb4; cases hb4
    | some m => exact ⟨m, rfl⟩
  have hjm : Sk.jumpOf (d :: rest) = some ⟨kd, d - 48, Sk.edgeFirst kd behind, m⟩ := by
    rw [hjd, c3]
    simp only [hbe, c4]
  simp only [hbe, c4] at k
  rw [c4]
  have e08 := e07.trans e8
  refine make_jump (j := ⟨kd, d - 48, Sk.edgeFirst kd behind, m⟩) (ea_cons (ev_var rfl) (ea_cons (ev_is (ev_op (ev_op (ev_var rfl) ev_c (rv_ixL (ex_l e08 hr2) at0)) ev_c rv_I0) ?_) (ea_cons (ev_var rfl) (ea_cons (ev_var rfl) ea_nil)))) (Sk.jump_wf hjm) fun x H9 e9 hx => k _ _ (e08.trans e9) ⟨x, rfl, hx.ex (nw_back e08)⟩
  show V.int ((d : Int) - 48) = V.int ((d - 48 : Nat) : Int)
  rw [show ((d - 48 : Nat) : Int) = (d : Int) - 48 by omega]
end
end SkW

set_option Elab.async false
set_option linter.all false
set_option maxRecDepth 100000
set_option maxHeartbeats 4000000
namespace SkW
open PySem PySem.Spec PyProof.Rows L2 Evl
section
variable {P : Program} {w : World} {K : PySem.W.Frag} {mg : Str → Option Value} {base : Heap} {a : Ad}
def sp_may (a : Ad) : Sp := fun vs H Q _ => ∃ (q : Addr) (l : List Kg56.Jump), vs = [.ref q] ∧ JumpsAt a H q l ∧ l.length ≤ 1000 ∧ RetV (.bl (Sk.mayBe l)) H Q
theorem JumpsAt.at {H : Hp} {js : List Addr} {l : List Kg56.Jump} {i : Nat} {x : V} (h : Paired (JumpAt a H) js l) (e : (js.map V.ref)[i]? = some x) : ∃ j p, x = .ref p ∧ l[i]? = some j ∧ JumpAt a H p j := by
  rw [List.getElem?_map] at e
  cases z : js[i]? with
  | none => rw [z] at e; cases e
  | some p =>
    rw [z] at e
    obtain ⟨j, h1, h2⟩ := paired_get h z
    exact ⟨j, p, (Option.some.inj e).symm, h1, h2⟩
theorem JumpsAt.of {H : Hp} {js : List Addr} {l : List Kg56.Jump} {i : Nat} {j : Kg56.Jump} (h : Paired (JumpAt a H) js l) (e : l[i]? = some j) : ∃ p, (js.map V.ref)[i]? = some (.ref p) ∧ JumpAt a H p j := by
  have hl := Paired.length h
  have hi := (List.getElem?_eq_some_iff.mp e).1
  have z : js[i]? = some js[i] := List.getElem?_eq_getElem (by omega)
  obtain ⟨j', h1, h2⟩ := paired_get h z
  rw [e] at h1
  cases h1
  exact ⟨_, by rw [List.getElem?_map, z]; rfl, h2⟩
theorem ok_may_be_row (T : Txt K mg a) : FnOk P w K mg base CX0 2 a.f_may_be_row a.d_may_be_row ["jumps"] (sp_may a) := by
  refine T.F_may_be_row.ok sc_may_be_row (fun vs H Q E h => ?_) (fun cdv A outer s H vs Q E hr h => ?_)
  · obtain ⟨_, _, rfl, _⟩ := h
    rfl
  refine ⟨_, (pss_cons (ps_setLc (i := 1) (own := [("place", 2), ("jump", 3)]) rfl sc_may_be_row.nd rfl rfl (sw_true rfl rfl rfl (by decide +kernel)) (pi_enum rfl T.n_enumerate (by exact (pa_cons (pv 0) pa_nil))) (blkOk_by (N := ["jumps", "small", "place", "jump"]) (sc := defScope s_may_be_row) (by decide +kernel)) (fun _ _ _ _ _ => (pg_tupK (K := K) (n := 2) rfl rfl (pgs_cons (pg_name (i := 2) sc_may_be_row.nd rfl (by first | exact Or.inl rfl | exact Or.inr rfl)) (pgs_cons (pg_name (i := 3) sc_may_be_row.nd rfl (by first | exact Or.inl rfl | exact Or.inr rfl)) pgs_nil)))) (fun _ _ _ _ _ => (pts_one (pt_cmpR op_eq (pe_fldK (K := K) rfl (pv 3) rfl) (pe_gint rfl T.i_SMALL) (nomark _)))) (fun _ _ _ _ _ => (pv 2)))
    (pss_cons (ps_if (pt_cmpR (op_eqD hr.units) (pv 1) (pe_lst pa_nil) (nomark _)) (pss_one (ps_ret pe_bl)) pss_nil)
    (pss_one (ps_ret (pe_and (pe_cmpR (op_eqD hr.units) (pv 1) (pe_lst (pa_cons pe_int pa_nil)) (nomark _)) (pe_and (pe_cmpR op_eq (pe_callB call_len_seq rfl T.n_len (by decide +kernel) (by exact (pa_cons (pv 0) pa_nil))) (pe_gint rfl T.i_MOST_JUMPS) (nomark _)) (pe_one (pe_cmpR op_in_seq (pe_fld (pe_ix ix_list (pv 0) pe_int (fun _ _ => rfl)) rfl) (pe_gref rfl T.t_BEHIND_SMALL) rfl)))))))), ?_⟩

  obtain ⟨q, l, rfl, ⟨js, hq, hp⟩, hl, k⟩ := h
  have hlen := Paired.length hp
  have hg : given (js.map V.ref).length (fun i => (l[i]?.map (·.kind)) == some 6) (fun i => .int (i : Nat)) = (iz ((List.range l.length).filter fun i => (l[i]?.map (·.kind)) == some 6)).map V.int := by
    unfold given iz
    rw [List.length_map, hlen, List.map_map]
    rfl
  refine q_asgL (el_is (el_enum (fun i => (l[i]?.map (·.kind)) == some 6) (fun i => .int (i : Nat)) (ea_cons (ev_var rfl) ea_nil) (sq_of hq) (by rw [List.length_map]; omega) (fun x y => rfl) (fun i x H1 e1 hi => ?_) (fun i x H1 e1 hi _ => ev_var rfl)) hg) fun s H1 hs e1 h1 => ?_
  · obtain ⟨j, p, rfl, h1, h2⟩ := JumpsAt.at hp hi
    obtain ⟨_, dx, hd⟩ := h2.ex e1
    refine et_is (et_test (ev_op (ev_fld (ev_var rfl) hd T.C_Jump T.n_Jump_kind rfl) ev_c (rv_eq rfl))) ?_
    have := dec_ints (i := j.kind) (j := 6) rfl
    rw [h1]
    show decide (V.int (j.kind : Int) = V.int ((6 : Nat) : Int)) = (some j.kind == some 6)
    rw [← this]
    by_cases c : j.kind = 6
    · rw [c]; rfl
    · rw [decide_eq_false c]
      exact (beq_eq_false_iff_ne.mpr fun z => c (Option.some.inj z)).symm
  have hmb : Sk.mayBe l = if ((List.range l.length).filter fun i => (l[i]?.map (·.kind)) == some 6) = [] then true else ((List.range l.length).filter fun i => (l[i]?.map (·.kind)) == some 6) == [1] && (l.length == 3 && (match l[2]? with
    | some j => j.kind == 1 || j.kind == 3
    | none => false)) := rfl
  generalize ((List.range l.length).filter fun i => (l[i]?.map (·.kind)) == some 6) = small at h1 hmb
  rw [hmb] at k
  refine q_when (et_test (ev_eqNew (ns := iz small) (ms := iz []) (ev_var rfl) (sq_of h1) (el_lst ea_nil (Nat.zero_le _)))) (fun hb H2 e2 => ?_) (fun hb H2 e2 => ?_)
  · rw [iz_dec] at hb
    rw [if_pos (of_decide_eq_true hb)] at k
    exact s_ret ev_c fun H3 e3 => k.go ((e1.trans e2).trans e3)
  · rw [iz_dec] at hb
    rw [if_neg (of_decide_eq_false hb)] at k
    have e02 := e1.trans e2
    refine s_ret (v := .bl (decide (iz small = iz [1]) && (decide (V.int ((js.map V.ref).length : Nat) = V.int ((3 : Nat) : Int)) && (match l[2]? with
      | some j => j.kind == 1 || j.kind == 3
      | none => false)))) (ev_andV (ev_eqNew (ev_var rfl) (sq_of (e2 _ _ h1)) (el_lst (ea_cons ev_c ea_nil) (Nat.le_of_ble_eq_true rfl))) fun _ => ev_andV (ev_op (ev_cb (ea_cons (ev_var rfl) ea_nil) (rc_len (.inl (sq_of (e02 _ _ hq))))) ev_c (rv_eq rfl)) fun h3 => ?_) fun H3 e3 => ?_
    · have h3 := of_decide_eq_true (dec_ints h3)
      rw [List.length_map, hlen] at h3
      obtain ⟨j, hj⟩ : ∃ j, l[2]? = some j := ⟨l[2], List.getElem?_eq_getElem (by omega)⟩
      obtain ⟨p, g1, g2⟩ := JumpsAt.of hp hj
      obtain ⟨_, dx, hd⟩ := g2.ex e02
      rw [hj]
      refine ev_is (ev_op (ev_fld (ev_op (ev_var rfl) ev_c (rv_ixL (sq_of (e02 _ _ hq)) (atI_nat (j := 2) g1))) hd T.C_Jump T.n_Jump_kind rfl) ev_c (rv_isT (T.T_BEHIND_SMALL.t H2) rfl rfl)) ?_
      show V.bl (decide ((1 : Int) = (j.kind : Int)) || (decide ((3 : Int) = (j.kind : Int)) || false)) = V.bl (j.kind == 1 || j.kind == 3)
      rw [Bool.or_false]
      have z1 : decide ((1 : Int) = (j.kind : Int)) = (j.kind == 1) := by
        rw [show (j.kind == 1) = decide (j.kind = 1) from rfl]
        exact decide_eq_decide.mpr (by omega)
      have z2 : decide ((3 : Int) = (j.kind : Int)) = (j.kind == 3) := by
        rw [show (j.kind == 3) = decide (j.kind = 3) from rfl]
        exact decide_eq_decide.mpr (by omega)
      rw [z1, z2]
    · have z1 : decide (iz small = iz [1]) = (small == [1]) := by
        rw [iz_dec]
        by_cases c : small = [1]
        · subst c; rfl
        · rw [decide_eq_false c]; exact (beq_eq_false_iff_ne.mpr c).symm
      have z2 : decide (V.int ((js.map V.ref).length : Nat) = V.int ((3 : Nat) : Int)) = (l.length == 3) := by
        rw [← dec_ints (i := (js.map V.ref).length) (j := 3) rfl, List.length_map, hlen]
        rfl
      rw [z1, z2]
      exact k.go (e02.trans e3)
end
end SkW

set_option Elab.async false
set_option linter.all false
set_option maxRecDepth 100000
set_option maxHeartbeats 4000000
namespace SkW
open PySem PySem.Spec PyProof.Rows L2 Evl
section
variable {P : Program} {w : World} {K : PySem.W.Frag} {mg : Str → Option Value} {base : Heap} {a : Ad}
theorem sv_may {H : Hp} {q : Addr} {l : List Kg56.Jump} (h : JumpsAt a H q l) (hl : l.length ≤ 1000) : SpV (sp_may a) [.ref q] H (.bl (Sk.mayBe l)) := fun H1 e Q k E => ⟨q, l, rfl, h.ex e, hl, k⟩
theorem allSome_yes : ∀ {os : List (Option Kg56.Jump)}, (os.any Option.isNone) = false → ∃ l, Sk.allSome os = some l
  | [], _ => ⟨[], rfl⟩
  | none :: _, h => by cases h
  | some j :: r, h => by
    obtain ⟨l, e⟩ := allSome_yes (os := r) (by simpa using h)
    exact ⟨j :: l, by show (Sk.allSome r).map (j :: ·) = _; rw [e]; rfl⟩
theorem allSome_no : ∀ {os : List (Option Kg56.Jump)}, (os.any Option.isNone) = true → Sk.allSome os = none
  | [], h => by cases h
  | none :: _, _ => rfl
  | some j :: r, h => by
    show (Sk.allSome r).map (j :: ·) = _
    rw [allSome_no (os := r) (by simpa using h)]
    rfl
theorem jumps_refs {H : Hp} : ∀ {ys : List V} {l : List Kg56.Jump}, Paired (fun v o => JumpV a H v o) ys (l.map some) → ∃ js : List Addr, ys = js.map V.ref ∧ Paired (JumpAt a H) js l
  | _, [], .nil => ⟨[], rfl, .nil⟩
  | _, j :: l, .cons q t => by
    obtain ⟨x, rfl, hx⟩ := q
    obtain ⟨js, e, h⟩ := jumps_refs t
    exact ⟨x :: js, by rw [e]; rfl, .cons hx h⟩
theorem paired_of {α β : Type} {R : α → β → Prop} : ∀ {xs : List α} {ys : List β}, xs.length = ys.length → (∀ (i : Nat) x y, xs[i]? = some x → ys[i]? = some y → R x y) → Paired R xs ys
  | [], [], _, _ => .nil
  | [], _ :: _, h, _ => by cases h
  | _ :: _, [], h, _ => by cases h
  | x :: xs, y :: ys, h, f => .cons (f 0 x y rfl rfl) (paired_of (Nat.succ.inj h) fun i x' y' h1 h2 => f (i + 1) x' y' h1 h2)
theorem isNone_V {H : Hp} {v : V} {o : Option Kg56.Jump} (h : JumpV a H v o) : decide (v = .non) = o.isNone := by
  cases o with
  | none => rw [show v = .non from h]; rfl
  | some j => obtain ⟨x, rfl, _⟩ := h; rfl
theorem lc_at {σ : L2.St} {H : Hp} {Q : VK} {tl te : TE} {g : TG} {t : TT} {vs : List Nat} {Pr : Addr → Hp → Prop} (h : ∀ Q1 : VK, (∀ p H1, Pr p H1 → Q1 (.ref p) H1) → tl σ H Q1) (body : ∀ p H1, Pr p H1 → tLc (iList K (tC (.ref p))) g t te vs σ H1 Q) : tLc (iList K tl) g t te vs σ H Q :=
  h _ fun p H1 hp => body p H1 hp
theorem q_asgX {σ : L2.St} {H : Hp} {D : Ends} {te : TE} {tz : TS} {i : Nat} (h : te σ H fun v H1 => tz D (σ.set i (some v)) H1) : tSeq (tAsg te (gName i)) tz D σ H := h
def sp_jumps_of (a : Ad) (K : PySem.W.Frag) : Sp := fun vs H Q _ => ∃ (r : Addr) (row : Kg56.Text), vs = [.ref r] ∧ SqL K H r (tv row) ∧ row.length ≤ 900 ∧ ∀ v H1, Ex H H1 → ElemV a (nw H H1) v ((Sk.jumpsOf row).map Kg56.Element.jumps) → Q v H1
theorem ok_jumps_of (T : Txt K mg a) : FnOk P w K mg base CX0 6 a.f_jumps_of a.d_jumps_of ["row"] (sp_jumps_of a K) := by
  refine T.F_jumps_of.ok sc_jumps_of (fun vs H Q E h => ?_) (fun cdv A outer s H vs Q E hr h => ?_)
  · obtain ⟨_, _, rfl, _⟩ := h
    rfl
  refine ⟨_, (pss_cons (ps_setLc (i := 1) (own := [("piece", 2)]) rfl sc_jumps_of.nd rfl rfl (sw_true rfl rfl rfl (by decide +kernel)) (pi_list (pe_call (ok_split_by_plus T) (hr.mono (by decide)) rfl T.g_split_by_plus T.k_split_by_plus T.b_split_by_plus .nil pass0 (by exact (pa_cons (pv 0) pa_nil)))) (blkOk_by (N := ["row", "jumps", "piece", "jump"]) (sc := defScope s_jumps_of) (by decide +kernel)) (fun _ _ _ _ _ => (pg_name (i := 2) sc_jumps_of.nd rfl (by first | exact Or.inl rfl | exact Or.inr rfl))) (fun _ _ _ _ _ => pts_nil) (fun _ _ _ _ _ => (pe_call (ok_jump_of T) (hr.mono (by decide)) rfl T.g_jump_of T.k_jump_of T.b_jump_of .nil pass0 (by exact (pa_cons (pv 2) pa_nil)))))
    (pss_cons (ps_if (PW.pt (pw_or (pt_cmpR op_gt (pe_callB call_len_seq rfl T.n_len (by decide +kernel) (by exact (pa_cons (pv 1) pa_nil))) (pe_gint rfl T.i_MOST_JUMPS) (nomark _)) (pw_or (pt_val (pe_callB (cr_any rfl) rfl T.n_any (by decide +kernel) (by exact (pa_cons (pe_lc (own := [("jump", 3)]) rfl sc_jumps_of.nd (pi_list (pv 1)) (blkOk_by (N := ["row", "jumps", "piece", "jump"]) (sc := defScope s_jumps_of) (by decide +kernel)) (fun _ _ _ _ _ => (pg_name (i := 3) sc_jumps_of.nd rfl (by first | exact Or.inl rfl | exact Or.inr rfl))) (fun _ _ _ _ _ => pts_nil) (fun _ _ _ _ _ => (pe_cmpR op_isN (pv 3) pe_non (nomark _)))) pa_nil)))) (pw_or1 (pt_not (pt_val (pe_call (ok_may_be_row T) (hr.mono (by decide)) rfl T.g_may_be_row T.k_may_be_row T.b_may_be_row .nil pass0 (by exact (pa_cons (pv 1) pa_nil))))))))) (pss_one (ps_ret pe_non)) pss_nil)
    (pss_one (ps_ret (pe_call (ok_jumps_element T) (hr.mono (by decide)) rfl T.g_jumps_element T.k_jumps_element T.b_jumps_element .nil pass0 (by exact (pa_cons (pv 1) pa_nil))))))), ?_⟩

  obtain ⟨r, row, rfl, hr2, hlr, k⟩ := h
  have hsl := (Sk.split_sizes row).1
  refine q_asgX (lc_at (Pr := fun p H1 => Ex H H1 ∧ ∃ qs : List Addr, H1 p = some (.lst (qs.map V.ref)) ∧ Paired (PieceAt H1) qs (Sk.splitPlus row)) (fun Q1 k1 => ⟨_, rfl, r, row, rfl, hr2, by omega, fun p qs H1 e1 hp h1 hq => k1 p H1 ⟨e1, qs, h1, hq⟩⟩) fun p H1 ⟨e1, qs, h1, hq⟩ => ?_)
  have hqlen := Paired.length hq
  refine lc_rel (fun i y G => ∃ t, (Sk.splitPlus row)[i]? = some t ∧ JumpV a G y (Sk.jumpOf t)) (fun i y G1 G2 e ⟨t, h1, h2⟩ => ⟨t, h1, h2.ex e⟩) ev_c (sq_of h1) (by rw [List.length_map, hqlen]; omega) (fun x => rfl) (fun i x H2 e2 hi Q1 k1 => ?_) (fun D ys H2 hD e2 h2 hl2 hR => ?_)
  · rw [List.getElem?_map] at hi
    cases hz : qs[i]? with
    | none => rw [hz] at hi; cases hi
    | some q =>
      rw [hz] at hi
      cases hi
      obtain ⟨t, ht, hp2⟩ := paired_get hq hz
      exact ⟨_, rfl, q, t, rfl, sq_of (e2 _ _ hp2), fun v H3 e3 hv => k1 v H3 e3 ⟨t, ht, hv⟩⟩
  have e02 := e1.trans e2
  have hDH : H D = none := fresh_back e1 hD
  generalize hos : (Sk.splitPlus row).map Sk.jumpOf = os
  have hol : os.length = (Sk.splitPlus row).length := by rw [← hos, List.length_map]
  have hys : ys.length = os.length := by rw [hl2, List.length_map, hqlen, hol]
  have hpair : Paired (fun v o => JumpV a (nw H H2) v o) ys os := paired_of hys fun i y o h3 h4 => by
    obtain ⟨t, ht, hv⟩ := hR i y h3
    rw [← hos, List.getElem?_map, ht] at h4
    cases h4
    exact hv.ex (nw_back e1)
  have hjo : Sk.jumpsOf row = if 3 < os.length then none else match Sk.allSome os with
    | none => none
    | some l => if Sk.mayBe l = true then some l else none := by unfold Sk.jumpsOf; rw [hos] <;> rfl
  refine q_when (b := decide ((3 : Int) < (ys.length : Int)) || ((os.map Option.isNone).any id || (match Sk.allSome os with
    | some l => !Sk.mayBe l
    | none => false))) (et_or (et_test (ev_op (ev_cb (ea_cons (ev_var rfl) ea_nil) (rc_len (.inl (sq_of h2)))) ev_c rv_I0)) fun hb1 => et_or (et_B (ev_anyN (el_map (ev_var rfl) (sq_of h2) (by omega) (fun x => rfl) (by simp [hys]) fun i x y H3 e3 h3 h4 => ?_))) fun hb2 => ?_) (fun hb H3 e3 => ?_) (fun hb H3 e3 => ?_)
  · obtain ⟨o, ho, hv⟩ := paired_get hpair h3
    rw [List.map_map, List.getElem?_map, ho] at h4
    cases h4
    exact ev_is (ev_op (ev_var rfl) ev_c rv_isN) (by rw [isNone_V hv]; rfl)
  · obtain ⟨l, hl⟩ := allSome_yes (os := os) (by rw [← hb2, List.any_map]; rfl)
    rw [hl]
    have hmem := Sk.allSome_mem hl
    rw [hmem] at hpair
    obtain ⟨js, rfl, hj⟩ := jumps_refs hpair
    have hll : l.length = os.length := by rw [hmem, List.length_map]
    exact et_not (et_B (ev_call (ea_cons (ev_var rfl) ea_nil) (sv_may (JumpsAt.ex ⟨js, by rw [nw_of hDH]; exact h2, hj⟩ nw_le) (by omega))))
  · have : Sk.jumpsOf row = none := by
      rw [hjo]
      by_cases c : 3 < os.length
      · rw [if_pos c]
      · rw [if_neg c]
        have z1 : decide ((3 : Int) < (ys.length : Int)) = false := decide_eq_false (by omega)
        rw [z1, Bool.false_or] at hb
        by_cases c2 : os.any Option.isNone = true
        · rw [allSome_no c2]
        · obtain ⟨l, hl⟩ := allSome_yes (Bool.eq_false_iff.mpr c2)
          have z2 : (os.map Option.isNone).any id = false := by rw [List.any_map]; exact Bool.eq_false_iff.mpr c2
          rw [z2, Bool.false_or, hl] at hb
          rw [hl]
          show (if Sk.mayBe l = true then some l else none) = none
          rw [if_neg (by
            intro z
            have hb' : (!Sk.mayBe l) = true := hb
            rw [z] at hb'; cases hb')]
    rw [this] at k
    exact s_ret ev_c fun H4 e4 => k _ _ ((e02.trans e3).trans e4) rfl
  · have z1 : ¬ 3 < os.length := fun c => by
      rw [show decide ((3 : Int) < (ys.length : Int)) = true from decide_eq_true (by omega)] at hb
      cases hb
    rw [show decide ((3 : Int) < (ys.length : Int)) = false from decide_eq_false (by omega), Bool.false_or] at hb
    have z2 : os.any Option.isNone = false := by
      cases z : os.any Option.isNone with
      | false => rfl
      | true =>
        rw [show (os.map Option.isNone).any id = true by rw [List.any_map]; exact z] at hb
        cases hb
    obtain ⟨l, hl⟩ := allSome_yes z2
    rw [show (os.map Option.isNone).any id = false by rw [List.any_map]; exact z2, Bool.false_or, hl] at hb
    have hmb : Sk.mayBe l = true := by
      cases z : Sk.mayBe l with
      | true => rfl
      | false =>
        have hb' : (!Sk.mayBe l) = false := hb
        rw [z] at hb'; cases hb'
    have hjl : Sk.jumpsOf row = some l := by
      rw [hjo, if_neg z1, hl]
      show (if Sk.mayBe l = true then some l else none) = some l
      rw [if_pos hmb]
    rw [hjl] at k
    have hmem := Sk.allSome_mem hl
    rw [hmem] at hpair
    obtain ⟨js, rfl, hj⟩ := jumps_refs hpair
    have hwf : Sk.EWf (.jumps l) := Sk.element_wf (t := row) (by unfold Sk.elementOf; rw [hjl])
    exact ⟨_, rfl, D, l, H, rfl, hwf, e02.trans e3, JumpsAt.ex ⟨js, by rw [nw_of hDH]; exact h2, hj⟩ (nw_mono e3), fun x H4 e4 hx => k _ _ ((e02.trans e3).trans e4) ⟨x, rfl, hx⟩⟩
end
end SkW

set_option Elab.async false
set_option linter.all false
set_option maxRecDepth 100000
set_option maxHeartbeats 4000000
namespace SkW
open PySem PySem.Spec PyProof.Rows L2 Evl
section
variable {P : Program} {w : World} {K : PySem.W.Frag} {mg : Str → Option Value} {base : Heap} {a : Ad}
/-- a promise over a new list and what stands -/
theorem ev_callN1 {σ : L2.St} {H : Hp} {ta te : TE} {v z : V} {sp : Sp} {E : XK} {xs : List V} (hb : EvL te σ H xs) (ha : ∀ H1, Ex H H1 → Ev ta σ H1 v) (hs : ∀ p H1, Ex H H1 → H1 p = some (.lst xs) → SpV sp [.ref p, v] H1 z) : Ev (tCall sp [] E (tCons te (tCons ta tNil))) σ H z := fun H1 e Q q =>
  hb H1 e _ fun p H2 _ e2 h2 => ha H2 (e.trans e2) H2 (Ex.refl H2) _ fun H3 e3 => hs p H3 ((e.trans e2).trans e3) (e3 _ _ h2) H3 (Ex.refl H3) Q (fun H4 e4 => q H4 ((e2.trans e3).trans e4)) E
theorem iz_ch {s t : Kg56.Text} {b : Prop} [Decidable b] (h : (s = t) ↔ b) : decide (iz s = iz t) = decide b := by rw [iz_dec]; exact decide_eq_decide.mpr h
theorem bit_cast (b : Prop) [Decidable b] : (if decide b = true then (1 : Int) else 0) = ((if b then 1 else 0 : Nat) : Int) := by
  by_cases c : b
  · rw [if_pos c, if_pos (decide_eq_true c)]; rfl
  · rw [if_neg c, if_neg (by rw [decide_eq_true_eq]; exact c)]; rfl
def sp_name (K : PySem.W.Frag) : Sp := fun vs H Q _ => ∃ (r : Addr) (row : Kg56.Text), vs = [.ref r] ∧ SqL K H r (tv row) ∧ RetV (optV (Sk.nameOf row)) H Q
theorem ok_name_of (T : Txt K mg a) : FnOk P w K mg base CX0 4 a.f_name_of a.d_name_of ["row"] (sp_name K) := by
  refine T.F_name_of.ok sc_name_of (fun vs H Q E h => ?_) (fun cdv A outer s H vs Q E hr h => ?_)
  · obtain ⟨_, _, rfl, _⟩ := h
    rfl
  refine ⟨_, (pss_cons (ps_set (i := 1) sc_name_of.nd rfl (Or.inl rfl) (pe_callTy call_int1 rfl T.n_int (by decide +kernel) (by exact (pa_cons (pe_cmpR (op_eqD hr.units) (pe_slice sl_list (pv 0) po_none (po_some pe_int)) (pe_call (ok_codes T) (hr.mono (by decide)) rfl T.g_codes T.k_codes T.b_codes .nil pass0 (by exact (pa_cons pe_str pa_nil))) (nomark _)) pa_nil))))
    (pss_cons (ps_set (i := 2) sc_name_of.nd rfl (Or.inl rfl) (pe_slice sl_list (pv 0) (po_some (pv 1)) po_none))
    (pss_cons (ps_set (i := 3) sc_name_of.nd rfl (Or.inl rfl) (pe_callTy call_int1 rfl T.n_int (by decide +kernel) (by exact (pa_cons (pe_and (pe_cmpR (op_eqD hr.units) (pe_slice sl_list (pv 2) po_none (po_some pe_int)) (pe_call (ok_codes T) (hr.mono (by decide)) rfl T.g_codes T.k_codes T.b_codes .nil pass0 (by exact (pa_cons pe_str pa_nil))) (nomark _)) (pe_one (pe_cmpR op_isN (pe_call (ok_number_in T) (hr.mono (by decide)) rfl T.g_number_in T.k_number_in T.b_number_in .nil pass0 (by exact (pa_cons (pe_gref rfl T.t_LAST_PARTS) (pa_cons (pv 2) pa_nil)))) pe_non (nomark _)))) pa_nil))))
    (pss_cons (ps_set (i := 4) sc_name_of.nd rfl (Or.inl rfl) (pe_call (ok_number_in T) (hr.mono (by decide)) rfl T.g_number_in T.k_number_in T.b_number_in .nil pass0 (by exact (pa_cons (pe_gref rfl T.t_LAST_PARTS) (pa_cons (pe_slice sl_list (pv 2) (po_some (pv 3)) po_none) pa_nil)))))
    (pss_cons (ps_if (pt_cmpR op_isN (pv 4) pe_non (nomark _)) (pss_one (ps_ret pe_non)) pss_nil)
    (pss_one (ps_ret (pe_op op_add (pe_op op_add (pe_op op_mul (pe_gint rfl T.i_FLYING) (pv 1)) (pe_op op_mul (pe_gint rfl T.i_CHANGED) (pv 3))) (pv 4))))))))), ?_⟩

  obtain ⟨r, row, rfl, hr2, k⟩ := h
  have one (t : Kg56.Text) : cutV (tv t) none (some 1) = (iz (t.take 1)).map V.int := cut_to t 1
  refine q_asg (v := .int ((if row.take 1 = [70] then 1 else 0 : Nat) : Int)) (ev_is (ev_cb (ea_cons (ev_eqNew2 (ns := iz (row.take 1)) (ms := iz (codesOf "F")) (el_is (el_sl (ev_var rfl) eo_none (eo_some ev_c) hr2) (one row)) (el_codes ev_c (by decide))) ea_nil) rc_intb) (by rw [iz_ch (b := row.take 1 = [70]) (by rw [show codesOf "F" = [70] by decide]), bit_cast])) fun H1 e1 => ?_
  have hn : Sk.nameOf row = (Sk.numberIn Sk.PARTS ((row.drop (if row.take 1 = [70] then 1 else 0)).drop (if (row.drop (if row.take 1 = [70] then 1 else 0)).take 1 = [67] ∧ Sk.numberIn Sk.PARTS (row.drop (if row.take 1 = [70] then 1 else 0)) = none then 1 else 0))).map fun last =>
    10 * (if row.take 1 = [70] then 1 else 0) + 5 * (if (row.drop (if row.take 1 = [70] then 1 else 0)).take 1 = [67] ∧ Sk.numberIn Sk.PARTS (row.drop (if row.take 1 = [70] then 1 else 0)) = none then 1 else 0) + last := rfl
  generalize (if row.take 1 = [70] then 1 else 0) = fl at hn ⊢
  refine q_asgL (el_is (el_sl (ev_var rfl) (eo_some (ev_var rfl)) eo_none (ex_l e1 hr2)) (cut_from row fl)) fun p H2 hp e2 h2 => ?_
  generalize row.drop fl = left at h2 hn ⊢
  refine q_asg (v := .int ((if left.take 1 = [67] ∧ Sk.numberIn Sk.PARTS left = none then 1 else 0 : Nat) : Int)) (ev_is (ev_cb (ea_cons (ev_andV (a := decide (iz (left.take 1) = iz (codesOf "C"))) (b := (Sk.numberIn Sk.PARTS left).isNone) (ev_eqNew2 (el_is (el_sl (ev_var rfl) eo_none (eo_some ev_c) (sq_of h2)) (one left)) (el_codes ev_c (by decide))) fun _ => ev_is (ev_op (ev_call (ea_cons ev_c (ea_cons (ev_var rfl) ea_nil)) (sv_numW (ws := PW) (.inr (T.T_LAST_PARTS.t H2)) (sq_of h2) sz_pw pw_is)) ev_c rv_isN) (by rw [opt_non])) ea_nil) rc_intb) ?_) fun H3 e3 => ?_
  · rw [iz_ch (b := left.take 1 = [67]) (by rw [show codesOf "C" = [67] by decide]), show (Sk.numberIn Sk.PARTS left).isNone = decide (Sk.numberIn Sk.PARTS left = none) by cases Sk.numberIn Sk.PARTS left <;> rfl, ← Bool.decide_and, bit_cast]
  generalize (if left.take 1 = [67] ∧ Sk.numberIn Sk.PARTS left = none then 1 else 0) = ch at hn ⊢
  refine q_asg (ev_callN2 ev_c (el_is (el_sl (ev_var rfl) (eo_some (ev_var rfl)) eo_none (sq_of (e3 _ _ h2))) (cut_from left ch)) fun q H4 e4 h4 => sv_numW (ws := PW) (.inr (T.T_LAST_PARTS.t H4)) (sq_of h4) sz_pw pw_is) fun H4 e4 => ?_
  have e04 := ((e1.trans e2).trans e3).trans e4
  rw [hn] at k
  refine q_when (et_test (ev_op (ev_var rfl) ev_c rv_isN)) (fun hb H5 e5 => ?_) (fun hb H5 e5 => ?_)
  · rw [opt_non] at hb
    rw [Option.isNone_iff_eq_none.mp hb] at k
    exact s_ret ev_c fun H6 e6 => k.go ((e04.trans e5).trans e6)
  · rw [opt_non] at hb
    obtain ⟨n, hz⟩ : ∃ n, Sk.numberIn Sk.PARTS (left.drop ch) = some n := by
      cases z : Sk.numberIn Sk.PARTS (left.drop ch) with
      | none => rw [z] at hb; cases hb
      | some n => exact ⟨n, rfl⟩
    rw [hz] at k ⊢
    refine s_ret (ev_op (ev_op (ev_op ev_c (ev_var rfl) (rv_mul (.inl (by decide)))) (ev_op ev_c (ev_var rfl) (rv_mul (.inl (by decide)))) rv_I0) (ev_var rfl) rv_I0) fun H6 e6 => ?_
    have := k.go ((e04.trans e5).trans e6)
    simpa [optV] using this
theorem sv_name {H : Hp} {r : Addr} {row : Kg56.Text} (hr : SqL K H r (tv row)) : SpV (sp_name K) [.ref r] H (optV (Sk.nameOf row)) := fun H1 e Q q E => ⟨r, row, rfl, ex_l e hr, q⟩
def sp_level (K : PySem.W.Frag) : Sp := fun vs H Q _ => ∃ (r : Addr) (row : Kg56.Text), vs = [.ref r] ∧ SqL K H r (tv row) ∧ RetV (optV (Sk.numberIn Sk.LEVELS row)) H Q
theorem ok_level_of (T : Txt K mg a) : FnOk P w K mg base CX0 4 a.f_level_of a.d_level_of ["row"] (sp_level K) := by
  refine T.F_level_of.ok sc_level_of (fun vs H Q E h => ?_) (fun cdv A outer s H vs Q E hr h => ?_)
  · obtain ⟨_, _, rfl, _⟩ := h
    rfl
  refine ⟨_, (pss_one (ps_ret (pe_call (ok_number_in T) (hr.mono (by decide)) rfl T.g_number_in T.k_number_in T.b_number_in .nil pass0 (by exact (pa_cons (pe_lc (own := [("sign", 1)]) rfl sc_level_of.nd (pi_str (pe_gstr rfl T.s_LEVELS)) (blkOk_by (N := ["row", "sign"]) (sc := defScope s_level_of) (by decide +kernel)) (fun _ _ _ _ _ => (pg_name (i := 1) sc_level_of.nd rfl (by first | exact Or.inl rfl | exact Or.inr rfl))) (fun _ _ _ _ _ => pts_nil) (fun _ _ _ _ _ => (pv 1))) (pa_cons (pv 0) pa_nil)))))), ?_⟩

  obtain ⟨r, row, rfl, hr2, k⟩ := h
  refine s_ret (ev_callN1 (xs := LW.map V.str) (el_str (s := "B1234") ev_c (by decide) ?_ rfl ?_) (fun H1 e1 => ev_var rfl) fun p H1 e1 h1 => sv_numW (ws := LW) (.inl (sq_of h1)) (ex_l e1 hr2) sz_lw lw_is) fun H1 e1 => k.go e1
  · exact fun _ => rfl
  · intro i c y H1 e1 hc hy
    have : ∀ i c y, i < 5 → (("B1234" : Str).cps[i]? = some c) → (LW.map V.str)[i]? = some y → y = .str ⟨#[c]⟩ := by
      intro i c y hi
      rcases (show i = 0 ∨ i = 1 ∨ i = 2 ∨ i = 3 ∨ i = 4 by omega) with rfl | rfl | rfl | rfl | rfl <;> (intro h1 h2; cases h1; cases h2; rfl)
    have hi : i < 5 := (List.getElem?_eq_some_iff.mp hy).1
    rw [this i c y hi hc hy]
    exact ev_var rfl
theorem sv_level {H : Hp} {r : Addr} {row : Kg56.Text} (hr : SqL K H r (tv row)) : SpV (sp_level K) [.ref r] H (optV (Sk.numberIn Sk.LEVELS row)) := fun H1 e Q q E => ⟨r, row, rfl, ex_l e hr, q⟩
def sp_elem (a : Ad) (K : PySem.W.Frag) (f : Kg56.Text → Option Kg56.Element) : Sp := fun vs H Q _ => ∃ (r : Addr) (row : Kg56.Text), vs = [.ref r] ∧ SqL K H r (tv row) ∧ row.length ≤ 900 ∧ ∀ v H1, Ex H H1 → ElemV a (nw H H1) v (f row) → Q v H1
theorem level_lt {t : Kg56.Text} {v : Nat} (h : Sk.numberIn Sk.LEVELS t = some v) : v ≤ 4 := by
  unfold Sk.numberIn at h
  obtain ⟨z, _⟩ := List.findIdx?_eq_some_iff_getElem.mp h
  have : v < 5 := z
  omega
theorem ok_spin_of (T : Txt K mg a) : FnOk P w K mg base CX0 5 a.f_spin_of a.d_spin_of ["row"] (sp_elem a K Sk.spinOf) := by
  refine T.F_spin_of.ok sc_spin_of (fun vs H Q E h => ?_) (fun cdv A outer s H vs Q E hr h => ?_)
  · obtain ⟨_, _, rfl, _⟩ := h
    rfl
  refine ⟨_, (pss_cons (ps_set (i := 1) sc_spin_of.nd rfl (Or.inl rfl) (pe_call (ok_level_of T) (hr.mono (by decide)) rfl T.g_level_of T.k_level_of T.b_level_of .nil pass0 (by exact (pa_cons (pe_slice sl_list (pv 0) (po_some (pe_un un_neg pe_int)) po_none) pa_nil))))
    (pss_cons (ps_if (PW.pt (pw_or (pt_cmpR op_isN (pv 1) pe_non (nomark _)) (pw_or1 (pt_cmpR (op_neD hr.units) (pe_slice sl_list (pv 0) (po_some (pe_un un_neg pe_int)) (po_some (pe_un un_neg pe_int))) (pe_call (ok_codes T) (hr.mono (by decide)) rfl T.g_codes T.k_codes T.b_codes .nil pass0 (by exact (pa_cons pe_str pa_nil))) (nomark _))))) (pss_one (ps_ret pe_non)) pss_nil)
    (pss_cons (ps_set (i := 2) sc_spin_of.nd rfl (Or.inl rfl) (pe_call (ok_name_of T) (hr.mono (by decide)) rfl T.g_name_of T.k_name_of T.b_name_of .nil pass0 (by exact (pa_cons (pe_slice sl_list (pv 0) po_none (po_some (pe_un un_neg pe_int))) pa_nil))))
    (pss_cons (ps_if (pt_cmpR op_isN (pv 2) pe_non (nomark _)) (pss_one (ps_ret pe_non)) pss_nil)
    (pss_one (ps_ret (pe_make T.mk_Element (ok_Element___init__ T) (hr.mono (by decide)) rfl T.gC_Element T.b_Element___init__ .nil pass0 (by exact (pa_cons (pe_gint rfl T.i_SPIN) (pa_cons (pe_lst pa_nil) (pa_cons (pv 2) (pa_cons (pv 1) pa_nil)))))))))))), ?_⟩

  obtain ⟨r, row, rfl, hr2, _, k⟩ := h
  refine q_asg (ev_callN (el_is (el_sl (lo := some (-1)) (ev_var rfl) (eo_some (ev_un ev_c ru_neg)) eo_none hr2) (cut_last row)) fun p H1 e1 h1 => sv_level (sq_of h1)) fun H1 e1 => ?_
  have hs : Sk.spinOf row = (match Sk.numberIn Sk.LEVELS (row.drop (row.length - 1)) with
    | none => none
    | some v => if (row.drop (row.length - 3)).take (row.length - 1 - (row.length - 3)) = Kg56.ascii "Sp" then (Sk.nameOf (row.take (row.length - 3))).map fun n => .spin n v else none) := rfl
  refine q_when (b := (Sk.numberIn Sk.LEVELS (row.drop (row.length - 1))).isNone || !decide (iz ((row.drop (row.length - 3)).take (row.length - 1 - (row.length - 3))) = iz (codesOf "Sp"))) (et_or (et_is (et_test (ev_op (ev_var rfl) ev_c rv_isN)) (opt_non _)) fun _ => et_test (ev_neNew2 (el_is (el_sl (lo := some (-3)) (hi := some (-1)) (ev_var rfl) (eo_some (ev_un ev_c ru_neg)) (eo_some (ev_un ev_c ru_neg)) (ex_l e1 hr2)) (cut_sp row)) (el_codes ev_c (by decide)))) (fun hb H2 e2 => ?_) (fun hb H2 e2 => ?_)
  · have : Sk.spinOf row = none := by
      rw [hs]
      cases z : Sk.numberIn Sk.LEVELS (row.drop (row.length - 1)) with
      | none => rfl
      | some v =>
        rw [z, iz_dec, show codesOf "Sp" = Kg56.ascii "Sp" by decide] at hb
        show (if _ then _ else _) = _
        rw [if_neg fun c => by rw [decide_eq_true c] at hb; cases hb]
    rw [this] at k
    exact s_ret ev_c fun H3 e3 => k _ _ ((e1.trans e2).trans e3) rfl
  cases z : Sk.numberIn Sk.LEVELS (row.drop (row.length - 1)) with
  | none => rw [z] at hb; cases hb
  | some v =>
    rw [z, iz_dec, show codesOf "Sp" = Kg56.ascii "Sp" by decide] at hb
    have hsp : (row.drop (row.length - 3)).take (row.length - 1 - (row.length - 3)) = Kg56.ascii "Sp" := by
      refine Decidable.byContradiction fun c => ?_
      rw [decide_eq_false c] at hb
      cases hb
    rw [z] at hs
    have hs' : Sk.spinOf row = (Sk.nameOf (row.take (row.length - 3))).map fun n => .spin n v := by
      rw [hs]
      show (if _ then _ else _) = _
      rw [if_pos hsp]
    have e02 := e1.trans e2
    refine q_asg (ev_callN (el_is (el_sl (hi := some (-3)) (ev_var rfl) eo_none (eo_some (ev_un ev_c ru_neg)) (ex_l e02 hr2)) (cut_name row)) fun p H3 e3 h3 => sv_name (sq_of h3)) fun H3 e3 => ?_
    refine q_when (et_test (ev_op (ev_var rfl) ev_c rv_isN)) (fun hb2 H4 e4 => ?_) (fun hb2 H4 e4 => ?_)
    · rw [opt_non] at hb2
      rw [hs', Option.isNone_iff_eq_none.mp hb2] at k
      exact s_ret ev_c fun H5 e5 => k _ _ (((e02.trans e3).trans e4).trans e5) rfl
    · rw [opt_non] at hb2
      cases y : Sk.nameOf (row.take (row.length - 3)) with
      | none => rw [y] at hb2; cases hb2
      | some n =>
        rw [y] at hs'
        rw [hs'] at k
        have e04 := (e02.trans e3).trans e4
        refine make_elem (j := .spin n v) ev_c (ev_var rfl) (ev_var rfl) ⟨(Sk.name_is y).1, level_lt z⟩ rfl fun x H5 e5 hx => k _ _ (e04.trans e5) ⟨x, rfl, hx.ex (nw_back e04)⟩
theorem ok_steps_of (T : Txt K mg a) : FnOk P w K mg base CX0 5 a.f_steps_of a.d_steps_of ["row"] (sp_elem a K Sk.stepsOf) := by
  refine T.F_steps_of.ok sc_steps_of (fun vs H Q E h => ?_) (fun cdv A outer s H vs Q E hr h => ?_)
  · obtain ⟨_, _, rfl, _⟩ := h
    rfl
  refine ⟨_, (pss_cons (ps_if (pt_cmpR (op_eqD hr.units) (pv 0) (pe_call (ok_codes T) (hr.mono (by decide)) rfl T.g_codes T.k_codes T.b_codes .nil pass0 (by exact (pa_cons pe_str pa_nil))) (nomark _)) (pss_one (ps_ret (pe_make T.mk_Element (ok_Element___init__ T) (hr.mono (by decide)) rfl T.gC_Element T.b_Element___init__ .nil pass0 (by exact (pa_cons (pe_gint rfl T.i_OTHERS) (pa_cons (pe_lst pa_nil) (pa_cons pe_int (pa_cons pe_int pa_nil)))))))) pss_nil)
    (pss_cons (ps_set (i := 1) sc_steps_of.nd rfl (Or.inl rfl) (pe_call (ok_level_of T) (hr.mono (by decide)) rfl T.g_level_of T.k_level_of T.b_level_of .nil pass0 (by exact (pa_cons (pe_slice sl_list (pv 0) (po_some pe_int) po_none) pa_nil))))
    (pss_cons (ps_if (PW.pt (pw_or (pt_cmpR op_isN (pv 1) pe_non (nomark _)) (pw_or1 (pt_cmpR (op_neD hr.units) (pe_slice sl_list (pv 0) po_none (po_some pe_int)) (pe_call (ok_codes T) (hr.mono (by decide)) rfl T.g_codes T.k_codes T.b_codes .nil pass0 (by exact (pa_cons pe_str pa_nil))) (nomark _))))) (pss_one (ps_ret pe_non)) pss_nil)
    (pss_one (ps_ret (pe_make T.mk_Element (ok_Element___init__ T) (hr.mono (by decide)) rfl T.gC_Element T.b_Element___init__ .nil pass0 (by exact (pa_cons (pe_gint rfl T.i_STEPS) (pa_cons (pe_lst pa_nil) (pa_cons pe_int (pa_cons (pv 1) pa_nil))))))))))), ?_⟩

  obtain ⟨r, row, rfl, hr2, _, k⟩ := h
  have hs : Sk.stepsOf row = if row = Kg56.ascii "ChSq1" then some .choreo else match Sk.numberIn Sk.LEVELS (row.drop 4) with
    | none => none
    | some v => if row.take 4 = Kg56.ascii "StSq" then some (.steps v) else none := rfl
  refine q_when (et_test (ev_eqNew (ns := iz row) (ms := iz (codesOf "ChSq1")) (ev_var rfl) hr2 (el_codes ev_c (by decide)))) (fun hb H1 e1 => ?_) (fun hb H1 e1 => ?_)
  · rw [iz_dec, show codesOf "ChSq1" = Kg56.ascii "ChSq1" by decide] at hb
    rw [hs, if_pos (of_decide_eq_true hb)] at k
    refine make_elem (j := .choreo) ev_c ev_c ev_c trivial rfl fun x H2 e2 hx => k _ _ (e1.trans e2) ⟨x, rfl, hx.ex (nw_back e1)⟩
  rw [iz_dec, show codesOf "ChSq1" = Kg56.ascii "ChSq1" by decide] at hb
  rw [if_neg (of_decide_eq_false hb)] at hs
  refine q_asg (ev_callN (el_is (el_sl (lo := some ((4 : Nat) : Int)) (ev_var rfl) (eo_some ev_c) eo_none (ex_l e1 hr2)) (cut_from row 4)) fun p H2 e2 h2 => sv_level (sq_of h2)) fun H2 e2 => ?_
  have e02 := e1.trans e2
  have cut4 : cutV (tv row) none (some ((4 : Nat) : Int)) = (iz (row.take 4)).map V.int := cut_to row 4
  refine q_when (b := (Sk.numberIn Sk.LEVELS (row.drop 4)).isNone || !decide (iz (row.take 4) = iz (codesOf "StSq"))) (et_or (et_is (et_test (ev_op (ev_var rfl) ev_c rv_isN)) (opt_non _)) fun _ => et_test (ev_neNew2 (el_is (el_sl (hi := some ((4 : Nat) : Int)) (ev_var rfl) eo_none (eo_some ev_c) (ex_l e02 hr2)) cut4) (el_codes ev_c (by decide)))) (fun hb H3 e3 => ?_) (fun hb H3 e3 => ?_)
  · have : Sk.stepsOf row = none := by
      rw [hs]
      cases z : Sk.numberIn Sk.LEVELS (row.drop 4) with
      | none => rfl
      | some v =>
        rw [z, iz_dec, show codesOf "StSq" = Kg56.ascii "StSq" by decide] at hb
        show (if _ then _ else _) = _
        rw [if_neg fun c => by rw [decide_eq_true c] at hb; cases hb]
    rw [this] at k
    exact s_ret ev_c fun H4 e4 => k _ _ ((e02.trans e3).trans e4) rfl
  cases z : Sk.numberIn Sk.LEVELS (row.drop 4) with
  | none => rw [z] at hb; cases hb
  | some v =>
    rw [z, iz_dec, show codesOf "StSq" = Kg56.ascii "StSq" by decide] at hb
    have hsp : row.take 4 = Kg56.ascii "StSq" := by
      refine Decidable.byContradiction fun c => ?_
      rw [decide_eq_false c] at hb
      cases hb
    rw [z] at hs
    have hs' : Sk.stepsOf row = some (.steps v) := by
      rw [hs]
      show (if _ then _ else _) = _
      rw [if_pos hsp]
    rw [hs'] at k
    have e03 := e02.trans e3
    refine make_elem (j := .steps v) ev_c ev_c (ev_var rfl) (level_lt z) rfl fun x H5 e5 hx => k _ _ (e03.trans e5) ⟨x, rfl, hx.ex (nw_back e03)⟩
end
end SkW

set_option Elab.async false
set_option linter.all false
set_option maxRecDepth 100000
set_option maxHeartbeats 4000000
namespace SkW
open PySem PySem.Spec PyProof.Rows L2 Evl
section
variable {P : Program} {w : World} {K : PySem.W.Frag} {mg : Str → Option Value} {base : Heap} {a : Ad}
theorem ElemV.non {H : Hp} {v : V} {o : Option Kg56.Element} (h : ElemV a H v o) : decide (v = .non) = o.isNone := by
  cases o with
  | none => rw [show v = .non from h]; rfl
  | some j => obtain ⟨x, rfl, _⟩ := h; rfl
/-- the first that's there -/
def firstOf : List (Option Kg56.Element) → Option Kg56.Element
  | [] => none
  | none :: r => firstOf r
  | some e :: _ => some e
theorem firstOf_at : ∀ {os : List (Option Kg56.Element)} {i : Nat} {e : Kg56.Element}, os[i]? = some (some e) → (∀ (j : Nat) o, j < i → os[j]? = some o → o = none) → firstOf os = some e
  | [], _, _, h, _ => by simp at h
  | o :: r, 0, e, h, _ => by
    have : o = some e := by simpa using h
    rw [this]; rfl
  | o :: r, i + 1, e, h, hn => by
    have : o = none := hn 0 o (by omega) rfl
    subst this
    exact firstOf_at (os := r) (by simpa using h) fun j o hj ho => hn (j + 1) o (by omega) (by simpa using ho)
theorem firstOf_none : ∀ {os : List (Option Kg56.Element)}, (∀ (j : Nat) o, os[j]? = some o → o = none) → firstOf os = none
  | [], _ => rfl
  | o :: r, hn => by
    have : o = none := hn 0 o rfl
    subst this
    exact firstOf_none (os := r) fun j o ho => hn (j + 1) o (by simpa using ho)
theorem ok_element_of (T : Txt K mg a) : FnOk P w K mg base CX0 7 a.f_element_of a.d_element_of ["row"] (sp_elem a K Sk.elementOf) := by
  refine T.F_element_of.ok sc_element_of (fun vs H Q E h => ?_) (fun cdv A outer s H vs Q E hr h => ?_)
  · obtain ⟨_, _, rfl, _⟩ := h
    rfl
  refine ⟨_, (pss_cons (ps_for PassesOwn.never rfl (pi_tup (pe_tup (pa_cons (pe_call (ok_jumps_of T) (hr.mono (by decide)) rfl T.g_jumps_of T.k_jumps_of T.b_jumps_of .nil pass0 (by exact (pa_cons (pv 0) pa_nil))) (pa_cons (pe_call (ok_spin_of T) (hr.mono (by decide)) rfl T.g_spin_of T.k_spin_of T.b_spin_of .nil pass0 (by exact (pa_cons (pv 0) pa_nil))) (pa_cons (pe_call (ok_steps_of T) (hr.mono (by decide)) rfl T.g_steps_of T.k_steps_of T.b_steps_of .nil pass0 (by exact (pa_cons (pv 0) pa_nil))) pa_nil))))) (pg_name (i := 1) sc_element_of.nd rfl (Or.inl rfl))
      (pss_one (ps_if (pt_cmpR op_notN (pv 1) pe_non (nomark _)) (pss_one (ps_ret (pv 1))) pss_nil)))
    (pss_one (ps_ret pe_non))), ?_⟩

  obtain ⟨r, row, rfl, hr2, hl, k⟩ := h
  refine ⟨_, rfl, r, row, rfl, hr2, hl, fun v1 H1 e1 hv1 => ⟨_, rfl, r, row, rfl, ex_l e1 hr2, hl, fun v2 H2 e2 hv2 => ⟨_, rfl, r, row, rfl, ex_l (e1.trans e2) hr2, hl, fun v3 H3 e3 hv3 => ⟨Nat.le_of_ble_eq_true rfl, fun t ht => ?_⟩⟩⟩⟩
  have e03 := (e1.trans e2).trans e3
  have et : Ex H3 (upd H3 t (.tup [v1, v2, v3])) := Ex.new ht
  have hp : Paired (fun v o => ElemV a (nw H H3) v o) [v1, v2, v3] [(Sk.jumpsOf row).map Kg56.Element.jumps, Sk.spinOf row, Sk.stepsOf row] :=
    .cons (hv1.ex (nw_mono (e2.trans e3))) (.cons ((hv2.ex (nw_mono e3)).ex (nw_back e1)) (.cons (hv3.ex (nw_back (e1.trans e2))) .nil))
  have hf : firstOf [(Sk.jumpsOf row).map Kg56.Element.jumps, Sk.spinOf row, Sk.stepsOf row] = Sk.elementOf row := by
    unfold Sk.elementOf
    cases Sk.jumpsOf row with
    | some l => rfl
    | none =>
      cases Sk.spinOf row with
      | some e => rfl
      | none => cases Sk.stepsOf row <;> rfl
  generalize [(Sk.jumpsOf row).map Kg56.Element.jumps, Sk.spinOf row, Sk.stepsOf row] = os at hp hf
  have hlen := Paired.length hp
  refine ⟨t, rfl, ⟨_, st_of upd_same⟩, for_tup (xs := [v1, v2, v3]) (fun i σ' H' => Ex (upd H3 t (.tup [v1, v2, v3])) H' ∧ (∀ j o, j < i → os[j]? = some o → o = none) ∧ ∃ y, σ' = [some (.ref r), y]) ⟨Ex.refl _, fun j o hj => by omega, none, rfl⟩ (fun i σ' H' _ pv => st_of (pv.1 _ _ upd_same)) (fun i x σ' H' hi pv => ?_) (fun σ' H' pv => ?_)⟩
  · obtain ⟨e4, hn, y, hσ⟩ := pv
    subst hσ
    obtain ⟨o, ho, hv⟩ := paired_get hp hi
    refine s_when (et_test (ev_op (ev_var rfl) ev_c rv_notN)) (fun hb H5 e5 => ?_) (fun hb H5 e5 => ?_)
    · rw [ElemV.non hv] at hb
      cases o with
      | none => cases hb
      | some e =>
        rw [← hf, firstOf_at ho hn] at k
        exact s_ret (ev_var rfl) fun H6 e6 => k _ _ (e03.trans (et.trans (e4.trans (e5.trans e6)))) (hv.ex (nw_mono (et.trans (e4.trans (e5.trans e6)))))
    · rw [ElemV.non hv] at hb
      cases o with
      | some e => cases hb
      | none =>
        refine ⟨e4.trans e5, fun j o hj h => ?_, _, rfl⟩
        by_cases c : j = i
        · subst c
          rw [ho] at h
          exact (Option.some.inj h).symm
        · exact hn j o (by omega) h
  · obtain ⟨e4, hn, y, hσ⟩ := pv
    subst hσ
    rw [← hf, firstOf_none fun j o h => hn j o (by rw [hlen]; exact (List.getElem?_eq_some_iff.mp h).1) h] at k
    exact k .non H' (e03.trans (et.trans e4)) rfl
end
end SkW

set_option Elab.async false
set_option linter.all false
set_option maxRecDepth 100000
set_option maxHeartbeats 4000000
namespace SkW
open PySem PySem.Spec PyProof.Rows L2 Evl
section
variable {P : Program} {w : World} {K : PySem.W.Frag} {mg : Str → Option Value} {base : Heap} {a : Ad}
/-! ### told elements and programs in the heap -/
def GradesOk (gs : List Int) : Prop := 0 < gs.length ∧ gs.length < 64
/-- z: the object, its element -/
def SkAt (a : Ad) (K : PySem.W.Frag) (H : Hp) (z : Addr × Addr) (x : Sk.Val) : Prop := ∃ dx g, H z.1 = some (.ins a.c_Skated dx (F_Skated (.ref z.2) (.bl x.1.second) (.ref g) (.bl x.2.1) (.int (x.2.2.1 : Nat)) (.int (x.2.2.2 : Nat)))) ∧
  ElemAt a H z.2 x.1.element ∧ SqL K H g (x.1.grades.map V.int) ∧ GradesOk x.1.grades ∧ Sk.ValOk x
theorem SkAt.ex {H H' : Hp} {z : Addr × Addr} {x : Sk.Val} (h : SkAt a K H z x) (e : Ex H H') : SkAt a K H' z x := by
  obtain ⟨dx, g, h1, h2, h3, h4⟩ := h
  exact ⟨dx, g, e _ _ h1, h2.ex e, ex_l e h3, h4⟩
def SeenAt (K : PySem.W.Frag) (H : Hp) (q : Addr) (x : (Nat × Nat) × Bool) : Prop := SqT K H q [.int (x.1.1 : Nat), .int (x.1.2 : Nat), .bl x.2]
theorem SeenAt.ex {H H' : Hp} {q : Addr} {x : (Nat × Nat) × Bool} (h : SeenAt K H q x) (e : Ex H H') : SeenAt K H' q x := ex_t e h
def freeV (free : Bool) : V := .int ((if free then 1 else 0 : Nat) : Int)
/-- a program: its lists, what they hold (told in G, what can't change) -/
structure ProgAt (a : Ad) (K : PySem.W.Frag) (G H : Hp) (p sk se : Addr) (ro fa : V) (free : Bool) (vals : List Sk.Val) (seen : Sk.Seen) : Prop where
  le : Ex G H
  obj : ∃ dx, H p = some (.ins a.c_Program dx (F_Program (freeV free) (.ref sk) (.ref se) ro fa))
  sks : ∃ zs : List (Addr × Addr), H sk = some (.lst (zs.map fun z => V.ref z.1)) ∧ Paired (SkAt a K G) zs vals
  sees : ∃ ss : List Addr, H se = some (.lst (ss.map V.ref)) ∧ Paired (SeenAt K G) ss seen
  few : vals.length ≤ 20
  less : seen.length ≤ 100
  apart : sk ≠ se
theorem ProgAt.ex {G H H' : Hp} {p sk se : Addr} {ro fa : V} {free : Bool} {vals : List Sk.Val} {seen : Sk.Seen} (h : ProgAt a K G H p sk se ro fa free vals seen) (e : Ex H H') : ProgAt a K G H' p sk se ro fa free vals seen := by
  obtain ⟨h0, ⟨dx, h1⟩, ⟨zs, h2, h3⟩, ⟨ss, h4, h5⟩, h6, h7, h8⟩ := h
  exact ⟨h0.trans e, ⟨dx, e _ _ h1⟩, ⟨zs, e _ _ h2, h3⟩, ⟨ss, e _ _ h4, h5⟩, h6, h7, h8⟩
def sp_Skated_init (a : Ad) : Sp := fun vs H Q _ => ∃ (p dx : Addr) (v1 v2 v3 : V), vs = [.ref p, v1, v2, v3] ∧ H p = some (.ins a.c_Skated dx []) ∧ ∀ H', H' p = some (.ins a.c_Skated dx (F_Skated v1 v2 v3 (.bl false) (.int 0) (.int 0))) → But p H H' → Q .non H'
theorem ok_Skated___init__ (T : Txt K mg a) : FnOk P w K mg base CX0 1 a.f_Skated___init__ a.d_Skated___init__ ["self", "element", "is_later", "grades"] (sp_Skated_init a) := by
  refine T.F_Skated___init__.ok sc_Skated___init__ (fun vs H Q E h => ?_) (fun cdv A outer s H vs Q E hr h => ?_)
  · obtain ⟨_, _, _, _, _, rfl, _⟩ := h
    rfl
  refine ⟨_, (pss_cons (ps_fld (pv 0) (pv 1) rfl)
    (pss_cons (ps_fld (pv 0) (pv 2) rfl)
    (pss_cons (ps_fld (pv 0) (pv 3) rfl)
    (pss_cons (ps_fld (pv 0) pe_bl rfl)
    (pss_cons (ps_fld (pv 0) pe_int rfl)
    (pss_one (ps_fld (pv 0) pe_int rfl))))))), ?_⟩

  obtain ⟨p, dx, v1, v2, v3, rfl, hp, k⟩ := h
  refine ⟨_, rfl, _, rfl, p, _, dx, [], rfl, hp, T.C_Skated, T.n_Skated_skill, (by decide : 0 < 1000), ?_⟩
  refine ⟨_, rfl, _, rfl, p, _, dx, _, rfl, upd_same, T.C_Skated, T.n_Skated_is_later, (by decide : 1 < 1000), ?_⟩
  refine ⟨_, rfl, _, rfl, p, _, dx, _, rfl, upd_same, T.C_Skated, T.n_Skated_grades, (by decide : 2 < 1000), ?_⟩
  refine ⟨_, rfl, p, _, dx, _, rfl, upd_same, T.C_Skated, T.n_Skated_is_counted, (by decide : 3 < 1000), ?_⟩
  refine ⟨_, rfl, p, _, dx, _, rfl, upd_same, T.C_Skated, T.n_Skated_plain_worth, (by decide : 4 < 1000), ?_⟩
  refine ⟨_, rfl, p, _, dx, _, rfl, upd_same, T.C_Skated, T.n_Skated_goes_by, (by decide : 5 < 1000), ?_⟩
  exact k _ upd_same fun b o e hb => by rw [upd_ne hb, upd_ne hb, upd_ne hb, upd_ne hb, upd_ne hb, upd_ne hb]; exact e
def sp_made (a : Ad) (K : PySem.W.Frag) : Sp := fun vs H Q _ => ∃ (z : Addr × Addr) (x : Sk.Val), vs = [.ref z.1] ∧ SkAt a K H z x ∧ RetV (.int (Sk.madeOf x)) H Q
theorem ok_Skated_made (T : Txt K mg a) : FnOk P w K mg base CX0 5 a.f_Skated_made a.d_Skated_made ["self"] (sp_made a K) := by
  refine T.F_Skated_made.ok sc_Skated_made (fun vs H Q E h => ?_) (fun cdv A outer s H vs Q E hr h => ?_)
  · obtain ⟨_, _, rfl, _⟩ := h
    rfl
  refine ⟨_, (pss_cons (ps_if (pt_not (pt_val (pe_fld (pv 0) rfl))) (pss_one (ps_ret pe_int)) pss_nil)
    (pss_one (ps_ret (pe_call (ok_graded T) (hr.mono (by decide)) rfl T.g_graded T.k_graded T.b_graded .nil pass0 (by exact (pa_cons (pe_fld (pv 0) rfl) (pa_cons (pe_fld (pv 0) rfl) pa_nil))))))), ?_⟩

  obtain ⟨z, x, rfl, ⟨dx, g, hp, he, hg, hgo, hv⟩, k⟩ := h
  refine q_when (et_not (et_B (ev_fld (ev_var rfl) hp T.C_Skated T.n_Skated_is_counted rfl))) (fun hb H1 e1 => ?_) (fun hb H1 e1 => ?_)
  · have c : ¬ x.2.1 = true := by simpa using hb
    unfold Sk.madeOf at k
    rw [if_neg c] at k
    exact s_ret ev_c fun H2 e2 => k.go (e1.trans e2)
  · have c : x.2.1 = true := by simpa using hb
    unfold Sk.madeOf at k
    rw [if_pos c] at k
    refine s_ret (ev_call (ea_cons (ev_fld (ev_var rfl) (e1 _ _ hp) T.C_Skated T.n_Skated_grades rfl) (ea_cons (ev_fld (ev_var rfl) (e1 _ _ hp) T.C_Skated T.n_Skated_goes_by rfl) ea_nil)) fun H2 e2 Q2 q2 E2 => ⟨g, x.1.grades, x.2.2.2, rfl, ex_l (e1.trans e2) hg, hgo.2, hgo.1, by have := hv.2.1; omega, q2⟩) fun H2 e2 => k.go (e1.trans e2)
def sp_Program_init (a : Ad) (K : PySem.W.Frag) : Sp := fun vs H Q _ => ∃ (p dx : Addr) (free : Bool), vs = [.ref p, freeV free] ∧ H p = some (.ins a.c_Program dx []) ∧
  ∀ H' sk se fa, H sk = none → H se = none → H fa = none → sk ≠ se → H' p = some (.ins a.c_Program dx (F_Program (freeV free) (.ref sk) (.ref se) .non (.ref fa))) → H' sk = some (.lst []) → H' se = some (.lst []) → H' fa = some (.tup [.int 0, .int 0, .int 0]) → But p H H' → Q .non H'
theorem ok_Program___init__ (T : Txt K mg a) : FnOk P w K mg base CX0 1 a.f_Program___init__ a.d_Program___init__ ["self", "free"] (sp_Program_init a K) := by
  refine T.F_Program___init__.ok sc_Program___init__ (fun vs H Q E h => ?_) (fun cdv A outer s H vs Q E hr h => ?_)
  · obtain ⟨_, _, _, rfl, _⟩ := h
    rfl
  refine ⟨_, (pss_cons (ps_fld (pv 0) (pv 1) rfl)
    (pss_cons (ps_fld (pv 0) (pe_lst pa_nil) rfl)
    (pss_cons (ps_fld (pv 0) (pe_lst pa_nil) rfl)
    (pss_cons (ps_fld (pv 0) pe_non rfl)
    (pss_one (ps_fld (pv 0) (pe_tup (pa_cons pe_int (pa_cons pe_int (pa_cons pe_int pa_nil)))) rfl)))))), ?_⟩

  obtain ⟨p, dx, free, rfl, hp, k⟩ := h
  refine ⟨_, rfl, _, rfl, p, _, dx, [], rfl, hp, T.C_Program, T.n_Program_free, (by decide : 0 < 1000), ?_⟩
  refine ⟨Nat.zero_le _, fun sk hsk => ?_⟩
  have nsk : sk ≠ p := fun z => by rw [z, upd_same] at hsk; cases hsk
  refine ⟨_, rfl, p, _, dx, _, rfl, (upd_ne (Ne.symm nsk)).trans upd_same, T.C_Program, T.n_Program_skated, (by decide : 1 < 1000), ?_⟩
  refine ⟨Nat.zero_le _, fun se hse => ?_⟩
  have nse : se ≠ p := fun z => by rw [z, upd_same] at hse; cases hse
  refine ⟨_, rfl, p, _, dx, _, rfl, (upd_ne (Ne.symm nse)).trans upd_same, T.C_Program, T.n_Program_seen, (by decide : 2 < 1000), ?_⟩
  refine ⟨_, rfl, p, _, dx, _, rfl, upd_same, T.C_Program, T.n_Program_rows, (by decide : 3 < 1000), ?_⟩
  refine ⟨Nat.le_of_ble_eq_true rfl, fun fa hfa => ?_⟩
  have nfa : fa ≠ p := fun z => by rw [z, upd_same] at hfa; cases hfa
  refine ⟨_, rfl, p, _, dx, _, rfl, (upd_ne (Ne.symm nfa)).trans upd_same, T.C_Program, T.n_Program_told_faults, (by decide : 4 < 1000), ?_⟩
  have hsk' : H sk = none := by rwa [upd_ne nsk] at hsk
  rw [upd_ne nse] at hse
  have nss : se ≠ sk := fun z => by rw [z, upd_same] at hse; cases hse
  rw [upd_ne nss, upd_ne nse] at hse
  rw [upd_ne nfa, upd_ne nfa] at hfa
  have nfs : fa ≠ se := fun z => by rw [z, upd_same] at hfa; cases hfa
  rw [upd_ne nfs, upd_ne nfa] at hfa
  have nfk : fa ≠ sk := fun z => by rw [z, upd_same] at hfa; cases hfa
  rw [upd_ne nfk, upd_ne nfa] at hfa
  refine k _ sk se fa hsk' hse hfa (Ne.symm nss) upd_same ?_ ?_ ?_ fun b o e hb => ?_
  · rw [upd_ne nsk, upd_ne (Ne.symm nfk), upd_ne nsk, upd_ne nsk, upd_ne (Ne.symm nss), upd_ne nsk, upd_same]
  · rw [upd_ne nse, upd_ne (Ne.symm nfs), upd_ne nse, upd_ne nse, upd_same]
  · rw [upd_ne nfa, upd_same]
  · rw [upd_ne hb, upd_ne (ne_of_none e hfa), upd_ne hb, upd_ne hb, upd_ne (ne_of_none e hse), upd_ne hb, upd_ne (ne_of_none e hsk'), upd_ne hb]
    exact e
def sp_counted (a : Ad) (K : PySem.W.Frag) : Sp := fun vs H Q _ => ∃ (p sk se : Addr) (ro fa : V) (free : Bool) (vals : List Sk.Val) (seen : Sk.Seen) (G : Hp) (sort : Nat), vs = [.ref p, .int sort] ∧ ProgAt a K G H p sk se ro fa free vals seen ∧
  ∀ q es H1, H q = none → Ex H H1 → H1 q = some (.lst (es.map V.ref)) → Paired (ElemAt a H) es (Sk.counted sort vals) → Q (.ref q) H1
theorem ok_Program_counted (T : Txt K mg a) : FnOk P w K mg base CX0 1 a.f_Program_counted a.d_Program_counted ["self", "sort"] (sp_counted a K) := by
  refine T.F_Program_counted.ok sc_Program_counted (fun vs H Q E h => ?_) (fun cdv A outer s H vs Q E hr h => ?_)
  · obtain ⟨_, _, _, _, _, _, _, _, _, _, rfl, _⟩ := h
    rfl
  refine ⟨_, (pss_one (ps_ret (pe_lc (own := [("one", 2)]) rfl sc_Program_counted.nd (pi_list (pe_fld (pv 0) rfl)) (blkOk_by (N := ["self", "sort", "one"]) (sc := defScope s_Program_counted) (by decide +kernel)) (fun _ _ _ _ _ => (pg_name (i := 2) sc_Program_counted.nd rfl (by first | exact Or.inl rfl | exact Or.inr rfl))) (fun _ _ _ _ _ => (pts_one (PW.pt (pw_and (pt_val (pe_fldK (K := K) rfl (pv 2) rfl)) (pw_and1 (pt_cmpR op_eq (pe_fldK (K := K) rfl (pe_fldK (K := K) rfl (pv 2) rfl) rfl) (pv 1) (nomark _))))))) (fun _ _ _ _ _ => (pe_fldK (K := K) rfl (pv 2) rfl))))), ?_⟩

  obtain ⟨p, sk, se, ro, fa, free, vals, seen, G, sort, rfl, ⟨le, ⟨dx, hp⟩, ⟨zs, hsk, hz⟩, _, few, _, _⟩, k⟩ := h
  obtain ⟨ws, h1, h2, h3⟩ := paired_zip hz
  have hwl : ws.length ≤ 20 := by
    have : (ws.map (·.2)).length = vals.length := by rw [h2]
    rw [List.length_map] at this
    omega
  have hx : SqL K H sk (ws.map fun y => V.ref y.1.1) := by
    have : (ws.map fun y => V.ref y.1.1) = zs.map fun z => V.ref z.1 := by rw [← h1, List.map_map]; rfl
    rw [this]
    exact sq_of hsk
  refine s_retL (el_pick ws (fun y => y.2.2.1 && (Sk.sortOf y.2.1.element == sort)) (fun y => V.ref y.1.1) (fun y => V.ref y.1.2) (ev_fld (ev_var rfl) hp T.C_Program T.n_Program_skated rfl) hx (by omega) ?_ ?_ ?_) fun q H1 hq e1 hq1 => k q ((ws.filter fun y => y.2.2.1 && (Sk.sortOf y.2.1.element == sort)).map fun y => y.1.2) H1 hq e1 ?_ ?_
  · exact fun _ => rfl
  · intro y H1 e1 hy
    obtain ⟨dy, g, s1, s2, s3, s4⟩ := (h3 y hy).ex (le.trans e1)
    obtain ⟨_, dz, qz, t1, t2⟩ := s2
    refine et_and (et_B (ev_fld (ev_var rfl) s1 T.C_Skated T.n_Skated_is_counted rfl)) fun _ => et_is (et_test (ev_op (ev_fld (ev_fld (ev_var rfl) s1 T.C_Skated T.n_Skated_skill rfl) t1 T.C_Element T.n_Element_sort_told rfl) (ev_var rfl) (rv_eq rfl))) ?_
    rw [← dec_ints (i := Sk.sortOf y.2.1.element) (j := sort) rfl]
    by_cases c : Sk.sortOf y.2.1.element = sort
    · rw [decide_eq_true c]; exact (beq_iff_eq.mpr c).symm
    · rw [decide_eq_false c]; exact (beq_eq_false_iff_ne.mpr c).symm
  · intro y H1 e1 hy _
    obtain ⟨dy, g, s1, s2, s3, s4⟩ := (h3 y hy).ex (le.trans e1)
    exact ev_fld (ev_var rfl) s1 T.C_Skated T.n_Skated_skill rfl
  · rw [hq1, List.map_map]; rfl
  · have hc : Sk.counted sort vals = (ws.filter fun y => y.2.2.1 && (Sk.sortOf y.2.1.element == sort)).map fun y => y.2.1.element := by
      unfold Sk.counted
      rw [← h2, ← zip_filter (fun x : Sk.Val => x.2.1 && Sk.sortOf x.1.element == sort), List.map_map]
      rfl
    rw [hc]
    exact paired_of_zip (R := ElemAt a H) (f := fun z : Addr × Addr => z.2) (g := fun x : Sk.Val => x.1.element) fun z hz' => by
      obtain ⟨_, _, _, s2, _⟩ := h3 z (List.mem_filter.mp hz').1
      exact s2.ex le
end
end SkW

set_option Elab.async false
set_option linter.all false
set_option maxRecDepth 100000
set_option maxHeartbeats 4000000
namespace SkW
open PySem PySem.Spec PyProof.Rows L2 Evl
section
variable {P : Program} {w : World} {K : PySem.W.Frag} {mg : Str → Option Value} {base : Heap} {a : Ad}
theorem ev_eqNil {σ : L2.St} {H : Hp} {ta tb : TE} {p : Addr} {xs : List V} (ha : Ev ta σ H (.ref p)) (h : SqL K H p xs) (hb : EvL tb σ H []) : Ev (tOp (rEqNil K) ta tb) σ H (.bl xs.isEmpty) :=
  ev_opL ha hb fun q H1 hq e H2 e2 Q k => ⟨p, q, xs, rfl, rfl, ex_l (e.trans e2) h, ex_l e2 (sq_of hq), k H2 (Ex.refl H2)⟩
theorem at_free {x y : V} (free : Bool) : atI [x, y] ((if free then 1 else 0 : Nat) : Int) = some (if free then y else x) := by cases free <;> rfl
theorem sv_is_row {H : Hp} {p : Addr} {e : Kg56.Element} (h : ElemAt a H p e) : SpV (sp_is_row a) [.ref p] H (.bl (decide (2 ≤ (Sk.jumpsIn e).length))) := fun H1 e1 Q q E => ⟨p, e, rfl, h.ex e1, q⟩
/-- x = self.counted(sort) -/
theorem q_counted {σ : L2.St} {H : Hp} {D : Ends} {ta tb : TE} {tz : TS} {i : Nat} {E : XK} {G : Hp} {p sk se : Addr} {ro fa : V} {free : Bool} {vals : List Sk.Val} {seen : Sk.Seen} {sort : Nat} (h : Ev ta σ H (.ref p)) (hb : Ev tb σ H (.int sort)) (hP : ProgAt a K G H p sk se ro fa free vals seen)
    (k : ∀ q es H1, H q = none → Ex H H1 → H1 q = some (.lst (es.map V.ref)) → Paired (ElemAt a H1) es (Sk.counted sort vals) → tz D (σ.set i (some (.ref q))) H1) : tSeq (tAsg (tMeth a.c_Program "counted" (sp_counted a K) [] E ta (tCons tb tNil)) (gName i)) tz D σ H :=
  h H (Ex.refl H) _ fun H1 e1 => by
    obtain ⟨dx, hp⟩ := (hP.ex e1).obj
    exact ⟨p, dx, _, rfl, hp, rfl, hb H1 e1 _ fun H2 e2 => ⟨p, sk, se, ro, fa, free, vals, seen, G, sort, rfl, hP.ex (e1.trans e2), fun q es H3 hq e3 h3 hp3 => k q es H3 (fresh_back (e1.trans e2) hq) ((e1.trans e2).trans e3) h3 (Paired.mapP hp3 fun _ _ z => z.ex e3)⟩⟩
theorem ge_nat (x y : Nat) : decide ((x : Int) ≤ (y : Int)) = decide (x ≤ y) := decide_eq_decide.mpr (by omega)
theorem lt_nat (x y : Nat) : decide ((x : Int) < (y : Int)) = decide (x < y) := decide_eq_decide.mpr (by omega)
def sp_djc (a : Ad) (K : PySem.W.Frag) : Sp := fun vs H Q _ => ∃ (p sk se : Addr) (ro fa : V) (free : Bool) (vals : List Sk.Val) (seen : Sk.Seen) (G : Hp) (e : Addr) (l : List Kg56.Jump), vs = [.ref p, .ref e] ∧ ProgAt a K G H p sk se ro fa free vals seen ∧ ElemAt a H e (.jumps l) ∧
  RetV (.bl (Sk.countsJ free vals l)) H Q
theorem ok_Program_do_jumps_count (T : Txt K mg a) : FnOk P w K mg base CX0 2 a.f_Program_do_jumps_count a.d_Program_do_jumps_count ["self", "element"] (sp_djc a K) := by
  refine T.F_Program_do_jumps_count.ok sc_Program_do_jumps_count (fun vs H Q E h => ?_) (fun cdv A outer s H vs Q E hr h => ?_)
  · obtain ⟨_, _, _, _, _, _, _, _, _, _, _, rfl, _⟩ := h
    rfl
  refine ⟨_, (pss_cons (ps_set (i := 2) sc_Program_do_jumps_count.nd rfl (Or.inl rfl) (pe_meth (pv 0) T.C_Program T.M_Program_counted (ok_Program_counted T) (hr.mono (by decide)) T.b_Program_counted .nil pass0 (by exact (pa_cons (pe_gint rfl T.i_JUMPS) pa_nil))))
    (pss_cons (ps_if (pt_cmpR op_ge (pe_callB call_len_seq rfl T.n_len (by decide +kernel) (by exact (pa_cons (pv 2) pa_nil))) (pe_ix ix_tup (pe_gref rfl T.t_MOST_JUMPED) (pe_fld (pv 0) rfl) (fun _ _ => rfl)) (nomark _)) (pss_one (ps_ret pe_bl)) pss_nil)
    (pss_cons (ps_if (PW.pt (pw_and (pt_val (pe_meth0 (pv 1) T.C_Element T.M_Element_is_row (ok_Element_is_row T) (hr.mono (by decide)) T.b_Element_is_row .nil pass0)) (pw_and1 (pt_cmpR op_ge (pe_callB call_len_seq rfl T.n_len (by decide +kernel) (by exact (pa_cons (pe_lc (own := [("one", 4)]) rfl sc_Program_do_jumps_count.nd (pi_list (pv 2)) (blkOk_by (N := ["self", "element", "some", "of_three", "one"]) (sc := defScope s_Program_do_jumps_count) (by decide +kernel)) (fun _ _ _ _ _ => (pg_name (i := 4) sc_Program_do_jumps_count.nd rfl (by first | exact Or.inl rfl | exact Or.inr rfl))) (fun _ _ _ _ _ => (pts_one (pt_val (pe_meth0 (pv 4) T.C_Element T.M_Element_is_row (ok_Element_is_row T) (hr.mono (by decide)) T.b_Element_is_row .nil pass0)))) (fun _ _ _ _ _ => (pv 4))) pa_nil))) (pe_ix ix_tup (pe_gref rfl T.t_MOST_ROWS) (pe_fld (pv 0) rfl) (fun _ _ => rfl)) (nomark _))))) (pss_one (ps_ret pe_bl)) pss_nil)
    (pss_cons (ps_setLc (i := 3) (own := [("one", 4)]) rfl sc_Program_do_jumps_count.nd rfl rfl (sw_true rfl rfl rfl (by decide +kernel)) (pi_list (pv 2)) (blkOk_by (N := ["self", "element", "some", "of_three", "one"]) (sc := defScope s_Program_do_jumps_count) (by decide +kernel)) (fun _ _ _ _ _ => (pg_name (i := 4) sc_Program_do_jumps_count.nd rfl (by first | exact Or.inl rfl | exact Or.inr rfl))) (fun _ _ _ _ _ => (pts_one (pt_cmpR op_eq (pe_callB (call_len_seqK (K := K) rfl) rfl T.n_len (by decide +kernel) (by exact (pa_cons (pe_fldK (K := K) rfl (pv 4) rfl) pa_nil))) pe_int (nomark _)))) (fun _ _ _ _ _ => (pv 4)))
    (pss_one (ps_ret (pe_or (pe_cmpR op_lt (pe_callB call_len_seq rfl T.n_len (by decide +kernel) (by exact (pa_cons (pe_fld (pv 1) rfl) pa_nil))) pe_int (nomark _)) (pe_one (pe_cmpR op_lt (pe_callB call_len_seq rfl T.n_len (by decide +kernel) (by exact (pa_cons (pv 3) pa_nil))) (pe_ix ix_tup (pe_gref rfl T.t_MOST_OF_THREE) (pe_fld (pv 0) rfl) (fun _ _ => rfl)) (nomark _)))))))))), ?_⟩

  obtain ⟨p, sk, se, ro, fa, free, vals, seen, G, e, l, rfl, hP, he, k⟩ := h
  refine q_counted (sort := 0) (ev_var rfl) ev_c hP fun q es H1 hq e1 hq1 hes => ?_
  have hP1 := hP.ex e1
  have he1 := he.ex e1
  have hel := Paired.length hes
  obtain ⟨ws, w1, w2, w3⟩ := paired_zip hes
  have hwl : ws.length = (Sk.counted 0 vals).length := by rw [← w2, List.length_map]
  have hc20 : (Sk.counted 0 vals).length ≤ 20 := Nat.le_trans (Sk.counted_len 0 vals) hP.few
  have hql : H1 q = some (.lst (ws.map fun y => V.ref y.1)) := by
    have : (ws.map fun y => V.ref y.1) = es.map V.ref := by rw [← w1, List.map_map]; rfl
    rw [this]; exact hq1
  obtain ⟨dx, hp⟩ := hP1.obj
  have nodx (n : Nat) (f : Kg56.Element → Bool) : ((ws.filter fun y => f y.2).map fun y => V.ref y.1).length = ((Sk.counted 0 vals).filter f).length := by
    rw [List.length_map, ← w2, ← zip_filter, List.length_map]
  refine q_when (b := decide (Kg56.jumpsMost free ≤ (Sk.counted 0 vals).length)) (et_is (et_test (ev_op (ev_cb (ea_cons (ev_var rfl) ea_nil) (rc_len (.inl (sq_of hql)))) (ev_op ev_c (ev_fld (ev_var rfl) hp T.C_Program T.n_Program_free rfl) (rv_ixT (v := .int (Kg56.jumpsMost free : Nat)) (T.T_MOST_JUMPED.t H1) (by rw [at_free]; cases free <;> rfl))) rv_I0)) (by rw [ge_nat, List.length_map, hwl])) (fun hb H2 e2 => ?_) (fun hb H2 e2 => ?_)
  · have c := of_decide_eq_true hb
    unfold Sk.countsJ at k
    rw [decide_eq_false (show ¬ (Sk.counted 0 vals).length < Kg56.jumpsMost free by omega), Bool.false_and] at k
    exact s_ret ev_c fun H3 e3 => k.go ((e1.trans e2).trans e3)
  have c1 : (Sk.counted 0 vals).length < Kg56.jumpsMost free := by have := of_decide_eq_false hb; omega
  have hk : Sk.countsJ free vals l = ((decide (l.length < 2) || decide (((Sk.counted 0 vals).filter fun e => decide (2 ≤ (Sk.jumpsIn e).length)).length < Kg56.rowsMost free)) &&
    (decide (l.length < 3) || decide (((Sk.counted 0 vals).filter fun e => decide (3 ≤ (Sk.jumpsIn e).length)).length < Kg56.threesMost free))) := by
    unfold Sk.countsJ
    rw [decide_eq_true c1, Bool.true_and]
  rw [hk] at k
  have e02 := e1.trans e2
  have he2 := he1.ex e2
  obtain ⟨_, dxe, qe, hpe, hqe⟩ := id he2
  have hp2 := e2 _ _ hp
  refine q_when (b := decide (2 ≤ l.length) && decide (Kg56.rowsMost free ≤ ((Sk.counted 0 vals).filter fun e => decide (2 ≤ (Sk.jumpsIn e).length)).length)) (et_and (et_B (ev_meth (ev_var rfl) hpe rfl ea_nil (sv_is_row he2))) fun _ => et_is (et_test (ev_op (ev_lenN' (el_pick ws (fun y => decide (2 ≤ (Sk.jumpsIn y.2).length)) (fun y => V.ref y.1) (fun y => V.ref y.1) (ev_var rfl) (sq_of (e2 _ _ hql)) (by omega) (fun _ => rfl) (fun y H3 e3 hy => ?_) (fun y H3 e3 hy _ => ev_var rfl))) (ev_op ev_c (ev_fld (ev_var rfl) hp2 T.C_Program T.n_Program_free rfl) (rv_ixT (v := .int (Kg56.rowsMost free : Nat)) (T.T_MOST_ROWS.t H2) (by rw [at_free]; cases free <;> rfl))) rv_I0)) ?_) (fun hb H3 e3 => ?_) (fun hb H3 e3 => ?_)
  · have hy2 := (w3 y hy).ex (e2.trans e3)
    obtain ⟨_, dxy, qy, hpy, _⟩ := id hy2
    exact et_B (ev_meth (ev_var rfl) hpy rfl ea_nil (sv_is_row hy2))
  · rw [ge_nat, nodx 0 fun e => decide (2 ≤ (Sk.jumpsIn e).length)]
  · rw [← Bool.decide_and] at hb
    have c := of_decide_eq_true hb
    rw [decide_eq_false (show ¬ l.length < 2 by omega), decide_eq_false (show ¬ ((Sk.counted 0 vals).filter fun e => decide (2 ≤ (Sk.jumpsIn e).length)).length < Kg56.rowsMost free by omega), Bool.or_self, Bool.false_and] at k
    exact s_ret ev_c fun H4 e4 => k.go ((e02.trans e3).trans e4)
  rw [← Bool.decide_and] at hb
  have c2 := of_decide_eq_false hb
  have hk2 : (decide (l.length < 2) || decide (((Sk.counted 0 vals).filter fun e => decide (2 ≤ (Sk.jumpsIn e).length)).length < Kg56.rowsMost free)) = true := by
    rw [← Bool.decide_or]
    exact decide_eq_true (by omega)
  rw [hk2, Bool.true_and] at k
  have e03 := e02.trans e3
  have e13 := e2.trans e3
  refine q_asgL (el_pick ws (fun y => decide (3 ≤ (Sk.jumpsIn y.2).length)) (fun y => V.ref y.1) (fun y => V.ref y.1) (ev_var rfl) (sq_of (e13 _ _ hql)) (by omega) (fun _ => rfl) (fun y H4 e4 hy => ?_) (fun y H4 e4 hy _ => ev_var rfl)) fun o H4 ho e4 h4 => ?_
  · obtain ⟨ww, dxy, qy, hpy, hqy⟩ := (w3 y hy).ex (e13.trans e4)
    obtain ⟨xs, x1, x2⟩ := hqy.len
    refine et_is (et_test (ev_op (ev_cb (ea_cons (ev_fld (ev_var rfl) hpy T.C_Element T.n_Element_jumps rfl) ea_nil) (rc_len (.inl (sq_of x1)))) ev_c (rv_eq rfl))) ?_
    have h3' : (Sk.jumpsIn y.2).length ≤ 3 := by
      cases hy2 : y.2 with
      | jumps l => rw [hy2] at ww; exact ww.2.1
      | spin _ _ => exact Nat.zero_le _
      | steps _ => exact Nat.zero_le _
      | choreo => exact Nat.zero_le _
    have := dec_ints (i := xs.length) (j := 3) rfl
    show decide (V.int (xs.length : Int) = V.int ((3 : Nat) : Int)) = _
    rw [← this, x2]
    exact decide_eq_decide.mpr (by omega)
  have he4 := (he2.ex e3).ex e4
  obtain ⟨_, dx4, q4, hp4, hq4⟩ := id he4
  obtain ⟨xs, x1, x2⟩ := hq4.len
  have hl4 : xs.length = l.length := x2
  refine s_ret (v := .bl (decide (l.length < 3) || decide (((Sk.counted 0 vals).filter fun e => decide (3 ≤ (Sk.jumpsIn e).length)).length < Kg56.threesMost free))) (ev_is (ev_orV (ev_op (ev_cb (ea_cons (ev_fld (ev_var rfl) hp4 T.C_Element T.n_Element_jumps rfl) ea_nil) (rc_len (.inl (sq_of x1)))) ev_c (rv_I0)) fun _ => ev_op (ev_cb (ea_cons (ev_var rfl) ea_nil) (rc_len (.inl (sq_of h4)))) (ev_op ev_c (ev_fld (ev_var rfl) ((e13.trans e4) _ _ hp) T.C_Program T.n_Program_free rfl) (rv_ixT (v := .int (Kg56.threesMost free : Nat)) (T.T_MOST_OF_THREE.t H4) (by rw [at_free]; cases free <;> rfl))) rv_I0) ?_) fun H5 e5 => k.go ((e03.trans e4).trans e5)
  rw [lt_nat, nodx 0 fun e => decide (3 ≤ (Sk.jumpsIn e).length), hl4]
  rw [show decide ((l.length : Int) < 3) = decide (l.length < 3) from decide_eq_decide.mpr (by omega)]
end
end SkW

set_option Elab.async false
set_option linter.all false
set_option maxRecDepth 100000
set_option maxHeartbeats 4000000
namespace SkW
open PySem PySem.Spec PyProof.Rows L2 Evl
section
variable {P : Program} {w : World} {K : PySem.W.Frag} {mg : Str → Option Value} {base : Heap} {a : Ad}
def sp_does (a : Ad) (K : PySem.W.Frag) : Sp := fun vs H Q _ => ∃ (p sk se : Addr) (ro fa : V) (free : Bool) (vals : List Sk.Val) (seen : Sk.Seen) (G : Hp) (e : Addr) (x : Kg56.Element), vs = [.ref p, .ref e] ∧ ProgAt a K G H p sk se ro fa free vals seen ∧ ElemAt a H e x ∧
  RetV (.bl (Sk.doesCount free vals x)) H Q
theorem all_ne {α : Type} (n : Nat) (f : α → Nat) : ∀ l : List α, (l.map fun y => !decide (f y = n)).all id = !(l.map f).contains n
  | [] => rfl
  | y :: l => by
    rw [List.map_cons, List.map_cons, List.all_cons, List.contains_cons, all_ne n f l]
    by_cases c : f y = n
    · rw [c]; simp
    · rw [decide_eq_false c, show (n == f y) = false from beq_eq_false_iff_ne.mpr fun z => c z.symm]; simp
theorem ok_Program_does_count (T : Txt K mg a) : FnOk P w K mg base CX0 3 a.f_Program_does_count a.d_Program_does_count ["self", "element"] (sp_does a K) := by
  refine T.F_Program_does_count.ok sc_Program_does_count (fun vs H Q E h => ?_) (fun cdv A outer s H vs Q E hr h => ?_)
  · obtain ⟨_, _, _, _, _, _, _, _, _, _, _, rfl, _⟩ := h
    rfl
  refine ⟨_, (pss_cons (ps_if (pt_cmpR op_eq (pe_fld (pv 1) rfl) (pe_gint rfl T.i_JUMPS) (nomark _)) (pss_one (ps_ret (pe_meth (pv 0) T.C_Program T.M_Program_do_jumps_count (ok_Program_do_jumps_count T) (hr.mono (by decide)) T.b_Program_do_jumps_count .nil pass0 (by exact (pa_cons (pv 1) pa_nil))))) pss_nil)
    (pss_cons (ps_set (i := 2) sc_Program_does_count.nd rfl (Or.inl rfl) (pe_meth (pv 0) T.C_Program T.M_Program_counted (ok_Program_counted T) (hr.mono (by decide)) T.b_Program_counted .nil pass0 (by exact (pa_cons (pe_fld (pv 1) rfl) pa_nil))))
    (pss_cons (ps_if (pt_cmpR op_eq (pe_fld (pv 1) rfl) (pe_gint rfl T.i_SPIN) (nomark _)) (pss_one (ps_ret (pe_and (pe_cmpR op_lt (pe_callB call_len_seq rfl T.n_len (by decide +kernel) (by exact (pa_cons (pv 2) pa_nil))) (pe_gint rfl T.i_MOST_SPINS) (nomark _)) (pe_one (pe_callB (cr_all rfl) rfl T.n_all (by decide +kernel) (by exact (pa_cons (pe_lc (own := [("one", 3)]) rfl sc_Program_does_count.nd (pi_list (pv 2)) (blkOk_by (N := ["self", "element", "some", "one"]) (sc := defScope s_Program_does_count) (by decide +kernel)) (fun _ _ _ _ _ => (pg_name (i := 3) sc_Program_does_count.nd rfl (by first | exact Or.inl rfl | exact Or.inr rfl))) (fun _ _ _ _ _ => pts_nil) (fun _ _ _ _ _ => (pe_cmpR op_ne (pe_fldK (K := K) rfl (pv 3) rfl) (pe_fldK (K := K) rfl (pv 1) rfl) (nomark _)))) pa_nil))))))) pss_nil)
    (pss_cons (ps_if (pt_cmpR op_eq (pe_fld (pv 1) rfl) (pe_gint rfl T.i_STEPS) (nomark _)) (pss_one (ps_ret (pe_cmpR (op_eqNil hr) (pv 2) (pe_lst pa_nil) (nomark _)))) pss_nil)
    (pss_one (ps_ret (pe_cmpR op_lt (pe_callB call_len_seq rfl T.n_len (by decide +kernel) (by exact (pa_cons (pv 2) pa_nil))) (pe_ix ix_tup (pe_gref rfl T.t_MOST_OTHERS) (pe_fld (pv 0) rfl) (fun _ _ => rfl)) (nomark _)))))))), ?_⟩

  obtain ⟨p, sk, se, ro, fa, free, vals, seen, G, e, x, rfl, hP, he, k⟩ := h
  obtain ⟨hw, dxe, qe, hpe, hqe⟩ := id he
  refine q_when (et_test (ev_op (ev_fld (ev_var rfl) hpe T.C_Element T.n_Element_sort_told rfl) ev_c (rv_eq rfl))) (fun hb H1 e1 => ?_) (fun hb H1 e1 => ?_)
  · have c : Sk.sortOf x = 0 := of_decide_eq_true (dec_ints (j := 0) hb)
    match x, c, he, k with
    | .jumps l, _, he, k =>
      have hP1 := hP.ex e1
      obtain ⟨dx, hp⟩ := hP1.obj
      exact s_ret (ev_meth (ev_var rfl) hp rfl (ea_cons (ev_var rfl) ea_nil) fun H2 e2 Q2 q2 E2 => ⟨p, sk, se, ro, fa, free, vals, seen, G, e, l, rfl, hP1.ex e2, (he.ex e1).ex e2, q2⟩) fun H2 e2 => k.go (e1.trans e2)
  have c0 : Sk.sortOf x ≠ 0 := of_decide_eq_false (dec_ints (j := 0) hb)
  refine q_counted (sort := Sk.sortOf x) (ev_var rfl) (ev_fld (ev_var rfl) (e1 _ _ hpe) T.C_Element T.n_Element_sort_told rfl) (hP.ex e1) fun q es H2 hq e2 hq1 hes => ?_
  have e02 := e1.trans e2
  have hel := Paired.length hes
  obtain ⟨ws, w1, w2, w3⟩ := paired_zip hes
  have hwl : ws.length = (Sk.counted (Sk.sortOf x) vals).length := by rw [← w2, List.length_map]
  have hc20 : (Sk.counted (Sk.sortOf x) vals).length ≤ 20 := Nat.le_trans (Sk.counted_len _ vals) hP.few
  have hql : H2 q = some (.lst (ws.map fun y => V.ref y.1)) := by
    have : (ws.map fun y => V.ref y.1) = es.map V.ref := by rw [← w1, List.map_map]; rfl
    rw [this]; exact hq1
  have hll : (ws.map fun y => V.ref y.1).length = (Sk.counted (Sk.sortOf x) vals).length := by rw [List.length_map, hwl]
  have hpe2 := e02 _ _ hpe
  refine q_when (et_test (ev_op (ev_fld (ev_var rfl) hpe2 T.C_Element T.n_Element_sort_told rfl) ev_c (rv_eq rfl))) (fun hb1 H3 e3 => ?_) (fun hb1 H3 e3 => ?_)
  · have c : Sk.sortOf x = 1 := of_decide_eq_true (dec_ints (j := 1) hb1)
    have hpe3 := (e02.trans e3) _ _ hpe
    match x, c, hpe3, k, ws, hwl, w2, w3, hql, hll, hc20 with
    | .spin n v, _, hpe3, k, ws, hwl, w2, w3, hql, hll, hc20 =>
      have hk : Sk.doesCount free vals (.spin n v) = (decide ((Sk.counted 1 vals).length < 3) && !((Sk.counted 1 vals).map Sk.nameIn).contains n) := rfl
      rw [hk] at k
      refine s_ret (ev_is (ev_andV (a := decide ((Sk.counted 1 vals).length < 3)) (b := !((Sk.counted 1 vals).map Sk.nameIn).contains n) (ev_is (ev_op (ev_cb (ea_cons (ev_var rfl) ea_nil) (rc_len (.inl (sq_of (e3 _ _ hql))))) ev_c rv_I0) ?_) fun _ => ev_is (ev_allN (bs := ws.map fun y => !decide (Sk.nameIn y.2 = n)) (el_is (el_pick ws (fun _ => true) (fun y => V.ref y.1) (fun y => V.bl (!decide (Sk.nameIn y.2 = n))) (ev_var rfl) (sq_of (e3 _ _ hql)) (by rw [hwl]; omega) (fun _ => rfl) (fun y H4 e4 hy => et_yes) (fun y H4 e4 hy _ => ?_)) ?_)) ?_) rfl) fun H4 e4 => k.go ((e02.trans e3).trans e4)
      · rw [hll]
        show V.bl (decide (((Sk.counted 1 vals).length : Int) < ((3 : Nat) : Int))) = _
        rw [lt_nat]
      · obtain ⟨_, dxy, qy, hpy, _⟩ := (w3 y hy).ex (e3.trans e4)
        refine ev_is (ev_op (ev_fld (ev_var rfl) hpy T.C_Element T.n_Element_name rfl) (ev_fld (ev_var rfl) (e4 _ _ hpe3) T.C_Element T.n_Element_name rfl) (rv_ne rfl)) ?_
        rw [dec_ints (i := Sk.nameIn y.2) (j := n) rfl]
        rfl
      · rw [List.filter_eq_self.mpr fun _ _ => rfl, List.map_map]; rfl
      · have := all_ne n Sk.nameIn (Sk.counted 1 vals)
        rw [show (Sk.counted 1 vals) = ws.map (·.2) from w2.symm] at this ⊢
        rw [← this, List.map_map]
        rfl
  have c1 : Sk.sortOf x ≠ 1 := of_decide_eq_false (dec_ints (j := 1) hb1)
  have e03 := e02.trans e3
  refine q_when (et_test (ev_op (ev_fld (ev_var rfl) (e03 _ _ hpe) T.C_Element T.n_Element_sort_told rfl) ev_c (rv_eq rfl))) (fun hb2 H4 e4 => ?_) (fun hb2 H4 e4 => ?_)
  · have c : Sk.sortOf x = 2 := of_decide_eq_true (dec_ints (j := 2) hb2)
    match x, c, k, hll, hql with
    | .steps v, _, k, hll, hql =>
      have hk : Sk.doesCount free vals (.steps v) = decide ((Sk.counted 2 vals).length < 1) := rfl
      rw [hk] at k
      refine s_ret (ev_is (ev_eqNil (ev_var rfl) (sq_of ((e3.trans e4) _ _ hql)) (el_lst ea_nil (Nat.zero_le _))) ?_) fun H5 e5 => k.go ((e03.trans e4).trans e5)
      have hll' : (ws.map fun y => V.ref y.1).length = (Sk.counted 2 vals).length := hll
      rw [← hll']
      cases (ws.map fun y => V.ref y.1) <;> rfl
  have c2 : Sk.sortOf x ≠ 2 := of_decide_eq_false (dec_ints (j := 2) hb2)
  have e04 := e03.trans e4
  obtain ⟨dx, hp⟩ := (hP.ex e04).obj
  match x, c0, c1, c2, k, hll, hql with
  | .jumps _, c0, _, _, _, _, _ => exact absurd rfl c0
  | .spin _ _, _, c1, _, _, _, _ => exact absurd rfl c1
  | .steps _, _, _, c2, _, _, _ => exact absurd rfl c2
  | .choreo, _, _, _, k, hll, hql =>
    have hk : Sk.doesCount free vals .choreo = (free && decide ((Sk.counted 3 vals).length < 1)) := rfl
    rw [hk] at k
    refine s_ret (ev_is (ev_op (ev_cb (ea_cons (ev_var rfl) ea_nil) (rc_len (.inl (sq_of ((e3.trans e4) _ _ hql))))) (ev_op ev_c (ev_fld (ev_var rfl) hp T.C_Program T.n_Program_free rfl) (rv_ixT (v := .int ((if free then 1 else 0 : Nat) : Int)) (T.T_MOST_OTHERS.t H4) (by rw [at_free]; cases free <;> rfl))) rv_I0) ?_) fun H5 e5 => k.go (e04.trans e5)
    have hll' : (ws.map fun y => V.ref y.1).length = (Sk.counted 3 vals).length := hll
    rw [hll', lt_nat]
    cases free with
    | true => rfl
    | false => rw [Bool.false_and]; exact congrArg V.bl (decide_eq_false (Nat.not_lt_zero _))
def sp_jworth (a : Ad) (K : PySem.W.Frag) : Sp := fun vs H Q _ => ∃ (p sk se : Addr) (ro fa : V) (free : Bool) (vals : List Sk.Val) (seen : Sk.Seen) (G : Hp) (j : Addr) (jj : Kg56.Jump) (b : Bool), vs = [.ref p, .ref j, .bl b] ∧ ProgAt a K G H p sk se ro fa free vals seen ∧ JumpAt a H j jj ∧
  RetV (.int (Sk.jumpWorth free seen jj b : Nat)) H Q
theorem ok_Program_jump_worth (T : Txt K mg a) : FnOk P w K mg base CX0 3 a.f_Program_jump_worth a.d_Program_jump_worth ["self", "jump", "is_row"] (sp_jworth a K) := by
  refine T.F_Program_jump_worth.ok sc_Program_jump_worth (fun vs H Q E h => ?_) (fun cdv A outer s H vs Q E hr h => ?_)
  · obtain ⟨_, _, _, _, _, _, _, _, _, _, _, _, rfl, _⟩ := h
    rfl
  refine ⟨_, (pss_cons (ps_setLc (i := 3) (own := [("kind", 4), ("turns", 5), ("stood", 6)]) rfl sc_Program_jump_worth.nd rfl rfl (sw_true rfl rfl rfl (by decide +kernel)) (pi_list (pe_fld (pv 0) rfl)) (blkOk_by (N := ["self", "jump", "is_row", "before", "kind", "turns", "stood"]) (sc := defScope s_Program_jump_worth) (by decide +kernel)) (fun _ _ _ _ _ => (pg_tupK (K := K) (n := 3) rfl rfl (pgs_cons (pg_name (i := 4) sc_Program_jump_worth.nd rfl (by first | exact Or.inl rfl | exact Or.inr rfl)) (pgs_cons (pg_name (i := 5) sc_Program_jump_worth.nd rfl (by first | exact Or.inl rfl | exact Or.inr rfl)) (pgs_cons (pg_name (i := 6) sc_Program_jump_worth.nd rfl (by first | exact Or.inl rfl | exact Or.inr rfl)) pgs_nil))))) (fun _ _ _ _ _ => (pts_one (PW.pt (pw_and (pt_cmpR op_eq (pv 4) (pe_fldK (K := K) rfl (pv 1) rfl) (nomark _)) (pw_and1 (pt_cmpR op_eq (pv 5) (pe_fldK (K := K) rfl (pv 1) rfl) (nomark _))))))) (fun _ _ _ _ _ => (pv 6)))
    (pss_cons (ps_if (PW.pt (pw_or (pt_cmpR op_lt (pe_fld (pv 1) rfl) (pe_gint rfl T.i_LEAST_REPEATED) (nomark _)) (pw_or1 (pt_cmpR (op_eqNil hr) (pv 3) (pe_lst pa_nil) (nomark _))))) (pss_one (ps_ret (pe_meth0 (pv 1) T.C_Jump T.M_Jump_worth (ok_Jump_worth T) (hr.mono (by decide)) T.b_Jump_worth .nil pass0))) pss_nil)
    (pss_cons (ps_if (PW.pt (pw_or (pt_cmpR op_ne (pe_fld (pv 0) rfl) (pe_gint rfl T.i_FREE) (nomark _)) (pw_or1 (pt_cmpR op_ge (pe_callB call_len_seq rfl T.n_len (by decide +kernel) (by exact (pa_cons (pv 3) pa_nil))) pe_int (nomark _))))) (pss_one (ps_ret pe_int)) pss_nil)
    (pss_cons (ps_if (PW.pt (pw_or (pt_val (pv 2)) (pw_or1 (pt_val (pe_ix ix_list (pv 3) pe_int (fun _ _ => rfl)))))) (pss_one (ps_ret (pe_meth0 (pv 1) T.C_Jump T.M_Jump_worth (ok_Jump_worth T) (hr.mono (by decide)) T.b_Jump_worth .nil pass0))) pss_nil)
    (pss_one (ps_ret (pe_call (ok_hundredths T) (hr.mono (by decide)) rfl T.g_hundredths T.k_hundredths T.b_hundredths .nil pass0 (by exact (pa_cons (pe_meth0 (pv 1) T.C_Jump T.M_Jump_worth (ok_Jump_worth T) (hr.mono (by decide)) T.b_Jump_worth .nil pass0) (pa_cons (pe_gint rfl T.i_REPEATED) pa_nil)))))))))), ?_⟩

  obtain ⟨p, sk, se, ro, fa, free, vals, seen, G, j, jj, b, rfl, hP, hj, k⟩ := h
  obtain ⟨dx, hp⟩ := hP.obj
  obtain ⟨hwf, dxj, hpj⟩ := id hj
  obtain ⟨ss, hse, hss⟩ := hP.sees
  obtain ⟨ws, w1, w2, w3⟩ := paired_zip hss
  have hwl : ws.length ≤ 100 := by
    have h1 : ws.length = seen.length := by rw [← w2, List.length_map]
    have := hP.less
    omega
  have hql : H se = some (.lst (ws.map fun y => V.ref y.1)) := by
    have : (ws.map fun y => V.ref y.1) = ss.map V.ref := by rw [← w1, List.map_map]; rfl
    rw [this]; exact hse
  have hbf : ((ws.filter fun y => y.2.1 == (jj.kind, jj.turns)).map fun y => V.bl y.2.2) = (Sk.before seen jj).map V.bl := by
    unfold Sk.before
    rw [← w2, ← zip_filter (fun x : (Nat × Nat) × Bool => x.1 == (jj.kind, jj.turns)), List.map_map, List.map_map]
    rfl
  refine q_asgL (el_is (el_pickG ws (fun y => y.2.1 == (jj.kind, jj.turns)) (fun y => V.ref y.1) (fun y => V.bl y.2.2) (fun y => [some (.ref p), some (.ref j), some (.bl b), none, some (.int (y.2.1.1 : Nat)), some (.int (y.2.1.2 : Nat)), some (.bl y.2.2)]) (ev_fld (ev_var rfl) hp T.C_Program T.n_Program_seen rfl) (sq_of hql) (by omega) (fun z H1 e1 hz Q1 q1 => ?_) (fun z hz => rfl) (fun z H1 e1 hz => ?_) (fun z H1 e1 hz _ => ev_var rfl)) hbf) fun q H1 hq e1 h1 => ?_
  · exact ⟨z.1, _, rfl, (w3 z hz).ex (hP.le.trans e1), rfl, _, _, rfl, _, _, rfl, _, _, rfl, rfl, q1⟩
  · refine et_is (et_and (et_test (ev_op (ev_var rfl) (ev_fld (ev_var rfl) (e1 _ _ hpj) T.C_Jump T.n_Jump_kind rfl) (rv_eq rfl))) fun _ => et_test (ev_op (ev_var rfl) (ev_fld (ev_var rfl) (e1 _ _ hpj) T.C_Jump T.n_Jump_turns rfl) (rv_eq rfl))) ?_
    rw [← dec_ints (i := z.2.1.1) (j := jj.kind) rfl, ← dec_ints (i := z.2.1.2) (j := jj.turns) rfl]
    have : (z.2.1 == (jj.kind, jj.turns)) = ((z.2.1.1 == jj.kind) && (z.2.1.2 == jj.turns)) := rfl
    rw [this]
    rfl
  generalize hbe : Sk.before seen jj = bs at h1
  unfold Sk.jumpWorth at k
  rw [hbe] at k
  have hj1 := hj.ex e1
  have hpj1 := e1 _ _ hpj
  have emp : (bs.map V.bl).isEmpty = decide (bs = []) := by cases bs <;> rfl
  refine q_when (b := decide (jj.turns < 3 ∨ bs = [])) (et_is (et_or (et_test (ev_op (ev_fld (ev_var rfl) hpj1 T.C_Jump T.n_Jump_turns rfl) ev_c rv_I0)) fun _ => et_test (ev_eqNil (ev_var rfl) (sq_of h1) (el_lst ea_nil (Nat.zero_le _)))) ?_) (fun hb H2 e2 => ?_) (fun hb H2 e2 => ?_)
  · rw [emp, Bool.decide_or]
    exact congrArg (· || _) (lt_nat jj.turns 3)
  · rw [if_pos (of_decide_eq_true hb)] at k
    exact s_ret (ev_meth (ev_var rfl) (e2 _ _ hpj1) rfl ea_nil (sv_worth (hj1.ex e2))) fun H3 e3 => k.go ((e1.trans e2).trans e3)
  rw [if_neg (of_decide_eq_false hb)] at k
  have nb : bs ≠ [] := fun z => of_decide_eq_false hb (.inr z)
  have e02 := e1.trans e2
  refine q_when (b := decide (free = false ∨ 2 ≤ bs.length)) (et_is (et_or (et_test (ev_op (ev_fld (ev_var rfl) (e02 _ _ hp) T.C_Program T.n_Program_free rfl) ev_c (rv_ne rfl))) fun _ => et_test (ev_op (ev_cb (ea_cons (ev_var rfl) ea_nil) (rc_len (.inl (sq_of (e2 _ _ h1))))) ev_c rv_I0)) ?_) (fun hb2 H3 e3 => ?_) (fun hb2 H3 e3 => ?_)
  · rw [Bool.decide_or, List.length_map]
    have z1 : (!decide (freeV free = V.int 1)) = decide (free = false) := by cases free <;> decide
    have z2 : decide ((2 : Int) ≤ (bs.length : Int)) = decide (2 ≤ bs.length) := decide_eq_decide.mpr (by omega)
    rw [← z1, ← z2]
  · rw [if_pos (of_decide_eq_true hb2)] at k
    exact s_ret ev_c fun H4 e4 => k.go ((e02.trans e3).trans e4)
  rw [if_neg (of_decide_eq_false hb2)] at k
  have e03 := e02.trans e3
  have h13 := (e2.trans e3) _ _ h1
  obtain ⟨b0, br, rfl⟩ : ∃ b0 br, bs = b0 :: br := by
    cases bs with
    | nil => exact absurd rfl nb
    | cons b0 br => exact ⟨b0, br, rfl⟩
  refine q_when (b := b || b0) (et_or (et_B (ev_var rfl)) fun _ => et_B (ev_op (ev_var rfl) ev_c (rv_ixL (sq_of h13) (atI_nat (j := 0) rfl)))) (fun hb3 H4 e4 => ?_) (fun hb3 H4 e4 => ?_)
  · have c : b = true ∨ (b0 :: br).getD 0 false = true := by
      rcases Bool.or_eq_true _ _ ▸ hb3 with c | c
      · exact .inl c
      · exact .inr c
    rw [if_pos c] at k
    exact s_ret (ev_meth (ev_var rfl) ((e03.trans e4) _ _ hpj) rfl ea_nil (sv_worth (hj.ex (e03.trans e4)))) fun H5 e5 => k.go ((e03.trans e4).trans e5)
  · have c : ¬ (b = true ∨ (b0 :: br).getD 0 false = true) := by
      rintro (c | c)
      · rw [c] at hb3; cases hb3
      · rw [show b0 = true from c, Bool.or_true] at hb3; cases hb3
    rw [if_neg c] at k
    have e04 := e03.trans e4
    exact s_ret (ev_call (ea_cons (ev_meth (ev_var rfl) (e04 _ _ hpj) rfl ea_nil (sv_worth (hj.ex e04))) (ea_cons ev_c ea_nil)) (sv_hundredths rfl (p := 70) rfl (by decide))) fun H5 e5 => k.go (e04.trans e5)
end
end SkW

set_option Elab.async false
set_option linter.all false
set_option maxRecDepth 100000
set_option maxHeartbeats 4000000
namespace SkW
open PySem PySem.Spec PyProof.Rows L2 Evl
section
variable {P : Program} {w : World} {K : PySem.W.Frag} {mg : Str → Option Value} {base : Heap} {a : Ad}
/-- a told element's object while it's told -/
def OneAt (a : Ad) (H : Hp) (o dx e g : Addr) (second c : Bool) (n m : Nat) : Prop := H o = some (.ins a.c_Skated dx (F_Skated (.ref e) (.bl second) (.ref g) (.bl c) (.int (n : Nat)) (.int (m : Nat))))
theorem sv_jworth {H G : Hp} {p sk se : Addr} {ro fa : V} {free : Bool} {vals : List Sk.Val} {seen : Sk.Seen} {j : Addr} {jj : Kg56.Jump} {b : Bool} (hP : ProgAt a K G H p sk se ro fa free vals seen) (hj : JumpAt a H j jj) :
    SpV (sp_jworth a K) [.ref p, .ref j, .bl b] H (.int (Sk.jumpWorth free seen jj b : Nat)) := fun H1 e Q q E => ⟨p, sk, se, ro, fa, free, vals, seen, G, j, jj, b, rfl, hP.ex e, hj.ex e, q⟩
/-- a program's facts over a change at se -/
theorem ProgAt.seen_snoc {M : List Addr} {H H1 : Hp} {p sk se t : Addr} {ro fa : V} {free : Bool} {vals : List Sk.Val} {seen : Sk.Seen} {x : (Nat × Nat) × Bool} {zs : List V} (hP : ProgAt a K (frz M H) H p sk se ro fa free vals seen) (hse : se ∈ M) (e1 : Ex H H1) (hz : H se = some (.lst zs)) (al : Alive M H) (ht : H t = none)
    (ht1 : H1 t = some (.tup [.int (x.1.1 : Nat), .int (x.1.2 : Nat), .bl x.2])) (hl : seen.length < 100) : ProgAt a K (frz M (upd H1 se (.lst (zs ++ [.ref t])))) (upd H1 se (.lst (zs ++ [.ref t]))) p sk se ro fa free vals (seen ++ [x]) := by
  obtain ⟨h0, ⟨dx, h1⟩, ⟨ys, h2, h3⟩, ⟨ss, h4, h5⟩, h6, h7, h8⟩ := hP
  have ee : Ex (frz M H) (frz M (upd H1 se (.lst (zs ++ [.ref t])))) := (frz_mono e1).trans (frz_upd hse)
  rw [hz] at h4
  cases h4
  refine ⟨frz_le, ⟨dx, ?_⟩, ⟨ys, ?_, Paired.mapP h3 fun _ _ z => z.ex ee⟩, ⟨ss ++ [t], ?_, paired_snoc (Paired.mapP h5 fun _ _ z => z.ex ee) ?_⟩, h6, by rw [List.length_append]; exact hl, h8⟩
  · rw [upd_ne (fun z => by rw [← z, h1] at hz; cases hz)]; exact e1 _ _ h1
  · rw [upd_ne h8]; exact e1 _ _ h2
  · rw [upd_same, List.map_append]; rfl
  · refine st_of ?_
    exact frz_of (al.new ht) (by rw [upd_ne (fun z => by rw [z, hz] at ht; cases ht)]; exact ht1)
/-- a program's facts over a change elsewhere -/
theorem ProgAt.other {M : List Addr} {H H1 : Hp} {p sk se o : Addr} {ro fa : V} {free : Bool} {vals : List Sk.Val} {seen : Sk.Seen} {v : HO} (hP : ProgAt a K (frz M H) H p sk se ro fa free vals seen) (ho : o ∈ M) (e1 : Ex H H1) (np : o ≠ p) (nk : o ≠ sk) (ns : o ≠ se) :
    ProgAt a K (frz M (upd H1 o v)) (upd H1 o v) p sk se ro fa free vals seen := by
  obtain ⟨h0, ⟨dx, h1⟩, ⟨ys, h2, h3⟩, ⟨ss, h4, h5⟩, h6, h7, h8⟩ := hP
  have ee : Ex (frz M H) (frz M (upd H1 o v)) := (frz_mono e1).trans (frz_upd ho)
  exact ⟨frz_le, ⟨dx, by rw [upd_ne (Ne.symm np)]; exact e1 _ _ h1⟩, ⟨ys, by rw [upd_ne (Ne.symm nk)]; exact e1 _ _ h2, Paired.mapP h3 fun _ _ z => z.ex ee⟩, ⟨ss, by rw [upd_ne (Ne.symm ns)]; exact e1 _ _ h4, Paired.mapP h5 fun _ _ z => z.ex ee⟩, h6, h7, h8⟩
theorem ProgAt.fz {M : List Addr} {H H1 : Hp} {p sk se : Addr} {ro fa : V} {free : Bool} {vals : List Sk.Val} {seen : Sk.Seen} (hP : ProgAt a K (frz M H) H p sk se ro fa free vals seen) (e1 : Ex H H1) : ProgAt a K (frz M H1) H1 p sk se ro fa free vals seen := by
  obtain ⟨h0, ⟨dx, h1⟩, ⟨ys, h2, h3⟩, ⟨ss, h4, h5⟩, h6, h7, h8⟩ := hP
  have ee : Ex (frz M H) (frz M H1) := frz_mono e1
  exact ⟨frz_le, ⟨dx, e1 _ _ h1⟩, ⟨ys, e1 _ _ h2, Paired.mapP h3 fun _ _ z => z.ex ee⟩, ⟨ss, e1 _ _ h4, Paired.mapP h5 fun _ _ z => z.ex ee⟩, h6, h7, h8⟩
def sp_take_jumps (a : Ad) (K : PySem.W.Frag) : Sp := fun vs H Q _ => ∃ (p sk se : Addr) (ro fa : V) (free : Bool) (vals : List Sk.Val) (seen : Sk.Seen) (M : List Addr) (o dx e g : Addr) (second : Bool) (l : List Kg56.Jump), vs = [.ref p, .ref o] ∧ ProgAt a K (frz M H) H p sk se ro fa free vals seen ∧ se ∈ M ∧ o ∈ M ∧ o ≠ p ∧ Alive M H ∧
  seen.length ≤ 60 ∧ OneAt a H o dx e g second false 0 0 ∧ ElemAt a (frz M H) e (.jumps l) ∧
  ∀ H', Gr M H H' → (∀ b v, H b = some v → b ≠ o → b ≠ se → H' b = some v) → ProgAt a K (frz M H') H' p sk se ro fa free vals (Sk.taken free (decide (2 ≤ l.length)) ⟨seen, 0, 0⟩ l).seen → (Sk.taken free (decide (2 ≤ l.length)) ⟨seen, 0, 0⟩ l).seen.length ≤ seen.length + 3 →
    OneAt a H' o dx e g second false (Sk.taken free (decide (2 ≤ l.length)) ⟨seen, 0, 0⟩ l).plain (Sk.taken free (decide (2 ≤ l.length)) ⟨seen, 0, 0⟩ l).by_ → Q .non H'
theorem taken_snoc (free b : Bool) (acc : Sk.Acc) (l : List Kg56.Jump) (j : Kg56.Jump) : Sk.taken free b acc (l ++ [j]) = Sk.takeOne free b (Sk.taken free b acc l) j := by unfold Sk.taken; rw [List.foldl_append]; rfl
theorem maxV (x y : Nat) : (if (y : Int) > (x : Int) then (y : Int) else (x : Int)) = ((max x y : Nat) : Int) := by
  by_cases c : y > x
  · rw [if_pos (by omega)]; omega
  · rw [if_neg (by omega)]; omega
theorem ok_Program_take_jumps (T : Txt K mg a) : FnOk P w K mg base CX0 4 a.f_Program_take_jumps a.d_Program_take_jumps ["self", "one"] (sp_take_jumps a K) := by
  refine T.F_Program_take_jumps.ok sc_Program_take_jumps (fun vs H Q E h => ?_) (fun cdv A outer s H vs Q E hr h => ?_)
  · obtain ⟨_, _, _, _, _, _, _, _, _, _, _, _, _, _, _, rfl, _⟩ := h
    rfl
  refine ⟨_, (pss_cons (ps_set (i := 2) sc_Program_take_jumps.nd rfl (Or.inl rfl) (pe_meth0 (pe_fld (pv 1) rfl) T.C_Element T.M_Element_is_row (ok_Element_is_row T) (hr.mono (by decide)) T.b_Element_is_row .nil pass0))
    (pss_one (ps_for PassesOwn.never rfl (pi_list (pe_fld (pe_fld (pv 1) rfl) rfl)) (pg_name (i := 3) sc_Program_take_jumps.nd rfl (Or.inl rfl))
      (pss_cons (ps_set (i := 4) sc_Program_take_jumps.nd rfl (Or.inl rfl) (pe_meth (pv 0) T.C_Program T.M_Program_jump_worth (ok_Program_jump_worth T) (hr.mono (by decide)) T.b_Program_jump_worth .nil pass0 (by exact (pa_cons (pv 3) (pa_cons (pv 2) pa_nil)))))
    (pss_one (ps_if (pt_cmpR op_gt (pv 4) pe_int (nomark _)) (pss_cons (ps_expr (pe_bm PySem.F.plainAttrs_list PySem.F.slot_list_append PySem.F.type_list_append mt_append (pe_fld (pv 0) rfl) (by exact (pa_cons (pe_tup (pa_cons (pe_fld (pv 3) rfl) (pa_cons (pe_fld (pv 3) rfl) (pa_cons (pv 2) pa_nil)))) pa_nil))))
    (pss_cons (ps_fld (pv 1) (pe_op op_add (pe_fld (pv 1) rfl) (pv 4)) rfl)
    (pss_one (ps_fld (pv 1) (pe_callB (call_max2 rfl) rfl T.n_max (by decide +kernel) (by exact (pa_cons (pe_fld (pv 1) rfl) (pa_cons (pe_meth0 (pv 3) T.C_Jump T.M_Jump_worth (ok_Jump_worth T) (hr.mono (by decide)) T.b_Jump_worth .nil pass0) pa_nil)))) rfl)))) pss_nil)))))), ?_⟩

  obtain ⟨p, sk, se, ro, fa, free, vals, seen, M, o, dx, e, g, second, l, rfl, hP, hse, hoM, hop, al, hs60, ho, he, k⟩ := h
  obtain ⟨hwf, dxe, qe, hpe, js, hqe, hjs⟩ := id he
  have hpeH := frz_le _ _ hpe
  have hl3 : l.length ≤ 3 := hwf.2.1
  have hjs : Paired (JumpAt a (frz M H)) js l := hjs
  have hjl := Paired.length hjs
  refine q_asg (ev_meth (ev_fld (ev_var rfl) ho T.C_Skated T.n_Skated_skill rfl) hpeH rfl ea_nil (sv_is_row (he.ex frz_le))) fun H1 e1 => ?_
  show tFor _ _ _ _ _ _
  refine s_forLn (H := H1) (ev_fld (ev_fld (ev_var rfl) (e1 _ _ ho) T.C_Skated T.n_Skated_skill rfl) (e1 _ _ hpeH) T.C_Element T.n_Element_jumps rfl) (sq_of (e1 _ _ (frz_le _ _ hqe))) (fun i σ' H' => Gr M H H' ∧ (∀ b v, H b = some v → b ≠ o → b ≠ se → H' b = some v) ∧ ProgAt a K (frz M H') H' p sk se ro fa free vals (Sk.taken free (decide (2 ≤ l.length)) ⟨seen, 0, 0⟩ (l.take i)).seen ∧ (Sk.taken free (decide (2 ≤ l.length)) ⟨seen, 0, 0⟩ (l.take i)).seen.length ≤ seen.length + i ∧
      OneAt a H' o dx e g second false (Sk.taken free (decide (2 ≤ l.length)) ⟨seen, 0, 0⟩ (l.take i)).plain (Sk.taken free (decide (2 ≤ l.length)) ⟨seen, 0, 0⟩ (l.take i)).by_ ∧ ∃ x y, σ' = [some (.ref p), some (.ref o), some (.bl (decide (2 ≤ l.length))), x, y])
    (fun H2 e2 => ⟨Gr.of (e1.trans e2), fun b v hb _ _ => (e1.trans e2) _ _ hb, hP.fz (e1.trans e2), Nat.le_refl _, (e1.trans e2) _ _ ho, none, none, rfl⟩) (fun i σ' H' _ pv => sq_of (pv.1.ex _ _ hqe)) (fun i x σ' H' hi pv => ?_) (fun σ' H' pv => ?_)
  · obtain ⟨gr, kp2, hP2, hsl, ho2, x2, y2, hσ⟩ := pv
    subst hσ
    obtain ⟨j, hj, rfl⟩ := at_map hi
    obtain ⟨jj, hjj, hja⟩ := paired_get hjs hj
    have hil : i < l.length := (List.getElem?_eq_some_iff.mp hjj).1
    have et : l.take (i + 1) = l.take i ++ [jj] := by rw [List.take_add_one, hjj]; rfl
    generalize hA : Sk.taken free (decide (2 ≤ l.length)) ⟨seen, 0, 0⟩ (l.take i) = A at hP2 hsl ho2
    have hA1 : Sk.taken free (decide (2 ≤ l.length)) ⟨seen, 0, 0⟩ (l.take (i + 1)) = Sk.takeOne free (decide (2 ≤ l.length)) A jj := by rw [et, taken_snoc, hA]
    have hj2 := hja.ex gr.ex
    obtain ⟨dxp, hp2⟩ := hP2.obj
    obtain ⟨_, dxj, hpj⟩ := id hj2
    refine q_asg (ev_meth (ev_var rfl) hp2 rfl (ea_cons (ev_var rfl) (ea_cons (ev_var rfl) ea_nil)) (sv_jworth hP2 hj2)) fun H3 e3 => ?_
    refine s_when (et_test (ev_op (ev_var rfl) ev_c rv_I0)) (fun hb H4 e4 => ?_) (fun hb H4 e4 => ?_)
    · have c : 0 < Sk.jumpWorth free A.seen jj (decide (2 ≤ l.length)) := by have := of_decide_eq_true hb; omega
      have hA2 : Sk.takeOne free (decide (2 ≤ l.length)) A jj = ⟨A.seen ++ [((jj.kind, jj.turns), decide (2 ≤ l.length))], A.plain + Sk.jumpWorth free A.seen jj (decide (2 ≤ l.length)), max A.by_ jj.worth⟩ := by unfold Sk.takeOne; rw [if_pos c]
      rw [hA2] at hA1
      have e24 := e3.trans e4
      have hP4 := hP2.fz e24
      obtain ⟨ss, hss, hss2⟩ := hP4.sees
      have al4 : Alive M H4 := (al.gr gr).gr (Gr.of (M := M) e24)
      have hssl : ss.length = A.seen.length := Paired.length hss2
      refine q_appU hss (ev_fld (ev_var rfl) (e24 _ _ hp2) T.C_Program T.n_Program_seen rfl) (eu_tup (ea_cons (ev_fld (ev_var rfl) (e24 _ _ hpj) T.C_Jump T.n_Jump_kind rfl) (ea_cons (ev_fld (ev_var rfl) (e24 _ _ hpj) T.C_Jump T.n_Jump_turns rfl) (ea_cons (ev_var rfl) ea_nil))) (Nat.le_of_ble_eq_true rfl)) (by rw [List.length_map]; omega) fun t H5 ht e5 ht5 => ?_
      have hP5 := hP4.seen_snoc (x := ((jj.kind, jj.turns), decide (2 ≤ l.length))) hse e5 hss al4 ht ht5 (by omega)
      have nos : o ≠ se := fun z => by rw [z] at ho2; rw [(e24 _ _ ho2 : H4 se = _)] at hss; cases hss
      have nok : o ≠ sk := fun z => by
        obtain ⟨_, hzs, _⟩ := hP2.sks
        rw [z] at ho2
        rw [(ho2 : H' sk = _)] at hzs; cases hzs
      have g5 : Gr M H (upd H5 se (.lst (ss.map V.ref ++ [.ref t]))) := (gr.trans (Gr.of (e24.trans e5))).upd hse (e5 _ _ hss)
      have ho5 : upd H5 se (.lst (ss.map V.ref ++ [.ref t])) o = _ := (upd_ne nos).trans ((e24.trans e5) _ _ ho2)
      have hj5 := hja.ex g5.ex
      refine q_setF (ev_op (ev_fld (ev_var rfl) ho5 T.C_Skated T.n_Skated_plain_worth rfl) (ev_var rfl) rv_I0) (ev_var rfl) ho5 T.C_Skated T.n_Skated_plain_worth (by decide : 6 < 1000) fun H6 e6 => ?_
      have hP6 := hP5.other (v := .ins a.c_Skated dx (putF "plain_worth" (.int ((A.plain : Nat) + (Sk.jumpWorth free A.seen jj (decide (2 ≤ l.length)) : Nat))) (F_Skated (.ref e) (.bl second) (.ref g) (.bl false) (.int (A.plain : Nat)) (.int (A.by_ : Nat))))) hoM e6 hop nok nos
      have g6 := (g5.trans (Gr.of e6)).upd (o := .ins a.c_Skated dx (putF "plain_worth" (.int ((A.plain : Nat) + (Sk.jumpWorth free A.seen jj (decide (2 ≤ l.length)) : Nat))) (F_Skated (.ref e) (.bl second) (.ref g) (.bl false) (.int (A.plain : Nat)) (.int (A.by_ : Nat))))) hoM (e6 _ _ ho5)
      have hj6 := hja.ex g6.ex
      obtain ⟨_, dxj6, hpj6⟩ := id hj6
      refine s_setF (ev_cb (ea_cons (ev_fld (ev_var rfl) upd_same T.C_Skated T.n_Skated_goes_by rfl) (ea_cons (ev_meth (ev_var rfl) hpj6 rfl ea_nil (sv_worth hj6)) ea_nil)) rc_max) (ev_var rfl) upd_same T.C_Skated T.n_Skated_goes_by (by decide : 6 < 1000) fun H7 e7 => ?_
      have hP7 := hP6.other (v := .ins a.c_Skated dx (putF "goes_by" (.int (if ((jj.worth : Nat) : Int) > (A.by_ : Nat) then ((jj.worth : Nat) : Int) else (A.by_ : Nat))) (putF "plain_worth" (.int ((A.plain : Nat) + (Sk.jumpWorth free A.seen jj (decide (2 ≤ l.length)) : Nat))) (F_Skated (.ref e) (.bl second) (.ref g) (.bl false) (.int (A.plain : Nat)) (.int (A.by_ : Nat)))))) hoM e7 hop nok nos
      rw [hA1]
      refine ⟨(g6.trans (Gr.of e7)).upd hoM (e7 _ _ upd_same), fun b v hb n1 n2 => by rw [upd_ne n1]; exact e7 _ _ (by rw [upd_ne n1]; exact e6 _ _ (by rw [upd_ne n2]; exact (e24.trans e5) _ _ (kp2 b v hb n1 n2))), hP7, ?_, ?_, _, _, rfl⟩
      · show (A.seen ++ [_]).length ≤ _
        rw [List.length_append]
        show A.seen.length + 1 ≤ _
        omega
      · unfold OneAt
        rw [upd_same, maxV]
        rfl
    · have c : ¬ 0 < Sk.jumpWorth free A.seen jj (decide (2 ≤ l.length)) := by have := of_decide_eq_false hb; omega
      have hA2 : Sk.takeOne free (decide (2 ≤ l.length)) A jj = A := by unfold Sk.takeOne; rw [if_neg c]
      rw [hA1, hA2]
      exact ⟨gr.trans (Gr.of (e3.trans e4)), fun b v hb n1 n2 => (e3.trans e4) _ _ (kp2 b v hb n1 n2), hP2.fz (e3.trans e4), by omega, (e3.trans e4) _ _ ho2, _, _, rfl⟩
  · obtain ⟨gr, kp2, hP2, hsl, ho2, x2, y2, hσ⟩ := pv
    rw [List.length_map, hjl, List.take_length] at hP2 hsl ho2
    exact k H' gr kp2 hP2 (by omega) ho2
end
end SkW

set_option Elab.async false
set_option linter.all false
set_option maxRecDepth 100000
set_option maxHeartbeats 4000000
namespace SkW
open PySem PySem.Spec PyProof.Rows L2 Evl
section
variable {P : Program} {w : World} {K : PySem.W.Frag} {mg : Str → Option Value} {base : Heap} {a : Ad}
theorem ProgAt.chg {G G' H : Hp} {p sk se : Addr} {ro fa : V} {free : Bool} {vals : List Sk.Val} {seen : Sk.Seen} (h : ProgAt a K G H p sk se ro fa free vals seen) (e : Ex G G') (l : Ex G' H) : ProgAt a K G' H p sk se ro fa free vals seen := by
  obtain ⟨h0, h1, ⟨ys, h2, h3⟩, ⟨ss, h4, h5⟩, h6, h7, h8⟩ := h
  exact ⟨l, h1, ⟨ys, h2, Paired.mapP h3 fun _ _ z => z.ex e⟩, ⟨ss, h4, Paired.mapP h5 fun _ _ z => z.ex e⟩, h6, h7, h8⟩
theorem frz_cons {M : List Addr} {H : Hp} {o : Addr} : Ex (frz (o :: M) H) (frz M H) := fun b v h => by
  obtain ⟨h1, h2, h3⟩ := frz_some h
  exact frz_of (fun z => h1 (List.mem_cons_of_mem _ z)) h2 h3
theorem frz_new {M : List Addr} {H H1 : Hp} {o : Addr} (ho : H o = none) (e : Ex H H1) : Ex (frz M H) (frz (o :: M) H1) := fun b v h => by
  obtain ⟨h1, h2, h3⟩ := frz_some h
  refine frz_of (fun z => ?_) (e _ _ h2) h3
  rcases List.mem_cons.mp z with c | m
  · rw [c, ho] at h2; cases h2
  · exact h1 m
def elsNow (free : Bool) (els : List Kg56.Told) : List Sk.Val := Kg56.valued free Sk.g0 els
structure SeenOk (free : Bool) (els : List Kg56.Told) (seen : Sk.Seen) : Prop where
  great : Sk.great seen = (Sk.gone free Sk.g0 els).done
  few : seen.length ≤ 3 * els.length
def sp_take (a : Ad) (K : PySem.W.Frag) : Sp := fun vs H Q _ => ∃ (p sk se : Addr) (ro fa : V) (free : Bool) (els : List Kg56.Told) (seen : Sk.Seen) (M : List Addr) (e g : Addr) (t : Kg56.Told), vs = [.ref p, .ref e, .bl t.second, .ref g] ∧
  ProgAt a K (frz M H) H p sk se ro fa free (elsNow free els) seen ∧ SeenOk free els seen ∧ els.length < 20 ∧ p ∈ M ∧ sk ∈ M ∧ se ∈ M ∧ Alive M H ∧ ElemAt a (frz M H) e t.element ∧ SqL K (frz M H) g (t.grades.map V.int) ∧ GradesOk t.grades ∧
  ∀ H' seen', Gr M H H' → (∀ b v, H b = some v → b ≠ sk → b ≠ se → H' b = some v) → ProgAt a K (frz M H') H' p sk se ro fa free (elsNow free (els ++ [t])) seen' → SeenOk free (els ++ [t]) seen' → Q .non H'
theorem own_worth_is (free : Bool) (g : Kg56.Gone) (x : Kg56.Element) (h : Sk.sortOf x ≠ 0) : Kg56.worth free g x = (ownWorth x, ownWorth x) ∧ (g.and free x).done = g.done := by
  cases x with
  | jumps l => exact absurd rfl h
  | spin n v => exact ⟨rfl, rfl⟩
  | steps v => exact ⟨rfl, rfl⟩
  | choreo => exact ⟨rfl, rfl⟩
theorem ok_Program_take (T : Txt K mg a) : FnOk P w K mg base CX0 5 a.f_Program_take a.d_Program_take ["self", "element", "is_later", "grades"] (sp_take a K) := by
  refine T.F_Program_take.ok sc_Program_take (fun vs H Q E h => ?_) (fun cdv A outer s H vs Q E hr h => ?_)
  · obtain ⟨_, _, _, _, _, _, _, _, _, _, _, _, rfl, _⟩ := h
    rfl
  refine ⟨_, (pss_cons (ps_set (i := 4) sc_Program_take.nd rfl (Or.inl rfl) (pe_make T.mk_Skated (ok_Skated___init__ T) (hr.mono (by decide)) rfl T.gC_Skated T.b_Skated___init__ .nil pass0 (by exact (pa_cons (pv 1) (pa_cons (pv 2) (pa_cons (pv 3) pa_nil))))))
    (pss_cons (ps_if (pt_val (pe_meth (pv 0) T.C_Program T.M_Program_does_count (ok_Program_does_count T) (hr.mono (by decide)) T.b_Program_does_count .nil pass0 (by exact (pa_cons (pv 1) pa_nil)))) (pss_cons (ps_if (pt_cmpR op_eq (pe_fld (pv 1) rfl) (pe_gint rfl T.i_JUMPS) (nomark _)) (pss_one (ps_expr (pe_meth (pv 0) T.C_Program T.M_Program_take_jumps (ok_Program_take_jumps T) (hr.mono (by decide)) T.b_Program_take_jumps .nil pass0 (by exact (pa_cons (pv 4) pa_nil))))) (pss_cons (ps_fld (pv 4) (pe_meth0 (pv 1) T.C_Element T.M_Element_own_worth (ok_Element_own_worth T) (hr.mono (by decide)) T.b_Element_own_worth .nil pass0) rfl)
    (pss_one (ps_fld (pv 4) (pe_fld (pv 4) rfl) rfl))))
    (pss_one (ps_fld (pv 4) pe_bl rfl))) pss_nil)
    (pss_one (ps_expr (pe_bm PySem.F.plainAttrs_list PySem.F.slot_list_append PySem.F.type_list_append mt_append (pe_fld (pv 0) rfl) (by exact (pa_cons (pv 4) pa_nil))))))), ?_⟩

  obtain ⟨p, sk, se, ro, fa, free, els, seen, M, e, g, t, rfl, hP, hS, hlt, hpM, hkM, hsM, al, he, hg, hgo, k⟩ := h
  refine q_asgX ⟨_, rfl, _, rfl, _, rfl, fun o dx no nd ne => ⟨o, dx, _, _, _, rfl, upd_same, fun H1 h1 k1 => ⟨rfl, ?_⟩⟩⟩
  have e1 : Ex H H1 := But.made no nd k1
  have ho1 : OneAt a H1 o dx e g t.second false 0 0 := h1
  have hP1 : ProgAt a K (frz (o :: M) H1) H1 p sk se ro fa free (elsNow free els) seen := (hP.ex e1).chg (frz_new no e1) frz_le
  have oM : o ∉ M := al.new no
  have nop : o ≠ p := fun z => oM (z ▸ hpM)
  have nok : o ≠ sk := fun z => oM (z ▸ hkM)
  have nos : o ≠ se := fun z => oM (z ▸ hsM)
  have al1 : Alive (o :: M) H1 := fun m hm => by
    rcases List.mem_cons.mp hm with c | c
    · rw [c]; exact ⟨_, h1, rfl⟩
    · exact (Gr.of (M := M) e1).live m (al m c)
  have wf : Sk.EWf t.element := he.1
  have vok := Sk.val_ok free (Sk.gone free Sk.g0 els) seen hS.great t wf
  have gr1 : Gr (o :: M) H H1 := Gr.of e1
  have he1 : ElemAt a (frz (o :: M) H1) e t.element := he.ex (frz_new no e1)
  have fin : ∀ H' c n m seen', Gr (o :: M) H1 H' → (∀ b v, H1 b = some v → b ≠ o → b ≠ se → H' b = some v) → ProgAt a K (frz (o :: M) H') H' p sk se ro fa free (elsNow free els) seen' → OneAt a H' o dx e g t.second c n m → (t, (c, (n, m))) = Sk.valOf free (Sk.gone free Sk.g0 els) t → SeenOk free (els ++ [t]) seen' →
      tDrop (tBM K "list" rAppend (tFld K (tVar 0) "skated") (tCons (tVar 4) tNil)) { nx := fun _ H' => Q .non H', rt := Q } [some (.ref p), some (.ref e), some (.bl t.second), some (.ref g), some (.ref o)] H' := by
    intro H' c n m seen' gr kp2 hP' ho' hv hS'
    obtain ⟨dxp, hp'⟩ := hP'.obj
    obtain ⟨zs, hz1, hz2⟩ := hP'.sks
    have hzl : zs.length ≤ 20 := by have := Paired.length hz2; have := hP'.few; omega
    refine s_app hz1 (ev_fld (ev_var rfl) hp' T.C_Program T.n_Program_skated rfl) (ev_var rfl) (by rw [List.length_map]; omega) fun H2 e2 => ?_
    have grM : Gr M H (upd H2 sk (.lst ((zs.map fun z => V.ref z.1) ++ [.ref o]))) := ((gr1.trans (gr.trans (Gr.of e2))).less no).upd hkM (e2 _ _ hz1)
    refine k _ seen' grM (fun b v hb n1 n2 => by rw [upd_ne n1]; exact e2 _ _ (kp2 b v (e1 _ _ hb) (ne_of_none hb no) n2)) ?_ hS'
    · have ee : Ex (frz (o :: M) H') (frz M (upd H2 sk (.lst ((zs.map fun z => V.ref z.1) ++ [.ref o])))) := (frz_mono e2).trans (Ex.trans frz_cons (frz_upd hkM))
      obtain ⟨ss, hs1, hs2⟩ := hP'.sees
      refine ⟨frz_le, ⟨dxp, ?_⟩, ⟨zs ++ [(o, e)], ?_, ?_⟩, ⟨ss, ?_, Paired.mapP hs2 fun _ _ z => z.ex ee⟩, ?_, hP'.less, hP'.apart⟩
      · rw [upd_ne (fun z => by rw [← z, hp'] at hz1; cases hz1)]; exact e2 _ _ hp'
      · rw [upd_same, List.map_append]; rfl
      · unfold elsNow
        rw [Sk.valued_snoc, ← hv]
        refine paired_snoc (Paired.mapP hz2 fun _ _ z => z.ex ee) ⟨dx, g, ?_, he.ex grM.fz, ex_l grM.fz hg, hgo, ?_⟩
        · exact frz_of oM (by rw [upd_ne nok]; exact e2 _ _ ho')
        · rw [hv]; exact vok
      · rw [upd_ne (Ne.symm hP'.apart)]; exact e2 _ _ hs1
      · unfold elsNow
        rw [Sk.valued_len, List.length_append]
        exact hlt
  have cnt := Sk.counts_is free els t.element
  have gs := Sk.gone_snoc free t els Sk.g0
  refine q_when (b := Sk.doesCount free (elsNow free els) t.element) (et_B (by
    obtain ⟨dxp, hp1⟩ := hP1.obj
    exact ev_meth (ev_var rfl) hp1 rfl (ea_cons (ev_var rfl) ea_nil) fun H2 e2 Q2 q2 E2 => ⟨p, sk, se, ro, fa, free, elsNow free els, seen, _, e, t.element, rfl, hP1.ex e2, he1.ex (Ex.trans frz_le e2), q2⟩)) (fun hb H2 e2 => ?_) (fun hb H2 e2 => ?_)
  · have hc : Kg56.counts free (Sk.gone free Sk.g0 els) t.element = true := by rw [cnt]; exact hb
    rw [if_pos hc] at gs
    have hval : ∀ n m, Kg56.worth free (Sk.gone free Sk.g0 els) t.element = (n, m) → (t, (true, (n, m))) = Sk.valOf free (Sk.gone free Sk.g0 els) t := fun n m h => by
      unfold Sk.valOf
      rw [if_pos hc, h]
    obtain ⟨_, dxe, qe, hpe, hqe⟩ := id (he1.ex (Ex.trans frz_le e2))
    have hP2 := hP1.fz e2
    refine q_if (et_test (ev_op (ev_fld (ev_var rfl) hpe T.C_Element T.n_Element_sort_told rfl) ev_c (rv_eq rfl))) (fun hb2 H3 e3 => ?_) (fun hb2 H3 e3 => ?_)
    · have c : Sk.sortOf t.element = 0 := of_decide_eq_true (dec_ints (j := 0) hb2)
      obtain ⟨l, hl⟩ : ∃ l, t.element = .jumps l := by
        cases h : t.element with
        | jumps l => exact ⟨l, rfl⟩
        | spin _ _ => rw [h] at c; cases c
        | steps _ => rw [h] at c; cases c
        | choreo => rw [h] at c; cases c
      have e23 := e2.trans e3
      have hP3 := hP1.fz e23
      obtain ⟨dxp, hp3⟩ := hP3.obj
      rw [hl] at he1 wf
      obtain ⟨w1, w2⟩ := Sk.worth_jumps free (Sk.gone free Sk.g0 els) seen l wf.2.2 hS.great
      refine ⟨_, rfl, p, dxp, _, rfl, hp3, rfl, _, rfl, p, sk, se, ro, fa, free, elsNow free els, seen, o :: M, o, dx, e, g, t.second, l, rfl, hP3, List.mem_cons_of_mem _ hsM, List.mem_cons_self, nop, al1.gr (Gr.of (M := o :: M) e23), by have := hS.few; omega, e23 _ _ ho1, he1.ex (frz_mono e23), fun H4 g4 kp4 hP4 hl4 ho4 => ?_⟩
      refine s_setF ev_c (ev_var rfl) ho4 T.C_Skated T.n_Skated_is_counted (by decide : 6 < 1000) fun H5 e5 => ?_
      have hP5 := hP4.other (v := .ins a.c_Skated dx (putF "is_counted" (.bl true) (F_Skated (.ref e) (.bl t.second) (.ref g) (.bl false) (.int ((Sk.taken free (decide (2 ≤ l.length)) ⟨seen, 0, 0⟩ l).plain : Nat)) (.int ((Sk.taken free (decide (2 ≤ l.length)) ⟨seen, 0, 0⟩ l).by_ : Nat))))) List.mem_cons_self e5 nop nok nos
      refine fin _ true _ _ _ (((Gr.of e23).trans (g4.trans (Gr.of e5))).upd List.mem_cons_self (e5 _ _ ho4)) (fun b v hb n1 n2 => by rw [upd_ne n1]; exact e5 _ _ (kp4 b v (e23 _ _ hb) n1 n2)) hP5 (by unfold OneAt; rw [upd_same]; rfl) (hval _ _ (by rw [hl]; exact w1)) ⟨?_, ?_⟩
      · rw [gs, hl, w2]; rfl
      · rw [List.length_append]; have := hS.few; show _ ≤ 3 * (els.length + 1); omega
    · have c : Sk.sortOf t.element ≠ 0 := of_decide_eq_false (dec_ints (j := 0) hb2)
      obtain ⟨ow, od⟩ := own_worth_is free (Sk.gone free Sk.g0 els) t.element c
      have e23 := e2.trans e3
      have hP3 := hP1.fz e23
      have he3 := he1.ex (Ex.trans frz_le e23)
      obtain ⟨_, dx3, q3, hp3, _⟩ := id he3
      refine q_setF (ev_meth (ev_var rfl) hp3 rfl ea_nil (sv_own he3 c)) (ev_var rfl) (e23 _ _ ho1) T.C_Skated T.n_Skated_plain_worth (by decide : 6 < 1000) fun H4 e4 => ?_
      refine s_setF (ev_fld (ev_var rfl) upd_same T.C_Skated T.n_Skated_plain_worth rfl) (ev_var rfl) upd_same T.C_Skated T.n_Skated_goes_by (by decide : 6 < 1000) fun H5 e5 => ?_
      refine s_setF ev_c (ev_var rfl) upd_same T.C_Skated T.n_Skated_is_counted (by decide : 6 < 1000) fun H6 e6 => ?_
      have hP4 := hP3.other (v := .ins a.c_Skated dx (putF "plain_worth" (.int (ownWorth t.element : Nat)) (F_Skated (.ref e) (.bl t.second) (.ref g) (.bl false) (.int 0) (.int 0)))) List.mem_cons_self e4 nop nok nos
      have hP5 := hP4.other (v := .ins a.c_Skated dx (putF "goes_by" (.int (ownWorth t.element : Nat)) (putF "plain_worth" (.int (ownWorth t.element : Nat)) (F_Skated (.ref e) (.bl t.second) (.ref g) (.bl false) (.int 0) (.int 0))))) List.mem_cons_self e5 nop nok nos
      have hP6 := hP5.other (v := .ins a.c_Skated dx (putF "is_counted" (.bl true) (putF "goes_by" (.int (ownWorth t.element : Nat)) (putF "plain_worth" (.int (ownWorth t.element : Nat)) (F_Skated (.ref e) (.bl t.second) (.ref g) (.bl false) (.int 0) (.int 0)))))) List.mem_cons_self e6 nop nok nos
      refine fin _ true _ _ seen ((((((Gr.of (e23.trans e4)).upd List.mem_cons_self ((e23.trans e4) _ _ ho1)).trans (Gr.of e5)).upd List.mem_cons_self (e5 _ _ upd_same)).trans (Gr.of e6)).upd List.mem_cons_self (e6 _ _ upd_same)) (fun b v hb n1 n2 => by rw [upd_ne n1]; exact e6 _ _ (by rw [upd_ne n1]; exact e5 _ _ (by rw [upd_ne n1]; exact e4 _ _ (e23 _ _ hb)))) hP6 (by unfold OneAt; rw [upd_same]; rfl) (hval _ _ ow) ⟨by rw [gs, od]; exact hS.great, by rw [List.length_append]; have := hS.few; show _ ≤ 3 * (els.length + 1); omega⟩
  · have hc : ¬ Kg56.counts free (Sk.gone free Sk.g0 els) t.element = true := by rw [cnt]; exact Bool.eq_false_iff.mp hb
    rw [if_neg hc] at gs
    refine fin H2 false 0 0 seen (Gr.of e2) (fun b v hb _ _ => e2 _ _ hb) (hP1.fz e2) (e2 _ _ ho1) ?_ ⟨by rw [gs]; exact hS.great, by rw [List.length_append]; have := hS.few; omega⟩
    unfold Sk.valOf
    rw [if_neg hc]
end
end SkW

set_option Elab.async false
set_option linter.all false
set_option maxRecDepth 100000
set_option maxHeartbeats 4000000
namespace SkW
open PySem PySem.Spec PyProof.Rows L2 Evl
section
variable {P : Program} {w : World} {K : PySem.W.Frag} {mg : Str → Option Value} {base : Heap} {a : Ad}
theorem inV_nat (n : Nat) (l : List Nat) : inV (.int (n : Nat)) (tv l) = decide (n ∈ l) := by
  unfold inV tv iz
  induction l with
  | nil => rfl
  | cons m l ih =>
    rw [List.map_cons, List.map_cons, List.any_cons, ih]
    show (((m : Int) == (n : Int)) || _) = _
    by_cases c : m = n
    · subst c; simp
    · rw [show ((m : Int) == (n : Int)) = false from beq_eq_false_iff_ne.mpr fun z => c (Int.ofNat.inj z), Bool.false_or]
      exact decide_eq_decide.mpr ⟨fun h => List.mem_cons_of_mem _ h, fun h => (List.mem_cons.mp h).resolve_left fun z => c z.symm⟩
theorem flat_tv (l : List Nat) : (tv l).all flatV = true := by
  unfold tv iz
  rw [List.all_eq_true]
  intro x hx
  obtain ⟨i, _, rfl⟩ := List.mem_map.mp hx
  rfl
theorem flags_more (vals : List Sk.Val) {i : Nat} {x : Sk.Val} (h : vals[i]? = some x) : Sk.flags 0 (vals.take (i + 1)) = Sk.flags 0 (vals.take i) ++ (if Sk.flag x = true then [i] else []) := by
  have hi := (List.getElem?_eq_some_iff.mp h).1
  rw [List.take_add_one, h]
  show Sk.flags 0 (vals.take i ++ [x]) = _
  rw [Sk.flags_app, List.length_take, Nat.min_eq_left (by omega), Nat.zero_add]
  show _ ++ (if Sk.flag x = true then i :: [] else []) = _
  rfl
theorem jumps_sort (e : Kg56.Element) : Kg56.isJumps e = decide (Sk.sortOf e = 0) := by cases e <;> rfl
def sp_bonus (a : Ad) (K : PySem.W.Frag) : Sp := fun vs H Q _ => ∃ (p sk se : Addr) (ro fa : V) (free : Bool) (vals : List Sk.Val) (seen : Sk.Seen) (G : Hp), vs = [.ref p] ∧ ProgAt a K G H p sk se ro fa free vals seen ∧ RetL (tv (Sk.moreAt free vals)) H Q
theorem ok_Program_with_bonus (T : Txt K mg a) : FnOk P w K mg base CX0 1 a.f_Program_with_bonus a.d_Program_with_bonus ["self"] (sp_bonus a K) := by
  refine T.F_Program_with_bonus.ok sc_Program_with_bonus (fun vs H Q E h => ?_) (fun cdv A outer s H vs Q E hr h => ?_)
  · obtain ⟨_, _, _, _, _, _, _, _, _, rfl, _⟩ := h
    rfl
  refine ⟨_, (pss_cons (ps_set (i := 1) sc_Program_with_bonus.nd rfl (Or.inl rfl) (pe_lst pa_nil))
    (pss_cons (ps_for PassesOwn.never rfl (pi_enum rfl T.n_enumerate (by exact (pa_cons (pe_fld (pv 0) rfl) pa_nil))) (pg_tup (n := 2) rfl (pgs_cons (pg_name (i := 2) sc_Program_with_bonus.nd rfl (Or.inl rfl)) (pgs_cons (pg_name (i := 3) sc_Program_with_bonus.nd rfl (Or.inl rfl)) pgs_nil)))
      (pss_one (ps_if (PW.pt (pw_and (pt_val (pe_fld (pv 3) rfl)) (pw_and (pt_val (pe_fld (pv 3) rfl)) (pw_and1 (pt_cmpR op_eq (pe_fld (pe_fld (pv 3) rfl) rfl) (pe_gint rfl T.i_JUMPS) (nomark _)))))) (pss_one (ps_expr (pe_bm PySem.F.plainAttrs_list PySem.F.slot_list_append PySem.F.type_list_append mt_append (pv 1) (by exact (pa_cons (pv 2) pa_nil))))) pss_nil)))
    (pss_one (ps_ret (pe_slice sl_list (pv 1) (po_some (pe_callB (call_max2 rfl) rfl T.n_max (by decide +kernel) (by exact (pa_cons pe_int (pa_cons (pe_op op_sub (pe_callB call_len_seq rfl T.n_len (by decide +kernel) (by exact (pa_cons (pv 1) pa_nil))) (pe_ix ix_tup (pe_gref rfl T.t_MOST_BONUS) (pe_fld (pv 0) rfl) (fun _ _ => rfl))) pa_nil))))) po_none))))), ?_⟩

  obtain ⟨p, sk, se, ro, fa, free, vals, seen, G, rfl, hP, k⟩ := h
  refine q_asgL (el_lst ea_nil (Nat.zero_le _)) fun f H1 hf e1 h1 => ?_
  have hP1 := hP.ex e1
  obtain ⟨dx, hp⟩ := hP1.obj
  obtain ⟨zs, hz1, hz2⟩ := hP1.sks
  have hzl := Paired.length hz2
  have hv20 := hP1.few
  have npf : p ≠ f := fun z => by
    obtain ⟨dx0, hp0⟩ := hP.obj
    rw [z, hf] at hp0; cases hp0
  have nkf : sk ≠ f := fun z => by
    obtain ⟨zs0, hz0, _⟩ := hP.sks
    rw [z, hf] at hz0; cases hz0
  refine q_forEnum (p := sk) (ea_cons (ev_fld (ev_var rfl) hp T.C_Program T.n_Program_skated rfl) ea_nil) (sq_of hz1) (fun i σ' H' => Ex H H' ∧ H' p = H1 p ∧ H' sk = H1 sk ∧ H' f = some (.lst (tv (Sk.flags 0 (vals.take i)))) ∧ ∃ x y, σ' = [some (.ref p), some (.ref f), x, y])
    (fun H2 e2 => ⟨e1.trans e2, by rw [hp]; exact e2 _ _ hp, by rw [hz1]; exact e2 _ _ hz1, e2 _ _ h1, none, none, rfl⟩) (fun i σ' H' pv => sq_of (by rw [pv.2.2.1]; exact hz1)) (fun i x σ' H' H2 hi pv e2 => ?_) (fun σ' H' pv => ?_)
  · obtain ⟨ex, q1, q2, q3, x1, y1, hσ⟩ := pv
    subst hσ
    obtain ⟨z, hzi, rfl⟩ := at_map hi
    obtain ⟨v, hvi, hsa⟩ := paired_get hz2 hzi
    obtain ⟨dz, g, s1, s2, s3, s4⟩ := hsa.ex (hP.le.trans (ex.trans e2))
    obtain ⟨_, dze, qe, t1, t2⟩ := s2
    have hfm := flags_more vals hvi
    refine s_when (b := Sk.flag v) (et_is (et_and (et_B (ev_fld (ev_var rfl) s1 T.C_Skated T.n_Skated_is_counted rfl)) fun _ => et_and (et_B (ev_fld (ev_var rfl) s1 T.C_Skated T.n_Skated_is_later rfl)) fun _ => et_test (ev_op (ev_fld (ev_fld (ev_var rfl) s1 T.C_Skated T.n_Skated_skill rfl) t1 T.C_Element T.n_Element_sort_told rfl) ev_c (rv_eq rfl))) ?_) (fun hb H3 e3 => ?_) (fun hb H3 e3 => ?_)
    · unfold Sk.flag
      rw [jumps_sort, dec_ints (i := Sk.sortOf v.1.element) (j := 0) rfl]
      rfl
    · rw [if_pos hb] at hfm
      have hlen : (tv (Sk.flags 0 (vals.take i))).length < 100000 := by
        rw [tv_len]
        have h2 := Sk.flags_len (vals.take i) 0
        have h3 : Kg56.late (vals.take i) ≤ (vals.take i).length := by unfold Kg56.late; exact List.length_filter_le _ _
        have h4 : (vals.take i).length ≤ i := by rw [List.length_take]; omega
        have h5 := (List.getElem?_eq_some_iff.mp hvi).1
        have h6 : (Sk.flags 0 (vals.take i)).length ≤ i := by omega
        have h7 : List.length (Sk.flags 0 (vals.take i)) < 100000 := by omega
        exact h7
      refine s_app ((e2.trans e3) _ _ q3) (ev_var rfl) (ev_var rfl) hlen fun H4 e4 => ⟨((ex.trans e2).trans (e3.trans e4)).mut hf, ?_, ?_, ?_, _, _, rfl⟩
      · rw [upd_ne npf, hp]
        exact e4 _ _ (e3 _ _ (e2 _ _ (by rw [q1]; exact hp)))
      · rw [upd_ne nkf, hz1]
        exact e4 _ _ (e3 _ _ (e2 _ _ (by rw [q2]; exact hz1)))
      · rw [upd_same, hfm]
        unfold tv iz
        simp
    · rw [if_neg (Bool.eq_false_iff.mp hb), List.append_nil] at hfm
      have e23 := e2.trans e3
      refine ⟨ex.trans e23, by rw [hp]; exact e23 _ _ (by rw [q1]; exact hp), by rw [hz1]; exact e23 _ _ (by rw [q2]; exact hz1), by rw [hfm]; exact e23 _ _ q3, _, _, rfl⟩
  · obtain ⟨ex, q1, q2, q3, x1, y1, hσ⟩ := pv
    subst hσ
    rw [List.length_map, hzl, List.take_length] at q3
    refine s_retL (xs := tv (Sk.moreAt free vals)) (el_is (el_sl (ev_var rfl) (eo_some (ev_cb (ea_cons ev_c (ea_cons (ev_op (ev_cb (ea_cons (ev_var rfl) ea_nil) (rc_len (.inl (sq_of q3)))) (ev_op ev_c (ev_fld (ev_var rfl) (q1.trans hp) T.C_Program T.n_Program_free rfl) (rv_ixT (v := .int (Kg56.moreMost free : Nat)) (T.T_MOST_BONUS.t H') (by rw [at_free]; cases free <;> rfl))) rv_I0) ea_nil)) rc_max)) eo_none (sq_of q3)) ?_) fun q H2 hq e2 h2 => k.go ex hq e2 h2
    rw [tv_len]
    have : (if ((Sk.flags 0 vals).length : Int) - (Kg56.moreMost free : Nat) > 0 then ((Sk.flags 0 vals).length : Int) - (Kg56.moreMost free : Nat) else 0) = (((Sk.flags 0 vals).length - Kg56.moreMost free : Nat) : Int) := by
      split <;> omega
    show cutV _ (some (if ((Sk.flags 0 vals).length : Int) - (Kg56.moreMost free : Nat) > 0 then ((Sk.flags 0 vals).length : Int) - (Kg56.moreMost free : Nat) else 0)) none = _
    rw [this, cut_from]
    rfl
def PairAt (X : Hp) (t : Addr) (y : Nat × Int) : Prop := X t = some (.tup [.int (y.1 : Nat), .int y.2])
def PairsAt (X : Hp) (q : Addr) (sheet : List (Nat × Int)) : Prop := ∃ ts : List Addr, X q = some (.lst (ts.map V.ref)) ∧ Paired (PairAt X) ts sheet
theorem PairsAt.ex {X X' : Hp} {q : Addr} {sheet : List (Nat × Int)} (h : PairsAt X q sheet) (e : Ex X X') : PairsAt X' q sheet := by
  obtain ⟨ts, h1, h2⟩ := h
  exact ⟨ts, e _ _ h1, Paired.mapP h2 fun _ _ z => e _ _ z⟩
/-- the worths, and what grades make -/
def sheetOf (free : Bool) (vals : List Sk.Val) : List (Nat × Int) := vals.mapIdx fun i x => (Sk.ownOf free vals i x, Sk.madeOf x)
def sp_worths (a : Ad) (K : PySem.W.Frag) : Sp := fun vs H Q _ => ∃ (p sk se : Addr) (ro fa : V) (free : Bool) (vals : List Sk.Val) (seen : Sk.Seen) (G : Hp), vs = [.ref p] ∧ ProgAt a K G H p sk se ro fa free vals seen ∧
  ∀ q H', H q = none → Ex H H' → PairsAt (nw H H') q (sheetOf free vals) → Q (.ref q) H'
theorem sv_made {H : Hp} {z : Addr × Addr} {x : Sk.Val} (h : SkAt a K H z x) : SpV (sp_made a K) [.ref z.1] H (.int (Sk.madeOf x)) := fun H1 e Q q E => ⟨z, x, rfl, h.ex e, q⟩
theorem ok_Program_worths (T : Txt K mg a) : FnOk P w K mg base CX0 6 a.f_Program_worths a.d_Program_worths ["self"] (sp_worths a K) := by
  refine T.F_Program_worths.ok sc_Program_worths (fun vs H Q E h => ?_) (fun cdv A outer s H vs Q E hr h => ?_)
  · obtain ⟨_, _, _, _, _, _, _, _, _, rfl, _⟩ := h
    rfl
  refine ⟨_, (pss_cons (ps_set (i := 1) sc_Program_worths.nd rfl (Or.inl rfl) (pe_meth0 (pv 0) T.C_Program T.M_Program_with_bonus (ok_Program_with_bonus T) (hr.mono (by decide)) T.b_Program_with_bonus .nil pass0))
    (pss_cons (ps_set (i := 2) sc_Program_worths.nd rfl (Or.inl rfl) (pe_lst pa_nil))
    (pss_cons (ps_for PassesOwn.never rfl (pi_enum rfl T.n_enumerate (by exact (pa_cons (pe_fld (pv 0) rfl) pa_nil))) (pg_tup (n := 2) rfl (pgs_cons (pg_name (i := 3) sc_Program_worths.nd rfl (Or.inl rfl)) (pgs_cons (pg_name (i := 4) sc_Program_worths.nd rfl (Or.inl rfl)) pgs_nil)))
      (pss_cons (ps_set (i := 5) sc_Program_worths.nd rfl (Or.inl rfl) (pe_fld (pv 4) rfl))
    (pss_cons (ps_if (pt_cmpR op_in_seq (pv 3) (pv 1) rfl) (pss_one (ps_set (i := 5) sc_Program_worths.nd rfl (Or.inl rfl) (pe_call (ok_hundredths T) (hr.mono (by decide)) rfl T.g_hundredths T.k_hundredths T.b_hundredths .nil pass0 (by exact (pa_cons (pv 5) (pa_cons (pe_gint rfl T.i_LATER) pa_nil)))))) pss_nil)
    (pss_one (ps_expr (pe_bm PySem.F.plainAttrs_list PySem.F.slot_list_append PySem.F.type_list_append mt_append (pv 2) (by exact (pa_cons (pe_tup (pa_cons (pv 5) (pa_cons (pe_meth0 (pv 4) T.C_Skated T.M_Skated_made (ok_Skated_made T) (hr.mono (by decide)) T.b_Skated_made .nil pass0) pa_nil))) pa_nil))))))))
    (pss_one (ps_ret (pv 2)))))), ?_⟩

  obtain ⟨p, sk, se, ro, fa, free, vals, seen, G, rfl, hP, k⟩ := h
  obtain ⟨dx0, hp0⟩ := hP.obj
  refine q_asgL (el_meth (ev_var rfl) hp0 rfl ea_nil fun H1 e1 Q1 q1 E1 => ⟨p, sk, se, ro, fa, free, vals, seen, G, rfl, hP.ex e1, fun q H2 hq e2 h2 => q1 q H2 hq e2 h2⟩) fun m H1 hm e1 hm1 => ?_
  refine q_asgL (el_lst ea_nil (Nat.zero_le _)) fun f H2 hf e2 h2 => ?_
  have hP1 := hP.ex e1
  obtain ⟨dx, hp⟩ := hP1.obj
  obtain ⟨zs, hz1, hz2⟩ := hP1.sks
  have hzl := Paired.length hz2
  have hv20 := hP1.few
  have hfH : H f = none := fresh_back e1 hf
  refine q_forEnum (p := sk) (ea_cons (ev_fld (ev_var rfl) (e2 _ _ hp) T.C_Program T.n_Program_skated rfl) ea_nil) (sq_of (e2 _ _ hz1)) (fun i σ' H' => Ex H1 H' ∧ (∃ ts : List Addr, H' f = some (.lst (ts.map V.ref)) ∧ Paired (fun t y => PairAt H' t y ∧ H t = none ∧ t ≠ f) ts ((sheetOf free vals).take i)) ∧ ∃ x y z, σ' = [some (.ref p), some (.ref m), some (.ref f), x, y, z])
    (fun H3 e3 => ⟨e2.trans e3, ⟨[], e3 _ _ h2, .nil⟩, none, none, none, rfl⟩) (fun i σ' H' pv => sq_of (pv.1 _ _ hz1)) (fun i x σ' H' H3 hi pv e3 => ?_) (fun σ' H' pv => ?_)
  · obtain ⟨ex, ⟨ts, hts, hpt⟩, x1, y1, z1, hσ⟩ := pv
    subst hσ
    obtain ⟨z, hzi, rfl⟩ := at_map hi
    obtain ⟨v, hvi, hsa⟩ := paired_get hz2 hzi
    have hil := (List.getElem?_eq_some_iff.mp hvi).1
    have e13 := ex.trans e3
    have hsa3 := hsa.ex (hP1.le.trans e13)
    obtain ⟨dz, g, s1, s2, s3, s4⟩ := id hsa3
    have hsh : (sheetOf free vals)[i]? = some (Sk.ownOf free vals i v, Sk.madeOf v) := by
      unfold sheetOf
      rw [List.getElem?_mapIdx, hvi]; rfl
    have ht1 : (sheetOf free vals).take (i + 1) = (sheetOf free vals).take i ++ [(Sk.ownOf free vals i v, Sk.madeOf v)] := by rw [List.take_add_one, hsh]; rfl
    have htl : ts.length ≤ i := by have := Paired.length hpt; rw [List.length_take] at this; omega
    have rest : ∀ H4, Ex H3 H4 → ∀ u : Nat, u = Sk.ownOf free vals i v → tDrop (tBM K "list" rAppend (tVar 2) (tCons (tTup (tCons (tVar 5) (tCons (tMeth a.c_Skated "made" (sp_made a K) [] E0 (tVar 4) tNil) tNil))) tNil)) { nx := fun σ' H' => Ex H1 H' ∧ (∃ ts : List Addr, H' f = some (.lst (ts.map V.ref)) ∧ Paired (fun t y => PairAt H' t y ∧ H t = none ∧ t ≠ f) ts ((sheetOf free vals).take (i + 1))) ∧ ∃ x y z, σ' = [some (.ref p), some (.ref m), some (.ref f), x, y, z], rt := Q } [some (.ref p), some (.ref m), some (.ref f), some (.int (i : Nat)), some (.ref z.1), some (.int (u : Nat))] H4 := by
      intro H4 e4 u hu
      refine s_appU ((e3.trans e4) _ _ hts) (ev_var rfl) (eu_tup (ea_cons (ev_var rfl) (ea_cons (ev_meth (ev_var rfl) (e4 _ _ s1) rfl ea_nil (sv_made (hsa3.ex e4))) ea_nil)) (Nat.le_of_ble_eq_true rfl)) (by rw [List.length_map]; omega) fun t H5 ht e5 h5 => ⟨((e13.trans e4).trans e5).mut hf, ⟨ts ++ [t], ?_, ?_⟩, _, _, _, rfl⟩
      · rw [upd_same, List.map_append]; rfl
      · rw [ht1]
        have ntf : t ≠ f := fun c => by rw [c, (e3.trans e4) _ _ hts] at ht; cases ht
        refine paired_snoc (Paired.mapP hpt fun t' y' k' => ⟨?_, k'.2⟩) ⟨?_, fresh_back ((e1.trans e13).trans e4) ht, ntf⟩
        · show upd H5 f _ t' = _
          rw [upd_ne k'.2.2]
          exact e5 _ _ ((e3.trans e4) _ _ k'.1)
        · show upd H5 f _ t = _
          rw [upd_ne ntf, h5, hu]
    refine q_asg (ev_fld (ev_var rfl) s1 T.C_Skated T.n_Skated_plain_worth rfl) fun H4 e4 => ?_
    refine q_when (b := decide (i ∈ Sk.moreAt free vals)) (et_is (et_test (ev_op (ev_var rfl) (ev_var rfl) (rv_isL (sq_of ((e13.trans e4) _ _ hm1)) rfl (flat_tv _)))) (inV_nat _ _)) (fun hb H5 e5 => ?_) (fun hb H5 e5 => ?_)
    · have c := of_decide_eq_true hb
      have hval := s4.2
      refine s_asg (ev_call (ea_cons (ev_var rfl) (ea_cons ev_c ea_nil)) (sv_hundredths (v := v.2.2.1) rfl (p := 110) rfl (by decide))) fun H6 e6 => ?_
      exact rest H6 ((e4.trans e5).trans e6) (Kg56.part v.2.2.1 110) (by unfold Sk.ownOf; rw [if_pos c])
    · have c := of_decide_eq_false hb
      exact rest H5 (e4.trans e5) v.2.2.1 (by unfold Sk.ownOf; rw [if_neg c])
  · obtain ⟨ex, ⟨ts, hts, hpt⟩, x1, y1, z1, hσ⟩ := pv
    subst hσ
    have hsl : (sheetOf free vals).length = vals.length := by unfold sheetOf; rw [List.length_mapIdx]
    rw [List.length_map, hzl, ← hsl, List.take_length] at hpt
    refine s_ret (ev_var rfl) fun H3 e3 => k f H3 hfH ((e1.trans ex).trans e3) ⟨ts, ?_, Paired.mapP hpt fun t y k' => ?_⟩
    · rw [nw_of hfH]; exact e3 _ _ hts
    · show nw H H3 t = _
      rw [nw_of k'.2.1]
      exact e3 _ _ k'.1
end
end SkW

set_option Elab.async false
set_option linter.all false
set_option maxRecDepth 100000
set_option maxHeartbeats 4000000
namespace SkW
open PySem PySem.Spec PyProof.Rows L2 Evl
section
variable {P : Program} {w : World} {K : PySem.W.Frag} {mg : Str → Option Value} {base : Heap} {a : Ad}
/-- rows of marks -/
def RowsAt (K : PySem.W.Frag) (G : Hp) (rr : Addr) (rows : List (List Int)) : Prop := ∃ rs : List Addr, SqL K G rr (rs.map V.ref) ∧ Rows K G rs rows
theorem RowsAt.ex {G H : Hp} {rr : Addr} {rows : List (List Int)} (h : RowsAt K G rr rows) (e : Ex G H) : RowsAt K H rr rows := by
  obtain ⟨rs, h1, h2⟩ := h
  exact ⟨rs, ex_l e h1, h2.ex e⟩
def RowsOk (rows : List (List Int)) : Prop := rows.length ≤ 100 ∧ ∀ ns ∈ rows, 0 < ns.length ∧ ns.length < 64
def ResF (q : Addr) (s : Kg56.Score) : List (Str × V) := F_Result (.ref q) (.int s.elements) (.int s.components) (.int (s.cost : Nat)) (.int s.all)
def elemsSum (sheet : List (Nat × Int)) : Int := (sheet.map fun y => (y.1 : Int) + y.2).sum
def scoreOfV (free : Bool) (vals : List Sk.Val) (rows : List (List Int)) (factor f o s : Nat) : Kg56.Score :=
  ⟨elemsSum (sheetOf free vals), Kg56.nearest ((rows.map Kg56.component).foldl (fun a b => a + b) 0 * factor) 100, Kg56.fallsCost f + (100 * o + 100 * ((s + 4) / 5))⟩
def sp_Result_init (a : Ad) (K : PySem.W.Frag) : Sp := fun vs H Q _ => ∃ (r dr p sk se rr fa : Addr) (free : Bool) (vals : List Sk.Val) (seen : Sk.Seen) (G : Hp) (rows : List (List Int)) (factor f o s : Nat), vs = [.ref r, .ref p, .int factor] ∧ H r = some (.ins a.c_Result dr []) ∧ G r = none ∧ ProgAt a K G H p sk se (.ref rr) (.ref fa) free vals seen ∧
  RowsAt K G rr rows ∧ RowsOk rows ∧ SqT K G fa [.int f, .int o, .int s] ∧ f ≤ 1000 ∧ o ≤ 1000 ∧ s ≤ 1000 ∧ factor ≤ 1000 ∧
  ∀ q H', H q = none → H' r = some (.ins a.c_Result dr (ResF q (scoreOfV free vals rows factor f o s))) → PairsAt (nw H H') q (sheetOf free vals) → But r H H' → Q .non H'
theorem ex_but {G H H' : Hp} {r : Addr} (e : Ex G H) (g : G r = none) (b : But r H H') : Ex G H' := fun x o h => b x o (e x o h) (ne_of_none h g)
theorem But.ex {r : Addr} {H H1 H2 : Hp} (b : But r H H1) (e : Ex H1 H2) : But r H H2 := fun x o h n => e _ _ (b x o h n)
theorem But.upd {r : Addr} {H H1 : Hp} {v : HO} (b : But r H H1) : But r H (upd H1 r v) := fun x o h n => by rw [upd_ne n]; exact b x o h n
theorem But.of {r : Addr} {H H1 : Hp} (e : Ex H H1) : But r H H1 := fun x o h _ => e _ _ h
theorem q_asgT3 {σ : L2.St} {H : Hp} {D : Ends} {tz : TS} {te : TE} {t : Addr} {x y z : V} {i j l : Nat} (h : Ev te σ H (.ref t)) (ht : SqT K H t [x, y, z]) (k : ∀ H1, Ex H H1 → tz D (((σ.set i (some x)).set j (some y)).set l (some z)) H1) : tSeq (tAsg te (gTup K 3 (gCons (gName i) (gCons (gName j) (gCons (gName l) gNil))))) tz D σ H :=
  h H (Ex.refl H) _ fun H1 e1 => ⟨t, _, rfl, ex_t e1 ht, rfl, _, _, rfl, _, _, rfl, _, _, rfl, rfl, k H1 e1⟩
theorem q_asgT2 {σ : L2.St} {H : Hp} {D : Ends} {tz : TS} {te : TE} {t : Addr} {x y : V} {i j : Nat} (h : Ev te σ H (.ref t)) (ht : SqT K H t [x, y]) (k : ∀ H1, Ex H H1 → tz D ((σ.set i (some x)).set j (some y)) H1) : tSeq (tAsg te (gTup K 2 (gCons (gName i) (gCons (gName j) gNil)))) tz D σ H :=
  h H (Ex.refl H) _ fun H1 e1 => ⟨t, _, rfl, ex_t e1 ht, rfl, _, _, rfl, _, _, rfl, rfl, k H1 e1⟩
theorem ok_Result___init__ (T : Txt K mg a) : FnOk P w K mg base CX0 7 a.f_Result___init__ a.d_Result___init__ ["self", "program", "factor"] (sp_Result_init a K) := by
  refine T.F_Result___init__.ok sc_Result___init__ (fun vs H Q E h => ?_) (fun cdv A outer s H vs Q E hr h => ?_)
  · obtain ⟨_, _, _, _, _, _, _, _, _, _, _, _, _, _, _, _, rfl, _⟩ := h
    rfl
  refine ⟨_, (pss_cons (ps_fld (pv 0) (pe_meth0 (pv 1) T.C_Program T.M_Program_worths (ok_Program_worths T) (hr.mono (by decide)) T.b_Program_worths .nil pass0) rfl)
    (pss_cons (ps_fld (pv 0) (pe_callB (cr_sum rfl) rfl T.n_sum (by decide +kernel) (by exact (pa_cons (pe_lc (own := [("own", 6), ("made", 7)]) rfl sc_Result___init__.nd (pi_list (pe_fld (pv 0) rfl)) (blkOk_by (N := ["self", "program", "factor", "falls", "others", "seconds", "own", "made"]) (sc := defScope s_Result___init__) (by decide +kernel)) (fun _ _ _ _ _ => (pg_tupK (K := K) (n := 2) rfl rfl (pgs_cons (pg_name (i := 6) sc_Result___init__.nd rfl (by first | exact Or.inl rfl | exact Or.inr rfl)) (pgs_cons (pg_name (i := 7) sc_Result___init__.nd rfl (by first | exact Or.inl rfl | exact Or.inr rfl)) pgs_nil)))) (fun _ _ _ _ _ => pts_nil) (fun _ _ _ _ _ => (pe_op op_add (pv 6) (pv 7)))) pa_nil))) rfl)
    (pss_cons (ps_fld (pv 0) (pe_call (ok_components_of T) (hr.mono (by decide)) rfl T.g_components_of T.k_components_of T.b_components_of .nil pass0 (by exact (pa_cons (pe_fld (pv 1) rfl) (pa_cons (pv 2) pa_nil)))) rfl)
    (pss_cons (ps_asg (pe_fld (pv 1) rfl) (pg_tup (n := 3) rfl (pgs_cons (pg_name (i := 3) sc_Result___init__.nd rfl (Or.inl rfl)) (pgs_cons (pg_name (i := 4) sc_Result___init__.nd rfl (Or.inl rfl)) (pgs_cons (pg_name (i := 5) sc_Result___init__.nd rfl (Or.inl rfl)) pgs_nil)))))
    (pss_cons (ps_fld (pv 0) (pe_call (ok_taken_off T) (hr.mono (by decide)) rfl T.g_taken_off T.k_taken_off T.b_taken_off .nil pass0 (by exact (pa_cons (pv 3) (pa_cons (pv 4) (pa_cons (pv 5) pa_nil))))) rfl)
    (pss_one (ps_fld (pv 0) (pe_callB (call_max2 rfl) rfl T.n_max (by decide +kernel) (by exact (pa_cons pe_int (pa_cons (pe_op op_sub (pe_op op_add (pe_fld (pv 0) rfl) (pe_fld (pv 0) rfl)) (pe_fld (pv 0) rfl)) pa_nil)))) rfl))))))), ?_⟩

  obtain ⟨r, dr, p, sk, se, rr, fa, free, vals, seen, G, rows, factor, f, o, s, rfl, hr0, hGr, hP, hrows, hrok, hfa, hf, ho, hs, hfac, k⟩ := h
  obtain ⟨dxp, hp⟩ := hP.obj
  obtain ⟨zs, hz1, hz2⟩ := hP.sks
  obtain ⟨ss, hs1, hs2⟩ := hP.sees
  have npr : p ≠ r := fun z => by
    rw [z, hr0] at hp
    have := (HO.ins.inj (Option.some.inj hp)).2.2
    cases this
  have nkr : sk ≠ r := fun z => by rw [z, hr0] at hz1; cases hz1
  have nsr : se ≠ r := fun z => by rw [z, hr0] at hs1; cases hs1
  have prog : ∀ H', But r H H' → ProgAt a K G H' p sk se (.ref rr) (.ref fa) free vals seen := fun H' b =>
    ⟨ex_but hP.le hGr b, ⟨dxp, b _ _ hp npr⟩, ⟨zs, b _ _ hz1 nkr, hz2⟩, ⟨ss, b _ _ hs1 nsr, hs2⟩, hP.few, hP.less, hP.apart⟩
  refine ⟨_, rfl, p, dxp, _, rfl, hp, rfl, p, sk, se, _, _, free, vals, seen, G, rfl, hP, fun q H1 hq e1 hpq => ⟨_, rfl, r, _, dr, _, rfl, e1 _ _ hr0, T.C_Result, T.n_Result_pairs, (by decide : 0 < 1000), ?_⟩⟩
  have gq : (nw H H1) r = none := by unfold nw; rw [hr0]; rfl
  have b1 : But r H (upd H1 r (.ins a.c_Result dr (putF "pairs" (.ref q) []))) := (But.of e1).upd
  have x1 : Ex (nw H H1) (upd H1 r (.ins a.c_Result dr (putF "pairs" (.ref q) []))) := Ex.mut nw_le gq
  obtain ⟨ts, ht1, ht2⟩ := hpq.ex x1
  obtain ⟨ws, w1, w2, w3⟩ := paired_zip ht2
  have hwl : ws.length ≤ 20 := by
    have h1 : ws.length = (sheetOf free vals).length := by rw [← w2, List.length_map]
    have h2 : (sheetOf free vals).length = vals.length := by unfold sheetOf; rw [List.length_mapIdx]
    have := hP.few
    omega
  have hql : upd H1 r (.ins a.c_Result dr (putF "pairs" (.ref q) [])) q = some (.lst (ws.map fun y => V.ref y.1)) := by
    have : (ws.map fun y => V.ref y.1) = ts.map V.ref := by rw [← w1, List.map_map]; rfl
    rw [this]; exact ht1
  have hsum : ((ws.filter fun _ => true).map fun y => V.int ((y.2.1 : Nat) + y.2.2)) = (ws.map fun y => ((y.2.1 : Nat) : Int) + y.2.2).map V.int := by
    rw [List.filter_eq_self.mpr fun _ _ => rfl, List.map_map]; rfl
  refine q_setF (v := .int (elemsSum (sheetOf free vals))) (ev_is (ev_sumN (el_is (el_pickG ws (fun _ => true) (fun y => V.ref y.1) (fun y => V.int ((y.2.1 : Nat) + y.2.2)) (fun y => [some (.ref r), some (.ref p), some (.int (factor : Nat)), none, none, none, some (.int (y.2.1 : Nat)), some (.int y.2.2)]) (ev_fld (ev_var rfl) upd_same T.C_Result T.n_Result_pairs rfl) (sq_of hql) (by omega) (fun z H2 e2 hz Q1 q1 => ?_) (fun z hz => rfl) (fun z H2 e2 hz => et_yes) (fun z H2 e2 hz _ => ev_op (ev_var rfl) (ev_var rfl) rv_I0)) hsum)) ?_) (ev_var rfl) upd_same T.C_Result T.n_Result_all_elements (by decide : 1 < 1000) fun H2 e2 => ?_
  · exact ⟨z.1, _, rfl, st_of (e2 _ _ (w3 z hz)), rfl, _, _, rfl, _, _, rfl, rfl, q1⟩
  · unfold elemsSum
    rw [← w2, List.map_map]
    rfl
  have b2 := (b1.ex e2).upd (v := .ins a.c_Result dr (putF "all_elements" (.int (elemsSum (sheetOf free vals))) (putF "pairs" (.ref q) [])))
  have hP2 := prog _ b2
  obtain ⟨rs, r1, r2⟩ := hrows.ex hP2.le
  obtain ⟨dx2, hp2⟩ := hP2.obj
  refine q_setF (ev_call (ea_cons (ev_fld (ev_var rfl) hp2 T.C_Program T.n_Program_rows rfl) (ea_cons (ev_var rfl) ea_nil)) fun H3 e3 Q3 q3 E3 => ⟨rr, rs, rows, factor, rfl, ex_l e3 r1, r2.ex e3, hrok.1, hrok.2, hfac, q3⟩) (ev_var rfl) upd_same T.C_Result T.n_Result_components (by decide : 2 < 1000) fun H3 e3 => ?_
  have b3 := (b2.ex e3).upd (v := .ins a.c_Result dr (putF "components" (.int (Kg56.nearest ((rows.map Kg56.component).foldl (fun a b => a + b) 0 * (factor : Nat)) 100)) (putF "all_elements" (.int (elemsSum (sheetOf free vals))) (putF "pairs" (.ref q) []))))
  have hP3 := prog _ b3
  obtain ⟨dx3, hp3⟩ := hP3.obj
  refine q_asgT3 (ev_fld (ev_var rfl) hp3 T.C_Program T.n_Program_told_faults rfl) (ex_t hP3.le hfa) fun H4 e4 => ?_
  have b4 := b3.ex e4
  refine q_setF (ev_call (ea_cons (ev_var rfl) (ea_cons (ev_var rfl) (ea_cons (ev_var rfl) ea_nil))) fun H5 e5 Q5 q5 E5 => ⟨f, o, s, rfl, hf, ho, hs, q5⟩) (ev_var rfl) (e4 _ _ upd_same) T.C_Result T.n_Result_off (by decide : 3 < 1000) fun H5 e5 => ?_
  have b5 := (b4.ex e5).upd (v := .ins a.c_Result dr (putF "off" (.int (Kg56.fallsCost f + (100 * o + 100 * ((s + 4) / 5)) : Nat)) (putF "components" (.int (Kg56.nearest ((rows.map Kg56.component).foldl (fun a b => a + b) 0 * (factor : Nat)) 100)) (putF "all_elements" (.int (elemsSum (sheetOf free vals))) (putF "pairs" (.ref q) [])))))
  refine s_setF (ev_cb (ea_cons ev_c (ea_cons (ev_op (ev_op (ev_fld (ev_var rfl) upd_same T.C_Result T.n_Result_all_elements rfl) (ev_fld (ev_var rfl) upd_same T.C_Result T.n_Result_components rfl) rv_I0) (ev_fld (ev_var rfl) upd_same T.C_Result T.n_Result_off rfl) rv_I0) ea_nil)) rc_max) (ev_var rfl) upd_same T.C_Result T.n_Result_score (by decide : 4 < 1000) fun H6 e6 => ?_
  refine k q _ hq ?_ ?_ (b5.ex e6).upd
  · rw [upd_same]
    have : (scoreOfV free vals rows factor f o s).all = (if elemsSum (sheetOf free vals) + Kg56.nearest ((rows.map Kg56.component).foldl (fun a b => a + b) 0 * (factor : Nat)) 100 - ((Kg56.fallsCost f + (100 * o + 100 * ((s + 4) / 5)) : Nat) : Int) > 0 then elemsSum (sheetOf free vals) + Kg56.nearest ((rows.map Kg56.component).foldl (fun a b => a + b) 0 * (factor : Nat)) 100 - ((Kg56.fallsCost f + (100 * o + 100 * ((s + 4) / 5)) : Nat) : Int) else 0) := by
      show max 0 (elemsSum (sheetOf free vals) + Kg56.nearest ((rows.map Kg56.component).foldl (fun a b => a + b) 0 * (factor : Nat)) 100 - ((Kg56.fallsCost f + (100 * o + 100 * ((s + 4) / 5)) : Nat) : Int)) = _
      split <;> omega
    unfold ResF
    rw [this]
    rfl
  · refine hpq.ex fun b v hb => ?_
    obtain ⟨n1, n2⟩ := nw_some hb
    have nbr : b ≠ r := fun z => by rw [z, hr0] at n1; cases n1
    rw [nw_of n1, upd_ne nbr]
    refine e6 _ _ ?_
    rw [upd_ne nbr]
    refine e5 _ _ (e4 _ _ ?_)
    rw [upd_ne nbr]
    refine e3 _ _ ?_
    rw [upd_ne nbr]
    refine e2 _ _ ?_
    rw [upd_ne nbr]
    exact n2
end
end SkW

set_option Elab.async false
set_option linter.all false
set_option maxRecDepth 100000
set_option maxHeartbeats 4000000
namespace SkW
open PySem PySem.Spec PyProof.Rows L2 Evl LamX
/-! ### sorted(xs, key=lambda one: ..), whose keys hold new lists -/
/-- made since the entry: no name, no cell, no pin, no frame stands there -/
structure Late (X : Cx) (pins : List (Addr × Obj)) (b : Addr) : Prop where
  nl : b ≠ X.env.locals
  ge : X.s_0.heap.objs.size ≤ b
  ce : ∀ x c, X.env.cells.lookup x = some c → c ≠ b
  pn : ∀ p ∈ X.pn ++ pins, p.1 ≠ b
  fr : b ∉ frs X.stack
section
variable {X : Cx} {pins : List (Addr × Obj)} {σ : L2.St} {H : Hp} {s : Shared}
theorem late_of (I : Inv X pins σ H s) {b : Addr} (hb : s.heap.objs.size ≤ b) : Late X pins b := by
  refine ⟨Nat.ne_of_gt (Nat.lt_of_lt_of_le I.lt hb), Nat.le_trans I.sz hb, fun x c e z => ?_, fun p hp z => ?_, fun hb' => ?_⟩
  · obtain ⟨v, o, ho, _⟩ := I.cell x c e
    have lt := Heap.lt_size ho
    rw [z] at lt
    exact absurd hb (Nat.not_le.mpr lt)
  · have lt := Heap.lt_size (I.pin p hp).1
    rw [z] at lt
    exact absurd hb (Nat.not_le.mpr lt)
  · rcases List.mem_cons.mp (I.stkSub b hb') with e | e
    · exact absurd e (Nat.ne_of_gt (Nat.lt_of_lt_of_le I.lt hb))
    · exact I.nofs hb e
/-- two untracked objects of ours change; a list of ours is tracked from now on -/
theorem inv_two {a kS : Addr} {xs : List V} {vs : List Value} {n : Nat} {h' : Heap} {tk : Nat} (I : Inv X pins σ H s) (ha : Late X pins a) (hk : Late X pins kS) (na : H a = none) (nk : H kS = none) (keep : ∀ b o, b ≠ a → b ≠ kS → s.heap.get? b = some o → h'.get? b = some o)
    (ho : h'.get? a = some (seqObj "list" vs.toArray n)) (r : Vals xs vs) (hz : xs.length ≤ sizeLine) : Inv X pins σ (upd H a (.lst xs)) { s with heap := h', toks := tk } := by
  have ne : ∀ (b : Addr) (o : HO), H b = some o → b ≠ a ∧ b ≠ kS := fun b o e => ⟨ne_of_none e na, ne_of_none e nk⟩
  have nm : ∀ {b : Addr}, b ∉ [a, kS] → b ≠ a ∧ b ≠ kS := fun h => ⟨fun z => h (by simp [z]), fun z => h (by simp [z])⟩
  refine I.step (g' := s.gens) (d' := s.drawn) (ch := [a, kS]) (fun b hb => ?_) (fun b o _ _ hc e _ => keep b o (nm hc).1 (nm hc).2 e) (fun b o _ _ hc e _ => ⟨o.slots, keep b o (nm hc).1 (nm hc).2 e⟩) (fun b o hc e n => by rw [upd_ne (nm hc).1]; exact n)
    (fun b o hc e => ⟨o, keep b o (nm hc).1 (nm hc).2 e⟩) (fun b xs e => by rw [upd_ne (ne b _ e).1]; exact e) (fun b o u e => by rw [upd_ne (ne b _ e).1]; exact e) (fun b ps e => ⟨#[], by rw [upd_ne (ne b _ e).1, e]; simp⟩) (fun m hm => ?_) (fun b u e => ?_) I.bare
  · rcases List.mem_cons.mp hb with e | e
    · rw [e]; exact ⟨.inr ha.ge, ha.nl, ha.ce, ha.pn⟩
    · rw [List.mem_singleton.mp e]; exact ⟨.inr hk.ge, hk.nl, hk.ce, hk.pn⟩
  · obtain ⟨o, es, ep, ho', r'⟩ := hm
    exact ⟨o, es, ep, keep _ o (Ne.symm ha.nl) (Ne.symm hk.nl) ho', r'⟩
  · by_cases c : b = a
    · rw [c, upd_same] at e
      cases e
      rw [c]
      exact ⟨hz, vs, n, r, ho⟩
    · rw [upd_ne c] at e
      refine (I.hok b u e).stay (fun d v hd q => ?_) (fun d q => by rw [upd_ne (ne d _ q).1]; exact q) fun d xs q => by rw [upd_ne (ne d _ q).1]; exact q
      rcases hd with z | z
      · rw [z] at q ⊢; exact keep _ _ (ne b u e).1 (ne b u e).2 q
      · exact keep _ _ (ne d _ z).1 (ne d _ z).2 q
theorem inv_one {kS : Addr} {h' : Heap} {tk : Nat} (I : Inv X pins σ H s) (hk : Late X pins kS) (nk : H kS = none) (keep : ∀ b o, b ≠ kS → s.heap.get? b = some o → h'.get? b = some o) : Inv X pins σ H { s with heap := h', toks := tk } :=
  I.turned (t' := tk) keep nk hk.nl (.inr hk.ge) hk.ce hk.pn
end
/-- a lambda without captured names is called -/
theorem lam_run {P : Program} {w : World} {K : PySem.W.Frag} {mg : Str → Option Value} {base : Heap} {k : Nat} {A : Around} {outer : List Env} {s : Shared} {H : Hp} {f c' : Addr} {qual : Str} {params : Arguments} {body : Expr} {scope : Scope} {pm ctv : Value} {N ps : List Str} {us : List Value} {vs : List V} {Q : VK} {tb : TE}
    (hr : Room (k + 1) A) (e0 : Env0 P w K mg base A outer s H) (hf : s.heap.get? f = some (PySem.W.kla_obj "<lambda>" qual params body scope [] pm c' ctv)) (hc : H c' = some (CodeO c' qual)) (S : FnScope N ps scope)
    (hbind : bindArgs (PySem.W.kla_fn "<lambda>" qual params body scope [] pm (.ref c') ctv) ⟨us, []⟩ = pure (ps.zip us)) (r : Vals vs us) (hl : vs.length = ps.length)
    (hbody : Room k (A.deeper (envOfC qual scope s.heap.objs.size f (.ref c'))) → PE (cxOf C8.CX0 P w K mg base N qual scope f (.ref c') A outer s H C8.E0).nox body tb) (hq : tb (L2.start N vs) H Q) :
    codeAny (model P w) A (.call (.ref f) ⟨us, []⟩) (CR C8.CX0 outer P w H s Q C8.E0) s := by
  obtain ⟨⟨oc, fs, t, hoc, hdc, hvc⟩, _, _⟩ := e0.hok c' _ hc
  have lim : s.heap.NoLimit := e0.mod.nolimit.keeps fun b o e => (e0.bs b o e).1
  have hkind : ∀ y ∈ ps.zip us, scope.names.lookup y.1 = some .local ∨ (scope.names.lookup y.1 = some .cell ∧ ((cellsFrom (s.heap.objs.size + 1) scope.names []).lookup y.1).isSome = true) := fun ⟨n, v⟩ hy => by
    rcases S.par n (List.of_mem_zip hy).1 with q | q
    · exact .inl q
    · exact .inr ⟨q, PySem.W.cellsFrom_some _ _ _ (.inl q)⟩
  refine PySem.W.kla_callFunE hr.depth hf rfl S.co S.gen rfl ⟨c', oc, fs, t, rfl, hoc, hdc, hvc⟩ ?_
  rw [hbind]
  refine wpAny_pure (wpAny_newFunctionEnv_cells S.kind hkind fun env he s1 x => ?_)
  subst he
  refine ⟨lim.keeps x.toInCall.keep, ?_⟩
  have I : Inv (cxOf C8.CX0 P w K mg base N qual scope f (.ref c') A outer s H C8.E0) [] (L2.start N vs) H s1 := inv_start S hr.hd e0 hl r x
  refine PySem.W.kla_codeExpr (wpAny_mono (((hbody (hr.deeper _)).nox).run [] s1 (L2.start N vs) H Q I hq) (fun v s' hs => ?_) fun e s' hs => hs)
  obtain ⟨u, H', J, rv, q⟩ := hs
  exact ⟨u, H', J.os, J.bare, J.base, J.hok, rv, q⟩
/-! the sort itself: its own list at a, its keys at kS, neither of them tracked -/
section
open PySem.W PySem.Calls
theorem vals_each {β : Type} {g : β → V} : ∀ {bs : List β} {us : List Value}, Vals (bs.map g) us → EachIs (fun u b => L2.RelV (g b) u) us bs
  | [], _, h => by cases h; exact .nil
  | _ :: _, _, h => by
    cases h with
    | cons r t => exact .cons r (vals_each t)
theorem each_vals {β : Type} {g : β → V} : ∀ {bs : List β} {us : List Value}, EachIs (fun u b => L2.RelV (g b) u) us bs → Vals (bs.map g) us
  | _, _, .nil => .nil
  | _, _, .cons r t => .cons r (each_vals t)
mutual
theorem dp_mono {K : PySem.W.Frag} {H H' : Hp} (e : Ex H H') : ∀ (d : PyData) (v : V), Dp K H v d → Dp K H' v d
  | .none, _, h => by cases h; exact .non
  | .bool _, _, h => by cases h; exact .bl _
  | .int _, _, h => by cases h; exact .int _
  | .str _, _, h => by cases h; exact .str _
  | .list ds, _, h => by
    cases h with
    | lst h1 h2 => exact .lst (ex_l e h1) (dps_mono e ds _ h2)
  | .tuple ds, _, h => by
    cases h with
    | tup h1 h2 => exact .tup (ex_t e h1) (dps_mono e ds _ h2)
  | .dict _, _, h => by cases h
theorem dps_mono {K : PySem.W.Frag} {H H' : Hp} (e : Ex H H') : ∀ (ds : List PyData) (vs : List V), DpAll K H vs ds → DpAll K H' vs ds
  | [], _, h => by cases h; exact .nil
  | d :: ds, _, h => by
    cases h with
    | cons h1 h2 => exact .cons (dp_mono e d _ h1) (dps_mono e ds _ h2)
end
variable {X : Cx} {pins : List (Addr × Obj)} {σ : L2.St}
theorem reads_keys {H : Hp} {s : Shared} (I : Inv X pins σ H s) : ∀ {ks : List V} {us : List Value} {bs : List (V × PyData)}, Vals ks us → Paired (fun (y : V) (b : V × PyData) => Dp X.K H y b.2) ks bs → EachIs (fun v d => ∃ as, Reads s.heap v d as) us (bs.map (·.2))
  | _, _, _, .nil, .nil => .nil
  | _, _, _, .cons r t, .cons d p => .cons (Dp.reads I _ _ _ d r) (reads_keys I t p)
/-- what a key's call does: it gives data, keeps what is known and what is not -/
def KeyCall (X : Cx) (pins : List (Addr × Obj)) (σ : L2.St) (H3 : Hp) (s' : Shared) (d : PyData) (u : Value) (s'' : Shared) : Prop :=
  ∃ y H4, Inv X pins σ H4 s'' ∧ L2.RelV y u ∧ Ex H3 H4 ∧ Dp X.K H4 y d ∧ ∀ b o, H3 b = none → b ∉ frs X.stack → s'.heap.get? b = some o → s''.heap.get? b = some o ∧ H4 b = none
theorem sort_rest {A : Around} {H2 : Hp} {s : Shared} {a kS f : Addr} {fo : Obj} {e1 : Nat} {vs : List Value} {bs : List (V × PyData)} {P : PySem.Fin → Shared → Prop} {E : Value → Shared → Prop} (I : Inv X pins σ H2 s) (la : Late X pins a) (lk : Late X pins kS) (ha : H2 a = none) (hk : H2 kS = none)
    (oa : s.heap.get? a = some (seqObj "list" #[] e1)) (ok : s.heap.get? kS = some (seqObj "list" #[] 0)) (hka : kS ≠ a) (hf : H2 f = none) (ff : f ∉ frs X.stack) (of : s.heap.get? f = some fo) (hfk : f ≠ kS)
    (hv : Vals (bs.map (·.1)) vs) (hz : vs.length ≤ sizeLine) (hal : AllAlike (bs.map (·.2))) (hsk : Sortable (bs.map (·.2))) (hu : ∀ d ∈ bs.map (·.2), A.units + d.depth < cLine)
    (cb : ∀ b ∈ bs, ∀ (u : Value) (s' : Shared) (H3 : Hp), L2.RelV b.1 u → Inv X pins σ H3 s' → Ex H2 H3 → s'.heap.get? f = some fo → H3 f = none → wpAny (model X.prog X.w) A (call (.ref f) [u]) (KeyCall X pins σ H3 s' b.2) (fun _ _ => False) s')
    (fin : ∀ s'' H4, Inv X pins σ (upd H4 a (.lst ((bs.mergeSort (dataLe false fun b => b.2)).map (·.1)))) s'' → Ex H2 H4 → H4 a = none → P (.done (.ret .none)) s'') :
    wpAny (model X.prog X.w) A (ksk_rest a (.ref f) false vs.toArray e1 (.ref kS)) P E s := by
  have hlen : bs.length = vs.length := by
    have z := Vals.length hv
    rwa [List.length_map] at z
  have hev := vals_each hv
  unfold ksk_rest
  refine wpAny_bind (wpAny_rule ?_)
  rw [List.forIn_toArray]
  refine wpAny_bind (ksk_fold (fun i s' => ∃ H3 kA e ks, Inv X pins σ H3 s' ∧ Ex H2 H3 ∧ s'.heap.get? kS = some (seqObj "list" kA e) ∧ s'.heap.get? a = some (seqObj "list" #[] e1) ∧ H3 a = none ∧ H3 kS = none ∧ s'.heap.get? f = some fo ∧ H3 f = none ∧
      Vals ks kA.toList ∧ Paired (fun (y : V) (b : V × PyData) => Dp X.K H3 y b.2) ks (bs.take i)) vs 0 s ⟨H2, #[], 0, [], I, Ex.refl _, ok, oa, ha, hk, of, hf, .nil, by rw [List.take_zero]; exact .nil⟩ ?turn ?over)
  case turn =>
    rintro j u s' hju ⟨H3, kA, e, ks, J, ex, ok', oa', ha', hk', of', hf', rv, pd⟩
    simp only [Nat.zero_add] at pd ⊢
    have hj : j < vs.length := (List.getElem?_eq_some_iff.mp hju).1
    obtain ⟨b, hb⟩ : ∃ b, bs[j]? = some b := ⟨_, List.getElem?_eq_getElem (by omega)⟩
    have hmz : (u, b) ∈ vs.zip bs := List.mem_of_getElem? (i := j) (by rw [List.getElem?_zip_eq_some]; exact ⟨hju, hb⟩)
    have rub : L2.RelV b.1 u := hev.zip _ hmz
    have kl : kA.size ≤ vs.length := by
      have z1 : ks.length = kA.size := (L2.Vals.length rv).trans Array.length_toList
      have z2 : ks.length = (bs.take j).length := Paired.length pd
      rw [List.length_take] at z2
      omega
    refine wpAny_bind (wpAny_attempt (wpAny_mono (cb b (List.mem_of_getElem? hb) u s' H3 rub J ex of' hf') (fun v s'' hv' => ?_) fun _ _ z => z.elim))
    obtain ⟨y, H4, J4, ry, ex4, dy, kp⟩ := hv'
    obtain ⟨ok4, hk4⟩ := kp kS _ hk' lk.fr ok'
    obtain ⟨oa4, ha4⟩ := kp a _ ha' la.fr oa'
    obtain ⟨of4, hf4⟩ := kp f _ hf' ff of'
    have sb := Heap.SameBut.update s''.heap kS (Obj.mapSeq (·.push v))
    obtain ⟨e2, he2⟩ : ∃ e2, (s''.heap.update kS (Obj.mapSeq (·.push v))).get? kS = some (seqObj "list" (kA.push v) e2) := ⟨_, get?_update_seq ok4 (·.push v)⟩
    have J5 := inv_one (tk := s''.toks) J4 lk hk4 fun b o hb e => (sb.2 b hb).trans e
    refine wpAny_bind (listUpdate_at ok4 rfl ?_ (Nat.le_trans kl hz) (Nat.le_trans (Nat.le_of_eq (Array.size_push ..)) (Nat.succ_le_succ (Nat.le_trans kl hz))))
    have et : bs.take (j + 1) = bs.take j ++ [b] := by rw [List.take_add_one, hb]; rfl
    have ea : (kA.push v).toList = kA.toList ++ [v] := by simp
    refine wpAny_pure ⟨rfl, H4, kA.push v, e2, ks ++ [y], J5, ex.trans ex4, he2, (sb.2 a hka.symm).trans oa4, ha4, hk4, (sb.2 f hfk).trans of4, hf4, ?_, ?_⟩
    · rw [ea]
      exact Vals.append rv (.cons ry .nil)
    · rw [et]
      exact Paired.snoc (Paired.mapP pd fun y' b' q => dp_mono ex4 _ _ q) dy
  case over =>
    rintro s' ⟨H3, kA, e, ks, J, ex, ok', oa', ha', hk', of', hf', rv, pd⟩
    have et : bs.take (0 + vs.length) = bs := List.take_of_length_le (by omega)
    rw [et] at pd
    have hks := reads_keys J rv pd
    have hsz : kA.size = vs.length := by
      have z1 : ks.length = kA.size := (L2.Vals.length rv).trans Array.length_toList
      have z2 : ks.length = bs.length := Paired.length pd
      omega
    obtain ⟨G, g1, g2⟩ := L2.restrict s'.heap fun b => decide (b ≠ kS)
    have gk : G.get? kS = none := g2 kS (by simp)
    have gl : ∀ b o, G.get? b = some o → s'.heap.get? b = some o := fun b o q => by
      by_cases hb : b = kS
      · rw [hb, gk] at q; cases q
      · rw [← g1 b (decide_eq_true hb)]; exact q
    refine wpAny_bind (listItems_at ok' rfl ?_)
    refine keyH_end (κ := dataKind s'.heap (bs.map (·.2))) (h₁ := G) (s := s') (fun b o _ q => gl b o q) gk ok' oa' hka (SortsAt.data hks hal hsk hu) hsz hz fun h' tk c kp ho => ?_
    have ko : KeyedOut false (bs.map fun b => b.2) vs (sortVals (dataKind s'.heap (bs.map (·.2))) false kA.toList vs) := ⟨s'.heap, kA.toList, hal, rfl, hks⟩
    have ro := each_vals (keyedOut_each (fun b : V × PyData => b.2) ko hev)
    refine fin _ H3 (inv_two J la lk ha' hk' (fun b o hb hb2 q => kp b o hb ((g1 b (decide_eq_true hb2)).trans q)) ho ro ?_) ex ha'
    rw [List.length_map, List.length_mergeSort]
    omega
/-- the sort from its start: the list's own copy at a -/
theorem sort_tree {A : Around} {H2 : Hp} {s : Shared} {a f : Addr} {fo : Obj} {n : Nat} {vs : List Value} {bs : List (V × PyData)} {P : PySem.Fin → Shared → Prop} {E : Value → Shared → Prop} (I : Inv X pins σ H2 s) (la : Late X pins a) (ha : H2 a = none)
    (oa : s.heap.get? a = some (seqObj "list" vs.toArray n)) (hf : H2 f = none) (ff : f ∉ frs X.stack) (of : s.heap.get? f = some fo) (hfa : f ≠ a)
    (hv : Vals (bs.map (·.1)) vs) (hz : vs.length ≤ sizeLine) (hal : AllAlike (bs.map (·.2))) (hsk : Sortable (bs.map (·.2))) (hu : ∀ d ∈ bs.map (·.2), A.units + d.depth < cLine)
    (cb : ∀ b ∈ bs, ∀ (u : Value) (s' : Shared) (H3 : Hp), L2.RelV b.1 u → Inv X pins σ H3 s' → Ex H2 H3 → s'.heap.get? f = some fo → H3 f = none → wpAny (model X.prog X.w) A (call (.ref f) [u]) (KeyCall X pins σ H3 s' b.2) (fun _ _ => False) s')
    (fin : ∀ s'' H4, Inv X pins σ (upd H4 a (.lst ((bs.mergeSort (dataLe false fun b => b.2)).map (·.1)))) s'' → Ex H2 H4 → H4 a = none → P (.done (.ret .none)) s'') :
    wpAny (model X.prog X.w) A (ksk_tree a (.ref f) false) P E s := by
  have alt : a < s.heap.objs.size := Heap.lt_size oa
  obtain ⟨e1, oa1⟩ : ∃ e1, (s.heap.update a (Obj.mapSeq fun _ => (#[] : Array Value))).get? a = some (seqObj "list" #[] e1) := ⟨_, get?_update_seq oa fun _ => #[]⟩
  have sz : ((s.heap.update a (Obj.mapSeq fun _ => (#[] : Array Value))).push (seqObj "tuple" vs.toArray 0)).objs.size = s.heap.objs.size + 1 := by rw [size_push', Heap.size_update]
  have nk : H2 (s.heap.objs.size + 1) = none := I.hok.fresh (Nat.le_succ _)
  have lk : Late X pins (s.heap.objs.size + 1) := late_of I (Nat.le_succ _)
  have J := inv_one (h' := sortingHeap s.heap a vs) (tk := s.toks) I la ha fun b o hb q => sortingHeap_old hb q
  have hfs : f ≠ s.heap.objs.size + 1 := Nat.ne_of_lt (Nat.lt_succ_of_lt (Heap.lt_size of))
  unfold ksk_tree
  refine wpAny_bind (listItems_at oa rfl ?_)
  refine wpAny_bind (listUpdate_at oa rfl ?_ (by rw [List.size_toArray]; exact hz) (Nat.zero_le _))
  refine wpAny_bind (seqEpoch_at oa1 rfl ?_)
  refine wpAny_bind (wpAny_newTuple ?_ (by show vs.length ≤ _; exact hz))
  refine wpAny_bind (wpAny_newList ?_ (Nat.zero_le _))
  refine wpAny_holding ?_
  show wpAny _ A (ksk_rest a (.ref f) false vs.toArray e1 (.ref ((s.heap.update a (Obj.mapSeq fun _ => (#[] : Array Value))).push (seqObj "tuple" vs.toArray 0)).objs.size)) P E { s with heap := sortingHeap s.heap a vs }
  rw [sz]
  refine sort_rest J la lk ha nk (Heap.get?_push_of_some _ (Heap.get?_push_of_some _ oa1)) ?_ (Nat.ne_of_gt (Nat.lt_succ_of_lt alt)) hf ff (sortingHeap_old hfa of) hfs hv hz hal hsk hu cb fin
  show (((s.heap.update a (Obj.mapSeq fun _ => (#[] : Array Value))).push (seqObj "tuple" vs.toArray 0)).push (seqObj "list" #[] 0)).get? (s.heap.objs.size + 1) = _
  rw [← sz]
  exact Heap.get?_push_size _ rfl
end
end SkW

set_option Elab.async false
set_option linter.all false
set_option maxRecDepth 100000
set_option maxHeartbeats 4000000
namespace SkW
open PySem PySem.Spec PyProof.Rows L2 Evl LamX PySem.W PySem.Calls
/-- sorted(xs, key=lambda one: ..): bs, the items with the data of their keys; the tables may grow when the lambda is made -/
def lamThen (K : PySem.W.Frag) (T : List (Addr × Str)) (tb : TE) (Q : VK) : V → Hp → Prop := fun x H1 => Tabs T H1 ∧ ∀ H2, ExtN H1 H2 → Tabs T H2 → ∃ (l : Addr) (bs : List (V × PyData)), x = .ref l ∧ SqL K H2 l (bs.map (·.1)) ∧ AllAlike (bs.map (·.2)) ∧ Sortable (bs.map (·.2)) ∧ (∀ b ∈ bs, b.2.depth ≤ 8) ∧
  (∀ b ∈ bs, ∀ H3, Ex H2 H3 → tb [some b.1] H3 fun y H4 => Ex H3 H4 ∧ Dp K H4 y b.2) ∧ ∀ q H4, H2 q = none → Ex H2 H4 → H4 q = none → Q (.ref q) (upd H4 q (.lst ((bs.mergeSort (dataLe false fun b => b.2)).map (·.1))))
def tSortLam (K : PySem.W.Frag) (T : List (Addr × Str)) (t tb : TE) : TE := fun σ H Q => t σ H (lamThen K T tb Q)
section
variable {X : Cx}
theorem sort_call {pins : List (Addr × Obj)} {σ : L2.St} {H2 : Hp} {s : Shared} {k : Nat} {l f c' : Addr} {qual : Str} {params : Arguments} {body : Expr} {scope : Scope} {pm ctv : Value} {bs : List (V × PyData)} {tb : TE} {x1 : Str} {Q : VK}
    (I : Inv X pins σ H2 s) (hr : Room (k + 3) X.A) (S : FnScope [x1] [x1] scope) (hbind : ∀ (cv ctv pm u : Value), bindArgs (PySem.W.kla_fn "<lambda>" qual params body scope [] pm cv ctv) ⟨[u], []⟩ = pure [(x1, u)])
    (of : s.heap.get? f = some (PySem.W.kla_obj "<lambda>" qual params body scope [] pm c' ctv)) (hf : H2 f = none) (ff : f ∉ frs X.stack) (hc : H2 c' = some (CodeO c' qual))
    (hbody : ∀ (A : Around) (outer : List Env) (s : Shared) (H : Hp), Room k (A.deeper (envOfC qual scope s.heap.objs.size f (.ref c'))) → PE (cxOf C8.CX0 X.prog X.w X.K X.mg X.base [x1] qual scope f (.ref c') A outer s H C8.E0).nox body tb)
    (hl : SqL X.K H2 l (bs.map (·.1))) (hal : AllAlike (bs.map (·.2))) (hsk : Sortable (bs.map (·.2))) (hd : ∀ b ∈ bs, b.2.depth ≤ 8) (hb : ∀ b ∈ bs, ∀ H3, Ex H2 H3 → tb [some b.1] H3 fun y H4 => Ex H3 H4 ∧ Dp X.K H4 y b.2)
    (q : ∀ q H4, H2 q = none → Ex H2 H4 → H4 q = none → Q (.ref q) (upd H4 q (.lst ((bs.mergeSort (dataLe false fun b => b.2)).map (·.1))))) :
    wpAny (model X.prog X.w) X.A (call (.builtin "sorted") [.ref l] [(Str.ofString "key", .ref f)]) (EP X pins σ Q) X.xe s := by
  obtain ⟨its, rv, pl, hz⟩ := I.list hl
  have hz' : its.length ≤ sizeLine := by rw [← L2.Vals.length rv]; exact hz
  refine sorted_of_sort pl.isList hz' (ksk_s1 _ _) (fun _ => ksk_l1 _ _) fun E' => ?_
  rw [ksk_t1]
  have I1 : Inv X pins σ H2 { s with heap := copyHeap s.heap its } := I.kept (t' := s.toks) fun b o e => copyHeap_old e
  have la : Late X pins (s.heap.objs.size + 1) := late_of I (Nat.le_succ _)
  have na : H2 (s.heap.objs.size + 1) = none := I.hok.fresh (Nat.le_succ _)
  have r2 : Room (k + 1) X.A.in1.in1 := hr.in1.in1
  refine sort_tree (f := f) (bs := bs) I1 la na (copyHeap_at s.heap its) hf ff (copyHeap_old of) (Nat.ne_of_lt (Nat.lt_succ_of_lt (Heap.lt_size of))) rv hz' hal hsk (fun d hm => ?_) (fun b hm u s' H3 rub J ex of' hf' => ?_) fun s'' H4 J ex ha => ⟨rfl, .ref (s.heap.objs.size + 1), _, J, rfl, q _ H4 na ex ha⟩
  · obtain ⟨b, hb', rfl⟩ := List.mem_map.mp hm
    have := hd b hb'
    have := r2.units
    omega
  · have e0 := J.env0
    have e1 : Env0 X.prog X.w X.K X.mg X.base X.A.in1.in1 X.stack s' H3 := ⟨e0.frames, e0.mod, e0.bs, e0.bsz, e0.funs, e0.frf, e0.hok, e0.bare⟩
    refine wpAny_call (codeAny_mono (lam_run (ps := [x1]) (us := [u]) (vs := [b.1]) r2 e1 of' (ex _ _ hc) S (hbind _ _ _ _) (.cons rub .nil) rfl (hbody _ _ _ _) (hb b hm H3 ex)) fun r s'' hq => ?_)
    cases r with
    | error e => exact hq.elim
    | ok fl =>
      cases fl with
      | next => exact hq.elim
      | brk => exact hq.elim
      | cont => exact hq.elim
      | ret v =>
        obtain ⟨y, H4, os, bare, un, hok, ry, ex4, dy⟩ := hq
        exact ⟨y, H4, J.call' os un hok bare (fun b z => absurd z List.not_mem_nil), ry, ex4, dy, fun b o n nf e => ⟨un.keep b o e n nf List.not_mem_nil, un.free b o e n List.not_mem_nil⟩⟩
theorem pe_sortLam {T : List (Addr × Str)} {c P : Addr} {k : Nat} {arg : Expr} {params : Arguments} {body : Expr} {scope : Scope} {x1 : Str} {t tb : TE} {p lpos kpos pos : Pos} (hg : Gl X "sorted") (hm : X.mg "sorted" = none) (hv : bootBuiltins "sorted" = some (.builtin "sorted")) (ha : PA X [arg] (tCons t tNil))
    (TB : TabB X.base X.mg c P) (hcode : X.env.code = .ref c) (hmT : (P, X.env.qual ++ "<lambda>") ∈ T) (hu : ∀ p ∈ T, p.1 = P → p.2 = X.env.qual ++ "<lambda>") (hr : Room (k + 3) X.A) (S : FnScope [x1] [x1] scope) (hcl : cloFrom X.env.cells scope.names [] = []) (hdef : defaultsOf params X.env = ([], []))
    (hbind : ∀ (cv ctv pm u : Value), bindArgs (PySem.W.kla_fn "<lambda>" (X.env.qual ++ "<lambda>") params body scope [] pm cv ctv) ⟨[u], []⟩ = pure [(x1, u)])
    (hbody : ∀ (A : Around) (outer : List Env) (s : Shared) (H : Hp) (f c' : Addr), Room k (A.deeper (envOfC (X.env.qual ++ "<lambda>") scope s.heap.objs.size f (.ref c'))) → PE (cxOf C8.CX0 X.prog X.w X.K X.mg X.base [x1] (X.env.qual ++ "<lambda>") scope f (.ref c') A outer s H C8.E0).nox body tb)
    (he : backTo pos (starEach [arg] X.env) = (false, eval arg X.env) :: backTo pos (starEach [] X.env) := by rfl) (hpl : (backTo pos (starEach [arg] X.env)).any (·.1) = false := by rfl)
    (hall : (backToKw pos (keywordEach [⟨some "key", .Lambda params body scope lpos, kpos⟩] X.env)).all (·.1.isSome) = true := by rfl) (hnone : (backToKw pos (keywordEach [⟨some "key", .Lambda params body scope lpos, kpos⟩] X.env)).any (·.1.isNone) = false := by rfl) (hks : (backToKw pos (keywordEach [⟨some "key", .Lambda params body scope lpos, kpos⟩] X.env)).filterMap (·.1) = [Str.ofString "key"] := by rfl) :
    PE X (.Call (.Name "sorted" p) [arg] [⟨some "key", .Lambda params body scope lpos, kpos⟩] pos) (tSortLam X.K T t tb) := by
  refine ⟨fun pins s σ H Q I h => ?_⟩
  refine wpAny_Call_Name_kw (ld_blt I hg hm hv ?_ (by decide) (by decide))
  refine PyProof.Rows.callWith_kw (thn (ha.run pos pins s σ H (fun vs H1 => match vs with
    | [x] => lamThen X.K T tb Q x H1
    | _ => False) I h) fun us s1 hs1 => ?_) he hpl hall hnone
  obtain ⟨vs, H1, I1, r1, hx⟩ := hs1
  match vs, r1, hx with
  | [], _, hx => exact hx.elim
  | _ :: _ :: _, _, hx => exact hx.elim
  | [x], r1, hx =>
    obtain ⟨hT, hx⟩ := hx
    obtain ⟨u, rfl, ru⟩ := vals1 r1
    rw [hks]
    refine wpAny_evalAll_cons (wpAny_bind (lam_make2 I1 TB hcode hmT hu hT hdef (fun y hy e => absurd e (S.nofree y hy)) fun f c' pm ctv H2 s' I2 eN T2 of hf ff hc => ?_))
    refine wpAny_bind (wpAny_standAt (wpAny_pure (wpAny_evalAll_nil ?_)))
    obtain ⟨l, bs, rfl, hl, hal, hsk, hd, hb, q⟩ := hx H2 eN T2
    rw [hcl] at of
    obtain rfl : u = Value.ref l := ru
    exact sort_call I2 hr S hbind of hf ff hc (fun A outer s H r => hbody A outer s H f c' r) hl hal hsk hd hb q
end
end SkW

set_option Elab.async false
set_option linter.all false
set_option maxRecDepth 100000
set_option maxHeartbeats 4000000
namespace SkW
open PySem PySem.Spec PyProof.Rows L2 Evl LamX
/-- a def of the text whose code object stands at c -/
structure FunC (K : PySem.W.Frag) (x qual : Str) (st : Stmt) (f : Addr) (fd : FuncData) (c : Addr) : Prop where
  ex : ∃ (oc : Value) (od : Option Addr) (kV doc pm : Value) (an : Option Addr) (ct : Value) (osl : Array (Option Value)),
    fd = PySem.W.fnOf x qual (defArgs st) (defBody st) (defScope st) .none kV doc pm an (.ref c) ct ∧ K.lookup f = some ⟨oc, od, .func fd, osl⟩ ∧ PySem.W.codeIn K (.ref c) qual = true
theorem FunC.ok {P : Program} {w : World} {K : PySem.W.Frag} {mg : Str → Option Value} {base : Heap} {x qual : Str} {st : Stmt} {f c : Addr} {fd : FuncData} {N ps : List Str} {k : Nat} {sp : Sp} (F : FunC K x qual st f fd c) (S : FnScope N ps (defScope st)) (len : ∀ vs H Q E, sp vs H Q E → vs.length = ps.length)
    (hbody : ∀ (A : Around) (outer : List Env) (s : Shared) (H : Hp) (vs : List V) (Q : VK) (E : XK), Room k (A.deeper (envOfC qual (defScope st) s.heap.objs.size f (.ref c))) → sp vs H Q E →
      ∃ t, PSs (cxOf CX0 P w K mg base N qual (defScope st) f (.ref c) A outer s H E).nox (defBody st) t ∧ t { nx := fun _ H' => Q .non H', rt := Q } (start N vs) H) : FnOk P w K mg base CX0 (k + 1) f fd ps sp := by
  obtain ⟨oc, od, kV, doc, pm, an, ct, osl, rfl, lk, hcd⟩ := F.ex
  refine fn_of lk hcd S len fun A outer s H vs Q E hr hsp => ?_
  obtain ⟨t, h, q⟩ := hbody A outer s H vs Q E hr hsp
  exact ⟨t, h.nox, q⟩
/-- placed's code object at kc, its table at kp -/
structure TabH (K : PySem.W.Frag) (base : Heap) (mg : Str → Option Value) (a : Ad) (kc kp : Addr) : Prop where
  fc : FunC K "placed" "placed" s_placed a.f_placed a.d_placed kc
  tb : TabB base mg kc kp
def lamQ : Str := ("placed" : Str) ++ ".<locals>." ++ "<lambda>"
def tabsOf (kp : Addr) : List (Addr × Str) := [(kp, lamQ)]
theorem tabs_one (kp : Addr) : ∀ p ∈ tabsOf kp, p.1 = kp → p.2 = lamQ := fun p hp _ => by
  rw [List.mem_singleton.mp hp]
section
variable {P : Program} {w : World} {K : PySem.W.Frag} {mg : Str → Option Value} {base : Heap} {a : Ad} {kc kp : Addr}
def sp_turned (K : PySem.W.Frag) : Sp := fun vs H Q _ => ∃ (p : Addr) (ns : List Int), vs = [.ref p] ∧ SqT K H p (ns.map V.int) ∧ ns.length ≤ 1000 ∧ RetL ((ns.map fun n => -n).map V.int) H Q
theorem el_mapT {σ : L2.St} {H : Hp} {te tl : TE} {p : Addr} {xs ys : List V} {j : Nat} {vs : List Nat} (h : Ev tl σ H (.ref p)) (hx : SqT K H p xs) (hz : xs.length ≤ 40000) (hw : ∀ x, wipe ((wipe σ vs).set j (some x)) vs = wipe σ vs) (hl : ys.length = xs.length)
    (he : ∀ (i : Nat) (x y : V) H1, Ex H H1 → xs[i]? = some x → ys[i]? = some y → Ev te ((wipe σ vs).set j (some x)) H1 y) : EvL (tLc (iTup K tl) (gName j) tYes te vs) σ H ys := fun H0 e Q q => h H0 e _ fun H1 e1 => ⟨p, rfl, ⟨xs, ex_t (e.trans e1) hx⟩, fun Dl hD =>
  lc_it (walk_tup (xs := xs)) (Cw H1 (fun _ => true) (fun i => ys.getD i .non) Dl) ⟨hD, Ex.new hD, upd_same⟩ (fun _ H' _ q => ex_t ((e.trans e1).trans q.2.1) hx) (fun i x H2 H3 hi pc hy => by
    obtain ⟨rfl, hxi⟩ := hy
    refine ⟨hw _, cw_turn pc (by omega) et_yes fun _ => ?_⟩
    have e2 : ys[i]? = some ys[i] := List.getElem?_eq_getElem (by omega)
    have e3 : ys.getD i .non = ys[i] := by rw [List.getD_eq_getElem?_getD, e2]; rfl
    rw [e3]
    exact he i x _ H1 (e.trans e1) hxi e2) (fun H2 pc => by
    have h3 := pc.2.2
    rw [given_all hl] at h3
    exact q Dl H2 (fresh_back e1 pc.1) (e1.trans pc.2.1) h3)⟩
theorem ok_turned (T : Txt K mg a) : FnOk P w K mg base CX0 1 a.f_turned a.d_turned ["order"] (sp_turned K) := by
  refine T.F_turned.ok sc_turned (fun vs H Q E h => ?_) (fun cdv A outer s H vs Q E hr h => ?_)
  · obtain ⟨_, _, rfl, _⟩ := h
    rfl
  refine ⟨_, (pss_one (ps_ret (pe_lc (own := [("number", 1)]) rfl sc_turned.nd (pi_tup (pv 0)) (blkOk_by (N := ["order", "number"]) (sc := defScope s_turned) (by decide +kernel)) (fun _ _ _ _ _ => (pg_name (i := 1) sc_turned.nd rfl (by first | exact Or.inl rfl | exact Or.inr rfl))) (fun _ _ _ _ _ => pts_nil) (fun _ _ _ _ _ => (pe_un un_neg (pv 1)))))), ?_⟩

  obtain ⟨p, ns, rfl, hp, hl, k⟩ := h
  refine s_retL (el_mapT (ys := (ns.map fun n => -n).map V.int) (ev_var rfl) hp (by rw [List.length_map]; omega) ?_ (by simp) ?_) fun q H1 hq e1 h1 => k q H1 hq e1 h1
  · exact fun _ => rfl
  · intro i x y H1 e1 hx hy
    obtain ⟨n, hn, rfl⟩ := at_map hx
    rw [List.getElem?_map, List.getElem?_map, hn] at hy
    cases hy
    exact ev_un (ev_var rfl) ru_neg
theorem sl_turned {H : Hp} {p : Addr} {ns : List Int} (h : SqT K H p (ns.map V.int)) (hl : ns.length ≤ 1000) : SpL (sp_turned K) [.ref p] H ((ns.map fun n => -n).map V.int) := fun H1 e Q q E => ⟨p, ns, rfl, ex_t e h, hl, fun x H2 hx e2 h2 => q x H2 hx e2 h2⟩
/-! ### places -/
/-- by what one stands, who, what's told of them -/
abbrev Row := List Int × (Nat × Int)
def ToldAt (K : PySem.W.Frag) (H : Hp) (t : Addr) (r : Row) : Prop := ∃ o, SqT K H t [.ref o, .int (r.2.1 : Nat), .int r.2.2] ∧ SqT K H o (r.1.map V.int)
theorem ToldAt.ex {H H' : Hp} {t : Addr} {r : Row} (h : ToldAt K H t r) (e : Ex H H') : ToldAt K H' t r := by
  obtain ⟨o, h1, h2⟩ := h
  exact ⟨o, ex_t e h1, ex_t e h2⟩
theorem extN_l {H H' : Hp} {p : Addr} {xs : List V} (e : ExtN H H') (h : SqL K H p xs) : SqL K H' p xs := h.imp (fun h => h.imp (fun q => e _ _ q (fun _ z => by cases z)) fun ⟨o, q⟩ => ⟨o, e _ _ q (fun _ z => by cases z)⟩) id
theorem extN_t {H H' : Hp} {p : Addr} {xs : List V} (e : ExtN H H') (h : SqT K H p xs) : SqT K H' p xs := h.imp (fun h => h.imp (fun q => e _ _ q (fun _ z => by cases z)) fun ⟨o, q⟩ => ⟨o, e _ _ q (fun _ z => by cases z)⟩) id
theorem ToldAt.exN {H H' : Hp} {t : Addr} {r : Row} (h : ToldAt K H t r) (e : ExtN H H') : ToldAt K H' t r := by
  obtain ⟨o, h1, h2⟩ := h
  exact ⟨o, extN_t e h1, extN_t e h2⟩
def TripAt (X : Hp) (t : Addr) (y : Nat × (Nat × Int)) : Prop := X t = some (.tup [.int (y.1 : Nat), .int (y.2.1 : Nat), .int y.2.2])
def TripsAt (X : Hp) (q : Addr) (ys : List (Nat × (Nat × Int))) : Prop := ∃ ts : List Addr, X q = some (.lst (ts.map V.ref)) ∧ Paired (TripAt X) ts ys
theorem TripsAt.ex {X X' : Hp} {q : Addr} {ys : List (Nat × (Nat × Int))} (h : TripsAt X q ys) (e : Ex X X') : TripsAt X' q ys := by
  obtain ⟨ts, h1, h2⟩ := h
  exact ⟨ts, e _ _ h1, Paired.mapP h2 fun _ _ z => e _ _ z⟩
def keyOf (r : Row) : PyData := .tuple [.list ((r.1.map fun n => -n).map PyData.int), .int (r.2.1 : Nat)]
def rowLe (r r' : Row) : Bool := PySem.W.dataLe false keyOf r r'
def standing (rows : List Row) (r : Row) : Nat := 1 + (rows.filter fun x => Kg56.ahead x.1 r.1).length
def placedOf (rows : List Row) : List (Nat × (Nat × Int)) := (rows.mergeSort rowLe).map fun r => (r.2.1, (standing rows r, r.2.2))
theorem key_alike (r r' : Row) : PySem.W.alike (keyOf r) (keyOf r') = true := by
  unfold keyOf
  simp only [PySem.W.alike, PySem.W.alikeAll, PySem.W.alike_ints]
  rfl
theorem key_depth (r : Row) : (keyOf r).depth ≤ 8 := by
  unfold keyOf
  simp only [PyData.depth, PyData.depthAll, depth_nums]
  omega
theorem rv_gtT {H : Hp} {p q : Addr} {ns ms : List Int} (h1 : SqT K H p (ns.map V.int)) (h2 : SqT K H q (ms.map V.int)) (hl : ns.length = ms.length) : RV (rGtT K) (.ref p) (.ref q) H (.bl (Kg56.ahead ns ms)) := fun H1 e Q k => ⟨p, q, ns, ms, rfl, rfl, ex_t e h1, ex_t e h2, hl, k H1 (Ex.refl H1)⟩
theorem tabs_upd {T : List (Addr × Str)} {H : Hp} {p : Addr} {o v : HO} (t : Tabs T H) (hp : H p = some v) (hv : hardO v = false := by rfl) : Tabs T (upd H p o) := fun x hx => by
  obtain ⟨ps, h1, h2, h3⟩ := t x hx
  refine ⟨ps, by rw [upd_ne (fun z => by rw [← z, h1] at hp; cases hp; cases hv)]; exact h1, h2, fun pos cv hc => ?_⟩
  obtain ⟨c, e1, e2⟩ := h3 pos cv hc
  exact ⟨c, e1, by rw [upd_ne (fun z => by rw [← z, e2] at hp; unfold CodeO at hp; cases hp; cases hv)]; exact e2⟩
theorem extN_mut {H H' : Hp} {p : Addr} {o : HO} (e : ExtN H H') (h : H p = none) : ExtN H (upd H' p o) := fun b u hb hn => by
  rw [upd_ne (ne_of_none hb h)]
  exact e b u hb hn
def sp_placed (K : PySem.W.Frag) (kp : Addr) : Sp := fun vs H Q _ => ∃ (p : Addr) (ts : List Addr) (rows : List Row) (m : Nat), vs = [.ref p] ∧ Tabs (tabsOf kp) H ∧ SqL K H p (ts.map V.ref) ∧ Paired (ToldAt K H) ts rows ∧ rows.length ≤ 1000 ∧ m ≤ 1000 ∧ (∀ r ∈ rows, r.1.length = m) ∧
  ∀ q H', H q = none → ExtN H H' → Tabs (tabsOf kp) H' → TripsAt H' q (placedOf rows) → Q (.ref q) H'
theorem ok_placed (T : Txt K mg a) (Z : TabH K base mg a kc kp) : FnOk P w K mg base CX0 5 a.f_placed a.d_placed ["told"] (sp_placed K kp) := by
  refine Z.fc.ok sc_placed (fun vs H Q E h => ?_) (fun A outer s H vs Q E hr h => ?_)
  · obtain ⟨_, _, _, _, rfl, _⟩ := h
    rfl
  refine ⟨_, (pss_cons (ps_set (i := 1) sc_placed.nd rfl (Or.inl rfl) (pe_lst pa_nil))
    (pss_cons (ps_for PassesOwn.never rfl (pi_list (pe_sortLam (T := tabsOf kp) (x1 := "one") rfl T.n_sorted (by decide +kernel) (by exact (pa_cons (pv 0) pa_nil)) Z.tb rfl (List.mem_singleton.mpr rfl) (tabs_one kp) hr ⟨rfl, rfl, rfl, by decide +kernel, rfl, by decide +kernel, by decide +kernel⟩ rfl rfl (fun _ _ _ _ => rfl) (fun A outer s H f c1 r => (pe_tup (pa_cons (pe_call (ok_turned T) (r.mono (by decide)) rfl T.g_turned T.k_turned T.b_turned .nil pass0 (by exact (pa_cons (pe_ix (ix_tupK (K := K) rfl) (pv 0) pe_int (fun _ _ => rfl)) pa_nil))) (pa_cons (pe_ix (ix_tupK (K := K) rfl) (pv 0) pe_int (fun _ _ => rfl)) pa_nil)))))) (pg_tup (n := 3) rfl (pgs_cons (pg_name (i := 2) sc_placed.nd rfl (Or.inr rfl)) (pgs_cons (pg_name (i := 3) sc_placed.nd rfl (Or.inl rfl)) (pgs_cons (pg_name (i := 4) sc_placed.nd rfl (Or.inl rfl)) pgs_nil))))
      (pss_cons (ps_set (i := 5) sc_placed.nd rfl (Or.inl rfl) (pe_op op_add pe_int (pe_callB call_len_seq rfl T.n_len (by decide +kernel) (by exact (pa_cons (pe_lc (own := [("one", 6)]) rfl sc_placed.nd (pi_list (pv 0)) (blkOk_by (N := ["told", "found", "order", "skater", "number", "place", "one"]) (sc := defScope s_placed) (by decide +kernel)) (fun _ _ _ _ _ => (pg_name (i := 6) sc_placed.nd rfl (by first | exact Or.inl rfl | exact Or.inr rfl))) (fun _ _ _ _ _ => (pts_one (pt_cmpR (op_gtTK (K := K) rfl hr) (pe_ix (ix_tupK (K := K) rfl) (pv 6) pe_int (fun _ _ => rfl)) (pv 2) (nomark _)))) (fun _ _ _ _ _ => (pv 6))) pa_nil)))))
    (pss_one (ps_expr (pe_bm PySem.F.plainAttrs_list PySem.F.slot_list_append PySem.F.type_list_append mt_append (pv 1) (by exact (pa_cons (pe_tup (pa_cons (pv 3) (pa_cons (pv 5) (pa_cons (pv 4) pa_nil)))) pa_nil)))))))
    (pss_one (ps_ret (pv 1))))), ?_⟩
  obtain ⟨p, ts, rows, m, rfl, hT, hp, hts, hfew, hm, hord, k⟩ := h
  refine q_asgL (el_lst ea_nil (Nat.zero_le _)) fun f H1 hf e1 h1 => ?_
  obtain ⟨ws, w1, w2, w3⟩ := paired_zip hts
  have hwl : ws.length = rows.length := by rw [← w2, List.length_map]
  have wrow : ∀ z ∈ ws, z.2.1.length = m := fun z hz => hord z.2 (by rw [← w2]; exact List.mem_map_of_mem hz)
  have hpw : SqL K H p (ws.map fun z => V.ref z.1) := by
    have : (ws.map fun z => V.ref z.1) = ts.map V.ref := by rw [← w1, List.map_map]; rfl
    rw [this]; exact hp
  have hfm : ∀ {o : HO} {b : Addr}, H b = some o → b ≠ f := fun hb => ne_of_none hb hf
  refine ⟨_, rfl, hT.ext e1, fun H2 eN T2 => ?_⟩
  have xN : ExtN H H2 := (ExtN.of e1).trans eN
  have hf2 : H2 f = some (.lst []) := eN _ _ h1 fun _ z => by cases z
  have hsort : ((ws.map fun z => (V.ref z.1, keyOf z.2)).mergeSort (PySem.W.dataLe false fun b => b.2)).map (·.1) = (ws.mergeSort fun x y => rowLe x.2 y.2).map fun z => V.ref z.1 := by
    rw [← List.map_mergeSort (r := fun x y => rowLe x.2 y.2) (fun a _ b _ => rfl), List.map_map]
    rfl
  have hrows : (ws.mergeSort fun x y => rowLe x.2 y.2).map (·.2) = rows.mergeSort rowLe := by
    rw [List.map_mergeSort (s := rowLe) (fun a _ b _ => rfl), w2]
  generalize hvs : (ws.mergeSort fun x y => rowLe x.2 y.2) = vs at hsort hrows
  have hvm : ∀ z ∈ vs, z ∈ ws := fun z hz => by
    rw [← hvs] at hz
    exact (List.mem_mergeSort).mp hz
  have hvl : vs.length = rows.length := by rw [← hvs, List.length_mergeSort, hwl]
  refine ⟨p, ws.map fun z => (V.ref z.1, keyOf z.2), rfl, ?_, ?_, ?_, ?_, ?_, fun q H4 nq ex hq => ⟨q, rfl, ⟨_, sq_of upd_same⟩, for_list (xs := ((ws.map fun z => (V.ref z.1, keyOf z.2)).mergeSort (PySem.W.dataLe false fun b => b.2)).map (·.1)) (fun i σ' H' => ExtN H H' ∧ Tabs (tabsOf kp) H' ∧ SqL K H' q (vs.map fun z => V.ref z.1) ∧ f ≠ q ∧
    (∃ us : List Addr, H' f = some (.lst (us.map V.ref)) ∧ Paired (fun t y => TripAt H' t y ∧ t ≠ f) us ((placedOf rows).take i)) ∧ ∃ x2 x3 x4 x5 x6, σ' = [some (.ref p), some (.ref f), x2, x3, x4, x5, x6]) ?_ ?_ ?_ ?_⟩⟩
  · rw [List.map_map]
    exact extN_l xN hpw
  · rw [List.map_map]
    exact PySem.W.AllAlike.of (enc := fun z : Addr × Row => keyOf z.2) fun x y => key_alike x.2 y.2
  · rw [List.map_map]
    exact PySem.W.Sortable.tuples (enc := fun z : Addr × Row => keyOf z.2) fun x => ⟨_, _, rfl⟩
  · intro b hb
    obtain ⟨z, _, rfl⟩ := List.mem_map.mp hb
    exact key_depth z.2
  · intro b hb H3 e3
    obtain ⟨z, hz, rfl⟩ := List.mem_map.mp hb
    obtain ⟨o, t1, t2⟩ := ((w3 z hz).exN xN).ex e3
    refine el_call (σ := [some (V.ref z.1)]) (ea_cons (ev_op (ev_var rfl) ev_c (rv_ixT t1 rfl)) ea_nil) (sl_turned t2 (by rw [wrow z hz]; exact hm)) H3 (Ex.refl _) _ fun y H4 _ e4 h4 => ?_
    refine ev_op (σ := [some (V.ref z.1)]) (ev_var rfl) ev_c (rv_ixT (ex_t e4 t1) rfl) H4 (Ex.refl _) _ fun H5 e5 => ⟨Nat.le_of_ble_eq_true rfl, fun t ht => ?_⟩
    exact ⟨((e4.trans e5).trans (Ex.new ht)), .tup (st_of upd_same) (.cons (dp_nums (sq_of ((e5.trans (Ex.new ht)) _ _ h4))) (.cons (.int _) .nil))⟩
  · have nfq : f ≠ q := ne_of_none hf2 nq
    refine ⟨(xN.trans (ExtN.of ex)).trans (ExtN.of (Ex.new hq)), T2.ext (ex.trans (Ex.new hq)), ?_, nfq, ⟨[], ?_, .nil⟩, _, _, _, _, _, rfl⟩
    · rw [← hsort]; exact sq_of upd_same
    · exact (Ex.new hq) _ _ (ex _ _ hf2)
  · intro i σ' H' _ pv
    rw [hsort]
    exact pv.2.2.1
  · intro i x σ' H' hi pv
    obtain ⟨xN', T', hql, nfq, ⟨us, hus, hpu⟩, x2, x3, x4, x5, x6, hσ⟩ := pv
    subst hσ
    rw [hsort] at hi
    obtain ⟨z, hzi, rfl⟩ := at_map hi
    have hzw := hvm z (List.mem_of_getElem? hzi)
    have hil := (List.getElem?_eq_some_iff.mp hzi).1
    obtain ⟨o, t1, t2⟩ := (w3 z hzw).exN xN'
    have hpl : (placedOf rows)[i]? = some (z.2.2.1, (standing rows z.2, z.2.2.2)) := by
      unfold placedOf
      rw [← hrows, List.map_map, List.getElem?_map, hzi]
      rfl
    have ht1 : (placedOf rows).take (i + 1) = (placedOf rows).take i ++ [(z.2.2.1, (standing rows z.2, z.2.2.2))] := by rw [List.take_add_one, hpl]; rfl
    have hul : us.length ≤ i := by have := Paired.length hpu; rw [List.length_take] at this; omega
    refine ⟨z.1, _, rfl, t1, rfl, _, _, rfl, _, _, rfl, _, _, rfl, rfl, ?_⟩
    have hcount : ((ws.filter fun y => Kg56.ahead y.2.1 z.2.1).map fun y => V.ref y.1).length + 1 = standing rows z.2 := by
      unfold standing
      rw [List.length_map, ← w2, ← zip_filter (fun r : Row => Kg56.ahead r.1 z.2.1), List.length_map]
      omega
    refine q_asg (ev_op ev_c (ev_lenN' (el_pick ws (fun y => Kg56.ahead y.2.1 z.2.1) (fun y => V.ref y.1) (fun y => V.ref y.1) (ev_var rfl) (extN_l xN' hpw) (by omega) (fun _ => rfl) (fun y H3 e3 hy => ?_) (fun y H3 e3 hy _ => ev_var rfl))) rv_I0) fun H3 e3 => ?_
    · obtain ⟨o', s1, s2⟩ := ((w3 y hy).exN xN').ex e3
      exact et_test (ev_op (ev_op (ev_var rfl) ev_c (rv_ixT s1 rfl)) (ev_var rfl) (rv_gtT s2 (ex_t e3 t2) (by rw [wrow y hy, wrow z hzw])))
    refine s_appU (e3 _ _ hus) (ev_var rfl) (eu_tup (ea_cons (ev_var rfl) (ea_cons (ev_var rfl) (ea_cons (ev_var rfl) ea_nil))) (Nat.le_of_ble_eq_true rfl)) (by rw [List.length_map]; omega) fun t H4 ht e4 h4 => ?_
    have hf4 : H4 f = some (.lst (us.map V.ref)) := e4 _ _ (e3 _ _ hus)
    have e34 := e3.trans e4
    have ntf : t ≠ f := fun c => by rw [c, e3 _ _ hus] at ht; cases ht
    refine ⟨extN_mut (xN'.trans (ExtN.of e34)) hf, tabs_upd (T'.ext e34) hf4, ?_, nfq, ⟨us ++ [t], ?_, ?_⟩, _, _, _, _, _, rfl⟩
    · exact (ex_l e34 hql).imp (fun h => h.imp (fun c => by rw [upd_ne (Ne.symm nfq)]; exact c) fun ⟨o, c⟩ => ⟨o, by rw [upd_ne (Ne.symm nfq)]; exact c⟩) id
    · rw [upd_same, List.map_append]; rfl
    · rw [ht1]
      refine Paired.snoc (Paired.mapP hpu fun t' y' k' => ⟨?_, k'.2⟩) ⟨?_, ntf⟩
      · show upd H4 f _ t' = _
        rw [upd_ne k'.2]
        exact e34 _ _ k'.1
      · show upd H4 f _ t = _
        rw [upd_ne ntf, h4, ← hcount]
        rw [show (((List.map (fun y => V.ref y.fst) (List.filter (fun y => Kg56.ahead y.snd.fst z.snd.fst) ws)).length + 1 : Nat) : Int) = 1 + ((List.map (fun y => V.ref y.fst) (List.filter (fun y => Kg56.ahead y.snd.fst z.snd.fst) ws)).length : Int) by omega]
  · intro σ' H' pv
    obtain ⟨xN', T', hql, nfq, ⟨us, hus, hpu⟩, x2, x3, x4, x5, x6, hσ⟩ := pv
    subst hσ
    have hle : (placedOf rows).length = rows.length := by unfold placedOf; rw [List.length_map, List.length_mergeSort]
    rw [hsort, List.length_map, hvl, ← hle, List.take_length] at hpu
    refine s_ret (ev_var rfl) fun H3 e3 => k f H3 hf (xN'.trans (ExtN.of e3)) (T'.ext e3) ⟨us, e3 _ _ hus, Paired.mapP hpu fun t y k' => e3 _ _ k'.1⟩
end
end SkW

set_option Elab.async false
set_option linter.all false
set_option maxRecDepth 100000
set_option maxHeartbeats 4000000
namespace SkW
open PySem PySem.Spec PyProof.Rows L2 Evl LamX
section
variable {P : Program} {w : World} {K : PySem.W.Frag} {mg : Str → Option Value} {base : Heap} {a : Ad} {kc kp : Addr}
/-! ### results in the heap -/
def ResAt (a : Ad) (H : Hp) (r : Addr) (s : Kg56.Score) (sheet : List (Nat × Int)) : Prop := ∃ dx q, H r = some (.ins a.c_Result dx (ResF q s)) ∧ PairsAt H q sheet
theorem ResAt.ex {H H' : Hp} {r : Addr} {s : Kg56.Score} {sheet : List (Nat × Int)} (h : ResAt a H r s sheet) (e : Ex H H') : ResAt a H' r s sheet := by
  obtain ⟨dx, q, h1, h2⟩ := h
  exact ⟨dx, q, e _ _ h1, h2.ex e⟩
def ResV (a : Ad) (H : Hp) (v : V) (o : Option (Kg56.Program × Kg56.Score)) : Prop := match o with
  | none => v = .non
  | some x => ∃ r, v = .ref r ∧ ResAt a H r x.2 x.1.sheet
theorem ResV.ex {H H' : Hp} {v : V} {o : Option (Kg56.Program × Kg56.Score)} (h : ResV a H v o) (e : Ex H H') : ResV a H' v o := by
  cases o with
  | none => exact h
  | some x => obtain ⟨r, h1, h2⟩ := h; exact ⟨r, h1, h2.ex e⟩
theorem ResV.non {H : Hp} {v : V} {o : Option (Kg56.Program × Kg56.Score)} (h : ResV a H v o) : decide (v = .non) = o.isNone := by
  cases o with
  | none => rw [show v = .non from h]; rfl
  | some j => obtain ⟨x, rfl, _⟩ := h; rfl
/-- a skater's pair: a list that may change; its results stand in G -/
def PairOf (a : Ad) (G H : Hp) (p : Addr) (k : Kg56.Skater) : Prop := ∃ v0 v1, H p = some (.lst [v0, v1]) ∧ ResV a G v0 k.short ∧ ResV a G v1 k.free
theorem PairOf.ex {G G' H H' : Hp} {p : Addr} {k : Kg56.Skater} (h : PairOf a G H p k) (g : Ex G G') (e : Ex H H') : PairOf a G' H' p k := by
  obtain ⟨v0, v1, h1, h2, h3⟩ := h
  exact ⟨v0, v1, e _ _ h1, h2.ex g, h3.ex g⟩
theorem PairOf.at {G H : Hp} {p : Addr} {k : Kg56.Skater} (h : PairOf a G H p k) (free : Bool) : ∃ xs v, H p = some (.lst xs) ∧ atI xs ((if free then 1 else 0 : Nat) : Int) = some v ∧ ResV a G v (k.of free) := by
  obtain ⟨v0, v1, h1, h2, h3⟩ := h
  refine ⟨_, if free then v1 else v0, h1, at_free free, ?_⟩
  cases free with
  | true => exact h3
  | false => exact h2
def segOrder (free : Bool) (s : Kg56.Score) : List Int := [s.all, if free = true then s.components else s.elements]
def sp_order_in (a : Ad) (K : PySem.W.Frag) : Sp := fun vs H Q _ => ∃ (r : Addr) (s : Kg56.Score) (sheet : List (Nat × Int)) (free : Bool), vs = [.ref r, freeV free] ∧ ResAt a H r s sheet ∧ ∀ q H', H q = none → Ex H H' → H' q = some (.tup ((segOrder free s).map V.int)) → Q (.ref q) H'
theorem ok_order_in (T : Txt K mg a) : FnOk P w K mg base CX0 1 a.f_order_in a.d_order_in ["result", "free"] (sp_order_in a K) := by
  refine T.F_order_in.ok sc_order_in (fun vs H Q E h => ?_) (fun cdv A outer s H vs Q E hr h => ?_)
  · obtain ⟨_, _, _, _, rfl, _⟩ := h
    rfl
  refine ⟨_, (pss_cons (ps_if (pt_cmpR op_eq (pv 1) (pe_gint rfl T.i_FREE) (nomark _)) (pss_one (ps_ret (pe_tup (pa_cons (pe_fld (pv 0) rfl) (pa_cons (pe_fld (pv 0) rfl) pa_nil))))) pss_nil)
    (pss_one (ps_ret (pe_tup (pa_cons (pe_fld (pv 0) rfl) (pa_cons (pe_fld (pv 0) rfl) pa_nil)))))), ?_⟩

  obtain ⟨r, s, sheet, free, rfl, ⟨dx, q, hr1, hq⟩, k⟩ := h
  have hb : decide (freeV free = V.int 1) = free := by cases free <;> decide
  refine q_when (et_is (et_test (ev_op (ev_var rfl) ev_c (rv_eq rfl))) hb) (fun hf H1 e1 => ?_) (fun hf H1 e1 => ?_)
  · subst hf
    exact s_retU (eu_tup (ea_cons (ev_fld (ev_var rfl) (e1 _ _ hr1) T.C_Result T.n_Result_score rfl) (ea_cons (ev_fld (ev_var rfl) (e1 _ _ hr1) T.C_Result T.n_Result_components rfl) ea_nil)) (Nat.le_of_ble_eq_true rfl)) fun t H2 ht e2 h2 => k t H2 (fresh_back e1 ht) (e1.trans e2) h2
  · subst hf
    exact s_retU (eu_tup (ea_cons (ev_fld (ev_var rfl) (e1 _ _ hr1) T.C_Result T.n_Result_score rfl) (ea_cons (ev_fld (ev_var rfl) (e1 _ _ hr1) T.C_Result T.n_Result_all_elements rfl) ea_nil)) (Nat.le_of_ble_eq_true rfl)) fun t H2 ht e2 h2 => k t H2 (fresh_back e1 ht) (e1.trans e2) h2
def allOrder (k : Kg56.Skater) (s : Kg56.Score) : List Int := match k.free with
  | none => [0, s.all, 0]
  | some x => [1, s.all + x.2.all, x.2.all]
def sp_order_in_all (a : Ad) (K : PySem.W.Frag) : Sp := fun vs H Q _ => ∃ (p : Addr) (k : Kg56.Skater) (x : Kg56.Program × Kg56.Score) (G : Hp), vs = [.ref p] ∧ Ex G H ∧ PairOf a G H p k ∧ k.short = some x ∧ ∀ q H', H q = none → Ex H H' → H' q = some (.tup ((allOrder k x.2).map V.int)) → Q (.ref q) H'
theorem q_asgL2 {σ : L2.St} {H : Hp} {D : Ends} {tz : TS} {te : TE} {t : Addr} {x y : V} {i j : Nat} (h : Ev te σ H (.ref t)) (ht : SqL K H t [x, y]) (k : ∀ H1, Ex H H1 → tz D ((σ.set i (some x)).set j (some y)) H1) : tSeq (tAsg te (gLst K 2 (gCons (gName i) (gCons (gName j) gNil)))) tz D σ H :=
  h H (Ex.refl H) _ fun H1 e1 => ⟨t, _, rfl, ex_l e1 ht, rfl, _, _, rfl, _, _, rfl, rfl, k H1 e1⟩
theorem ok_order_in_all (T : Txt K mg a) : FnOk P w K mg base CX0 1 a.f_order_in_all a.d_order_in_all ["results"] (sp_order_in_all a K) := by
  refine T.F_order_in_all.ok sc_order_in_all (fun vs H Q E h => ?_) (fun cdv A outer s H vs Q E hr h => ?_)
  · obtain ⟨_, _, _, _, rfl, _⟩ := h
    rfl
  refine ⟨_, (pss_cons (ps_asg (pv 0) (pg_lst (n := 2) rfl (pgs_cons (pg_name (i := 1) sc_order_in_all.nd rfl (Or.inl rfl)) (pgs_cons (pg_name (i := 2) sc_order_in_all.nd rfl (Or.inl rfl)) pgs_nil))))
    (pss_cons (ps_if (pt_cmpR op_isN (pv 2) pe_non (nomark _)) (pss_one (ps_ret (pe_tup (pa_cons pe_int (pa_cons (pe_fld (pv 1) rfl) (pa_cons pe_int pa_nil)))))) pss_nil)
    (pss_one (ps_ret (pe_tup (pa_cons pe_int (pa_cons (pe_op op_add (pe_fld (pv 1) rfl) (pe_fld (pv 2) rfl)) (pa_cons (pe_fld (pv 2) rfl) pa_nil)))))))), ?_⟩

  obtain ⟨p, kk, x, G, rfl, le, ⟨v0, v1, hp, r0, r1⟩, hs, k⟩ := h
  refine q_asgL2 (ev_var rfl) (sq_of hp) fun H1 e1 => ?_
  have e01 := le.trans e1
  rw [hs] at r0
  obtain ⟨rs, rfl, dx, q, hr1, hq⟩ := r0
  refine q_when (et_is (et_test (ev_op (ev_var rfl) ev_c rv_isN)) r1.non) (fun hb H2 e2 => ?_) (fun hb H2 e2 => ?_)
  · have hf : kk.free = none := Option.isNone_iff_eq_none.mp hb
    unfold allOrder at k
    rw [hf] at k
    exact s_retU (eu_tup (ea_cons ev_c (ea_cons (ev_fld (ev_var rfl) ((e01.trans e2) _ _ hr1) T.C_Result T.n_Result_score rfl) (ea_cons ev_c ea_nil))) (Nat.le_of_ble_eq_true rfl)) fun t H3 ht e3 h3 => k t H3 (fresh_back (e1.trans e2) ht) ((e1.trans e2).trans e3) h3
  · cases hf : kk.free with
    | none => rw [hf] at hb; cases hb
    | some y =>
      rw [hf] at r1
      obtain ⟨rf, rfl, dx', q', hr2, hq'⟩ := r1
      unfold allOrder at k
      rw [hf] at k
      have e02 := e01.trans e2
      exact s_retU (eu_tup (ea_cons ev_c (ea_cons (ev_op (ev_fld (ev_var rfl) (e02 _ _ hr1) T.C_Result T.n_Result_score rfl) (ev_fld (ev_var rfl) (e02 _ _ hr2) T.C_Result T.n_Result_score rfl) rv_I0) (ea_cons (ev_fld (ev_var rfl) (e02 _ _ hr2) T.C_Result T.n_Result_score rfl) ea_nil))) (Nat.le_of_ble_eq_true rfl)) fun t H3 ht e3 h3 => k t H3 (fresh_back (e1.trans e2) ht) ((e1.trans e2).trans e3) h3
/-- rows, skater by skater -/
def rowsOf (f : Nat → Kg56.Skater → Option Row) (l : List Kg56.Skater) : List Row := l.zipIdx.filterMap fun x => f x.2 x.1
theorem rowsOf_take {f : Nat → Kg56.Skater → Option Row} {l : List Kg56.Skater} {i : Nat} {s : Kg56.Skater} (h : l[i]? = some s) : rowsOf f (l.take (i + 1)) = rowsOf f (l.take i) ++ (f i s).toList := by
  have hi := (List.getElem?_eq_some_iff.mp h).1
  unfold rowsOf
  rw [List.take_add_one, h]
  show (l.take i ++ [s]).zipIdx.filterMap _ = _
  rw [List.zipIdx_append, List.filterMap_append, List.length_take, Nat.min_eq_left (by omega)]
  congr 1
  show [(s, 0 + i)].filterMap _ = _
  rw [Nat.zero_add]
  rw [List.filterMap_cons, List.filterMap_nil]
  cases f i s <;> rfl
theorem rowsOf_len (f : Nat → Kg56.Skater → Option Row) (l : List Kg56.Skater) : (rowsOf f l).length ≤ l.length := by
  unfold rowsOf
  refine Nat.le_trans (List.length_filterMap_le _ _) ?_
  rw [List.length_zipIdx]
  exact Nat.le_refl _
def segRow (free : Bool) (i : Nat) (k : Kg56.Skater) : Option Row := (k.of free).map fun x => (segOrder free x.2, (i, x.2.all))
def allSum (k : Kg56.Skater) (s : Kg56.Score) : Int := match k.free with
  | none => s.all
  | some x => s.all + x.2.all
def allRow (i : Nat) (k : Kg56.Skater) : Option Row := k.short.map fun x => (allOrder k x.2, (i, allSum k x.2))
theorem s_appR {σ : L2.St} {H : Hp} {D : Ends} {ta te : TE} {l : Addr} {xs : List V} {R : V → Hp → Prop} (hl : H l = some (.lst xs)) (ha : Ev ta σ H (.ref l)) (h : ∀ H1, Ex H H1 → ∀ Q' : VK, (∀ v H2, Ex H1 H2 → R v H2 → Q' v H2) → te σ H1 Q') (hz : xs.length < 100000)
    (k : ∀ v H1, Ex H H1 → R v H1 → D.nx σ (upd H1 l (.lst (xs ++ [v])))) : tDrop (tBM K "list" rAppend ta (tCons te tNil)) D σ H := ha H (Ex.refl H) _ fun H1 e1 =>
  ⟨.inl ⟨rfl, xs, sq_of (e1 l _ hl)⟩, h H1 e1 _ fun v H2 e2 hr => ⟨l, xs, v, rfl, rfl, e2 l _ (e1 l _ hl), sz_lt hz, k v H2 (e1.trans e2) hr⟩⟩
theorem sqT_upd {H : Hp} {t f : Addr} {xs ys : List V} {o : HO} (h : SqT K H t xs) (hf : H f = some (.lst ys)) : SqT K (upd H f o) t xs :=
  h.imp (fun h => h.imp (fun q => by rw [upd_ne (fun z => by rw [z, hf] at q; cases q)]; exact q) fun ⟨u, q⟩ => ⟨u, by rw [upd_ne (fun z => by rw [z, hf] at q; cases q)]; exact q⟩) id
theorem ToldAt.upd {H : Hp} {t f : Addr} {r : Row} {ys : List V} {o : HO} (h : ToldAt K H t r) (hf : H f = some (.lst ys)) : ToldAt K (upd H f o) t r := by
  obtain ⟨q, h1, h2⟩ := h
  exact ⟨q, sqT_upd h1 hf, sqT_upd h2 hf⟩
def sp_segment (a : Ad) (K : PySem.W.Frag) (kp : Addr) : Sp := fun vs H Q _ => ∃ (p : Addr) (ps : List Addr) (ks : List Kg56.Skater) (free : Bool) (G : Hp), vs = [.ref p, freeV free] ∧ Tabs (tabsOf kp) H ∧ Ex G H ∧ H p = some (.lst (ps.map V.ref)) ∧ Paired (PairOf a G H) ps ks ∧ ks.length ≤ 1000 ∧
  ∀ q H', ExtN H H' → Tabs (tabsOf kp) H' → TripsAt H' q (placedOf (rowsOf (segRow free) ks)) → Q (.ref q) H'
theorem ok_segment_places (T : Txt K mg a) (Z : TabH K base mg a kc kp) : FnOk P w K mg base CX0 6 a.f_segment_places a.d_segment_places ["results", "free"] (sp_segment a K kp) := by
  refine T.F_segment_places.ok sc_segment_places (fun vs H Q E h => ?_) (fun cdv A outer s H vs Q E hr h => ?_)
  · obtain ⟨_, _, _, _, _, rfl, _⟩ := h
    rfl
  refine ⟨_, (pss_cons (ps_set (i := 2) sc_segment_places.nd rfl (Or.inl rfl) (pe_lst pa_nil))
    (pss_cons (ps_for PassesOwn.never rfl (pi_enum rfl T.n_enumerate (by exact (pa_cons (pv 0) pa_nil))) (pg_tup (n := 2) rfl (pgs_cons (pg_name (i := 3) sc_segment_places.nd rfl (Or.inl rfl)) (pgs_cons (pg_name (i := 4) sc_segment_places.nd rfl (Or.inl rfl)) pgs_nil)))
      (pss_one (ps_if (pt_cmpR op_notN (pe_ix ix_list (pv 4) (pv 1) (fun _ _ => rfl)) pe_non (nomark _)) (pss_one (ps_expr (pe_bm PySem.F.plainAttrs_list PySem.F.slot_list_append PySem.F.type_list_append mt_append (pv 2) (by exact (pa_cons (pe_tup (pa_cons (pe_call (ok_order_in T) (hr.mono (by decide)) rfl T.g_order_in T.k_order_in T.b_order_in .nil pass0 (by exact (pa_cons (pe_ix ix_list (pv 4) (pv 1) (fun _ _ => rfl)) (pa_cons (pv 1) pa_nil)))) (pa_cons (pv 3) (pa_cons (pe_fld (pe_ix ix_list (pv 4) (pv 1) (fun _ _ => rfl)) rfl) pa_nil)))) pa_nil))))) pss_nil)))
    (pss_one (ps_ret (pe_call (ok_placed T Z) (hr.mono (by decide)) rfl T.g_placed T.k_placed T.b_placed .nil pass0 (by exact (pa_cons (pv 2) pa_nil))))))), ?_⟩

  obtain ⟨p, ps, ks, free, G, rfl, hT, le, hp, hps, hfew, k⟩ := h
  have hkl := Paired.length hps
  refine q_asgL (el_lst ea_nil (Nat.zero_le _)) fun f H1 hf e1 h1 => ?_
  refine q_forEnum (p := p) (ea_cons (ev_var rfl) ea_nil) (sq_of (e1 _ _ hp)) (fun i σ' H' => Ex H H' ∧ Tabs (tabsOf kp) H' ∧ (∃ ts : List Addr, H' f = some (.lst (ts.map V.ref)) ∧ Paired (ToldAt K H') ts (rowsOf (segRow free) (ks.take i))) ∧ ∃ x y, σ' = [some (.ref p), some (freeV free), some (.ref f), x, y])
    (fun H2 e2 => ⟨e1.trans e2, hT.ext (e1.trans e2), ⟨[], e2 _ _ h1, .nil⟩, none, none, rfl⟩) (fun i σ' H' pv => sq_of (pv.1 _ _ hp)) (fun i x σ' H' H2 hi pv e2 => ?_) (fun σ' H' pv => ?_)
  · obtain ⟨ex, T', ⟨ts, hts, hpt⟩, x1, y1, hσ⟩ := pv
    subst hσ
    obtain ⟨pr, hpr, rfl⟩ := at_map hi
    obtain ⟨kk, hkk, hpo⟩ := paired_get hps hpr
    have hil := (List.getElem?_eq_some_iff.mp hkk).1
    have e02 := ex.trans e2
    obtain ⟨xs, v, h3, h4, h5⟩ := (hpo.ex (Ex.refl G) e02).at free
    have hrt := rowsOf_take (f := segRow free) hkk
    have htl : ts.length ≤ i := by
      have z1 := Paired.length hpt
      have z2 := rowsOf_len (segRow free) (ks.take i)
      rw [List.length_take] at z2
      omega
    refine s_when (et_is (et_test (ev_op (ev_op (ev_var rfl) (ev_var rfl) (rv_ixL (sq_of h3) h4)) ev_c rv_notN)) (by rw [h5.non])) (fun hb H3 e3 => ?_) (fun hb H3 e3 => ?_)
    · cases ho : kk.of free with
      | none => rw [ho] at hb; cases hb
      | some x =>
        rw [ho] at h5
        obtain ⟨r, rfl, hra⟩ := h5
        have hrow : segRow free i kk = some (segOrder free x.2, (i, x.2.all)) := by unfold segRow; rw [ho]; rfl
        rw [hrow] at hrt
        have e23 := e2.trans e3
        refine s_appR (R := fun v X => ∃ t, v = .ref t ∧ ToldAt K X t (segOrder free x.2, (i, x.2.all))) (e23 _ _ hts) (ev_var rfl) (fun H4 e4 Q' k' => ?_) (by rw [List.length_map]; omega) fun v H4 e4 ⟨t, hv, ht⟩ => ?_
        · have e34 := e3.trans e4
          refine ev_op (ev_var rfl) (ev_var rfl) (rv_ixL (sq_of (e34 _ _ h3)) h4) H4 (Ex.refl _) _ fun H5 e5 => ?_
          refine ⟨_, rfl, r, x.2, x.1.sheet, free, rfl, hra.ex (((le.trans e02).trans e34).trans e5), fun q H6 hq e6 h6 => ⟨_, rfl, ?_⟩⟩
          obtain ⟨dr, qr, hr1, _⟩ := hra.ex ((((le.trans e02).trans e34).trans e5).trans e6)
          refine ev_fld (ev_op (ev_var rfl) (ev_var rfl) (rv_ixL (sq_of (((e34.trans e5).trans e6) _ _ h3)) h4)) hr1 T.C_Result T.n_Result_score rfl H6 (Ex.refl _) _ fun H7 e7 => ⟨Nat.le_of_ble_eq_true rfl, fun t ht => ?_⟩
          exact k' _ _ (((e5.trans e6).trans e7).trans (Ex.new ht)) ⟨t, rfl, q, st_of upd_same, st_of (((e7.trans (Ex.new ht))) _ _ h6)⟩
        · subst hv
          have hf4 := e4 _ _ (e23 _ _ hts)
          refine ⟨((e02.trans e3).trans e4).mut hf, tabs_upd (T'.ext (e23.trans e4)) hf4, ⟨ts ++ [t], ?_, ?_⟩, _, _, rfl⟩
          · rw [upd_same, List.map_append]; rfl
          · rw [hrt]
            exact Paired.snoc (Paired.mapP hpt fun _ _ z => (z.ex (e23.trans e4)).upd hf4) (ht.upd hf4)
    · have ho : kk.of free = none := by
        cases c : kk.of free with
        | none => rfl
        | some x => rw [c] at hb; cases hb
      have hrow : segRow free i kk = none := by unfold segRow; rw [ho]; rfl
      rw [hrow] at hrt
      have e23 := e2.trans e3
      refine ⟨e02.trans e3, T'.ext e23, ⟨ts, e23 _ _ hts, ?_⟩, _, _, rfl⟩
      rw [hrt]
      exact (show Paired _ ts (_ ++ []) from by rw [List.append_nil]; exact Paired.mapP hpt fun _ _ z => z.ex e23)
  · obtain ⟨ex, T', ⟨ts, hts, hpt⟩, x1, y1, hσ⟩ := pv
    subst hσ
    rw [List.length_map, hkl, List.take_length] at hpt
    refine ⟨_, rfl, f, ts, rowsOf (segRow free) ks, 2, rfl, T', sq_of hts, hpt, Nat.le_trans (rowsOf_len _ _) hfew, by decide, fun r hr2 => ?_, fun q H3 hq xN T3 tr => k q H3 ((ExtN.of ex).trans xN) T3 tr⟩
    unfold rowsOf at hr2
    obtain ⟨z, _, hz⟩ := List.mem_filterMap.mp hr2
    unfold segRow at hz
    cases ho : z.1.of free with
    | none => rw [ho] at hz; cases hz
    | some x => rw [ho] at hz; cases hz; rfl
def sp_in_all (a : Ad) (K : PySem.W.Frag) (kp : Addr) : Sp := fun vs H Q _ => ∃ (p : Addr) (ps : List Addr) (ks : List Kg56.Skater) (G : Hp), vs = [.ref p] ∧ Tabs (tabsOf kp) H ∧ Ex G H ∧ H p = some (.lst (ps.map V.ref)) ∧ Paired (PairOf a G H) ps ks ∧ ks.length ≤ 1000 ∧
  ∀ q H', ExtN H H' → Tabs (tabsOf kp) H' → TripsAt H' q (placedOf (rowsOf allRow ks)) → Q (.ref q) H'
theorem ok_places_in_all (T : Txt K mg a) (Z : TabH K base mg a kc kp) : FnOk P w K mg base CX0 6 a.f_places_in_all a.d_places_in_all ["results"] (sp_in_all a K kp) := by
  refine T.F_places_in_all.ok sc_places_in_all (fun vs H Q E h => ?_) (fun cdv A outer s H vs Q E hr h => ?_)
  · obtain ⟨_, _, _, _, rfl, _⟩ := h
    rfl
  refine ⟨_, (pss_cons (ps_set (i := 1) sc_places_in_all.nd rfl (Or.inl rfl) (pe_lst pa_nil))
    (pss_cons (ps_for PassesOwn.never rfl (pi_enum rfl T.n_enumerate (by exact (pa_cons (pv 0) pa_nil))) (pg_tup (n := 2) rfl (pgs_cons (pg_name (i := 2) sc_places_in_all.nd rfl (Or.inl rfl)) (pgs_cons (pg_name (i := 3) sc_places_in_all.nd rfl (Or.inl rfl)) pgs_nil)))
      (pss_one (ps_if (pt_cmpR op_notN (pe_ix ix_list (pv 3) pe_int (fun _ _ => rfl)) pe_non (nomark _)) (pss_cons (ps_set (i := 4) sc_places_in_all.nd rfl (Or.inl rfl) (pe_call (ok_order_in_all T) (hr.mono (by decide)) rfl T.g_order_in_all T.k_order_in_all T.b_order_in_all .nil pass0 (by exact (pa_cons (pv 3) pa_nil))))
    (pss_one (ps_expr (pe_bm PySem.F.plainAttrs_list PySem.F.slot_list_append PySem.F.type_list_append mt_append (pv 1) (by exact (pa_cons (pe_tup (pa_cons (pv 4) (pa_cons (pv 2) (pa_cons (pe_ix ix_tup (pv 4) pe_int (fun _ _ => rfl)) pa_nil)))) pa_nil)))))) pss_nil)))
    (pss_one (ps_ret (pe_call (ok_placed T Z) (hr.mono (by decide)) rfl T.g_placed T.k_placed T.b_placed .nil pass0 (by exact (pa_cons (pv 1) pa_nil))))))), ?_⟩

  obtain ⟨p, ps, ks, G, rfl, hT, le, hp, hps, hfew, k⟩ := h
  have hkl := Paired.length hps
  refine q_asgL (el_lst ea_nil (Nat.zero_le _)) fun f H1 hf e1 h1 => ?_
  refine q_forEnum (p := p) (ea_cons (ev_var rfl) ea_nil) (sq_of (e1 _ _ hp)) (fun i σ' H' => Ex H H' ∧ Tabs (tabsOf kp) H' ∧ (∃ ts : List Addr, H' f = some (.lst (ts.map V.ref)) ∧ Paired (ToldAt K H') ts (rowsOf allRow (ks.take i))) ∧ ∃ x y z, σ' = [some (.ref p), some (.ref f), x, y, z])
    (fun H2 e2 => ⟨e1.trans e2, hT.ext (e1.trans e2), ⟨[], e2 _ _ h1, .nil⟩, none, none, none, rfl⟩) (fun i σ' H' pv => sq_of (pv.1 _ _ hp)) (fun i x σ' H' H2 hi pv e2 => ?_) (fun σ' H' pv => ?_)
  · obtain ⟨ex, T', ⟨ts, hts, hpt⟩, x1, y1, z1, hσ⟩ := pv
    subst hσ
    obtain ⟨pr, hpr, rfl⟩ := at_map hi
    obtain ⟨kk, hkk, hpo⟩ := paired_get hps hpr
    have hil := (List.getElem?_eq_some_iff.mp hkk).1
    have e02 := ex.trans e2
    have hpo2 := hpo.ex (Ex.refl G) e02
    obtain ⟨xs, v, h3, h4, h5⟩ := hpo2.at false
    have h5 : ResV a G v kk.short := h5
    have hrt := rowsOf_take (f := allRow) hkk
    have htl : ts.length ≤ i := by
      have z1 := Paired.length hpt
      have z2 := rowsOf_len allRow (ks.take i)
      rw [List.length_take] at z2
      omega
    refine s_when (et_is (et_test (ev_op (ev_op (ev_var rfl) ev_c (rv_ixL (sq_of h3) h4)) ev_c rv_notN)) (by rw [h5.non])) (fun hb H3 e3 => ?_) (fun hb H3 e3 => ?_)
    · cases ho : kk.short with
      | none => rw [ho] at hb; cases hb
      | some x =>
        have hrow : allRow i kk = some (allOrder kk x.2, (i, allSum kk x.2)) := by unfold allRow; rw [ho]; rfl
        rw [hrow] at hrt
        have e23 := e2.trans e3
        refine q_asgX ⟨_, rfl, pr, kk, x, G, rfl, (le.trans e02).trans e3, hpo2.ex (Ex.refl G) e3, ho, fun o H4 ho4 e4 h4' => ?_⟩
        have at1 : atI ((allOrder kk x.2).map V.int) 1 = some (.int (allSum kk x.2)) := by
          unfold allOrder allSum
          cases kk.free <;> rfl
        refine s_appU (e4 _ _ (e23 _ _ hts)) (ev_var rfl) (eu_tup (ea_cons (ev_var rfl) (ea_cons (ev_var rfl) (ea_cons (ev_op (ev_var rfl) ev_c (rv_ixT (st_of h4') at1)) ea_nil))) (Nat.le_of_ble_eq_true rfl)) (by rw [List.length_map]; omega) fun t H5 ht e5 h5' => ?_
        have e25 := (e23.trans e4).trans e5
        have hf5 := e25 _ _ hts
        have e05 := ((e02.trans e3).trans e4).trans e5
        refine ⟨e05.mut hf, tabs_upd (T'.ext e25) hf5, ⟨ts ++ [t], ?_, ?_⟩, _, _, _, rfl⟩
        · rw [upd_same, List.map_append]; rfl
        · rw [hrt]
          exact Paired.snoc (Paired.mapP hpt fun _ _ z => (z.ex e25).upd hf5) (ToldAt.upd ⟨o, st_of h5', st_of (e5 _ _ h4')⟩ hf5)
    · have ho : kk.short = none := by
        cases c : kk.short with
        | none => rfl
        | some x => rw [c] at hb; cases hb
      have hrow : allRow i kk = none := by unfold allRow; rw [ho]; rfl
      rw [hrow] at hrt
      have e23 := e2.trans e3
      refine ⟨e02.trans e3, T'.ext e23, ⟨ts, e23 _ _ hts, ?_⟩, _, _, _, rfl⟩
      rw [hrt]
      exact (show Paired _ ts (_ ++ []) from by rw [List.append_nil]; exact Paired.mapP hpt fun _ _ z => z.ex e23)
  · obtain ⟨ex, T', ⟨ts, hts, hpt⟩, x1, y1, z1, hσ⟩ := pv
    subst hσ
    rw [List.length_map, hkl, List.take_length] at hpt
    refine ⟨_, rfl, f, ts, rowsOf allRow ks, 3, rfl, T', sq_of hts, hpt, Nat.le_trans (rowsOf_len _ _) hfew, by decide, fun r hr2 => ?_, fun q H3 hq xN T3 tr => k q H3 ((ExtN.of ex).trans xN) T3 tr⟩
    unfold rowsOf at hr2
    obtain ⟨z, _, hz⟩ := List.mem_filterMap.mp hr2
    unfold allRow at hz
    cases ho : z.1.short with
    | none => rw [ho] at hz; cases hz
    | some x =>
      rw [ho] at hz
      cases hz
      unfold allOrder
      cases z.1.free <;> rfl
end
end SkW

set_option Elab.async false
set_option linter.all false
set_option maxRecDepth 100000
set_option maxHeartbeats 4000000
namespace SkW
/-! ### the order: as the program sorts, as the specification puts -/
def neg (k : List Int) : List Int := k.map fun n => -n
theorem neg_inj : ∀ {a b : List Int}, neg a = neg b → a = b
  | [], [], _ => rfl
  | [], _ :: _, h => by cases h
  | _ :: _, [], h => by cases h
  | x :: a, y :: b, h => by
    have h1 : -x = -y := (List.cons.inj h).1
    rw [neg_inj (List.cons.inj h).2, show x = y by omega]
theorem neg_lt : ∀ {a b : List Int}, a.length = b.length → (neg a < neg b ↔ Kg56.ahead a b = true)
  | [], [], _ => ⟨fun h => absurd h (List.lt_irrefl _), fun h => by cases h⟩
  | [], _ :: _, h => by cases h
  | _ :: _, [], h => by cases h
  | x :: a, y :: b, h => by
    have ih := neg_lt (a := a) (b := b) (Nat.succ.inj h)
    show (-x :: neg a < -y :: neg b) ↔ (decide (y < x) || (x == y && Kg56.ahead a b)) = true
    rw [List.cons_lt_cons_iff, ih]
    simp only [Bool.or_eq_true, Bool.and_eq_true, decide_eq_true_eq, beq_iff_eq]
    constructor
    · rintro (h | ⟨h1, h2⟩)
      · exact .inl (by omega)
      · exact .inr ⟨by omega, h2⟩
    · rintro (h | ⟨h1, h2⟩)
      · exact .inl (by omega)
      · exact .inr ⟨by omega, h2⟩
theorem rowLe_iff (r r' : Row) : rowLe r r' = true ↔ neg r.1 < neg r'.1 ∨ (r.1 = r'.1 ∧ r.2.1 ≤ r'.2.1) := by
  unfold rowLe
  show (!PySem.W.dataLt (keyOf r') (keyOf r)) = true ↔ _
  unfold keyOf
  rw [PySem.W.dataLt_pair (by simp only [PySem.W.alike, PySem.W.alike_ints]) (by simp only [PySem.W.alike]), eqv_lists, PySem.W.dataLt_list, PySem.W.dataLt_int]
  have e := PySem.W.dataLt_ints (neg r'.1) (neg r.1)
  unfold PySem.W.rowLt at e
  show (!(if decide (neg r'.1 = neg r.1) = true then (if PySem.PyData.eqv (.int (r'.2.1 : Nat)) (.int (r.2.1 : Nat)) = true then false else decide (((r'.2.1 : Nat) : Int) < ((r.2.1 : Nat) : Int))) else PyProof.Rows.lexLt PyProof.Rows.itemOrd (PySem.W.keyToksAll ((neg r'.1).map PySem.PyData.int)) (PySem.W.keyToksAll ((neg r.1).map PySem.PyData.int)))) = true ↔ _
  rw [e]
  by_cases c : r'.1 = r.1
  · rw [c, if_pos (decide_eq_true rfl)]
    have hl : ¬ neg r.1 < neg r.1 := List.lt_irrefl _
    by_cases c2 : r'.2.1 = r.2.1
    · rw [c2, if_pos (by simp [PySem.PyData.eqv])]
      simp
    · rw [if_neg (by simp only [PySem.PyData.eqv, beq_iff_eq]; omega)]
      simp only [Bool.not_eq_true', decide_eq_false_iff_not, true_and]
      constructor
      · intro h; exact .inr (by omega)
      · rintro (h | h)
        · exact absurd h hl
        · omega
  · rw [if_neg (by rw [decide_eq_true_eq]; exact fun z => c (neg_inj z))]
    simp only [Bool.not_eq_true', decide_eq_false_iff_not]
    constructor
    · intro h
      rcases List.le_total (neg r.1) (neg r'.1) with z | z
      · by_cases q : neg r.1 < neg r'.1
        · exact .inl q
        · exact absurd (neg_inj (List.le_antisymm (List.not_lt.mp q) z)) c
      · exact absurd (neg_inj (List.le_antisymm z (List.not_lt.mp h))) c
    · rintro (h | ⟨h, _⟩)
      · exact fun z => List.lt_asymm h z
      · exact absurd h.symm c
theorem rowLe_trans (a b c : Row) (h1 : rowLe a b = true) (h2 : rowLe b c = true) : rowLe a c = true := by
  rw [rowLe_iff] at h1 h2 ⊢
  rcases h1 with h1 | ⟨h1, h1'⟩ <;> rcases h2 with h2 | ⟨h2, h2'⟩
  · exact .inl (List.lt_trans h1 h2)
  · exact .inl (h2 ▸ h1)
  · exact .inl (h1 ▸ h2)
  · exact .inr ⟨h1.trans h2, Nat.le_trans h1' h2'⟩
theorem rowLe_total (a b : Row) : (rowLe a b || rowLe b a) = true := by
  rw [Bool.or_eq_true, rowLe_iff, rowLe_iff]
  by_cases c : a.1 = b.1
  · rcases Nat.le_total a.2.1 b.2.1 with h | h
    · exact .inl (.inr ⟨c, h⟩)
    · exact .inr (.inr ⟨c.symm, h⟩)
  · rcases List.le_total (neg a.1) (neg b.1) with z | z
    · by_cases q : neg a.1 < neg b.1
      · exact .inl (.inl q)
      · exact absurd (neg_inj (List.le_antisymm z (List.not_lt.mp q))) c
    · by_cases q : neg b.1 < neg a.1
      · exact .inr (.inl q)
      · exact absurd (neg_inj (List.le_antisymm (List.not_lt.mp q) z)) c
section
variable (key : Nat → List Int) (num : Nat → Int)
def rowAt (i : Nat) : Row := (key i, (i, num i))
theorem put_perm (x : Nat) : ∀ l : List Nat, (Kg56.put key x l).Perm (x :: l)
  | [] => List.Perm.refl _
  | y :: l => by
    rw [Kg56.put]
    split
    · exact List.Perm.refl _
    · exact (List.Perm.cons y (put_perm x l)).trans (List.Perm.swap x y l)
def Bef (i j : Nat) : Prop := rowLe (rowAt key num i) (rowAt key num j) = true
theorem put_pair {m : Nat} (x : Nat) (hx : (key x).length = m) : ∀ l : List Nat, (∀ y ∈ l, (key y).length = m ∧ y < x) → l.Pairwise (Bef key num) → (Kg56.put key x l).Pairwise (Bef key num)
  | [], _, _ => List.pairwise_cons.mpr ⟨fun _ h => (by cases h), List.Pairwise.nil⟩
  | y :: l, hl, hp => by
    obtain ⟨h1, h2⟩ := List.pairwise_cons.mp hp
    obtain ⟨hy, hyx⟩ := hl y List.mem_cons_self
    rw [Kg56.put]
    by_cases c : Kg56.ahead (key x) (key y) = true
    · rw [if_pos c]
      have hxy : Bef key num x y := (rowLe_iff _ _).mpr (.inl ((neg_lt (hx.trans hy.symm)).mpr c))
      refine List.pairwise_cons.mpr ⟨fun z hz => ?_, hp⟩
      rcases List.mem_cons.mp hz with e | e
      · rw [e]; exact hxy
      · exact rowLe_trans _ _ _ hxy (h1 z e)
    · rw [if_neg c]
      have hyx' : Bef key num y x := by
        refine (rowLe_iff _ _).mpr ?_
        by_cases q : key y = key x
        · exact .inr ⟨q, Nat.le_of_lt hyx⟩
        · refine .inl ?_
          show neg (key y) < neg (key x)
          have nc : ¬ neg (key x) < neg (key y) := fun z => c ((neg_lt (hx.trans hy.symm)).mp z)
          by_cases r : neg (key y) < neg (key x)
          · exact r
          · exact absurd (neg_inj (List.le_antisymm (List.not_lt.mp nc) (List.not_lt.mp r))) q
      refine List.pairwise_cons.mpr ⟨fun z hz => ?_, put_pair x hx l (fun z hz => hl z (List.mem_cons_of_mem _ hz)) h2⟩
      rcases List.mem_cons.mp ((put_perm key x l).mem_iff.mp hz) with e | e
      · rw [e]; exact hyx'
      · exact h1 z e
theorem fold_put {m : Nat} : ∀ (ids acc : List Nat), (∀ y ∈ acc, (key y).length = m) → (∀ y ∈ ids, (key y).length = m) → ids.Pairwise (· < ·) → (∀ y ∈ acc, ∀ x ∈ ids, y < x) → acc.Pairwise (Bef key num) →
    (ids.foldl (fun s x => Kg56.put key x s) acc).Pairwise (Bef key num) ∧ (ids.foldl (fun s x => Kg56.put key x s) acc).Perm (acc ++ ids)
  | [], acc, _, _, _, _, hp => ⟨hp, by rw [List.append_nil]; exact List.Perm.refl _⟩
  | x :: ids, acc, ha, hi, hs, hax, hp => by
    obtain ⟨s1, s2⟩ := List.pairwise_cons.mp hs
    have pp := put_perm key x acc
    obtain ⟨r1, r2⟩ := fold_put ids (Kg56.put key x acc) (fun y hy => by
        rcases List.mem_cons.mp (pp.mem_iff.mp hy) with e | e
        · rw [e]; exact hi x List.mem_cons_self
        · exact ha y e) (fun y hy => hi y (List.mem_cons_of_mem _ hy)) s2 (fun y hy z hz => by
        rcases List.mem_cons.mp (pp.mem_iff.mp hy) with e | e
        · rw [e]; exact s1 z hz
        · exact hax y e z (List.mem_cons_of_mem _ hz)) (put_pair key num x (hi x List.mem_cons_self) acc (fun y hy => ⟨ha y hy, hax y hy x List.mem_cons_self⟩) hp)
    refine ⟨r1, r2.trans ((pp.append_right ids).trans ?_)⟩
    show (x :: (acc ++ ids)).Perm (acc ++ x :: ids)
    exact List.perm_middle.symm
theorem placed_ids {m : Nat} (ids : List Nat) (hk : ∀ y ∈ ids, (key y).length = m) (hs : ids.Pairwise (· < ·)) :
    placedOf (ids.map (rowAt key num)) = (Kg56.ordered key ids).map fun i => (i, (Kg56.place key (Kg56.ordered key ids) i, num i)) := by
  obtain ⟨o1, o2⟩ := fold_put key num ids [] (fun _ h => by cases h) hk hs (fun _ h => by cases h) List.Pairwise.nil
  rw [List.nil_append] at o2
  have o1 : (Kg56.ordered key ids).Pairwise (Bef key num) := o1
  have o2 : (Kg56.ordered key ids).Perm ids := o2
  have hsort : (ids.map (rowAt key num)).mergeSort rowLe = (Kg56.ordered key ids).map (rowAt key num) := by
    refine List.Perm.eq_of_pairwise (le := fun a b => rowLe a b = true) (fun a b ha hb h1 h2 => ?_) (List.pairwise_mergeSort rowLe_trans rowLe_total _) (List.pairwise_map.mpr o1) ((List.mergeSort_perm _ _).trans (o2.map _).symm)
    obtain ⟨i, _, rfl⟩ := List.mem_map.mp ((List.mergeSort_perm _ _).mem_iff.mp ha)
    obtain ⟨j, _, rfl⟩ := List.mem_map.mp hb
    rw [rowLe_iff] at h1 h2
    have hij : i = j := by
      rcases h1 with h1 | ⟨h1, h1'⟩ <;> rcases h2 with h2 | ⟨h2, h2'⟩
      · exact absurd h2 (List.lt_asymm h1)
      · rw [h2] at h1; exact absurd h1 (List.lt_irrefl _)
      · rw [h1] at h2; exact absurd h2 (List.lt_irrefl _)
      · exact Nat.le_antisymm h1' h2'
    rw [hij]
  unfold placedOf
  rw [hsort, List.map_map]
  refine List.map_congr_left fun i _ => ?_
  show (i, (standing (ids.map (rowAt key num)) (rowAt key num i), num i)) = _
  have : standing (ids.map (rowAt key num)) (rowAt key num i) = Kg56.place key (Kg56.ordered key ids) i := by
    unfold standing Kg56.place
    rw [List.filter_map, List.length_map, ((o2.filter fun y => Kg56.ahead (key y) (key i)).length_eq)]
    rfl
  rw [this]
end
/-- rows of skaters, by their numbers -/
theorem rowsOf_ids (f : Nat → Kg56.Skater → Option Row) (l : List Kg56.Skater) (key : Nat → List Int) (num : Nat → Int) (has : Nat → Bool) (h : ∀ (i : Nat) (k : Kg56.Skater), l[i]? = some k → (has i = true → f i k = some (rowAt key num i)) ∧ (has i = false → f i k = none)) :
    rowsOf f l = ((List.range l.length).filter has).map (rowAt key num) := by
  have gen : ∀ n, n ≤ l.length → rowsOf f (l.take n) = ((List.range n).filter has).map (rowAt key num) := by
    intro n
    induction n with
    | zero => intro _; rfl
    | succ n ih =>
      intro hn
      have hk : l[n]? = some l[n] := List.getElem?_eq_getElem (by omega)
      rw [rowsOf_take hk, ih (by omega), List.range_succ, List.filter_append, List.map_append]
      congr 1
      obtain ⟨h1, h2⟩ := h n _ hk
      cases c : has n with
      | true => rw [h1 c]; simp [c]
      | false => rw [h2 c]; simp [c]
  have := gen l.length (Nat.le_refl _)
  rwa [List.take_length] at this
theorem range_sorted (n : Nat) (has : Nat → Bool) : ((List.range n).filter has).Pairwise (· < ·) := (List.pairwise_lt_range).sublist List.filter_sublist
theorem placed_seg (s : Kg56.State) (free : Bool) : placedOf (rowsOf (segRow free) s.skaters) = (Kg56.ordered (s.segmentKey free) (s.inSegment free)).map fun i => (i, (Kg56.place (s.segmentKey free) (Kg56.ordered (s.segmentKey free) (s.inSegment free)) i, Kg56.scoreOf s i free)) := by
  have hof : ∀ i k, s.skaters[i]? = some k → s.of i free = k.of free := fun i k h => by unfold Kg56.State.of; rw [h]; rfl
  rw [rowsOf_ids (segRow free) s.skaters (s.segmentKey free) (fun i => Kg56.scoreOf s i free) (fun i => (s.of i free).isSome) fun i k hk => ?_]
  · refine placed_ids (m := 2) _ _ _ (fun y hy => ?_) (range_sorted _ _)
    have h1 := (List.mem_filter.mp hy).2
    unfold Kg56.State.segmentKey
    cases c : s.of y free with
    | none => rw [c] at h1; cases h1
    | some x => rfl
  · have := hof i k hk
    simp only [segRow, rowAt, Kg56.State.segmentKey, Kg56.scoreOf, this]
    cases k.of free with
    | none => exact ⟨fun h => (by cases h), fun _ => rfl⟩
    | some x => exact ⟨fun _ => rfl, fun h => (by cases h)⟩
theorem placed_all (s : Kg56.State) : placedOf (rowsOf allRow s.skaters) = (Kg56.ordered s.allKey s.inAll).map fun i => (i, (Kg56.place s.allKey (Kg56.ordered s.allKey s.inAll) i, Kg56.scoreOf s i false + Kg56.scoreOf s i true)) := by
  have hof : ∀ i k b, s.skaters[i]? = some k → s.of i b = k.of b := fun i k b h => by unfold Kg56.State.of; rw [h]; rfl
  rw [rowsOf_ids allRow s.skaters s.allKey (fun i => Kg56.scoreOf s i false + Kg56.scoreOf s i true) (fun i => (s.of i false).isSome) fun i k hk => ?_]
  · exact placed_ids (m := 3) _ _ _ (fun y hy => rfl) (range_sorted _ _)
  · have h0 := hof i k false hk
    have h1 := hof i k true hk
    have e1 : k.of false = k.short := rfl
    have e2 : k.of true = k.free := rfl
    simp only [allRow, rowAt, Kg56.State.allKey, Kg56.scoreOf, allOrder, allSum, h0, h1, e1, e2]
    cases k.short with
    | none => exact ⟨fun h => (by cases h), fun _ => rfl⟩
    | some x =>
      refine ⟨fun _ => ?_, fun h => (by cases h)⟩
      cases k.free with
      | none => simp
      | some y => simp
end SkW

set_option Elab.async false
set_option linter.all false
set_option maxRecDepth 100000
set_option maxHeartbeats 4000000
namespace SkW
open PySem PySem.Spec PyProof.Rows L2 Evl LamX
section
variable {P : Program} {w : World} {K : PySem.W.Frag} {mg : Str → Option Value} {base : Heap} {a : Ad} {kc kp : Addr}
/-! ### refusals -/
/-- a refusal by a number may leave -/
def Ref (a : Ad) (code : Int) (H : Hp) (E : XK) : Prop := ∀ d H', Ex H H' → H' d = some (.xd [("code", .int code)]) → E (.ref a.c_Refused) (some d) H'
theorem Ref.go {code : Int} {H H1 : Hp} {E : XK} (r : Ref a code H E) (e : Ex H H1) : Ref a code H1 E := fun d H' e' h => r d H' (e.trans e') h
def sp_Refused_init (a : Ad) : Sp := fun vs H Q _ => ∃ (e : Addr) (v : V), vs = [.ref e, v] ∧ H e = some (exo e a.c_Refused none) ∧ ∀ dx, H dx = none → dx ≠ e → Q .non (upd (upd H dx (exd dx [("code", v)])) e (exo e a.c_Refused (some dx)))
theorem ok_Refused___init__ (T : Txt K mg a) : FnOk P w K mg base CX0 1 a.f_Refused___init__ a.d_Refused___init__ ["self", "code"] (sp_Refused_init a) := by
  refine T.F_Refused___init__.ok sc_Refused___init__ (fun vs H Q E h => ?_) (fun cdv A outer s H vs Q E hr h => ?_)
  · obtain ⟨_, _, rfl, _⟩ := h
    rfl
  refine ⟨_, (pss_cons (ps_expr (pe_veinit rfl T.n_ValueError T.vV (by exact (pa_cons (pv 0) (pa_cons pe_str pa_nil))) rfl))
    (pss_one (ps_ost (pv 0) (pv 1)))), ?_⟩

  obtain ⟨e, v, rfl, he, k⟩ := h
  exact ⟨_, rfl, e, a.c_Refused, _, rfl, Nat.le_of_ble_eq_true rfl, T.ox_Refused, he, _, rfl, _, rfl, e, a.c_Refused, rfl, T.ox_Refused, T.no_Refused, .inl ⟨he, k⟩⟩
def sp_need (a : Ad) : Sp := fun vs H Q E => ∃ (b : Bool) (code : Int), vs = [.bl b, .int code] ∧ (b = true → RetV .non H Q) ∧ (b = false → Ref a code H E)
theorem ok_need (T : Txt K mg a) : FnOk P w K mg base (L2.CX P w) 3 a.f_need a.d_need ["good", "code"] (sp_need a) := by
  refine T.F_need.okX sc_need (fun vs H Q E h => ?_) (fun cdv A outer s H vs Q E hr h => ?_)
  · obtain ⟨_, _, rfl, _⟩ := h
    rfl
  refine ⟨_, (pss_one (ps_if (pt_not (pt_val (pv 0))) (pss_one (ps_raise rfl (takes_of rfl rfl rfl rfl) (pmk_oex T.ox_Refused T.oi_Refused T.ot_Refused (ok_Refused___init__ T) (hr.mono (by decide)) T.b_Refused___init__ .nil (fun _ _ _ _ _ _ _ h => h.elim) rfl T.gC_Refused (by exact (pa_cons (pv 1) pa_nil))))) pss_nil)), ?_⟩

  obtain ⟨b, code, rfl, k1, k2⟩ := h
  refine s_when (et_not (et_B (ev_var rfl))) (fun hb H1 e1 => ?_) (fun hb H1 e1 => ?_)
  · have c : b = false := by simpa using hb
    refine ⟨_, rfl, Nat.le_of_ble_eq_true rfl, fun x hx => ⟨x, .int code, rfl, upd_same, fun dx hd hne => ⟨rfl, dx, [("code", .int code)], upd_same, ?_, ?_, ?_⟩⟩⟩
    · rw [upd_ne hne, upd_same]
    · rw [upd_ne hne] at hd; exact hd
    · have hd1 : H1 dx = none := by rw [upd_ne hne] at hd; exact hd
      refine k2 c dx _ (fun y o hy => ?_) upd_same
      have hy1 := e1 _ _ hy
      have n1 : y ≠ dx := ne_of_none hy1 hd1
      have n2 : y ≠ x := ne_of_none hy1 hx
      rw [upd_ne n1, del_ne n2, upd_ne n2, upd_ne n1, upd_ne n2]
      exact hy1
  · have c : b = true := by simpa using hb
    exact (k1 c).go e1
/-- need(b, code) -/
theorem q_need {σ : L2.St} {H : Hp} {D : Ends} {tb tc : TE} {tz : TS} {E : XK} {b : Bool} {code : Int} (h : Ev tb σ H (.bl b)) (hc : Ev tc σ H (.int code)) (hf : b = false → Ref a code H E) (k : b = true → ∀ H1, Ex H H1 → tz D σ H1) : tSeq (tDrop (tCall (sp_need a) [] E (tCons tb (tCons tc tNil)))) tz D σ H :=
  h H (Ex.refl H) _ fun H1 e1 => hc H1 e1 _ fun H2 e2 => ⟨b, code, rfl, fun hb H3 e3 => k hb H3 ((e1.trans e2).trans e3), fun hb => (hf hb).go (e1.trans e2)⟩
theorem st_need {σ : L2.St} {H : Hp} {D : Ends} {tb tc : TE} {E : XK} {b : Bool} {code : Int} (h : Ev tb σ H (.bl b)) (hc : Ev tc σ H (.int code)) (hf : b = false → Ref a code H E) (k : b = true → ∀ H1, Ex H H1 → D.nx σ H1) : tDrop (tCall (sp_need a) [] E (tCons tb (tCons tc tNil))) D σ H :=
  h H (Ex.refl H) _ fun H1 e1 => hc H1 e1 _ fun H2 e2 => ⟨b, code, rfl, fun hb H3 e3 => k hb H3 ((e1.trans e2).trans e3), fun hb => (hf hb).go (e1.trans e2)⟩
def sp_need_segment (a : Ad) : Sp := fun vs H Q E => ∃ (f : Int), vs = [.int f] ∧ (Kg56.within f 0 1 = true → RetV .non H Q) ∧ (Kg56.within f 0 1 = false → Ref a (-1) H E)
theorem within_bit (f : Int) : (decide (V.int f = V.int 0) || decide (V.int f = V.int 1)) = Kg56.within f 0 1 := by
  unfold Kg56.within
  rw [show decide (V.int f = V.int 0) = decide (f = 0) from decide_eq_decide.mpr ⟨fun h => V.int.inj h, fun h => by rw [h]⟩, show decide (V.int f = V.int 1) = decide (f = 1) from decide_eq_decide.mpr ⟨fun h => V.int.inj h, fun h => by rw [h]⟩, ← Bool.decide_or, ← Bool.decide_and]
  exact decide_eq_decide.mpr (by omega)
theorem ok_need_segment (T : Txt K mg a) : FnOk P w K mg base (L2.CX P w) 4 a.f_need_segment a.d_need_segment ["free"] (sp_need_segment a) := by
  refine T.F_need_segment.okX sc_need_segment (fun vs H Q E h => ?_) (fun cdv A outer s H vs Q E hr h => ?_)
  · obtain ⟨_, rfl, _⟩ := h
    rfl
  refine ⟨_, (pss_one (ps_expr (pe_call (ok_need T) (hr.mono (by decide)) rfl T.g_need T.k_need T.b_need .nil (passes_call (takes_of rfl rfl rfl rfl) fun _ _ _ _ h => h) (by exact (pa_cons (pe_or (pe_cmpR op_eq (pv 0) pe_int (nomark _)) (pe_one (pe_cmpR op_eq (pv 0) pe_int (nomark _)))) (pa_cons (pe_gint rfl T.i_NOT_SO) pa_nil)))))), ?_⟩

  obtain ⟨f, rfl, k1, k2⟩ := h
  exact st_need (ev_is (ev_orV (ev_op (ev_var rfl) ev_c (rv_eq rfl)) fun _ => ev_op (ev_var rfl) ev_c (rv_eq rfl)) (by rw [within_bit])) ev_c k2 fun hb H1 e1 => (k1 hb).go e1
def sp_need_text (a : Ad) (K : PySem.W.Frag) : Sp := fun vs H Q E => ∃ (p : Addr) (zs : List Int), vs = [.ref p] ∧ SqL K H p (zs.map V.int) ∧ zs.length ≤ 1000 ∧ (Kg56.textOk zs = true → RetV .non H Q) ∧ (Kg56.textOk zs = false → Ref a (-1) H E)
theorem ok_need_text (T : Txt K mg a) : FnOk P w K mg base (L2.CX P w) 4 a.f_need_text a.d_need_text ["text"] (sp_need_text a K) := by
  refine T.F_need_text.okX sc_need_text (fun vs H Q E h => ?_) (fun cdv A outer s H vs Q E hr h => ?_)
  · obtain ⟨_, _, rfl, _⟩ := h
    rfl
  refine ⟨_, (pss_one (ps_expr (pe_call (ok_need T) (hr.mono (by decide)) rfl T.g_need T.k_need T.b_need .nil (passes_call (takes_of rfl rfl rfl rfl) fun _ _ _ _ h => h) (by exact (pa_cons (pe_and (pe_cmpR op_le (pe_callB call_len_seq rfl T.n_len (by decide +kernel) (by exact (pa_cons (pv 0) pa_nil))) (pe_gint rfl T.i_MOST_TEXT) (nomark _)) (pe_one (pe_callB (cr_all rfl) rfl T.n_all (by decide +kernel) (by exact (pa_cons (pe_lc (own := [("byte", 1)]) rfl sc_need_text.nd (pi_list (pv 0)) (blkOk_by (N := ["text", "byte"]) (sc := defScope s_need_text) (by decide +kernel)) (fun _ _ _ _ _ => (pg_name (i := 1) sc_need_text.nd rfl (by first | exact Or.inl rfl | exact Or.inr rfl))) (fun _ _ _ _ _ => pts_nil) (fun _ _ _ _ _ => (pe_chain op_le op_le pe_int (pv 1) pe_int))) pa_nil))))) (pa_cons (pe_gint rfl T.i_NOT_SO) pa_nil)))))), ?_⟩

  obtain ⟨p, zs, rfl, hp, hl, k1, k2⟩ := h
  refine st_need (b := Kg56.textOk zs) (ev_is (ev_andV (b := zs.all fun z => Kg56.within z 0 255) (ev_op (ev_cb (ea_cons (ev_var rfl) ea_nil) (rc_len (.inl hp))) ev_c rv_I0) fun _ => ev_is (ev_allN (bs := zs.map fun z => Kg56.within z 0 255) (el_map (ys := (zs.map fun z => Kg56.within z 0 255).map V.bl) (ev_var rfl) hp (by rw [List.length_map]; omega) (fun _ => rfl) (by simp) fun i x y H1 e1 hx hy => ?_)) ?_) ?_) ev_c k2 fun hb H1 e1 => (k1 hb).go e1
  · obtain ⟨z, hz, rfl⟩ := at_map hx
    rw [List.getElem?_map, List.getElem?_map, hz] at hy
    cases hy
    exact ev_is (ev_chain ev_c (ev_var rfl) rv_I0 (fun _ => ev_c) fun _ => rv_I0) rfl
  · rw [List.all_map]; rfl
  · rw [List.length_map]
    unfold Kg56.textOk
    rw [Bool.and_comm, show decide ((zs.length : Int) ≤ 40) = decide (zs.length ≤ 40) from decide_eq_decide.mpr (by omega)]
def sp_element_in (a : Ad) (K : PySem.W.Frag) : Sp := fun vs H Q E => ∃ (p : Addr) (row : Kg56.Text), vs = [.ref p] ∧ SqL K H p (tv row) ∧ row.length ≤ 900 ∧ (∀ e x H1, Kg56.element? row = some e → Ex H H1 → ElemAt a (nw H H1) x e → Q (.ref x) H1) ∧ (Kg56.element? row = none → Ref a (-4) H E)
theorem ok_element_in (T : Txt K mg a) : FnOk P w K mg base (L2.CX P w) 8 a.f_element_in a.d_element_in ["text"] (sp_element_in a K) := by
  refine T.F_element_in.okX sc_element_in (fun vs H Q E h => ?_) (fun cdv A outer s H vs Q E hr h => ?_)
  · obtain ⟨_, _, rfl, _⟩ := h
    rfl
  refine ⟨_, (pss_cons (ps_set (i := 1) sc_element_in.nd rfl (Or.inl rfl) (pe_call (ok_element_of T) (hr.mono (by decide)) rfl T.g_element_of T.k_element_of T.b_element_of .nil pass0 (by exact (pa_cons (pv 0) pa_nil))))
    (pss_cons (ps_expr (pe_call (ok_need T) (hr.mono (by decide)) rfl T.g_need T.k_need T.b_need .nil (passes_call (takes_of rfl rfl rfl rfl) fun _ _ _ _ h => h) (by exact (pa_cons (pe_cmpR op_notN (pv 1) pe_non (nomark _)) (pa_cons (pe_gint rfl T.i_WRONG) pa_nil)))))
    (pss_one (ps_ret (pv 1))))), ?_⟩

  obtain ⟨p, row, rfl, hp, hl, k1, k2⟩ := h
  refine q_asgX ⟨_, rfl, p, row, rfl, hp, hl, fun v H1 e1 hv => ?_⟩
  rw [Sk.element_of] at hv
  refine q_need (b := !(Kg56.element? row).isNone) (ev_is (ev_op (ev_var rfl) ev_c rv_notN) (by rw [ElemV.non hv])) ev_c (fun hb => ?_) fun hb H2 e2 => ?_
  · have c : Kg56.element? row = none := Option.isNone_iff_eq_none.mp (by simpa using hb)
    exact (k2 c).go e1
  · cases c : Kg56.element? row with
    | none => rw [c] at hb; cases hb
    | some e =>
      rw [c] at hv
      obtain ⟨x, rfl, hx⟩ := hv
      exact s_ret (ev_var rfl) fun H3 e3 => k1 e x H3 c (e1.trans (e2.trans e3)) (hx.ex (nw_mono (e2.trans e3)))
def sp_flat (K : PySem.W.Frag) : Sp := fun vs H Q _ => ∃ (p : Addr) (ts : List Addr) (rows : List (List Int)), vs = [.ref p] ∧ SqL K H p (ts.map V.ref) ∧ Paired (fun t (ns : List Int) => SqT K H t (ns.map V.int)) ts rows ∧ rows.length ≤ 1000 ∧ (∀ ns ∈ rows, ns.length ≤ 10) ∧ RetL (((rows.length : Int) :: rows.flatten).map V.int) H Q
theorem ok_flat (T : Txt K mg a) : FnOk P w K mg base CX0 1 a.f_flat a.d_flat ["rows"] (sp_flat K) := by
  refine T.F_flat.ok sc_flat (fun vs H Q E h => ?_) (fun cdv A outer s H vs Q E hr h => ?_)
  · obtain ⟨_, _, _, rfl, _⟩ := h
    rfl
  refine ⟨_, (pss_cons (ps_set (i := 1) sc_flat.nd rfl (Or.inl rfl) (pe_lst (pa_cons (pe_callB call_len_seq rfl T.n_len (by decide +kernel) (by exact (pa_cons (pv 0) pa_nil))) pa_nil)))
    (pss_cons (ps_for PassesOwn.never rfl (pi_list (pv 0)) (pg_name (i := 2) sc_flat.nd rfl (Or.inl rfl))
      (pss_one (ps_expr (pe_bm PySem.F.plainAttrs_list PySem.F.slot_list_extend PySem.F.type_list_extend mt_extend (pv 1) (by exact (pa_cons (pe_callTy call_list_of rfl T.n_list (by decide +kernel) (by exact (pa_cons (pv 2) pa_nil))) pa_nil))))))
    (pss_one (ps_ret (pv 1))))), ?_⟩

  obtain ⟨p, ts, rows, rfl, hp, hts, hl, hrl, k⟩ := h
  have htl := Paired.length hts
  refine q_asgL (el_lst (ea_cons (ev_cb (ea_cons (ev_var rfl) ea_nil) (rc_len (.inl hp))) ea_nil) (Nat.le_of_ble_eq_true rfl)) fun f H1 hf e1 h1 => ?_
  refine q_forLn (H := H1) (ev_var rfl) (ex_l e1 hp) (fun i σ' H' => Ex H H' ∧ H' f = some (.lst (((rows.length : Int) :: (rows.take i).flatten).map V.int)) ∧ ∃ y, σ' = [some (.ref p), some (.ref f), y]) (fun H2 e2 => ⟨e1.trans e2, ?_, none, rfl⟩) (fun i σ' H' _ pv => ex_l pv.1 hp) (fun i x σ' H' hi pv => ?_) (fun σ' H' pv => ?_)
  · rw [e2 _ _ h1, List.length_map, htl]; rfl
  · obtain ⟨ex, h2, y, hσ⟩ := pv
    subst hσ
    obtain ⟨t, ht, rfl⟩ := at_map hi
    obtain ⟨ns, hn, hq⟩ := paired_get hts ht
    have hil := (List.getElem?_eq_some_iff.mp hn).1
    have et : rows.take (i + 1) = rows.take i ++ [ns] := by rw [List.take_add_one, hn]; rfl
    have flen : ∀ l : List (List Int), (∀ ns ∈ l, ns.length ≤ 10) → l.flatten.length ≤ 10 * l.length := by
      intro l
      induction l with
      | nil => intro _; exact Nat.le_refl _
      | cons a l ih =>
        intro h
        have h1 := h a List.mem_cons_self
        have h2 := ih fun ns m => h ns (List.mem_cons_of_mem _ m)
        rw [List.flatten_cons, List.length_append, List.length_cons]
        omega
    have hfl := flen (rows.take i) fun ns m => hrl ns (List.mem_of_mem_take m)
    have hti : (rows.take i).length ≤ i := by rw [List.length_take]; omega
    have hns := hrl ns (List.mem_of_getElem? hn)
    refine s_extL h2 (ev_var rfl) (el_cb (ea_cons (ev_var rfl) ea_nil) (rcl_list (.inr (ex_t ex hq)))) (by rw [List.length_map, List.length_map, List.length_cons]; omega) fun H3 e3 => ⟨(ex.trans e3).mut (fresh_back (Ex.refl H) hf), ?_, _, rfl⟩
    rw [upd_same, et, List.flatten_append, ← List.map_append]
    simp
  · obtain ⟨ex, h2, y, hσ⟩ := pv
    subst hσ
    rw [List.length_map, htl, List.take_length] at h2
    exact s_ret (ev_var rfl) fun H2 e2 => k f H2 hf (ex.trans e2) (e2 _ _ h2)
end
end SkW

set_option Elab.async false
set_option linter.all false
set_option maxRecDepth 100000
set_option maxHeartbeats 4000000
namespace SkW
open PySem PySem.Spec PyProof.Rows L2 Evl LamX
theorem frz_to {M M' : List Addr} {H H' : Hp} (h : ∀ m ∈ M', m ∈ M ∨ H m = none) (e : Ex (frz M H) H') : Ex (frz M H) (frz M' H') := fun b o hb => by
  obtain ⟨h1, h2, h3⟩ := frz_some hb
  refine frz_of (fun z => ?_) (e b o hb) h3
  rcases h b z with c | c
  · exact h1 c
  · rw [c] at h2; cases h2
theorem frz_toX {X M M' : List Addr} {H H' : Hp} (h : ∀ m ∈ M', m ∈ M ∨ H m = none) (e : Ex (frz M H) H') : Ex (frz (M ++ X) H) (frz (M' ++ X) H') := fun b o hb => by
  obtain ⟨h1, h2, h3⟩ := frz_some hb
  have n1 : b ∉ M := fun z => h1 (List.mem_append_left _ z)
  refine frz_of (fun z => ?_) (e b o (frz_of n1 h2 h3)) h3
  rcases List.mem_append.mp z with z | z
  · rcases h b z with c | c
    · exact n1 c
    · rw [c] at h2; cases h2
  · exact h1 (List.mem_append_right _ z)
theorem frz_app {X M : List Addr} {H : Hp} : Ex (frz (M ++ X) H) (frz M H) := fun b o hb => by
  obtain ⟨h1, h2, h3⟩ := frz_some hb
  exact frz_of (fun z => h1 (List.mem_append_left _ z)) h2 h3
section
variable {P : Program} {w : World} {K : PySem.W.Frag} {mg : Str → Option Value} {base : Heap} {a : Ad} {kc kp : Addr} {X : List Addr}
/-! ### a competition in the heap -/
def MarksV (K : PySem.W.Frag) (G : Hp) (ro : V) (marks : List (List Int)) : Prop := (marks = [] ∧ ro = .non) ∨ (marks ≠ [] ∧ ∃ rr, ro = .ref rr ∧ RowsAt K G rr marks ∧ RowsOk marks)
structure ProgNow (a : Ad) (K : PySem.W.Frag) (G H : Hp) (pa sk se : Addr) (p : Kg56.Program) : Prop where
  at_ : ∃ ro fav seen, ProgAt a K G H pa sk se ro (.ref fav) p.free (elsNow p.free p.elements) seen ∧ SeenOk p.free p.elements seen ∧ MarksV K G ro p.marks ∧ SqT K G fav [.int (p.falls : Nat), .int (p.off : Nat), .int (p.seconds : Nat)]
  falls : p.falls ≤ 1000
  off : p.off ≤ 1000
  secs : p.seconds ≤ 1000
theorem MarksV.ex {G G' : Hp} {ro : V} {marks : List (List Int)} (h : MarksV K G ro marks) (e : Ex G G') : MarksV K G' ro marks := h.imp id fun ⟨h1, rr, h2, h3, h4⟩ => ⟨h1, rr, h2, h3.ex e, h4⟩
/-- what can't change moves from G to G', the rest from H to H' -/
theorem ProgNow.move {G G' H H' : Hp} {pa sk se : Addr} {p : Kg56.Program} (h : ProgNow a K G H pa sk se p) (e : Ex G G') (l : Ex G' H') (h1 : H' pa = H pa) (h2 : H' sk = H sk) (h3 : H' se = H se) : ProgNow a K G' H' pa sk se p := by
  obtain ⟨⟨ro, fav, seen, ⟨g0, ⟨dx, g1⟩, ⟨ys, g2, g3⟩, ⟨ss, g4, g5⟩, g6, g7, g8⟩, hS, hm, hf⟩, f1, f2, f3⟩ := h
  exact ⟨⟨ro, fav, seen, ⟨l, ⟨dx, by rw [h1]; exact g1⟩, ⟨ys, by rw [h2]; exact g2, Paired.mapP g3 fun _ _ z => z.ex e⟩, ⟨ss, by rw [h3]; exact g4, Paired.mapP g5 fun _ _ z => z.ex e⟩, g6, g7, g8⟩, hS, hm.ex e, ex_t e hf⟩, f1, f2, f3⟩
theorem ProgNow.nt {G H : Hp} {pa sk se : Addr} {p : Kg56.Program} (h : ProgNow a K G H pa sk se p) : Nt H pa ∧ Nt H sk ∧ Nt H se := by
  obtain ⟨⟨ro, fav, seen, hP, _⟩, _⟩ := h
  obtain ⟨dx, h1⟩ := hP.obj
  obtain ⟨zs, h2, _⟩ := hP.sks
  obtain ⟨ss, h3, _⟩ := hP.sees
  exact ⟨⟨_, h1, rfl⟩, ⟨_, h2, rfl⟩, ⟨_, h3, rfl⟩⟩
def NowAt (a : Ad) (K : PySem.W.Frag) (G H : Hp) (nv pv : V) (prog : List Addr) (n : Nat) (now : Option (Nat × Kg56.Program)) : Prop := match now with
  | none => pv = .non ∧ prog = []
  | some x => ∃ pa sk se, pv = .ref pa ∧ prog = [pa, sk, se] ∧ nv = .int (x.1 : Nat) ∧ x.1 < n ∧ ProgNow a K G H pa sk se x.2
theorem NowAt.move {G G' H H' : Hp} {nv pv : V} {prog : List Addr} {n n' : Nat} {now : Option (Nat × Kg56.Program)} (h : NowAt a K G H nv pv prog n now) (hn : n ≤ n') (e : Ex G G') (l : Ex G' H') (hs : ∀ b ∈ prog, H' b = H b) : NowAt a K G' H' nv pv prog n' now := by
  cases now with
  | none => exact h
  | some x =>
    obtain ⟨pa, sk, se, h1, h2, h3, h4, h5⟩ := h
    subst h2
    exact ⟨pa, sk, se, h1, rfl, h3, Nat.lt_of_lt_of_le h4 hn, h5.move e l (hs _ (by simp)) (hs _ (by simp)) (hs _ (by simp))⟩
structure StateOk (s : Kg56.State) : Prop where
  judges : s.judges = 0 ∨ (3 ≤ s.judges ∧ s.judges ≤ 9)
  none_yet : s.judges = 0 → s.skaters = [] ∧ s.now = none
  few : s.skaters.length ≤ 30
  f1 : s.factors.1 ≤ 1000
  f2 : s.factors.2 ≤ 1000
  sheets : ∀ k ∈ s.skaters, ∀ b x, Kg56.Skater.of k b = some x → x.1.elements.length ≤ 20
/-- the keeper at kk: its results' list, the pairs, the program's three; all that may change stands in M -/
structure Kp (a : Ad) (K : PySem.W.Frag) (X M : List Addr) (H : Hp) (kk rl : Addr) (prs prog : List Addr) (s : Kg56.State) : Prop where
  all : M = kk :: rl :: (prs ++ prog)
  nd : M.Nodup
  obj : ∃ dx fa nv pv, H kk = some (.ins a.c_Keeper dx (F_Keeper (.int (s.judges : Nat)) (.ref fa) (.ref rl) nv pv)) ∧ SqT K (frz (M ++ X) H) fa [.int (s.factors.1 : Nat), .int (s.factors.2 : Nat)] ∧ NowAt a K (frz (M ++ X) H) H nv pv prog s.skaters.length s.now
  res : H rl = some (.lst (prs.map V.ref))
  pairs : Paired (PairOf a (frz (M ++ X) H) H) prs s.skaters
  ok : StateOk s
  lx : Alive X H
theorem paired_right {α β : Type} {R : α → β → Prop} {y : β} : ∀ {xs : List α} {ys : List β}, Paired R xs ys → y ∈ ys → ∃ x, R x y
  | _, _, .nil, h => by cases h
  | _, _, .cons q t, h => by
    rcases List.mem_cons.mp h with e | e
    · exact ⟨_, e ▸ q⟩
    · exact paired_right t e
theorem Kp.alive {M : List Addr} {H : Hp} {kk rl : Addr} {prs prog : List Addr} {s : Kg56.State} (h : Kp a K X M H kk rl prs prog s) : Alive M H := fun m hm => by
  obtain ⟨hM, _, ⟨dx, fa, nv, pv, ho, _, hn⟩, hr, hp, _, _⟩ := h
  rw [hM] at hm
  rcases List.mem_cons.mp hm with e | hm
  · exact ⟨_, by rw [e]; exact ho, rfl⟩
  rcases List.mem_cons.mp hm with e | hm
  · exact ⟨_, by rw [e]; exact hr, rfl⟩
  rcases List.mem_append.mp hm with hm | hm
  · obtain ⟨k, v0, v1, h1, _⟩ := paired_left hp hm
    exact ⟨_, h1, rfl⟩
  · cases c : s.now with
    | none => rw [c] at hn; rw [hn.2] at hm; cases hm
    | some x =>
      rw [c] at hn
      obtain ⟨pa, sk, se, _, h2, _, _, h5⟩ := hn
      obtain ⟨n1, n2, n3⟩ := h5.nt
      rw [h2] at hm
      simp only [List.mem_cons, List.not_mem_nil, or_false] at hm
      rcases hm with e | e | e <;> rw [e] <;> assumption
theorem Kp.ex {M : List Addr} {H H' : Hp} {kk rl : Addr} {prs prog : List Addr} {s : Kg56.State} (h : Kp a K X M H kk rl prs prog s) (e : Ex H H') : Kp a K X M H' kk rl prs prog s := by
  have al := h.alive
  obtain ⟨hM, nd, ⟨dx, fa, nv, pv, ho, hf, hn⟩, hr, hp, ok, lx⟩ := h
  have keep : ∀ b ∈ M, H' b = H b := fun b hb => by
    obtain ⟨o, h1, _⟩ := al b hb
    rw [h1]; exact e _ _ h1
  exact ⟨hM, nd, ⟨dx, fa, nv, pv, e _ _ ho, ex_t (frz_mono e) hf, hn.move (Nat.le_refl _) (frz_mono e) frz_le fun b hb => keep b (by rw [hM]; simp [hb])⟩, e _ _ hr, Paired.mapP hp fun _ _ z => z.ex (frz_mono e) e, ok, lx.gr (Gr.of (M := X) e)⟩
theorem Kp.aliveX {M : List Addr} {H : Hp} {kk rl : Addr} {prs prog : List Addr} {s : Kg56.State} (h : Kp a K X M H kk rl prs prog s) : Alive (M ++ X) H := fun m hm => by
  rcases List.mem_append.mp hm with z | z
  · exact h.alive m z
  · exact h.lx m z
theorem Kp.pair {M : List Addr} {H : Hp} {kk rl : Addr} {prs prog : List Addr} {s : Kg56.State} (h : Kp a K X M H kk rl prs prog s) : prs.length = s.skaters.length := Paired.length h.pairs
/-- a call is answered -/
def DoneP (a : Ad) (K : PySem.W.Frag) (kp : Addr) (X M : List Addr) (H : Hp) (kk : Addr) (s' : Kg56.State) (out : List Int) (Q : VK) : Prop :=
  ∀ q M' rl' prs' prog' H', ¬ Nt H q → Ex (frz M H) H' → (∀ m ∈ M', m ∈ M ∨ H m = none) → Tabs (tabsOf kp) H' → Kp a K X M' H' kk rl' prs' prog' s' → H' q = some (.lst (out.map V.int)) → Q (.ref q) H'
structure EndsP (a : Ad) (K : PySem.W.Frag) (kp : Addr) (X M : List Addr) (H : Hp) (kk : Addr) (s : Kg56.State) (r : Kg56.State × Kg56.Ans) (Q : VK) (E : XK) : Prop where
  done : DoneP a K kp X M H kk r.1 (r.2.value :: r.2.out) Q
  refuse : ∀ code, r = (s, Kg56.num code) → code < 0 → Ref a code H E
theorem tabs_gr {T : List (Addr × Str)} {M : List Addr} {H H' : Hp} (t : Tabs T H) (g : Gr M H H') : Tabs T H' := fun p hp' => by
  obtain ⟨ps, t1, t2, t3⟩ := t p hp'
  refine ⟨ps, g.stay _ _ t1 rfl, t2, fun pos cv hc => ?_⟩
  obtain ⟨c, c1, c2⟩ := t3 pos cv hc
  exact ⟨c, c1, g.stay _ _ c2 rfl⟩
theorem Gr.no {M : List Addr} {H H' : Hp} {q : Addr} (g : Gr M H H') (h : H' q = none) : ¬ Nt H q := fun n => (g.live _ n).ne h
theorem ex_no {H H' : Hp} {q : Addr} (e : Ex H H') (h : H' q = none) : ¬ Nt H q := fun ⟨o, n, _⟩ => by rw [e _ _ n] at h; cases h
theorem exN_no {H H' : Hp} {q : Addr} (e : ExtN H H') (h : H' q = none) : ¬ Nt H q := fun ⟨o, n, t⟩ => by rw [e _ _ n fun ps z => by rw [z] at t; cases t] at h; cases h
def sp_Keeper_init (a : Ad) (K : PySem.W.Frag) : Sp := fun vs H Q _ => ∃ (kk dx : Addr), vs = [.ref kk] ∧ H kk = some (.ins a.c_Keeper dx []) ∧ ∀ rl fa H', H rl = none → H fa = none → rl ≠ fa → H' kk = some (.ins a.c_Keeper dx (F_Keeper (.int 0) (.ref fa) (.ref rl) (.int 0) .non)) → H' rl = some (.lst []) → H' fa = some (.tup [.int 0, .int 0]) → But kk H H' → Q .non H'
theorem ok_Keeper___init__ (T : Txt K mg a) : FnOk P w K mg base CX0 1 a.f_Keeper___init__ a.d_Keeper___init__ ["self"] (sp_Keeper_init a K) := by
  refine T.F_Keeper___init__.ok sc_Keeper___init__ (fun vs H Q E h => ?_) (fun cdv A outer s H vs Q E hr h => ?_)
  · obtain ⟨_, _, rfl, _⟩ := h
    rfl
  refine ⟨_, (pss_cons (ps_fld (pv 0) pe_int rfl)
    (pss_cons (ps_fld (pv 0) (pe_tup (pa_cons pe_int (pa_cons pe_int pa_nil))) rfl)
    (pss_cons (ps_fld (pv 0) (pe_lst pa_nil) rfl)
    (pss_cons (ps_fld (pv 0) pe_int rfl)
    (pss_one (ps_fld (pv 0) pe_non rfl)))))), ?_⟩

  obtain ⟨kk, dx, rfl, hk, k⟩ := h
  refine q_setF (v := .int 0) ev_c (ev_var rfl) hk T.C_Keeper T.n_Keeper_judges (by decide : 0 < 1000) fun H1 e1 => ?_
  refine q_setFU (eu_tup (ea_cons ev_c (ea_cons ev_c ea_nil)) (Nat.le_of_ble_eq_true rfl)) (ev_var rfl) upd_same T.C_Keeper T.n_Keeper_factors (by decide : 1 < 1000) fun fa H2 hfa e2 h2 => ?_
  refine q_setFL (el_lst ea_nil (Nat.zero_le _)) (ev_var rfl) upd_same T.C_Keeper T.n_Keeper_results (by decide : 2 < 1000) fun rl H3 hrl e3 h3 => ?_
  refine q_setF (v := .int 0) ev_c (ev_var rfl) upd_same T.C_Keeper T.n_Keeper_skater_now (by decide : 3 < 1000) fun H4 e4 => ?_
  refine s_setF ev_c (ev_var rfl) upd_same T.C_Keeper T.n_Keeper_program (by decide : 4 < 1000) fun H5 e5 => ?_
  have nfa : fa ≠ kk := fun z => by rw [z, upd_same] at hfa; cases hfa
  have nrl : rl ≠ kk := fun z => by rw [z, upd_same] at hrl; cases hrl
  rw [upd_ne nfa] at hfa
  rw [upd_ne nrl] at hrl
  have hfa2 : H2 fa = some (.tup [.int 0, .int 0]) := h2
  have nrf : rl ≠ fa := fun z => by rw [z, hfa2] at hrl; cases hrl
  have hrlH : H rl = none := by
    have z1 : H2 rl = none := hrl
    have z2 := fresh_back e2 z1
    rw [upd_ne nrl] at z2
    exact fresh_back e1 z2
  refine k rl fa _ hrlH (fresh_back e1 hfa) nrf upd_same ?_ ?_ ?_
  · rw [upd_ne nrl]
    refine e5 _ _ ?_
    rw [upd_ne nrl]
    refine e4 _ _ ?_
    rw [upd_ne nrl]
    exact h3
  · rw [upd_ne nfa]
    refine e5 _ _ ?_
    rw [upd_ne nfa]
    refine e4 _ _ ?_
    rw [upd_ne nfa]
    refine e3 _ _ ?_
    rw [upd_ne nfa]
    exact hfa2
  · exact (((((But.of e1).upd.ex e2).upd.ex e3).upd.ex e4).upd.ex e5).upd
end
end SkW

set_option Elab.async false
set_option linter.all false
set_option maxRecDepth 100000
set_option maxHeartbeats 4000000
namespace SkW
open PySem PySem.Spec PyProof.Rows L2 Evl LamX
section
variable {P : Program} {w : World} {K : PySem.W.Frag} {mg : Str → Option Value} {base : Heap} {a : Ad} {kc kp : Addr} {X : List Addr}
theorem q_methE {σ : L2.St} {H : Hp} {D : Ends} {tz : TS} {ta : TE} {ta' : TA} {C p dx : Addr} {m : Str} {sp : Sp} {vs : List V} {E : XK} {fs : List (Str × V)} (h : Ev ta σ H (.ref p)) (ho : H p = some (.ins C dx fs)) (hl : fs.lookup m = none) (ha : EvA ta' σ H vs)
    (hs : ∀ H1, Ex H H1 → ∀ Q : VK, (∀ H2, Ex H1 H2 → Q .non H2) → sp (.ref p :: (vs ++ [])) H1 Q E) (k : ∀ H1, Ex H H1 → tz D σ H1) : tSeq (tDrop (tMeth C m sp [] E ta ta')) tz D σ H :=
  h H (Ex.refl H) _ fun H1 e1 => ⟨p, dx, fs, rfl, e1 _ _ ho, hl, ha H1 e1 _ fun H2 e2 => hs H2 (e1.trans e2) _ fun H3 e3 => k H3 ((e1.trans e2).trans e3)⟩
/-- a need that's a method of the keeper's -/
theorem q_needM {b : Bool} {σ : L2.St} {H : Hp} {D : Ends} {tz : TS} {ta : TE} {ta' : TA} {C p dx : Addr} {m : Str} {sp : Sp} {vs : List V} {E : XK} {fs : List (Str × V)} (h : Ev ta σ H (.ref p)) (ho : H p = some (.ins C dx fs)) (hl : fs.lookup m = none) (ha : EvA ta' σ H vs)
    (hs : ∀ H1, Ex H H1 → ∀ Q : VK, (b = true → ∀ H2, Ex H1 H2 → Q .non H2) → sp (.ref p :: (vs ++ [])) H1 Q E) (k : b = true → ∀ H1, Ex H H1 → tz D σ H1) : tSeq (tDrop (tMeth C m sp [] E ta ta')) tz D σ H :=
  h H (Ex.refl H) _ fun H1 e1 => ⟨p, dx, fs, rfl, e1 _ _ ho, hl, ha H1 e1 _ fun H2 e2 => hs H2 (e1.trans e2) _ fun hb H3 e3 => k hb H3 ((e1.trans e2).trans e3)⟩
def sp_need_program (a : Ad) : Sp := fun vs H Q E => ∃ (kk dx : Addr) (v1 v2 v3 v4 pv : V), vs = [.ref kk] ∧ H kk = some (.ins a.c_Keeper dx (F_Keeper v1 v2 v3 v4 pv)) ∧ (pv ≠ .non → RetV .non H Q) ∧ (pv = .non → Ref a (-2) H E)
theorem ok_Keeper_need_program (T : Txt K mg a) : FnOk P w K mg base (L2.CX P w) 4 a.f_Keeper_need_program a.d_Keeper_need_program ["self"] (sp_need_program a) := by
  refine T.F_Keeper_need_program.okX sc_Keeper_need_program (fun vs H Q E h => ?_) (fun cdv A outer s H vs Q E hr h => ?_)
  · obtain ⟨_, _, _, _, _, _, _, rfl, _⟩ := h
    rfl
  refine ⟨_, (pss_one (ps_expr (pe_call (ok_need T) (hr.mono (by decide)) rfl T.g_need T.k_need T.b_need .nil (passes_call (takes_of rfl rfl rfl rfl) fun _ _ _ _ h => h) (by exact (pa_cons (pe_cmpR op_notN (pe_fld (pv 0) rfl) pe_non (nomark _)) (pa_cons (pe_gint rfl T.i_NOTHING_THERE) pa_nil)))))), ?_⟩

  obtain ⟨kk, dx, v1, v2, v3, v4, pv, rfl, hk, k1, k2⟩ := h
  exact st_need (b := !decide (pv = .non)) (ev_op (ev_fld (ev_var rfl) hk T.C_Keeper T.n_Keeper_program rfl) ev_c rv_notN) ev_c (fun hb => k2 (by simpa using hb)) fun hb H1 e1 => (k1 (by simpa using hb)).go e1
def sp_need_skater (a : Ad) (K : PySem.W.Frag) : Sp := fun vs H Q E => ∃ (kk dx rl : Addr) (v1 v2 v4 pv : V) (xs : List V) (i f : Int), vs = [.ref kk, .int i, .int f] ∧ H kk = some (.ins a.c_Keeper dx (F_Keeper v1 v2 (.ref rl) v4 pv)) ∧ H rl = some (.lst xs) ∧
  ((Kg56.within f 0 1 && (decide (0 ≤ i) && decide (i < (xs.length : Int)))) = true → RetV .non H Q) ∧ ((Kg56.within f 0 1 && (decide (0 ≤ i) && decide (i < (xs.length : Int)))) = false → Ref a (-1) H E)
theorem ok_Keeper_need_skater (T : Txt K mg a) : FnOk P w K mg base (L2.CX P w) 5 a.f_Keeper_need_skater a.d_Keeper_need_skater ["self", "skater", "free"] (sp_need_skater a K) := by
  refine T.F_Keeper_need_skater.okX sc_Keeper_need_skater (fun vs H Q E h => ?_) (fun cdv A outer s H vs Q E hr h => ?_)
  · obtain ⟨_, _, _, _, _, _, _, _, _, _, rfl, _⟩ := h
    rfl
  refine ⟨_, (pss_cons (ps_expr (pe_call (ok_need_segment T) (hr.mono (by decide)) rfl T.g_need_segment T.k_need_segment T.b_need_segment .nil (passes_call (takes_of rfl rfl rfl rfl) fun _ _ _ _ h => h) (by exact (pa_cons (pv 2) pa_nil))))
    (pss_one (ps_expr (pe_call (ok_need T) (hr.mono (by decide)) rfl T.g_need T.k_need T.b_need .nil (passes_call (takes_of rfl rfl rfl rfl) fun _ _ _ _ h => h) (by exact (pa_cons (pe_chain op_le op_lt pe_int (pv 1) (pe_callB call_len_seq rfl T.n_len (by decide +kernel) (by exact (pa_cons (pe_fld (pv 0) rfl) pa_nil)))) (pa_cons (pe_gint rfl T.i_NOT_SO) pa_nil))))))), ?_⟩

  obtain ⟨kk, dx, rl, v1, v2, v4, pv, xs, i, f, rfl, hk, hr2, k1, k2⟩ := h
  refine ⟨_, rfl, f, rfl, fun hf H1 e1 => ?_, fun hf => k2 (by rw [hf]; rfl)⟩
  rw [hf, Bool.true_and] at k1 k2
  exact st_need (ev_chain ev_c (ev_var rfl) rv_I0 (fun _ => ev_cb (ea_cons (ev_fld (ev_var rfl) (e1 _ _ hk) T.C_Keeper T.n_Keeper_results rfl) ea_nil) (rc_len (.inl (sq_of (e1 _ _ hr2))))) fun _ => rv_I0) ev_c (fun hb => (k2 hb).go e1) fun hb H2 e2 => (k1 hb).go (e1.trans e2)
/-- what every call's promise begins with -/
def Asked (a : Ad) (K : PySem.W.Frag) (kp : Addr) (X M : List Addr) (H : Hp) (kk rl : Addr) (prs prog : List Addr) (s : Kg56.State) : Prop := Tabs (tabsOf kp) H ∧ Kp a K X M H kk rl prs prog s
def sp_begin (a : Ad) (K : PySem.W.Frag) (kp : Addr) : Sp := fun vs H Q E => ∃ (X M : List Addr) (kk rl : Addr) (prs prog : List Addr) (s : Kg56.State) (j x y : Int), vs = [.ref kk, .int j, .int x, .int y] ∧ Asked a K kp X M H kk rl prs prog s ∧ EndsP a K kp X M H kk s (Kg56.spec s (.begin_ j x y)) Q E
theorem chain_within (z lo hi : Int) : (decide (lo ≤ z) && decide (z ≤ hi)) = Kg56.within z lo hi := rfl
theorem ok_Keeper_begin (T : Txt K mg a) : FnOk P w K mg base (L2.CX P w) 5 a.f_Keeper_begin a.d_Keeper_begin ["self", "judges", "short", "free"] (sp_begin a K kp) := by
  refine T.F_Keeper_begin.okX sc_Keeper_begin (fun vs H Q E h => ?_) (fun cdv A outer s H vs Q E hr h => ?_)
  · obtain ⟨_, _, _, _, _, _, _, _, _, _, rfl, _⟩ := h
    rfl
  refine ⟨_, (pss_cons (ps_expr (pe_call (ok_need T) (hr.mono (by decide)) rfl T.g_need T.k_need T.b_need .nil (passes_call (takes_of rfl rfl rfl rfl) fun _ _ _ _ h => h) (by exact (pa_cons (pe_chain op_le op_le (pe_gint rfl T.i_LEAST_JUDGES) (pv 1) (pe_gint rfl T.i_MOST_JUDGES)) (pa_cons (pe_gint rfl T.i_NOT_SO) pa_nil)))))
    (pss_cons (ps_expr (pe_call (ok_need T) (hr.mono (by decide)) rfl T.g_need T.k_need T.b_need .nil (passes_call (takes_of rfl rfl rfl rfl) fun _ _ _ _ h => h) (by exact (pa_cons (pe_and (pe_chain op_le op_le pe_int (pv 2) (pe_gint rfl T.i_MOST_FACTOR)) (pe_one (pe_chain op_le op_le pe_int (pv 3) (pe_gint rfl T.i_MOST_FACTOR)))) (pa_cons (pe_gint rfl T.i_NOT_SO) pa_nil)))))
    (pss_cons (ps_fld (pv 0) (pv 1) rfl)
    (pss_cons (ps_fld (pv 0) (pe_tup (pa_cons (pv 2) (pa_cons (pv 3) pa_nil))) rfl)
    (pss_cons (ps_fld (pv 0) (pe_lst pa_nil) rfl)
    (pss_cons (ps_fld (pv 0) pe_non rfl)
    (pss_one (ps_ret (pe_lst (pa_cons pe_int pa_nil)))))))))), ?_⟩

  obtain ⟨X, M, kk, rl, prs, prog, s, j, x, y, rfl, ⟨hT, hK⟩, hE⟩ := h
  have hspec : Kg56.spec s (.begin_ j x y) = if (Kg56.within j 3 9 && (Kg56.within x 1 1000 && Kg56.within y 1 1000)) = false then (s, Kg56.num (-1)) else (⟨j.toNat, (x.toNat, y.toNat), [], none⟩, Kg56.num 0) := rfl
  have al := hK.alive
  have bad : (Kg56.within j 3 9 && (Kg56.within x 1 1000 && Kg56.within y 1 1000)) = false → Ref a (-1) H E := fun hb => hE.refuse (-1) (by rw [hspec, if_pos hb]) (by decide)
  refine q_need (b := Kg56.within j 3 9) (ev_chain ev_c (ev_var rfl) rv_I0 (fun _ => ev_c) fun _ => rv_I0) ev_c (fun hb => bad (by rw [hb]; rfl)) fun hb1 H1 e1 => ?_
  refine q_need (b := Kg56.within x 1 1000 && Kg56.within y 1 1000) (ev_andV (ev_chain ev_c (ev_var rfl) rv_I0 (fun _ => ev_c) fun _ => rv_I0) fun _ => ev_chain ev_c (ev_var rfl) rv_I0 (fun _ => ev_c) fun _ => rv_I0) ev_c (fun hb => (bad (by rw [hb, Bool.and_false])).go e1) fun hb2 H2 e2 => ?_
  have e02 := e1.trans e2
  have hdone := hE.done
  rw [hspec, if_neg (by rw [hb1, hb2]; decide)] at hdone
  obtain ⟨hM, nd, ⟨dx, fa, nv, pv, ho, hf, hn⟩, hr2, hp, ok, lx⟩ := hK
  have kM : kk ∈ M := by rw [hM]; simp
  have g2 : Gr M H H2 := Gr.of e02
  refine q_setF (ev_var rfl) (ev_var rfl) (e02 _ _ ho) T.C_Keeper T.n_Keeper_judges (by decide : 5 < 1000) fun H3 e3 => ?_
  have g3 := (g2.trans (Gr.of e3)).upd (o := .ins a.c_Keeper dx (putF "judges" (.int j) (F_Keeper (.int (s.judges : Nat)) (.ref fa) (.ref rl) nv pv))) kM (e3 _ _ (e02 _ _ ho))
  refine q_setFU (eu_tup (ea_cons (ev_var rfl) (ea_cons (ev_var rfl) ea_nil)) (Nat.le_of_ble_eq_true rfl)) (ev_var rfl) upd_same T.C_Keeper T.n_Keeper_factors (by decide : 5 < 1000) fun fa' H4 hfa e4 h4 => ?_
  have g4 := (g3.trans (Gr.of e4)).upd (o := .ins a.c_Keeper dx (putF "factors" (.ref fa') (putF "judges" (.int j) (F_Keeper (.int (s.judges : Nat)) (.ref fa) (.ref rl) nv pv)))) kM (e4 _ _ upd_same)
  refine q_setFL (el_lst ea_nil (Nat.zero_le _)) (ev_var rfl) upd_same T.C_Keeper T.n_Keeper_results (by decide : 5 < 1000) fun rl' H5 hrl e5 h5 => ?_
  have g5 := (g4.trans (Gr.of e5)).upd (o := .ins a.c_Keeper dx (putF "results" (.ref rl') (putF "factors" (.ref fa') (putF "judges" (.int j) (F_Keeper (.int (s.judges : Nat)) (.ref fa) (.ref rl) nv pv))))) kM (e5 _ _ upd_same)
  refine q_setF ev_c (ev_var rfl) upd_same T.C_Keeper T.n_Keeper_program (by decide : 5 < 1000) fun H6 e6 => ?_
  have g6 := (g5.trans (Gr.of e6)).upd (o := .ins a.c_Keeper dx (putF "program" .non (putF "results" (.ref rl') (putF "factors" (.ref fa') (putF "judges" (.int j) (F_Keeper (.int (s.judges : Nat)) (.ref fa) (.ref rl) nv pv)))))) kM (e6 _ _ upd_same)
  have nk3 : fa' ≠ kk := fun z => by rw [z, upd_same] at hfa; cases hfa
  have nk4 : rl' ≠ kk := fun z => by rw [z, upd_same] at hrl; cases hrl
  rw [upd_ne nk3] at hfa
  rw [upd_ne nk4] at hrl
  have nrf : rl' ≠ fa' := fun z => by rw [z, h4] at hrl; cases hrl
  have hrl3 : H3 rl' = none := by
    have z := fresh_back e4 hrl
    rw [upd_ne nk4] at z
    exact z
  have faH : H fa' = none := fresh_back e02 (fresh_back e3 hfa)
  have rlH : H rl' = none := fresh_back e02 (fresh_back e3 hrl3)
  have hj : 3 ≤ j ∧ j ≤ 9 := by unfold Kg56.within at hb1; simpa using hb1
  have hxy : (1 ≤ x ∧ x ≤ 1000) ∧ (1 ≤ y ∧ y ≤ 1000) := by unfold Kg56.within at hb2; simpa using hb2
  refine s_retL (el_lst (ea_cons ev_c ea_nil) (Nat.le_of_ble_eq_true rfl)) fun q H7 hq e7 h7 => ?_
  have g7 := g6.trans (Gr.of e7)
  have hnew : ∀ m ∈ [kk, rl'], m ∈ M ∨ H m = none := fun m hm => by
    simp only [List.mem_cons, List.not_mem_nil, or_false] at hm
    rcases hm with c | c
    · rw [c]; exact .inl kM
    · rw [c]; exact .inr rlH
  have fa7 : H7 fa' = some (.tup [.int x, .int y]) := by
    refine e7 _ _ ?_
    rw [upd_ne nk3]
    refine e6 _ _ ?_
    rw [upd_ne nk3]
    refine e5 _ _ ?_
    rw [upd_ne nk3]
    exact h4
  refine hdone q [kk, rl'] rl' [] [] H7 (g6.no hq) g7.ex hnew (tabs_gr hT g7) ⟨rfl, ?_, ?_, ?_, .nil, ⟨.inr (by show 3 ≤ j.toNat ∧ j.toNat ≤ 9; omega), fun z => ⟨rfl, rfl⟩, Nat.zero_le _, by show x.toNat ≤ 1000; omega, by show y.toNat ≤ 1000; omega, fun k h => (by cases h)⟩, lx.gr g7⟩ h7
  · exact List.nodup_cons.mpr ⟨by simp [Ne.symm nk4], List.nodup_cons.mpr ⟨by simp, List.nodup_nil⟩⟩
  · refine ⟨dx, fa', nv, .non, ?_, st_of (frz_of (fun z => (List.mem_append.mp z).elim (by simp [nk3, Ne.symm nrf]) (lx.new faH)) ?_), rfl, rfl⟩
    · rw [e7 _ _ upd_same]
      show _ = some (HO.ins a.c_Keeper dx (F_Keeper (.int ((j.toNat : Nat) : Int)) (.ref fa') (.ref rl') nv .non))
      rw [show ((j.toNat : Nat) : Int) = j by omega]
      rfl
    · show H7 fa' = some (.tup [.int ((x.toNat : Nat) : Int), .int ((y.toNat : Nat) : Int)])
      rw [show ((x.toNat : Nat) : Int) = x by omega, show ((y.toNat : Nat) : Int) = y by omega]
      exact fa7
  · refine e7 _ _ ?_
    rw [upd_ne nk4]
    refine e6 _ _ ?_
    rw [upd_ne nk4]
    exact h5
end
end SkW

set_option Elab.async false
set_option linter.all false
set_option maxRecDepth 100000
set_option maxHeartbeats 4000000
namespace SkW
open PySem PySem.Spec PyProof.Rows L2 Evl LamX
section
variable {P : Program} {w : World} {K : PySem.W.Frag} {mg : Str → Option Value} {base : Heap} {a : Ad} {kc kp : Addr} {X : List Addr}
theorem nd_parts {kk rl : Addr} {prs prog : List Addr} (h : (kk :: rl :: (prs ++ prog)).Nodup) : kk ≠ rl ∧ (∀ b ∈ prs, b ≠ kk ∧ b ≠ rl) ∧ (∀ b ∈ prog, b ≠ kk ∧ b ≠ rl) ∧ prs.Nodup ∧ prog.Nodup ∧ ∀ b ∈ prs, ∀ c ∈ prog, b ≠ c := by
  obtain ⟨h1, h2⟩ := List.nodup_cons.mp h
  obtain ⟨h3, h4⟩ := List.nodup_cons.mp h2
  obtain ⟨h5, h6, h7⟩ := List.nodup_append.mp h4
  exact ⟨fun z => h1 (by rw [z]; simp), fun b hb => ⟨fun z => h1 (by rw [← z]; simp [hb]), fun z => h3 (by rw [← z]; simp [hb])⟩, fun b hb => ⟨fun z => h1 (by rw [← z]; simp [hb]), fun z => h3 (by rw [← z]; simp [hb])⟩, h5, h6, fun b hb c hc => h7 b hb c hc⟩
def sp_skater (a : Ad) (K : PySem.W.Frag) (kp : Addr) : Sp := fun vs H Q E => ∃ (X M : List Addr) (kk rl : Addr) (prs prog : List Addr) (s : Kg56.State), vs = [.ref kk] ∧ Asked a K kp X M H kk rl prs prog s ∧ EndsP a K kp X M H kk s (Kg56.spec s .skater) Q E
theorem ok_Keeper_skater (T : Txt K mg a) : FnOk P w K mg base (L2.CX P w) 5 a.f_Keeper_skater a.d_Keeper_skater ["self"] (sp_skater a K kp) := by
  refine T.F_Keeper_skater.okX sc_Keeper_skater (fun vs H Q E h => ?_) (fun cdv A outer s H vs Q E hr h => ?_)
  · obtain ⟨_, _, _, _, _, _, _, rfl, _⟩ := h
    rfl
  refine ⟨_, (pss_cons (ps_expr (pe_call (ok_need T) (hr.mono (by decide)) rfl T.g_need T.k_need T.b_need .nil (passes_call (takes_of rfl rfl rfl rfl) fun _ _ _ _ h => h) (by exact (pa_cons (pe_cmpR op_gt (pe_fld (pv 0) rfl) pe_int (nomark _)) (pa_cons (pe_gint rfl T.i_NOTHING_THERE) pa_nil)))))
    (pss_cons (ps_expr (pe_call (ok_need T) (hr.mono (by decide)) rfl T.g_need T.k_need T.b_need .nil (passes_call (takes_of rfl rfl rfl rfl) fun _ _ _ _ h => h) (by exact (pa_cons (pe_cmpR op_lt (pe_callB call_len_seq rfl T.n_len (by decide +kernel) (by exact (pa_cons (pe_fld (pv 0) rfl) pa_nil))) (pe_gint rfl T.i_MOST_SKATERS) (nomark _)) (pa_cons (pe_gint rfl T.i_TOO_MANY) pa_nil)))))
    (pss_cons (ps_expr (pe_bm PySem.F.plainAttrs_list PySem.F.slot_list_append PySem.F.type_list_append mt_append (pe_fld (pv 0) rfl) (by exact (pa_cons (pe_lst (pa_cons pe_non (pa_cons pe_non pa_nil))) pa_nil))))
    (pss_one (ps_ret (pe_lst (pa_cons (pe_op op_sub (pe_callB call_len_seq rfl T.n_len (by decide +kernel) (by exact (pa_cons (pe_fld (pv 0) rfl) pa_nil))) pe_int) pa_nil))))))), ?_⟩

  obtain ⟨X, M, kk, rl, prs, prog, s, rfl, ⟨hT, hK⟩, hE⟩ := h
  have hspec : Kg56.spec s .skater = if s.judges = 0 then (s, Kg56.num (-2)) else if 30 ≤ s.skaters.length then (s, Kg56.num (-5)) else ({ s with skaters := s.skaters ++ [⟨none, none⟩] }, Kg56.num (s.skaters.length : Nat)) := rfl
  have al := hK.alive
  have hlen := hK.pair
  obtain ⟨hM, nd, ⟨dx, fa, nv, pv, ho, hf, hn⟩, hr2, hp, ok, lx⟩ := hK
  have rM : rl ∈ M := by rw [hM]; simp
  obtain ⟨nkr, np, ng, ndp, ndg, npg⟩ := nd_parts (hM ▸ nd)
  refine q_need (b := decide (0 < s.judges)) (ev_is (ev_op (ev_fld (ev_var rfl) ho T.C_Keeper T.n_Keeper_judges rfl) ev_c rv_I0) (congrArg V.bl (lt_nat 0 s.judges))) ev_c (fun hb => hE.refuse (-2) (by rw [hspec, if_pos (by have := of_decide_eq_false hb; omega)]) (by decide)) fun hb1 H1 e1 => ?_
  have c1 : s.judges ≠ 0 := by have := of_decide_eq_true hb1; omega
  rw [if_neg c1] at hspec
  refine q_need (b := decide (s.skaters.length < 30)) (ev_is (ev_op (ev_cb (ea_cons (ev_fld (ev_var rfl) (e1 _ _ ho) T.C_Keeper T.n_Keeper_results rfl) ea_nil) (rc_len (.inl (sq_of (e1 _ _ hr2))))) ev_c rv_I0) (by rw [List.length_map, hlen]; exact congrArg V.bl (lt_nat _ 30))) ev_c (fun hb => (hE.refuse (-5) (by rw [hspec, if_pos (by have := of_decide_eq_false hb; omega)]) (by decide)).go e1) fun hb2 H2 e2 => ?_
  have c2 : s.skaters.length < 30 := of_decide_eq_true hb2
  rw [if_neg (by omega)] at hspec
  have hdone := hE.done
  rw [hspec] at hdone
  have e02 := e1.trans e2
  refine q_appL (e02 _ _ hr2) (ev_fld (ev_var rfl) (e02 _ _ ho) T.C_Keeper T.n_Keeper_results rfl) (el_lst (ea_cons ev_c (ea_cons ev_c ea_nil)) (Nat.le_of_ble_eq_true rfl)) (by rw [List.length_map, hlen]; omega) fun pr H3 hpr e3 h3 => ?_
  have e03 := e02.trans e3
  have prH : H pr = none := fresh_back e02 hpr
  have prM : pr ∉ M := al.new prH
  have kM : kk ∈ M := by rw [hM]; simp
  refine s_retL (el_lst (ea_cons (ev_op (ev_cb (ea_cons (ev_fld (ev_var rfl) ((upd_ne nkr).trans (e03 _ _ ho)) T.C_Keeper T.n_Keeper_results rfl) ea_nil) (rc_len (.inl (sq_of upd_same)))) ev_c rv_I0) ea_nil) (Nat.le_of_ble_eq_true rfl)) fun q H4 hq e4 h4 => ?_
  have g4 : Gr M H H4 := ((Gr.of e03).upd rM (e03 _ _ hr2)).trans (Gr.of e4)
  have keep : ∀ b, b ≠ rl → ∀ o, H b = some o → H4 b = some o := fun b hb o hbo => e4 _ _ (by rw [upd_ne hb]; exact e03 _ _ hbo)
  have hnew : ∀ m ∈ kk :: rl :: ((prs ++ [pr]) ++ prog), m ∈ M ∨ H m = none := fun m hm => by
    by_cases c : m = pr
    · exact .inr (c ▸ prH)
    · refine .inl ?_
      rw [hM]
      simp only [List.mem_cons, List.mem_append, List.not_mem_nil, or_false] at hm ⊢
      rcases hm with h | h | (h | h) | h
      · exact .inl h
      · exact .inr (.inl h)
      · exact .inr (.inr (.inl h))
      · exact absurd h c
      · exact .inr (.inr (.inr h))
  have ft := frz_toX (X := X) hnew g4.ex
  refine hdone q _ rl (prs ++ [pr]) prog H4 (((Gr.of e03).upd rM (e03 _ _ hr2)).no hq) g4.ex hnew (tabs_gr hT g4) ⟨rfl, ?_, ⟨dx, fa, nv, pv, keep kk nkr _ ho, ex_t ft hf, ?_⟩, ?_, ?_, ?_, lx.gr g4⟩ ?_
  · have pM : pr ≠ kk ∧ pr ≠ rl := ⟨fun z => prM (z ▸ kM), fun z => prM (z ▸ rM)⟩
    have pP : pr ∉ prs := fun z => prM (by rw [hM]; simp [z])
    have pG : pr ∉ prog := fun z => prM (by rw [hM]; simp [z])
    have m1 := (List.nodup_cons.mp (hM ▸ nd)).1
    have m2 := (List.nodup_cons.mp (List.nodup_cons.mp (hM ▸ nd)).2).1
    refine List.nodup_cons.mpr ⟨fun z => ?_, List.nodup_cons.mpr ⟨fun z => ?_, List.nodup_append.mpr ⟨List.nodup_append.mpr ⟨ndp, List.nodup_cons.mpr ⟨by simp, List.nodup_nil⟩, fun b hb c hc => ?_⟩, ndg, fun b hb c hc => ?_⟩⟩⟩
    · simp only [List.mem_cons, List.mem_append, List.not_mem_nil, or_false] at z m1
      rcases z with h | (h | h) | h
      · exact m1 (.inl h)
      · exact m1 (.inr (.inl h))
      · exact pM.1 h.symm
      · exact m1 (.inr (.inr h))
    · simp only [List.mem_append, List.mem_cons, List.not_mem_nil, or_false] at z m2
      rcases z with (h | h) | h
      · exact m2 (.inl h)
      · exact pM.2 h.symm
      · exact m2 (.inr h)
    · rw [List.mem_singleton.mp hc]
      exact fun z => pP (z ▸ hb)
    · rcases List.mem_append.mp hb with h | h
      · exact npg b h c hc
      · rw [List.mem_singleton.mp h]
        exact fun z => pG (z ▸ hc)
  · refine hn.move (by show s.skaters.length ≤ (s.skaters ++ [_]).length; rw [List.length_append]; omega) ft frz_le fun b hb => ?_
    obtain ⟨o, h1, _⟩ := al b (by rw [hM]; simp [hb])
    rw [h1]
    exact keep b (ng b hb).2 o h1
  · rw [e4 _ _ upd_same, List.map_append]; rfl
  · refine Paired.snoc (paired_mem hp fun b k hb _ ⟨v0, v1, t1, t2, t3⟩ => ⟨v0, v1, keep b (np b hb).2 _ t1, t2.ex ft, t3.ex ft⟩) ⟨.non, .non, ?_, rfl, rfl⟩
    refine e4 _ _ ?_
    rw [upd_ne (show pr ≠ rl from fun z => prM (z ▸ rM))]
    exact h3
  · exact ⟨ok.judges, fun z => absurd z c1, by show (s.skaters ++ [_]).length ≤ 30; rw [List.length_append]; exact c2, ok.f1, ok.f2, fun k hk b x hx => by
      rcases List.mem_append.mp hk with h | h
      · exact ok.sheets k h b x hx
      · rw [List.mem_singleton.mp h] at hx
        cases b <;> cases hx⟩
  · rw [h4, List.length_append, List.length_map, hlen]
    show some (HO.lst [V.int (((s.skaters.length + 1 : Nat) : Int) - 1)]) = some (HO.lst [V.int ((s.skaters.length : Nat) : Int)])
    rw [show (((s.skaters.length + 1 : Nat) : Int) - 1) = ((s.skaters.length : Nat) : Int) by omega]
theorem text_ints {zs : List Int} (h : Kg56.textOk zs = true) : zs.map V.int = tv (Kg56.nats zs) := by
  unfold Kg56.textOk at h
  rw [Bool.and_eq_true] at h
  have h1 := List.all_eq_true.mp h.1
  unfold tv iz Kg56.nats
  have : ((zs.map Int.toNat).map fun (n : Nat) => (n : Int)) = zs := by
    rw [List.map_map]
    refine (List.map_congr_left fun z hz => ?_).trans (List.map_id zs)
    have := h1 z hz
    unfold Kg56.within at this
    simp at this
    show ((z.toNat : Nat) : Int) = z
    omega
  rw [this]
theorem text_short {zs : List Int} (h : Kg56.textOk zs = true) : (Kg56.nats zs).length ≤ 40 := by
  unfold Kg56.textOk at h
  rw [Bool.and_eq_true] at h
  have : zs.length ≤ 40 := of_decide_eq_true h.2
  unfold Kg56.nats
  rw [List.length_map]
  exact this
def sp_read (a : Ad) (K : PySem.W.Frag) (kp : Addr) : Sp := fun vs H Q E => ∃ (X M : List Addr) (kk rl : Addr) (prs prog : List Addr) (s : Kg56.State) (t : Addr) (zs : List Int), vs = [.ref kk, .ref t] ∧ Asked a K kp X M H kk rl prs prog s ∧ SqL K H t (zs.map V.int) ∧ zs.length ≤ 1000 ∧ EndsP a K kp X M H kk s (Kg56.spec s (.read zs)) Q E
theorem elemOut_is (e : Kg56.Element) : elemOut e = (((Kg56.showElement e).1 : Nat) :: Kg56.whole (Kg56.showElement e).2 : List Int).map V.int := by
  unfold elemOut Kg56.whole
  rw [List.map_cons, List.map_map]
  rfl
theorem ok_Keeper_read (T : Txt K mg a) : FnOk P w K mg base (L2.CX P w) 9 a.f_Keeper_read a.d_Keeper_read ["self", "text"] (sp_read a K kp) := by
  refine T.F_Keeper_read.okX sc_Keeper_read (fun vs H Q E h => ?_) (fun cdv A outer s H vs Q E hr h => ?_)
  · obtain ⟨_, _, _, _, _, _, _, _, _, rfl, _⟩ := h
    rfl
  refine ⟨_, (pss_cons (ps_expr (pe_call (ok_need_text T) (hr.mono (by decide)) rfl T.g_need_text T.k_need_text T.b_need_text .nil (passes_call (takes_of rfl rfl rfl rfl) fun _ _ _ _ h => h) (by exact (pa_cons (pv 1) pa_nil))))
    (pss_one (ps_ret (pe_meth0 (pe_call (ok_element_in T) (hr.mono (by decide)) rfl T.g_element_in T.k_element_in T.b_element_in .nil (passes_call (takes_of rfl rfl rfl rfl) fun _ _ _ _ h => h) (by exact (pa_cons (pv 1) pa_nil))) T.C_Element T.M_Element_told (ok_Element_told T) (hr.mono (by decide)) T.b_Element_told .nil pass0)))), ?_⟩

  obtain ⟨X, M, kk, rl, prs, prog, s, t, zs, rfl, ⟨hT, hK⟩, ht, hl, hE⟩ := h
  have hspec : Kg56.spec s (.read zs) = (s, if Kg56.textOk zs = false then Kg56.num (-1) else match Kg56.element? (Kg56.nats zs) with
    | none => Kg56.num (-4)
    | some e => ⟨((Kg56.showElement e).1 : Nat), Kg56.whole (Kg56.showElement e).2⟩) := rfl
  refine ⟨_, rfl, t, zs, rfl, ht, hl, fun hb H1 e1 => ?_, fun hb => hE.refuse (-1) (by rw [hspec, if_pos hb]) (by decide)⟩
  rw [if_neg (by rw [hb]; decide)] at hspec
  have ht1 := ex_l e1 ht
  rw [text_ints hb] at ht1
  refine ⟨_, rfl, t, Kg56.nats zs, rfl, ht1, by have := text_short hb; omega, fun e x H2 he e2 hx => ?_, fun he => (hE.refuse (-4) (by rw [hspec, he]) (by decide)).go e1⟩
  rw [he] at hspec
  have hdone := hE.done
  rw [hspec] at hdone
  obtain ⟨_, dx, q, h1, h2⟩ := hx.ex nw_le
  refine ⟨x, dx, _, rfl, h1, rfl, x, e, rfl, hx.ex nw_le, fun q' H3 hq e3 h3 => ?_⟩
  have e03 := (e1.trans e2).trans e3
  refine hdone q' M rl prs prog H3 (ex_no (e1.trans e2) hq) (Ex.trans frz_le e03) (fun m hm => .inl hm) (hT.ext e03) (hK.ex e03) ?_
  rw [h3, elemOut_is]
end
end SkW

set_option Elab.async false
set_option linter.all false
set_option maxRecDepth 100000
set_option maxHeartbeats 4000000
namespace SkW
open PySem PySem.Spec PyProof.Rows L2 Evl LamX
section
variable {P : Program} {w : World} {K : PySem.W.Frag} {mg : Str → Option Value} {base : Heap} {a : Ad} {kc kp : Addr} {X : List Addr}
theorem bit_cases {f : Int} (h : Kg56.within f 0 1 = true) : ∃ fb : Bool, V.int f = freeV fb ∧ (f == 1) = fb ∧ (f = if fb then 1 else 0) := by
  unfold Kg56.within at h
  simp at h
  rcases (show f = 0 ∨ f = 1 by omega) with c | c
  · exact ⟨false, by rw [c]; rfl, by rw [c]; rfl, by rw [c]; rfl⟩
  · exact ⟨true, by rw [c]; rfl, by rw [c]; rfl, by rw [c]; rfl⟩
def sp_start (a : Ad) (K : PySem.W.Frag) (kp : Addr) : Sp := fun vs H Q E => ∃ (X M : List Addr) (kk rl : Addr) (prs prog : List Addr) (s : Kg56.State) (i f : Int), vs = [.ref kk, .int i, .int f] ∧ Asked a K kp X M H kk rl prs prog s ∧ EndsP a K kp X M H kk s (Kg56.spec s (.start i f)) Q E
theorem ok_Keeper_start (T : Txt K mg a) : FnOk P w K mg base (L2.CX P w) 6 a.f_Keeper_start a.d_Keeper_start ["self", "skater", "free"] (sp_start a K kp) := by
  refine T.F_Keeper_start.okX sc_Keeper_start (fun vs H Q E h => ?_) (fun cdv A outer s H vs Q E hr h => ?_)
  · obtain ⟨_, _, _, _, _, _, _, _, _, rfl, _⟩ := h
    rfl
  refine ⟨_, (pss_cons (ps_expr (pe_meth (pv 0) T.C_Keeper T.M_Keeper_need_skater (ok_Keeper_need_skater T) (hr.mono (by decide)) T.b_Keeper_need_skater .nil (passes_call (takes_of rfl rfl rfl rfl) fun _ _ _ _ h => h) (by exact (pa_cons (pv 1) (pa_cons (pv 2) pa_nil)))))
    (pss_cons (ps_expr (pe_call (ok_need T) (hr.mono (by decide)) rfl T.g_need T.k_need T.b_need .nil (passes_call (takes_of rfl rfl rfl rfl) fun _ _ _ _ h => h) (by exact (pa_cons (pe_cmpR op_isN (pe_fld (pv 0) rfl) pe_non (nomark _)) (pa_cons (pe_gint rfl T.i_BEING_SKATED) pa_nil)))))
    (pss_cons (ps_set (i := 3) sc_Keeper_start.nd rfl (Or.inl rfl) (pe_ix ix_list (pe_fld (pv 0) rfl) (pv 1) (fun _ _ => rfl)))
    (pss_cons (ps_expr (pe_call (ok_need T) (hr.mono (by decide)) rfl T.g_need T.k_need T.b_need .nil (passes_call (takes_of rfl rfl rfl rfl) fun _ _ _ _ h => h) (by exact (pa_cons (pe_and (pe_cmpR op_isN (pe_ix ix_list (pv 3) (pv 2) (fun _ _ => rfl)) pe_non (nomark _)) (pe_one (pe_or (pe_cmpR op_eq (pv 2) pe_int (nomark _)) (pe_one (pe_cmpR op_notN (pe_ix ix_list (pv 3) pe_int (fun _ _ => rfl)) pe_non (nomark _)))))) (pa_cons (pe_gint rfl T.i_WRONG) pa_nil)))))
    (pss_cons (ps_fld (pv 0) (pv 1) rfl)
    (pss_cons (ps_fld (pv 0) (pe_make T.mk_Program (ok_Program___init__ T) (hr.mono (by decide)) rfl T.gC_Program T.b_Program___init__ .nil pass0 (by exact (pa_cons (pv 2) pa_nil))) rfl)
    (pss_one (ps_ret (pe_lst (pa_cons pe_int pa_nil)))))))))), ?_⟩

  obtain ⟨X, M, kk, rl, prs, prog, s, i, f, rfl, ⟨hT, hK⟩, hE⟩ := h
  have hspec : Kg56.spec s (.start i f) = if (Kg56.within f 0 1 && (decide (0 ≤ i) && decide (i < (s.skaters.length : Int)))) = false then (s, Kg56.num (-1))
    else if s.now.isSome = true then (s, Kg56.num (-3))
    else if (s.of i.toNat (f == 1)).isSome = true ∨ (f = 1 ∧ (s.of i.toNat false).isNone = true) then (s, Kg56.num (-4))
    else ({ s with now := some (i.toNat, ⟨f == 1, [], [], 0, 0, 0⟩) }, Kg56.num 0) := rfl
  have al := hK.alive
  have hlen := hK.pair
  have hK0 := hK
  obtain ⟨hM, nd, ⟨dx, fa, nv, pv, ho, hf, hn⟩, hr2, hp, ok, lx⟩ := hK
  have kM : kk ∈ M := by rw [hM]; simp
  have rM : rl ∈ M := by rw [hM]; simp
  obtain ⟨nkr, np, ng, ndp, ndg, npg⟩ := nd_parts (hM ▸ nd)
  have hxl : (prs.map V.ref).length = s.skaters.length := by rw [List.length_map, hlen]
  refine q_needM (b := Kg56.within f 0 1 && (decide (0 ≤ i) && decide (i < (s.skaters.length : Int)))) (ev_var rfl) ho rfl (ea_cons (ev_var rfl) (ea_cons (ev_var rfl) ea_nil)) (fun H1 e1 Q1 q1 => ⟨kk, dx, rl, _, _, _, _, _, i, f, rfl, e1 _ _ ho, e1 _ _ hr2, (fun hb H2 e2 => q1 (by rw [hxl] at hb; exact hb) H2 e2), (fun hb => (hE.refuse (-1) (by rw [hxl] at hb; rw [hspec, if_pos hb]) (by decide)).go e1)⟩) fun hc H1 e1 => ?_
  rw [if_neg (by rw [hc]; decide)] at hspec
  rw [Bool.and_eq_true] at hc
  obtain ⟨hcf, hci⟩ := hc
  obtain ⟨fb, hfb, hfq, hfi⟩ := bit_cases hcf
  have hi : 0 ≤ i ∧ i < (s.skaters.length : Int) := by simpa using hci
  obtain ⟨n, rfl⟩ : ∃ n : Nat, i = (n : Int) := ⟨i.toNat, by omega⟩
  have hnl : n < s.skaters.length := by omega
  have hpv : decide (pv = .non) = s.now.isNone := by
    cases c : s.now with
    | none => rw [c] at hn; rw [hn.1]; rfl
    | some x => rw [c] at hn; obtain ⟨pa, _, _, h1, _⟩ := hn; rw [h1]; rfl
  refine q_need (b := s.now.isNone) (ev_is (ev_op (ev_fld (ev_var rfl) (e1 _ _ ho) T.C_Keeper T.n_Keeper_program rfl) ev_c rv_isN) (by rw [hpv])) ev_c (fun hb => (hE.refuse (-3) (by rw [hspec, if_pos (by cases c : s.now with | none => rw [c] at hb; cases hb | some x => rfl)]) (by decide)).go e1) fun hb1 H2 e2 => ?_
  have hnow : s.now = none := Option.isNone_iff_eq_none.mp hb1
  rw [if_neg (by rw [hnow]; decide)] at hspec
  have e02 := e1.trans e2
  obtain ⟨k0, hk0⟩ : ∃ k0, s.skaters[n]? = some k0 := ⟨_, List.getElem?_eq_getElem hnl⟩
  obtain ⟨pr, hpr⟩ : ∃ pr, prs[n]? = some pr := ⟨_, List.getElem?_eq_getElem (by omega)⟩
  obtain ⟨k1, hk1, hpo⟩ := paired_get hp hpr
  rw [hk0] at hk1
  cases hk1
  refine q_asg (ev_op (ev_fld (ev_var rfl) (e02 _ _ ho) T.C_Keeper T.n_Keeper_results rfl) (ev_var rfl) (rv_ixL (sq_of (e02 _ _ hr2)) (atI_nat (by rw [List.getElem?_map, hpr]; rfl)))) fun H3 e3 => ?_
  have e03 := e02.trans e3
  have hpo3 := hpo.ex (Ex.refl _) e03
  obtain ⟨xs, v, x1, x2, x3⟩ := hpo3.at fb
  obtain ⟨xs', v', y1, y2, y3⟩ := hpo3.at false
  have hof : s.of n fb = k0.of fb := by unfold Kg56.State.of; rw [hk0]; rfl
  have hof0 : s.of n false = k0.short := by unfold Kg56.State.of; rw [hk0]; rfl
  have y3 : ResV a (frz (M ++ X) H) v' k0.short := y3
  have htn : ((n : Nat) : Int).toNat = n := by omega
  rw [htn, hfq, hof, hof0] at hspec
  have h01 : decide (V.int f = V.int 0) = !fb := by rw [hfi]; cases fb <;> decide
  refine q_need (b := (k0.of fb).isNone && (!fb || !k0.short.isNone)) (ev_is (ev_andV (ev_is (ev_op (ev_op (ev_var rfl) (ev_is (ev_var rfl) hfb) (rv_ixL (sq_of x1) x2)) ev_c rv_isN) (by rw [x3.non])) fun _ => ev_orV (ev_is (ev_op (ev_var rfl) ev_c (rv_eq rfl)) (by rw [h01])) fun _ => ev_is (ev_op (ev_op (ev_var rfl) ev_c (rv_ixL (sq_of y1) y2)) ev_c rv_notN) (by rw [y3.non])) rfl) ev_c (fun hb => (hE.refuse (-4) ?_ (by decide)).go e03) fun hb2 H4 e4 => ?_
  · rw [hspec, if_pos]
    rw [hfi]
    cases c1 : k0.of fb with
    | some x => exact .inl rfl
    | none =>
      rw [c1] at hb
      cases fb with
      | false => cases hb
      | true =>
        refine .inr ⟨rfl, ?_⟩
        cases c2 : k0.short with
        | none => rfl
        | some x => rw [c2] at hb; cases hb
  have hfine : ¬ ((k0.of fb).isSome = true ∨ (f = 1 ∧ k0.short.isNone = true)) := by
    rw [Bool.and_eq_true] at hb2
    rintro (z | ⟨z1, z2⟩)
    · cases c : k0.of fb with
      | none => rw [c] at z; cases z
      | some x => rw [c] at hb2; cases hb2.1
    · have : fb = true := by
        rw [hfi] at z1
        cases fb with
        | true => rfl
        | false => exact absurd z1 (by decide)
      rw [z2, this] at hb2
      exact absurd hb2.2 (by decide)
  rw [if_neg hfine] at hspec
  have hdone := hE.done
  rw [hspec] at hdone
  have e04 := e03.trans e4
  refine q_setF (ev_var rfl) (ev_var rfl) (e04 _ _ ho) T.C_Keeper T.n_Keeper_skater_now (by decide : 5 < 1000) fun H5 e5 => ?_
  have e05 := e04.trans e5
  have g5 : Gr M H (upd H5 kk (.ins a.c_Keeper dx (putF "skater_now" (.int (n : Nat)) (F_Keeper (.int (s.judges : Nat)) (.ref fa) (.ref rl) nv pv)))) := (Gr.of e05).upd kM (e05 _ _ ho)
  refine ⟨_, rfl, fun pa dp npa ndp' ne => ⟨pa, dp, fb, by rw [← hfb]; rfl, upd_same, fun H6 sk se fv hsk hse hfv nss hpa hk hs hfv' but => ⟨rfl, _, rfl, kk, a.c_Keeper, dx, _, rfl, But.made npa ndp' but _ _ upd_same, T.C_Keeper, T.n_Keeper_program, (by decide : 5 < 1000), ?_⟩⟩⟩
  have e56 := But.made npa ndp' but
  have g6 := (g5.trans (Gr.of e56)).upd (o := .ins a.c_Keeper dx (putF "program" (.ref pa) (putF "skater_now" (.int (n : Nat)) (F_Keeper (.int (s.judges : Nat)) (.ref fa) (.ref rl) nv pv)))) kM (e56 _ _ upd_same)
  have keep : ∀ b, b ≠ kk → ∀ o, H b = some o → upd H6 kk (.ins a.c_Keeper dx (putF "program" (.ref pa) (putF "skater_now" (.int (n : Nat)) (F_Keeper (.int (s.judges : Nat)) (.ref fa) (.ref rl) nv pv)))) b = some o := fun b hb o hbo => by
    rw [upd_ne hb]
    refine e56 _ _ ?_
    rw [upd_ne hb]
    exact e05 _ _ hbo
  have back : ∀ b, upd H5 kk (.ins a.c_Keeper dx (putF "skater_now" (.int (n : Nat)) (F_Keeper (.int (s.judges : Nat)) (.ref fa) (.ref rl) nv pv))) b = none → b ≠ kk ∧ H b = none := fun b hb => by
    have nb : b ≠ kk := fun z => by rw [z, upd_same] at hb; cases hb
    rw [upd_ne nb] at hb
    exact ⟨nb, fresh_back e05 hb⟩
  have back2 : ∀ b, upd (upd (upd H5 kk (.ins a.c_Keeper dx (putF "skater_now" (.int (n : Nat)) (F_Keeper (.int (s.judges : Nat)) (.ref fa) (.ref rl) nv pv)))) dp (.own pa)) pa (.ins a.c_Program dp []) b = none → b ≠ pa ∧ b ≠ kk ∧ H b = none := fun b hb => by
    have nb : b ≠ pa := fun z => by rw [z, upd_same] at hb; cases hb
    rw [upd_ne nb] at hb
    have nb2 : b ≠ dp := fun z => by rw [z, upd_same] at hb; cases hb
    rw [upd_ne nb2] at hb
    exact ⟨nb, back b hb⟩
  obtain ⟨npk, paH⟩ := back pa npa
  obtain ⟨skp, skk, skH⟩ := back2 sk hsk
  obtain ⟨sep, sek, seH⟩ := back2 se hse
  obtain ⟨fvp, fvk, fvH⟩ := back2 fv hfv
  rw [hnow] at hn
  obtain ⟨hpvn, hpg⟩ := hn
  subst hpg
  rw [List.append_nil] at hM
  refine s_retL (σ := [some (.ref kk), some (.int (n : Nat)), some (.int f), some (.ref pr)]) (el_lst (ea_cons ev_c ea_nil) (Nat.le_of_ble_eq_true rfl)) fun q H7 hq e7 h7 => ?_
  have g7 := g6.trans (Gr.of e7)
  have hnew : ∀ m ∈ kk :: rl :: (prs ++ [pa, sk, se]), m ∈ M ∨ H m = none := fun m hm => by
    rw [hM]
    simp only [List.mem_cons, List.mem_append, List.not_mem_nil, or_false] at hm ⊢
    rcases hm with h | h | h | h | h | h
    · exact .inl (.inl h)
    · exact .inl (.inr (.inl h))
    · exact .inl (.inr (.inr h))
    · exact .inr (h ▸ paH)
    · exact .inr (h ▸ skH)
    · exact .inr (h ▸ seH)
  have ft := frz_toX (X := X) hnew g7.ex
  have paM := al.new paH
  have skM := al.new skH
  have seM := al.new seH
  have mk : ∀ b, b ≠ kk → ∀ o, H6 b = some o → H7 b = some o := fun b hb o h => e7 _ _ (by rw [upd_ne hb]; exact h)
  refine hdone q _ rl prs [pa, sk, se] H7 (g6.no hq) g7.ex hnew (tabs_gr hT g7) ⟨rfl, ?_, ⟨dx, fa, .int (n : Nat), .ref pa, e7 _ _ upd_same, ex_t ft hf, pa, sk, se, rfl, rfl, rfl, hnl, ?_⟩, e7 _ _ (keep rl (Ne.symm nkr) _ hr2), ?_, ?_, lx.gr g7⟩ h7
  · rw [show kk :: rl :: (prs ++ [pa, sk, se]) = M ++ [pa, sk, se] by rw [hM]; rfl]
    refine List.nodup_append.mpr ⟨nd, ?_, fun b hb c hc => ?_⟩
    · refine List.nodup_cons.mpr ⟨?_, List.nodup_cons.mpr ⟨?_, List.nodup_cons.mpr ⟨by simp, List.nodup_nil⟩⟩⟩
      · simp only [List.mem_cons, List.not_mem_nil, or_false]
        rintro (z | z)
        · exact skp z.symm
        · exact sep z.symm
      · simp only [List.mem_cons, List.not_mem_nil, or_false]
        exact nss
    · simp only [List.mem_cons, List.not_mem_nil, or_false] at hc
      intro z
      rcases hc with h | h | h
      · exact paM (h ▸ z ▸ hb)
      · exact skM (h ▸ z ▸ hb)
      · exact seM (h ▸ z ▸ hb)
  · have fvM : fv ∉ (kk :: rl :: (prs ++ [pa, sk, se])) ++ X := fun hm => by
      rcases List.mem_append.mp hm with hm | hm
      case inr => exact lx.new fvH hm
      rw [show kk :: rl :: (prs ++ [pa, sk, se]) = M ++ [pa, sk, se] by rw [hM]; rfl] at hm
      rcases List.mem_append.mp hm with h | h
      · exact al.new fvH h
      · simp only [List.mem_cons, List.not_mem_nil, or_false] at h
        rcases h with h | h | h
        · exact fvp h
        · rw [h, hk] at hfv'; cases hfv'
        · rw [h, hs] at hfv'; cases hfv'
    exact ⟨⟨.non, fv, [], ⟨frz_le, ⟨dp, mk pa npk _ hpa⟩, ⟨[], mk sk skk _ hk, .nil⟩, ⟨[], mk se sek _ hs, .nil⟩, Nat.zero_le _, Nat.zero_le _, nss⟩, ⟨rfl, Nat.zero_le _⟩, .inl ⟨rfl, rfl⟩, st_of (frz_of fvM (mk fv fvk _ hfv'))⟩, Nat.zero_le _, Nat.zero_le _, Nat.zero_le _⟩
  · exact paired_mem hp fun b k hb _ ⟨v0, v1, t1, t2, t3⟩ => ⟨v0, v1, e7 _ _ (keep b (np b hb).1 _ t1), t2.ex ft, t3.ex ft⟩
  · exact ⟨ok.judges, fun z => absurd (ok.none_yet z).1 (fun z => by rw [z] at hnl; exact absurd hnl (Nat.not_lt_zero _)), ok.few, ok.f1, ok.f2, ok.sheets⟩
end
end SkW

set_option Elab.async false
set_option linter.all false
set_option maxRecDepth 100000
set_option maxHeartbeats 4000000
namespace SkW
open PySem PySem.Spec PyProof.Rows L2 Evl LamX
section
variable {P : Program} {w : World} {K : PySem.W.Frag} {mg : Str → Option Value} {base : Heap} {a : Ad} {kc kp : Addr} {X : List Addr}
theorem JumpAt.nt {G : Hp} {p : Addr} {j : Kg56.Jump} (h : JumpAt a G p j) : JumpAt a (frz [] G) p j := ⟨h.1, let ⟨dx, q⟩ := h.2; ⟨dx, frz_of List.not_mem_nil q⟩⟩
theorem ElemAt.nt {G : Hp} {p : Addr} {x : Kg56.Element} (h : ElemAt a G p x) : ElemAt a (frz [] G) p x := by
  obtain ⟨h1, dx, q, h2, js, h3, h4⟩ := h
  exact ⟨h1, dx, q, frz_of List.not_mem_nil h2, js, frz_of List.not_mem_nil h3, Paired.mapP h4 fun _ _ z => z.nt⟩
theorem within_abs (g : Int) : decide ((if g < 0 then -g else g) ≤ 5) = Kg56.within g (-5) 5 := by
  unfold Kg56.within
  rw [← Bool.decide_and]
  exact decide_eq_decide.mpr (by split <;> omega)
theorem q_dropX {σ : L2.St} {H : Hp} {D : Ends} {te : TE} {tz : TS} (h : te σ H fun _ H1 => tz D σ H1) : tSeq (tDrop te) tz D σ H := h
theorem meth_at {σ : L2.St} {H : Hp} {Q : VK} {ta : TE} {t : TA} {C p dx : Addr} {m : Str} {sp : Sp} {dvs : List V} {E : XK} {fs : List (Str × V)} (h : Ev ta σ H (.ref p)) (ho : H p = some (.ins C dx fs)) (hl : fs.lookup m = none) (k : ∀ H1, Ex H H1 → t σ H1 fun vs H2 => sp (.ref p :: (vs ++ dvs)) H2 Q E) : tMeth C m sp dvs E ta t σ H Q :=
  h H (Ex.refl H) _ fun H1 e1 => ⟨p, dx, fs, rfl, e1 _ _ ho, hl, k H1 e1⟩
theorem args_cons {σ : L2.St} {H : Hp} {t1 : TE} {tr : TA} {v : V} {Q : List V → Hp → Prop} (h : Ev t1 σ H v) (k : ∀ H1, Ex H H1 → tr σ H1 fun xs H2 => Q (v :: xs) H2) : tCons t1 tr σ H Q := h H (Ex.refl H) _ fun H1 e1 => k H1 e1
theorem args_consL {σ : L2.St} {H : Hp} {t1 : TE} {tr : TA} {xs : List V} {Q : List V → Hp → Prop} (h : EvL t1 σ H xs) (k : ∀ p H1, H p = none → Ex H H1 → H1 p = some (.lst xs) → tr σ H1 fun ys H2 => Q (.ref p :: ys) H2) : tCons t1 tr σ H Q := h H (Ex.refl H) _ fun p H1 hp e1 h1 => k p H1 hp e1 h1
def sp_element (a : Ad) (K : PySem.W.Frag) (kp : Addr) : Sp := fun vs H Q E => ∃ (X M : List Addr) (kk rl : Addr) (prs prog : List Addr) (s : Kg56.State) (h : Int) (t g : Addr) (zs gs : List Int), vs = [.ref kk, .int h, .ref t, .ref g] ∧ Asked a K kp X M H kk rl prs prog s ∧ SqL K H t (zs.map V.int) ∧ zs.length ≤ 1000 ∧ SqL K H g (gs.map V.int) ∧ gs.length ≤ 1000 ∧
  EndsP a K kp X M H kk s (Kg56.spec s (.element h zs gs)) Q E
theorem ok_Keeper_element (T : Txt K mg a) : FnOk P w K mg base (L2.CX P w) 9 a.f_Keeper_element a.d_Keeper_element ["self", "second", "text", "grades"] (sp_element a K kp) := by
  refine T.F_Keeper_element.okX sc_Keeper_element (fun vs H Q E h => ?_) (fun cdv A outer s H vs Q E hr h => ?_)
  · obtain ⟨_, _, _, _, _, _, _, _, _, _, _, _, rfl, _⟩ := h
    rfl
  refine ⟨_, (pss_cons (ps_expr (pe_meth0 (pv 0) T.C_Keeper T.M_Keeper_need_program (ok_Keeper_need_program T) (hr.mono (by decide)) T.b_Keeper_need_program .nil (passes_call (takes_of rfl rfl rfl rfl) fun _ _ _ _ h => h)))
    (pss_cons (ps_expr (pe_call (ok_need_text T) (hr.mono (by decide)) rfl T.g_need_text T.k_need_text T.b_need_text .nil (passes_call (takes_of rfl rfl rfl rfl) fun _ _ _ _ h => h) (by exact (pa_cons (pv 2) pa_nil))))
    (pss_cons (ps_expr (pe_call (ok_need T) (hr.mono (by decide)) rfl T.g_need T.k_need T.b_need .nil (passes_call (takes_of rfl rfl rfl rfl) fun _ _ _ _ h => h) (by exact (pa_cons (pe_and (pe_or (pe_cmpR op_eq (pv 1) pe_int (nomark _)) (pe_one (pe_cmpR op_eq (pv 1) pe_int (nomark _)))) (pe_one (pe_cmpR op_eq (pe_callB call_len_seq rfl T.n_len (by decide +kernel) (by exact (pa_cons (pv 3) pa_nil))) (pe_fld (pv 0) rfl) (nomark _)))) (pa_cons (pe_gint rfl T.i_NOT_SO) pa_nil)))))
    (pss_cons (ps_expr (pe_call (ok_need T) (hr.mono (by decide)) rfl T.g_need T.k_need T.b_need .nil (passes_call (takes_of rfl rfl rfl rfl) fun _ _ _ _ h => h) (by exact (pa_cons (pe_callB (cr_all rfl) rfl T.n_all (by decide +kernel) (by exact (pa_cons (pe_lc (own := [("grade", 6)]) rfl sc_Keeper_element.nd (pi_list (pv 3)) (blkOk_by (N := ["self", "second", "text", "grades", "found", "many", "grade"]) (sc := defScope s_Keeper_element) (by decide +kernel)) (fun _ _ _ _ _ => (pg_name (i := 6) sc_Keeper_element.nd rfl (by first | exact Or.inl rfl | exact Or.inr rfl))) (fun _ _ _ _ _ => pts_nil) (fun _ _ _ _ _ => (pe_cmpR op_le (pe_callB call_abs rfl T.n_abs (by decide +kernel) (by exact (pa_cons (pv 6) pa_nil))) (pe_gint rfl T.i_MOST_GRADE) (nomark _)))) pa_nil))) (pa_cons (pe_gint rfl T.i_NOT_SO) pa_nil)))))
    (pss_cons (ps_set (i := 4) sc_Keeper_element.nd rfl (Or.inl rfl) (pe_call (ok_element_in T) (hr.mono (by decide)) rfl T.g_element_in T.k_element_in T.b_element_in .nil (passes_call (takes_of rfl rfl rfl rfl) fun _ _ _ _ h => h) (by exact (pa_cons (pv 2) pa_nil))))
    (pss_cons (ps_set (i := 5) sc_Keeper_element.nd rfl (Or.inl rfl) (pe_callB call_len_seq rfl T.n_len (by decide +kernel) (by exact (pa_cons (pe_fld (pe_fld (pv 0) rfl) rfl) pa_nil))))
    (pss_cons (ps_expr (pe_call (ok_need T) (hr.mono (by decide)) rfl T.g_need T.k_need T.b_need .nil (passes_call (takes_of rfl rfl rfl rfl) fun _ _ _ _ h => h) (by exact (pa_cons (pe_cmpR op_lt (pv 5) (pe_gint rfl T.i_MOST_ELEMENTS) (nomark _)) (pa_cons (pe_gint rfl T.i_TOO_MANY) pa_nil)))))
    (pss_cons (ps_expr (pe_meth (pe_fld (pv 0) rfl) T.C_Program T.M_Program_take (ok_Program_take T) (hr.mono (by decide)) T.b_Program_take .nil pass0 (by exact (pa_cons (pv 4) (pa_cons (pe_cmpR op_eq (pv 1) pe_int (nomark _)) (pa_cons (pe_callTy call_list_of rfl T.n_list (by decide +kernel) (by exact (pa_cons (pv 3) pa_nil))) pa_nil))))))
    (pss_one (ps_ret (pe_lst (pa_cons (pv 5) pa_nil)))))))))))), ?_⟩

  obtain ⟨X, M, kk, rl, prs, prog, s, hh, t, g, zs, gs, rfl, ⟨hT, hK⟩, ht, hzl, hg, hgl, hE⟩ := h
  have alo := hK.alive
  have al := hK.aliveX
  obtain ⟨hM, nd, ⟨dx, fa, nv, pv, ho, hf, hn⟩, hr2, hp, ok, lx⟩ := hK
  have kM : kk ∈ M := by rw [hM]; simp
  obtain ⟨nkr, np, ng, ndp, ndg, npg⟩ := nd_parts (hM ▸ nd)
  cases hnow : s.now with
  | none =>
    rw [hnow] at hn
    have hspec : Kg56.spec s (.element hh zs gs) = (s, Kg56.num (-2)) := by simp only [Kg56.spec, Kg56.onProgram, hnow]
    exact q_needM (b := false) (ev_var rfl) ho rfl ea_nil (fun H1 e1 Q1 q1 => ⟨kk, dx, _, _, _, _, pv, rfl, e1 _ _ ho, fun z => absurd hn.1 z, fun _ => (hE.refuse (-2) hspec (by decide)).go e1⟩) fun hb => by cases hb
  | some x =>
  obtain ⟨wi, p⟩ := x
  rw [hnow] at hn
  obtain ⟨pa, sk, se, rfl, rfl, rfl, hwl, ⟨⟨ro, fav, seen, hP, hS, hmk, hfv⟩, pf, pof, psec⟩⟩ := hn
  have hspec : Kg56.spec s (.element hh zs gs) = if (Kg56.textOk zs && (Kg56.within hh 0 1 && (gs.length == s.judges && gs.all fun z => Kg56.within z (-5) 5))) = false then (s, Kg56.num (-1))
    else match Kg56.element? (Kg56.nats zs) with
      | none => (s, Kg56.num (-4))
      | some e => if 20 ≤ p.elements.length then (s, Kg56.num (-5)) else ({ s with now := some (wi, { p with elements := p.elements ++ [⟨e, hh == 1, gs⟩] }) }, Kg56.num (p.elements.length : Nat)) := by
    simp only [Kg56.spec, Kg56.onProgram, hnow]
    rfl
  have bad : (Kg56.textOk zs && (Kg56.within hh 0 1 && (gs.length == s.judges && gs.all fun z => Kg56.within z (-5) 5))) = false → Ref a (-1) H E := fun hb => hE.refuse (-1) (by rw [hspec, if_pos hb]) (by decide)
  refine q_needM (b := true) (ev_var rfl) ho rfl ea_nil (fun H1 e1 Q1 q1 => ⟨kk, dx, _, _, _, _, _, rfl, e1 _ _ ho, fun _ H2 e2 => q1 rfl H2 e2, fun z => by cases z⟩) fun _ H1 e1 => ?_
  refine ⟨_, rfl, t, zs, rfl, ex_l e1 ht, hzl, fun hb1 H2 e2 => ?_, fun hb => (bad (by rw [hb]; rfl)).go e1⟩
  have e02 := e1.trans e2
  refine q_need (b := Kg56.within hh 0 1 && (gs.length == s.judges)) (ev_andV (ev_is (ev_orV (ev_op (ev_var rfl) ev_c (rv_eq rfl)) fun _ => ev_op (ev_var rfl) ev_c (rv_eq rfl)) (by rw [within_bit])) fun _ => ev_is (ev_op (ev_cb (ea_cons (ev_var rfl) ea_nil) (rc_len (.inl (ex_l e02 hg)))) (ev_fld (ev_var rfl) (e02 _ _ ho) T.C_Keeper T.n_Keeper_judges rfl) (rv_eq rfl)) (by rw [List.length_map, ← dec_ints (i := gs.length) (j := s.judges) rfl]; rfl)) ev_c (fun hb => (bad (by rw [← Bool.and_assoc (Kg56.within hh 0 1), hb, Bool.false_and, Bool.and_false])).go e02) fun hb2 H3 e3 => ?_
  have e03 := e02.trans e3
  refine q_need (b := gs.all fun z => Kg56.within z (-5) 5) (ev_is (ev_allN (bs := gs.map fun z => Kg56.within z (-5) 5) (el_map (ys := (gs.map fun z => Kg56.within z (-5) 5).map V.bl) (ev_var rfl) (ex_l e03 hg) (by rw [List.length_map]; omega) (fun _ => rfl) (by simp) fun i x y H4 e4 hx hy => ?_)) (by rw [List.all_map]; rfl)) ev_c (fun hb => (bad (by rw [hb, Bool.and_false, Bool.and_false, Bool.and_false])).go e03) fun hb3 H4 e4 => ?_
  · obtain ⟨z, hz, rfl⟩ := at_map hx
    rw [List.getElem?_map, List.getElem?_map, hz] at hy
    cases hy
    exact ev_is (ev_op (ev_cb (ea_cons (ev_var rfl) ea_nil) rc_abs) ev_c rv_I0) (by rw [within_abs])
  rw [Bool.and_eq_true] at hb2
  rw [if_neg (by rw [hb1, hb2.1, hb2.2, hb3]; decide)] at hspec
  have hgj : gs.length = s.judges := by simpa using hb2.2
  obtain ⟨hb, hbv, hbq, hbi⟩ := bit_cases hb2.1
  have e04 := e03.trans e4
  have ht4 := ex_l e04 ht
  rw [text_ints hb1] at ht4
  refine q_asgX ⟨_, rfl, t, Kg56.nats zs, rfl, ht4, by have := text_short hb1; omega, fun e x H5 he e5 hx => ?_, fun he => (hE.refuse (-4) (by rw [hspec, he]) (by decide)).go e04⟩
  rw [he] at hspec
  have hspec : Kg56.spec s (.element hh zs gs) = if 20 ≤ p.elements.length then (s, Kg56.num (-5)) else ({ s with now := some (wi, { p with elements := p.elements ++ [⟨e, hh == 1, gs⟩] }) }, Kg56.num (p.elements.length : Nat)) := hspec
  have e05 := e04.trans e5
  have hP5 := hP.ex e05
  obtain ⟨dxp, hpa⟩ := hP5.obj
  obtain ⟨zz, hz1, hz2⟩ := hP5.sks
  have hzn : (zz.map fun z => V.ref z.1).length = p.elements.length := by
    rw [List.length_map, Paired.length hz2]
    exact Sk.valued_len _ _ _
  refine q_asg (ev_cb (ea_cons (ev_fld (ev_fld (ev_var rfl) (e05 _ _ ho) T.C_Keeper T.n_Keeper_program rfl) hpa T.C_Program T.n_Program_skated rfl) ea_nil) (rc_len (.inl (sq_of hz1)))) fun H6 e6 => ?_
  rw [hzn]
  have e06 := e05.trans e6
  refine q_need (b := decide (p.elements.length < 20)) (ev_is (ev_op (ev_var rfl) ev_c rv_I0) (congrArg V.bl (lt_nat _ 20))) ev_c (fun hb => (hE.refuse (-5) (by rw [hspec, if_pos (by have := of_decide_eq_false hb; omega)]) (by decide)).go e06) fun hb4 H7 e7 => ?_
  have h20 : p.elements.length < 20 := of_decide_eq_true hb4
  rw [if_neg (by omega)] at hspec
  have hdone := hE.done
  rw [hspec] at hdone
  have e07 := e06.trans e7
  have e57 := e6.trans e7
  refine q_dropX (meth_at (ev_fld (ev_var rfl) (e07 _ _ ho) T.C_Keeper T.n_Keeper_program rfl) (e57 _ _ hpa) rfl fun H8 e8 => args_cons (ev_var rfl) fun H9 e9 => args_cons (ev_op (ev_is (ev_var rfl) hbv) ev_c (rv_eq rfl)) fun H9b e9b => args_consL (el_cb (ea_cons (ev_var rfl) ea_nil) (rcl_list (.inl (ex_l (((e07.trans e8).trans e9).trans e9b) hg)))) fun g' H10 hg' e10 h10 => ?_)
  have e910 := (((e8.trans e9).trans e9b).trans e10)
  have e010 := e07.trans e910
  have al10 : Alive (M ++ X) H10 := al.gr (Gr.of (M := M) e010)
  have hb1' : decide (freeV hb = V.int 1) = (hh == 1) := by rw [hbq]; cases hb <;> decide
  have g'H : H g' = none := fresh_back (((e07.trans e8).trans e9).trans e9b) hg'
  have hx10 : ElemAt a (frz (M ++ X) H10) x e := (hx.nt.ex (nwT_fz (al.gr (Gr.of (M := M) e04)))).ex (frz_mono (e57.trans e910))
  have gok : GradesOk gs := by
    have : s.judges ≠ 0 := fun z => by
      have := (ok.none_yet z).2
      rw [hnow] at this; cases this
    rcases ok.judges with z | z
    · exact absurd z this
    · exact ⟨by omega, by omega⟩
  refine ⟨pa, sk, se, ro, .ref fav, p.free, p.elements, seen, M ++ X, x, g', ⟨e, hh == 1, gs⟩, by rw [hb1']; rfl, hP.fz e010, hS, h20, by rw [hM]; simp, by rw [hM]; simp, by rw [hM]; simp, al10, hx10, sq_of (frz_of (al.new g'H) h10), gok, fun H11 seen' gr kp2 hP' hS' => ?_⟩
  have nks : kk ≠ sk ∧ kk ≠ se ∧ rl ≠ sk ∧ rl ≠ se := ⟨Ne.symm (ng sk (by simp)).1, Ne.symm (ng se (by simp)).1, Ne.symm (ng sk (by simp)).2, Ne.symm (ng se (by simp)).2⟩
  have gM : Gr M H10 H11 := ⟨fun b o hb => by
    obtain ⟨h1, h2, h3⟩ := frz_some hb
    exact frz_of h1 (kp2 b o h2 (fun z => h1 (by rw [z, hM]; simp)) (fun z => h1 (by rw [z, hM]; simp))) h3, gr.live, gr.stay⟩
  have g11 : Gr M H H11 := (Gr.of e010).trans gM
  have x11 : Gr (M ++ X) H H11 := (Gr.of e010).trans gr
  refine s_retL (el_lst (ea_cons (ev_var rfl) ea_nil) (Nat.le_of_ble_eq_true rfl)) fun q H12 hq e12 h12 => ?_
  have g12 := g11.trans (Gr.of e12)
  have x12 := x11.trans (Gr.of e12)
  have keep : ∀ b, b ≠ sk → b ≠ se → ∀ o, H b = some o → H12 b = some o := fun b n1 n2 o hbo => e12 _ _ (kp2 b o (e010 _ _ hbo) n1 n2)
  refine hdone q M rl prs [pa, sk, se] H12 (g11.no hq) g12.ex (fun m hm => .inl hm) (tabs_gr hT g12) ⟨hM, nd, ⟨dx, fa, _, _, keep kk nks.1 nks.2.1 _ ho, ex_t x12.fz hf, pa, sk, se, rfl, rfl, rfl, hwl, ⟨⟨ro, fav, seen', hP'.fz e12, hS', hmk.ex x12.fz, ex_t x12.fz hfv⟩, pf, pof, psec⟩⟩, keep rl nks.2.2.1 nks.2.2.2 _ hr2, ?_, ?_, lx.gr g12⟩ h12
  · exact paired_mem hp fun b k hb' _ ⟨v0, v1, t1, t2, t3⟩ => ⟨v0, v1, keep b (npg b hb' sk (by simp)) (npg b hb' se (by simp)) _ t1, t2.ex x12.fz, t3.ex x12.fz⟩
  · exact ⟨ok.judges, fun z => absurd (ok.none_yet z).2 (fun z => by rw [hnow] at z; cases z), ok.few, ok.f1, ok.f2, ok.sheets⟩
end
end SkW

set_option Elab.async false
set_option linter.all false
set_option maxRecDepth 100000
set_option maxHeartbeats 4000000
namespace SkW
open PySem PySem.Spec PyProof.Rows L2 Evl LamX
section
variable {P : Program} {w : World} {K : PySem.W.Frag} {mg : Str → Option Value} {base : Heap} {a : Ad} {kc kp : Addr} {X : List Addr}
theorem all_and {α : Type} (f g : α → Bool) : ∀ l : List α, (l.all fun x => f x && g x) = (l.all f && l.all g)
  | [] => rfl
  | x :: l => by
    rw [List.all_cons, List.all_cons, List.all_cons, all_and f g l]
    cases f x <;> cases g x <;> cases l.all f <;> rfl
theorem q_setRaw {σ : L2.St} {H : Hp} {D : Ends} {tz : TS} {ta te : TE} {f : Str} (h : te σ H fun y H1 => ta σ H1 fun x H2 => ∃ a C dx fs, x = .ref a ∧ H2 a = some (.ins C dx fs) ∧ Cls K C ∧ NoAttr K C f ∧ fs.length < 1000 ∧ tz D σ (upd H2 a (.ins C dx (putF f y fs)))) : tSeq (sFld K ta te f) tz D σ H := h
theorem rows_refs {G : Hp} : ∀ {ys : List V} {rows : List (List Int)}, Paired (fun y (ns : List Int) => ∃ p, y = V.ref p ∧ G p = some (.lst (ns.map V.int))) ys rows → ∃ rs : List Addr, ys = rs.map V.ref ∧ Rows K G rs rows
  | _, [], .nil => ⟨[], rfl, .nil⟩
  | _, ns :: rows, .cons q t => by
    obtain ⟨x, rfl, hx⟩ := q
    obtain ⟨rs, e, h⟩ := rows_refs t
    exact ⟨x :: rs, by rw [e]; rfl, .cons (sq_of hx) h⟩
def sp_marks (a : Ad) (K : PySem.W.Frag) (kp : Addr) : Sp := fun vs H Q E => ∃ (X M : List Addr) (kk rl : Addr) (prs prog : List Addr) (s : Kg56.State) (q : Addr) (rs : List Addr) (x y z : List Int), vs = [.ref kk, .ref q] ∧ Asked a K kp X M H kk rl prs prog s ∧ SqL K H q (rs.map V.ref) ∧ Rows K H rs [x, y, z] ∧ x.length ≤ 1000 ∧ y.length ≤ 1000 ∧ z.length ≤ 1000 ∧
  EndsP a K kp X M H kk s (Kg56.spec s (.marks x y z)) Q E
theorem ok_Keeper_marks (T : Txt K mg a) : FnOk P w K mg base (L2.CX P w) 5 a.f_Keeper_marks a.d_Keeper_marks ["self", "rows"] (sp_marks a K kp) := by
  refine T.F_Keeper_marks.okX sc_Keeper_marks (fun vs H Q E h => ?_) (fun cdv A outer s H vs Q E hr h => ?_)
  · obtain ⟨_, _, _, _, _, _, _, _, _, _, _, _, rfl, _⟩ := h
    rfl
  refine ⟨_, (pss_cons (ps_expr (pe_meth0 (pv 0) T.C_Keeper T.M_Keeper_need_program (ok_Keeper_need_program T) (hr.mono (by decide)) T.b_Keeper_need_program .nil (passes_call (takes_of rfl rfl rfl rfl) fun _ _ _ _ h => h)))
    (pss_cons (ps_expr (pe_call (ok_need T) (hr.mono (by decide)) rfl T.g_need T.k_need T.b_need .nil (passes_call (takes_of rfl rfl rfl rfl) fun _ _ _ _ h => h) (by exact (pa_cons (pe_callB (cr_all rfl) rfl T.n_all (by decide +kernel) (by exact (pa_cons (pe_lc (own := [("row", 2)]) rfl sc_Keeper_marks.nd (pi_list (pv 1)) (blkOk_by (N := ["self", "rows", "row", "quarters"]) (sc := defScope s_Keeper_marks) (by decide +kernel)) (fun _ _ _ _ _ => (pg_name (i := 2) sc_Keeper_marks.nd rfl (by first | exact Or.inl rfl | exact Or.inr rfl))) (fun _ _ _ _ _ => pts_nil) (fun _ _ _ _ _ => (pe_cmpR op_eq (pe_callB (call_len_seqK (K := K) rfl) rfl T.n_len (by decide +kernel) (by exact (pa_cons (pv 2) pa_nil))) (pe_fldK (K := K) rfl (pv 0) rfl) (nomark _)))) pa_nil))) (pa_cons (pe_gint rfl T.i_NOT_SO) pa_nil)))))
    (pss_cons (ps_expr (pe_call (ok_need T) (hr.mono (by decide)) rfl T.g_need T.k_need T.b_need .nil (passes_call (takes_of rfl rfl rfl rfl) fun _ _ _ _ h => h) (by exact (pa_cons (pe_callB (cr_all rfl) rfl T.n_all (by decide +kernel) (by exact (pa_cons (pe_lc (own := [("row", 2)]) rfl sc_Keeper_marks.nd (pi_list (pv 1)) (blkOk_by (N := ["self", "rows", "row", "quarters"]) (sc := defScope s_Keeper_marks) (by decide +kernel)) (fun _ _ _ _ _ => (pg_name (i := 2) sc_Keeper_marks.nd rfl (by first | exact Or.inl rfl | exact Or.inr rfl))) (fun _ _ _ _ _ => pts_nil) (fun _ _ _ _ _ => (pe_callB (cr_allK (K := K) rfl rfl) rfl T.n_all (by decide +kernel) (by exact (pa_cons (pe_lc (own := [("quarters", 3)]) rfl sc_Keeper_marks.nd (pi_listK (K := K) rfl (pv 2)) (blkOk_by (by rfl)) (fun _ _ _ _ _ => (pg_name (i := 3) sc_Keeper_marks.nd rfl (by first | exact Or.inl rfl | exact Or.inr rfl))) (fun _ _ _ _ _ => pts_nil) (fun _ _ _ _ _ => (pe_chain op_le op_le pe_int (pv 3) (pe_gint rfl T.i_MOST_QUARTERS)))) pa_nil))))) pa_nil))) (pa_cons (pe_gint rfl T.i_NOT_SO) pa_nil)))))
    (pss_cons (ps_fld (pe_fld (pv 0) rfl) (pe_lc (own := [("row", 2)]) rfl sc_Keeper_marks.nd (pi_list (pv 1)) (blkOk_by (N := ["self", "rows", "row", "quarters"]) (sc := defScope s_Keeper_marks) (by decide +kernel)) (fun _ _ _ _ _ => (pg_name (i := 2) sc_Keeper_marks.nd rfl (by first | exact Or.inl rfl | exact Or.inr rfl))) (fun _ _ _ _ _ => pts_nil) (fun _ _ _ _ _ => (pe_callTy (call_list_ofK (K := K) rfl) rfl T.n_list (by decide +kernel) (by exact (pa_cons (pv 2) pa_nil))))) rfl)
    (pss_one (ps_ret (pe_lst (pa_cons pe_int pa_nil)))))))), ?_⟩

  obtain ⟨X, M, kk, rl, prs, prog, s, q, rs, x, y, z, rfl, ⟨hT, hK⟩, hq, hrs, hxl, hyl, hzl, hE⟩ := h
  have alo := hK.alive
  have al := hK.aliveX
  obtain ⟨hM, nd, ⟨dx, fa, nv, pv, ho, hf, hn⟩, hr2, hp, ok, lx⟩ := hK
  obtain ⟨nkr, np, ng, ndp, ndg, npg⟩ := nd_parts (hM ▸ nd)
  cases hnow : s.now with
  | none =>
    rw [hnow] at hn
    have hspec : Kg56.spec s (.marks x y z) = (s, Kg56.num (-2)) := by simp only [Kg56.spec, Kg56.onProgram, hnow]
    exact q_needM (b := false) (ev_var rfl) ho rfl ea_nil (fun H1 e1 Q1 q1 => ⟨kk, dx, _, _, _, _, pv, rfl, e1 _ _ ho, fun z => absurd hn.1 z, fun _ => (hE.refuse (-2) hspec (by decide)).go e1⟩) fun hb => by cases hb
  | some xx =>
  obtain ⟨wi, p⟩ := xx
  rw [hnow] at hn
  obtain ⟨pa, sk, se, rfl, rfl, rfl, hwl, ⟨⟨ro, fav, seen, hP, hS, hmk, hfv⟩, pf, pof, psec⟩⟩ := hn
  have hspec : Kg56.spec s (.marks x y z) = if (Kg56.quarters s x && (Kg56.quarters s y && Kg56.quarters s z)) = false then (s, Kg56.num (-1)) else ({ s with now := some (wi, { p with marks := [x, y, z] }) }, Kg56.num 0) := by
    simp only [Kg56.spec, Kg56.onProgram, hnow]
  have hall : (Kg56.quarters s x && (Kg56.quarters s y && Kg56.quarters s z)) = (([x, y, z].all fun l => l.length == s.judges) && ([x, y, z].all fun l => l.all fun q => Kg56.within q 1 40)) := by
    rw [← all_and]
    show _ = (Kg56.quarters s x && (Kg56.quarters s y && (Kg56.quarters s z && true)))
    rw [Bool.and_true]
  rw [hall] at hspec
  have hlen3 : ∀ l ∈ [x, y, z], l.length ≤ 1000 := fun l hl => by
    simp only [List.mem_cons, List.not_mem_nil, or_false] at hl
    rcases hl with h | h | h <;> rw [h] <;> assumption
  generalize hL : [x, y, z] = rows at hspec hrs hlen3
  have hrl : rows.length = 3 := by rw [← hL]; rfl
  have hrsl : rs.length = 3 := by rw [Paired.length hrs, hrl]
  have bad : ((rows.all fun l => l.length == s.judges) && (rows.all fun l => l.all fun q => Kg56.within q 1 40)) = false → Ref a (-1) H E := fun hb => hE.refuse (-1) (by rw [hspec, if_pos hb]) (by decide)
  refine q_needM (b := true) (ev_var rfl) ho rfl ea_nil (fun H1 e1 Q1 q1 => ⟨kk, dx, _, _, _, _, _, rfl, e1 _ _ ho, fun _ H2 e2 => q1 rfl H2 e2, fun z => by cases z⟩) fun _ H1 e1 => ?_
  refine q_need (b := rows.all fun l => l.length == s.judges) (ev_is (ev_allN (bs := rows.map fun (l : List Int) => l.length == s.judges) (el_map (ys := (rows.map fun (l : List Int) => l.length == s.judges).map V.bl) (ev_var rfl) (ex_l e1 hq) (by rw [List.length_map]; omega) (fun _ => rfl) (by simp [hrl, hrsl]) fun i v b H2 e2 hv hb => ?_)) (by rw [List.all_map]; rfl)) ev_c (fun hb => (bad (by rw [hb]; rfl)).go e1) fun hb1 H2 e2 => ?_
  · obtain ⟨r, hr3, rfl⟩ := at_map hv
    obtain ⟨ns, hn, hqn⟩ := paired_get hrs hr3
    rw [List.getElem?_map, List.getElem?_map, hn] at hb
    cases hb
    exact ev_is (ev_op (ev_cb (ea_cons (ev_var rfl) ea_nil) (rc_len (.inl (ex_l (e1.trans e2) hqn)))) (ev_fld (ev_var rfl) ((e1.trans e2) _ _ ho) T.C_Keeper T.n_Keeper_judges rfl) (rv_eq rfl)) (by rw [List.length_map, ← dec_ints (i := ns.length) (j := s.judges) rfl]; rfl)
  have e02 := e1.trans e2
  refine q_need (b := rows.all fun l => l.all fun q => Kg56.within q 1 40) (ev_is (ev_allN (bs := rows.map fun (l : List Int) => l.all fun q => Kg56.within q 1 40) (el_map (ys := (rows.map fun (l : List Int) => l.all fun q => Kg56.within q 1 40).map V.bl) (ev_var rfl) (ex_l e02 hq) (by rw [List.length_map]; omega) (fun _ => rfl) (by simp [hrl, hrsl]) fun i v b H3 e3 hv hb => ?_)) (by rw [List.all_map]; rfl)) ev_c (fun hb => (bad (by rw [hb, Bool.and_false])).go e02) fun hb2 H3 e3 => ?_
  · obtain ⟨r, hr3, rfl⟩ := at_map hv
    obtain ⟨ns, hn, hqn⟩ := paired_get hrs hr3
    have hns := hlen3 ns (List.mem_of_getElem? hn)
    rw [List.getElem?_map, List.getElem?_map, hn] at hb
    cases hb
    refine ev_is (ev_allN (bs := ns.map fun (q : Int) => Kg56.within q 1 40) (el_map (ys := (ns.map fun (q : Int) => Kg56.within q 1 40).map V.bl) (ev_var rfl) (ex_l (e02.trans e3) hqn) (by rw [List.length_map]; omega) (fun _ => rfl) (by simp) fun i v b H4 e4 hv hb => ?_)) (by rw [List.all_map]; rfl)
    obtain ⟨u, hu, rfl⟩ := at_map hv
    rw [List.getElem?_map, List.getElem?_map, hu] at hb
    cases hb
    exact ev_is (ev_chain ev_c (ev_var rfl) rv_I0 (fun _ => ev_c) fun _ => rv_I0) rfl
  rw [if_neg (by rw [hb1, hb2]; decide)] at hspec
  have hdone := hE.done
  rw [hspec] at hdone
  have e03 := e02.trans e3
  have jn : 3 ≤ s.judges ∧ s.judges ≤ 9 := by
    rcases ok.judges with z | z
    · have := (ok.none_yet z).2
      rw [hnow] at this; cases this
    · exact z
  have rok : RowsOk rows := ⟨by omega, fun ns hm => by
    have := List.all_eq_true.mp hb1 ns hm
    have : ns.length = s.judges := by simpa using this
    omega⟩
  refine q_setRaw (lc_rel (fun i y G => ∃ ns, rows[i]? = some ns ∧ ∃ p', y = V.ref p' ∧ G p' = some (.lst (ns.map V.int))) (fun i y G1 G2 e ⟨ns, h1, p', h2, h3⟩ => ⟨ns, h1, p', h2, e _ _ h3⟩) (ev_var rfl) (ex_l e03 hq) (by rw [List.length_map]; omega) (fun _ => rfl) (fun i v H4 e4 hv Q1 k1 => ?_) fun Dl ys H4 hD e4 h4 hl4 hR => ?_)
  · obtain ⟨r, hr3, rfl⟩ := at_map hv
    obtain ⟨ns, hn, hqn⟩ := paired_get hrs hr3
    exact el_cb (ea_cons (ev_var rfl) ea_nil) (rcl_list (.inl (ex_l (e03.trans e4) hqn))) H4 (Ex.refl _) _ fun p' H5 hp' e5 h5 => k1 _ _ e5 ⟨ns, hn, p', rfl, by rw [nw_of hp']; exact h5⟩
  have e04 := e03.trans e4
  have hDH : H Dl = none := fresh_back e03 hD
  have hP4 := hP.fz e04
  obtain ⟨dxp, hpa⟩ := hP4.obj
  have hyl : ys.length = rows.length := by rw [hl4, List.length_map, hrsl, hrl]
  have hpair : Paired (fun y (ns : List Int) => ∃ p', y = V.ref p' ∧ frz (M ++ X) H4 p' = some (.lst (ns.map V.int))) ys rows := paired_of hyl fun i y' ns h1 h2 => by
    obtain ⟨ns', h3, p', h5, h6⟩ := hR i y' h1
    rw [h2] at h3
    cases h3
    obtain ⟨h7, h8⟩ := nw_some h6
    exact ⟨p', h5, frz_of ((al.gr (Gr.of (M := M) e03)).new h7) h8⟩
  obtain ⟨rs', rfl, hrows⟩ := rows_refs (K := K) hpair
  refine ev_fld (ev_var rfl) (e04 _ _ ho) T.C_Keeper T.n_Keeper_program rfl H4 (Ex.refl _) _ fun H5 e5 => ⟨pa, _, dxp, _, rfl, e5 _ _ hpa, T.C_Program, T.n_Program_rows, (by decide : 5 < 1000), ?_⟩
  have e05 := e04.trans e5
  have paM : pa ∈ M := by rw [hM]; simp
  have paX : pa ∈ M ++ X := List.mem_append_left _ paM
  obtain ⟨n1, n2⟩ := List.nodup_cons.mp ndg
  have nps : sk ≠ pa ∧ se ≠ pa := ⟨fun z => n1 (by rw [← z]; simp), fun z => n1 (by rw [← z]; simp)⟩
  refine s_retL (el_lst (ea_cons ev_c ea_nil) (Nat.le_of_ble_eq_true rfl)) fun q' H6 hq' e6 h6 => ?_
  have g6 : Gr M H H6 := ((Gr.of e05).upd paM (e5 _ _ hpa)).trans (Gr.of e6)
  have x6 : Gr (M ++ X) H H6 := ((Gr.of e05).upd paX (e5 _ _ hpa)).trans (Gr.of e6)
  have keep : ∀ b, b ≠ pa → ∀ o, H b = some o → H6 b = some o := fun b n1 o hbo => e6 _ _ (by rw [upd_ne n1]; exact e05 _ _ hbo)
  have g46 : Ex (frz (M ++ X) H4) (frz (M ++ X) H6) := ((frz_mono e5).trans (frz_upd paX)).trans (frz_mono e6)
  have hD6 : frz (M ++ X) H6 Dl = some (.lst (rs'.map V.ref)) := g46 _ _ (frz_of (al.new hDH) h4)
  obtain ⟨_, _, ⟨zs, hz1, hz2⟩, ⟨ss, hs1, hs2⟩, few, less, apart⟩ := hP
  refine hdone q' M rl prs [pa, sk, se] H6 (((Gr.of e05).upd paM (e5 _ _ hpa)).no hq') g6.ex (fun m hm => .inl hm) (tabs_gr hT g6) ⟨hM, nd, ⟨dx, fa, _, _, keep kk (Ne.symm (ng pa (by simp)).1) _ ho, ex_t x6.fz hf, pa, sk, se, rfl, rfl, rfl, hwl, ⟨⟨.ref Dl, fav, seen, ⟨frz_le, ⟨dxp, e6 _ _ upd_same⟩, ⟨zs, keep sk nps.1 _ hz1, Paired.mapP hz2 fun _ _ z => z.ex x6.fz⟩, ⟨ss, keep se nps.2 _ hs1, Paired.mapP hs2 fun _ _ z => z.ex x6.fz⟩, few, less, apart⟩, hS, .inr ⟨by rw [← hL]; simp, Dl, rfl, ⟨rs', sq_of hD6, ?_⟩, ?_⟩, ex_t x6.fz hfv⟩, pf, pof, psec⟩⟩, keep rl (Ne.symm (ng pa (by simp)).2) _ hr2, ?_, ?_, lx.gr g6⟩ h6
  · exact hrows.ex g46
  · exact rok
  · exact paired_mem hp fun b k hb' _ ⟨v0, v1, t1, t2, t3⟩ => ⟨v0, v1, keep b (npg b hb' pa (by simp)) _ t1, t2.ex x6.fz, t3.ex x6.fz⟩
  · exact ⟨ok.judges, fun z => absurd (ok.none_yet z).2 (fun z => by rw [hnow] at z; cases z), ok.few, ok.f1, ok.f2, ok.sheets⟩
def sp_faults (a : Ad) (K : PySem.W.Frag) (kp : Addr) : Sp := fun vs H Q E => ∃ (X M : List Addr) (kk rl : Addr) (prs prog : List Addr) (s : Kg56.State) (x y z : Int), vs = [.ref kk, .int x, .int y, .int z] ∧ Asked a K kp X M H kk rl prs prog s ∧ EndsP a K kp X M H kk s (Kg56.spec s (.faults x y z)) Q E
theorem ok_Keeper_faults (T : Txt K mg a) : FnOk P w K mg base (L2.CX P w) 5 a.f_Keeper_faults a.d_Keeper_faults ["self", "falls", "others", "seconds"] (sp_faults a K kp) := by
  refine T.F_Keeper_faults.okX sc_Keeper_faults (fun vs H Q E h => ?_) (fun cdv A outer s H vs Q E hr h => ?_)
  · obtain ⟨_, _, _, _, _, _, _, _, _, _, rfl, _⟩ := h
    rfl
  refine ⟨_, (pss_cons (ps_expr (pe_meth0 (pv 0) T.C_Keeper T.M_Keeper_need_program (ok_Keeper_need_program T) (hr.mono (by decide)) T.b_Keeper_need_program .nil (passes_call (takes_of rfl rfl rfl rfl) fun _ _ _ _ h => h)))
    (pss_cons (ps_expr (pe_call (ok_need T) (hr.mono (by decide)) rfl T.g_need T.k_need T.b_need .nil (passes_call (takes_of rfl rfl rfl rfl) fun _ _ _ _ h => h) (by exact (pa_cons (pe_and (pe_chain op_le op_le pe_int (pv 1) (pe_gint rfl T.i_MOST_FALLS)) (pe_and (pe_chain op_le op_le pe_int (pv 2) (pe_gint rfl T.i_MOST_FALLS)) (pe_one (pe_chain op_le op_le pe_int (pv 3) (pe_gint rfl T.i_MOST_SECONDS))))) (pa_cons (pe_gint rfl T.i_NOT_SO) pa_nil)))))
    (pss_cons (ps_fld (pe_fld (pv 0) rfl) (pe_tup (pa_cons (pv 1) (pa_cons (pv 2) (pa_cons (pv 3) pa_nil)))) rfl)
    (pss_one (ps_ret (pe_lst (pa_cons pe_int pa_nil))))))), ?_⟩

  obtain ⟨X, M, kk, rl, prs, prog, s, x, y, z, rfl, ⟨hT, hK⟩, hE⟩ := h
  have alo := hK.alive
  have al := hK.aliveX
  obtain ⟨hM, nd, ⟨dx, fa, nv, pv, ho, hf, hn⟩, hr2, hp, ok, lx⟩ := hK
  obtain ⟨nkr, np, ng, ndp, ndg, npg⟩ := nd_parts (hM ▸ nd)
  cases hnow : s.now with
  | none =>
    rw [hnow] at hn
    have hspec : Kg56.spec s (.faults x y z) = (s, Kg56.num (-2)) := by simp only [Kg56.spec, Kg56.onProgram, hnow]
    exact q_needM (b := false) (ev_var rfl) ho rfl ea_nil (fun H1 e1 Q1 q1 => ⟨kk, dx, _, _, _, _, pv, rfl, e1 _ _ ho, fun z => absurd hn.1 z, fun _ => (hE.refuse (-2) hspec (by decide)).go e1⟩) fun hb => by cases hb
  | some xx =>
  obtain ⟨wi, p⟩ := xx
  rw [hnow] at hn
  obtain ⟨pa, sk, se, rfl, rfl, rfl, hwl, ⟨⟨ro, fav, seen, hP, hS, hmk, hfv⟩, pf, pof, psec⟩⟩ := hn
  have hspec : Kg56.spec s (.faults x y z) = if (Kg56.within x 0 20 && (Kg56.within y 0 20 && Kg56.within z 0 300)) = false then (s, Kg56.num (-1)) else ({ s with now := some (wi, { p with falls := x.toNat, off := y.toNat, seconds := z.toNat }) }, Kg56.num 0) := by
    simp only [Kg56.spec, Kg56.onProgram, hnow]
  refine q_needM (b := true) (ev_var rfl) ho rfl ea_nil (fun H1 e1 Q1 q1 => ⟨kk, dx, _, _, _, _, _, rfl, e1 _ _ ho, fun _ H2 e2 => q1 rfl H2 e2, fun z => by cases z⟩) fun _ H1 e1 => ?_
  refine q_need (b := Kg56.within x 0 20 && (Kg56.within y 0 20 && Kg56.within z 0 300)) (ev_andV (ev_chain ev_c (ev_var rfl) rv_I0 (fun _ => ev_c) fun _ => rv_I0) fun _ => ev_andV (ev_chain ev_c (ev_var rfl) rv_I0 (fun _ => ev_c) fun _ => rv_I0) fun _ => ev_chain ev_c (ev_var rfl) rv_I0 (fun _ => ev_c) fun _ => rv_I0) ev_c (fun hb => (hE.refuse (-1) (by rw [hspec, if_pos hb]) (by decide)).go e1) fun hb H2 e2 => ?_
  rw [if_neg (by rw [hb]; decide)] at hspec
  have hdone := hE.done
  rw [hspec] at hdone
  have e02 := e1.trans e2
  have hP2 := hP.fz e02
  obtain ⟨dxp, hpa⟩ := hP2.obj
  have hxyz : (0 ≤ x ∧ x ≤ 20) ∧ (0 ≤ y ∧ y ≤ 20) ∧ (0 ≤ z ∧ z ≤ 300) := by unfold Kg56.within at hb; simpa using hb
  refine q_setFU (eu_tup (ea_cons (ev_var rfl) (ea_cons (ev_var rfl) (ea_cons (ev_var rfl) ea_nil))) (Nat.le_of_ble_eq_true rfl)) (ev_fld (ev_var rfl) (e02 _ _ ho) T.C_Keeper T.n_Keeper_program rfl) hpa T.C_Program T.n_Program_told_faults (by decide : 5 < 1000) fun fv' H3 hfv' e3 h3 => ?_
  have e03 := e02.trans e3
  have fvH : H fv' = none := fresh_back e02 hfv'
  have paM : pa ∈ M := by rw [hM]; simp
  have paX : pa ∈ M ++ X := List.mem_append_left _ paM
  obtain ⟨n1, n2⟩ := List.nodup_cons.mp ndg
  have nps : sk ≠ pa ∧ se ≠ pa := ⟨fun z => n1 (by rw [← z]; simp), fun z => n1 (by rw [← z]; simp)⟩
  refine s_retL (el_lst (ea_cons ev_c ea_nil) (Nat.le_of_ble_eq_true rfl)) fun q' H6 hq' e6 h6 => ?_
  have g6 : Gr M H H6 := ((Gr.of e03).upd paM (e3 _ _ hpa)).trans (Gr.of e6)
  have x6 : Gr (M ++ X) H H6 := ((Gr.of e03).upd paX (e3 _ _ hpa)).trans (Gr.of e6)
  have keep : ∀ b, b ≠ pa → ∀ o, H b = some o → H6 b = some o := fun b n1 o hbo => e6 _ _ (by rw [upd_ne n1]; exact e03 _ _ hbo)
  obtain ⟨_, _, ⟨zs, hz1, hz2⟩, ⟨ss, hs1, hs2⟩, few, less, apart⟩ := hP
  have hfv6 : SqT K (frz (M ++ X) H6) fv' [.int ((x.toNat : Nat) : Int), .int ((y.toNat : Nat) : Int), .int ((z.toNat : Nat) : Int)] := by
    rw [show ((x.toNat : Nat) : Int) = x by omega, show ((y.toNat : Nat) : Int) = y by omega, show ((z.toNat : Nat) : Int) = z by omega]
    exact st_of (frz_of (al.new fvH) (e6 _ _ (by rw [upd_ne (show fv' ≠ pa from fun c => al.new fvH (by rw [c]; exact paX))]; exact h3)))
  refine hdone q' M rl prs [pa, sk, se] H6 (((Gr.of e03).upd paM (e3 _ _ hpa)).no hq') g6.ex (fun m hm => .inl hm) (tabs_gr hT g6) ⟨hM, nd, ⟨dx, fa, _, _, keep kk (Ne.symm (ng pa (by simp)).1) _ ho, ex_t x6.fz hf, pa, sk, se, rfl, rfl, rfl, hwl, ⟨⟨ro, fv', seen, ⟨frz_le, ⟨dxp, e6 _ _ upd_same⟩, ⟨zs, keep sk nps.1 _ hz1, Paired.mapP hz2 fun _ _ z => z.ex x6.fz⟩, ⟨ss, keep se nps.2 _ hs1, Paired.mapP hs2 fun _ _ z => z.ex x6.fz⟩, few, less, apart⟩, hS, hmk.ex x6.fz, hfv6⟩, ?_, ?_, ?_⟩⟩, keep rl (Ne.symm (ng pa (by simp)).2) _ hr2, ?_, ?_, lx.gr g6⟩ h6
  · show x.toNat ≤ 1000; omega
  · show y.toNat ≤ 1000; omega
  · show z.toNat ≤ 1000; omega
  · exact paired_mem hp fun b k hb' _ ⟨v0, v1, t1, t2, t3⟩ => ⟨v0, v1, keep b (npg b hb' pa (by simp)) _ t1, t2.ex x6.fz, t3.ex x6.fz⟩
  · exact ⟨ok.judges, fun z => absurd (ok.none_yet z).2 (fun z => by rw [hnow] at z; cases z), ok.few, ok.f1, ok.f2, ok.sheets⟩
end
end SkW

set_option Elab.async false
set_option linter.all false
set_option maxRecDepth 100000
set_option maxHeartbeats 4000000
namespace SkW
open PySem PySem.Spec PyProof.Rows L2 Evl LamX
section
variable {P : Program} {w : World} {K : PySem.W.Frag} {mg : Str → Option Value} {base : Heap} {a : Ad} {kc kp : Addr} {X : List Addr}
theorem Kp.move {M X' : List Addr} {H H' : Hp} {kk rl : Addr} {prs prog : List Addr} {s : Kg56.State} (h : Kp a K X M H kk rl prs prog s) (e : Ex (frz (M ++ X) H) (frz (M ++ X') H')) (keep : ∀ b ∈ M, H' b = H b) (lx' : Alive X' H') : Kp a K X' M H' kk rl prs prog s := by
  obtain ⟨hM, nd, ⟨dx, fa, nv, pv, ho, hf, hn⟩, hr, hp, ok, _⟩ := h
  refine ⟨hM, nd, ⟨dx, fa, nv, pv, by rw [keep kk (by rw [hM]; simp)]; exact ho, ex_t e hf, hn.move (Nat.le_refl _) e frz_le fun b hb => keep b (by rw [hM]; simp [hb])⟩, by rw [keep rl (by rw [hM]; simp)]; exact hr, paired_mem hp fun b k hb _ ⟨v0, v1, t1, t2, t3⟩ => ⟨v0, v1, by rw [keep b (by rw [hM]; simp [hb])]; exact t1, t2.ex e, t3.ex e⟩, ok, lx'⟩
theorem frz_exN {M : List Addr} {H H' : Hp} (e : ExtN H H') : Ex (frz M H) (frz M H') := fun b o h => by
  obtain ⟨h1, h2, h3⟩ := frz_some h
  exact frz_of h1 (e _ _ h2 fun ps z => by rw [z] at h3; cases h3) h3
theorem Kp.exN {M : List Addr} {H H' : Hp} {kk rl : Addr} {prs prog : List Addr} {s : Kg56.State} (h : Kp a K X M H kk rl prs prog s) (e : ExtN H H') : Kp a K X M H' kk rl prs prog s :=
  h.move (frz_exN e) (fun b hb => by
    obtain ⟨o, h1, h2⟩ := h.alive b hb
    rw [h1]
    exact e _ _ h1 fun ps z => by rw [z] at h2; cases h2)
  (fun m hm => by
    obtain ⟨o, h1, h2⟩ := h.lx m hm
    exact ⟨o, e _ _ h1 (fun ps z => (by rw [z] at h2; cases h2)), h2⟩)
theorem sheet_now {G H : Hp} {pa sk se : Addr} {ro fav : V} {seen : Sk.Seen} {p : Kg56.Program} (hP : ProgAt a K G H pa sk se ro fav p.free (elsNow p.free p.elements) seen) : p.sheet = sheetOf p.free (elsNow p.free p.elements) := by
  obtain ⟨zs, _, hz⟩ := hP.sks
  rw [Sk.sheet_is p fun x hx => ?_]
  · rfl
  · obtain ⟨z, _, _, _, _, _, _, hv⟩ := paired_right hz hx
    exact hv
theorem score_now {p : Kg56.Program} {factor : Nat} (h : p.sheet = sheetOf p.free (elsNow p.free p.elements)) : scoreOfV p.free (elsNow p.free p.elements) p.marks factor p.falls p.off p.seconds = ⟨p.elementsScore, p.components factor, p.cost⟩ := by
  unfold scoreOfV elemsSum Kg56.Program.elementsScore
  rw [h, ← Sk.sum_foldl]
  rfl
theorem set_pair (v0 v1 r : V) (free : Bool) : ([v0, v1] : List V).set (if free then 1 else 0) r = if free then [v0, r] else [r, v1] := by cases free <;> rfl
def sp_end (a : Ad) (K : PySem.W.Frag) (kp : Addr) : Sp := fun vs H Q E => ∃ (X M : List Addr) (kk rl : Addr) (prs prog : List Addr) (s : Kg56.State), vs = [.ref kk] ∧ Asked a K kp X M H kk rl prs prog s ∧ EndsP a K kp X M H kk s (Kg56.spec s .end_) Q E
theorem ok_Keeper_end (T : Txt K mg a) : FnOk P w K mg base (L2.CX P w) 9 a.f_Keeper_end a.d_Keeper_end ["self"] (sp_end a K kp) := by
  refine T.F_Keeper_end.okX sc_Keeper_end (fun vs H Q E h => ?_) (fun cdv A outer s H vs Q E hr h => ?_)
  · obtain ⟨_, _, _, _, _, _, _, rfl, _⟩ := h
    rfl
  refine ⟨_, (pss_cons (ps_expr (pe_meth0 (pv 0) T.C_Keeper T.M_Keeper_need_program (ok_Keeper_need_program T) (hr.mono (by decide)) T.b_Keeper_need_program .nil (passes_call (takes_of rfl rfl rfl rfl) fun _ _ _ _ h => h)))
    (pss_cons (ps_expr (pe_call (ok_need T) (hr.mono (by decide)) rfl T.g_need T.k_need T.b_need .nil (passes_call (takes_of rfl rfl rfl rfl) fun _ _ _ _ h => h) (by exact (pa_cons (pe_cmpR op_notN (pe_fld (pe_fld (pv 0) rfl) rfl) pe_non (nomark _)) (pa_cons (pe_gint rfl T.i_WRONG) pa_nil)))))
    (pss_cons (ps_set (i := 1) sc_Keeper_end.nd rfl (Or.inl rfl) (pe_fld (pe_fld (pv 0) rfl) rfl))
    (pss_cons (ps_set (i := 2) sc_Keeper_end.nd rfl (Or.inl rfl) (pe_make T.mk_Result (ok_Result___init__ T) (hr.mono (by decide)) rfl T.gC_Result T.b_Result___init__ .nil pass0 (by exact (pa_cons (pe_fld (pv 0) rfl) (pa_cons (pe_ix ix_tup (pe_fld (pv 0) rfl) (pv 1) (fun _ _ => rfl)) pa_nil)))))
    (pss_cons (ps_asg (pv 2) (pg_sub (pe_ix ix_list (pe_fld (pv 0) rfl) (pe_fld (pv 0) rfl) (fun _ _ => rfl)) (pv 1) set_list))
    (pss_cons (ps_fld (pv 0) pe_non rfl)
    (pss_one (ps_ret (pe_lst (pa_cons (pe_fld (pv 2) rfl) (pa_cons (pe_fld (pv 2) rfl) (pa_cons (pe_fld (pv 2) rfl) (pa_cons (pe_fld (pv 2) rfl) pa_nil))))))))))))), ?_⟩

  obtain ⟨X, M, kk, rl, prs, prog, s, rfl, ⟨hT, hK⟩, hE⟩ := h
  have alo := hK.alive
  have al := hK.aliveX
  have hlen := hK.pair
  obtain ⟨hM, nd, ⟨dx, fa, nv, pv, ho, hf, hn⟩, hr2, hp, ok, lx⟩ := hK
  have kM : kk ∈ M := by rw [hM]; simp
  obtain ⟨nkr, np, ng, ndp, ndg, npg⟩ := nd_parts (hM ▸ nd)
  cases hnow : s.now with
  | none =>
    rw [hnow] at hn
    have hspec : Kg56.spec s .end_ = (s, Kg56.num (-2)) := by simp only [Kg56.spec, Kg56.onProgram, hnow]
    exact q_needM (b := false) (ev_var rfl) ho rfl ea_nil (fun H1 e1 Q1 q1 => ⟨kk, dx, _, _, _, _, pv, rfl, e1 _ _ ho, fun z => absurd hn.1 z, fun _ => (hE.refuse (-2) hspec (by decide)).go e1⟩) fun hb => by cases hb
  | some xx =>
  obtain ⟨wi, p⟩ := xx
  rw [hnow] at hn
  obtain ⟨pa, sk, se, rfl, rfl, rfl, hwl, ⟨⟨ro, fav, seen, hP, hS, hmk, hfv⟩, pf, pof, psec⟩⟩ := hn
  have hwl : wi < s.skaters.length := hwl
  have hsheet := sheet_now hP
  have hspec : Kg56.spec s .end_ = if p.marks = [] then (s, Kg56.num (-4)) else
      (Kg56.setSkater s wi p ⟨p.elementsScore, p.components (if p.free = true then s.factors.2 else s.factors.1), p.cost⟩, ⟨Kg56.Score.all ⟨p.elementsScore, p.components (if p.free = true then s.factors.2 else s.factors.1), p.cost⟩, [p.elementsScore, p.components (if p.free = true then s.factors.2 else s.factors.1), (p.cost : Int)]⟩) := by
    simp only [Kg56.spec, Kg56.onProgram, hnow]
  obtain ⟨dxp, hpa⟩ := hP.obj
  refine q_needM (b := true) (ev_var rfl) ho rfl ea_nil (fun H1 e1 Q1 q1 => ⟨kk, dx, _, _, _, _, _, rfl, e1 _ _ ho, fun _ H2 e2 => q1 rfl H2 e2, fun z => by cases z⟩) fun _ H1 e1 => ?_
  refine q_need (b := !decide (ro = .non)) (ev_op (ev_fld (ev_fld (ev_var rfl) (e1 _ _ ho) T.C_Keeper T.n_Keeper_program rfl) (e1 _ _ hpa) T.C_Program T.n_Program_rows rfl) ev_c rv_notN) ev_c (fun hb => (hE.refuse (-4) (by
    rw [hspec, if_pos]
    rcases hmk with ⟨z, _⟩ | ⟨_, rr, z, _⟩
    · exact z
    · rw [z] at hb; cases hb) (by decide)).go e1) fun hb H2 e2 => ?_
  have hmk2 : p.marks ≠ [] ∧ ∃ rr, ro = .ref rr ∧ RowsAt K (frz (M ++ X) H) rr p.marks ∧ RowsOk p.marks := by
    rcases hmk with ⟨_, z⟩ | z
    · rw [z] at hb; cases hb
    · exact z
  obtain ⟨hne, rr, rfl, hrows, hrok⟩ := hmk2
  rw [if_neg hne] at hspec
  have e02 := e1.trans e2
  refine q_asg (ev_fld (ev_fld (ev_var rfl) (e02 _ _ ho) T.C_Keeper T.n_Keeper_program rfl) (e02 _ _ hpa) T.C_Program T.n_Program_free rfl) fun H3 e3 => ?_
  have e03 := e02.trans e3
  refine q_asgX (args_cons (ev_fld (ev_var rfl) (e03 _ _ ho) T.C_Keeper T.n_Keeper_program rfl) fun H4 e4 => args_cons (v := .int ((if p.free = true then s.factors.2 else s.factors.1 : Nat) : Int)) (ev_op (ev_fld (ev_var rfl) ((e03.trans e4) _ _ ho) T.C_Keeper T.n_Keeper_factors rfl) (ev_var rfl) (rv_ixT (ex_t (frz_le.trans (e03.trans e4)) hf) (by rw [at_free]; cases p.free <;> rfl))) fun H5 e5 => ?_)
  show ∀ r dr, _ → _ → _ → _
  intro r dr nr nd' ne
  have e35 := e4.trans e5
  have e05 := e03.trans e35
  have hnb : H r = none := fresh_back e05 nr
  have emk : Ex H5 (upd (upd H5 dr (.own r)) r (.ins a.c_Result dr [])) := (Ex.new nd').trans (Ex.new (by rw [upd_ne (Ne.symm ne)]; exact nr))
  have hPr := hP.ex (e05.trans emk)
  have hsc := score_now (factor := if p.free = true then s.factors.2 else s.factors.1) hsheet
  refine ⟨r, dr, pa, sk, se, rr, fav, p.free, elsNow p.free p.elements, seen, frz (M ++ X) H, p.marks, (if p.free = true then s.factors.2 else s.factors.1), p.falls, p.off, p.seconds, rfl, upd_same, ?_, hPr, hrows, hrok, hfv, pf, pof, psec, ?_, fun q H6 hq hr6 hps but => ⟨rfl, ?_⟩⟩
  · cases c : frz (M ++ X) H r with
    | none => rfl
    | some o => have := (frz_some c).2.1; rw [hnb] at this; cases this
  · cases p.free
    · exact ok.f1
    · exact ok.f2
  rw [hsc] at hr6
  have e56 : Ex H5 H6 := fun b o hb => but b o (emk b o hb) (ne_of_none hb nr)
  have e06 := e05.trans e56
  obtain ⟨k0, hk0⟩ : ∃ k0, s.skaters[wi]? = some k0 := ⟨_, List.getElem?_eq_getElem hwl⟩
  obtain ⟨pr, hpr⟩ : ∃ pr, prs[wi]? = some pr := ⟨_, List.getElem?_eq_getElem (by omega)⟩
  obtain ⟨k1, hk1, v0, v1, hpl, hv0, hv1⟩ := paired_get hp hpr
  rw [hk0] at hk1
  cases hk1
  have prM : pr ∈ M := by rw [hM]; simp [List.mem_of_getElem? hpr]
  have prP : pr ∈ prs := List.mem_of_getElem? hpr
  refine q_setL (j := if p.free then 1 else 0) (e06 _ _ hpl) (ev_var rfl) (ev_op (ev_fld (ev_var rfl) (e06 _ _ ho) T.C_Keeper T.n_Keeper_results rfl) (ev_fld (ev_var rfl) (e06 _ _ ho) T.C_Keeper T.n_Keeper_skater_now rfl) (rv_ixL (sq_of (e06 _ _ hr2)) (atI_nat (by rw [List.getElem?_map, hpr]; rfl)))) (ev_var rfl) (by show _ < 2; split <;> omega) fun H7 e7 => ?_
  have e07 := e06.trans e7
  have kpr : kk ≠ pr := Ne.symm (np pr prP).1
  refine q_setF ev_c (ev_var rfl) ((upd_ne kpr).trans (e07 _ _ ho)) T.C_Keeper T.n_Keeper_program (by decide : 5 < 1000) fun H8 e8 => ?_
  have rM : r ∉ M := alo.new hnb
  have rpr : r ≠ pr := fun z => rM (z ▸ prM)
  have rkk : r ≠ kk := fun z => rM (z ▸ kM)
  have hr9 : upd H8 kk (.ins a.c_Keeper dx (putF "program" .non (F_Keeper (.int (s.judges : Nat)) (.ref fa) (.ref rl) (.int (wi : Nat)) (.ref pa)))) r = some (.ins a.c_Result dr (ResF q ⟨p.elementsScore, p.components (if p.free = true then s.factors.2 else s.factors.1), p.cost⟩)) := by
    rw [upd_ne rkk]
    exact e8 _ _ (by rw [upd_ne rpr]; exact e7 _ _ hr6)
  refine s_retL (el_lst (ea_cons (ev_fld (ev_var rfl) hr9 T.C_Result T.n_Result_score rfl) (ea_cons (ev_fld (ev_var rfl) hr9 T.C_Result T.n_Result_all_elements rfl) (ea_cons (ev_fld (ev_var rfl) hr9 T.C_Result T.n_Result_components rfl) (ea_cons (ev_fld (ev_var rfl) hr9 T.C_Result T.n_Result_off rfl) ea_nil)))) (Nat.le_of_ble_eq_true rfl)) fun q' H9 hq' e9 h9 => ?_
  have hdone := hE.done
  rw [hspec] at hdone
  have g9 : Gr M H H9 := (((((Gr.of e07).upd prM (e07 _ _ hpl)).trans (Gr.of e8)).upd kM (e8 _ _ ((upd_ne kpr).trans (e07 _ _ ho)))).trans (Gr.of e9))
  have keep : ∀ b, b ≠ pr → b ≠ kk → ∀ o, H b = some o → H9 b = some o := fun b n1 n2 o hbo => e9 _ _ (by rw [upd_ne n2]; exact e8 _ _ (by rw [upd_ne n1]; exact e07 _ _ hbo))
  have sub : ∀ m ∈ kk :: rl :: (prs ++ []), m ∈ M := fun m hm => by
    rw [hM]
    simp only [List.mem_cons, List.mem_append, List.not_mem_nil, or_false] at hm ⊢
    rcases hm with h | h | h
    · exact .inl h
    · exact .inr (.inl h)
    · exact .inr (.inr (.inl h))
  have subX : ∀ m ∈ (kk :: rl :: (prs ++ [])) ++ X, m ∈ M ++ X := fun m hm => by
    rcases List.mem_append.mp hm with h | h
    · exact List.mem_append_left _ (sub m h)
    · exact List.mem_append_right _ h
  have rX : r ∉ M ++ X := al.new hnb
  have ft := frz_toX (X := X) (M' := kk :: rl :: (prs ++ [])) (fun m hm => .inl (sub m hm)) g9.ex
  have hpair9 : H9 pr = some (.lst (([v0, v1] : List V).set (if p.free then 1 else 0) (.ref r))) := e9 _ _ (by rw [upd_ne (Ne.symm kpr)]; exact e8 _ _ upd_same)
  have hres : ResAt a (frz ((kk :: rl :: (prs ++ [])) ++ X) H9) r ⟨p.elementsScore, p.components (if p.free = true then s.factors.2 else s.factors.1), p.cost⟩ p.sheet := by
    refine ⟨dr, q, frz_of (fun z => rX (subX _ z)) (e9 _ _ hr9), ?_⟩
    rw [hsheet]
    obtain ⟨ts, t1, t2⟩ := hps
    have back : ∀ b o, nw (upd (upd H5 dr (.own r)) r (.ins a.c_Result dr [])) H6 b = some o → tblO o = false → frz ((kk :: rl :: (prs ++ [])) ++ X) H9 b = some o := fun b o hb ht => by
      obtain ⟨h1, h2⟩ := nw_some hb
      have hbH : H b = none := fresh_back (e05.trans emk) h1
      have bX := al.new hbH
      have bM := alo.new hbH
      exact frz_of (fun z => bX (subX _ z)) (e9 _ _ (by
        rw [upd_ne (show b ≠ kk from fun z => bM (z ▸ kM))]
        exact e8 _ _ (by rw [upd_ne (show b ≠ pr from fun z => bM (z ▸ prM))]; exact e7 _ _ h2))) ht
    exact ⟨ts, back _ _ t1 rfl, Paired.mapP t2 fun t y z => back _ _ z rfl⟩
  refine hdone q' (kk :: rl :: (prs ++ [])) rl prs [] H9 (((((Gr.of e07).upd prM (e07 _ _ hpl)).trans (Gr.of e8)).upd kM (e8 _ _ ((upd_ne kpr).trans (e07 _ _ ho)))).no hq') g9.ex (fun m hm => .inl (sub m hm)) (tabs_gr hT g9) ⟨rfl, ?_, ⟨dx, fa, _, .non, e9 _ _ upd_same, ex_t ft hf, rfl, rfl⟩, keep rl (Ne.symm (np pr prP).2) (Ne.symm nkr) _ hr2, ?_, ?_, lx.gr g9⟩ h9
  · rw [List.append_nil]
    have z := hM ▸ nd
    obtain ⟨h1, h2⟩ := List.nodup_cons.mp z
    obtain ⟨h3, h4⟩ := List.nodup_cons.mp h2
    exact List.nodup_cons.mpr ⟨fun c => h1 (by rcases List.mem_cons.mp c with c | c <;> simp [c]), List.nodup_cons.mpr ⟨fun c => h3 (by simp [c]), ndp⟩⟩
  · have nl : (Kg56.setSkater s wi p ⟨p.elementsScore, p.components (if p.free = true then s.factors.2 else s.factors.1), p.cost⟩).skaters = s.skaters.zipIdx.map fun x => if x.2 = wi then (if p.free = true then { x.1 with free := some (p, ⟨p.elementsScore, p.components (if p.free = true then s.factors.2 else s.factors.1), p.cost⟩) } else { x.1 with short := some (p, ⟨p.elementsScore, p.components (if p.free = true then s.factors.2 else s.factors.1), p.cost⟩) }) else x.1 := rfl
    show Paired _ prs (Kg56.setSkater s wi p ⟨p.elementsScore, p.components (if p.free = true then s.factors.2 else s.factors.1), p.cost⟩).skaters
    rw [nl]
    refine paired_of (by rw [List.length_map, List.length_zipIdx]; exact hlen) fun i pi ki hi hk => ?_
    obtain ⟨ko, hko, w0, w1, u1, u2, u3⟩ := paired_get hp hi
    rw [List.getElem?_map, List.getElem?_zipIdx, hko] at hk
    have hk : some (if i = wi then (if p.free = true then { ko with free := some (p, ⟨p.elementsScore, p.components (if p.free = true then s.factors.2 else s.factors.1), p.cost⟩) } else { ko with short := some (p, ⟨p.elementsScore, p.components (if p.free = true then s.factors.2 else s.factors.1), p.cost⟩) } : Kg56.Skater) else ko) = some ki := by
      have hk' := hk
      simp only [Option.map_some, Nat.zero_add] at hk'
      exact hk'
    have hk := Option.some.inj hk
    by_cases c : i = wi
    · subst c
      rw [hpr] at hi
      cases hi
      rw [hk0] at hko
      cases hko
      rw [if_pos rfl] at hk
      rw [← hk]
      rw [hpl] at u1
      cases u1
      cases hfree : p.free with
      | true =>
        rw [hfree] at hpair9 hres
        exact ⟨_, _, hpair9, u2.ex ft, ⟨r, rfl, hres⟩⟩
      | false =>
        rw [hfree] at hpair9 hres
        exact ⟨_, _, hpair9, ⟨r, rfl, hres⟩, u3.ex ft⟩
    · rw [if_neg c] at hk
      rw [← hk]
      have npi : pi ≠ pr := fun z => by
        rw [z] at hi
        have h1 := (List.getElem?_eq_some_iff.mp hi)
        have h2 := (List.getElem?_eq_some_iff.mp hpr)
        obtain ⟨b1, b2⟩ := h1
        obtain ⟨b3, b4⟩ := h2
        exact c ((List.getElem_inj ndp).mp (b2.trans b4.symm))
      exact ⟨w0, w1, keep pi npi (np pi (List.mem_of_getElem? hi)).1 _ u1, u2.ex ft, u3.ex ft⟩
  · exact ⟨ok.judges, fun z => absurd (ok.none_yet z).2 (fun z => by rw [hnow] at z; cases z), by show (List.map _ (List.zipIdx s.skaters)).length ≤ 30; rw [List.length_map, List.length_zipIdx]; exact ok.few, ok.f1, ok.f2, fun k hk b x hx => by
      obtain ⟨y, hy, rfl⟩ := List.mem_map.mp hk
      obtain ⟨ko, ix⟩ := y
      have hko : ko ∈ s.skaters := by
        obtain ⟨_, _, h3⟩ := List.mem_zipIdx hy
        rw [h3]; exact List.getElem_mem _
      have fewp : p.elements.length ≤ 20 := by
        have := hP.few
        unfold elsNow at this
        rw [Sk.valued_len] at this
        exact this
      have hx' : Kg56.Skater.of (if ix = wi then (if p.free = true then { ko with free := some (p, ⟨p.elementsScore, p.components (if p.free = true then s.factors.2 else s.factors.1), p.cost⟩) } else { ko with short := some (p, ⟨p.elementsScore, p.components (if p.free = true then s.factors.2 else s.factors.1), p.cost⟩) }) else ko) b = some x := hx
      by_cases c : ix = wi
      · rw [if_pos c] at hx'
        cases hfr : p.free with
        | true =>
          rw [hfr] at hx'
          cases b with
          | true => cases hx'; exact fewp
          | false => exact ok.sheets ko hko false x hx'
        | false =>
          rw [hfr] at hx'
          cases b with
          | true => exact ok.sheets ko hko true x hx'
          | false => cases hx'; exact fewp
      · rw [if_neg c] at hx'
        exact ok.sheets ko hko b x hx'⟩
end
end SkW

set_option Elab.async false
set_option linter.all false
set_option maxRecDepth 100000
set_option maxHeartbeats 4000000
namespace SkW
open PySem PySem.Spec PyProof.Rows L2 Evl LamX
section
variable {P : Program} {w : World} {K : PySem.W.Frag} {mg : Str → Option Value} {base : Heap} {a : Ad} {kc kp : Addr} {X : List Addr}
theorem flat_two (l : List (Nat × Int)) : (l.map fun y => [((y.1 : Nat) : Int), y.2]).flatten = l.flatMap fun y => [((y.1 : Nat) : Int), y.2] := by rw [List.flatMap_def]
theorem pairs_rows {H : Hp} : ∀ {ts : List Addr} {sheet : List (Nat × Int)}, Paired (PairAt H) ts sheet → Paired (fun t (ns : List Int) => SqT K H t (ns.map V.int)) ts (sheet.map fun y => [((y.1 : Nat) : Int), y.2])
  | _, [], .nil => .nil
  | _, y :: l, .cons q t => .cons (st_of q) (pairs_rows t)
theorem trips_rows {H : Hp} : ∀ {ts : List Addr} {ys : List (Nat × (Nat × Int))}, Paired (TripAt H) ts ys → Paired (fun t (ns : List Int) => SqT K H t (ns.map V.int)) ts (ys.map fun y => [((y.1 : Nat) : Int), ((y.2.1 : Nat) : Int), y.2.2])
  | _, [], .nil => .nil
  | _, y :: l, .cons q t => .cons (st_of q) (trips_rows t)
def sp_sheet (a : Ad) (K : PySem.W.Frag) (kp : Addr) : Sp := fun vs H Q E => ∃ (X M : List Addr) (kk rl : Addr) (prs prog : List Addr) (s : Kg56.State) (i f : Int), vs = [.ref kk, .int i, .int f] ∧ Asked a K kp X M H kk rl prs prog s ∧ EndsP a K kp X M H kk s (Kg56.spec s (.sheet i f)) Q E
theorem sheet_len (p : Kg56.Program) : p.sheet.length = p.elements.length := by
  unfold Kg56.Program.sheet Kg56.Program.raised
  rw [List.length_map, Sk.raised_is, List.length_mapIdx]
  exact Sk.valued_len _ _ _
theorem ok_Keeper_sheet (T : Txt K mg a) : FnOk P w K mg base (L2.CX P w) 6 a.f_Keeper_sheet a.d_Keeper_sheet ["self", "skater", "free"] (sp_sheet a K kp) := by
  refine T.F_Keeper_sheet.okX sc_Keeper_sheet (fun vs H Q E h => ?_) (fun cdv A outer s H vs Q E hr h => ?_)
  · obtain ⟨_, _, _, _, _, _, _, _, _, rfl, _⟩ := h
    rfl
  refine ⟨_, (pss_cons (ps_expr (pe_meth (pv 0) T.C_Keeper T.M_Keeper_need_skater (ok_Keeper_need_skater T) (hr.mono (by decide)) T.b_Keeper_need_skater .nil (passes_call (takes_of rfl rfl rfl rfl) fun _ _ _ _ h => h) (by exact (pa_cons (pv 1) (pa_cons (pv 2) pa_nil)))))
    (pss_cons (ps_set (i := 3) sc_Keeper_sheet.nd rfl (Or.inl rfl) (pe_ix ix_list (pe_ix ix_list (pe_fld (pv 0) rfl) (pv 1) (fun _ _ => rfl)) (pv 2) (fun _ _ => rfl)))
    (pss_cons (ps_expr (pe_call (ok_need T) (hr.mono (by decide)) rfl T.g_need T.k_need T.b_need .nil (passes_call (takes_of rfl rfl rfl rfl) fun _ _ _ _ h => h) (by exact (pa_cons (pe_cmpR op_notN (pv 3) pe_non (nomark _)) (pa_cons (pe_gint rfl T.i_WRONG) pa_nil)))))
    (pss_one (ps_ret (pe_call (ok_flat T) (hr.mono (by decide)) rfl T.g_flat T.k_flat T.b_flat .nil pass0 (by exact (pa_cons (pe_fld (pv 3) rfl) pa_nil)))))))), ?_⟩

  obtain ⟨X, M, kk, rl, prs, prog, s, i, f, rfl, ⟨hT, hK⟩, hE⟩ := h
  have hspec : Kg56.spec s (.sheet i f) = if (Kg56.within f 0 1 && (decide (0 ≤ i) && decide (i < (s.skaters.length : Int)))) = false then (s, Kg56.num (-1)) else (s, match s.of i.toNat (f == 1) with
    | none => Kg56.num (-4)
    | some x => ⟨x.1.elements.length, x.1.sheet.flatMap fun y => [(y.1 : Int), y.2]⟩) := rfl
  have al := hK.aliveX
  have hlen := hK.pair
  have hK0 := hK
  obtain ⟨hM, nd, ⟨dx, fa, nv, pv, ho, hf, hn⟩, hr2, hp, ok, lx⟩ := hK
  have hxl : (prs.map V.ref).length = s.skaters.length := by rw [List.length_map, hlen]
  refine q_needM (b := Kg56.within f 0 1 && (decide (0 ≤ i) && decide (i < (s.skaters.length : Int)))) (ev_var rfl) ho rfl (ea_cons (ev_var rfl) (ea_cons (ev_var rfl) ea_nil)) (fun H1 e1 Q1 q1 => ⟨kk, dx, rl, _, _, _, _, _, i, f, rfl, e1 _ _ ho, e1 _ _ hr2, (fun hb H2 e2 => q1 (by rw [hxl] at hb; exact hb) H2 e2), (fun hb => (hE.refuse (-1) (by rw [hxl] at hb; rw [hspec, if_pos hb]) (by decide)).go e1)⟩) fun hc H1 e1 => ?_
  rw [if_neg (by rw [hc]; decide)] at hspec
  rw [Bool.and_eq_true] at hc
  obtain ⟨hcf, hci⟩ := hc
  obtain ⟨fb, hfb, hfq, hfi⟩ := bit_cases hcf
  have hi : 0 ≤ i ∧ i < (s.skaters.length : Int) := by simpa using hci
  obtain ⟨n, rfl⟩ : ∃ n : Nat, i = (n : Int) := ⟨i.toNat, by omega⟩
  have hnl : n < s.skaters.length := by omega
  obtain ⟨k0, hk0⟩ : ∃ k0, s.skaters[n]? = some k0 := ⟨_, List.getElem?_eq_getElem hnl⟩
  obtain ⟨pr, hpr⟩ : ∃ pr, prs[n]? = some pr := ⟨_, List.getElem?_eq_getElem (by omega)⟩
  obtain ⟨k1, hk1, hpo⟩ := paired_get hp hpr
  rw [hk0] at hk1
  cases hk1
  obtain ⟨xs, v, x1, x2, x3⟩ := hpo.at fb
  have hof : s.of n fb = k0.of fb := by unfold Kg56.State.of; rw [hk0]; rfl
  have htn : ((n : Nat) : Int).toNat = n := by omega
  rw [htn, hfq, hof] at hspec
  refine q_asg (ev_op (ev_op (ev_fld (ev_var rfl) (e1 _ _ ho) T.C_Keeper T.n_Keeper_results rfl) (ev_var rfl) (rv_ixL (sq_of (e1 _ _ hr2)) (atI_nat (by rw [List.getElem?_map, hpr]; rfl)))) (ev_is (ev_var rfl) hfb) (rv_ixL (sq_of (e1 _ _ x1)) x2)) fun H2 e2 => ?_
  have e02 := e1.trans e2
  refine q_need (b := !(k0.of fb).isNone) (ev_is (ev_op (ev_var rfl) ev_c rv_notN) (by rw [x3.non])) ev_c (fun hb => (hE.refuse (-4) (by
    rw [hspec]
    cases c : k0.of fb with
    | none => rfl
    | some x => rw [c] at hb; cases hb) (by decide)).go e02) fun hb H3 e3 => ?_
  cases c : k0.of fb with
  | none => rw [c] at hb; cases hb
  | some x =>
    rw [c] at hspec x3
    obtain ⟨r, rfl, hra⟩ := x3
    have e03 := e02.trans e3
    obtain ⟨dr, q, hr1, ts, hts, hpt⟩ := hra.ex (frz_le.trans e03)
    have hdone := hE.done
    rw [hspec] at hdone
    have hl : x.1.sheet.length ≤ 1000 := by
      rw [sheet_len]
      have := ok.sheets k0 (List.mem_of_getElem? hk0) fb x c
      omega
    refine s_retL (el_call (ea_cons (ev_fld (ev_var rfl) hr1 T.C_Result T.n_Result_pairs rfl) ea_nil) fun H4 e4 Q4 q4 E4 => ⟨q, ts, x.1.sheet.map fun y => [((y.1 : Nat) : Int), y.2], rfl, ex_l e4 (sq_of hts), Paired.mapP (pairs_rows hpt) fun _ _ z => ex_t e4 z, by rw [List.length_map]; exact hl, (fun ns hm => by
      obtain ⟨y, _, rfl⟩ := List.mem_map.mp hm
      exact (by decide : 2 ≤ 10)), fun q' H5 hq' e5 h5 => q4 q' H5 hq' e5 h5⟩) fun q' H4 hq' e4 h4 => ?_
    have e04 := e03.trans e4
    refine hdone q' M rl prs prog H4 (ex_no e03 hq') (frz_le.trans e04) (fun m hm => .inl hm) (hT.ext e04) (hK0.ex e04) ?_
    rw [h4, flat_two, List.length_map, sheet_len]
def placesOut (l : List (Nat × (Nat × Int))) : List Int := ((l.length : Nat) : Int) :: (l.map fun y => [((y.1 : Nat) : Int), ((y.2.1 : Nat) : Int), y.2.2]).flatten
/-- flat over places -/
theorem flat_trips {H : Hp} {q : Addr} {ys : List (Nat × (Nat × Int))} {Q : VK} (h : TripsAt H q ys) (hl : ys.length ≤ 1000) (k : ∀ q' H', H q' = none → Ex H H' → H' q' = some (.lst ((placesOut ys).map V.int)) → Q (.ref q') H') (E : XK) : sp_flat K [.ref q] H Q E := by
  obtain ⟨ts, h1, h2⟩ := h
  refine ⟨q, ts, ys.map fun y => [((y.1 : Nat) : Int), ((y.2.1 : Nat) : Int), y.2.2], rfl, sq_of h1, trips_rows h2, by rw [List.length_map]; exact hl, fun ns hm => ?_, fun q' H5 hq' e5 h5 => k q' H5 hq' e5 ?_⟩
  · obtain ⟨y, _, rfl⟩ := List.mem_map.mp hm
    exact (by decide : 3 ≤ 10)
  · rw [h5]
    unfold placesOut
    rw [List.length_map]
def sp_places (a : Ad) (K : PySem.W.Frag) (kp : Addr) : Sp := fun vs H Q E => ∃ (X M : List Addr) (kk rl : Addr) (prs prog : List Addr) (s : Kg56.State) (f : Int), vs = [.ref kk, .int f] ∧ Asked a K kp X M H kk rl prs prog s ∧ EndsP a K kp X M H kk s (Kg56.spec s (.places f)) Q E
theorem placed_len (rows : List Row) : (placedOf rows).length = rows.length := by unfold placedOf; rw [List.length_map, List.length_mergeSort]
theorem ok_Keeper_places (T : Txt K mg a) (Z : TabH K base mg a kc kp) : FnOk P w K mg base (L2.CX P w) 8 a.f_Keeper_places a.d_Keeper_places ["self", "free"] (sp_places a K kp) := by
  refine T.F_Keeper_places.okX sc_Keeper_places (fun vs H Q E h => ?_) (fun cdv A outer s H vs Q E hr h => ?_)
  · obtain ⟨_, _, _, _, _, _, _, _, rfl, _⟩ := h
    rfl
  refine ⟨_, (pss_cons (ps_expr (pe_call (ok_need_segment T) (hr.mono (by decide)) rfl T.g_need_segment T.k_need_segment T.b_need_segment .nil (passes_call (takes_of rfl rfl rfl rfl) fun _ _ _ _ h => h) (by exact (pa_cons (pv 1) pa_nil))))
    (pss_one (ps_ret (pe_call (ok_flat T) (hr.mono (by decide)) rfl T.g_flat T.k_flat T.b_flat .nil pass0 (by exact (pa_cons (pe_call (ok_segment_places T Z) (hr.mono (by decide)) rfl T.g_segment_places T.k_segment_places T.b_segment_places .nil pass0 (by exact (pa_cons (pe_fld (pv 0) rfl) (pa_cons (pv 1) pa_nil)))) pa_nil)))))), ?_⟩

  obtain ⟨X, M, kk, rl, prs, prog, s, f, rfl, ⟨hT, hK⟩, hE⟩ := h
  have hK0 := hK
  obtain ⟨hM, nd, ⟨dx, fa, nv, pv, ho, hf, hn⟩, hr2, hp, ok, lx⟩ := hK
  have hspec : Kg56.spec s (.places f) = if Kg56.within f 0 1 = false then (s, Kg56.num (-1)) else
      (s, ⟨(Kg56.ordered (s.segmentKey (f == 1)) (s.inSegment (f == 1))).length, (Kg56.ordered (s.segmentKey (f == 1)) (s.inSegment (f == 1))).flatMap fun (i : Nat) => [(i : Int), (Kg56.place (s.segmentKey (f == 1)) (Kg56.ordered (s.segmentKey (f == 1)) (s.inSegment (f == 1))) i : Int), Kg56.scoreOf s i (f == 1)]⟩) := rfl
  refine ⟨_, rfl, f, rfl, fun hcf H1 e1 => ?_, fun hcf => hE.refuse (-1) (by rw [hspec, if_pos hcf]) (by decide)⟩
  rw [if_neg (by rw [hcf]; decide)] at hspec
  obtain ⟨fb, hfb, hfq, hfi⟩ := bit_cases hcf
  rw [hfq] at hspec
  have hdone := hE.done
  rw [hspec] at hdone
  refine (args_cons (ev_fld (ev_var rfl) (e1 _ _ ho) T.C_Keeper T.n_Keeper_results rfl) fun H2 e2 => args_cons (ev_is (ev_var rfl) hfb) fun H3 e3 => ?_ : tCall (sp_segment a K kp) [] E0 (tCons (tFld K (tVar 0) "results") (tCons (tVar 1) tNil)) [some (.ref kk), some (.int f)] H1 _)
  have e03 := (e1.trans e2).trans e3
  refine ⟨rl, prs, s.skaters, fb, frz (M ++ X) H, rfl, hT.ext e03, frz_le.trans e03, e03 _ _ hr2, Paired.mapP hp fun _ _ z => z.ex (Ex.refl _) e03, by have := ok.few; omega, fun q H4 xN T4 tr => ?_⟩
  have hpl := placed_seg s fb
  rw [hpl] at tr
  have hol : (Kg56.ordered (s.segmentKey fb) (s.inSegment fb)).length ≤ 1000 := by
    have h1 := congrArg List.length hpl
    rw [placed_len, List.length_map] at h1
    have h2 := rowsOf_len (segRow fb) s.skaters
    have := ok.few
    omega
  refine flat_trips tr (by rw [List.length_map]; exact hol) (fun q' H5 hq' e5 h5 => ?_) E0
  have x5 : ExtN H H5 := ((ExtN.of e03).trans xN).trans (ExtN.of e5)
  refine hdone q' M rl prs prog H5 (exN_no ((ExtN.of e03).trans xN) hq') ((frz_exN x5).trans frz_le) (fun m hm => .inl hm) (T4.ext e5) (hK0.exN x5) ?_
  rw [h5]
  unfold placesOut
  rw [List.length_map, List.map_map, List.flatMap_def]
  rfl
def sp_all (a : Ad) (K : PySem.W.Frag) (kp : Addr) : Sp := fun vs H Q E => ∃ (X M : List Addr) (kk rl : Addr) (prs prog : List Addr) (s : Kg56.State), vs = [.ref kk] ∧ Asked a K kp X M H kk rl prs prog s ∧ EndsP a K kp X M H kk s (Kg56.spec s .all) Q E
theorem ok_Keeper_all_places (T : Txt K mg a) (Z : TabH K base mg a kc kp) : FnOk P w K mg base CX0 8 a.f_Keeper_all_places a.d_Keeper_all_places ["self"] (sp_all a K kp) := by
  refine T.F_Keeper_all_places.ok sc_Keeper_all_places (fun vs H Q E h => ?_) (fun cdv A outer s H vs Q E hr h => ?_)
  · obtain ⟨_, _, _, _, _, _, _, rfl, _⟩ := h
    rfl
  refine ⟨_, (pss_one (ps_ret (pe_call (ok_flat T) (hr.mono (by decide)) rfl T.g_flat T.k_flat T.b_flat .nil pass0 (by exact (pa_cons (pe_call (ok_places_in_all T Z) (hr.mono (by decide)) rfl T.g_places_in_all T.k_places_in_all T.b_places_in_all .nil pass0 (by exact (pa_cons (pe_fld (pv 0) rfl) pa_nil))) pa_nil))))), ?_⟩

  obtain ⟨X, M, kk, rl, prs, prog, s, rfl, ⟨hT, hK⟩, hE⟩ := h
  have hK0 := hK
  obtain ⟨hM, nd, ⟨dx, fa, nv, pv, ho, hf, hn⟩, hr2, hp, ok, lx⟩ := hK
  have hdone : DoneP a K kp X M H kk s (((Kg56.ordered s.allKey s.inAll).length : Int) :: (Kg56.ordered s.allKey s.inAll).flatMap fun (i : Nat) => [(i : Int), (Kg56.place s.allKey (Kg56.ordered s.allKey s.inAll) i : Int), Kg56.scoreOf s i false + Kg56.scoreOf s i true]) Q := hE.done
  refine (args_cons (ev_fld (ev_var rfl) ho T.C_Keeper T.n_Keeper_results rfl) fun H1 e1 => ?_ : tCall (sp_in_all a K kp) [] E0 (tCons (tFld K (tVar 0) "results") tNil) [some (.ref kk)] H _)
  refine ⟨rl, prs, s.skaters, frz (M ++ X) H, rfl, hT.ext e1, frz_le.trans e1, e1 _ _ hr2, Paired.mapP hp fun _ _ z => z.ex (Ex.refl _) e1, by have := ok.few; omega, fun q H4 xN T4 tr => ?_⟩
  have hpl := placed_all s
  rw [hpl] at tr
  have hol : (Kg56.ordered s.allKey s.inAll).length ≤ 1000 := by
    have h1 := congrArg List.length hpl
    rw [placed_len, List.length_map] at h1
    have h2 := rowsOf_len allRow s.skaters
    have := ok.few
    omega
  refine flat_trips tr (by rw [List.length_map]; exact hol) (fun q' H5 hq' e5 h5 => ?_) E0
  have x5 : ExtN H H5 := ((ExtN.of e1).trans xN).trans (ExtN.of e5)
  refine hdone q' M rl prs prog H5 (exN_no ((ExtN.of e1).trans xN) hq') ((frz_exN x5).trans frz_le) (fun m hm => .inl hm) (T4.ext e5) (hK0.exN x5) ?_
  rw [h5]
  unfold placesOut
  rw [List.length_map, List.map_map, List.flatMap_def]
  rfl
end
end SkW

set_option Elab.async false
set_option linter.all false
set_option maxRecDepth 100000
set_option maxHeartbeats 4000000
namespace SkW
open PySem PySem.Spec PyProof.Rows L2 Evl LamX
/-- a call as its number, its whole numbers, its lists -/
inductive CallIs : Int → List Int → List (List Int) → Kg56.Call → Prop
  | c1 (j a b : Int) : CallIs 1 [j, a, b] [] (.begin_ j a b)
  | c2 : CallIs 2 [] [] .skater
  | c3 (t : List Int) : CallIs 3 [] [t] (.read t)
  | c4 (w f : Int) : CallIs 4 [w, f] [] (.start w f)
  | c5 (h : Int) (t g : List Int) : CallIs 5 [h] [t, g] (.element h t g)
  | c6 (a b c : List Int) : CallIs 6 [] [a, b, c] (.marks a b c)
  | c7 (a b t : Int) : CallIs 7 [a, b, t] [] (.faults a b t)
  | c8 : CallIs 8 [] [] .end_
  | c9 (w f : Int) : CallIs 9 [w, f] [] (.sheet w f)
  | c10 (f : Int) : CallIs 10 [f] [] (.places f)
  | c11 : CallIs 11 [] [] .all
section
variable {P : Program} {w : World} {K : PySem.W.Frag} {mg : Str → Option Value} {base : Heap} {a : Ad} {kc kp : Addr} {X : List Addr}
theorem EndsP.ex {M : List Addr} {H H1 : Hp} {kk : Addr} {s : Kg56.State} {r : Kg56.State × Kg56.Ans} {Q : VK} {E : XK} (h : EndsP a K kp X M H kk s r Q E) (e : Ex H H1) : EndsP a K kp X M H1 kk s r Q E :=
  ⟨fun q M' rl' prs' prog' H' x0 x1 x2 x3 x4 x5 => h.done q M' rl' prs' prog' H' (fun ⟨o, n, t⟩ => x0 ⟨o, e _ _ n, t⟩) ((frz_mono e).trans x1) (fun m hm => (x2 m hm).imp id fun z => fresh_back e z) x3 x4 x5, fun c h1 h2 => (h.refuse c h1 h2).go e⟩
theorem Asked.ex {M : List Addr} {H H1 : Hp} {kk rl : Addr} {prs prog : List Addr} {s : Kg56.State} (h : Asked a K kp X M H kk rl prs prog s) (e : Ex H H1) : Asked a K kp X M H1 kk rl prs prog s := ⟨h.1.ext e, h.2.ex e⟩
theorem q_skip {σ : L2.St} {H : Hp} {D : Ends} {tu tz : TS} {n m : Int} {i : Nat} (hv : σ[i]? = some (some (.int n))) (hne : n ≠ m) (k : ∀ H1, Ex H H1 → tz D σ H1) : tSeq (tIfS (tTest (tOp rEq (tVar i) (tC (.int m)))) tu tNext) tz D σ H :=
  q_when (b := false) (et_is (et_test (ev_op (ev_var hv) ev_c (rv_eq rfl))) (decide_eq_false fun z => hne (V.int.inj z))) (fun z => by cases z) fun _ H1 e1 => k H1 e1
theorem q_hit {σ : L2.St} {H : Hp} {D : Ends} {tu tz : TS} {n : Int} {i : Nat} (hv : σ[i]? = some (some (.int n))) (k : ∀ H1, Ex H H1 → tu { D with nx := tz D } σ H1) : tSeq (tIfS (tTest (tOp rEq (tVar i) (tC (.int n)))) tu tNext) tz D σ H :=
  q_when (b := true) (et_is (et_test (ev_op (ev_var hv) ev_c (rv_eq rfl))) (decide_eq_true rfl)) (fun _ H1 e1 => k H1 e1) fun z => by cases z
theorem q_skipLe {σ : L2.St} {H : Hp} {D : Ends} {tu tz : TS} {n m : Int} {i : Nat} (hv : σ[i]? = some (some (.int n))) (hne : ¬ n ≤ m) (k : ∀ H1, Ex H H1 → tz D σ H1) : tSeq (tIfS (tTest (tOp (rI0 fun i j => .bl (decide (i ≤ j))) (tVar i) (tC (.int m)))) tu tNext) tz D σ H :=
  q_when (b := false) (et_is (et_test (ev_op (ev_var hv) ev_c rv_I0)) (decide_eq_false hne)) (fun z => by cases z) fun _ H1 e1 => k H1 e1
theorem q_hitLe {σ : L2.St} {H : Hp} {D : Ends} {tu tz : TS} {n m : Int} {i : Nat} (hv : σ[i]? = some (some (.int n))) (hne : n ≤ m) (k : ∀ H1, Ex H H1 → tu { D with nx := tz D } σ H1) : tSeq (tIfS (tTest (tOp (rI0 fun i j => .bl (decide (i ≤ j))) (tVar i) (tC (.int m)))) tu tNext) tz D σ H :=
  q_when (b := true) (et_is (et_test (ev_op (ev_var hv) ev_c rv_I0)) (decide_eq_true hne)) (fun _ H1 e1 => k H1 e1) fun z => by cases z
/-- a method of the keeper's is called and its answer returned -/
theorem r_meth {M : List Addr} {σ : L2.St} {H : Hp} {D : Ends} {ta : TE} {t : TA} {kk rl : Addr} {prs prog : List Addr} {s : Kg56.State} {m : Str} {sp : Sp} {E : XK} (h : Ev ta σ H (.ref kk)) (hA : Asked a K kp X M H kk rl prs prog s) (hm : ∀ v1 v2 v3 v4 v5, (F_Keeper v1 v2 v3 v4 v5).lookup m = none)
    (k : ∀ H1, Ex H H1 → t σ H1 fun vs H2 => sp (.ref kk :: (vs ++ [])) H2 D.rt E) : tRet (tMeth a.c_Keeper m sp [] E ta t) D σ H := by
  obtain ⟨dx, fa, nv, pv, ho, _⟩ := hA.2.obj
  exact meth_at h ho (hm _ _ _ _ _) k
theorem r_call {σ : L2.St} {H : Hp} {D : Ends} {t : TA} {sp : Sp} {E : XK} (k : t σ H fun vs H1 => sp (vs ++ []) H1 D.rt E) : tRet (tCall sp [] E t) D σ H := k
def sp_told (a : Ad) (K : PySem.W.Frag) (kp : Addr) (C : Int → Prop) : Sp := fun vs H Q E => ∃ (X M : List Addr) (kk rl : Addr) (prs prog : List Addr) (s : Kg56.State) (n : Int) (so ro : Addr) (xs : List Int) (rs : List Addr) (rows : List (List Int)) (k : Kg56.Call), vs = [.ref kk, .int n, .ref so, .ref ro] ∧ Asked a K kp X M H kk rl prs prog s ∧
  SqL K H so (xs.map V.int) ∧ SqL K H ro (rs.map V.ref) ∧ Rows K H rs rows ∧ (∀ r ∈ rows, r.length ≤ 1000) ∧ C n ∧ CallIs n xs rows k ∧ EndsP a K kp X M H kk s (Kg56.spec s k) Q E
theorem rows1 {H : Hp} {rs : List Addr} {x : List Int} (h : Rows K H rs [x]) : ∃ r, rs = [r] ∧ SqL K H r (x.map V.int) := by
  cases h with
  | cons q t => cases t; exact ⟨_, rfl, q⟩
theorem rows2 {H : Hp} {rs : List Addr} {x y : List Int} (h : Rows K H rs [x, y]) : ∃ r r', rs = [r, r'] ∧ SqL K H r (x.map V.int) ∧ SqL K H r' (y.map V.int) := by
  cases h with
  | cons q t =>
    obtain ⟨r', rfl, q'⟩ := rows1 t
    exact ⟨_, _, rfl, q, q'⟩
theorem ok_of_skating (T : Txt K mg a) : FnOk P w K mg base (L2.CX P w) 10 a.f_of_skating a.d_of_skating ["keeper", "call", "some", "rows"] (sp_told a K kp (fun n => 4 ≤ n ∧ n ≤ 8)) := by
  refine T.F_of_skating.okX sc_of_skating (fun vs H Q E h => ?_) (fun cdv A outer s H vs Q E hr h => ?_)
  · obtain ⟨_, _, _, _, _, _, _, _, _, _, _, _, _, _, rfl, _⟩ := h
    rfl
  refine ⟨_, (pss_cons (ps_if (pt_cmpR op_eq (pv 1) pe_int (nomark _)) (pss_one (ps_ret (pe_meth (pv 0) T.C_Keeper T.M_Keeper_start (ok_Keeper_start T (kp := kp)) (hr.mono (by decide)) T.b_Keeper_start .nil (passes_call (takes_of rfl rfl rfl rfl) fun _ _ _ _ h => h) (by exact (pa_cons (pe_ix ix_list (pv 2) pe_int (fun _ _ => rfl)) (pa_cons (pe_ix ix_list (pv 2) pe_int (fun _ _ => rfl)) pa_nil)))))) pss_nil)
    (pss_cons (ps_if (pt_cmpR op_eq (pv 1) pe_int (nomark _)) (pss_one (ps_ret (pe_meth (pv 0) T.C_Keeper T.M_Keeper_element (ok_Keeper_element T (kp := kp)) (hr.mono (by decide)) T.b_Keeper_element .nil (passes_call (takes_of rfl rfl rfl rfl) fun _ _ _ _ h => h) (by exact (pa_cons (pe_ix ix_list (pv 2) pe_int (fun _ _ => rfl)) (pa_cons (pe_ix ix_list (pv 3) pe_int (fun _ _ => rfl)) (pa_cons (pe_ix ix_list (pv 3) pe_int (fun _ _ => rfl)) pa_nil))))))) pss_nil)
    (pss_cons (ps_if (pt_cmpR op_eq (pv 1) pe_int (nomark _)) (pss_one (ps_ret (pe_meth (pv 0) T.C_Keeper T.M_Keeper_marks (ok_Keeper_marks T (kp := kp)) (hr.mono (by decide)) T.b_Keeper_marks .nil (passes_call (takes_of rfl rfl rfl rfl) fun _ _ _ _ h => h) (by exact (pa_cons (pv 3) pa_nil))))) pss_nil)
    (pss_cons (ps_if (pt_cmpR op_eq (pv 1) pe_int (nomark _)) (pss_one (ps_ret (pe_meth (pv 0) T.C_Keeper T.M_Keeper_faults (ok_Keeper_faults T (kp := kp)) (hr.mono (by decide)) T.b_Keeper_faults .nil (passes_call (takes_of rfl rfl rfl rfl) fun _ _ _ _ h => h) (by exact (pa_cons (pe_ix ix_list (pv 2) pe_int (fun _ _ => rfl)) (pa_cons (pe_ix ix_list (pv 2) pe_int (fun _ _ => rfl)) (pa_cons (pe_ix ix_list (pv 2) pe_int (fun _ _ => rfl)) pa_nil))))))) pss_nil)
    (pss_one (ps_ret (pe_meth0 (pv 0) T.C_Keeper T.M_Keeper_end (ok_Keeper_end T (kp := kp)) (hr.mono (by decide)) T.b_Keeper_end .nil (passes_call (takes_of rfl rfl rfl rfl) fun _ _ _ _ h => h)))))))), ?_⟩

  obtain ⟨X, M, kk, rl, prs, prog, s, n, so, ro, xs, rs, rows, k, rfl, hA, hso, hro, hrs, hrl, hC, hc, hE⟩ := h
  cases hc with
  | c4 i f =>
    refine q_hit rfl fun H1 e1 => r_meth (ev_var rfl) (hA.ex e1) (fun _ _ _ _ _ => rfl) fun H2 e2 => args_cons (ev_op (ev_var rfl) ev_c (rv_ixL (ex_l (e1.trans e2) hso) rfl)) fun H3 e3 => args_cons (ev_op (ev_var rfl) ev_c (rv_ixL (ex_l ((e1.trans e2).trans e3) hso) rfl)) fun H4 e4 => ?_
    have e04 := ((e1.trans e2).trans e3).trans e4
    exact ⟨X, M, kk, rl, prs, prog, s, i, f, rfl, hA.ex e04, hE.ex e04⟩
  | c5 h t g =>
    obtain ⟨r, r', rfl, q1, q2⟩ := rows2 hrs
    refine q_skip rfl (by decide) fun H0 e0 => q_hit rfl fun H1 e1 => r_meth (ev_var rfl) (hA.ex (e0.trans e1)) (fun _ _ _ _ _ => rfl) fun H2 e2 => args_cons (ev_op (ev_var rfl) ev_c (rv_ixL (ex_l ((e0.trans e1).trans e2) hso) rfl)) fun H3 e3 => args_cons (ev_op (ev_var rfl) ev_c (rv_ixL (ex_l (((e0.trans e1).trans e2).trans e3) hro) rfl)) fun H4 e4 => args_cons (ev_op (ev_var rfl) ev_c (rv_ixL (ex_l ((((e0.trans e1).trans e2).trans e3).trans e4) hro) rfl)) fun H5 e5 => ?_
    have e05 := ((((e0.trans e1).trans e2).trans e3).trans e4).trans e5
    exact ⟨X, M, kk, rl, prs, prog, s, h, r, r', t, g, rfl, hA.ex e05, ex_l e05 q1, hrl _ (by simp), ex_l e05 q2, hrl _ (by simp), hE.ex e05⟩
  | c6 x y z =>
    refine q_skip rfl (by decide) fun H0 e0 => q_skip rfl (by decide) fun H1 e1 => q_hit rfl fun H2 e2 => r_meth (ev_var rfl) (hA.ex ((e0.trans e1).trans e2)) (fun _ _ _ _ _ => rfl) fun H3 e3 => args_cons (ev_var rfl) fun H4 e4 => ?_
    have e04 := (((e0.trans e1).trans e2).trans e3).trans e4
    exact ⟨X, M, kk, rl, prs, prog, s, ro, rs, x, y, z, rfl, hA.ex e04, ex_l e04 hro, hrs.ex e04, hrl _ (by simp), hrl _ (by simp), hrl _ (by simp), hE.ex e04⟩
  | c7 x y z =>
    refine q_skip rfl (by decide) fun H0 e0 => q_skip rfl (by decide) fun H1 e1 => q_skip rfl (by decide) fun H2 e2 => q_hit rfl fun H3 e3 => r_meth (ev_var rfl) (hA.ex (((e0.trans e1).trans e2).trans e3)) (fun _ _ _ _ _ => rfl) fun H4 e4 => ?_
    have e04 := (((e0.trans e1).trans e2).trans e3).trans e4
    refine args_cons (ev_op (ev_var rfl) ev_c (rv_ixL (ex_l e04 hso) rfl)) fun H5 e5 => args_cons (ev_op (ev_var rfl) ev_c (rv_ixL (ex_l (e04.trans e5) hso) rfl)) fun H6 e6 => args_cons (ev_op (ev_var rfl) ev_c (rv_ixL (ex_l ((e04.trans e5).trans e6) hso) rfl)) fun H7 e7 => ?_
    have e07 := ((e04.trans e5).trans e6).trans e7
    exact ⟨X, M, kk, rl, prs, prog, s, x, y, z, rfl, hA.ex e07, hE.ex e07⟩
  | c8 =>
    refine q_skip rfl (by decide) fun H0 e0 => q_skip rfl (by decide) fun H1 e1 => q_skip rfl (by decide) fun H2 e2 => q_skip rfl (by decide) fun H3 e3 => r_meth (ev_var rfl) (hA.ex (((e0.trans e1).trans e2).trans e3)) (fun _ _ _ _ _ => rfl) fun H4 e4 => ?_
    have e04 := (((e0.trans e1).trans e2).trans e3).trans e4
    exact ⟨X, M, kk, rl, prs, prog, s, rfl, hA.ex e04, hE.ex e04⟩
  | c1 _ _ _ => exact absurd hC.1 (by decide)
  | c2 => exact absurd hC.1 (by decide)
  | c3 _ => exact absurd hC.1 (by decide)
  | c9 _ _ => exact absurd hC.2 (by decide)
  | c10 _ => exact absurd hC.2 (by decide)
  | c11 => exact absurd hC.2 (by decide)
theorem ok_told (T : Txt K mg a) (Z : TabH K base mg a kc kp) : FnOk P w K mg base (L2.CX P w) 11 a.f_told a.d_told ["keeper", "call", "some", "rows"] (sp_told a K kp (fun _ => True)) := by
  refine T.F_told.okX sc_told (fun vs H Q E h => ?_) (fun cdv A outer s H vs Q E hr h => ?_)
  · obtain ⟨_, _, _, _, _, _, _, _, _, _, _, _, _, _, rfl, _⟩ := h
    rfl
  refine ⟨_, (pss_cons (ps_if (pt_cmpR op_eq (pv 1) pe_int (nomark _)) (pss_one (ps_ret (pe_meth (pv 0) T.C_Keeper T.M_Keeper_begin (ok_Keeper_begin T (kp := kp)) (hr.mono (by decide)) T.b_Keeper_begin .nil (passes_call (takes_of rfl rfl rfl rfl) fun _ _ _ _ h => h) (by exact (pa_cons (pe_ix ix_list (pv 2) pe_int (fun _ _ => rfl)) (pa_cons (pe_ix ix_list (pv 2) pe_int (fun _ _ => rfl)) (pa_cons (pe_ix ix_list (pv 2) pe_int (fun _ _ => rfl)) pa_nil))))))) pss_nil)
    (pss_cons (ps_if (pt_cmpR op_eq (pv 1) pe_int (nomark _)) (pss_one (ps_ret (pe_meth0 (pv 0) T.C_Keeper T.M_Keeper_skater (ok_Keeper_skater T (kp := kp)) (hr.mono (by decide)) T.b_Keeper_skater .nil (passes_call (takes_of rfl rfl rfl rfl) fun _ _ _ _ h => h)))) pss_nil)
    (pss_cons (ps_if (pt_cmpR op_eq (pv 1) pe_int (nomark _)) (pss_one (ps_ret (pe_meth (pv 0) T.C_Keeper T.M_Keeper_read (ok_Keeper_read T (kp := kp)) (hr.mono (by decide)) T.b_Keeper_read .nil (passes_call (takes_of rfl rfl rfl rfl) fun _ _ _ _ h => h) (by exact (pa_cons (pe_ix ix_list (pv 3) pe_int (fun _ _ => rfl)) pa_nil))))) pss_nil)
    (pss_cons (ps_if (pt_cmpR op_le (pv 1) pe_int (nomark _)) (pss_one (ps_ret (pe_call (ok_of_skating T (kp := kp)) (hr.mono (by decide)) rfl T.g_of_skating T.k_of_skating T.b_of_skating .nil (passes_call (takes_of rfl rfl rfl rfl) fun _ _ _ _ h => h) (by exact (pa_cons (pv 0) (pa_cons (pv 1) (pa_cons (pv 2) (pa_cons (pv 3) pa_nil)))))))) pss_nil)
    (pss_cons (ps_if (pt_cmpR op_eq (pv 1) pe_int (nomark _)) (pss_one (ps_ret (pe_meth (pv 0) T.C_Keeper T.M_Keeper_sheet (ok_Keeper_sheet T (kp := kp)) (hr.mono (by decide)) T.b_Keeper_sheet .nil (passes_call (takes_of rfl rfl rfl rfl) fun _ _ _ _ h => h) (by exact (pa_cons (pe_ix ix_list (pv 2) pe_int (fun _ _ => rfl)) (pa_cons (pe_ix ix_list (pv 2) pe_int (fun _ _ => rfl)) pa_nil)))))) pss_nil)
    (pss_cons (ps_if (pt_cmpR op_eq (pv 1) pe_int (nomark _)) (pss_one (ps_ret (pe_meth (pv 0) T.C_Keeper T.M_Keeper_places (ok_Keeper_places T Z) (hr.mono (by decide)) T.b_Keeper_places .nil (passes_call (takes_of rfl rfl rfl rfl) fun _ _ _ _ h => h) (by exact (pa_cons (pe_ix ix_list (pv 2) pe_int (fun _ _ => rfl)) pa_nil))))) pss_nil)
    (pss_one (ps_ret (pe_meth0 (pv 0) T.C_Keeper T.M_Keeper_all_places (ok_Keeper_all_places T Z) (hr.mono (by decide)) T.b_Keeper_all_places .nil pass0))))))))), ?_⟩

  obtain ⟨X, M, kk, rl, prs, prog, s, n, so, ro, xs, rs, rows, k, rfl, hA, hso, hro, hrs, hrl, _, hc, hE⟩ := h
  have skating : 4 ≤ n → n ≤ 8 → ∀ H0, Ex H H0 → sp_told a K kp (fun n => 4 ≤ n ∧ n ≤ 8) [.ref kk, .int n, .ref so, .ref ro] H0 Q E := fun h1 h2 H0 e0 => ⟨X, M, kk, rl, prs, prog, s, n, so, ro, xs, rs, rows, k, rfl, hA.ex e0, ex_l e0 hso, ex_l e0 hro, hrs.ex e0, hrl, ⟨h1, h2⟩, hc, hE.ex e0⟩
  have skate : 4 ≤ n → n ≤ 8 → ∀ H0, Ex H H0 → tRet (tCall (sp_told a K kp (fun n => 4 ≤ n ∧ n ≤ 8)) [] E (tCons (tVar 0) (tCons (tVar 1) (tCons (tVar 2) (tCons (tVar 3) tNil))))) { nx := fun _ H' => Q .non H', rt := Q } [some (.ref kk), some (.int n), some (.ref so), some (.ref ro)] H0 := fun h1 h2 H0 e0 =>
    r_call (args_cons (ev_var rfl) fun H1 e1 => args_cons (ev_var rfl) fun H2 e2 => args_cons (ev_var rfl) fun H3 e3 => args_cons (ev_var rfl) fun H4 e4 => skating h1 h2 H4 ((((e0.trans e1).trans e2).trans e3).trans e4))
  cases hc with
  | c1 x y z =>
    refine q_hit rfl fun H4 e04 => r_meth (ev_var rfl) (hA.ex e04) (fun _ _ _ _ _ => rfl) fun H5 e5 => ?_
    have e05 := e04.trans e5
    refine args_cons (ev_op (ev_var rfl) ev_c (rv_ixL (ex_l e05 hso) rfl)) fun H6 e6 => args_cons (ev_op (ev_var rfl) ev_c (rv_ixL (ex_l (e05.trans e6) hso) rfl)) fun H7 e7 => args_cons (ev_op (ev_var rfl) ev_c (rv_ixL (ex_l ((e05.trans e6).trans e7) hso) rfl)) fun H8 e8 => ?_
    have e08 := ((e05.trans e6).trans e7).trans e8
    exact ⟨X, M, kk, rl, prs, prog, s, x, y, z, rfl, hA.ex e08, hE.ex e08⟩
  | c2 =>
    refine q_skip rfl (by decide) fun H0 e0 => q_hit rfl fun H1 e1 => r_meth (ev_var rfl) (hA.ex (e0.trans e1)) (fun _ _ _ _ _ => rfl) fun H2 e2 => ?_
    have e02 := (e0.trans e1).trans e2
    exact ⟨X, M, kk, rl, prs, prog, s, rfl, hA.ex e02, hE.ex e02⟩
  | c3 t =>
    obtain ⟨r, rfl, q1⟩ := rows1 hrs
    refine q_skip rfl (by decide) fun H0 e0 => q_skip rfl (by decide) fun H1 e1 => q_hit rfl fun H2 e2 => r_meth (ev_var rfl) (hA.ex ((e0.trans e1).trans e2)) (fun _ _ _ _ _ => rfl) fun H3 e3 => args_cons (ev_op (ev_var rfl) ev_c (rv_ixL (ex_l (((e0.trans e1).trans e2).trans e3) hro) rfl)) fun H4 e4 => ?_
    have e04 := (((e0.trans e1).trans e2).trans e3).trans e4
    exact ⟨X, M, kk, rl, prs, prog, s, r, t, rfl, hA.ex e04, ex_l e04 q1, hrl _ (by simp), hE.ex e04⟩
  | c4 i f => exact q_skip rfl (by decide) fun H0 e0 => q_skip rfl (by decide) fun H1 e1 => q_skip rfl (by decide) fun H2 e2 => q_hitLe rfl (by decide) fun H3 e3 => skate (by decide) (by decide) H3 (((e0.trans e1).trans e2).trans e3)
  | c5 h t g => exact q_skip rfl (by decide) fun H0 e0 => q_skip rfl (by decide) fun H1 e1 => q_skip rfl (by decide) fun H2 e2 => q_hitLe rfl (by decide) fun H3 e3 => skate (by decide) (by decide) H3 (((e0.trans e1).trans e2).trans e3)
  | c6 x y z => exact q_skip rfl (by decide) fun H0 e0 => q_skip rfl (by decide) fun H1 e1 => q_skip rfl (by decide) fun H2 e2 => q_hitLe rfl (by decide) fun H3 e3 => skate (by decide) (by decide) H3 (((e0.trans e1).trans e2).trans e3)
  | c7 x y z => exact q_skip rfl (by decide) fun H0 e0 => q_skip rfl (by decide) fun H1 e1 => q_skip rfl (by decide) fun H2 e2 => q_hitLe rfl (by decide) fun H3 e3 => skate (by decide) (by decide) H3 (((e0.trans e1).trans e2).trans e3)
  | c8 => exact q_skip rfl (by decide) fun H0 e0 => q_skip rfl (by decide) fun H1 e1 => q_skip rfl (by decide) fun H2 e2 => q_hitLe rfl (by decide) fun H3 e3 => skate (by decide) (by decide) H3 (((e0.trans e1).trans e2).trans e3)
  | c9 i f =>
    refine q_skip rfl (by decide) fun H0 e0 => q_skip rfl (by decide) fun H1 e1 => q_skip rfl (by decide) fun H2 e2 => q_skipLe rfl (by decide) fun H3 e3 => q_hit rfl fun H4 e4 => ?_
    have e04 := (((e0.trans e1).trans e2).trans e3).trans e4
    refine r_meth (ev_var rfl) (hA.ex e04) (fun _ _ _ _ _ => rfl) fun H5 e5 => args_cons (ev_op (ev_var rfl) ev_c (rv_ixL (ex_l (e04.trans e5) hso) rfl)) fun H6 e6 => args_cons (ev_op (ev_var rfl) ev_c (rv_ixL (ex_l ((e04.trans e5).trans e6) hso) rfl)) fun H7 e7 => ?_
    have e07 := ((e04.trans e5).trans e6).trans e7
    exact ⟨X, M, kk, rl, prs, prog, s, i, f, rfl, hA.ex e07, hE.ex e07⟩
  | c10 f =>
    refine q_skip rfl (by decide) fun H0 e0 => q_skip rfl (by decide) fun H1 e1 => q_skip rfl (by decide) fun H2 e2 => q_skipLe rfl (by decide) fun H3 e3 => q_skip rfl (by decide) fun H4 e4 => q_hit rfl fun H5 e5 => ?_
    have e05 := ((((e0.trans e1).trans e2).trans e3).trans e4).trans e5
    refine r_meth (ev_var rfl) (hA.ex e05) (fun _ _ _ _ _ => rfl) fun H6 e6 => args_cons (ev_op (ev_var rfl) ev_c (rv_ixL (ex_l (e05.trans e6) hso) rfl)) fun H7 e7 => ?_
    have e07 := (e05.trans e6).trans e7
    exact ⟨X, M, kk, rl, prs, prog, s, f, rfl, hA.ex e07, hE.ex e07⟩
  | c11 =>
    refine q_skip rfl (by decide) fun H0 e0 => q_skip rfl (by decide) fun H1 e1 => q_skip rfl (by decide) fun H2 e2 => q_skipLe rfl (by decide) fun H3 e3 => q_skip rfl (by decide) fun H4 e4 => q_skip rfl (by decide) fun H5 e5 => ?_
    have e05 := ((((e0.trans e1).trans e2).trans e3).trans e4).trans e5
    refine r_meth (ev_var rfl) (hA.ex e05) (fun _ _ _ _ _ => rfl) fun H6 e6 => ?_
    refine ⟨X, M, kk, rl, prs, prog, s, rfl, hA.ex (e05.trans e6), (hE.ex (e05.trans e6)).done, fun c h1 h2 => ?_⟩
    have h3 : (((Kg56.ordered s.allKey s.inAll).length : Nat) : Int) = c := congrArg (fun r : Kg56.State × Kg56.Ans => r.2.value) h1
    omega
end
end SkW

set_option Elab.async false
set_option linter.all false
set_option maxRecDepth 100000
set_option maxHeartbeats 4000000
namespace SkW
open PySem PySem.Spec PyProof.Rows L2 Evl LamX
section
variable {P : Program} {w : World} {K : PySem.W.Frag} {mg : Str → Option Value} {base : Heap} {a : Ad} {kc kp : Addr} {X : List Addr}
def sp_answer (a : Ad) (K : PySem.W.Frag) (kp : Addr) : Sp := fun vs H Q _ => ∃ (X M : List Addr) (kk rl : Addr) (prs prog : List Addr) (s : Kg56.State) (n : Int) (so ro : Addr) (xs : List Int) (rs : List Addr) (rows : List (List Int)) (k : Kg56.Call), vs = [.ref kk, .int n, .ref so, .ref ro] ∧ Asked a K kp X M H kk rl prs prog s ∧
  SqL K H so (xs.map V.int) ∧ SqL K H ro (rs.map V.ref) ∧ Rows K H rs rows ∧ (∀ r ∈ rows, r.length ≤ 1000) ∧ CallIs n xs rows k ∧ DoneP a K kp X M H kk (Kg56.spec s k).1 ((Kg56.spec s k).2.value :: (Kg56.spec s k).2.out) Q
theorem r_callSD {σ : L2.St} {H : Hp} {D : Ends} {t : TA} {sp : Sp} {E : L2.St → XK} (k : t σ H fun vs H1 => sp (vs ++ []) H1 D.rt (E σ)) : tRet (tCallSD sp [] E t) D σ H := k
theorem ok_answer (T : Txt K mg a) (Z : TabH K base mg a kc kp) : FnOk P w K mg base CX0 13 a.f_answer a.d_answer ["keeper", "call", "some", "rows"] (sp_answer a K kp) := by
  refine T.F_answer.ok sc_answer (fun vs H Q E h => ?_) (fun cdv A outer s H vs Q E hr h => ?_)
  · obtain ⟨_, _, _, _, _, _, _, _, _, _, _, _, _, _, rfl, _⟩ := h
    rfl
  refine ⟨_, pss_one (ps_try_as (i := 4) (n := "e") (c := .ref a.c_Refused) (Wout := fun _ _ _ _ => False) (tb := fun W => tRet (tCallSD (sp_told a K kp fun _ => True) [] (fun σ => WE W σ) (tCons (tVar 0) (tCons (tVar 1) (tCons (tVar 2) (tCons (tVar 3) tNil))))))
    (ts := fun a' cls d => tRet (tLst (tCons (tXf a' cls d a.c_Refused "code" (tVar 4)) tNil))) rfl rfl sc_answer.nd rfl rfl ⟨rfl, by decide, .inl T.gC_Refused⟩ L2.takes0
    (fun W pn xe tk _ => pss_one (ps_ret (pe_callSD (ok_told T Z) (hr.mono (by decide)) rfl T.g_told T.k_told T.b_told .nil (passAt tk) (by exact (pa_cons (pv 0) (pa_cons (pv 1) (pa_cons (pv 2) (pa_cons (pv 3) pa_nil))))))))
    (fun a' oe cls d pn hz hf => pss_one (ps_ret (pe_lst (pa_cons (pe_xf T.xf_Refused T.no_Refused hz hf (pv 4)) pa_nil))))), ?_⟩
  obtain ⟨X, M, kk, rl, prs, prog, st, n, so, ro, xs, rs, rows, k, rfl, hA, hso, hro, hrs, hrl, hc, hd⟩ := h
  refine r_callSD (args_cons (ev_var rfl) fun H1 e1 => args_cons (ev_var rfl) fun H2 e2 => args_cons (ev_var rfl) fun H3 e3 => args_cons (ev_var rfl) fun H4 e4 => ?_)
  have e04 := ((e1.trans e2).trans e3).trans e4
  refine ⟨X, M, kk, rl, prs, prog, st, n, so, ro, xs, rs, rows, k, rfl, hA.ex e04, ex_l e04 hso, ex_l e04 hro, hrs.ex e04, hrl, trivial, hc, ?_, fun code h1 h2 d H' e5 h5 => ⟨true, T.te_Refused, fun _ a' ha' => ?_, fun z => by cases z⟩⟩
  · exact fun q M' rl' prs' prog' H' x0 x1 x2 x3 x4 x5 => hd q M' rl' prs' prog' H' (fun ⟨o, n, t⟩ => x0 ⟨o, e04 _ _ n, t⟩) ((frz_mono e04).trans x1) (fun m hm => (x2 m hm).imp id fun z => fresh_back e04 z) x3 x4 x5
  · rw [h1] at hd
    refine ⟨_, rfl, rfl, rfl, d, _, .int code, rfl, h5, rfl, Nat.le_of_ble_eq_true rfl, fun q hq => ?_⟩
    have e06 := (e04.trans e5).trans (Ex.new (o := .lst [.int code]) hq)
    exact hd q M rl prs prog _ (ex_no (e04.trans e5) hq) (frz_le.trans e06) (fun m hm => .inl hm) (hA.1.ext e06) (hA.2.ex e06) upd_same
end
end SkW

set_option Elab.async false
set_option linter.all false
set_option maxRecDepth 100000
set_option maxHeartbeats 4000000
namespace SkW
open PySem PySem.Spec PyProof.Rows L2 Evl LamX
theorem cut_mid (xs : List V) (i j : Nat) (hi : i ≤ j) (hj : j ≤ xs.length) : cutV xs (some (i : Int)) (some (j : Int)) = (xs.drop i).take (j - i) := by
  unfold cutV
  rw [HT.sIx_nat, HT.sIx_nat, Nat.min_eq_left hj, Nat.min_eq_left (by omega)]
section
variable {P : Program} {w : World} {K : PySem.W.Frag} {mg : Str → Option Value} {base : Heap} {a : Ad} {kc kp : Addr}
def sp_rows_at (K : PySem.W.Frag) : Sp := fun vs H Q _ => ∃ (c : Addr) (zs : List Int) (at_ many : Nat) (rows : List (List Int)) (rest : List Int), vs = [.ref c, .int at_, .int many] ∧ SqL K H c (zs.map V.int) ∧ PyFlat.rows many (zs.drop at_) = some (rows, rest) ∧ at_ ≤ zs.length ∧ many ≤ 100 ∧
  ∀ t f rs here H', Ex H H' → H' t = some (.tup [.ref f, .int (here : Nat)]) → H' f = some (.lst (rs.map V.ref)) → Rows K H' rs rows → rest = zs.drop here → here ≤ zs.length → Q (.ref t) H'
theorem rows_step {zs : List Int} {here k : Nat} {rows : List (List Int)} {rest : List Int} (h : PyFlat.rows (k + 1) (zs.drop here) = some (rows, rest)) : ∃ (n : Nat) (x : List Int) (xs : List (List Int)), zs[here]? = some (n : Int) ∧ here + 1 + n ≤ zs.length ∧ rows = x :: xs ∧ x = (zs.drop (here + 1)).take n ∧ PyFlat.rows k (zs.drop (here + 1 + n)) = some (xs, rest) := by
  rw [PyFlat.rows] at h
  cases hz : zs.drop here with
  | nil => rw [hz] at h; cases h
  | cons v r =>
    rw [hz] at h
    have hr : r = zs.drop (here + 1) := by
      have := congrArg List.tail hz
      rw [List.tail_drop] at this
      exact this.symm
    have hv : zs[here]? = some v := by
      have := congrArg (fun l : List Int => l[0]?) hz
      simpa using this
    have hrow : PyFlat.row (v :: r) = if 0 ≤ v ∧ v.toNat ≤ r.length then some (r.take v.toNat, r.drop v.toNat) else none := rfl
    rw [hrow] at h
    by_cases c : 0 ≤ v ∧ v.toNat ≤ r.length
    · rw [if_pos c] at h
      have hlr : r.length = zs.length - (here + 1) := by rw [hr, List.length_drop]
      have hhl := (List.getElem?_eq_some_iff.mp hv).1
      cases q : PyFlat.rows k (r.drop v.toNat) with
      | none => simp only [q] at h; cases h
      | some y =>
        obtain ⟨ys, t⟩ := y
        simp only [q] at h
        cases h
        refine ⟨v.toNat, r.take v.toNat, ys, ?_, by omega, rfl, by rw [hr], ?_⟩
        · rw [hv]; exact congrArg some (by omega)
        · rw [← q, hr, List.drop_drop]
    · rw [if_neg c] at h; cases h
theorem ok_rows_at (T : Txt K mg a) : FnOk P w K mg base CX0 1 a.f_rows_at a.d_rows_at ["calls", "at", "many"] (sp_rows_at K) := by
  refine T.F_rows_at.ok sc_rows_at (fun vs H Q E h => ?_) (fun cdv A outer s H vs Q E hr h => ?_)
  · obtain ⟨_, _, _, _, _, _, rfl, _⟩ := h
    rfl
  refine ⟨_, (pss_cons (ps_set (i := 3) sc_rows_at.nd rfl (Or.inl rfl) (pe_lst pa_nil))
    (pss_cons (ps_set (i := 4) sc_rows_at.nd rfl (Or.inl rfl) (pv 1))
    (pss_cons (ps_for PassesOwn.never rfl (pi_range1 rfl T.n_range (by exact (pa_cons (pv 2) pa_nil))) (pg_name (i := 5) sc_rows_at.nd rfl (Or.inl rfl))
      (pss_cons (ps_set (i := 6) sc_rows_at.nd rfl (Or.inl rfl) (pe_op op_add (pe_op op_add (pv 4) pe_int) (pe_ix ix_list (pv 0) (pv 4) (fun _ _ => rfl))))
    (pss_cons (ps_expr (pe_bm PySem.F.plainAttrs_list PySem.F.slot_list_append PySem.F.type_list_append mt_append (pv 3) (by exact (pa_cons (pe_slice sl_list (pv 0) (po_some (pe_op op_add (pv 4) pe_int)) (po_some (pv 6))) pa_nil))))
    (pss_one (ps_set (i := 4) sc_rows_at.nd rfl (Or.inl rfl) (pv 6))))))
    (pss_one (ps_ret (pe_tup (pa_cons (pv 3) (pa_cons (pv 4) pa_nil)))))))), ?_⟩

  obtain ⟨c, zs, at_, many, rows, rest, rfl, hc, hrows, hat, hm, k⟩ := h
  refine q_asgL (el_lst ea_nil (Nat.zero_le _)) fun f H1 hf e1 h1 => ?_
  refine q_asg (ev_var rfl) fun H2 e2 => ?_
  refine q_forR1 (n := many) (ea_cons (ev_var rfl) ea_nil) (by omega) (fun i σ' H' => Ex H H' ∧ ∃ (here : Nat) (done left : List (List Int)) (rs : List Addr), rows = done ++ left ∧ done.length = i ∧ PyFlat.rows (many - i) (zs.drop here) = some (left, rest) ∧ here ≤ zs.length ∧ H' f = some (.lst (rs.map V.ref)) ∧ Paired (fun r (ns : List Int) => SqL K H' r (ns.map V.int) ∧ r ≠ f) rs done ∧
      ∃ x y, σ' = [some (.ref c), some (.int (at_ : Nat)), some (.int (many : Nat)), some (.ref f), some (.int (here : Nat)), x, y]) (fun H3 e3 => ⟨(e1.trans e2).trans e3, at_, [], rows, [], rfl, rfl, hrows, hat, (e2.trans e3) _ _ h1, .nil, none, none, rfl⟩) (fun i σ' H' hi pv => ?_) (fun σ' H' pv => ?_)
  · obtain ⟨ex, here, done, left, rs, hd, hdl, hrw, hh, hff, hp, x, y, hσ⟩ := pv
    subst hσ
    have hik : many - i = (many - (i + 1)) + 1 := by omega
    rw [hik] at hrw
    obtain ⟨n, row, xs, z1, z2, z3, z4, z5⟩ := rows_step hrw
    have hc' := ex_l ex hc
    refine q_asg (ev_is (ev_op (ev_op (ev_var rfl) ev_c rv_I0) (ev_op (ev_var rfl) (ev_var rfl) (rv_ixL hc' (atI_nat (by rw [List.getElem?_map, z1]; rfl)))) rv_I0) (show V.int ((here : Int) + 1 + (n : Int)) = V.int ((here + 1 + n : Nat) : Int) by rw [show ((here + 1 + n : Nat) : Int) = (here : Int) + 1 + (n : Int) by omega])) fun H3 e3 => ?_
    have cut : cutV (zs.map V.int) (some ((here : Int) + 1)) (some ((here + 1 + n : Nat) : Int)) = row.map V.int := by
      have := cut_mid (zs.map V.int) (here + 1) (here + 1 + n) (by omega) (by rw [List.length_map]; exact z2)
      rw [show ((here + 1 : Nat) : Int) = (here : Int) + 1 by omega] at this
      rw [this, z4, List.map_take, List.map_drop]
      congr 1
      omega
    have hrl : rs.length ≤ 1000 := by have := Paired.length hp; omega
    refine q_appL (e3 _ _ hff) (ev_var rfl) (el_is (el_sl (ev_var rfl) (eo_some (ev_op (ev_var rfl) ev_c rv_I0)) (eo_some (ev_var rfl)) (ex_l e3 hc')) cut) (by rw [List.length_map]; omega) fun r H4 hr e4 h4 => ?_
    have hf4 := e4 _ _ (e3 _ _ hff)
    have nrf : r ≠ f := fun z => by rw [z, e3 _ _ hff] at hr; cases hr
    have e34 := e3.trans e4
    refine s_asg (ev_var rfl) fun H5 e5 => ?_
    have upl : ∀ (r' : Addr) (ns : List Int), SqL K H4 r' (ns.map V.int) → r' ≠ f → SqL K (upd H4 f (.lst (rs.map V.ref ++ [.ref r]))) r' (ns.map V.int) := fun r' ns h n => h.imp (fun h => h.imp (fun q => by rw [upd_ne n]; exact q) fun ⟨o, q⟩ => ⟨o, by rw [upd_ne n]; exact q⟩) id
    refine ⟨((ex.trans e34).mut (fresh_back (Ex.refl H) hf)).trans e5, here + 1 + n, done ++ [row], xs, rs ++ [r], by rw [hd, z3, List.append_assoc]; rfl, by rw [List.length_append, hdl]; rfl, z5, z2, ?_, ?_, _, _, rfl⟩
    · rw [e5 _ _ upd_same, List.map_append]; rfl
    · exact Paired.snoc (Paired.mapP hp fun r' ns ⟨q1, q2⟩ => ⟨ex_l e5 (upl r' ns (ex_l e34 q1) q2), q2⟩) ⟨ex_l e5 (upl r row (sq_of h4) nrf), nrf⟩
  · obtain ⟨ex, here, done, left, rs, hd, hdl, hrw, hh, hff, hp, x, y, hσ⟩ := pv
    subst hσ
    have hdl : done.length = many := by have : ((many : Nat) : Int).toNat = many := by omega
                                        rw [this] at hdl; exact hdl
    have hz : many - ((many : Nat) : Int).toNat = 0 := by omega
    rw [hz] at hrw
    rw [PyFlat.rows] at hrw
    cases hrw
    rw [List.append_nil] at hd
    subst hd
    refine s_retU (eu_tup (ea_cons (ev_var rfl) (ea_cons (ev_var rfl) ea_nil)) (Nat.le_of_ble_eq_true rfl)) fun t H3 ht e3 h3 => k t f rs here H3 (ex.trans e3) h3 (e3 _ _ hff) (Paired.mapP hp fun _ _ z => ex_l e3 z.1) rfl hh
end
end SkW

set_option Elab.async false
set_option linter.all false
set_option maxRecDepth 100000
set_option maxHeartbeats 4000000
namespace SkW
open PySem PySem.Spec PyProof.Rows L2 Evl LamX
/-! ### the calls, as a list of numbers -/
theorem whole_is (c : List (List Int)) : PyKg56.whole c = c := by
  unfold PyKg56.whole
  split <;> rfl
/-- a call that may be asked -/
def CallOk (c : List (List Int)) : Prop := ∃ (n : Int) (xs : List Int) (rows : List (List Int)) (k : Kg56.Call), c = (n :: xs) :: rows ∧ CallIs n xs rows k ∧ (∀ r ∈ rows, r.length ≤ 1000) ∧ Kg56Neutral.callOf c = some k
theorem row_le {l : List Int} {m : Nat} (h : Kg56Neutral.row l m = true) : l.length ≤ m := by
  unfold Kg56Neutral.row at h
  rw [Bool.and_eq_true] at h
  exact of_decide_eq_true h.2
theorem asked_ok {c : List (List Int)} (h : Kg56Neutral.asked1 c = true) : CallOk c := by
  unfold Kg56Neutral.asked1 at h
  split at h
  · exact ⟨_, _, _, _, rfl, .c1 _ _ _, fun r hr => (by cases hr), rfl⟩
  · exact ⟨_, _, _, _, rfl, .c2, fun r hr => (by cases hr), rfl⟩
  · refine ⟨_, _, _, _, rfl, .c3 _, fun r hr => ?_, rfl⟩
    rw [List.mem_singleton.mp hr]
    have := row_le h
    omega
  · exact ⟨_, _, _, _, rfl, .c4 _ _, fun r hr => (by cases hr), rfl⟩
  · refine ⟨_, _, _, _, rfl, .c5 _ _ _, fun r hr => ?_, rfl⟩
    rw [Bool.and_eq_true, Bool.and_eq_true] at h
    have h1 := row_le h.2.1
    have h2 := row_le h.2.2
    simp only [List.mem_cons, List.not_mem_nil, or_false] at hr
    rcases hr with e | e <;> rw [e] <;> omega
  · refine ⟨_, _, _, _, rfl, .c6 _ _ _, fun r hr => ?_, rfl⟩
    rw [Bool.and_eq_true, Bool.and_eq_true] at h
    have h1 := row_le h.1
    have h2 := row_le h.2.1
    have h3 := row_le h.2.2
    simp only [List.mem_cons, List.not_mem_nil, or_false] at hr
    rcases hr with e | e | e <;> rw [e] <;> omega
  · exact ⟨_, _, _, _, rfl, .c7 _ _ _, fun r hr => (by cases hr), rfl⟩
  · exact ⟨_, _, _, _, rfl, .c8, fun r hr => (by cases hr), rfl⟩
  · exact ⟨_, _, _, _, rfl, .c9 _ _, fun r hr => (by cases hr), rfl⟩
  · exact ⟨_, _, _, _, rfl, .c10 _, fun r hr => (by cases hr), rfl⟩
  · exact ⟨_, _, _, _, rfl, .c11, fun r hr => (by cases hr), rfl⟩
  · cases h
def SHAPE : List (List Int) := [[0, 0], [3, 0], [0, 0], [0, 1], [2, 0], [1, 2], [0, 3], [3, 0], [0, 0], [2, 0], [1, 0], [0, 0]]
theorem shape_at {n : Int} {xs : List Int} {rows : List (List Int)} {k : Kg56.Call} (h : CallIs n xs rows k) : PyKg56.shape n = some (xs.length, rows.length) ∧ ∃ m : Nat, n = (m : Int) ∧ SHAPE[m]? = some [((xs.length : Nat) : Int), ((rows.length : Nat) : Int)] ∧ xs.length ≤ 3 ∧ rows.length ≤ 3 := by
  cases h
  · exact ⟨rfl, 1, rfl, rfl, by simp, by simp⟩
  · exact ⟨rfl, 2, rfl, rfl, by simp, by simp⟩
  · exact ⟨rfl, 3, rfl, rfl, by simp, by simp⟩
  · exact ⟨rfl, 4, rfl, rfl, by simp, by simp⟩
  · exact ⟨rfl, 5, rfl, rfl, by simp, by simp⟩
  · exact ⟨rfl, 6, rfl, rfl, by simp, by simp⟩
  · exact ⟨rfl, 7, rfl, rfl, by simp, by simp⟩
  · exact ⟨rfl, 8, rfl, rfl, by simp, by simp⟩
  · exact ⟨rfl, 9, rfl, rfl, by simp, by simp⟩
  · exact ⟨rfl, 10, rfl, rfl, by simp, by simp⟩
  · exact ⟨rfl, 11, rfl, rfl, by simp, by simp⟩
/-- the next call, off the numbers that are left -/
theorem next_call {zs : List Int} {at_ f : Nat} {cs : List (List (List Int))} (h : PyFlat.calls PyKg56.shape f (zs.drop at_) = some cs) (hat : at_ ≤ zs.length) :
    (at_ = zs.length ∧ cs = []) ∨ (at_ < zs.length ∧ ∃ c cs' f' n xs rows t, cs = c :: cs' ∧ c = (n :: xs) :: rows ∧ zs[at_]? = some n ∧ PyFlat.calls PyKg56.shape f' t = some cs' ∧
      (∀ nn kk, PyKg56.shape n = some (nn, kk) → at_ + 1 + nn ≤ zs.length ∧ xs = (zs.drop (at_ + 1)).take nn ∧ PyFlat.rows kk (zs.drop (at_ + 1 + nn)) = some (rows, t))) := by
  cases hz : zs.drop at_ with
  | nil =>
    rw [hz] at h
    refine .inl ⟨?_, ?_⟩
    · have := congrArg List.length hz
      rw [List.length_drop] at this
      have : zs.length - at_ = 0 := this
      omega
    · cases f with
      | zero => rw [PyFlat.calls] at h; cases h; rfl
      | succ f => rw [PyFlat.calls] at h; cases h; rfl
  | cons p r =>
    rw [hz] at h
    have hr : r = zs.drop (at_ + 1) := by
      have := congrArg List.tail hz
      rw [List.tail_drop] at this
      exact this.symm
    have hv : zs[at_]? = some p := by
      have := congrArg (fun l : List Int => l[0]?) hz
      simpa using this
    refine .inr ⟨(List.getElem?_eq_some_iff.mp hv).1, ?_⟩
    cases f with
    | zero => rw [PyFlat.calls] at h; cases h
    | succ f =>
      rw [PyFlat.calls] at h
      cases q : PyFlat.call PyKg56.shape (p :: r) with
      | none => simp only [q] at h; cases h
      | some y =>
        obtain ⟨c, t⟩ := y
        simp only [q] at h
        cases q2 : PyFlat.calls PyKg56.shape f t with
        | none => simp only [q2] at h; cases h
        | some cs' =>
          simp only [q2] at h
          cases h
          have hcall : PyFlat.call PyKg56.shape (p :: r) = match PyKg56.shape p with
            | none => none
            | some (n, k) => if r.length < n then none else match PyFlat.rows k (r.drop n) with
              | none => none
              | some (xs, t) => some ((p :: r.take n) :: xs, t) := rfl
          rw [hcall] at q
          cases hs : PyKg56.shape p with
          | none => simp only [hs] at q; cases q
          | some nk =>
            obtain ⟨nn, kk⟩ := nk
            simp only [hs] at q
            by_cases c1 : r.length < nn
            · rw [if_pos c1] at q; cases q
            · rw [if_neg c1] at q
              cases q3 : PyFlat.rows kk (r.drop nn) with
              | none => simp only [q3] at q; cases q
              | some y =>
                obtain ⟨rows, t'⟩ := y
                simp only [q3] at q
                cases q
                refine ⟨_, cs', f, p, r.take nn, rows, t, rfl, rfl, hv, q2, fun nn' kk' h' => ?_⟩
                rw [hs] at h'
                cases h'
                have hlr : r.length = zs.length - (at_ + 1) := by rw [hr, List.length_drop]
                have := (List.getElem?_eq_some_iff.mp hv).1
                refine ⟨by omega, by rw [hr], ?_⟩
                rw [← q3, hr, List.drop_drop]
theorem le_if {c : Prop} [Decidable c] {x y : Kg56.State × Kg56.Ans} (h1 : x.2.out.length ≤ 100) (h2 : y.2.out.length ≤ 100) : (if c then x else y).2.out.length ≤ 100 := by
  split
  · exact h1
  · exact h2
/-- what's answered to a call isn't long -/
theorem out_le {s : Kg56.State} (ok : StateOk s) (k : Kg56.Call) : (Kg56.spec s k).2.out.length ≤ 100 := by
  have hp : ∀ f : Kg56.State → Nat → Kg56.Program → Kg56.State × Kg56.Ans, (∀ w p, (f s w p).2.out.length ≤ 100) → (Kg56.onProgram s (f s)).2.out.length ≤ 100 := fun f h => by
    unfold Kg56.onProgram
    cases s.now with
    | none => exact Nat.zero_le _
    | some x => exact h _ _
  have flat3 : ∀ (l : List Nat) (g : Nat → List Int), (∀ i, (g i).length = 3) → l.length ≤ 30 → (l.flatMap g).length ≤ 100 := fun l g hg hl => by
    rw [List.length_flatMap, List.map_congr_left (fun i _ => hg i), List.map_const', List.sum_replicate_nat]
    omega
  have ord : ∀ (key : Nat → List Int) (l : List Nat), (Kg56.ordered key l).length = l.length := fun key l => by
    have gen : ∀ (l acc : List Nat), (l.foldl (fun s x => Kg56.put key x s) acc).length = acc.length + l.length := by
      intro l
      induction l with
      | nil => intro acc; rfl
      | cons x l ih =>
        intro acc
        show (l.foldl _ (Kg56.put key x acc)).length = _
        rw [ih, (put_perm key x acc).length_eq, List.length_cons, List.length_cons]
        omega
    have := gen l []
    show (l.foldl _ []).length = l.length
    rw [this]
    simp
  have filt : ∀ f : Nat → Bool, ((List.range s.skaters.length).filter f).length ≤ 30 := fun f => by
    have h1 := List.length_filter_le f (List.range s.skaters.length)
    rw [List.length_range] at h1
    have := ok.few
    omega
  cases k with
  | begin_ j x y =>
    simp only [Kg56.spec]
    exact le_if (Nat.zero_le _) (Nat.zero_le _)
  | skater =>
    simp only [Kg56.spec]
    exact le_if (Nat.zero_le _) (le_if (Nat.zero_le _) (Nat.zero_le _))
  | read t =>
    show (if Kg56.textOk t = false then Kg56.num (-1) else match Kg56.element? (Kg56.nats t) with
      | none => Kg56.num (-4)
      | some e => ⟨((Kg56.showElement e).1 : Nat), Kg56.whole (Kg56.showElement e).2⟩ : Kg56.Ans).out.length ≤ 100
    split
    · exact Nat.zero_le _
    · cases he : Kg56.element? (Kg56.nats t) with
      | none => exact Nat.zero_le _
      | some e =>
        show (Kg56.whole (Kg56.showElement e).2).length ≤ 100
        unfold Kg56.whole
        rw [List.length_map]
        have wf := Sk.element_wf (t := Kg56.nats t) (e := e) (by rw [Sk.element_of]; exact he)
        cases e with
        | jumps l =>
          have h3 : l.length ≤ 3 := wf.2.1
          show (l.flatMap fun j => [j.kind, j.turns, j.edge, j.less, j.worth]).length ≤ 100
          rw [List.length_flatMap]
          have : (l.map fun j => ([j.kind, j.turns, j.edge, j.less, j.worth] : List Nat).length) = l.map fun _ => 5 := List.map_congr_left fun _ _ => rfl
          rw [this, List.map_const', List.sum_replicate_nat]
          omega
        | spin n v => exact (by decide : 3 ≤ 100)
        | steps v => exact (by decide : 2 ≤ 100)
        | choreo => exact (by decide : 1 ≤ 100)
  | start i f =>
    simp only [Kg56.spec]
    exact le_if (Nat.zero_le _) (le_if (Nat.zero_le _) (le_if (Nat.zero_le _) (Nat.zero_le _)))
  | element h t g =>
    simp only [Kg56.spec]
    unfold Kg56.onProgram
    cases s.now with
    | none => exact Nat.zero_le _
    | some x =>
      refine le_if (Nat.zero_le _) ?_
      cases Kg56.element? (Kg56.nats t) with
      | none => exact Nat.zero_le _
      | some e => exact le_if (Nat.zero_le _) (Nat.zero_le _)
  | marks x y z =>
    simp only [Kg56.spec]
    unfold Kg56.onProgram
    cases s.now with
    | none => exact Nat.zero_le _
    | some q => exact le_if (Nat.zero_le _) (Nat.zero_le _)
  | faults x y z =>
    simp only [Kg56.spec]
    unfold Kg56.onProgram
    cases s.now with
    | none => exact Nat.zero_le _
    | some q => exact le_if (Nat.zero_le _) (Nat.zero_le _)
  | end_ =>
    simp only [Kg56.spec]
    unfold Kg56.onProgram
    cases s.now with
    | none => exact Nat.zero_le _
    | some q => exact le_if (Nat.zero_le _) (by decide : 3 ≤ 100)
  | sheet i f =>
    simp only [Kg56.spec]
    refine le_if (Nat.zero_le _) ?_
    · show (match s.of i.toNat (f == 1) with
        | none => Kg56.num (-4)
        | some x => ⟨x.1.elements.length, x.1.sheet.flatMap fun y => [(y.1 : Int), y.2]⟩ : Kg56.Ans).out.length ≤ 100
      cases c : s.of i.toNat (f == 1) with
      | none => exact Nat.zero_le _
      | some x =>
        have hx : x.1.elements.length ≤ 20 := by
          unfold Kg56.State.of at c
          cases c2 : s.skaters[i.toNat]? with
          | none => rw [c2] at c; cases c
          | some k => rw [c2] at c; exact ok.sheets k (List.mem_of_getElem? c2) _ x c
        show (x.1.sheet.flatMap fun y => [(y.1 : Int), y.2]).length ≤ 100
        rw [List.length_flatMap]
        have : (x.1.sheet.map fun y => ([(y.1 : Int), y.2] : List Int).length) = x.1.sheet.map fun _ => 2 := List.map_congr_left fun _ _ => rfl
        rw [this, List.map_const', List.sum_replicate_nat, sheet_len]
        omega
  | places f =>
    simp only [Kg56.spec]
    exact le_if (Nat.zero_le _) (flat3 _ _ (fun _ => rfl) (by rw [ord]; exact filt _))
  | all => exact flat3 _ _ (fun _ => rfl) (by rw [ord]; exact filt _)
end SkW

set_option Elab.async false
set_option linter.all false
set_option maxRecDepth 100000
set_option maxHeartbeats 4000000
namespace SkW
open PySem PySem.Spec PyProof.Rows L2 Evl LamX
section
variable {P : Program} {w : World} {K : PySem.W.Frag} {mg : Str → Option Value} {base : Heap} {a : Ad} {kc kp : Addr}
/-- what's told of the calls that are left -/
def left_ (s : Kg56.State) (cs : List (List (List Int))) : List Int := PyFlat.told (PyFlat.played Kg56Neutral.step s cs)
theorem left_cons {s : Kg56.State} {c : List (List Int)} {cs : List (List (List Int))} {k : Kg56.Call} (h : Kg56Neutral.callOf c = some k) : left_ s (c :: cs) = ((((Kg56.spec s k).2.value :: (Kg56.spec s k).2.out).length : Nat) : Int) :: ((Kg56.spec s k).2.value :: (Kg56.spec s k).2.out) ++ left_ (Kg56.spec s k).1 cs := by
  unfold left_
  have e1 : Kg56Neutral.step s c = ((Kg56.spec s k).1, (Kg56.spec s k).2.value :: (Kg56.spec s k).2.out) := by
    unfold Kg56Neutral.step
    rw [h]
  rw [PyFlat.played, e1]
  rfl
theorem sq_frz {H : Hp} {c : Addr} {xs : List V} (h : SqL K H c xs) : SqL K (frz [] H) c xs := h.imp (fun h => h.imp (fun q => frz_of List.not_mem_nil q) fun ⟨o, q⟩ => ⟨o, frz_of List.not_mem_nil q⟩) id
/-- while the calls are answered -/
structure LoopAt (a : Ad) (K : PySem.W.Frag) (kp : Addr) (H : Hp) (c kk f : Addr) (zs target : List Int) (m : Nat) (σ' : L2.St) (H' : Hp) : Prop where
  base_ : Ex (frz [] H) H'
  st : ∃ (at_ fuel : Nat) (cs : List (List (List Int))) (s : Kg56.State) (out : List Int) (M : List Addr) (rl : Addr) (prs prog : List Addr), m = cs.length ∧ at_ ≤ zs.length ∧ PyFlat.calls PyKg56.shape fuel (zs.drop at_) = some cs ∧ (∀ x ∈ cs, CallOk x) ∧ out ++ left_ s cs = target ∧ out.length + 110 * cs.length ≤ 20000 ∧
    (∀ b ∈ M, ¬ Nt H b) ∧ f ∉ M ∧ Asked a K kp [f] M H' kk rl prs prog s ∧ H' f = some (.lst (out.map V.int)) ∧ ∃ x4 x5 x6 x7 x8 x9 x10, σ' = [some (.ref c), some (.ref kk), some (.ref f), some (.int (at_ : Nat)), x4, x5, x6, x7, x8, x9, x10]
def sp_answers (K : PySem.W.Frag) (kp : Addr) : Sp := fun vs H Q _ => ∃ (c : Addr) (zs : List Int), vs = [.ref c] ∧ Tabs (tabsOf kp) H ∧ SqL K H c (zs.map V.int) ∧ PyKg56.answers_asked zs = true ∧ ∀ q H', H' q = some (.lst ((PyKg56.answers zs).map V.int)) → Q (.ref q) H'
theorem asked_calls {zs : List Int} (h : PyKg56.answers_asked zs = true) : ∃ cs, PyFlat.calls PyKg56.shape zs.length zs = some cs ∧ (∀ x ∈ cs, CallOk x) ∧ cs.length ≤ 150 ∧ PyKg56.answers zs = left_ Kg56.init cs := by
  unfold PyKg56.answers_asked at h
  cases hc : PyFlat.calls PyKg56.shape zs.length zs with
  | none => rw [hc] at h; cases h
  | some cs =>
    rw [hc] at h
    have hw : cs.map PyKg56.whole = cs := by
      have : cs.map PyKg56.whole = cs.map id := List.map_congr_left fun x _ => whole_is x
      rw [this, List.map_id]
    have h' : (!cs.isEmpty && PyFlat.atMost 150 cs && PyInside.calls PyKg56.bound cs && Kg56Neutral.asked (cs.map PyKg56.whole) && PyFlat.short 10000000 (PyKg56.answers zs)) = true := h
    simp only [Bool.and_eq_true] at h'
    obtain ⟨⟨⟨⟨_, h2⟩, _⟩, h4⟩, _⟩ := h'
    rw [hw] at h4
    unfold Kg56Neutral.asked at h4
    rw [Bool.and_eq_true] at h4
    refine ⟨cs, rfl, fun x hx => asked_ok (List.all_eq_true.mp h4.1 x hx), of_decide_eq_true h2, ?_⟩
    unfold PyKg56.answers PyKg56.calls
    rw [hc]
    show PyFlat.told (PyFlat.played Kg56Neutral.step Kg56Neutral.start (cs.map PyKg56.whole)) = _
    rw [hw]
    rfl
theorem make_keeper {σ : L2.St} {H : Hp} {Q : VK} {E : XK} (hT : Tabs (tabsOf kp) H) (k : ∀ kk rl H1, Ex H H1 → H kk = none → H rl = none → Asked a K kp [] [kk, rl] H1 kk rl [] [] Kg56.init → Q (.ref kk) H1) : tMake a.c_Keeper (sp_Keeper_init a K) [] E tNil σ H Q :=
  fun x dx nx nd ne => ⟨x, dx, rfl, upd_same, fun rl fa H1 hrl hfa nrf hk hr hf but => ⟨rfl, by
    have e1 := But.made nx nd but
    have nrx : rl ≠ x := fun z => by rw [z, upd_same] at hrl; cases hrl
    have nfx : fa ≠ x := fun z => by rw [z, upd_same] at hfa; cases hfa
    have rlH : H rl = none := by
      rw [upd_ne nrx] at hrl
      exact fresh_back (Ex.new nd) hrl
    refine k x rl H1 e1 nx rlH ⟨hT.ext e1, rfl, ?_, ⟨dx, fa, .int 0, .non, hk, st_of (frz_of ?_ hf), rfl, rfl⟩, hr, .nil, ⟨.inl rfl, fun _ => ⟨rfl, rfl⟩, Nat.zero_le _, Nat.zero_le _, Nat.zero_le _, fun k h => (by cases h)⟩, fun m hm => (by cases hm)⟩
    · exact List.nodup_cons.mpr ⟨by simp [Ne.symm nrx], List.nodup_cons.mpr ⟨by simp, List.nodup_nil⟩⟩
    · simp only [List.mem_cons, List.not_mem_nil, or_false, List.append_nil]
      rintro (z | z)
      · exact nfx z
      · exact nrf z.symm⟩⟩
theorem q_extV {σ : L2.St} {H : Hp} {D : Ends} {tz : TS} {ta te : TE} {l q : Addr} {xs ys : List V} (hl : H l = some (.lst xs)) (ha : Ev ta σ H (.ref l)) (h : Ev te σ H (.ref q)) (hq : H q = some (.lst ys)) (hz : xs.length + ys.length ≤ 100000) (k : ∀ H1, Ex H H1 → tz D σ (upd H1 l (.lst (xs ++ ys)))) :
    tSeq (tDrop (tBM K "list" rExtend ta (tCons te tNil))) tz D σ H := ha H (Ex.refl H) _ fun H1 e1 =>
  ⟨.inl ⟨rfl, xs, sq_of (e1 l _ hl)⟩, h H1 e1 _ fun H2 e2 => ⟨l, q, xs, ys, rfl, rfl, e2 l _ (e1 l _ hl), e2 q _ (e1 q _ hq), sz_of hz, k H2 (e1.trans e2)⟩⟩
theorem r_asgT {σ : L2.St} {H : Hp} {D : Ends} {tz : TS} {te : TE} {g : TG} (h : te σ H fun v H1 => g v σ H1 fun σ2 H2 => tz D σ2 H2) : tSeq (tAsg te g) tz D σ H := h
theorem ok_answers (T : Txt K mg a) (Z : TabH K base mg a kc kp) : FnOk P w K mg base CX0 15 a.f_answers a.d_answers ["calls"] (sp_answers K kp) := by
  refine T.F_answers.ok sc_answers (fun vs H Q E h => ?_) (fun cdv A outer s H vs Q E hr h => ?_)
  · obtain ⟨_, _, rfl, _⟩ := h
    rfl
  refine ⟨_, (pss_cons (ps_set (i := 1) sc_answers.nd rfl (Or.inl rfl) (pe_make0 T.mk_Keeper (ok_Keeper___init__ T) (hr.mono (by decide)) rfl T.gC_Keeper T.b_Keeper___init__ .nil pass0))
    (pss_cons (ps_set (i := 2) sc_answers.nd rfl (Or.inl rfl) (pe_lst pa_nil))
    (pss_cons (ps_set (i := 3) sc_answers.nd rfl (Or.inl rfl) pe_int)
    (pss_cons (ps_while PassesOwn.never (pt_cmpR op_lt (pv 3) (pe_callB call_len_seq rfl T.n_len (by decide +kernel) (by exact (pa_cons (pv 0) pa_nil))) (nomark _))
      (pss_cons (ps_set (i := 4) sc_answers.nd rfl (Or.inl rfl) (pe_ix ix_list (pv 0) (pv 3) (fun _ _ => rfl)))
    (pss_cons (ps_asg (pe_ix ix_tup (pe_gref rfl T.t_SHAPES) (pv 4) (fun _ _ => rfl)) (pg_tup (n := 2) rfl (pgs_cons (pg_name (i := 5) sc_answers.nd rfl (Or.inl rfl)) (pgs_cons (pg_name (i := 6) sc_answers.nd rfl (Or.inl rfl)) pgs_nil))))
    (pss_cons (ps_set (i := 7) sc_answers.nd rfl (Or.inl rfl) (pe_op op_add (pe_op op_add (pv 3) pe_int) (pv 5)))
    (pss_cons (ps_asg (pe_call (ok_rows_at T) (hr.mono (by decide)) rfl T.g_rows_at T.k_rows_at T.b_rows_at .nil pass0 (by exact (pa_cons (pv 0) (pa_cons (pv 7) (pa_cons (pv 6) pa_nil))))) (pg_tup (n := 2) rfl (pgs_cons (pg_name (i := 8) sc_answers.nd rfl (Or.inl rfl)) (pgs_cons (pg_name (i := 9) sc_answers.nd rfl (Or.inl rfl)) pgs_nil))))
    (pss_cons (ps_set (i := 10) sc_answers.nd rfl (Or.inl rfl) (pe_call (ok_answer T Z) (hr.mono (by decide)) rfl T.g_answer T.k_answer T.b_answer .nil pass0 (by exact (pa_cons (pv 1) (pa_cons (pv 4) (pa_cons (pe_slice sl_list (pv 0) (po_some (pe_op op_add (pv 3) pe_int)) (po_some (pv 7))) (pa_cons (pv 8) pa_nil)))))))
    (pss_cons (ps_expr (pe_bm PySem.F.plainAttrs_list PySem.F.slot_list_append PySem.F.type_list_append mt_append (pv 2) (by exact (pa_cons (pe_callB call_len_seq rfl T.n_len (by decide +kernel) (by exact (pa_cons (pv 10) pa_nil))) pa_nil))))
    (pss_cons (ps_expr (pe_bm PySem.F.plainAttrs_list PySem.F.slot_list_extend PySem.F.type_list_extend mt_extend (pv 2) (by exact (pa_cons (pv 10) pa_nil))))
    (pss_one (ps_set (i := 3) sc_answers.nd rfl (Or.inl rfl) (pv 9)))))))))))
    (pss_one (ps_ret (pv 2))))))), ?_⟩

  obtain ⟨c, zs, rfl, hT, hc, hasked, k⟩ := h
  obtain ⟨cs0, hcs0, hok0, h150, hans⟩ := asked_calls hasked
  refine q_asgX (make_keeper (a := a) (K := K) (kp := kp) hT fun kk rl0 H1 e1 hkk hrl hA => ?_)
  refine q_asgL (el_lst ea_nil (Nat.zero_le _)) fun f H2 hf e2 h2 => ?_
  refine q_asg (v := .int ((0 : Nat) : Int)) ev_c fun H3 e3 => ?_
  have e03 := (e1.trans e2).trans e3
  refine q_while (fun m σ' H' => LoopAt a K kp H c kk f zs (PyKg56.answers zs) m σ' H') cs0.length ⟨frz_le.trans e03, 0, zs.length, cs0, Kg56.init, [], [kk, rl0], rl0, [], [], rfl, Nat.zero_le _, hcs0, hok0, hans.symm, by rw [List.length_nil]; omega, fun b hb => ?_, fun hm => ?_, ⟨hA.1.ext (e2.trans e3), hA.2.move (fun b o hb => ?_) (fun b hb => ?_) (fun m hm => ?_)⟩, e3 _ _ h2, none, none, none, none, none, none, none, rfl⟩ (fun m σ' H' lp => ?_)
  · simp only [List.mem_cons, List.not_mem_nil, or_false] at hb
    rintro ⟨o, ho, _⟩
    rcases hb with z | z
    · rw [z, hkk] at ho; cases ho
    · rw [z, hrl] at ho; cases ho
  · exact hA.2.alive.new hf hm
  · obtain ⟨z1, z2, z3⟩ := frz_some hb
    rw [List.append_nil] at z1
    refine frz_of (fun z => ?_) ((e2.trans e3) _ _ z2) z3
    rcases List.mem_append.mp z with z | z
    · exact z1 z
    · rw [List.mem_singleton.mp z, hf] at z2
      cases z2
  · obtain ⟨o, h1, _⟩ := hA.2.alive b hb
    rw [h1]
    exact (e2.trans e3) _ _ h1
  · rw [List.mem_singleton.mp hm]
    exact ⟨_, e3 _ _ h2, rfl⟩
  obtain ⟨eb, at_, fuel, cs, s, out, M, rl, prs, prog, hm, hat, hcalls, hok, htar, hsize, hnM, hfM, hAs, hff, x4, x5, x6, x7, x8, x9, x10, hσ⟩ := lp
  subst hσ
  have hcl : ∀ X : Hp, Ex (frz [] H) X → SqL K X c (zs.map V.int) := fun X e => ex_l e (sq_frz hc)
  have hc' := hcl H' eb
  refine ⟨decide (at_ < zs.length), et_is (et_test (ev_op (ev_var rfl) (ev_cb (ea_cons (ev_var rfl) ea_nil) (rc_len (.inl hc'))) rv_I0)) (by rw [List.length_map]; exact lt_nat _ _), fun hb H4 e4 => ?_, fun hb H4 e4 => ?_⟩
  · have hlt := of_decide_eq_true hb
    rcases next_call hcalls hat with ⟨z, _⟩ | ⟨_, cl, cs', f', n, xs, rows, t, rfl, rfl, hn, hcalls', hshape⟩
    · omega
    obtain ⟨n', xs', rows', kcall, hceq, hcis, hrl1, hcof⟩ := hok _ List.mem_cons_self
    cases hceq
    obtain ⟨hsh, mm, rfl, hS, hx3, hr3⟩ := shape_at hcis
    obtain ⟨b1, b2, b3⟩ := hshape _ _ hsh
    have hcons := left_cons (s := s) (cs := cs') hcof
    have hout := out_le hAs.2.ok kcall
    refine ⟨fun σ2 H2 => LoopAt a K kp H c kk f zs (PyKg56.answers zs) cs'.length σ2 H2, fun σ2 H2 h => ⟨cs'.length, by rw [hm]; exact Nat.lt_succ_self _, h⟩, ?_⟩
    have e04 := eb.trans e4
    refine q_asg (ev_op (ev_var rfl) (ev_var rfl) (rv_ixL (hcl _ e04) (atI_nat (by rw [List.getElem?_map, hn]; rfl)))) fun H5 e5 => ?_
    have e05 := e04.trans e5
    obtain ⟨q, hq, hqr⟩ : ∃ q, a.u_SHAPES[mm]? = some q ∧ KT K q ([((xs.length : Nat) : Int), ((rows.length : Nat) : Int)].map V.int) := by
      have hU := T.U_SHAPES
      have hl := Paired.length hU
      have hmm := (List.getElem?_eq_some_iff.mp hS).1
      have hml : mm < a.u_SHAPES.length := by rw [hl]; exact hmm
      have hz : a.u_SHAPES[mm]? = some a.u_SHAPES[mm] := List.getElem?_eq_getElem hml
      obtain ⟨y, hy, hr⟩ := paired_get hU hz
      have hy' : SHAPE[mm]? = some y := hy
      rw [hS] at hy'
      cases hy'
      exact ⟨_, hz, hr⟩
    refine q_asgT2 (ev_op ev_c (ev_var rfl) (rv_ixT (T.T_SHAPES.t H5) (atI_nat (by rw [List.getElem?_map, hq]; rfl)))) (hqr.t H5) fun H6 e6 => ?_
    have e06 := e05.trans e6
    refine q_asg (ev_op (ev_op (ev_var rfl) ev_c rv_I0) (ev_var rfl) rv_I0) fun H7 e7 => ?_
    have e07 := e06.trans e7
    have hbeg : (at_ : Int) + 1 + ((xs.length : Nat) : Int) = ((at_ + 1 + xs.length : Nat) : Int) := by omega
    rw [hbeg]
    refine r_asgT (args_cons (ev_var rfl) fun H8 e8 => args_cons (ev_var rfl) fun H9 e9 => args_cons (ev_var rfl) fun H10 e10 => ?_)
    have e710 := (e8.trans e9).trans e10
    have e010 := e07.trans e710
    refine ⟨c, zs, at_ + 1 + xs.length, rows.length, rows, t, rfl, hcl _ e010, b3, b1, by omega, fun tp fr rs here H11 e11 htp hfr hrws hrest hhere => ⟨tp, _, rfl, st_of htp, rfl, _, _, rfl, _, _, rfl, rfl, ?_⟩⟩
    have e011 := e010.trans e11
    have cut : cutV (zs.map V.int) (some ((at_ : Int) + 1)) (some ((at_ + 1 + xs.length : Nat) : Int)) = xs.map V.int := by
      have h1 := cut_mid (zs.map V.int) (at_ + 1) (at_ + 1 + xs.length) (by omega) (by rw [List.length_map]; exact b1)
      rw [show ((at_ + 1 : Nat) : Int) = (at_ : Int) + 1 by omega] at h1
      rw [h1, show at_ + 1 + xs.length - (at_ + 1) = xs.length by omega, ← List.map_drop, ← List.map_take, ← b2]
    refine q_asgX (args_cons (ev_var rfl) fun H12 e12 => args_cons (ev_var rfl) fun H13 e13 => args_consL (el_is (el_sl (ev_var rfl) (eo_some (ev_op (ev_var rfl) ev_c rv_I0)) (eo_some (ev_var rfl)) (hcl _ ((e011.trans e12).trans e13))) cut) fun so H14 hso e14 h14 => args_cons (ev_var rfl) fun H15 e15 => ?_)
    have e1115 := ((e12.trans e13).trans e14).trans e15
    have e415 : Ex H' H15 := (((((e4.trans e5).trans e6).trans e7).trans e710).trans e11).trans e1115
    refine ⟨[f], M, kk, rl, prs, prog, s, (mm : Int), so, fr, xs, rs, rows, kcall, rfl, hAs.ex e415, sq_of (e15 _ _ h14), sq_of (e1115 _ _ hfr), hrws.ex e1115, hrl1, hcis, fun q M' rl' prs' prog' H16 y0 y1 y2 y3 y4 y5 => ?_⟩
    have hf15 := e415 _ _ hff
    have hf16 : H16 f = some (.lst (out.map V.int)) := y1 _ _ (frz_of hfM hf15)
    have eb15 : Ex (frz [] H) (frz M H15) := fun b o hb => by
      obtain ⟨_, z2, z3⟩ := frz_some hb
      exact frz_of (fun hm => hnM b hm ⟨o, z2, z3⟩) (e415 _ _ (eb _ _ hb)) z3
    have eb16 : Ex (frz [] H) H16 := eb15.trans y1
    have hnM' : ∀ b ∈ M', ¬ Nt H b := fun b hb hnt => by
      rcases y2 b hb with z | z
      · exact hnM b z hnt
      · obtain ⟨o, o1, o2⟩ := hnt
        rw [e415 _ _ (eb _ _ (frz_of List.not_mem_nil o1 o2))] at z
        cases z
    have hfM' : f ∉ M' := fun hb => by
      rcases y2 f hb with z | z
      · exact hfM z
      · rw [hf15] at z; cases z
    have ho1 : out.length ≤ 20000 := by rw [List.length_cons] at hsize; omega
    have nqf : q ≠ f := fun z => y0 ⟨_, by rw [z]; exact hf15, rfl⟩
    generalize hOut : ((Kg56.spec s kcall).2.value :: (Kg56.spec s kcall).2.out) = ans at y5 hcons
    have hansl : ans.length ≤ 101 := by rw [← hOut, List.length_cons]; omega
    refine q_app hf16 (ev_var rfl) (ev_cb (ea_cons (ev_var rfl) ea_nil) (rc_len (.inl (sq_of y5)))) (by rw [List.length_map]; omega) fun H17 e17 => ?_
    have q17 : upd H17 f (.lst (out.map V.int ++ [.int ((ans.map V.int).length : Nat)])) q = some (.lst (ans.map V.int)) := (upd_ne nqf).trans (e17 _ _ y5)
    refine q_extV upd_same (ev_var rfl) (ev_var rfl) q17 (by rw [List.length_append, List.length_map, List.length_map]; show out.length + 1 + ans.length ≤ 100000; omega) fun H18 e18 => ?_
    refine s_asg (ev_var rfl) fun H19 e19 => ?_
    have hgone : ∀ b, b ≠ f → ∀ o, H16 b = some o → H19 b = some o := fun b hb o h => e19 _ _ (by
      rw [upd_ne hb]
      exact e18 _ _ (by rw [upd_ne hb]; exact e17 _ _ h))
    have fH : H f = none := fresh_back e1 hf
    have eb19 : Ex (frz [] H) H19 := fun b o hb => hgone b (fun z => by
      have := (frz_some hb).2.1
      rw [z, fH] at this; cases this) o (eb16 _ _ hb)
    have hf19 : H19 f = some (.lst ((out ++ ((ans.length : Nat) : Int) :: ans).map V.int)) := by
      rw [e19 _ _ upd_same, List.map_append, List.map_cons, List.append_assoc, List.length_map]
      rfl
    have hKp : Kp a K [f] M' H19 kk rl' prs' prog' (Kg56.spec s kcall).1 := by
      refine y4.move (fun b o hb => ?_) (fun b hb => ?_) fun m hm => ?_
      · obtain ⟨z1, z2, z3⟩ := frz_some hb
        exact frz_of z1 (hgone b (fun z => z1 (by rw [z]; simp)) o z2) z3
      · obtain ⟨o, h1, _⟩ := y4.alive b hb
        rw [h1]
        exact hgone b (fun z => hfM' (z ▸ hb)) o h1
      · rw [List.mem_singleton.mp hm]
        exact ⟨_, hf19, rfl⟩
    have hT19 : Tabs (tabsOf kp) H19 := (tabs_upd ((tabs_upd (y3.ext e17) (e17 _ _ hf16)).ext e18) (e18 _ _ upd_same)).ext e19
    refine ⟨eb19, here, f', cs', (Kg56.spec s kcall).1, out ++ ((ans.length : Nat) : Int) :: ans, M', rl', prs', prog', rfl, ?_, ?_, fun x hx => hok x (List.mem_cons_of_mem _ hx), ?_, ?_, hnM', hfM', ⟨hT19, hKp⟩, hf19, _, _, _, _, _, _, _, rfl⟩
    · exact hhere
    · rw [← hrest]
      exact hcalls'
    · rw [List.append_assoc]
      exact hcons ▸ htar
    · rw [List.length_append, List.length_cons]
      rw [List.length_cons] at hsize
      omega
  · have hge : ¬ at_ < zs.length := of_decide_eq_false hb
    rcases next_call hcalls hat with ⟨_, z⟩ | ⟨z, _⟩
    · subst z
      have hout : out = PyKg56.answers zs := by rw [← htar]; exact (List.append_nil out).symm
      exact s_ret (ev_var rfl) fun H5 e5 => k f H5 (by rw [← hout]; exact e5 _ _ (e4 _ _ hff))
    · omega
end
end SkW

set_option Elab.async false
set_option linter.all false
set_option maxRecDepth 100000
set_option maxHeartbeats 4000000
namespace SkW
open PySem PySem.Spec PyProof.Rows L2 LamX
open PySem.W (WData Codec OpenSpec Well WellAll ReadsW ReadsAllW)
theorem sqL_ext {K : PySem.W.Frag} {H H' : Hp} (e : ∀ b u, H b = some u → H' b = some u) {a : Addr} {xs : List V} (h : SqL K H a xs) : SqL K H' a xs := h.imp (fun h => h.imp (fun q => e _ _ q) fun ⟨o, q⟩ => ⟨o, e _ _ q⟩) id
theorem sqT_ext {K : PySem.W.Frag} {H H' : Hp} (e : ∀ b u, H b = some u → H' b = some u) {a : Addr} {xs : List V} (h : SqT K H a xs) : SqT K H' a xs := h.imp (fun h => h.imp (fun q => e _ _ q) fun ⟨o, q⟩ => ⟨o, e _ _ q⟩) id
mutual
theorem dw_ext1 {K : PySem.W.Frag} {H H' : Hp} (e : ∀ b u, H b = some u → H' b = some u) : ∀ (d : WData) (v : V), Dw K H v d → Dw K H' v d
  | .none, _, x => by cases x; exact .non
  | .bool b, _, x => by cases x; exact .bl b
  | .int i, _, x => by cases x; exact .int i
  | .str s, _, x => by cases x; exact .str s
  | .bytes b, _, x => by
    cases x with
    | byt b => exact .byt b
  | .list ds, _, x => by
    cases x with
    | lst h1 h2 => exact .lst (sqL_ext e h1) (dw_ext e ds _ h2)
  | .tuple ds, _, x => by
    cases x with
    | tup h1 h2 => exact .tup (sqT_ext e h1) (dw_ext e ds _ h2)
  | .float _, _, x => by cases x
  | .dict _, _, x => by cases x
  | .bytearray _, _, x => by cases x
  | .set _, _, x => by cases x
  | .frozenset _, _, x => by cases x
  | .obj _ _, _, x => by cases x
theorem dw_ext {K : PySem.W.Frag} {H H' : Hp} (e : ∀ b u, H b = some u → H' b = some u) : ∀ (ds : List WData) (vs : List V), DwAll K H vs ds → DwAll K H' vs ds
  | [], _, x => by cases x; exact .nil
  | d :: ds, _, x => by
    cases x with
    | cons h1 h2 => exact .cons (dw_ext1 e d _ h1) (dw_ext e ds _ h2)
end
/-- a call from outside, one table of code objects at p -/
theorem spec_callT {P : Program} {w : World} {K : PySem.W.Frag} {mg mb : Str → Option Value} {CX : CXT} {k : Nat} {fa c p : Addr} {fd : FuncData} {ps : List Str} {sp : Sp} {s₁ : Shared} {vals : List Value} {ds : List WData} {R : PySem.W.WRecords} {cl : Str → Option Addr} {d0 : WData}
    (KX : K.In s₁.heap) (hns : s₁.heap.Ns mainGlobals mg) (hb : s₁.heap.Ns builtinsNs mb) (hbb : ∀ x : Str, x ≠ "__name__" → mb x = bootBuiltins x) (hlim : s₁.heap.NoLimit) (hg : s₁.gens = #[])
    (hT : s₁.heap.get? p = some { cls := .none, data := .fields #[] }) (nT : K.lookup p = none) (C : PySem.W.CodeHd s₁.heap c p)
    (hbm : ∃ (bm : Addr) (ob : Obj), mg "__builtins__" = some (.ref bm) ∧ bm ≠ builtinsNs ∧ s₁.heap.get? bm = some ob ∧ ob.cls = .type "module" ∧ ob.dict = some builtinsNs ∧ ob.data = .plain)
    (hwl : WellAll w.params s₁.heap vals ds) (hpl : plWs ds = true) (hwt : ∀ d ∈ ds, d.weight ≤ 1048576) (hr : Room k callerA)
    (F : ∀ base : Heap, K.In base → base.Ns mainGlobals mg → TabB base mg c p → FnOk P w K mg base CX k fa fd ps sp) (hbind : ∀ (s : Shared) (us : List Value), us.length = ps.length → BindsTo s fd ⟨us, []⟩ (ps.zip us)) (hlen : ds.length = ps.length)
    (hsp : ∀ (H : Hp) (xs : List V), H p = some (.tbl #[]) → DwAll K H xs ds → sp xs H (fun v H' => Dw K H' v d0) fun _ _ _ => False)
    (hCX : ∀ H e s', CX [] H s₁ (fun _ _ _ => False) e s' → False) :
    codeAny (model P w) callerA (.call (.ref fa) ⟨vals, []⟩) (fun r s' => ∃ u as, r = .ok (.ret u) ∧ ReadsW R cl s'.heap u d0 as ∧ OldK s₁.heap s'.heap ∧ s'.os = s₁.os ∧ AllBare s'.gens) s₁ := by
  obtain ⟨A, ho, ar⟩ := area_all ds vals hwl hpl hwt
  have hS0 := dw_all KX ar ds vals hwl hpl ho
  have hV := vals_toV ho
  have seqs : ∀ b u, argH K s₁.heap A b = some u → K.lookup b = none ∧ ∃ (o : Obj) (xs : Array Value) (n : Nat) (u' : HO), s₁.heap.get? b = some o ∧ o.data = .seq xs n ∧ u = .frz o u' ∧ ∀ H' : Hp, ObjOk P w H' s₁.heap b u := fun b u q => by
    obtain ⟨h1, xs, h2, h3, ⟨e, rfl⟩ | ⟨e, rfl⟩⟩ := argH_is ar q
    · exact ⟨h1, _, _, _, _, e, rfl, rfl, fun H' => ⟨e, by rw [List.length_map]; exact h2, xs, _, vals_toV h3, e⟩⟩
    · exact ⟨h1, _, _, _, _, e, rfl, rfl, fun H' => ⟨e, by rw [List.length_map]; exact h2, xs, vals_toV h3, _, e, rfl, _, rfl⟩⟩
  have np : argH K s₁.heap A p = none := by
    cases q : argH K s₁.heap A p with
    | none => rfl
    | some u =>
      obtain ⟨_, o, xs, n, _, e, d, _, _⟩ := seqs p u q
      rw [hT] at e
      cases e
      cases d
  generalize argH K s₁.heap A = H0 at hS0 seqs np
  obtain ⟨H, hH⟩ : ∃ H : Hp, H = upd H0 p (.tbl #[]) := ⟨_, rfl⟩
  have hp : H p = some (.tbl #[]) := by rw [hH]; exact upd_same
  have hne : ∀ b, b ≠ p → H b = H0 b := fun b n => by rw [hH]; exact upd_ne n
  have hS : DwAll K H (vals.map toV) ds := dw_ext (fun b u q => by rw [hne b (fun z => by rw [z, np] at q; cases q)]; exact q) _ _ hS0
  have hok : HOk P w H s₁.heap := fun b u q => by
    by_cases z : b = p
    · rw [z, hp] at q
      cases q
      rw [z]
      exact hT
    · rw [hne b z] at q
      obtain ⟨_, _, _, _, _, _, _, _, z2⟩ := seqs b u q
      exact z2 H
  have noD : ∀ {b : Addr} {o : Obj}, s₁.heap.get? b = some o → (∀ vs n, o.data ≠ .seq vs n) → o.data ≠ .fields #[] → H b = none := fun {b o} e h1 h2 => by
    by_cases z : b = p
    · rw [z, hT] at e
      cases e
      exact (h2 rfl).elim
    · rw [hne b z]
      cases q : H0 b with
      | none => rfl
      | some u =>
        obtain ⟨_, o', xs, n, _, e', d, _, _⟩ := seqs b u q
        rw [e] at e'
        cases e'
        exact (h1 _ _ d).elim
  have base_of : ∀ {b : Addr} {o : Obj}, s₁.heap.get? b = some o → H b = none → (hidT s₁.heap H).get? b = some o := fun e n => hidT_get e n
  have noA : ∀ {b : Addr} {o : Obj} {es : Array DictEntry} {ep : Nat}, s₁.heap.get? b = some o → o.data = .dict es ep → H b = none := fun {b o es ep} e d => noD e (fun vs n z => by rw [d] at z; cases z) fun z => by rw [d] at z; cases z
  have nsK : ∀ {b : Addr} {m : Str → Option Value}, s₁.heap.Ns b m → (hidT s₁.heap H).Ns b m := fun {b m} ⟨o, es, ep, e, d, r⟩ => ⟨o, es, ep, base_of e (noA e d), d, r⟩
  have nK : ∀ b o, K.lookup b = some o → H b = none := fun b o e => by
    by_cases z : b = p
    · rw [z, nT] at e; cases e
    · rw [hne b z]
      cases q : H0 b with
      | none => rfl
      | some u => rw [(seqs b u q).1] at e; cases e
  have hKb : K.In (hidT s₁.heap H) := fun b o e => base_of (KX b o e) (nK b o e)
  have hM : L2.Mod K mg (hidT s₁.heap H) := ⟨hKb, nsK hns, ⟨mb, nsK hb, hbb⟩, let ⟨mc, h1, h2⟩ := hlim; ⟨mc, nsK h1, h2⟩⟩
  have TB : TabB (hidT s₁.heap H) mg c p := by
    refine ⟨?_, ?_, fun z => ?_⟩
    · obtain ⟨o, us, file, tf, flags, tg, inF, text, tt, e1, r1, r2, r3, r4, r5, r6, r7, r8, n0⟩ := C
      refine ⟨o, us, file, tf, flags, tg, inF, text, tt, base_of e1 (noD e1 (fun vs n z => ?_) fun z => ?_), r1, r2, r3, r4, r5, r6, r7, r8, n0⟩
      · rw [r2] at z
        cases z
      · rw [r2] at z
        cases z
        simp at r3
    · obtain ⟨bm, ob, b1, b2, b3, b4, b5, b6⟩ := hbm
      have nG : bm ≠ mainGlobals := fun q => by
        obtain ⟨o, es, ep, e, hd, _⟩ := hns
        rw [q, e] at b3
        cases b3
        rw [hd] at b6
        cases b6
      have nP : bm ≠ p := fun q => by
        rw [q, hT] at b3
        cases b3
        cases b6
      refine ⟨bm, ob, b1, b2, nG, nP, base_of b3 (noD b3 (fun vs n z => ?_) fun z => ?_), b4, b5, b6⟩
      · rw [b6] at z
        cases z
      · rw [b6] at z
        cases z
    · obtain ⟨o, es, ep, e, hd, _⟩ := hns
      rw [z, hT] at e
      cases e
      cases hd
  have e0 : Env0 P w K mg (hidT s₁.heap H) callerA [] s₁ H := ⟨rfl, hM, fun b o e => of_hidT e, Nat.le_of_eq (hidT_size _ _), trivial, fun b hb => absurd (show b ∈ ([] : List Addr) from hb) (by simp), hok, .of_eq hg⟩
  have hl : vals.length = ps.length := by rw [wellAll_len hwl]; exact hlen
  refine codeAny_mono ((F _ hKb (nsK hns) TB).run callerA [] s₁ H ⟨vals, []⟩ vals (vals.map toV) _ _ hr e0 (hbind s₁ vals hl) hV (hsp H _ hp hS)) fun r s' x => ?_
  cases r with
  | error e => exact (hCX H e s' x).elim
  | ok fl =>
    cases fl with
    | next => exact False.elim x
    | brk => exact False.elim x
    | cont => exact False.elim x
    | ret u =>
      obtain ⟨v, H', os, bare, un, hok', r', q⟩ := x
      have key : ∀ b o, b ≠ p → s₁.heap.get? b = some o → s'.heap.get? b = some o := fun b o nb e => by
        cases q2 : H b with
        | none => exact un.keep b o e q2 (by intro z; exact absurd (show b ∈ ([] : List Addr) from z) (by simp)) (by simp)
        | some u2 =>
          have q3 := q2
          rw [hne b nb] at q3
          obtain ⟨_, o', xs, n, u3, e', d, rfl, _⟩ := seqs b u2 q3
          have z2 := un.frzs b o' _ q2
          obtain ⟨e1, _⟩ := hok b _ q2
          obtain ⟨e2, _⟩ := hok' b _ z2
          rw [e] at e1
          cases e1
          exact e2
      obtain ⟨more, hm⟩ := un.tbls p #[] hp
      have hm' := hok' p _ hm
      have KX' : K.In s'.heap := fun b o e => key b o (fun z => by rw [z, nT] at e; cases e) (KX b o e)
      obtain ⟨as, hrd⟩ := Dw.reads (R := R) (cl := cl) hok' KX' d0 v u q r'
      refine ⟨u, as, rfl, hrd, ⟨fun b o e => ?_, fun b o e => ?_⟩, os, bare⟩
      · by_cases hb : b = p
        · rw [hb] at e ⊢
          rw [hT] at e
          cases e
          exact .inr (.inl ⟨(C.tab hT).isCodeTable, rfl, #[], _, rfl, by rw [Array.empty_append]; exact hm'⟩)
        · exact .inl (key b o hb e)
      · by_cases hb : b = p
        · rw [hb]
          exact ⟨_, hm'⟩
        · exact ⟨o, key b o hb e⟩
theorem walk_specT {r : OpenSpec} {k : Nat} {q : Program} {loose : List Str} {XP : (Str → Option Value) → Heap → Prop} {YP : World → Heap → Prop} {d : DefRec} {CX : CXT} {ps : List Str} {sp : PySem.W.Frag → Addr → Sp}
    (hwell : r.wellSaid = true) (hdf : d.params.defaults = []) (hlen : r.args.length = ps.length) (hr : Room k callerA)
    (F : ∀ (w : World) (mg : Str → Option Value) (fa : Addr) (h : Heap), YP w h → h.Ns mainGlobals mg → (∃ mean mb, Top q (PySem.W.looseW q loose) mean mg mb h) → mg d.name = some (.ref fa) →
      ∃ (K : PySem.W.Frag) (c p : Addr) (fd : FuncData), K.In h ∧ h.get? p = some { cls := .none, data := .fields #[] } ∧ K.lookup p = none ∧ PySem.W.CodeHd h c p ∧ (∀ (s : Shared) (us : List Value), us.length = ps.length → BindsTo s fd ⟨us, []⟩ (ps.zip us)) ∧
        ∀ base : Heap, K.In base → base.Ns mainGlobals mg → TabB base mg c p → FnOk r.prog w K mg base CX k fa fd ps (sp K p))
    (hsp : ∀ (K : PySem.W.Frag) (p : Addr) (H : Hp) (xs : List V) (a : Codec.denoteAll r.args), H p = some (.tbl #[]) → Codec.withinAll r.args a = true → Codec.app r.args r.asked a = true → DwAll K H xs (Codec.encAll r.args a) →
      sp K p xs H (fun v H' => Dw K H' v (r.ret.enc (Codec.app r.args r.f a))) fun _ _ _ => False)
    (hCX : ∀ (H : Hp) (s : Shared) (e : Value) (s' : Shared), CX [] H s (fun _ _ _ => False) e s' → False) :
    PySem.W.WalkOS q loose XP YP r d [] (fun f vs => PySem.call f vs) := by
  intro w s₀ s₁ mg mb G Y fa o pm cd doc dV kV ho hd hcd hD hmg hg args vals as hpre hlay hrd hwl hlo
  obtain ⟨a, e1, e2⟩ := PySem.W.os_pre_some hpre
  obtain ⟨e3, hwi⟩ := Codec.encAll_of_decAll r.args args a e1
  subst e3
  obtain ⟨K, c, p, fd, KX, hT, nT, C, hb, hF⟩ := F w mg fa _ Y G.T.g ⟨_, _, G.T⟩ hmg
  refine PySem.W.enter_call (codeAny_mono (spec_callT (R := []) (cl := classAt s₀.heap) (d0 := r.ret.enc (Codec.app r.args r.f a)) KX G.T.g G.T.b G.T.builtins G.T.nolimit hg hT nT C G.T.bmain hwl (pl_encAll _ _) (layable_weight hlay) hr hF hb (by rw [encAll_len]; exact hlen)
    (fun H xs hO hS => hsp K p H xs a hO hwi e2 hS) fun H e s' => hCX H s₁ e s') fun r' s' hq => ?_)
  obtain ⟨u, as', rfl, h1, h2, h3, h4⟩ := hq
  exact ⟨.inl ⟨u, _, as', rfl, fun _ => rfl, h1, (OpenSpec.post_iff hwell hwi _ _).mpr rfl, fun z => Bool.noConfusion (show false = true from z)⟩, h2, h3, h4⟩
end SkW

set_option Elab.async false
set_option linter.all false
set_option maxRecDepth 100000
set_option maxHeartbeats 4000000
namespace SkW
open PySem PySem.Spec PyProof.Rows L2 Evl LamX
open He (ga ma fAd FnD Fa SaysE)
def fdAt (K : PySem.W.Frag) (f : Addr) : FuncData := match K.lookup f with
  | some ⟨_, _, .func fd, _⟩ => fd
  | _ => PySem.W.fnOf "" "" (defArgs s_kept) [] (defScope s_kept) .none .none .none .none none .none .none
def refAd : Value → Addr
  | .ref p => p
  | _ => 0
def tupAds (K : PySem.W.Frag) (t : Addr) : List Addr := match K.lookup t with
  | some ⟨_, _, .seq its _, _⟩ => its.toList.map refAd
  | _ => []
def tupB (K : PySem.W.Frag) (t : Addr) (xs : List V) : Bool := match K.lookup t with
  | some ⟨.type c, _, .seq its _, _⟩ => decide (c = "tuple") && (decide (its.size ≤ sizeLine) && He.relAll xs its.toList)
  | _ => false
theorem tupB_ok {K : PySem.W.Frag} {t : Addr} {xs : List V} (h : tupB K t xs = true) : KT K t xs := by
  unfold tupB at h
  cases q : K.lookup t with
  | none => rw [q] at h; cases h
  | some ob =>
    obtain ⟨oc, od, dt, osl⟩ := ob
    rw [q] at h
    cases oc with
    | type c =>
      cases dt with
      | seq its n =>
        obtain ⟨h1, h2⟩ := He.ba h
        obtain ⟨h3, h4⟩ := He.ba h2
        exact ⟨⟨.type c, od, .seq its n, osl⟩, its, n, q, congrArg Value.type (of_decide_eq_true h1), rfl, of_decide_eq_true h3, He.relAll_ok h4⟩
      | _ => cases h
    | _ => cases dt <;> cases h
def rowsB (K : PySem.W.Frag) : List Addr → List (List Int) → Bool
  | [], [] => true
  | p :: ps, x :: xs => tupB K p (x.map V.int) && rowsB K ps xs
  | _, _ => false
theorem rowsB_ok {K : PySem.W.Frag} : ∀ {ps : List Addr} {xs : List (List Int)}, rowsB K ps xs = true → Paired (fun p (xs : List Int) => KT K p (xs.map V.int)) ps xs
  | [], [], _ => .nil
  | p :: ps, x :: xs, h => .cons (tupB_ok (He.ba h).1) (rowsB_ok (He.ba h).2)
  | [], _ :: _, h => by cases h
  | _ :: _, [], h => by cases h
def fnAt (p : Str × Option Str) (x qual : Str) (st : Stmt) : FnD := ⟨p, x, qual, defArgs st, defBody st, defScope st⟩
def topFns : List FnD := [fnAt ("hundredths", none) "hundredths" "hundredths" s_hundredths,
  fnAt ("away", none) "away" "away" s_away,
  fnAt ("kept", none) "kept" "kept" s_kept,
  fnAt ("graded", none) "graded" "graded" s_graded,
  fnAt ("component", none) "component" "component" s_component,
  fnAt ("components_of", none) "components_of" "components_of" s_components_of,
  fnAt ("taken_off", none) "taken_off" "taken_off" s_taken_off,
  fnAt ("jumps_element", none) "jumps_element" "jumps_element" s_jumps_element,
  fnAt ("order_in", none) "order_in" "order_in" s_order_in,
  fnAt ("order_in_all", none) "order_in_all" "order_in_all" s_order_in_all,
  fnAt ("placed", none) "placed" "placed" s_placed,
  fnAt ("turned", none) "turned" "turned" s_turned,
  fnAt ("segment_places", none) "segment_places" "segment_places" s_segment_places,
  fnAt ("places_in_all", none) "places_in_all" "places_in_all" s_places_in_all,
  fnAt ("codes", none) "codes" "codes" s_codes,
  fnAt ("number_in", none) "number_in" "number_in" s_number_in,
  fnAt ("split_by_plus", none) "split_by_plus" "split_by_plus" s_split_by_plus,
  fnAt ("kind_at_first", none) "kind_at_first" "kind_at_first" s_kind_at_first,
  fnAt ("edge_at_first", none) "edge_at_first" "edge_at_first" s_edge_at_first,
  fnAt ("jump_of", none) "jump_of" "jump_of" s_jump_of,
  fnAt ("may_be_row", none) "may_be_row" "may_be_row" s_may_be_row,
  fnAt ("jumps_of", none) "jumps_of" "jumps_of" s_jumps_of,
  fnAt ("name_of", none) "name_of" "name_of" s_name_of,
  fnAt ("level_of", none) "level_of" "level_of" s_level_of,
  fnAt ("spin_of", none) "spin_of" "spin_of" s_spin_of,
  fnAt ("steps_of", none) "steps_of" "steps_of" s_steps_of,
  fnAt ("element_of", none) "element_of" "element_of" s_element_of,
  fnAt ("need", none) "need" "need" s_need,
  fnAt ("need_segment", none) "need_segment" "need_segment" s_need_segment,
  fnAt ("need_text", none) "need_text" "need_text" s_need_text,
  fnAt ("element_in", none) "element_in" "element_in" s_element_in,
  fnAt ("flat", none) "flat" "flat" s_flat,
  fnAt ("of_skating", none) "of_skating" "of_skating" s_of_skating,
  fnAt ("told", none) "told" "told" s_told,
  fnAt ("answer", none) "answer" "answer" s_answer,
  fnAt ("rows_at", none) "rows_at" "rows_at" s_rows_at,
  fnAt ("answers", none) "answers" "answers" s_answers,
  fnAt ("Jump", some "__init__") "__init__" "Jump.__init__" s_Jump___init__,
  fnAt ("Jump", some "whole_worth") "whole_worth" "Jump.whole_worth" s_Jump_whole_worth,
  fnAt ("Jump", some "worth") "worth" "Jump.worth" s_Jump_worth,
  fnAt ("Jump", some "told") "told" "Jump.told" s_Jump_told,
  fnAt ("Element", some "__init__") "__init__" "Element.__init__" s_Element___init__,
  fnAt ("Element", some "is_row") "is_row" "Element.is_row" s_Element_is_row,
  fnAt ("Element", some "own_worth") "own_worth" "Element.own_worth" s_Element_own_worth,
  fnAt ("Element", some "told") "told" "Element.told" s_Element_told,
  fnAt ("Skated", some "__init__") "__init__" "Skated.__init__" s_Skated___init__,
  fnAt ("Skated", some "made") "made" "Skated.made" s_Skated_made,
  fnAt ("Program", some "__init__") "__init__" "Program.__init__" s_Program___init__,
  fnAt ("Program", some "counted") "counted" "Program.counted" s_Program_counted,
  fnAt ("Program", some "do_jumps_count") "do_jumps_count" "Program.do_jumps_count" s_Program_do_jumps_count,
  fnAt ("Program", some "does_count") "does_count" "Program.does_count" s_Program_does_count,
  fnAt ("Program", some "jump_worth") "jump_worth" "Program.jump_worth" s_Program_jump_worth,
  fnAt ("Program", some "take_jumps") "take_jumps" "Program.take_jumps" s_Program_take_jumps,
  fnAt ("Program", some "take") "take" "Program.take" s_Program_take,
  fnAt ("Program", some "with_bonus") "with_bonus" "Program.with_bonus" s_Program_with_bonus,
  fnAt ("Program", some "worths") "worths" "Program.worths" s_Program_worths,
  fnAt ("Result", some "__init__") "__init__" "Result.__init__" s_Result___init__,
  fnAt ("Refused", some "__init__") "__init__" "Refused.__init__" s_Refused___init__,
  fnAt ("Keeper", some "__init__") "__init__" "Keeper.__init__" s_Keeper___init__,
  fnAt ("Keeper", some "begin") "begin" "Keeper.begin" s_Keeper_begin,
  fnAt ("Keeper", some "skater") "skater" "Keeper.skater" s_Keeper_skater,
  fnAt ("Keeper", some "read") "read" "Keeper.read" s_Keeper_read,
  fnAt ("Keeper", some "need_skater") "need_skater" "Keeper.need_skater" s_Keeper_need_skater,
  fnAt ("Keeper", some "start") "start" "Keeper.start" s_Keeper_start,
  fnAt ("Keeper", some "need_program") "need_program" "Keeper.need_program" s_Keeper_need_program,
  fnAt ("Keeper", some "element") "element" "Keeper.element" s_Keeper_element,
  fnAt ("Keeper", some "marks") "marks" "Keeper.marks" s_Keeper_marks,
  fnAt ("Keeper", some "faults") "faults" "Keeper.faults" s_Keeper_faults,
  fnAt ("Keeper", some "end") "end" "Keeper.end" s_Keeper_end,
  fnAt ("Keeper", some "sheet") "sheet" "Keeper.sheet" s_Keeper_sheet,
  fnAt ("Keeper", some "places") "places" "Keeper.places" s_Keeper_places,
  fnAt ("Keeper", some "all_places") "all_places" "Keeper.all_places" s_Keeper_all_places]
def topFacts : List Fa := [.glo "hundredths", .keep "hundredths", .glo "away", .keep "away", .glo "kept", .keep "kept", .glo "graded", .keep "graded", .glo "component", .keep "component", .glo "components_of", .keep "components_of", .glo "taken_off", .keep "taken_off", .glo "jumps_element", .keep "jumps_element", .glo "order_in", .keep "order_in", .glo "order_in_all", .keep "order_in_all", .glo "placed", .keep "placed", .glo "turned", .keep "turned", .glo "segment_places", .keep "segment_places", .glo "places_in_all", .keep "places_in_all", .glo "codes", .keep "codes", .glo "number_in", .keep "number_in", .glo "split_by_plus", .keep "split_by_plus", .glo "kind_at_first", .keep "kind_at_first", .glo "edge_at_first", .keep "edge_at_first", .glo "jump_of", .keep "jump_of", .glo "may_be_row", .keep "may_be_row", .glo "jumps_of", .keep "jumps_of", .glo "name_of", .keep "name_of", .glo "level_of", .keep "level_of", .glo "spin_of", .keep "spin_of", .glo "steps_of", .keep "steps_of", .glo "element_of", .keep "element_of", .glo "need", .keep "need", .glo "need_segment", .keep "need_segment", .glo "need_text", .keep "need_text", .glo "element_in", .keep "element_in", .glo "flat", .keep "flat", .glo "of_skating", .keep "of_skating", .glo "told", .keep "told", .glo "answer", .keep "answer", .glo "rows_at", .keep "rows_at", .glo "answers", .keep "answers", .meth "Jump" "whole_worth", .meth "Jump" "worth", .meth "Jump" "told", .meth "Element" "is_row", .meth "Element" "own_worth", .meth "Element" "told", .meth "Skated" "made", .meth "Program" "counted", .meth "Program" "do_jumps_count", .meth "Program" "does_count", .meth "Program" "jump_worth", .meth "Program" "take_jumps", .meth "Program" "take", .meth "Program" "with_bonus", .meth "Program" "worths", .meth "Keeper" "begin", .meth "Keeper" "skater", .meth "Keeper" "read", .meth "Keeper" "need_skater", .meth "Keeper" "start", .meth "Keeper" "need_program", .meth "Keeper" "element", .meth "Keeper" "marks", .meth "Keeper" "faults", .meth "Keeper" "end", .meth "Keeper" "sheet", .meth "Keeper" "places", .meth "Keeper" "all_places", .glo "Jump", .cls "Jump", .mkr "Jump", .noat "Jump" "kind", .noat "Jump" "turns", .noat "Jump" "edge", .noat "Jump" "missing", .glo "Element", .cls "Element", .mkr "Element", .noat "Element" "sort_told", .noat "Element" "jumps", .noat "Element" "name", .noat "Element" "level", .glo "Skated", .cls "Skated", .mkr "Skated", .noat "Skated" "skill", .noat "Skated" "is_later", .noat "Skated" "grades", .noat "Skated" "is_counted", .noat "Skated" "plain_worth", .noat "Skated" "goes_by", .glo "Program", .cls "Program", .mkr "Program", .noat "Program" "free", .noat "Program" "skated", .noat "Program" "seen", .noat "Program" "rows", .noat "Program" "told_faults", .glo "Result", .cls "Result", .mkr "Result", .noat "Result" "pairs", .noat "Result" "all_elements", .noat "Result" "components", .noat "Result" "off", .noat "Result" "score", .glo "Refused", .glo "Keeper", .cls "Keeper", .mkr "Keeper", .noat "Keeper" "judges", .noat "Keeper" "factors", .noat "Keeper" "results", .noat "Keeper" "skater_now", .noat "Keeper" "program", .free "len", .free "abs", .free "sum", .free "sorted", .free "list", .free "min", .free "max", .free "int", .free "ord", .free "any", .free "all", .free "range", .free "enumerate", .free "ValueError", .int "MANY_JUDGES" (5), .int "JUMPS" (0), .int "SPIN" (1), .int "STEPS" (2), .int "OTHERS" (3), .int "SMALL" (6), .int "ON_EDGE" (1), .int "SHORT_OF" (2), .int "HALF_OFF" (3), .int "SMALL_WORTH" (50), .int "OTHERS_WORTH" (200), .int "MORE" (50), .int "FLYING" (10), .int "CHANGED" (5), .int "FREE" (1), .int "MOST_SPINS" (3), .int "LEAST_REPEATED" (3), .int "REPEATED" (70), .int "LATER" (110), .int "MOST_JUMPS" (3), .int "PLUS" (43), .int "NOUGHT" (48), .int "NOT_SO" (-1), .int "NOTHING_THERE" (-2), .int "BEING_SKATED" (-3), .int "WRONG" (-4), .int "TOO_MANY" (-5), .int "LEAST_JUDGES" (3), .int "MOST_JUDGES" (9), .int "MOST_FACTOR" (1000), .int "MOST_SKATERS" (30), .int "MOST_TEXT" (40), .int "MOST_ELEMENTS" (20), .int "MOST_GRADE" (5), .int "MOST_QUARTERS" (40), .int "MOST_FALLS" (20), .int "MOST_SECONDS" (300), .str "LEVELS" "B1234", .glo "JUMP_WORTHS", .glo "SPIN_WORTHS", .glo "STEPS_WORTHS", .glo "MOST_JUMPED", .glo "MOST_ROWS", .glo "MOST_OF_THREE", .glo "MOST_OTHERS", .glo "MOST_BONUS", .glo "KINDS", .glo "EDGED", .glo "BEHIND_SMALL", .glo "EDGES", .glo "MISSING", .glo "LAST_PARTS", .glo "SHAPES"]
def topTups (K : PySem.W.Frag) : Bool :=
  (tupB K (ga K "JUMP_WORTHS") ((tupAds K (ga K "JUMP_WORTHS")).map V.ref) && rowsB K (tupAds K (ga K "JUMP_WORTHS")) [[40, 130, 420, 950], [40, 130, 430, 970], [50, 170, 490, 1050], [50, 180, 530, 1100], [60, 210, 590, 1150], [110, 330, 800, 1250]]) &&
  ((tupB K (ga K "SPIN_WORTHS") ((tupAds K (ga K "SPIN_WORTHS")).map V.ref) && rowsB K (tupAds K (ga K "SPIN_WORTHS")) [[100, 120, 150, 190, 240], [120, 150, 190, 240, 270], [110, 140, 180, 230, 260], [110, 130, 160, 210, 250], [150, 170, 200, 250, 300]]) &&
  (tupB K (ga K "STEPS_WORTHS") [.int 150, .int 180, .int 260, .int 330, .int 390] &&
  (tupB K (ga K "MOST_JUMPED") [.int 3, .int 7] &&
  (tupB K (ga K "MOST_ROWS") [.int 1, .int 3] &&
  (tupB K (ga K "MOST_OF_THREE") [.int 0, .int 1] &&
  (tupB K (ga K "MOST_OTHERS") [.int 0, .int 1] &&
  (tupB K (ga K "MOST_BONUS") [.int 1, .int 3] &&
  (tupB K (ga K "KINDS") [.str "T", .str "S", .str "Lo", .str "F", .str "Lz", .str "A"] &&
  (tupB K (ga K "EDGED") [.int 3, .int 4] &&
  (tupB K (ga K "BEHIND_SMALL") [.int 1, .int 3] &&
  (tupB K (ga K "EDGES") [.str "", .str "e", .str "!"] &&
  (tupB K (ga K "MISSING") [.str "", .str "q", .str "<", .str "<<"] &&
  (tupB K (ga K "LAST_PARTS") [.str "U", .str "L", .str "C", .str "S", .str "Co"] &&
  ((tupB K (ga K "SHAPES") ((tupAds K (ga K "SHAPES")).map V.ref) && rowsB K (tupAds K (ga K "SHAPES")) [[0, 0], [3, 0], [0, 0], [0, 1], [2, 0], [1, 2], [0, 3], [3, 0], [0, 0], [2, 0], [1, 0], [0, 0]])))))))))))))))
section
variable {K : PySem.W.Frag}
theorem tb_JUMP_WORTHS (h : topTups K = true) : tupB K (ga K "JUMP_WORTHS") ((tupAds K (ga K "JUMP_WORTHS")).map V.ref) = true ∧ rowsB K (tupAds K (ga K "JUMP_WORTHS")) [[40, 130, 420, 950], [40, 130, 430, 970], [50, 170, 490, 1050], [50, 180, 530, 1100], [60, 210, 590, 1150], [110, 330, 800, 1250]] = true := He.ba (He.ba h).1
theorem tb_SPIN_WORTHS (h : topTups K = true) : tupB K (ga K "SPIN_WORTHS") ((tupAds K (ga K "SPIN_WORTHS")).map V.ref) = true ∧ rowsB K (tupAds K (ga K "SPIN_WORTHS")) [[100, 120, 150, 190, 240], [120, 150, 190, 240, 270], [110, 140, 180, 230, 260], [110, 130, 160, 210, 250], [150, 170, 200, 250, 300]] = true := He.ba (He.ba (He.ba h).2).1
theorem tb_STEPS_WORTHS (h : topTups K = true) : tupB K (ga K "STEPS_WORTHS") [.int 150, .int 180, .int 260, .int 330, .int 390] = true := (He.ba (He.ba (He.ba h).2).2).1
theorem tb_MOST_JUMPED (h : topTups K = true) : tupB K (ga K "MOST_JUMPED") [.int 3, .int 7] = true := (He.ba (He.ba (He.ba (He.ba h).2).2).2).1
theorem tb_MOST_ROWS (h : topTups K = true) : tupB K (ga K "MOST_ROWS") [.int 1, .int 3] = true := (He.ba (He.ba (He.ba (He.ba (He.ba h).2).2).2).2).1
theorem tb_MOST_OF_THREE (h : topTups K = true) : tupB K (ga K "MOST_OF_THREE") [.int 0, .int 1] = true := (He.ba (He.ba (He.ba (He.ba (He.ba (He.ba h).2).2).2).2).2).1
theorem tb_MOST_OTHERS (h : topTups K = true) : tupB K (ga K "MOST_OTHERS") [.int 0, .int 1] = true := (He.ba (He.ba (He.ba (He.ba (He.ba (He.ba (He.ba h).2).2).2).2).2).2).1
theorem tb_MOST_BONUS (h : topTups K = true) : tupB K (ga K "MOST_BONUS") [.int 1, .int 3] = true := (He.ba (He.ba (He.ba (He.ba (He.ba (He.ba (He.ba (He.ba h).2).2).2).2).2).2).2).1
theorem tb_KINDS (h : topTups K = true) : tupB K (ga K "KINDS") [.str "T", .str "S", .str "Lo", .str "F", .str "Lz", .str "A"] = true := (He.ba (He.ba (He.ba (He.ba (He.ba (He.ba (He.ba (He.ba (He.ba h).2).2).2).2).2).2).2).2).1
theorem tb_EDGED (h : topTups K = true) : tupB K (ga K "EDGED") [.int 3, .int 4] = true := (He.ba (He.ba (He.ba (He.ba (He.ba (He.ba (He.ba (He.ba (He.ba (He.ba h).2).2).2).2).2).2).2).2).2).1
theorem tb_BEHIND_SMALL (h : topTups K = true) : tupB K (ga K "BEHIND_SMALL") [.int 1, .int 3] = true := (He.ba (He.ba (He.ba (He.ba (He.ba (He.ba (He.ba (He.ba (He.ba (He.ba (He.ba h).2).2).2).2).2).2).2).2).2).2).1
theorem tb_EDGES (h : topTups K = true) : tupB K (ga K "EDGES") [.str "", .str "e", .str "!"] = true := (He.ba (He.ba (He.ba (He.ba (He.ba (He.ba (He.ba (He.ba (He.ba (He.ba (He.ba (He.ba h).2).2).2).2).2).2).2).2).2).2).2).1
theorem tb_MISSING (h : topTups K = true) : tupB K (ga K "MISSING") [.str "", .str "q", .str "<", .str "<<"] = true := (He.ba (He.ba (He.ba (He.ba (He.ba (He.ba (He.ba (He.ba (He.ba (He.ba (He.ba (He.ba (He.ba h).2).2).2).2).2).2).2).2).2).2).2).2).1
theorem tb_LAST_PARTS (h : topTups K = true) : tupB K (ga K "LAST_PARTS") [.str "U", .str "L", .str "C", .str "S", .str "Co"] = true := (He.ba (He.ba (He.ba (He.ba (He.ba (He.ba (He.ba (He.ba (He.ba (He.ba (He.ba (He.ba (He.ba (He.ba h).2).2).2).2).2).2).2).2).2).2).2).2).2).1
theorem tb_SHAPES (h : topTups K = true) : tupB K (ga K "SHAPES") ((tupAds K (ga K "SHAPES")).map V.ref) = true ∧ rowsB K (tupAds K (ga K "SHAPES")) [[0, 0], [3, 0], [0, 0], [0, 1], [2, 0], [1, 2], [0, 3], [3, 0], [0, 0], [2, 0], [1, 0], [0, 0]] = true := He.ba (He.ba (He.ba (He.ba (He.ba (He.ba (He.ba (He.ba (He.ba (He.ba (He.ba (He.ba (He.ba (He.ba (He.ba h).2).2).2).2).2).2).2).2).2).2).2).2).2).2
end
def keptB (K : PySem.W.Frag) : Bool := topFns.all fun d => PySem.W.keepIn K (.ref (fAd K d.at_))
theorem fun_at {K : PySem.W.Frag} (c : SaysE topFacts topFns K) (hk : keptB K = true) {p : Str × Option Str} {x qual : Str} {st : Stmt} (i : Nat) (h : topFns[i]? = some (fnAt p x qual st) := by rfl) : Fun K x qual st (fAd K p) (fdAt K (fAd K p)) := by
  obtain ⟨oc, od, osl, kV, doc, pm, an, cdv, ct, l, hc⟩ := c.def_ i h
  have e : fdAt K (fAd K p) = PySem.W.fnOf x qual (defArgs st) (defBody st) (defScope st) .none kV doc pm an cdv ct := by
    unfold fdAt
    have l' : K.lookup (fAd K p) = _ := l
    rw [l'] <;> rfl
  rw [e]
  exact fun_mk l hc (List.all_eq_true.mp hk _ (List.mem_of_getElem? h))
theorem placed_at {K : PySem.W.Frag} (c : SaysE topFacts topFns K) {p : Str × Option Str} {x qual : Str} {st : Stmt} (i : Nat) (h : topFns[i]? = some (fnAt p x qual st) := by rfl) : FunC K x qual st (fAd K p) (fdAt K (fAd K p)) (He.codeOf K p) := by
  obtain ⟨oc, od, osl, kV, doc, pm, an, cdv, ct, l, hc⟩ := c.def_ i h
  obtain ⟨cc, rfl⟩ := He.codeIn_ref hc
  have e : fdAt K (fAd K p) = PySem.W.fnOf x qual (defArgs st) (defBody st) (defScope st) .none kV doc pm an (.ref cc) ct := by
    unfold fdAt
    have l' : K.lookup (fAd K p) = _ := l
    rw [l'] <;> rfl
  have l2 : K.lookup (fAd K p) = some ⟨oc, od, .func (PySem.W.fnOf x qual (defArgs st) (defBody st) (defScope st) .none kV doc pm an (.ref cc) ct), osl⟩ := l
  rw [He.codeOf_eq l2 rfl, e]
  exact ⟨oc, od, kV, doc, pm, an, ct, osl, rfl, l2, hc⟩
def adOf (K : PySem.W.Frag) : Ad where
  f_hundredths := fAd K ("hundredths", none)
  d_hundredths := fdAt K (fAd K ("hundredths", none))
  f_away := fAd K ("away", none)
  d_away := fdAt K (fAd K ("away", none))
  f_kept := fAd K ("kept", none)
  d_kept := fdAt K (fAd K ("kept", none))
  f_graded := fAd K ("graded", none)
  d_graded := fdAt K (fAd K ("graded", none))
  f_component := fAd K ("component", none)
  d_component := fdAt K (fAd K ("component", none))
  f_components_of := fAd K ("components_of", none)
  d_components_of := fdAt K (fAd K ("components_of", none))
  f_taken_off := fAd K ("taken_off", none)
  d_taken_off := fdAt K (fAd K ("taken_off", none))
  f_jumps_element := fAd K ("jumps_element", none)
  d_jumps_element := fdAt K (fAd K ("jumps_element", none))
  f_order_in := fAd K ("order_in", none)
  d_order_in := fdAt K (fAd K ("order_in", none))
  f_order_in_all := fAd K ("order_in_all", none)
  d_order_in_all := fdAt K (fAd K ("order_in_all", none))
  f_placed := fAd K ("placed", none)
  d_placed := fdAt K (fAd K ("placed", none))
  f_turned := fAd K ("turned", none)
  d_turned := fdAt K (fAd K ("turned", none))
  f_segment_places := fAd K ("segment_places", none)
  d_segment_places := fdAt K (fAd K ("segment_places", none))
  f_places_in_all := fAd K ("places_in_all", none)
  d_places_in_all := fdAt K (fAd K ("places_in_all", none))
  f_codes := fAd K ("codes", none)
  d_codes := fdAt K (fAd K ("codes", none))
  f_number_in := fAd K ("number_in", none)
  d_number_in := fdAt K (fAd K ("number_in", none))
  f_split_by_plus := fAd K ("split_by_plus", none)
  d_split_by_plus := fdAt K (fAd K ("split_by_plus", none))
  f_kind_at_first := fAd K ("kind_at_first", none)
  d_kind_at_first := fdAt K (fAd K ("kind_at_first", none))
  f_edge_at_first := fAd K ("edge_at_first", none)
  d_edge_at_first := fdAt K (fAd K ("edge_at_first", none))
  f_jump_of := fAd K ("jump_of", none)
  d_jump_of := fdAt K (fAd K ("jump_of", none))
  f_may_be_row := fAd K ("may_be_row", none)
  d_may_be_row := fdAt K (fAd K ("may_be_row", none))
  f_jumps_of := fAd K ("jumps_of", none)
  d_jumps_of := fdAt K (fAd K ("jumps_of", none))
  f_name_of := fAd K ("name_of", none)
  d_name_of := fdAt K (fAd K ("name_of", none))
  f_level_of := fAd K ("level_of", none)
  d_level_of := fdAt K (fAd K ("level_of", none))
  f_spin_of := fAd K ("spin_of", none)
  d_spin_of := fdAt K (fAd K ("spin_of", none))
  f_steps_of := fAd K ("steps_of", none)
  d_steps_of := fdAt K (fAd K ("steps_of", none))
  f_element_of := fAd K ("element_of", none)
  d_element_of := fdAt K (fAd K ("element_of", none))
  f_need := fAd K ("need", none)
  d_need := fdAt K (fAd K ("need", none))
  f_need_segment := fAd K ("need_segment", none)
  d_need_segment := fdAt K (fAd K ("need_segment", none))
  f_need_text := fAd K ("need_text", none)
  d_need_text := fdAt K (fAd K ("need_text", none))
  f_element_in := fAd K ("element_in", none)
  d_element_in := fdAt K (fAd K ("element_in", none))
  f_flat := fAd K ("flat", none)
  d_flat := fdAt K (fAd K ("flat", none))
  f_of_skating := fAd K ("of_skating", none)
  d_of_skating := fdAt K (fAd K ("of_skating", none))
  f_told := fAd K ("told", none)
  d_told := fdAt K (fAd K ("told", none))
  f_answer := fAd K ("answer", none)
  d_answer := fdAt K (fAd K ("answer", none))
  f_rows_at := fAd K ("rows_at", none)
  d_rows_at := fdAt K (fAd K ("rows_at", none))
  f_answers := fAd K ("answers", none)
  d_answers := fdAt K (fAd K ("answers", none))
  f_Jump___init__ := fAd K ("Jump", some "__init__")
  d_Jump___init__ := fdAt K (fAd K ("Jump", some "__init__"))
  f_Jump_whole_worth := fAd K ("Jump", some "whole_worth")
  d_Jump_whole_worth := fdAt K (fAd K ("Jump", some "whole_worth"))
  f_Jump_worth := fAd K ("Jump", some "worth")
  d_Jump_worth := fdAt K (fAd K ("Jump", some "worth"))
  f_Jump_told := fAd K ("Jump", some "told")
  d_Jump_told := fdAt K (fAd K ("Jump", some "told"))
  f_Element___init__ := fAd K ("Element", some "__init__")
  d_Element___init__ := fdAt K (fAd K ("Element", some "__init__"))
  f_Element_is_row := fAd K ("Element", some "is_row")
  d_Element_is_row := fdAt K (fAd K ("Element", some "is_row"))
  f_Element_own_worth := fAd K ("Element", some "own_worth")
  d_Element_own_worth := fdAt K (fAd K ("Element", some "own_worth"))
  f_Element_told := fAd K ("Element", some "told")
  d_Element_told := fdAt K (fAd K ("Element", some "told"))
  f_Skated___init__ := fAd K ("Skated", some "__init__")
  d_Skated___init__ := fdAt K (fAd K ("Skated", some "__init__"))
  f_Skated_made := fAd K ("Skated", some "made")
  d_Skated_made := fdAt K (fAd K ("Skated", some "made"))
  f_Program___init__ := fAd K ("Program", some "__init__")
  d_Program___init__ := fdAt K (fAd K ("Program", some "__init__"))
  f_Program_counted := fAd K ("Program", some "counted")
  d_Program_counted := fdAt K (fAd K ("Program", some "counted"))
  f_Program_do_jumps_count := fAd K ("Program", some "do_jumps_count")
  d_Program_do_jumps_count := fdAt K (fAd K ("Program", some "do_jumps_count"))
  f_Program_does_count := fAd K ("Program", some "does_count")
  d_Program_does_count := fdAt K (fAd K ("Program", some "does_count"))
  f_Program_jump_worth := fAd K ("Program", some "jump_worth")
  d_Program_jump_worth := fdAt K (fAd K ("Program", some "jump_worth"))
  f_Program_take_jumps := fAd K ("Program", some "take_jumps")
  d_Program_take_jumps := fdAt K (fAd K ("Program", some "take_jumps"))
  f_Program_take := fAd K ("Program", some "take")
  d_Program_take := fdAt K (fAd K ("Program", some "take"))
  f_Program_with_bonus := fAd K ("Program", some "with_bonus")
  d_Program_with_bonus := fdAt K (fAd K ("Program", some "with_bonus"))
  f_Program_worths := fAd K ("Program", some "worths")
  d_Program_worths := fdAt K (fAd K ("Program", some "worths"))
  f_Result___init__ := fAd K ("Result", some "__init__")
  d_Result___init__ := fdAt K (fAd K ("Result", some "__init__"))
  f_Refused___init__ := fAd K ("Refused", some "__init__")
  d_Refused___init__ := fdAt K (fAd K ("Refused", some "__init__"))
  f_Keeper___init__ := fAd K ("Keeper", some "__init__")
  d_Keeper___init__ := fdAt K (fAd K ("Keeper", some "__init__"))
  f_Keeper_begin := fAd K ("Keeper", some "begin")
  d_Keeper_begin := fdAt K (fAd K ("Keeper", some "begin"))
  f_Keeper_skater := fAd K ("Keeper", some "skater")
  d_Keeper_skater := fdAt K (fAd K ("Keeper", some "skater"))
  f_Keeper_read := fAd K ("Keeper", some "read")
  d_Keeper_read := fdAt K (fAd K ("Keeper", some "read"))
  f_Keeper_need_skater := fAd K ("Keeper", some "need_skater")
  d_Keeper_need_skater := fdAt K (fAd K ("Keeper", some "need_skater"))
  f_Keeper_start := fAd K ("Keeper", some "start")
  d_Keeper_start := fdAt K (fAd K ("Keeper", some "start"))
  f_Keeper_need_program := fAd K ("Keeper", some "need_program")
  d_Keeper_need_program := fdAt K (fAd K ("Keeper", some "need_program"))
  f_Keeper_element := fAd K ("Keeper", some "element")
  d_Keeper_element := fdAt K (fAd K ("Keeper", some "element"))
  f_Keeper_marks := fAd K ("Keeper", some "marks")
  d_Keeper_marks := fdAt K (fAd K ("Keeper", some "marks"))
  f_Keeper_faults := fAd K ("Keeper", some "faults")
  d_Keeper_faults := fdAt K (fAd K ("Keeper", some "faults"))
  f_Keeper_end := fAd K ("Keeper", some "end")
  d_Keeper_end := fdAt K (fAd K ("Keeper", some "end"))
  f_Keeper_sheet := fAd K ("Keeper", some "sheet")
  d_Keeper_sheet := fdAt K (fAd K ("Keeper", some "sheet"))
  f_Keeper_places := fAd K ("Keeper", some "places")
  d_Keeper_places := fdAt K (fAd K ("Keeper", some "places"))
  f_Keeper_all_places := fAd K ("Keeper", some "all_places")
  d_Keeper_all_places := fdAt K (fAd K ("Keeper", some "all_places"))
  c_Jump := ga K "Jump"
  c_Element := ga K "Element"
  c_Skated := ga K "Skated"
  c_Program := ga K "Program"
  c_Result := ga K "Result"
  c_Refused := ga K "Refused"
  c_Keeper := ga K "Keeper"
  t_JUMP_WORTHS := ga K "JUMP_WORTHS"
  u_JUMP_WORTHS := tupAds K (ga K "JUMP_WORTHS")
  t_SPIN_WORTHS := ga K "SPIN_WORTHS"
  u_SPIN_WORTHS := tupAds K (ga K "SPIN_WORTHS")
  t_STEPS_WORTHS := ga K "STEPS_WORTHS"
  t_MOST_JUMPED := ga K "MOST_JUMPED"
  t_MOST_ROWS := ga K "MOST_ROWS"
  t_MOST_OF_THREE := ga K "MOST_OF_THREE"
  t_MOST_OTHERS := ga K "MOST_OTHERS"
  t_MOST_BONUS := ga K "MOST_BONUS"
  t_KINDS := ga K "KINDS"
  t_EDGED := ga K "EDGED"
  t_BEHIND_SMALL := ga K "BEHIND_SMALL"
  t_EDGES := ga K "EDGES"
  t_MISSING := ga K "MISSING"
  t_LAST_PARTS := ga K "LAST_PARTS"
  t_SHAPES := ga K "SHAPES"
  u_SHAPES := tupAds K (ga K "SHAPES")
/-- the error class's facts -/
structure XFacts (K : PySem.W.Frag) (a : Ad) : Prop where
  ox_Refused : OexC K a.c_Refused
  oi_Refused : PySem.W.findIn K (.ref a.c_Refused) "__init__" = some (some (.ref a.f_Refused___init__))
  ot_Refused : PySem.W.typeIn K (.ref a.f_Refused___init__) = some (.type "function")
  xf_Refused : XfC K a.c_Refused
  no_Refused : PySem.W.findIn K (.ref a.c_Refused) "code" = some none
  te_Refused : PySem.W.exmOne K (.ref a.c_Refused) (.ref a.c_Refused) = some true
  vV : PySem.W.findCls K (.type "ValueError") (.type "type") "__init__" = some (.val (.builtin "ValueError.__init__"))
theorem txt_of {K : PySem.W.Frag} {h : Heap} {mg : Str → Option Value} (X : K.In h) (G : h.Ns mainGlobals mg) (c : SaysE topFacts topFns K) (hk : keptB K = true) (ht : topTups K = true) (x : XFacts K (adOf K)) : Txt K mg (adOf K) where
  g_hundredths := He.glo_ok X G (c.fact (f := .glo "hundredths") 0)
  k_hundredths := He.keep_ok (c.fact (f := .keep "hundredths") 1)
  F_hundredths := fun_at c hk (p := ("hundredths", none)) (x := "hundredths") (qual := "hundredths") (st := s_hundredths) 0
  b_hundredths := (fun_at c hk (p := ("hundredths", none)) (x := "hundredths") (qual := "hundredths") (st := s_hundredths) 0).binds (ps := ["number", "many"]) fun _ _ _ _ _ _ us hl => match us, hl with | [_, _], _ => rfl
  g_away := He.glo_ok X G (c.fact (f := .glo "away") 2)
  k_away := He.keep_ok (c.fact (f := .keep "away") 3)
  F_away := fun_at c hk (p := ("away", none)) (x := "away") (qual := "away") (st := s_away) 1
  b_away := (fun_at c hk (p := ("away", none)) (x := "away") (qual := "away") (st := s_away) 1).binds (ps := ["top", "bottom"]) fun _ _ _ _ _ _ us hl => match us, hl with | [_, _], _ => rfl
  g_kept := He.glo_ok X G (c.fact (f := .glo "kept") 4)
  k_kept := He.keep_ok (c.fact (f := .keep "kept") 5)
  F_kept := fun_at c hk (p := ("kept", none)) (x := "kept") (qual := "kept") (st := s_kept) 2
  b_kept := (fun_at c hk (p := ("kept", none)) (x := "kept") (qual := "kept") (st := s_kept) 2).binds (ps := ["numbers"]) fun _ _ _ _ _ _ us hl => match us, hl with | [_], _ => rfl
  g_graded := He.glo_ok X G (c.fact (f := .glo "graded") 6)
  k_graded := He.keep_ok (c.fact (f := .keep "graded") 7)
  F_graded := fun_at c hk (p := ("graded", none)) (x := "graded") (qual := "graded") (st := s_graded) 3
  b_graded := (fun_at c hk (p := ("graded", none)) (x := "graded") (qual := "graded") (st := s_graded) 3).binds (ps := ["grades", "by"]) fun _ _ _ _ _ _ us hl => match us, hl with | [_, _], _ => rfl
  g_component := He.glo_ok X G (c.fact (f := .glo "component") 8)
  k_component := He.keep_ok (c.fact (f := .keep "component") 9)
  F_component := fun_at c hk (p := ("component", none)) (x := "component") (qual := "component") (st := s_component) 4
  b_component := (fun_at c hk (p := ("component", none)) (x := "component") (qual := "component") (st := s_component) 4).binds (ps := ["quarters"]) fun _ _ _ _ _ _ us hl => match us, hl with | [_], _ => rfl
  g_components_of := He.glo_ok X G (c.fact (f := .glo "components_of") 10)
  k_components_of := He.keep_ok (c.fact (f := .keep "components_of") 11)
  F_components_of := fun_at c hk (p := ("components_of", none)) (x := "components_of") (qual := "components_of") (st := s_components_of) 5
  b_components_of := (fun_at c hk (p := ("components_of", none)) (x := "components_of") (qual := "components_of") (st := s_components_of) 5).binds (ps := ["rows", "factor"]) fun _ _ _ _ _ _ us hl => match us, hl with | [_, _], _ => rfl
  g_taken_off := He.glo_ok X G (c.fact (f := .glo "taken_off") 12)
  k_taken_off := He.keep_ok (c.fact (f := .keep "taken_off") 13)
  F_taken_off := fun_at c hk (p := ("taken_off", none)) (x := "taken_off") (qual := "taken_off") (st := s_taken_off) 6
  b_taken_off := (fun_at c hk (p := ("taken_off", none)) (x := "taken_off") (qual := "taken_off") (st := s_taken_off) 6).binds (ps := ["falls", "others", "seconds"]) fun _ _ _ _ _ _ us hl => match us, hl with | [_, _, _], _ => rfl
  g_jumps_element := He.glo_ok X G (c.fact (f := .glo "jumps_element") 14)
  k_jumps_element := He.keep_ok (c.fact (f := .keep "jumps_element") 15)
  F_jumps_element := fun_at c hk (p := ("jumps_element", none)) (x := "jumps_element") (qual := "jumps_element") (st := s_jumps_element) 7
  b_jumps_element := (fun_at c hk (p := ("jumps_element", none)) (x := "jumps_element") (qual := "jumps_element") (st := s_jumps_element) 7).binds (ps := ["jumps"]) fun _ _ _ _ _ _ us hl => match us, hl with | [_], _ => rfl
  g_order_in := He.glo_ok X G (c.fact (f := .glo "order_in") 16)
  k_order_in := He.keep_ok (c.fact (f := .keep "order_in") 17)
  F_order_in := fun_at c hk (p := ("order_in", none)) (x := "order_in") (qual := "order_in") (st := s_order_in) 8
  b_order_in := (fun_at c hk (p := ("order_in", none)) (x := "order_in") (qual := "order_in") (st := s_order_in) 8).binds (ps := ["result", "free"]) fun _ _ _ _ _ _ us hl => match us, hl with | [_, _], _ => rfl
  g_order_in_all := He.glo_ok X G (c.fact (f := .glo "order_in_all") 18)
  k_order_in_all := He.keep_ok (c.fact (f := .keep "order_in_all") 19)
  F_order_in_all := fun_at c hk (p := ("order_in_all", none)) (x := "order_in_all") (qual := "order_in_all") (st := s_order_in_all) 9
  b_order_in_all := (fun_at c hk (p := ("order_in_all", none)) (x := "order_in_all") (qual := "order_in_all") (st := s_order_in_all) 9).binds (ps := ["results"]) fun _ _ _ _ _ _ us hl => match us, hl with | [_], _ => rfl
  g_placed := He.glo_ok X G (c.fact (f := .glo "placed") 20)
  k_placed := He.keep_ok (c.fact (f := .keep "placed") 21)
  F_placed := fun_at c hk (p := ("placed", none)) (x := "placed") (qual := "placed") (st := s_placed) 10
  b_placed := (fun_at c hk (p := ("placed", none)) (x := "placed") (qual := "placed") (st := s_placed) 10).binds (ps := ["told"]) fun _ _ _ _ _ _ us hl => match us, hl with | [_], _ => rfl
  g_turned := He.glo_ok X G (c.fact (f := .glo "turned") 22)
  k_turned := He.keep_ok (c.fact (f := .keep "turned") 23)
  F_turned := fun_at c hk (p := ("turned", none)) (x := "turned") (qual := "turned") (st := s_turned) 11
  b_turned := (fun_at c hk (p := ("turned", none)) (x := "turned") (qual := "turned") (st := s_turned) 11).binds (ps := ["order"]) fun _ _ _ _ _ _ us hl => match us, hl with | [_], _ => rfl
  g_segment_places := He.glo_ok X G (c.fact (f := .glo "segment_places") 24)
  k_segment_places := He.keep_ok (c.fact (f := .keep "segment_places") 25)
  F_segment_places := fun_at c hk (p := ("segment_places", none)) (x := "segment_places") (qual := "segment_places") (st := s_segment_places) 12
  b_segment_places := (fun_at c hk (p := ("segment_places", none)) (x := "segment_places") (qual := "segment_places") (st := s_segment_places) 12).binds (ps := ["results", "free"]) fun _ _ _ _ _ _ us hl => match us, hl with | [_, _], _ => rfl
  g_places_in_all := He.glo_ok X G (c.fact (f := .glo "places_in_all") 26)
  k_places_in_all := He.keep_ok (c.fact (f := .keep "places_in_all") 27)
  F_places_in_all := fun_at c hk (p := ("places_in_all", none)) (x := "places_in_all") (qual := "places_in_all") (st := s_places_in_all) 13
  b_places_in_all := (fun_at c hk (p := ("places_in_all", none)) (x := "places_in_all") (qual := "places_in_all") (st := s_places_in_all) 13).binds (ps := ["results"]) fun _ _ _ _ _ _ us hl => match us, hl with | [_], _ => rfl
  g_codes := He.glo_ok X G (c.fact (f := .glo "codes") 28)
  k_codes := He.keep_ok (c.fact (f := .keep "codes") 29)
  F_codes := fun_at c hk (p := ("codes", none)) (x := "codes") (qual := "codes") (st := s_codes) 14
  b_codes := (fun_at c hk (p := ("codes", none)) (x := "codes") (qual := "codes") (st := s_codes) 14).binds (ps := ["written"]) fun _ _ _ _ _ _ us hl => match us, hl with | [_], _ => rfl
  g_number_in := He.glo_ok X G (c.fact (f := .glo "number_in") 30)
  k_number_in := He.keep_ok (c.fact (f := .keep "number_in") 31)
  F_number_in := fun_at c hk (p := ("number_in", none)) (x := "number_in") (qual := "number_in") (st := s_number_in) 15
  b_number_in := (fun_at c hk (p := ("number_in", none)) (x := "number_in") (qual := "number_in") (st := s_number_in) 15).binds (ps := ["some", "row"]) fun _ _ _ _ _ _ us hl => match us, hl with | [_, _], _ => rfl
  g_split_by_plus := He.glo_ok X G (c.fact (f := .glo "split_by_plus") 32)
  k_split_by_plus := He.keep_ok (c.fact (f := .keep "split_by_plus") 33)
  F_split_by_plus := fun_at c hk (p := ("split_by_plus", none)) (x := "split_by_plus") (qual := "split_by_plus") (st := s_split_by_plus) 16
  b_split_by_plus := (fun_at c hk (p := ("split_by_plus", none)) (x := "split_by_plus") (qual := "split_by_plus") (st := s_split_by_plus) 16).binds (ps := ["row"]) fun _ _ _ _ _ _ us hl => match us, hl with | [_], _ => rfl
  g_kind_at_first := He.glo_ok X G (c.fact (f := .glo "kind_at_first") 34)
  k_kind_at_first := He.keep_ok (c.fact (f := .keep "kind_at_first") 35)
  F_kind_at_first := fun_at c hk (p := ("kind_at_first", none)) (x := "kind_at_first") (qual := "kind_at_first") (st := s_kind_at_first) 17
  b_kind_at_first := (fun_at c hk (p := ("kind_at_first", none)) (x := "kind_at_first") (qual := "kind_at_first") (st := s_kind_at_first) 17).binds (ps := ["row"]) fun _ _ _ _ _ _ us hl => match us, hl with | [_], _ => rfl
  g_edge_at_first := He.glo_ok X G (c.fact (f := .glo "edge_at_first") 36)
  k_edge_at_first := He.keep_ok (c.fact (f := .keep "edge_at_first") 37)
  F_edge_at_first := fun_at c hk (p := ("edge_at_first", none)) (x := "edge_at_first") (qual := "edge_at_first") (st := s_edge_at_first) 18
  b_edge_at_first := (fun_at c hk (p := ("edge_at_first", none)) (x := "edge_at_first") (qual := "edge_at_first") (st := s_edge_at_first) 18).binds (ps := ["kind", "row"]) fun _ _ _ _ _ _ us hl => match us, hl with | [_, _], _ => rfl
  g_jump_of := He.glo_ok X G (c.fact (f := .glo "jump_of") 38)
  k_jump_of := He.keep_ok (c.fact (f := .keep "jump_of") 39)
  F_jump_of := fun_at c hk (p := ("jump_of", none)) (x := "jump_of") (qual := "jump_of") (st := s_jump_of) 19
  b_jump_of := (fun_at c hk (p := ("jump_of", none)) (x := "jump_of") (qual := "jump_of") (st := s_jump_of) 19).binds (ps := ["row"]) fun _ _ _ _ _ _ us hl => match us, hl with | [_], _ => rfl
  g_may_be_row := He.glo_ok X G (c.fact (f := .glo "may_be_row") 40)
  k_may_be_row := He.keep_ok (c.fact (f := .keep "may_be_row") 41)
  F_may_be_row := fun_at c hk (p := ("may_be_row", none)) (x := "may_be_row") (qual := "may_be_row") (st := s_may_be_row) 20
  b_may_be_row := (fun_at c hk (p := ("may_be_row", none)) (x := "may_be_row") (qual := "may_be_row") (st := s_may_be_row) 20).binds (ps := ["jumps"]) fun _ _ _ _ _ _ us hl => match us, hl with | [_], _ => rfl
  g_jumps_of := He.glo_ok X G (c.fact (f := .glo "jumps_of") 42)
  k_jumps_of := He.keep_ok (c.fact (f := .keep "jumps_of") 43)
  F_jumps_of := fun_at c hk (p := ("jumps_of", none)) (x := "jumps_of") (qual := "jumps_of") (st := s_jumps_of) 21
  b_jumps_of := (fun_at c hk (p := ("jumps_of", none)) (x := "jumps_of") (qual := "jumps_of") (st := s_jumps_of) 21).binds (ps := ["row"]) fun _ _ _ _ _ _ us hl => match us, hl with | [_], _ => rfl
  g_name_of := He.glo_ok X G (c.fact (f := .glo "name_of") 44)
  k_name_of := He.keep_ok (c.fact (f := .keep "name_of") 45)
  F_name_of := fun_at c hk (p := ("name_of", none)) (x := "name_of") (qual := "name_of") (st := s_name_of) 22
  b_name_of := (fun_at c hk (p := ("name_of", none)) (x := "name_of") (qual := "name_of") (st := s_name_of) 22).binds (ps := ["row"]) fun _ _ _ _ _ _ us hl => match us, hl with | [_], _ => rfl
  g_level_of := He.glo_ok X G (c.fact (f := .glo "level_of") 46)
  k_level_of := He.keep_ok (c.fact (f := .keep "level_of") 47)
  F_level_of := fun_at c hk (p := ("level_of", none)) (x := "level_of") (qual := "level_of") (st := s_level_of) 23
  b_level_of := (fun_at c hk (p := ("level_of", none)) (x := "level_of") (qual := "level_of") (st := s_level_of) 23).binds (ps := ["row"]) fun _ _ _ _ _ _ us hl => match us, hl with | [_], _ => rfl
  g_spin_of := He.glo_ok X G (c.fact (f := .glo "spin_of") 48)
  k_spin_of := He.keep_ok (c.fact (f := .keep "spin_of") 49)
  F_spin_of := fun_at c hk (p := ("spin_of", none)) (x := "spin_of") (qual := "spin_of") (st := s_spin_of) 24
  b_spin_of := (fun_at c hk (p := ("spin_of", none)) (x := "spin_of") (qual := "spin_of") (st := s_spin_of) 24).binds (ps := ["row"]) fun _ _ _ _ _ _ us hl => match us, hl with | [_], _ => rfl
  g_steps_of := He.glo_ok X G (c.fact (f := .glo "steps_of") 50)
  k_steps_of := He.keep_ok (c.fact (f := .keep "steps_of") 51)
  F_steps_of := fun_at c hk (p := ("steps_of", none)) (x := "steps_of") (qual := "steps_of") (st := s_steps_of) 25
  b_steps_of := (fun_at c hk (p := ("steps_of", none)) (x := "steps_of") (qual := "steps_of") (st := s_steps_of) 25).binds (ps := ["row"]) fun _ _ _ _ _ _ us hl => match us, hl with | [_], _ => rfl
  g_element_of := He.glo_ok X G (c.fact (f := .glo "element_of") 52)
  k_element_of := He.keep_ok (c.fact (f := .keep "element_of") 53)
  F_element_of := fun_at c hk (p := ("element_of", none)) (x := "element_of") (qual := "element_of") (st := s_element_of) 26
  b_element_of := (fun_at c hk (p := ("element_of", none)) (x := "element_of") (qual := "element_of") (st := s_element_of) 26).binds (ps := ["row"]) fun _ _ _ _ _ _ us hl => match us, hl with | [_], _ => rfl
  g_need := He.glo_ok X G (c.fact (f := .glo "need") 54)
  k_need := He.keep_ok (c.fact (f := .keep "need") 55)
  F_need := fun_at c hk (p := ("need", none)) (x := "need") (qual := "need") (st := s_need) 27
  b_need := (fun_at c hk (p := ("need", none)) (x := "need") (qual := "need") (st := s_need) 27).binds (ps := ["good", "code"]) fun _ _ _ _ _ _ us hl => match us, hl with | [_, _], _ => rfl
  g_need_segment := He.glo_ok X G (c.fact (f := .glo "need_segment") 56)
  k_need_segment := He.keep_ok (c.fact (f := .keep "need_segment") 57)
  F_need_segment := fun_at c hk (p := ("need_segment", none)) (x := "need_segment") (qual := "need_segment") (st := s_need_segment) 28
  b_need_segment := (fun_at c hk (p := ("need_segment", none)) (x := "need_segment") (qual := "need_segment") (st := s_need_segment) 28).binds (ps := ["free"]) fun _ _ _ _ _ _ us hl => match us, hl with | [_], _ => rfl
  g_need_text := He.glo_ok X G (c.fact (f := .glo "need_text") 58)
  k_need_text := He.keep_ok (c.fact (f := .keep "need_text") 59)
  F_need_text := fun_at c hk (p := ("need_text", none)) (x := "need_text") (qual := "need_text") (st := s_need_text) 29
  b_need_text := (fun_at c hk (p := ("need_text", none)) (x := "need_text") (qual := "need_text") (st := s_need_text) 29).binds (ps := ["text"]) fun _ _ _ _ _ _ us hl => match us, hl with | [_], _ => rfl
  g_element_in := He.glo_ok X G (c.fact (f := .glo "element_in") 60)
  k_element_in := He.keep_ok (c.fact (f := .keep "element_in") 61)
  F_element_in := fun_at c hk (p := ("element_in", none)) (x := "element_in") (qual := "element_in") (st := s_element_in) 30
  b_element_in := (fun_at c hk (p := ("element_in", none)) (x := "element_in") (qual := "element_in") (st := s_element_in) 30).binds (ps := ["text"]) fun _ _ _ _ _ _ us hl => match us, hl with | [_], _ => rfl
  g_flat := He.glo_ok X G (c.fact (f := .glo "flat") 62)
  k_flat := He.keep_ok (c.fact (f := .keep "flat") 63)
  F_flat := fun_at c hk (p := ("flat", none)) (x := "flat") (qual := "flat") (st := s_flat) 31
  b_flat := (fun_at c hk (p := ("flat", none)) (x := "flat") (qual := "flat") (st := s_flat) 31).binds (ps := ["rows"]) fun _ _ _ _ _ _ us hl => match us, hl with | [_], _ => rfl
  g_of_skating := He.glo_ok X G (c.fact (f := .glo "of_skating") 64)
  k_of_skating := He.keep_ok (c.fact (f := .keep "of_skating") 65)
  F_of_skating := fun_at c hk (p := ("of_skating", none)) (x := "of_skating") (qual := "of_skating") (st := s_of_skating) 32
  b_of_skating := (fun_at c hk (p := ("of_skating", none)) (x := "of_skating") (qual := "of_skating") (st := s_of_skating) 32).binds (ps := ["keeper", "call", "some", "rows"]) fun _ _ _ _ _ _ us hl => match us, hl with | [_, _, _, _], _ => rfl
  g_told := He.glo_ok X G (c.fact (f := .glo "told") 66)
  k_told := He.keep_ok (c.fact (f := .keep "told") 67)
  F_told := fun_at c hk (p := ("told", none)) (x := "told") (qual := "told") (st := s_told) 33
  b_told := (fun_at c hk (p := ("told", none)) (x := "told") (qual := "told") (st := s_told) 33).binds (ps := ["keeper", "call", "some", "rows"]) fun _ _ _ _ _ _ us hl => match us, hl with | [_, _, _, _], _ => rfl
  g_answer := He.glo_ok X G (c.fact (f := .glo "answer") 68)
  k_answer := He.keep_ok (c.fact (f := .keep "answer") 69)
  F_answer := fun_at c hk (p := ("answer", none)) (x := "answer") (qual := "answer") (st := s_answer) 34
  b_answer := (fun_at c hk (p := ("answer", none)) (x := "answer") (qual := "answer") (st := s_answer) 34).binds (ps := ["keeper", "call", "some", "rows"]) fun _ _ _ _ _ _ us hl => match us, hl with | [_, _, _, _], _ => rfl
  g_rows_at := He.glo_ok X G (c.fact (f := .glo "rows_at") 70)
  k_rows_at := He.keep_ok (c.fact (f := .keep "rows_at") 71)
  F_rows_at := fun_at c hk (p := ("rows_at", none)) (x := "rows_at") (qual := "rows_at") (st := s_rows_at) 35
  b_rows_at := (fun_at c hk (p := ("rows_at", none)) (x := "rows_at") (qual := "rows_at") (st := s_rows_at) 35).binds (ps := ["calls", "at", "many"]) fun _ _ _ _ _ _ us hl => match us, hl with | [_, _, _], _ => rfl
  g_answers := He.glo_ok X G (c.fact (f := .glo "answers") 72)
  k_answers := He.keep_ok (c.fact (f := .keep "answers") 73)
  F_answers := fun_at c hk (p := ("answers", none)) (x := "answers") (qual := "answers") (st := s_answers) 36
  b_answers := (fun_at c hk (p := ("answers", none)) (x := "answers") (qual := "answers") (st := s_answers) 36).binds (ps := ["calls"]) fun _ _ _ _ _ _ us hl => match us, hl with | [_], _ => rfl
  F_Jump___init__ := fun_at c hk (p := ("Jump", some "__init__")) (x := "__init__") (qual := "Jump.__init__") (st := s_Jump___init__) 37
  b_Jump___init__ := (fun_at c hk (p := ("Jump", some "__init__")) (x := "__init__") (qual := "Jump.__init__") (st := s_Jump___init__) 37).binds (ps := ["self", "kind", "turns", "edge", "missing"]) fun _ _ _ _ _ _ us hl => match us, hl with | [_, _, _, _, _], _ => rfl
  F_Jump_whole_worth := fun_at c hk (p := ("Jump", some "whole_worth")) (x := "whole_worth") (qual := "Jump.whole_worth") (st := s_Jump_whole_worth) 38
  b_Jump_whole_worth := (fun_at c hk (p := ("Jump", some "whole_worth")) (x := "whole_worth") (qual := "Jump.whole_worth") (st := s_Jump_whole_worth) 38).binds (ps := ["self"]) fun _ _ _ _ _ _ us hl => match us, hl with | [_], _ => rfl
  M_Jump_whole_worth := He.meth_ok (c.fact (f := .meth "Jump" "whole_worth") 74)
  F_Jump_worth := fun_at c hk (p := ("Jump", some "worth")) (x := "worth") (qual := "Jump.worth") (st := s_Jump_worth) 39
  b_Jump_worth := (fun_at c hk (p := ("Jump", some "worth")) (x := "worth") (qual := "Jump.worth") (st := s_Jump_worth) 39).binds (ps := ["self"]) fun _ _ _ _ _ _ us hl => match us, hl with | [_], _ => rfl
  M_Jump_worth := He.meth_ok (c.fact (f := .meth "Jump" "worth") 75)
  F_Jump_told := fun_at c hk (p := ("Jump", some "told")) (x := "told") (qual := "Jump.told") (st := s_Jump_told) 40
  b_Jump_told := (fun_at c hk (p := ("Jump", some "told")) (x := "told") (qual := "Jump.told") (st := s_Jump_told) 40).binds (ps := ["self"]) fun _ _ _ _ _ _ us hl => match us, hl with | [_], _ => rfl
  M_Jump_told := He.meth_ok (c.fact (f := .meth "Jump" "told") 76)
  F_Element___init__ := fun_at c hk (p := ("Element", some "__init__")) (x := "__init__") (qual := "Element.__init__") (st := s_Element___init__) 41
  b_Element___init__ := (fun_at c hk (p := ("Element", some "__init__")) (x := "__init__") (qual := "Element.__init__") (st := s_Element___init__) 41).binds (ps := ["self", "sort", "jumps", "name", "level"]) fun _ _ _ _ _ _ us hl => match us, hl with | [_, _, _, _, _], _ => rfl
  F_Element_is_row := fun_at c hk (p := ("Element", some "is_row")) (x := "is_row") (qual := "Element.is_row") (st := s_Element_is_row) 42
  b_Element_is_row := (fun_at c hk (p := ("Element", some "is_row")) (x := "is_row") (qual := "Element.is_row") (st := s_Element_is_row) 42).binds (ps := ["self"]) fun _ _ _ _ _ _ us hl => match us, hl with | [_], _ => rfl
  M_Element_is_row := He.meth_ok (c.fact (f := .meth "Element" "is_row") 77)
  F_Element_own_worth := fun_at c hk (p := ("Element", some "own_worth")) (x := "own_worth") (qual := "Element.own_worth") (st := s_Element_own_worth) 43
  b_Element_own_worth := (fun_at c hk (p := ("Element", some "own_worth")) (x := "own_worth") (qual := "Element.own_worth") (st := s_Element_own_worth) 43).binds (ps := ["self"]) fun _ _ _ _ _ _ us hl => match us, hl with | [_], _ => rfl
  M_Element_own_worth := He.meth_ok (c.fact (f := .meth "Element" "own_worth") 78)
  F_Element_told := fun_at c hk (p := ("Element", some "told")) (x := "told") (qual := "Element.told") (st := s_Element_told) 44
  b_Element_told := (fun_at c hk (p := ("Element", some "told")) (x := "told") (qual := "Element.told") (st := s_Element_told) 44).binds (ps := ["self"]) fun _ _ _ _ _ _ us hl => match us, hl with | [_], _ => rfl
  M_Element_told := He.meth_ok (c.fact (f := .meth "Element" "told") 79)
  F_Skated___init__ := fun_at c hk (p := ("Skated", some "__init__")) (x := "__init__") (qual := "Skated.__init__") (st := s_Skated___init__) 45
  b_Skated___init__ := (fun_at c hk (p := ("Skated", some "__init__")) (x := "__init__") (qual := "Skated.__init__") (st := s_Skated___init__) 45).binds (ps := ["self", "element", "is_later", "grades"]) fun _ _ _ _ _ _ us hl => match us, hl with | [_, _, _, _], _ => rfl
  F_Skated_made := fun_at c hk (p := ("Skated", some "made")) (x := "made") (qual := "Skated.made") (st := s_Skated_made) 46
  b_Skated_made := (fun_at c hk (p := ("Skated", some "made")) (x := "made") (qual := "Skated.made") (st := s_Skated_made) 46).binds (ps := ["self"]) fun _ _ _ _ _ _ us hl => match us, hl with | [_], _ => rfl
  M_Skated_made := He.meth_ok (c.fact (f := .meth "Skated" "made") 80)
  F_Program___init__ := fun_at c hk (p := ("Program", some "__init__")) (x := "__init__") (qual := "Program.__init__") (st := s_Program___init__) 47
  b_Program___init__ := (fun_at c hk (p := ("Program", some "__init__")) (x := "__init__") (qual := "Program.__init__") (st := s_Program___init__) 47).binds (ps := ["self", "free"]) fun _ _ _ _ _ _ us hl => match us, hl with | [_, _], _ => rfl
  F_Program_counted := fun_at c hk (p := ("Program", some "counted")) (x := "counted") (qual := "Program.counted") (st := s_Program_counted) 48
  b_Program_counted := (fun_at c hk (p := ("Program", some "counted")) (x := "counted") (qual := "Program.counted") (st := s_Program_counted) 48).binds (ps := ["self", "sort"]) fun _ _ _ _ _ _ us hl => match us, hl with | [_, _], _ => rfl
  M_Program_counted := He.meth_ok (c.fact (f := .meth "Program" "counted") 81)
  F_Program_do_jumps_count := fun_at c hk (p := ("Program", some "do_jumps_count")) (x := "do_jumps_count") (qual := "Program.do_jumps_count") (st := s_Program_do_jumps_count) 49
  b_Program_do_jumps_count := (fun_at c hk (p := ("Program", some "do_jumps_count")) (x := "do_jumps_count") (qual := "Program.do_jumps_count") (st := s_Program_do_jumps_count) 49).binds (ps := ["self", "element"]) fun _ _ _ _ _ _ us hl => match us, hl with | [_, _], _ => rfl
  M_Program_do_jumps_count := He.meth_ok (c.fact (f := .meth "Program" "do_jumps_count") 82)
  F_Program_does_count := fun_at c hk (p := ("Program", some "does_count")) (x := "does_count") (qual := "Program.does_count") (st := s_Program_does_count) 50
  b_Program_does_count := (fun_at c hk (p := ("Program", some "does_count")) (x := "does_count") (qual := "Program.does_count") (st := s_Program_does_count) 50).binds (ps := ["self", "element"]) fun _ _ _ _ _ _ us hl => match us, hl with | [_, _], _ => rfl
  M_Program_does_count := He.meth_ok (c.fact (f := .meth "Program" "does_count") 83)
  F_Program_jump_worth := fun_at c hk (p := ("Program", some "jump_worth")) (x := "jump_worth") (qual := "Program.jump_worth") (st := s_Program_jump_worth) 51
  b_Program_jump_worth := (fun_at c hk (p := ("Program", some "jump_worth")) (x := "jump_worth") (qual := "Program.jump_worth") (st := s_Program_jump_worth) 51).binds (ps := ["self", "jump", "is_row"]) fun _ _ _ _ _ _ us hl => match us, hl with | [_, _, _], _ => rfl
  M_Program_jump_worth := He.meth_ok (c.fact (f := .meth "Program" "jump_worth") 84)
  F_Program_take_jumps := fun_at c hk (p := ("Program", some "take_jumps")) (x := "take_jumps") (qual := "Program.take_jumps") (st := s_Program_take_jumps) 52
  b_Program_take_jumps := (fun_at c hk (p := ("Program", some "take_jumps")) (x := "take_jumps") (qual := "Program.take_jumps") (st := s_Program_take_jumps) 52).binds (ps := ["self", "one"]) fun _ _ _ _ _ _ us hl => match us, hl with | [_, _], _ => rfl
  M_Program_take_jumps := He.meth_ok (c.fact (f := .meth "Program" "take_jumps") 85)
  F_Program_take := fun_at c hk (p := ("Program", some "take")) (x := "take") (qual := "Program.take") (st := s_Program_take) 53
  b_Program_take := (fun_at c hk (p := ("Program", some "take")) (x := "take") (qual := "Program.take") (st := s_Program_take) 53).binds (ps := ["self", "element", "is_later", "grades"]) fun _ _ _ _ _ _ us hl => match us, hl with | [_, _, _, _], _ => rfl
  M_Program_take := He.meth_ok (c.fact (f := .meth "Program" "take") 86)
  F_Program_with_bonus := fun_at c hk (p := ("Program", some "with_bonus")) (x := "with_bonus") (qual := "Program.with_bonus") (st := s_Program_with_bonus) 54
  b_Program_with_bonus := (fun_at c hk (p := ("Program", some "with_bonus")) (x := "with_bonus") (qual := "Program.with_bonus") (st := s_Program_with_bonus) 54).binds (ps := ["self"]) fun _ _ _ _ _ _ us hl => match us, hl with | [_], _ => rfl
  M_Program_with_bonus := He.meth_ok (c.fact (f := .meth "Program" "with_bonus") 87)
  F_Program_worths := fun_at c hk (p := ("Program", some "worths")) (x := "worths") (qual := "Program.worths") (st := s_Program_worths) 55
  b_Program_worths := (fun_at c hk (p := ("Program", some "worths")) (x := "worths") (qual := "Program.worths") (st := s_Program_worths) 55).binds (ps := ["self"]) fun _ _ _ _ _ _ us hl => match us, hl with | [_], _ => rfl
  M_Program_worths := He.meth_ok (c.fact (f := .meth "Program" "worths") 88)
  F_Result___init__ := fun_at c hk (p := ("Result", some "__init__")) (x := "__init__") (qual := "Result.__init__") (st := s_Result___init__) 56
  b_Result___init__ := (fun_at c hk (p := ("Result", some "__init__")) (x := "__init__") (qual := "Result.__init__") (st := s_Result___init__) 56).binds (ps := ["self", "program", "factor"]) fun _ _ _ _ _ _ us hl => match us, hl with | [_, _, _], _ => rfl
  F_Refused___init__ := fun_at c hk (p := ("Refused", some "__init__")) (x := "__init__") (qual := "Refused.__init__") (st := s_Refused___init__) 57
  b_Refused___init__ := (fun_at c hk (p := ("Refused", some "__init__")) (x := "__init__") (qual := "Refused.__init__") (st := s_Refused___init__) 57).binds (ps := ["self", "code"]) fun _ _ _ _ _ _ us hl => match us, hl with | [_, _], _ => rfl
  F_Keeper___init__ := fun_at c hk (p := ("Keeper", some "__init__")) (x := "__init__") (qual := "Keeper.__init__") (st := s_Keeper___init__) 58
  b_Keeper___init__ := (fun_at c hk (p := ("Keeper", some "__init__")) (x := "__init__") (qual := "Keeper.__init__") (st := s_Keeper___init__) 58).binds (ps := ["self"]) fun _ _ _ _ _ _ us hl => match us, hl with | [_], _ => rfl
  F_Keeper_begin := fun_at c hk (p := ("Keeper", some "begin")) (x := "begin") (qual := "Keeper.begin") (st := s_Keeper_begin) 59
  b_Keeper_begin := (fun_at c hk (p := ("Keeper", some "begin")) (x := "begin") (qual := "Keeper.begin") (st := s_Keeper_begin) 59).binds (ps := ["self", "judges", "short", "free"]) fun _ _ _ _ _ _ us hl => match us, hl with | [_, _, _, _], _ => rfl
  M_Keeper_begin := He.meth_ok (c.fact (f := .meth "Keeper" "begin") 89)
  F_Keeper_skater := fun_at c hk (p := ("Keeper", some "skater")) (x := "skater") (qual := "Keeper.skater") (st := s_Keeper_skater) 60
  b_Keeper_skater := (fun_at c hk (p := ("Keeper", some "skater")) (x := "skater") (qual := "Keeper.skater") (st := s_Keeper_skater) 60).binds (ps := ["self"]) fun _ _ _ _ _ _ us hl => match us, hl with | [_], _ => rfl
  M_Keeper_skater := He.meth_ok (c.fact (f := .meth "Keeper" "skater") 90)
  F_Keeper_read := fun_at c hk (p := ("Keeper", some "read")) (x := "read") (qual := "Keeper.read") (st := s_Keeper_read) 61
  b_Keeper_read := (fun_at c hk (p := ("Keeper", some "read")) (x := "read") (qual := "Keeper.read") (st := s_Keeper_read) 61).binds (ps := ["self", "text"]) fun _ _ _ _ _ _ us hl => match us, hl with | [_, _], _ => rfl
  M_Keeper_read := He.meth_ok (c.fact (f := .meth "Keeper" "read") 91)
  F_Keeper_need_skater := fun_at c hk (p := ("Keeper", some "need_skater")) (x := "need_skater") (qual := "Keeper.need_skater") (st := s_Keeper_need_skater) 62
  b_Keeper_need_skater := (fun_at c hk (p := ("Keeper", some "need_skater")) (x := "need_skater") (qual := "Keeper.need_skater") (st := s_Keeper_need_skater) 62).binds (ps := ["self", "skater", "free"]) fun _ _ _ _ _ _ us hl => match us, hl with | [_, _, _], _ => rfl
  M_Keeper_need_skater := He.meth_ok (c.fact (f := .meth "Keeper" "need_skater") 92)
  F_Keeper_start := fun_at c hk (p := ("Keeper", some "start")) (x := "start") (qual := "Keeper.start") (st := s_Keeper_start) 63
  b_Keeper_start := (fun_at c hk (p := ("Keeper", some "start")) (x := "start") (qual := "Keeper.start") (st := s_Keeper_start) 63).binds (ps := ["self", "skater", "free"]) fun _ _ _ _ _ _ us hl => match us, hl with | [_, _, _], _ => rfl
  M_Keeper_start := He.meth_ok (c.fact (f := .meth "Keeper" "start") 93)
  F_Keeper_need_program := fun_at c hk (p := ("Keeper", some "need_program")) (x := "need_program") (qual := "Keeper.need_program") (st := s_Keeper_need_program) 64
  b_Keeper_need_program := (fun_at c hk (p := ("Keeper", some "need_program")) (x := "need_program") (qual := "Keeper.need_program") (st := s_Keeper_need_program) 64).binds (ps := ["self"]) fun _ _ _ _ _ _ us hl => match us, hl with | [_], _ => rfl
  M_Keeper_need_program := He.meth_ok (c.fact (f := .meth "Keeper" "need_program") 94)
  F_Keeper_element := fun_at c hk (p := ("Keeper", some "element")) (x := "element") (qual := "Keeper.element") (st := s_Keeper_element) 65
  b_Keeper_element := (fun_at c hk (p := ("Keeper", some "element")) (x := "element") (qual := "Keeper.element") (st := s_Keeper_element) 65).binds (ps := ["self", "second", "text", "grades"]) fun _ _ _ _ _ _ us hl => match us, hl with | [_, _, _, _], _ => rfl
  M_Keeper_element := He.meth_ok (c.fact (f := .meth "Keeper" "element") 95)
  F_Keeper_marks := fun_at c hk (p := ("Keeper", some "marks")) (x := "marks") (qual := "Keeper.marks") (st := s_Keeper_marks) 66
  b_Keeper_marks := (fun_at c hk (p := ("Keeper", some "marks")) (x := "marks") (qual := "Keeper.marks") (st := s_Keeper_marks) 66).binds (ps := ["self", "rows"]) fun _ _ _ _ _ _ us hl => match us, hl with | [_, _], _ => rfl
  M_Keeper_marks := He.meth_ok (c.fact (f := .meth "Keeper" "marks") 96)
  F_Keeper_faults := fun_at c hk (p := ("Keeper", some "faults")) (x := "faults") (qual := "Keeper.faults") (st := s_Keeper_faults) 67
  b_Keeper_faults := (fun_at c hk (p := ("Keeper", some "faults")) (x := "faults") (qual := "Keeper.faults") (st := s_Keeper_faults) 67).binds (ps := ["self", "falls", "others", "seconds"]) fun _ _ _ _ _ _ us hl => match us, hl with | [_, _, _, _], _ => rfl
  M_Keeper_faults := He.meth_ok (c.fact (f := .meth "Keeper" "faults") 97)
  F_Keeper_end := fun_at c hk (p := ("Keeper", some "end")) (x := "end") (qual := "Keeper.end") (st := s_Keeper_end) 68
  b_Keeper_end := (fun_at c hk (p := ("Keeper", some "end")) (x := "end") (qual := "Keeper.end") (st := s_Keeper_end) 68).binds (ps := ["self"]) fun _ _ _ _ _ _ us hl => match us, hl with | [_], _ => rfl
  M_Keeper_end := He.meth_ok (c.fact (f := .meth "Keeper" "end") 98)
  F_Keeper_sheet := fun_at c hk (p := ("Keeper", some "sheet")) (x := "sheet") (qual := "Keeper.sheet") (st := s_Keeper_sheet) 69
  b_Keeper_sheet := (fun_at c hk (p := ("Keeper", some "sheet")) (x := "sheet") (qual := "Keeper.sheet") (st := s_Keeper_sheet) 69).binds (ps := ["self", "skater", "free"]) fun _ _ _ _ _ _ us hl => match us, hl with | [_, _, _], _ => rfl
  M_Keeper_sheet := He.meth_ok (c.fact (f := .meth "Keeper" "sheet") 99)
  F_Keeper_places := fun_at c hk (p := ("Keeper", some "places")) (x := "places") (qual := "Keeper.places") (st := s_Keeper_places) 70
  b_Keeper_places := (fun_at c hk (p := ("Keeper", some "places")) (x := "places") (qual := "Keeper.places") (st := s_Keeper_places) 70).binds (ps := ["self", "free"]) fun _ _ _ _ _ _ us hl => match us, hl with | [_, _], _ => rfl
  M_Keeper_places := He.meth_ok (c.fact (f := .meth "Keeper" "places") 100)
  F_Keeper_all_places := fun_at c hk (p := ("Keeper", some "all_places")) (x := "all_places") (qual := "Keeper.all_places") (st := s_Keeper_all_places) 71
  b_Keeper_all_places := (fun_at c hk (p := ("Keeper", some "all_places")) (x := "all_places") (qual := "Keeper.all_places") (st := s_Keeper_all_places) 71).binds (ps := ["self"]) fun _ _ _ _ _ _ us hl => match us, hl with | [_], _ => rfl
  M_Keeper_all_places := He.meth_ok (c.fact (f := .meth "Keeper" "all_places") 101)
  gC_Jump := He.glo_ok X G (c.fact (f := .glo "Jump") 102)
  C_Jump := He.cls_ok (c.fact (f := .cls "Jump") 103)
  mk_Jump := He.mkr_ok (c.fact (f := .mkr "Jump") 104)
  n_Jump_kind := He.noat_ok (c.fact (f := .noat "Jump" "kind") 105)
  n_Jump_turns := He.noat_ok (c.fact (f := .noat "Jump" "turns") 106)
  n_Jump_edge := He.noat_ok (c.fact (f := .noat "Jump" "edge") 107)
  n_Jump_missing := He.noat_ok (c.fact (f := .noat "Jump" "missing") 108)
  gC_Element := He.glo_ok X G (c.fact (f := .glo "Element") 109)
  C_Element := He.cls_ok (c.fact (f := .cls "Element") 110)
  mk_Element := He.mkr_ok (c.fact (f := .mkr "Element") 111)
  n_Element_sort_told := He.noat_ok (c.fact (f := .noat "Element" "sort_told") 112)
  n_Element_jumps := He.noat_ok (c.fact (f := .noat "Element" "jumps") 113)
  n_Element_name := He.noat_ok (c.fact (f := .noat "Element" "name") 114)
  n_Element_level := He.noat_ok (c.fact (f := .noat "Element" "level") 115)
  gC_Skated := He.glo_ok X G (c.fact (f := .glo "Skated") 116)
  C_Skated := He.cls_ok (c.fact (f := .cls "Skated") 117)
  mk_Skated := He.mkr_ok (c.fact (f := .mkr "Skated") 118)
  n_Skated_skill := He.noat_ok (c.fact (f := .noat "Skated" "skill") 119)
  n_Skated_is_later := He.noat_ok (c.fact (f := .noat "Skated" "is_later") 120)
  n_Skated_grades := He.noat_ok (c.fact (f := .noat "Skated" "grades") 121)
  n_Skated_is_counted := He.noat_ok (c.fact (f := .noat "Skated" "is_counted") 122)
  n_Skated_plain_worth := He.noat_ok (c.fact (f := .noat "Skated" "plain_worth") 123)
  n_Skated_goes_by := He.noat_ok (c.fact (f := .noat "Skated" "goes_by") 124)
  gC_Program := He.glo_ok X G (c.fact (f := .glo "Program") 125)
  C_Program := He.cls_ok (c.fact (f := .cls "Program") 126)
  mk_Program := He.mkr_ok (c.fact (f := .mkr "Program") 127)
  n_Program_free := He.noat_ok (c.fact (f := .noat "Program" "free") 128)
  n_Program_skated := He.noat_ok (c.fact (f := .noat "Program" "skated") 129)
  n_Program_seen := He.noat_ok (c.fact (f := .noat "Program" "seen") 130)
  n_Program_rows := He.noat_ok (c.fact (f := .noat "Program" "rows") 131)
  n_Program_told_faults := He.noat_ok (c.fact (f := .noat "Program" "told_faults") 132)
  gC_Result := He.glo_ok X G (c.fact (f := .glo "Result") 133)
  C_Result := He.cls_ok (c.fact (f := .cls "Result") 134)
  mk_Result := He.mkr_ok (c.fact (f := .mkr "Result") 135)
  n_Result_pairs := He.noat_ok (c.fact (f := .noat "Result" "pairs") 136)
  n_Result_all_elements := He.noat_ok (c.fact (f := .noat "Result" "all_elements") 137)
  n_Result_components := He.noat_ok (c.fact (f := .noat "Result" "components") 138)
  n_Result_off := He.noat_ok (c.fact (f := .noat "Result" "off") 139)
  n_Result_score := He.noat_ok (c.fact (f := .noat "Result" "score") 140)
  gC_Refused := He.glo_ok X G (c.fact (f := .glo "Refused") 141)
  ox_Refused := x.ox_Refused
  oi_Refused := x.oi_Refused
  ot_Refused := x.ot_Refused
  xf_Refused := x.xf_Refused
  no_Refused := x.no_Refused
  te_Refused := x.te_Refused
  vV := x.vV
  gC_Keeper := He.glo_ok X G (c.fact (f := .glo "Keeper") 142)
  C_Keeper := He.cls_ok (c.fact (f := .cls "Keeper") 143)
  mk_Keeper := He.mkr_ok (c.fact (f := .mkr "Keeper") 144)
  n_Keeper_judges := He.noat_ok (c.fact (f := .noat "Keeper" "judges") 145)
  n_Keeper_factors := He.noat_ok (c.fact (f := .noat "Keeper" "factors") 146)
  n_Keeper_results := He.noat_ok (c.fact (f := .noat "Keeper" "results") 147)
  n_Keeper_skater_now := He.noat_ok (c.fact (f := .noat "Keeper" "skater_now") 148)
  n_Keeper_program := He.noat_ok (c.fact (f := .noat "Keeper" "program") 149)
  n_len := He.free_ok X G (c.fact (f := .free "len") 150)
  n_abs := He.free_ok X G (c.fact (f := .free "abs") 151)
  n_sum := He.free_ok X G (c.fact (f := .free "sum") 152)
  n_sorted := He.free_ok X G (c.fact (f := .free "sorted") 153)
  n_list := He.free_ok X G (c.fact (f := .free "list") 154)
  n_min := He.free_ok X G (c.fact (f := .free "min") 155)
  n_max := He.free_ok X G (c.fact (f := .free "max") 156)
  n_int := He.free_ok X G (c.fact (f := .free "int") 157)
  n_ord := He.free_ok X G (c.fact (f := .free "ord") 158)
  n_any := He.free_ok X G (c.fact (f := .free "any") 159)
  n_all := He.free_ok X G (c.fact (f := .free "all") 160)
  n_range := He.free_ok X G (c.fact (f := .free "range") 161)
  n_enumerate := He.free_ok X G (c.fact (f := .free "enumerate") 162)
  n_ValueError := He.free_ok X G (c.fact (f := .free "ValueError") 163)
  i_MANY_JUDGES := He.int_ok X G (c.fact (f := .int "MANY_JUDGES" (5)) 164)
  i_JUMPS := He.int_ok X G (c.fact (f := .int "JUMPS" (0)) 165)
  i_SPIN := He.int_ok X G (c.fact (f := .int "SPIN" (1)) 166)
  i_STEPS := He.int_ok X G (c.fact (f := .int "STEPS" (2)) 167)
  i_OTHERS := He.int_ok X G (c.fact (f := .int "OTHERS" (3)) 168)
  i_SMALL := He.int_ok X G (c.fact (f := .int "SMALL" (6)) 169)
  i_ON_EDGE := He.int_ok X G (c.fact (f := .int "ON_EDGE" (1)) 170)
  i_SHORT_OF := He.int_ok X G (c.fact (f := .int "SHORT_OF" (2)) 171)
  i_HALF_OFF := He.int_ok X G (c.fact (f := .int "HALF_OFF" (3)) 172)
  i_SMALL_WORTH := He.int_ok X G (c.fact (f := .int "SMALL_WORTH" (50)) 173)
  i_OTHERS_WORTH := He.int_ok X G (c.fact (f := .int "OTHERS_WORTH" (200)) 174)
  i_MORE := He.int_ok X G (c.fact (f := .int "MORE" (50)) 175)
  i_FLYING := He.int_ok X G (c.fact (f := .int "FLYING" (10)) 176)
  i_CHANGED := He.int_ok X G (c.fact (f := .int "CHANGED" (5)) 177)
  i_FREE := He.int_ok X G (c.fact (f := .int "FREE" (1)) 178)
  i_MOST_SPINS := He.int_ok X G (c.fact (f := .int "MOST_SPINS" (3)) 179)
  i_LEAST_REPEATED := He.int_ok X G (c.fact (f := .int "LEAST_REPEATED" (3)) 180)
  i_REPEATED := He.int_ok X G (c.fact (f := .int "REPEATED" (70)) 181)
  i_LATER := He.int_ok X G (c.fact (f := .int "LATER" (110)) 182)
  i_MOST_JUMPS := He.int_ok X G (c.fact (f := .int "MOST_JUMPS" (3)) 183)
  i_PLUS := He.int_ok X G (c.fact (f := .int "PLUS" (43)) 184)
  i_NOUGHT := He.int_ok X G (c.fact (f := .int "NOUGHT" (48)) 185)
  i_NOT_SO := He.int_ok X G (c.fact (f := .int "NOT_SO" (-1)) 186)
  i_NOTHING_THERE := He.int_ok X G (c.fact (f := .int "NOTHING_THERE" (-2)) 187)
  i_BEING_SKATED := He.int_ok X G (c.fact (f := .int "BEING_SKATED" (-3)) 188)
  i_WRONG := He.int_ok X G (c.fact (f := .int "WRONG" (-4)) 189)
  i_TOO_MANY := He.int_ok X G (c.fact (f := .int "TOO_MANY" (-5)) 190)
  i_LEAST_JUDGES := He.int_ok X G (c.fact (f := .int "LEAST_JUDGES" (3)) 191)
  i_MOST_JUDGES := He.int_ok X G (c.fact (f := .int "MOST_JUDGES" (9)) 192)
  i_MOST_FACTOR := He.int_ok X G (c.fact (f := .int "MOST_FACTOR" (1000)) 193)
  i_MOST_SKATERS := He.int_ok X G (c.fact (f := .int "MOST_SKATERS" (30)) 194)
  i_MOST_TEXT := He.int_ok X G (c.fact (f := .int "MOST_TEXT" (40)) 195)
  i_MOST_ELEMENTS := He.int_ok X G (c.fact (f := .int "MOST_ELEMENTS" (20)) 196)
  i_MOST_GRADE := He.int_ok X G (c.fact (f := .int "MOST_GRADE" (5)) 197)
  i_MOST_QUARTERS := He.int_ok X G (c.fact (f := .int "MOST_QUARTERS" (40)) 198)
  i_MOST_FALLS := He.int_ok X G (c.fact (f := .int "MOST_FALLS" (20)) 199)
  i_MOST_SECONDS := He.int_ok X G (c.fact (f := .int "MOST_SECONDS" (300)) 200)
  s_LEVELS := He.str_ok X G (c.fact (f := .str "LEVELS" "B1234") 201)
  t_JUMP_WORTHS := He.glo_ok X G (c.fact (f := .glo "JUMP_WORTHS") 202)
  T_JUMP_WORTHS := tupB_ok (tb_JUMP_WORTHS ht).1
  U_JUMP_WORTHS := rowsB_ok (tb_JUMP_WORTHS ht).2
  t_SPIN_WORTHS := He.glo_ok X G (c.fact (f := .glo "SPIN_WORTHS") 203)
  T_SPIN_WORTHS := tupB_ok (tb_SPIN_WORTHS ht).1
  U_SPIN_WORTHS := rowsB_ok (tb_SPIN_WORTHS ht).2
  t_STEPS_WORTHS := He.glo_ok X G (c.fact (f := .glo "STEPS_WORTHS") 204)
  T_STEPS_WORTHS := tupB_ok (tb_STEPS_WORTHS ht)
  t_MOST_JUMPED := He.glo_ok X G (c.fact (f := .glo "MOST_JUMPED") 205)
  T_MOST_JUMPED := tupB_ok (tb_MOST_JUMPED ht)
  t_MOST_ROWS := He.glo_ok X G (c.fact (f := .glo "MOST_ROWS") 206)
  T_MOST_ROWS := tupB_ok (tb_MOST_ROWS ht)
  t_MOST_OF_THREE := He.glo_ok X G (c.fact (f := .glo "MOST_OF_THREE") 207)
  T_MOST_OF_THREE := tupB_ok (tb_MOST_OF_THREE ht)
  t_MOST_OTHERS := He.glo_ok X G (c.fact (f := .glo "MOST_OTHERS") 208)
  T_MOST_OTHERS := tupB_ok (tb_MOST_OTHERS ht)
  t_MOST_BONUS := He.glo_ok X G (c.fact (f := .glo "MOST_BONUS") 209)
  T_MOST_BONUS := tupB_ok (tb_MOST_BONUS ht)
  t_KINDS := He.glo_ok X G (c.fact (f := .glo "KINDS") 210)
  T_KINDS := tupB_ok (tb_KINDS ht)
  t_EDGED := He.glo_ok X G (c.fact (f := .glo "EDGED") 211)
  T_EDGED := tupB_ok (tb_EDGED ht)
  t_BEHIND_SMALL := He.glo_ok X G (c.fact (f := .glo "BEHIND_SMALL") 212)
  T_BEHIND_SMALL := tupB_ok (tb_BEHIND_SMALL ht)
  t_EDGES := He.glo_ok X G (c.fact (f := .glo "EDGES") 213)
  T_EDGES := tupB_ok (tb_EDGES ht)
  t_MISSING := He.glo_ok X G (c.fact (f := .glo "MISSING") 214)
  T_MISSING := tupB_ok (tb_MISSING ht)
  t_LAST_PARTS := He.glo_ok X G (c.fact (f := .glo "LAST_PARTS") 215)
  T_LAST_PARTS := tupB_ok (tb_LAST_PARTS ht)
  t_SHAPES := He.glo_ok X G (c.fact (f := .glo "SHAPES") 216)
  T_SHAPES := tupB_ok (tb_SHAPES ht).1
  U_SHAPES := rowsB_ok (tb_SHAPES ht).2
end SkW

set_option Elab.async false
set_option linter.all false
set_option maxRecDepth 100000
set_option maxHeartbeats 4000000
namespace SkW
open PySem PySem.Spec PyProof.Rows L2 Evl LamX
open PySem.W (WData Codec OpenSpec)
/-- the written part without the object at p -/
def dropK (K : PySem.W.Frag) (p : Addr) : PySem.W.Frag := K.filter fun q => !(q.1 == p)
theorem dropK_at {p b : Addr} (h : b ≠ p) : ∀ K : PySem.W.Frag, (dropK K p).lookup b = K.lookup b
  | [] => rfl
  | (x, o) :: K => by
    unfold dropK
    rw [List.filter_cons]
    by_cases e : x = p
    · have e1 : (!((x, o).1 == p)) = false := by rw [show ((x, o).1 == p) = true from beq_iff_eq.mpr e]; rfl
      rw [e1]
      have e2 : (b == x) = false := beq_eq_false_iff_ne.mpr (by rw [e]; exact h)
      show List.lookup b (dropK K p) = _
      rw [dropK_at h K, List.lookup_cons, e2]
    · have e1 : (!((x, o).1 == p)) = true := by rw [show ((x, o).1 == p) = false from beq_eq_false_iff_ne.mpr e]; rfl
      rw [e1]
      show List.lookup b ((x, o) :: dropK K p) = _
      rw [List.lookup_cons, List.lookup_cons, dropK_at h K]
theorem dropK_none {p : Addr} : ∀ K : PySem.W.Frag, (dropK K p).lookup p = none
  | [] => rfl
  | (x, o) :: K => by
    unfold dropK
    rw [List.filter_cons]
    by_cases e : x = p
    · have e1 : (!((x, o).1 == p)) = false := by rw [show ((x, o).1 == p) = true from beq_iff_eq.mpr e]; rfl
      rw [e1]
      exact dropK_none K
    · have e1 : (!((x, o).1 == p)) = true := by rw [show ((x, o).1 == p) = false from beq_eq_false_iff_ne.mpr e]; rfl
      rw [e1]
      show List.lookup p ((x, o) :: dropK K p) = _
      rw [List.lookup_cons, beq_eq_false_iff_ne.mpr (Ne.symm e)]
      exact dropK_none K
theorem dropK_in {K : PySem.W.Frag} {h : Heap} {p : Addr} (X : K.In h) : (dropK K p).In h := fun b o e => by
  by_cases z : b = p
  · rw [z, dropK_none] at e; cases e
  · rw [dropK_at z] at e; exact X b o e
def tabA (K : PySem.W.Frag) : Addr := He.tabOf K (He.codeOf K ("placed", none))
theorem top_end {P : Program} {w : World} {K0 K : PySem.W.Frag} {h : Heap} {mg : Str → Option Value} {fa : Addr} (X0 : K0.In h) (G : h.Ns mainGlobals mg) (hmg : mg "answers" = some (.ref fa)) (hK : K = dropK K0 (tabA K0)) (hT : PySem.W.CodeHd h (He.codeOf K0 ("placed", none)) (tabA K0) ∧ h.get? (tabA K0) = some (PySem.W.tabObj #[])) (hco : (He.codeOf K ("placed", none) == He.codeOf K0 ("placed", none)) = true)
    (c : He.SaysE topFacts topFns K) (hk : keptB K = true) (ht : topTups K = true) (x : XFacts K (adOf K)) :
    ∃ (K : PySem.W.Frag) (c p : Addr) (fd : FuncData), K.In h ∧ h.get? p = some { cls := .none, data := .fields #[] } ∧ K.lookup p = none ∧ PySem.W.CodeHd h c p ∧ (∀ (s : Shared) (us : List Value), us.length = (["calls"] : List Str).length → BindsTo s fd ⟨us, []⟩ ((["calls"] : List Str).zip us)) ∧
        ∀ base : Heap, K.In base → base.Ns mainGlobals mg → TabB base mg c p → FnOk P w K mg base CX0 15 fa fd ["calls"] (sp_answers K p) := by
  have X : K.In h := by rw [hK]; exact dropK_in X0
  have T := txt_of X G c hk ht x
  have e := hmg.symm.trans T.g_answers
  cases e
  have hn : K.lookup (tabA K0) = none := by rw [hK]; exact dropK_none K0
  refine ⟨K, He.codeOf K ("placed", none), tabA K0, (adOf K).d_answers, X, hT.2, hn, by rw [beq_iff_eq.mp hco]; exact hT.1, ?_, fun base hb hg tb => ok_answers T ⟨placed_at c (p := ("placed", none)) (x := "placed") (qual := "placed") (st := s_placed) 10, tb⟩⟩
  obtain ⟨oc, od, kV, doc, pm, an, cdv, ct, osl, e, _, _⟩ := T.F_answers.ex
  rw [e]
  exact fun s us hu => match us, hu with | [_], _ => .of_eq rfl
theorem tab_ofS {q : Program} {loose : List Str} {mean : ExcName → Option Value} {mg mb : Str → Option Value} {h : Heap} {K : PySem.W.Frag} {x : Str} {c P : Addr} (T : Top q loose mean mg mb h) (X : K.In h) (hr : ((recsOf q).find? (fun e => e.name == x)).isSome = true) (ht : PySem.W.tabIn K x = some (c, P)) : PySem.W.CodeHd h c P ∧ h.get? P = some (PySem.W.tabObj #[]) := by
  obtain ⟨d, e⟩ := Option.isSome_iff_exists.mp hr
  exact PySem.W.tab_of T X e ht
theorem tabs_of {H : Hp} {p : Addr} (h : H p = some (.tbl #[])) : Tabs (tabsOf p) H := fun x hx => by
  rw [List.mem_singleton.mp hx]
  exact ⟨#[], h, trivial, fun pos cv hc => by cases hc⟩
/-- the error class: one Bool -/
def oexB (K : PySem.W.Frag) (C : Addr) : Bool := match K.lookup C with
  | some ⟨.type t, _, .cls cd, sl⟩ => (match cd.mro, sl.toList with
    | .ref c :: bm, [_, _, _, _, some (.builtin n), _] => decide (t = "type") && (decide (c = C) && (decide (n = "ValueError.__new__") && (!cd.hasDel && (cd.hasDict && PySem.HandSPX.refsVE bm))))
    | _, _ => false)
  | _ => false
theorem oexB_ok {K : PySem.W.Frag} {C : Addr} (h : oexB K C = true) : ∃ nm q N bs bm sn sub ab col dd k0 k1 k2 k3 k5, K.lookup C = some (excClassObj nm q C N bs bm true sn sub ab col dd k0 k1 k2 k3 k5 "ValueError.__new__") ∧ PySem.HandSPX.refsVE bm = true := by
  unfold oexB at h
  split at h
  · rename_i t dd cd sl ho
    split at h
    · rename_i c bm k0 k1 k2 k3 n k5 hm hs
      simp only [Bool.and_eq_true, decide_eq_true_eq, Bool.not_eq_true'] at h
      obtain ⟨rfl, rfl, rfl, hdel, hd, hr⟩ := h
      obtain ⟨nm, bs, mro, ns, qn, hdct, sn, sub, ab, col, del⟩ := cd
      dsimp only at hm hdel hd
      subst hm hdel hd
      have hsl : sl = #[k0, k1, k2, k3, some (.builtin "ValueError.__new__"), k5] := by
        rw [← Array.toArray_toList (xs := sl), hs]
      subst hsl
      exact ⟨nm, qn, ns, bs, bm, sn, sub, ab, col, dd, k0, k1, k2, k3, k5, ho, hr⟩
    · cases h
  · cases h
end SkW

set_option Elab.async false
set_option linter.all false
set_option maxRecDepth 100000
set_option maxHeartbeats 0
open PySem PySem.W PyProof.Rows
theorem PySem.Challenge.cw_skatingmarks_s01_answers_holds : PySem.Challenge.rw_skatingmarks_s01_answers.Holds := by
  w_on; k_headS; (case hw => exact ⟨[.list [.int 2]], by decide +kernel, by decide +kernel⟩)
  refine SkW.walk_specT (r := PySem.Challenge.rw_skatingmarks_s01_answers) (k := 15) (CX := L2.CX0) (ps := ["calls"]) (sp := SkW.sp_answers) (by decide +kernel) rfl rfl ⟨rfl, by decide, by decide⟩ ?F ?S (fun _ _ _ _ z => z)
  case F =>
    intro w mg fa h Y G ⟨mean, mb, T⟩ hmg
    have KX := PySem.W.kIn_of Y
    refine SkW.top_end KX G hmg rfl (SkW.tab_ofS (x := "placed") T KX ?r ?t) ?d ?c ?k ?u ?x
    case r => kernel_rfl
    case t => kernel_rfl
    case c => (unfold He.SaysE; kernel_rfl)
    case k => kernel_rfl
    case u => kernel_rfl
    case d => kernel_rfl
    case x =>
      refine ⟨⟨SkW.oexB_ok ?x1, ?x2, ?x3, ?x4, ?x5⟩, ?x6, ?x7, ⟨?x8, ?x9, ?x10, ?x11⟩, ?x12, ?x13, ?x14⟩
      case x1 => kernel_rfl
      case x2 => kernel_rfl
      case x3 => kernel_rfl
      case x4 => kernel_rfl
      case x5 => kernel_rfl
      case x6 => kernel_rfl
      case x7 => kernel_rfl
      case x8 => kernel_rfl
      case x9 => kernel_rfl
      case x10 => kernel_rfl
      case x11 => kernel_rfl
      case x12 => kernel_rfl
      case x13 => kernel_rfl
      case x14 => kernel_rfl
  case S =>
    intro K p H xs a hp hwi hask hx
    cases hx with
    | cons h1 h2 =>
      cases h2
      cases h1 with
      | lst hs ha =>
        have e := L2.ints_dw a.1 _ ha
        subst e
        exact ⟨_, a.1, rfl, SkW.tabs_of hp, hs, hask, fun q H' hq => .lst (L2.SqL.of hq) (L2.dw_ints _)⟩

