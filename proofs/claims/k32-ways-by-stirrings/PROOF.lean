import PyProof.Rows.All
import Wide.All
import OpenK.AllK
import Wide.FinOn
import HandS.ForMost
import HandS.TupAny
import HandS.TupSets
import HandS.Conv
import HandS.Deep
import KE.GoesMore
import KE.GoesEnum
import HandS.Walk
import KE.KDictDisplayH
import KE.KDictList
import PyProof.Rows.InDataRows
import HandS.DictTup
import HandS.Evl
import HandS.IsInst
import HandS.ForExc
import HandS.Style
import KE.KEqSeq
import KE.DataEq
import HandS.ExcInit
import KE.KExcSuper
import KE.KExcInit
import HandS.WideBits
import HandS.ExcIs
import HandS.ExcField
import HandS.Nested
import HandS.HotCalls
import HandS.Lambda
import HandS.EndTab
import PySem.Challenge.RW_signsquared_k32_whole_ways_by_stirrings
set_option Elab.async false
set_option linter.all false
set_option maxRecDepth 100000
set_option maxHeartbeats 4200000
/-! Sq: the mathematics of ties, stirrings and the search by breadth; plain Lean, no program in sight. -/
namespace Sq
abbrev Tie := List Int
/-- stir_at -/
def stirAt (t : Tie) (p : Nat) : Tie :=
  if (t.getD p 0).toNat = (p + 1) % t.length then t else
  (((t.set p ((p + 1) % t.length : Nat)).set ((p + 1) % t.length) p).set (t.getD p 0).toNat (t.getD ((p + 1) % t.length) 0)).set (t.getD ((p + 1) % t.length) 0).toNat (t.getD p 0)
/-- the law's own stirring -/
def pairsOf (t : Tie) : List (Int × Int) := ((List.range t.length).filter fun (i : Nat) => decide ((i : Int) < t.getD i 0)).map fun (i : Nat) => ((i : Int), t.getD i 0)
def restOf (t : Tie) (p : Nat) : List (Int × Int) := (pairsOf t).filter fun q => !(q.1 == (p : Int) || q.2 == (p : Int)) && !(q.1 == ((p + 1) % t.length : Nat) || q.2 == ((p + 1) % t.length : Nat))
def leftOf (t : Tie) (p : Nat) : List Int := ((List.range t.length).filter fun (i : Nat) => (t.getD i 0 == (p : Int) || t.getD i 0 == ((p + 1) % t.length : Nat)) && !((i : Int) == (p : Int) || (i : Int) == ((p + 1) % t.length : Nat))).map fun (i : Nat) => (i : Int)
def linksOf (t : Tie) (p : Nat) : List (Int × Int) :=
  restOf t p ++ [((p : Int), (((p + 1) % t.length : Nat) : Int))] ++ (if (leftOf t p).isEmpty then [] else [((leftOf t p).getD 0 0, (leftOf t p).getD 1 0)])
def link (f : Tie) (q : Int × Int) : Tie := (f.set q.1.toNat q.2).set q.2.toNat q.1
def lawStirred (t : Tie) (p : Nat) : Tie := (linksOf t p).foldl link (List.replicate t.length 0)
/-! ### all ties -/
def others (first last : Int) : List Int := (List.range ((last - first + 1) / 2).toNat).map fun (i : Nat) => first + 1 + (i : Int) * 2
def tiesFrom : Nat → Int → Int → List (List (Int × Int))
  | 0, _, _ => [[]]
  | k + 1, first, last => if first > last then [[]] else
    (others first last).flatMap fun other => (tiesFrom k (first + 1) (other - 1)).flatMap fun inner => (tiesFrom k (other + 1) last).map fun rest => (first, other) :: (inner ++ rest)
def look (ps : List (Int × Int)) (i : Int) : Option Int := ps.foldl (fun f q => if i = q.2 then some q.1 else if i = q.1 then some q.2 else f) none
def tiesWith (ps : List (Int × Int)) (n : Nat) : Tie := (List.range n).map fun (i : Nat) => (look ps (i : Int)).getD 0
def unsorted (n : Nat) : List Tie := (tiesFrom (2 * n) 0 (2 * (n : Int) - 1)).map fun ps => tiesWith ps (2 * n)
def T : Nat → List Tie
  | 1 => [[1, 0]]
  | 2 => [[1, 0, 3, 2], [3, 2, 1, 0]]
  | 3 => [[1, 0, 3, 2, 5, 4], [1, 0, 5, 4, 3, 2], [3, 2, 1, 0, 5, 4], [5, 2, 1, 4, 3, 0], [5, 4, 3, 2, 1, 0]]
  | 4 => [[1, 0, 3, 2, 5, 4, 7, 6], [1, 0, 3, 2, 7, 6, 5, 4], [1, 0, 5, 4, 3, 2, 7, 6], [1, 0, 7, 4, 3, 6, 5, 2], [1, 0, 7, 6, 5, 4, 3, 2], [3, 2, 1, 0, 5, 4, 7, 6], [3, 2, 1, 0, 7, 6, 5, 4], [5, 2, 1, 4, 3, 0, 7, 6], [5, 4, 3, 2, 1, 0, 7, 6], [7, 2, 1, 4, 3, 6, 5, 0], [7, 2, 1, 6, 5, 4, 3, 0], [7, 4, 3, 2, 1, 6, 5, 0], [7, 6, 3, 2, 5, 4, 1, 0], [7, 6, 5, 4, 3, 2, 1, 0]]
  | 5 => [[1, 0, 3, 2, 5, 4, 7, 6, 9, 8], [1, 0, 3, 2, 5, 4, 9, 8, 7, 6], [1, 0, 3, 2, 7, 6, 5, 4, 9, 8], [1, 0, 3, 2, 9, 6, 5, 8, 7, 4], [1, 0, 3, 2, 9, 8, 7, 6, 5, 4], [1, 0, 5, 4, 3, 2, 7, 6, 9, 8], [1, 0, 5, 4, 3, 2, 9, 8, 7, 6], [1, 0, 7, 4, 3, 6, 5, 2, 9, 8], [1, 0, 7, 6, 5, 4, 3, 2, 9, 8], [1, 0, 9, 4, 3, 6, 5, 8, 7, 2], [1, 0, 9, 4, 3, 8, 7, 6, 5, 2], [1, 0, 9, 6, 5, 4, 3, 8, 7, 2], [1, 0, 9, 8, 5, 4, 7, 6, 3, 2], [1, 0, 9, 8, 7, 6, 5, 4, 3, 2], [3, 2, 1, 0, 5, 4, 7, 6, 9, 8], [3, 2, 1, 0, 5, 4, 9, 8, 7, 6], [3, 2, 1, 0, 7, 6, 5, 4, 9, 8], [3, 2, 1, 0, 9, 6, 5, 8, 7, 4], [3, 2, 1, 0, 9, 8, 7, 6, 5, 4], [5, 2, 1, 4, 3, 0, 7, 6, 9, 8], [5, 2, 1, 4, 3, 0, 9, 8, 7, 6], [5, 4, 3, 2, 1, 0, 7, 6, 9, 8], [5, 4, 3, 2, 1, 0, 9, 8, 7, 6], [7, 2, 1, 4, 3, 6, 5, 0, 9, 8], [7, 2, 1, 6, 5, 4, 3, 0, 9, 8], [7, 4, 3, 2, 1, 6, 5, 0, 9, 8], [7, 6, 3, 2, 5, 4, 1, 0, 9, 8], [7, 6, 5, 4, 3, 2, 1, 0, 9, 8], [9, 2, 1, 4, 3, 6, 5, 8, 7, 0], [9, 2, 1, 4, 3, 8, 7, 6, 5, 0], [9, 2, 1, 6, 5, 4, 3, 8, 7, 0], [9, 2, 1, 8, 5, 4, 7, 6, 3, 0], [9, 2, 1, 8, 7, 6, 5, 4, 3, 0], [9, 4, 3, 2, 1, 6, 5, 8, 7, 0], [9, 4, 3, 2, 1, 8, 7, 6, 5, 0], [9, 6, 3, 2, 5, 4, 1, 8, 7, 0], [9, 6, 5, 4, 3, 2, 1, 8, 7, 0], [9, 8, 3, 2, 5, 4, 7, 6, 1, 0], [9, 8, 3, 2, 7, 6, 5, 4, 1, 0], [9, 8, 5, 4, 3, 2, 7, 6, 1, 0], [9, 8, 7, 4, 3, 6, 5, 2, 1, 0], [9, 8, 7, 6, 5, 4, 3, 2, 1, 0]]
  | _ => []
def fromC : Nat → List (List Nat)
  | 1 => [[]]
  | 2 => [[0], []]
  | 3 => [[0], [0, 3], [0, 1], [1], []]
  | 4 => [[0, 2], [0, 2, 5], [0], [0, 5], [0, 5, 4], [0, 1, 4], [0, 1, 4, 5], [0, 1], [0, 1, 2], [1], [1, 4], [1, 2], [2], []]
  | 5 => [[0, 2], [0, 2, 7], [0, 2, 5], [0, 2, 5, 7], [0, 2, 5, 7, 6], [0, 2, 3], [0, 2, 3, 7], [0, 3], [0], [0, 3, 7], [0, 3, 7, 6], [0, 7], [0, 7, 6], [0, 7, 6, 5], [0, 1, 6], [0, 1, 6, 7], [0, 1, 6, 5], [0, 1, 6, 5, 7], [0, 1, 6, 5, 7, 6], [0, 1, 3, 6], [0, 1, 3, 6, 7], [0, 1, 2, 5, 6], [0, 1, 2, 5, 6, 7], [0, 1, 3], [0, 1], [0, 1, 2, 5], [0, 1, 2], [0, 1, 2, 3], [1, 3], [1, 3, 6], [1], [1, 6], [1, 6, 5], [1, 2, 5], [1, 2, 5, 6], [1, 2], [1, 2, 3], [2], [2, 5], [2, 3], [3], []]
  | _ => []
def toC : Nat → List (List Nat)
  | 1 => [[]]
  | 2 => [[1], []]
  | 3 => [[5], [1, 2], [0, 5], [2], []]
  | 4 => [[3, 7], [3, 6, 7], [7], [6, 7], [1, 2, 3], [0, 3, 7], [0, 3, 6, 7], [0, 7], [0, 3, 7], [0, 6, 7], [2, 3], [4, 3], [3], []]
  | 5 => [[3, 5, 4, 9], [1, 9, 0, 8, 9], [3, 4, 9], [3, 4, 8, 9], [3, 4, 7, 8, 9], [5, 4, 9], [5, 4, 8, 9], [4, 9], [9], [4, 8, 9], [4, 7, 8, 9], [8, 9], [7, 8, 9], [1, 2, 3, 4], [0, 3, 5, 4, 9], [9, 0, 8, 9], [0, 3, 4, 9], [0, 3, 4, 8, 9], [0, 3, 4, 7, 8, 9], [0, 5, 4, 9], [0, 5, 4, 8, 9], [0, 3, 5, 4, 9], [0, 1, 9, 0, 8, 9], [0, 4, 9], [0, 9], [0, 3, 4, 9], [1, 0, 9], [0, 5, 4, 9], [0, 4, 8, 9], [0, 4, 7, 8, 9], [0, 8, 9], [0, 7, 8, 9], [2, 3, 4], [0, 3, 4, 8, 9], [4, 3, 5, 4], [1, 0, 8, 9], [6, 5, 4], [3, 5, 4], [3, 4], [5, 4], [4], []]
  | _ => []

/-- a number that tells ties' order -/
def cd : List Int → Int
  | [] => 0
  | d :: r => d * 16 ^ r.length + cd r
/-! ### fits_ties -/
def crossGo (t : Tie) : Nat → Tie → List Int → Bool
  | _, [], _ => true
  | i, x :: r, op =>
    if t.getD x.toNat 0 ≠ (i : Int) ∨ x = (i : Int) then false
    else if x > (i : Int) then crossGo t (i + 1) r (op ++ [(i : Int)])
    else if op.drop (op.length - 1) ≠ [x] then false
    else crossGo t (i + 1) r (op.take (op.length - 1))
def fitsT (t : Tie) : Bool :=
  if t.length % 2 ≠ 0 ∨ ¬ (2 ≤ t.length ∧ t.length ≤ 24) then false
  else if (t.all fun x => decide (0 ≤ x ∧ x ≤ (t.length : Int) - 1)) = false then false
  else crossGo t 0 t []
/-! ### the search -/
abbrev Kn := List (Tie × List Int)
def has (kn : Kn) (t : Tie) : Bool := kn.any fun e => decide (e.1 = t)
def val (kn : Kn) (t : Tie) : List Int := ((kn.find? fun e => decide (e.1 = t)).map (·.2)).getD []
def stepP (f : Tie → Nat → Tie) (here : Tie) (st : Kn × List Tie) (p : Nat) : Kn × List Tie :=
  if has st.1 (f here p) then st else (st.1 ++ [(f here p, val st.1 here ++ [(p : Int)])], st.2 ++ [f here p])
def stepH (f : Tie → Nat → Tie) (st : Kn × List Tie) (here : Tie) : Kn × List Tie := (List.range here.length).foldl (stepP f here) st
def round (f : Tie → Nat → Tie) (s : Kn × List Tie) : Kn × List Tie := s.2.foldl (stepH f) (s.1, [])
def iter (f : Tie → Nat → Tie) (one : Tie) : Nat → Kn × List Tie
  | 0 => ([(one, [])], [one])
  | k + 1 => round f (iter f one k)
/-! ### the law's draws: what they can end with -/
def shutF (f : Tie) (op : List Int) (i : Nat) : Tie := (f.set (op.getD (op.length - 1) 0).toNat (i : Int)).set i (op.getD (op.length - 1) 0)
def outs : Nat → Nat → Tie → List Int → Int → List Tie
  | 0, _, f, _, _ => [f]
  | k + 1, i, f, op, l => (if op = [] then [] else outs k (i + 1) (shutF f op i) op.dropLast l) ++ (if op ≠ [] ∧ l = 0 then [] else outs k (i + 1) f (op ++ [(i : Int)]) (l - 1))

/-! ### facts by computation -/
def shapeB (n : Nat) (t : Tie) : Bool := t.length == 2 * n && t.all (fun x => decide (0 ≤ x ∧ x < 2 * (n : Int))) && fitsT t
set_option maxHeartbeats 4000000 in
theorem stir_all : ((List.range 6).all fun n => (T n).all fun t => (List.range (2 * n)).all fun p => stirAt t p == lawStirred t p && (T n).contains (stirAt t p) && decide (t.getD p 0 = (((t.getD p 0).toNat : Nat) : Int)) &&
  (leftOf t p).length % 2 == 0 && (linksOf t p).all (fun q => decide (0 ≤ q.1 ∧ q.1 < 2 * (n : Int) ∧ 0 ≤ q.2 ∧ q.2 < 2 * (n : Int)))) = true := by decide +kernel
theorem shape_all : ((List.range 6).all fun n => (T n).all fun t => shapeB n t) = true := by decide +kernel
theorem perm_all : ((List.range 6).all fun n => n == 0 || (unsorted n).isPerm (T n)) = true := by decide +kernel
theorem ord_all : ((List.range 6).all fun n => decide ((T n).Pairwise fun a b => cd a < cd b)) = true := by decide +kernel
theorem outs_all : ((List.range 6).all fun n => (outs (2 * n) 0 (List.replicate (2 * n) 0) [] (n : Int)).all fun t => n == 0 || (T n).contains t) = true := by decide +kernel
def theC (n : Nat) : Tie := ((List.range (2 * n)).map fun (i : Nat) => (2 * (n : Int) - 1 - i))
def wordOk (n : Nat) (a b : Tie) (w : List Nat) : Bool := decide (w.foldl stirAt a = b) && w.all (fun p => decide (p < 2 * n)) && decide (w.length ≤ 6)
theorem toC_all : ((List.range 6).all fun n => decide ((T n).length = (toC n).length) && ((T n).zip (toC n)).all fun q => wordOk n q.1 (theC n) q.2) = true := by decide +kernel
theorem fromC_all : ((List.range 6).all fun n => decide ((T n).length = (fromC n).length) && ((T n).zip (fromC n)).all fun q => wordOk n (theC n) q.1 q.2) = true := by decide +kernel
theorem T_out (n : Nat) : T (n + 6) = [] := rfl
theorem T_lt {n : Nat} {t : Tie} (h : t ∈ T n) : n < 6 := by
  by_cases c : n < 6
  · exact c
  · obtain ⟨m, rfl⟩ : ∃ m, n = m + 6 := ⟨n - 6, by omega⟩
    rw [T_out] at h
    cases h
theorem T_pos {n : Nat} {t : Tie} (h : t ∈ T n) : 1 ≤ n := by
  cases n with
  | zero => cases h
  | succ m => exact Nat.succ_le_succ (Nat.zero_le _)
theorem all6 {P : Nat → Bool} (h : ((List.range 6).all P) = true) {n : Nat} (hn : n < 6) : P n = true := List.all_eq_true.mp h n (List.mem_range.mpr hn)
theorem stir_row {n p : Nat} {t : Tie} (ht : t ∈ T n) (hp : p < 2 * n) : (stirAt t p == lawStirred t p && (T n).contains (stirAt t p) && decide (t.getD p 0 = (((t.getD p 0).toNat : Nat) : Int)) &&
  (leftOf t p).length % 2 == 0 && (linksOf t p).all (fun q => decide (0 ≤ q.1 ∧ q.1 < 2 * (n : Int) ∧ 0 ≤ q.2 ∧ q.2 < 2 * (n : Int)))) = true :=
  List.all_eq_true.mp (List.all_eq_true.mp (all6 stir_all (T_lt ht)) t ht) p (List.mem_range.mpr hp)
theorem stir_eq {n p : Nat} {t : Tie} (ht : t ∈ T n) (hp : p < 2 * n) : lawStirred t p = stirAt t p := by
  have h := stir_row ht hp
  simp only [Bool.and_eq_true, beq_iff_eq] at h
  exact h.1.1.1.1.symm
theorem stir_in {n p : Nat} {t : Tie} (ht : t ∈ T n) (hp : p < 2 * n) : stirAt t p ∈ T n := by
  have h := stir_row ht hp
  simp only [Bool.and_eq_true, beq_iff_eq] at h
  exact List.contains_iff_mem.mp h.1.1.1.2
theorem left_even {n p : Nat} {t : Tie} (ht : t ∈ T n) (hp : p < 2 * n) : (leftOf t p).length % 2 = 0 := by
  have h := stir_row ht hp
  simp only [Bool.and_eq_true, beq_iff_eq] at h
  exact h.1.2
theorem links_bd {n p : Nat} {t : Tie} (ht : t ∈ T n) (hp : p < 2 * n) {q : Int × Int} (hq : q ∈ linksOf t p) : 0 ≤ q.1 ∧ q.1 < 2 * (n : Int) ∧ 0 ≤ q.2 ∧ q.2 < 2 * (n : Int) := by
  have h := stir_row ht hp
  simp only [Bool.and_eq_true, beq_iff_eq] at h
  exact of_decide_eq_true (List.all_eq_true.mp h.2 q hq)
theorem T_shape {n : Nat} {t : Tie} (ht : t ∈ T n) : t.length = 2 * n ∧ (∀ x ∈ t, 0 ≤ x ∧ x < 2 * (n : Int)) ∧ fitsT t = true := by
  have h := List.all_eq_true.mp (all6 shape_all (T_lt ht)) t ht
  unfold shapeB at h
  simp only [Bool.and_eq_true, beq_iff_eq] at h
  exact ⟨h.1.1, fun x hx => of_decide_eq_true (List.all_eq_true.mp h.1.2 x hx), h.2⟩
theorem T_perm {n : Nat} (h1 : 1 ≤ n) (h6 : n < 6) : (unsorted n).Perm (T n) := by
  have h := all6 perm_all h6
  simp only [Bool.or_eq_true, beq_iff_eq] at h
  rcases h with h | h
  · omega
  · exact List.isPerm_iff.mp h
theorem T_ord {n : Nat} (h6 : n < 6) : (T n).Pairwise fun a b => cd a < cd b := of_decide_eq_true (all6 ord_all h6)
theorem outs_in {n : Nat} (h1 : 1 ≤ n) (h6 : n < 6) {t : Tie} (h : t ∈ outs (2 * n) 0 (List.replicate (2 * n) 0) [] (n : Int)) : t ∈ T n := by
  have q := List.all_eq_true.mp (all6 outs_all h6) t h
  simp only [Bool.or_eq_true, beq_iff_eq] at q
  rcases q with q | q
  · omega
  · exact List.contains_iff_mem.mp q
theorem zip_mem {α β : Type} : ∀ {l : List α} {m : List β}, l.length = m.length → ∀ t ∈ l, ∃ w, (t, w) ∈ l.zip m
  | [], _, _, t, h => by cases h
  | a :: l, [], e, _, _ => by simp at e
  | a :: l, b :: m, e, t, h => by
    rcases List.mem_cons.mp h with rfl | h
    · exact ⟨b, by simp⟩
    · obtain ⟨w, hw⟩ := zip_mem (l := l) (m := m) (by simpa using e) t h
      exact ⟨w, by rw [List.zip_cons_cons]; exact List.mem_cons_of_mem _ hw⟩
theorem wordOk_of {n : Nat} {a b : Tie} {w : List Nat} (h : wordOk n a b w = true) : w.foldl stirAt a = b ∧ (∀ p ∈ w, p < 2 * n) ∧ w.length ≤ 6 := by
  unfold wordOk at h
  simp only [Bool.and_eq_true, decide_eq_true_eq] at h
  exact ⟨h.1.1, fun p hp => of_decide_eq_true (List.all_eq_true.mp h.1.2 p hp), h.2⟩
theorem way_some {n : Nat} {t u : Tie} (ht : t ∈ T n) (hu : u ∈ T n) : ∃ w : List Nat, w.foldl stirAt t = u ∧ (∀ p ∈ w, p < 2 * n) ∧ w.length ≤ 12 := by
  have h1 := all6 toC_all (T_lt ht)
  have h2 := all6 fromC_all (T_lt ht)
  simp only [Bool.and_eq_true, decide_eq_true_eq] at h1 h2
  obtain ⟨w1, m1⟩ := zip_mem h1.1 t ht
  obtain ⟨w2, m2⟩ := zip_mem h2.1 u hu
  obtain ⟨a1, b1, c1⟩ := wordOk_of (List.all_eq_true.mp h1.2 _ m1)
  obtain ⟨a2, b2, c2⟩ := wordOk_of (List.all_eq_true.mp h2.2 _ m2)
  refine ⟨w1 ++ w2, ?_, fun p hp => ?_, ?_⟩
  · rw [List.foldl_append, a1, a2]
  · rcases List.mem_append.mp hp with h | h
    · exact b1 p h
    · exact b2 p h
  · have c1' : w1.length ≤ 6 := c1
    have c2' : w2.length ≤ 6 := c2
    rw [List.length_append]
    omega
end Sq
/-! Sq, the search by breadth: what is known grows, words lead to their ties, all is found. -/
namespace Sq
/-! ### lists -/
theorem len_sub {α : Type} [BEq α] [LawfulBEq α] : ∀ {l D : List α}, l.Nodup → (∀ x ∈ l, x ∈ D) → l.length ≤ D.length
  | [], _, _, _ => Nat.zero_le _
  | a :: l, D, h, hs => by
    have ha := hs a List.mem_cons_self
    have hn := List.nodup_cons.mp h
    have ih := len_sub (l := l) (D := D.erase a) hn.2 fun x hx => (List.mem_erase_of_ne (fun (e : x = a) => hn.1 (e ▸ hx))).mpr (hs x (List.mem_cons_of_mem _ hx))
    rw [List.length_erase_of_mem ha] at ih
    have hp : 0 < D.length := List.length_pos_of_mem ha
    rw [List.length_cons]
    omega
theorem sorted_one : ∀ {l m : List Tie}, l.Perm m → (l.Pairwise fun a b => cd a ≤ cd b) → (m.Pairwise fun a b => cd a < cd b) → l = m
  | l, [], p, _, _ => List.Perm.eq_nil p
  | [], a :: m, p, _, _ => by
    have := p.length_eq
    simp at this
  | b :: l, a :: m, p, hl, hm => by
    have hl' := List.pairwise_cons.mp hl
    have hm' := List.pairwise_cons.mp hm
    have e : b = a := by
      rcases List.mem_cons.mp (p.mem_iff.mp (List.mem_cons_self (a := b) (l := l))) with h | h
      · exact h
      · have h1 := hm'.1 b h
        rcases List.mem_cons.mp (p.mem_iff.mpr (List.mem_cons_self (a := a) (l := m))) with h2 | h2
        · exact h2.symm
        · have h3 := hl'.1 a h2
          omega
    subst e
    rw [sorted_one (List.Perm.cons_inv p) hl'.2 hm'.2]
theorem take_more {α : Type} : ∀ {l : List α} {i : Nat} {x : α}, l[i]? = some x → l.take (i + 1) = l.take i ++ [x]
  | [], i, x, h => by simp at h
  | a :: l, 0, x, h => by
    have e : a = x := Option.some.inj h
    subst e
    rfl
  | a :: l, i + 1, x, h => by
    have ih := take_more (l := l) (i := i) (x := x) h
    show a :: l.take (i + 1) = a :: l.take i ++ [x]
    rw [ih]
    rfl
theorem range_more (n : Nat) : List.range (n + 1) = List.range n ++ [n] := List.range_succ
/-! ### what is known -/
theorem has_mem {kn : Kn} {t : Tie} : has kn t = true ↔ t ∈ kn.map (·.1) := by
  unfold has
  rw [List.any_eq_true]
  constructor
  · rintro ⟨e, he, q⟩
    exact List.mem_map.mpr ⟨e, he, of_decide_eq_true q⟩
  · intro h
    obtain ⟨e, he, q⟩ := List.mem_map.mp h
    exact ⟨e, he, decide_eq_true q⟩
theorem has_app {kn more : Kn} {t : Tie} (h : has kn t = true) : has (kn ++ more) t = true := by
  unfold has at h ⊢
  rw [List.any_append, h]
  rfl
theorem val_app {kn more : Kn} {t : Tie} (h : has kn t = true) : val (kn ++ more) t = val kn t := by
  unfold has at h
  unfold val
  rw [List.find?_append]
  have : (kn.find? fun e => decide (e.1 = t)).isSome = true := by
    rw [List.find?_isSome]
    obtain ⟨e, he, q⟩ := List.any_eq_true.mp h
    exact ⟨e, he, q⟩
  obtain ⟨v, hv⟩ := Option.isSome_iff_exists.mp this
  rw [hv]
  rfl
theorem val_mem {kn : Kn} {t : Tie} (h : has kn t = true) : (t, val kn t) ∈ kn := by
  unfold has at h
  have : (kn.find? fun e => decide (e.1 = t)).isSome = true := by
    rw [List.find?_isSome]
    obtain ⟨e, he, q⟩ := List.any_eq_true.mp h
    exact ⟨e, he, q⟩
  obtain ⟨v, hv⟩ := Option.isSome_iff_exists.mp this
  have hm := List.mem_of_find?_eq_some hv
  have hp : v.1 = t := by
    have q := List.find?_some hv
    simpa using q
  unfold val
  rw [hv]
  obtain ⟨a, b⟩ := v
  have : a = t := hp
  subst this
  exact hm
/-! ### one place, one ties, one round: what is known goes on growing, and what is new is later's -/
/-- from kn0 on: later tells what is new -/
def Grown (kn0 : Kn) (st : Kn × List Tie) : Prop := ∃ more, st.1 = kn0 ++ more ∧ st.2 = more.map (·.1)
theorem Grown.start (kn0 : Kn) : Grown kn0 (kn0, []) := ⟨[], by simp, rfl⟩
section
variable {f : Tie → Nat → Tie} {kn0 : Kn} {here : Tie}
theorem stepP_grown {st : Kn × List Tie} {p : Nat} (g : Grown kn0 st) : Grown kn0 (stepP f here st p) := by
  unfold stepP
  split
  · exact g
  · obtain ⟨more, h1, h2⟩ := g
    refine ⟨more ++ [(f here p, val st.1 here ++ [(p : Int)])], ?_, ?_⟩
    · show st.1 ++ _ = _
      rw [h1, List.append_assoc]
    · show st.2 ++ _ = _
      rw [h2, List.map_append]
      rfl
theorem foldP_grown : ∀ (ps : List Nat) {st : Kn × List Tie}, Grown kn0 st → Grown kn0 (ps.foldl (stepP f here) st)
  | [], _, g => g
  | p :: ps, _, g => foldP_grown ps (stepP_grown g)
theorem stepP_ext {st : Kn × List Tie} {p : Nat} {t : Tie} (h : has st.1 t = true) : has (stepP f here st p).1 t = true := by
  unfold stepP
  split
  · exact h
  · exact has_app h
theorem stepP_has {st : Kn × List Tie} {p : Nat} : has (stepP f here st p).1 (f here p) = true := by
  unfold stepP
  split
  · assumption
  · show has (st.1 ++ _) _ = true
    unfold has
    rw [List.any_append]
    simp
theorem foldP_ext : ∀ (ps : List Nat) {st : Kn × List Tie} {t : Tie}, has st.1 t = true → has (ps.foldl (stepP f here) st).1 t = true
  | [], _, _, h => h
  | p :: ps, _, _, h => foldP_ext ps (stepP_ext h)
theorem foldP_has : ∀ (ps : List Nat) {st : Kn × List Tie} {p : Nat}, p ∈ ps → has (ps.foldl (stepP f here) st).1 (f here p) = true
  | [], _, p, h => by cases h
  | q :: ps, st, p, h => by
    rcases List.mem_cons.mp h with rfl | h
    · exact foldP_ext ps stepP_has
    · exact foldP_has ps h
end
section
variable {f : Tie → Nat → Tie} {kn0 : Kn}
theorem stepH_grown {st : Kn × List Tie} {here : Tie} (g : Grown kn0 st) : Grown kn0 (stepH f st here) := foldP_grown _ g
theorem foldH_grown : ∀ (ls : List Tie) {st : Kn × List Tie}, Grown kn0 st → Grown kn0 (ls.foldl (stepH f) st)
  | [], _, g => g
  | _ :: ls, _, g => foldH_grown ls (stepH_grown g)
theorem round_grown {s : Kn × List Tie} : Grown s.1 (round f s) := foldH_grown _ (Grown.start _)
theorem foldH_ext : ∀ (ls : List Tie) {st : Kn × List Tie} {t : Tie}, has st.1 t = true → has (ls.foldl (stepH f) st).1 t = true
  | [], _, _, h => h
  | _ :: ls, _, _, h => foldH_ext ls (foldP_ext _ h)
theorem foldH_has : ∀ (ls : List Tie) {st : Kn × List Tie} {t : Tie} {p : Nat}, t ∈ ls → p < t.length → has (ls.foldl (stepH f) st).1 (f t p) = true
  | [], _, _, _, h, _ => by cases h
  | u :: ls, st, t, p, h, hp => by
    rcases List.mem_cons.mp h with rfl | h
    · exact foldH_ext ls (foldP_has _ (List.mem_range.mpr hp))
    · exact foldH_has ls h hp
theorem Grown.val {st : Kn × List Tie} (g : Grown kn0 st) {t : Tie} (h : has kn0 t = true) : val st.1 t = val kn0 t := by
  obtain ⟨more, h1, _⟩ := g
  rw [h1]
  exact val_app h
theorem Grown.has {st : Kn × List Tie} (g : Grown kn0 st) {t : Tie} (h : has kn0 t = true) : has st.1 t = true := by
  obtain ⟨more, h1, _⟩ := g
  rw [h1]
  exact has_app h
theorem Grown.later {st : Kn × List Tie} (g : Grown kn0 st) {t : Tie} (h : t ∈ st.2) : Sq.has st.1 t = true := by
  obtain ⟨more, h1, h2⟩ := g
  rw [h2] at h
  rw [h1]
  refine has_mem.mpr ?_
  rw [List.map_append]
  exact List.mem_append_right _ h
theorem Grown.len {st : Kn × List Tie} (g : Grown kn0 st) : st.2.length ≤ st.1.length := by
  obtain ⟨more, h1, h2⟩ := g
  rw [h1, h2, List.length_map, List.length_append]
  omega
end
/-! ### iter -/
section
variable {f : Tie → Nat → Tie} {one : Tie}
theorem iter_ext {j : Nat} : ∀ d, ∃ more, (iter f one (j + d)).1 = (iter f one j).1 ++ more
  | 0 => ⟨[], by simp⟩
  | d + 1 => by
    obtain ⟨m1, h1⟩ := iter_ext (j := j) d
    obtain ⟨m2, h2, _⟩ := round_grown (f := f) (s := iter f one (j + d))
    refine ⟨m1 ++ m2, ?_⟩
    show (round f (iter f one (j + d))).1 = _
    rw [h2, h1, List.append_assoc]
theorem iter_has {j k : Nat} (h : j ≤ k) {t : Tie} (e : has (iter f one j).1 t = true) : has (iter f one k).1 t = true := by
  obtain ⟨d, rfl⟩ := Nat.exists_eq_add_of_le h
  obtain ⟨more, q⟩ := iter_ext (f := f) (one := one) (j := j) d
  rw [q]
  exact has_app e
theorem iter_val {j k : Nat} (h : j ≤ k) {t : Tie} (e : has (iter f one j).1 t = true) : val (iter f one k).1 t = val (iter f one j).1 t := by
  obtain ⟨d, rfl⟩ := Nat.exists_eq_add_of_le h
  obtain ⟨more, q⟩ := iter_ext (f := f) (one := one) (j := j) d
  rw [q]
  exact val_app e
theorem iter_one (k : Nat) : has (iter f one k).1 one = true := iter_has (Nat.zero_le k) (by simp [iter, has])
theorem iter_line : ∀ k, ∀ t ∈ (iter f one k).2, has (iter f one k).1 t = true
  | 0, t, h => by
    have : t = one := by simpa [iter] using h
    subst this
    exact iter_one 0
  | k + 1, t, h => (round_grown (f := f) (s := iter f one k)).later h
end
/-! ### what is true of all that is known -/
/-- the known ones are ties of n pairs, each with a word that leads there -/
structure KnOk (n : Nat) (one : Tie) (k : Nat) (kn : Kn) : Prop where
  tie : ∀ e ∈ kn, e.1 ∈ T n
  fold : ∀ e ∈ kn, e.2.foldl (fun t p => stirAt t p.toNat) one = e.1
  rng : ∀ e ∈ kn, ∀ x ∈ e.2, 0 ≤ x ∧ x < 2 * (n : Int)
  len : ∀ e ∈ kn, e.2.length ≤ k
  nd : (kn.map (·.1)).Nodup
theorem KnOk.mono {n j k : Nat} {one : Tie} {kn : Kn} (h : KnOk n one j kn) (hk : j ≤ k) : KnOk n one k kn := ⟨h.tie, h.fold, h.rng, fun e he => Nat.le_trans (h.len e he) hk, h.nd⟩
theorem KnOk.has {n k : Nat} {one : Tie} {kn : Kn} (h : KnOk n one k kn) {t : Tie} (q : has kn t = true) : t ∈ T n := by
  obtain ⟨e, he, rfl⟩ := List.mem_map.mp (has_mem.mp q)
  exact h.tie e he
theorem T_len {n : Nat} : (T n).length ≤ 42 := by
  by_cases c : n < 6
  · have : ∀ n, n < 6 → (T n).length ≤ 42 := by decide
    exact this n c
  · obtain ⟨m, rfl⟩ : ∃ m, n = m + 6 := ⟨n - 6, by omega⟩
    rw [T_out]
    exact Nat.zero_le _
theorem KnOk.size {n k : Nat} {one : Tie} {kn : Kn} (h : KnOk n one k kn) : kn.length ≤ 42 := by
  have q := len_sub h.nd (D := T n) fun x hx => by
    obtain ⟨e, he, rfl⟩ := List.mem_map.mp hx
    exact h.tie e he
  rw [List.length_map] at q
  exact Nat.le_trans q T_len
theorem toNat_of {n : Nat} {x : Int} (h : 0 ≤ x) (h2 : x < 2 * (n : Int)) : x.toNat < 2 * n := by omega
theorem KnOk.step {n k : Nat} {one : Tie} {st : Kn × List Tie} {here : Tie} {p : Nat} (h : KnOk n one (k + 1) st.1) (hh : Sq.has st.1 here = true) (hl : (val st.1 here).length ≤ k) (hp : p < 2 * n) : KnOk n one (k + 1) (stepP stirAt here st p).1 := by
  unfold stepP
  split
  · exact h
  · rename_i hn
    have m := val_mem hh
    have ht : here ∈ T n := h.has hh
    have fo := h.fold _ m
    refine ⟨fun e he => ?_, fun e he => ?_, fun e he => ?_, fun e he => ?_, ?_⟩
    · rcases List.mem_append.mp he with he | he
      · exact h.tie e he
      · rw [List.mem_singleton.mp he]
        exact stir_in ht hp
    · rcases List.mem_append.mp he with he | he
      · exact h.fold e he
      · rw [List.mem_singleton.mp he]
        show (val st.1 here ++ [(p : Int)]).foldl (fun t p => stirAt t p.toNat) one = stirAt here p
        rw [List.foldl_append, fo]
        rfl
    · rcases List.mem_append.mp he with he | he
      · exact h.rng e he
      · rw [List.mem_singleton.mp he]
        intro x hx
        rcases List.mem_append.mp hx with hx | hx
        · exact h.rng _ m x hx
        · rw [List.mem_singleton.mp hx]
          omega
    · rcases List.mem_append.mp he with he | he
      · exact h.len e he
      · rw [List.mem_singleton.mp he]
        show (val st.1 here ++ [(p : Int)]).length ≤ k + 1
        rw [List.length_append, List.length_singleton]
        omega
    · show ((st.1 ++ [(stirAt here p, val st.1 here ++ [(p : Int)])]).map (·.1)).Nodup
      rw [List.map_append]
      refine List.nodup_append.mpr ⟨h.nd, by simp, ?_⟩
      intro a ha b hb
      have hb' : b = stirAt here p := by simpa using hb
      subst hb'
      intro e
      subst e
      exact hn (has_mem.mpr ha)
theorem stepP_val {f : Tie → Nat → Tie} {here t : Tie} {st : Kn × List Tie} {p : Nat} (h : has st.1 t = true) : val (stepP f here st p).1 t = val st.1 t := by
  unfold stepP
  split
  · rfl
  · exact val_app h
theorem KnOk.foldP {n k : Nat} {one here : Tie} : ∀ (ps : List Nat) {st : Kn × List Tie}, (∀ p ∈ ps, p < 2 * n) → KnOk n one (k + 1) st.1 → Sq.has st.1 here = true → (val st.1 here).length ≤ k → KnOk n one (k + 1) (ps.foldl (stepP stirAt here) st).1
  | [], _, _, h, _, _ => h
  | p :: ps, st, hp, h, hh, hl => KnOk.foldP ps (fun q hq => hp q (List.mem_cons_of_mem _ hq)) (h.step hh hl (hp p List.mem_cons_self)) (stepP_ext hh) (by rw [stepP_val hh]; exact hl)
theorem foldP_val {f : Tie → Nat → Tie} {here t : Tie} : ∀ (ps : List Nat) {st : Kn × List Tie}, has st.1 t = true → val (ps.foldl (stepP f here) st).1 t = val st.1 t
  | [], _, _ => rfl
  | p :: ps, st, h => by
    rw [List.foldl_cons, foldP_val ps (stepP_ext h), stepP_val h]
/-- what is true between two ties of the line -/
structure LineOk (n : Nat) (one : Tie) (k : Nat) (kn : Kn) (t : Tie) : Prop where
  has : Sq.has kn t = true
  len : (val kn t).length ≤ k
theorem KnOk.foldH {n k : Nat} {one : Tie} : ∀ (ls : List Tie) {st : Kn × List Tie}, KnOk n one (k + 1) st.1 → (∀ t ∈ ls, LineOk n one k st.1 t) → KnOk n one (k + 1) (ls.foldl (stepH stirAt) st).1
  | [], _, h, _ => h
  | t :: ls, st, h, hl => by
    have q := hl t List.mem_cons_self
    have hn : t.length = 2 * n := (T_shape (h.has q.has)).1
    refine KnOk.foldH ls (h.foldP (List.range t.length) (fun p hp => by rw [hn] at hp; exact List.mem_range.mp hp) q.has q.len) fun u hu => ?_
    have qu := hl u (List.mem_cons_of_mem _ hu)
    exact ⟨foldP_ext _ qu.has, by
      show (val (((List.range t.length).foldl (stepP stirAt t) st).1) u).length ≤ k
      rw [foldP_val _ qu.has]; exact qu.len⟩
/-- a state of the search -/
structure StOk (n : Nat) (one : Tie) (k : Nat) (s : Kn × List Tie) : Prop where
  kn : KnOk n one k s.1
  line : ∀ t ∈ s.2, Sq.has s.1 t = true
theorem KnOk.valLen {n k : Nat} {one : Tie} {kn : Kn} (h : KnOk n one k kn) {t : Tie} (q : Sq.has kn t = true) : (val kn t).length ≤ k := h.len _ (val_mem q)
theorem StOk.lineOk {n k : Nat} {one : Tie} {s : Kn × List Tie} (h : StOk n one k s) {t : Tie} (ht : t ∈ s.2) : LineOk n one k s.1 t := ⟨h.line t ht, h.kn.valLen (h.line t ht)⟩
theorem StOk.round {n k : Nat} {one : Tie} {s : Kn × List Tie} (h : StOk n one k s) : StOk n one (k + 1) (Sq.round stirAt s) :=
  ⟨KnOk.foldH s.2 (st := (s.1, [])) (h.kn.mono (Nat.le_succ k)) fun _ ht => h.lineOk ht, fun _ ht => (round_grown (f := stirAt) (s := s)).later ht⟩
theorem StOk.start {n : Nat} {one : Tie} (h : one ∈ T n) : StOk n one 0 (iter stirAt one 0) := by
  refine ⟨⟨fun e he => ?_, fun e he => ?_, fun e he => ?_, fun e he => ?_, by simp [iter]⟩, iter_line 0⟩
  all_goals
    have q : e = (one, []) := by simpa [iter] using he
    subst q
  · exact h
  · rfl
  · intro x hx
    cases hx
  · exact Nat.zero_le _
theorem iter_ok {n : Nat} {one : Tie} (h : one ∈ T n) : ∀ k, StOk n one k (iter stirAt one k)
  | 0 => StOk.start h
  | k + 1 => (iter_ok h k).round
/-! ### all ties are found -/
/-- whoever is not in the line has all its neighbours among the known -/
def Done (n : Nat) (s : Kn × List Tie) : Prop := ∀ t, has s.1 t = true → t ∉ s.2 → ∀ p, p < 2 * n → has s.1 (stirAt t p) = true
theorem iter_done {n : Nat} {one : Tie} (h : one ∈ T n) : ∀ k, Done n (iter stirAt one k)
  | 0 => fun t ht hn => by
    have : t = one := by
      have q := has_mem.mp ht
      simpa [iter] using q
    exact absurd (by simp [iter, this]) hn
  | k + 1 => fun t ht hn p hp => by
    obtain ⟨more, h1, h2⟩ := round_grown (f := stirAt) (s := iter stirAt one k)
    have old : has (iter stirAt one k).1 t = true := by
      have q := has_mem.mp ht
      have e1 : (iter stirAt one (k + 1)).1 = (iter stirAt one k).1 ++ more := h1
      have e2 : (iter stirAt one (k + 1)).2 = more.map (·.1) := h2
      rw [e1, List.map_append] at q
      rcases List.mem_append.mp q with q | q
      · exact has_mem.mpr q
      · rw [e2] at hn
        exact absurd q hn
    by_cases c : t ∈ (iter stirAt one k).2
    · have hl : t.length = 2 * n := (T_shape ((iter_ok h k).kn.has old)).1
      exact foldH_has (f := stirAt) _ c (by rw [hl]; exact hp)
    · exact iter_has (Nat.le_succ k) (iter_done h k t old c p hp)
theorem iter_next {n k : Nat} {one t : Tie} (h : one ∈ T n) (ht : has (iter stirAt one k).1 t = true) {p : Nat} (hp : p < 2 * n) : has (iter stirAt one (k + 1)).1 (stirAt t p) = true := by
  by_cases c : t ∈ (iter stirAt one k).2
  · have hl : t.length = 2 * n := (T_shape ((iter_ok h k).kn.has ht)).1
    exact foldH_has (f := stirAt) _ c (by rw [hl]; exact hp)
  · exact iter_has (Nat.le_succ k) (iter_done h k t ht c p hp)
theorem iter_word {n : Nat} {one : Tie} (h : one ∈ T n) : ∀ (w : List Nat) {k : Nat} {t : Tie}, has (iter stirAt one k).1 t = true → (∀ p ∈ w, p < 2 * n) → has (iter stirAt one (k + w.length)).1 (w.foldl stirAt t) = true
  | [], _, _, ht, _ => ht
  | p :: w, k, t, ht, hp => by
    have q := iter_word h w (iter_next h ht (hp p List.mem_cons_self)) fun x hx => hp x (List.mem_cons_of_mem _ hx)
    rw [List.length_cons, show k + (w.length + 1) = k + 1 + w.length by omega]
    exact q
theorem all_found {n : Nat} {one t : Tie} (h : one ∈ T n) (ht : t ∈ T n) : has (iter stirAt one 60).1 t = true := by
  obtain ⟨w, e, hp, hl⟩ := way_some h ht
  have q := iter_word h w (k := 0) (t := one) (iter_one 0) hp
  rw [e] at q
  exact iter_has (by omega) q
/-- the known ones are all ties -/
theorem known_perm {n : Nat} {one : Tie} (h : one ∈ T n) : ((iter stirAt one 60).1.map (·.1)).Perm (T n) := by
  have nT : (T n).Nodup := (T_ord (T_lt h)).imp fun {a b} q e => by subst e; omega
  refine (List.perm_ext_iff_of_nodup (iter_ok h 60).kn.nd nT).mpr fun t => ⟨fun q => ?_, fun q => ?_⟩
  · exact (iter_ok h 60).kn.has (has_mem.mpr q)
  · exact has_mem.mp (all_found h q)
/-! ### the law's search is the same -/
theorem stepP_same {n : Nat} {here : Tie} (h : here ∈ T n) {p : Nat} (hp : p < 2 * n) (st : Kn × List Tie) : stepP lawStirred here st p = stepP stirAt here st p := by
  unfold stepP
  rw [stir_eq h hp]
theorem KnOk.word {n k : Nat} {one t : Tie} {kn : Kn} (h : KnOk n one k kn) (q : Sq.has kn t = true) : (val kn t).foldl (fun t p => stirAt t p.toNat) one = t ∧ (∀ x ∈ val kn t, 0 ≤ x ∧ x < 2 * (n : Int)) ∧ (val kn t).length ≤ k :=
  ⟨h.fold _ (val_mem q), h.rng _ (val_mem q), h.len _ (val_mem q)⟩
/-- the shortest words -/
def word (one other : Tie) : List Int := val (iter stirAt one 60).1 other
theorem word_ok {n : Nat} {one other : Tie} (h : one ∈ T n) (h2 : other ∈ T n) : (word one other).foldl (fun t p => stirAt t p.toNat) one = other ∧ (∀ x ∈ word one other, 0 ≤ x ∧ x < 2 * (n : Int)) ∧ (word one other).length ≤ 60 := by
  exact (iter_ok h 60).kn.word (all_found h h2)
theorem word_at {n k : Nat} {one other : Tie} (_h : one ∈ T n) (hk : k ≤ 60) (hh : has (iter stirAt one k).1 other = true) : val (iter stirAt one k).1 other = word one other := (iter_val hk hh).symm
set_option maxRecDepth 100000 in
theorem word_1 : word [1, 0] [1, 0] = [] := by decide +kernel
set_option maxRecDepth 100000 in
theorem word_3 : (word [5, 4, 3, 2, 1, 0] [1, 0, 5, 4, 3, 2]).length = 2 := by decide +kernel
set_option maxRecDepth 100000 in
theorem word_2 : word [1, 0, 3, 2] [3, 2, 1, 0] = [1] := by decide +kernel
end Sq
/-! SqR1: enumerate(tuple), a display with one tuple key, tuple(range) downward, in a tuple of data. -/
namespace PySem
open AutoSeq1 (wpAny_loadPart')
theorem sq_meets_enumT {v : Value} {o : Obj} {H : Heap → Prop} (B : Begins v o H) :
    Meets (Builtin.«enumerate.__new__» ⟨[.type "enumerate", v], []⟩) (fun _ R s => H s.heap ∧
      R (.ok (.ret (.ref (s.heap.push o).objs.size))) { s with heap := (s.heap.push o).push { cls := .type "enumerate", data := .fields #[.none, .bool false, .ref s.heap.objs.size, rawInt 0, .none, .none] } }) :=
  .of_wp fun prog w A R s h => by
    obtain ⟨hp, g, d, tk, os⟩ := s; obtain ⟨h1, h⟩ := h
    have hsub := sub_enumerate
    have q1 : ∀ {A' : Around} {E : Value → Shared → Prop} {Q : Value → Shared → Prop}, Q (.ref hp.objs.size) ⟨hp.push o, g, d, tk, os⟩ → wpAny (model prog w) A' (pyIter v) Q E ⟨hp, g, d, tk, os⟩ :=
      fun q => B.iter prog w _ _ ⟨hp, g, d, tk, os⟩ _ h1 q
    wp_walk using q1
    refine wpAny_stack_any fun st => wpAny_pure ?_
    split
    · rename_i c _ _ _ _ _
      cases (c == Value.type "enumerate")
      · wp_walk using q1
        exact ⟨_, rfl, h⟩
      · wp_walk using q1
        exact ⟨_, rfl, h⟩
    · wp_walk using q1
      exact ⟨_, rfl, h⟩
section
variable {prog : Program} {w : World} {A : Around} {E : Value → Shared → Prop} {s : Shared}
/-- enumerate(v): its two new cells -/
theorem sq_enum_begins {v : Value} {o : Obj} {H : Heap → Prop} {Q : Value → Shared → Prop} (B : Begins v o H) (h1 : H s.heap)
    (h : ∀ h', IsEnum h' (s.heap.objs.size + 1) s.heap.objs.size 0 .none → h'.get? s.heap.objs.size = some o → h'.objs.size = s.heap.objs.size + 2 →
      (∀ b o, s.heap.get? b = some o → h'.get? b = some o) → Q (.ref (s.heap.objs.size + 1)) { s with heap := h' }) :
    wpAny (model prog w) A (call (.type "enumerate") [v]) Q E s := by
  refine callType_new F.called_enumerate (by decide) (F.typeCall_enumerate_1 _) (F.newCall_enumerate_1 _) (fun obj => F.args_object_init_2 obj _) F.entry_enumerate_new
    (sq_meets_enumT B) ⟨h1, ?_⟩
  have hz : (s.heap.push o).objs.size = s.heap.objs.size + 1 := Heap.size_push ..
  show _ ∧ _
  rw [hz]
  have he : IsEnum ((s.heap.push o).push { cls := .type "enumerate", data := .fields #[.none, .bool false, .ref s.heap.objs.size, rawInt 0, .none, .none] }) (s.heap.objs.size + 1) s.heap.objs.size 0 .none := by
    have := Heap.get?_push_size (s.heap.push o) (o := { cls := .type "enumerate", data := .fields #[.none, .bool false, .ref s.heap.objs.size, rawInt 0, .none, .none] }) rfl
    rw [hz] at this; exact this
  refine ⟨⟨_, he, rfl⟩, h _ he (Heap.get?_push_of_some _ (Heap.get?_push_size _ B.free)) (by rw [Heap.size_push, hz]) fun b o x => Heap.get?_push_of_some _ (Heap.get?_push_of_some _ x)⟩
end
end PySem
namespace L2
open PySem PySem.Spec PyProof.Rows
/-! ### enumerate(tuple) -/
def SqIteT (K : PySem.W.Frag) (a : Addr) : It :=
  ⟨fun i H => ∃ (xs : List V) (x : V), SqT K H a xs ∧ xs[i]? = some x, fun i H v H' => ∃ T x, v = .ref T ∧ H T = none ∧ H' = upd H T (.tup [.int (i : Nat), x]) ∧ ∀ xs, SqT K H a xs → xs[i]? = some x, fun i H => ∃ xs : List V, SqT K H a xs ∧ xs.length = i⟩
theorem sq_turn_enumT {P : Program} {w : World} {K : PySem.W.Frag} {elts : List Expr} {kk : Nat} {tpos : Pos} (a e it : Addr) :
    Turn P w K (.Tuple elts kk tpos) (SqIteT K a) [e, it] e (fun i h => (∃ old, IsEnum h e it ((i : Nat) : Int) old) ∧ h.IsTupleIter it a i ∧ e ≠ it ∧ a ≠ it ∧ e ≠ a) where
  mem := by simp
  obj := fun i h st b hb => by
    obtain ⟨⟨old, he⟩, ⟨o, ho, hc, hd⟩, _⟩ := st
    have e' : b = e ∨ b = it := by simpa using hb
    rcases e' with z | z
    · rw [z]; exact ⟨_, he, fun v q => nomatch q⟩
    · rw [z]; exact ⟨o, ho, fun v q => by rw [hd] at q; cases q⟩
  keep := fun i h h' st k => let ⟨⟨old, he⟩, hi, hne⟩ := st; ⟨⟨old, k e (by simp) _ he⟩, hi.at fun o q => k it (by simp) o q, hne⟩
  item := by
    intro X hP hw hK hc i pins s σ H E I hf st hg
    subst hP hw hK
    obtain ⟨⟨old, he⟩, hit, hne, hat, hea⟩ := st
    obtain ⟨xs, x, hq, hx⟩ := hg
    obtain ⟨its, rv, p, hz⟩ := I.tuple hq
    obtain ⟨u, hu, ru⟩ := rv.get hx
    have hel : e < s.heap.objs.size := Heap.lt_size he
    have hil : it < s.heap.objs.size := by obtain ⟨_, q, _⟩ := hit; exact Heap.lt_size q
    have hlt : i < its.toArray.size := by
      have := (List.getElem?_eq_some_iff.mp hu).1
      simpa using this
    have D := Draws.tuple (prog := X.prog) (w := X.w) (A := X.A.in1) (show X.A.in1.handled = none from I.ok.hd hc) it a hat its.toArray
    refine wpAny_pyNext_enum_itemD D he ⟨hit, (show s.heap.IsTuple a its.toArray from p)⟩ hlt hne (by simp only [List.mem_cons, List.not_mem_nil, or_false, not_or]; exact ⟨hne, hea⟩) fun y h' tk hy ho hst hT hsz hk => ?_
    have hyu : y = u := by
      have h1 : its.toArray[i]? = some u := by simpa using hu
      rw [h1] at hy
      exact (Option.some.inj hy).symm
    subst hyu
    refine ⟨_, rfl, wpAny_letOwnedTupleGo_enum (s := { s with heap := h', toks := tk + 1 }) ho fun h'' he' sb => ?_⟩
    have hT2 : h''.get? s.heap.objs.size = some { cls := .type "tuple", data := .seq #[.int i tk, y] } := (sb.2 _ (Nat.ne_of_gt hel)).trans hT
    have new : ObjOk X.prog X.w (upd H s.heap.objs.size (.tup [.int (i : Nat), x])) h'' s.heap.objs.size (.tup [.int (i : Nat), x]) :=
      ⟨by show 2 ≤ sizeLine; decide, [.int i tk, y], .cons ⟨_, rfl⟩ (.cons ru .nil), ⟨_, hT2, rfl, _, rfl⟩⟩
    have I1 : Inv X pins σ (upd H s.heap.objs.size (.tup [.int (i : Nat), x])) { s with heap := h'', toks := tk + 1 } :=
      I.turnedNew (ch := [e, it]) (fun b ob hb q => (sb.2 b (fun z => hb (by simp [z]))).trans (hk b ob (fun z => hb (by simp [z])) (fun z => hb (by simp [z])) q)) hf (Nat.le_refl _) new
    refine ⟨.ref s.heap.objs.size, _, I1, rfl, ⟨_, x, rfl, I.hok.fresh (Nat.le_refl _), rfl, fun ys hy => by rw [I.tuple_inj hy hq]; exact hx⟩, ⟨⟨y, ?_⟩, hst.1.at fun o q => (sb.2 it (Ne.symm hne)).trans q, hne, hat, hea⟩, fun b hb => ?_⟩
    · have e1 : ((i + 1 : Nat) : Int) = (i : Int) + 1 := by omega
      rw [e1]; exact he'
    · have hb' : b < s.heap.objs.size := by
        have e' : b = e ∨ b = it := by simpa using hb
        rcases e' with z | z
        · rw [z]; exact hel
        · rw [z]; exact hil
      rw [upd_ne (Nat.ne_of_lt hb')]
      exact (hf b hb).1
  done := by
    intro X hP hw hK hc i pins s σ H E I hf st hg
    subst hP hw hK
    obtain ⟨⟨old, he⟩, hit, hne, hat, hea⟩ := st
    obtain ⟨xs, hq, hx⟩ := hg
    obtain ⟨its, rv, p, hz⟩ := I.tuple hq
    obtain ⟨f0, f1, f2, f3, f4, f5⟩ := hf it (by simp)
    have hl := rv.length
    have D := Draws.tuple (prog := X.prog) (w := X.w) (A := X.A.in1) (show X.A.in1.handled = none from I.ok.hd hc) it a hat its.toArray
    have hi : i = its.toArray.size := by simp; omega
    subst hi
    exact wpAny_pyNext_enum_endD D he ⟨hit, (show s.heap.IsTuple a its.toArray from p)⟩ fun h' eb => ⟨rfl, I.turned (t' := s.toks) (fun b o hb q => eb b o hb q) f0 f1 f3 f4 f5⟩
  self := fun A i s Q E st h => let ⟨⟨_, he⟩, _⟩ := st; wpAny_pyIter_enum he h
def sq_iEnumT (K : PySem.W.Frag) (ta : TA) : TI := fun σ H R => ta σ H fun vs H1 => ∃ a xs, vs = [.ref a] ∧ SqT K H1 a xs ∧ R (SqIteT K a) H1
theorem sq_pi_enumT {X : Cx} {e : Expr} {ta : TA} {p pos tpos : Pos} {elts : List Expr} {kk : Nat} (hg : Gl X "enumerate") (hm : X.mg "enumerate" = none) (ha : PA X [e] ta) (hs : starEach [e] X.env = [(false, eval e X.env)] := by rfl) :
    PI X (.Tuple elts kk tpos) (.Call (.Name "enumerate" p) [e] [] pos) (sq_iEnumT X.K ta) := by
  refine ⟨fun pins s σ H R I h => ?_⟩
  refine Call_ (ld_blt I hg hm boot_enumerate (PyProof.Rows.callWith_type1 (thn (ha.run pos pins s σ H _ I h) fun us s1 ⟨vs, H1, I1, r1, q1⟩ => ?_) hs rfl))
  obtain ⟨a, xs, ex, hq, q⟩ := q1
  subst ex
  cases r1 with
  | cons r rr =>
    cases rr
    cases r
    obtain ⟨its, rv, p', hz⟩ := I1.tuple hq
    have hal : a < s1.heap.objs.size := p'.lt
    refine sq_enum_begins (begins_tuple a its.toArray) (show s1.heap.IsTuple a its.toArray from p') fun h' he hit hsz hk => wpAny_pyIter_enum he ?_
    have I2 : Inv X pins σ H1 { s1 with heap := h' } := I1.kept (t' := s1.toks) hk
    refine ⟨s1.heap.objs.size + 1, [s1.heap.objs.size + 1, s1.heap.objs.size], _, _, H1, rfl, I2, sq_turn_enumT a (s1.heap.objs.size + 1) s1.heap.objs.size, ⟨⟨.none, he⟩, ⟨_, hit, rfl, rfl⟩, Nat.succ_ne_self _, Nat.ne_of_lt hal, Nat.ne_of_gt (Nat.lt_succ_of_lt hal)⟩, fun b hb => ?_, q⟩
    have e' : b = s1.heap.objs.size + 1 ∨ b = s1.heap.objs.size := by simpa using hb
    have hle : s1.heap.objs.size ≤ b := by
      rcases e' with z | z
      · rw [z]; exact Nat.le_add_right _ _
      · rw [z]; exact Nat.le_refl _
    exact I1.fpOk hle (I1.hok.fresh hle)
theorem sq_walk_enumT {K : PySem.W.Frag} {a : Addr} {xs : List V} : Walk (SqIteT K a) xs.length (fun H => SqT K H a xs) (YPair (fun i => some (.int (i : Nat))) (fun i => xs[i]?)) := by
  refine ⟨fun i _ hi q => ⟨xs, xs[i], q, by simp [hi]⟩, fun _ q => ⟨xs, q, rfl⟩, fun i H v H' _ q y => ?_⟩
  obtain ⟨T, x, h1, h2, h3, h4⟩ := y
  exact ⟨T, .int (i : Nat), x, h1, h2, h3, rfl, h4 xs q⟩
end L2
/-! SqR2: a display with one tuple key; sorted of a dict whose keys are tuples of ints; tuple(range(a, b, -1)); x in (t, u). -/
namespace L2
open PySem PySem.Spec PyProof.Rows
/-! ### {k: v}, k a tuple -/
section
variable {prog : Program} {w : World} {K : Type} [DecidableEq K] {knd : HeapKind prog w K} {A : Around} {E : Value → Shared → Prop} {s : Shared}
theorem sq_Dict_pairsH {env : Env} {keys : List (Option Expr)} {values : List Expr} {pos : Pos} {Q : Value → Shared → Prop} (hu : knd.room A)
    (hall : keys.all (·.isSome) = true) (hl : keys.length = values.length) (h0 : keys ≠ []) (hlen : keys.length ≤ 15)
    (h : wpAny (model prog w) A (evalPairs (pairTrees keys values env pos)) (fun vs s₁ => ∃ ps, CarriesH knd s₁.heap vs ps ∧ s₁.heap.DictOfH knd s.heap.objs.size [] ∧
      ∀ h' tk, h'.DictOfH knd s.heap.objs.size (storedAllH [] ps) → Heap.SameBut s.heap.objs.size s₁.heap h' → Q (.ref s.heap.objs.size) { s₁ with heap := h', toks := tk }) E
      { s with heap := s.heap.push { cls := .type "dict", data := .dict #[] } }) :
    wpAny (model prog w) A (eval (.Dict keys values pos) env) Q E s := by
  have hn := pairTrees_length keys values env pos hall hl
  have hne : pairTrees keys values env pos ≠ [] := fun he => by
    rw [he] at hn
    exact h0 (List.length_eq_zero_iff.mp hn.symm)
  rw [arm_eval_Dict, zip_pairTrees keys values env pos hall hl, dictDisplay_pairs _ hne (by omega)]
  exact wpAny_bind (wpAny_standAt (wpAny_bind (wpAny_subDictH (knd := knd) (Q := fun d s' => wpAny (model prog w) A (pure (Value.ref d)) Q E s') hu (by omega)
    (wpAny_mono h (fun vs s₁ h₁ => by obtain ⟨ps, hc, hm, hq⟩ := h₁; exact ⟨ps, hc, hm, fun h' tk a b => wpAny_pure (hq h' tk a b)⟩) fun _ _ e => e))))
end
def sq_tDisp1 (tk tv : TE) : TE := fun σ H Q => ∀ p, H p = none → tk σ (upd H p (.dT [])) fun x H1 => tv σ H1 fun y H2 =>
  ∃ (b : Addr) (kk : List Key), x = .ref b ∧ H2 b = some (.tup (kk.map kV)) ∧ H2 p = some (.dT []) ∧ Q (.ref p) (upd H2 p (.dT [(kk, y)]))
theorem sq_pe_disp1 {X : Cx} {k v : Expr} {pos : Pos} {tk tv : TE} (hu : X.A.units < cLine) (hk : PE X k tk) (hv : PE X v tv) : PE X (.Dict [some k] [v] pos) (sq_tDisp1 tk tv) := by
  refine ⟨fun pins s σ H Q I q => ?_⟩
  have hn := I.hok.fresh (Nat.le_refl s.heap.objs.size)
  have I1 := I.laid (a := s.heap.objs.size) (o := .dT []) (h' := s.heap.push { cls := .type "dict", data := .dict #[] }) (t' := s.toks) (fun _ _ q => Heap.get?_push_of_some _ q) (Nat.le_refl _) (dt_empty s.heap I.big)
  refine sq_Dict_pairsH (knd := tupleKind (mixKind X.prog X.w)) hu rfl rfl (by simp) (by simp) (thn ((pps_cons hk hv (pps_nil (X := X) (pos := pos))).run pins _ σ _ (fun ps H2 => match ps with
    | [(x, y)] => ∃ (b : Addr) (kk : List Key), x = .ref b ∧ H2 b = some (.tup (kk.map kV)) ∧ H2 s.heap.objs.size = some (.dT []) ∧ Q (.ref s.heap.objs.size) (upd H2 s.heap.objs.size (.dT [(kk, y)]))
    | _ => False) I1 (q _ hn)) fun ws s2 hh => ?_)
  obtain ⟨ps, H2, I2, rel, z⟩ := hh
  cases rel with
  | nil => exact z.elim
  | @cons p1 w1 ps' ws' r1 rr =>
    cases rr with
    | cons _ _ => exact z.elim
    | nil =>
      obtain ⟨x, y⟩ := p1
      obtain ⟨u, v'⟩ := w1
      obtain ⟨b, kk, ex, hb, hd, q2⟩ := z
      obtain ⟨rx, ry⟩ := r1
      subst ex
      cases (show u = Value.ref b from rx)
      obtain ⟨_, hsys, xs, rel0, dd⟩ := dt_of I2.hok hd
      cases rel0
      refine ⟨[(kk, b, v')], ⟨rfl, rfl, key_of I2.hok hb, trivial⟩, dd, fun h' tk' dd' hs => ⟨.ref s.heap.objs.size, _, ?_, rfl, q2⟩⟩
      obtain ⟨o, es, ep, ho, h2, h3, h4, _, h5⟩ := dd'
      have hne : b ≠ s.heap.objs.size := ne_of hb hd (fun z => nomatch z)
      have hk1 : KT (upd H2 s.heap.objs.size (.dT [(kk, y)])) [(kk, y)] [(kk, b, v')] :=
        .cons ⟨rfl, by rw [upd_ne hne]; exact hb, ry⟩ .nil
      exact d_write I2 (by rw [hd]; exact True.intro) hs ⟨o, ho⟩ ⟨by rw [sizeLine_eq]; show 1 ≤ 16777216; decide, hsys, _, hk1, o, es, ep, ho, h2, h3, h4, h5⟩
/-! ### tuple(range(a, b, -1)) -/
/-- the ints a, a - 1, .. above b -/
def sq_dnV (a b : Int) : List V := (List.range (a - b).toNat).map fun (i : Nat) => V.int (a - (i : Int))
theorem sq_vals_dn {a b : Int} {acc : Array Value} (h : ItemsOf (fun i v => ∃ t, v = .int (a + i * (-1)) t) acc (a - b).toNat) : Vals (sq_dnV a b) acc.toList := by
  have e : acc.toList.length = (a - b).toNat := by rw [Array.length_toList]; exact h.1
  unfold sq_dnV
  rw [← e]
  refine vals_of_get acc.toList _ fun j u hj => ?_
  obtain ⟨t, rfl⟩ := h.2 j u (by rw [← hj, Array.getElem?_toList])
  exact ⟨t, by congr 1; omega⟩
/-- tuple(range(a, b, -1)) -/
def sq_tTupDn (ta : TA) : TE := fun σ H Q => ta σ H fun vs H1 => ∃ i j : Int, vs = [.int i, .int j, .int (-1)] ∧ (-(2 ^ 62) ≤ i ∧ i < 2 ^ 62 ∧ -(2 ^ 62) ≤ j ∧ j < 2 ^ 62 ∧ (i - j).toNat ≤ 2 ^ 24) ∧
  ∀ q, H1 q = none → Q (.ref q) (upd H1 q (.tup (sq_dnV i j)))
theorem sq_pe_tupDn {X : Cx} {a b c : Expr} {ta : TA} {p p2 pos pos2 : Pos} (hc : X.calm = true) (hg : Gl X "tuple") (hm : X.mg "tuple" = none) (hg2 : Gl X "range") (hm2 : X.mg "range" = none) (ha : PA X [a, b, c] ta)
    (na : starEach [.Call (.Name "range" p2) [a, b, c] [] pos2] X.env = (false, eval (.Call (.Name "range" p2) [a, b, c] [] pos2) X.env) :: starEach [] X.env := by rfl)
    (hs : starEach [a, b, c] X.env = (false, eval a X.env) :: starEach [b, c] X.env := by rfl) (hpl : (backTo pos2 (starEach [b, c] X.env)).any (·.1) = false := by rfl) :
    PE X (.Call (.Name "tuple" p) [.Call (.Name "range" p2) [a, b, c] [] pos2] [] pos) (sq_tTupDn ta) := by
  refine ⟨fun pins s σ H Q I h => ?_⟩
  refine Call_ (ld_blt I hg hm boot_tuple (PyProof.Rows.callWith_type1 (args_cons (Call_ (ld_blt I hg2 hm2 boot_range (PyProof.Rows.callWith_type1 (thn (ha.run pos2 pins s σ H _ I h) fun us s1 ⟨vs, H1, I1, r1, q1⟩ => ?_) hs hpl))) na) na))
  obtain ⟨i, j, e, ⟨b1, b2, b3, b4, b5⟩, q⟩ := q1
  subst e
  cases r1 with
  | cons r rr =>
    cases rr with
    | cons r' rr =>
      cases rr with
      | cons r'' rr =>
        cases rr
        obtain ⟨t, rfl⟩ := r
        obtain ⟨t', rfl⟩ := r'
        obtain ⟨t'', rfl⟩ := r''
        refine call_range_3 (by decide) ?_ (.inl (PyProof.noPylong_small (by decide)))
        refine args_nil ?_
        have I2 : Inv X pins σ H1 { s1 with heap := s1.heap.push { cls := .type "range", data := .fields #[.int i t, .int j t', .int (-1) t''] } } := I1.kept (t' := s1.toks) fun b o e => Heap.get?_push_of_some _ e
        refine call_tuple_range (n := (i - j).toNat) (I2.ok.hd hc) (IsRange.new ..) (PySem.W.small_down b1 b2 b3 b4) (PySem.W.rangeSize_downNat i j) b5 fun h' tk acc hk hi => ?_
        have I3 : Inv X pins σ H1 { s1 with heap := h', toks := tk } := I2.kept hk
        refine ⟨.ref h'.objs.size, upd H1 h'.objs.size (.tup (sq_dnV i j)), I3.laid (t' := tk) (fun c o e => Heap.get?_push_of_some _ e) (Nat.le_refl _) (show ObjOk X.prog X.w _ _ _ (.tup (sq_dnV i j)) from ⟨?_, acc.toList, sq_vals_dn hi, ?_⟩), rfl, q _ (I3.hok.fresh (Nat.le_refl _))⟩
        · unfold sq_dnV
          rw [List.length_map, List.length_range, sizeLine_eq]
          omega
        · rw [Array.toArray_toList]; exact IsTup.new _ _
/-! ### x in (t, u), data at any depth -/
section
variable {X : Cx}
def sq_rInT (K : PySem.W.Frag) : R2 := fun x y H Q => ∃ d ds, Dp K H x d ∧ Dp K H y (.tuple ds) ∧ SeqAt.shaped (.tuple ds) = true ∧ SeqAt.shaped d = true ∧ Q (.bl (ds.any fun z => PyData.eqv z d)) H
theorem sq_op_inT (hu : X.A.units + 65 < cLine) : OpR X (compareOp .In) (sq_rInT X.K) := by
  intro pins s σ H x y v u Q I rx ry h
  obtain ⟨d, ds, hd, he, se, sd, q⟩ := h
  obtain ⟨as, r1⟩ := Dp.reads I d x v hd rx
  obtain ⟨bs, r2⟩ := Dp.reads I (.tuple ds) y u he ry
  exact SeqAt.in_tuple_reads r2 r1 (SeqAt.canLay_of_shaped se) (SeqAt.canLay_of_shaped sd) (room_in_shaped sd hu) ⟨.bl _, H, I, rfl, q⟩
end
/-! ### sorted(d), d a dict whose keys are tuples of ints -/
section
variable {prog : Program} {w : World} {A : Around} {E : Value → Shared → Prop} {s : Shared} {T : String} {r d : Addr} {n : Nat} {P : Nat → Value → Prop} {OK : Heap → Prop}
theorem sq_collectK {Q : List Value → Shared → Prop} (K : PySem.W.KdlSrc prog w T r d n P OK) (hh : A.handled = none) (hok : OK s.heap) (hn : n ≤ sizeLine)
    (hQ : ∀ (h' : Heap) (tk : Nat) (acc : Array Value), (∀ b o, s.heap.get? b = some o → h'.get? b = some o) → s.heap.objs.size < h'.objs.size → ItemsOf P acc n → Q acc.toList { s with heap := h', toks := tk }) :
    wpAny (model prog w) A (collect (.ref r)) Q E s := by
  obtain ⟨hr, hd⟩ := K.there _ hok
  unfold collect
  refine wpAny_bind (wpAny_runValue (codeAny_builtin PySem.F.entry_proto_collect ?_))
  rw [Around.under_plainId PySem.F.plain_proto_collect _]
  show wpAny _ A.in1 (newList [] >>= fun l => again (.builtin "list.__iadd__" ⟨[l, .ref r], []⟩)) _ _ s
  refine wpAny_bind (wpAny_newObj_type ?_)
  refine wpAny_pure ⟨plainId_quiet PySem.F.plain_list_iadd _, codeAny_builtin PySem.F.entry_list_iadd ?_⟩
  rw [Around.under_plainId PySem.F.plain_list_iadd _]
  show wpAny _ A.in1 (Builtin.List.listExtendWith (.ref s.heap.objs.size) (.ref r) (.ref s.heap.objs.size)) _ _ _
  have hS : (s.heap.push { cls := .type "list", data := .seq ([] : List Value).toArray }).get? s.heap.objs.size = some { cls := .type "list", data := .seq #[] 0 } := Heap.get?_push_size _ rfl
  have hok1 : OK (s.heap.push { cls := .type "list", data := .seq ([] : List Value).toArray }) := K.keep _ _ hok fun b _ o e => Heap.get?_push_of_some _ e
  refine wpAny_mono (PySem.W.kdl_extend (A := A) (R := fun rr s' => rr = .ok (.ret (.ref s.heap.objs.size)) ∧ ∃ (h' : Heap) (tk : Nat) (acc : Array Value) (c' : Nat), s' = { s with heap := h', toks := tk } ∧
      (∀ b o, s.heap.get? b = some o → h'.get? b = some o) ∧ h'.get? s.heap.objs.size = some { cls := .type "list", dict := none, data := .seq acc c', slots := #[] } ∧ ItemsOf P acc n)
    (s := { s with heap := s.heap.push { cls := .type "list", data := .seq ([] : List Value).toArray } }) K hh hok1 s.heap.objs.size (Nat.ne_of_gt hr) (Nat.ne_of_gt hd) (.ref s.heap.objs.size) 0 hS
    (fun h' tk acc c' hk e hi => ⟨rfl, h', tk, acc, c', rfl, fun b o q => hk b o (Nat.ne_of_lt (Heap.lt_size q)) (Heap.get?_push_of_some _ q), e, hi⟩) hn) (fun fin s' h => ?_) (fun e s' h => ?_)
  · cases fin with
    | done f =>
      obtain ⟨e, h', tk, acc, c', rfl, hk, hS', hi⟩ := h
      cases e
      show wpAny _ A (load s.heap.objs.size >>= _) _ _ _
      exact wpAny_bind (wpAny_load hS' (wpAny_pure (hQ h' tk acc hk (Heap.lt_size hS') hi)))
    | again c' =>
      refine ⟨h.1, codeAny_mono h.2 fun rr s'' hr' => ?_⟩
      obtain ⟨rfl, h', tk, acc, c', rfl, hk, hS', hi⟩ := hr'
      show wpAny _ A (load s.heap.objs.size >>= _) _ _ _
      exact wpAny_bind (wpAny_load hS' (wpAny_pure (hQ h' tk acc hk (Heap.lt_size hS') hi)))
  · exact absurd h.1 (by simp)
theorem sq_sortedK {Q : Value → Shared → Prop} {dl : Nat} {B : Int} (K : PySem.W.KdlSrc prog w T r d n P OK) (hh : A.handled = none) (hok : OK s.heap) (h64 : n < 64) (hd : 1 ≤ dl)
    (hx : ∀ acc : Array Value, ItemsOf P acc n → TS.TupsOk s.heap dl B acc.toList)
    (h : ∀ (h' : Heap) (tk : Nat) (p : Addr) (c : Nat) (acc out : Array Value), (∀ b o, s.heap.get? b = some o → h'.get? b = some o) → s.heap.objs.size ≤ p → h'.get? p = some (seqObj "list" out c) → ItemsOf P acc n → out.toList.Perm acc.toList →
      out.toList.Pairwise (fun u v => TS.code B (TS.intsOf s.heap u) ≤ TS.code B (TS.intsOf s.heap v)) → Q (.ref p) { s with heap := h', toks := tk }) :
    wpAny (model prog w) A (call (.builtin "sorted") [.ref r]) Q E s := by
  refine Calls.call_function_entry kind_sorted plain_sorted entry_sorted (args_sorted1 _) ?_
  unfold Builtin.«sorted»
  refine wpAny_bind (m := checkCount "sorted" 1 1 _) (wpAny_pure ?_)
  refine wpAny_bind (sq_collectK (A := A.in1) K hh hok (by rw [sizeLine_eq]; omega) fun h1 tk acc k1 hz0 hi => ?_)
  have hvl : acc.toList.length < 64 := by rw [Array.length_toList, hi.1]; exact h64
  have hz : s.heap.objs.size ≤ h1.objs.size := Nat.le_of_lt hz0
  refine wpAny_bind (wpAny_newList ?_ (by rw [sizeLine_eq]; omega))
  have hoL : (h1.push (seqObj "list" acc.toList.toArray 0)).get? h1.objs.size = some (seqObj "list" acc.toList.toArray 0) := Heap.get?_push_size _ rfl
  have keep : ∀ b o, s.heap.get? b = some o → o.cls = .type "tuple" → (h1.push (seqObj "list" acc.toList.toArray 0)).get? b = some o := fun b o q _ => Heap.get?_push_of_some _ (k1 b o q)
  have x0 := hx acc hi
  refine wpAny_bind (wpAny_holding (TS.call_sort_tups (s := { s with heap := h1.push (seqObj "list" acc.toList.toArray 0), toks := tk }) hoL hvl hd (x0.keeps keep) fun out a1 a2 => ?_))
  obtain ⟨c, hc⟩ := sortedHeap_at (vs := acc.toList) (out := out) hoL
  refine wpAny_pure ⟨_, rfl, h _ tk h1.objs.size c acc out (fun b u e => ?_) hz hc hi a1 ?_⟩
  · have q := k1 b u e
    have hlt := Heap.lt_size q
    show (sortedHeap (h1.push (seqObj "list" acc.toList.toArray 0)) h1.objs.size acc.toList out).get? b = some u
    rw [sortedHeap_old (Nat.ne_of_lt hlt) (by rw [size_push']; exact Nat.lt_succ_of_lt hlt)]
    exact Heap.get?_push_of_some _ q
  · refine List.Pairwise.imp_of_mem (fun {u v} hu hv hle => ?_) a2
    obtain ⟨n1, t1, _⟩ := x0 u (a1.mem_iff.mp hu)
    obtain ⟨n2, t2, _⟩ := x0 v (a1.mem_iff.mp hv)
    have e1 : TS.intsOf (h1.push (seqObj "list" acc.toList.toArray 0)) u = n1 := (t1.keeps keep).ints
    have e2 : TS.intsOf (h1.push (seqObj "list" acc.toList.toArray 0)) v = n2 := (t2.keeps keep).ints
    rw [t1.ints, t2.ints]
    have hle' : TS.code B (TS.intsOf (h1.push (seqObj "list" acc.toList.toArray 0)) u) ≤ TS.code B (TS.intsOf (h1.push (seqObj "list" acc.toList.toArray 0)) v) := hle
    rw [e1, e2] at hle'
    exact hle'
end
theorem sq_perm_map {α β : Type} (f : α → β) {l m : List β} (h : l.Perm m) : ∀ L : List α, m = L.map f → ∃ L' : List α, L'.Perm L ∧ l = L'.map f := by
  induction h with
  | nil => intro L e; exact ⟨L, .refl _, e⟩
  | cons x h ih =>
    intro L e
    cases L with
    | nil => cases e
    | cons a L =>
      rw [List.map_cons] at e
      injection e with e1 e2
      obtain ⟨L', p, q⟩ := ih L e2
      exact ⟨a :: L', p.cons a, by rw [List.map_cons, ← q, e1]⟩
  | swap x y l =>
    intro L e
    match L, e with
    | a :: b :: L, e =>
      rw [List.map_cons, List.map_cons] at e
      injection e with e1 e2
      injection e2 with e2 e3
      exact ⟨b :: a :: L, .swap a b L, by rw [List.map_cons, List.map_cons, e1, e2, e3]⟩
  | trans h1 h2 ih1 ih2 =>
    intro L e
    obtain ⟨L1, p1, q1⟩ := ih2 L e
    obtain ⟨L2, p2, q2⟩ := ih1 L1 q1
    exact ⟨L2, p2.trans p1, q2⟩
section
variable {X : Cx}
abbrev sqKey (ns : List Int) : List Key := ns.map Sum.inl
theorem sqKey_kV (ns : List Int) : (sqKey ns).map kV = ns.map V.int := by
  unfold sqKey
  rw [List.map_map]
  rfl
def sq_rSortD (dl : Nat) (B : Int) : List V → Hp → VK → Prop := fun vs H Q => ∃ (d : Addr) (ks : List (List Int × V)), vs = [V.ref d] ∧ H d = some (.dT (ks.map fun e => (sqKey e.1, e.2))) ∧ ks.length < 64 ∧ (∀ e ∈ ks, e.1.length = dl ∧ TS.Bd B e.1) ∧
  ∀ (L : List (Addr × List Int)) (p : Addr), (L.map (·.2)).Perm (ks.map (·.1)) → (∀ q ∈ L, H q.1 = some (.tup (q.2.map V.int))) → L.Pairwise (fun q r => TS.code B q.2 ≤ TS.code B r.2) → H p = none → Q (.ref p) (upd H p (.lst (L.map fun q => V.ref q.1)))
theorem sq_keys {H : Hp} : ∀ {ks : List (List Int × V)} {xs : List (List Key × Addr × Value)}, KT H (ks.map fun e => (sqKey e.1, e.2)) xs →
    ∃ L : List (Addr × List Int), L.map (·.2) = ks.map (·.1) ∧ (xs.map fun x => x.2.1) = L.map (·.1) ∧ ∀ q ∈ L, H q.1 = some (.tup (q.2.map V.int))
  | [], [], _ => ⟨[], rfl, rfl, fun q hq => by cases hq⟩
  | [], _ :: _, h => by cases h
  | _ :: _, [], h => by cases h
  | e :: ks, x :: xs, h => by
    cases h with
    | cons h1 h2 =>
      obtain ⟨L, a, b, c⟩ := sq_keys h2
      refine ⟨(x.2.1, e.1) :: L, by rw [List.map_cons, List.map_cons, a], by rw [List.map_cons, List.map_cons, b], fun q hq => ?_⟩
      rcases List.mem_cons.mp hq with rfl | hq
      · have z := h1.2.1
        rw [sqKey_kV] at z
        exact z
      · exact c q hq
theorem sq_cr_sortD (hc : X.calm = true) {dl : Nat} {B : Int} (hd : 1 ≤ dl) : CallR X (.builtin "sorted") (sq_rSortD dl B) := by
  intro pins s σ H vs us Q I r h
  obtain ⟨d, ks, rfl, ha, h64, hB, q⟩ := h
  rw [Vals.ref1 r]
  obtain ⟨z, hs, xs, pr, o, es, ep, ho, hx, hdt, he, hn⟩ := (show ObjOk X.prog X.w H s.heap d (.dT _) from I.hok d _ ha)
  obtain ⟨L0, e1, e2, e3⟩ := sq_keys pr
  have l1 : es.size = xs.length := size_of_entries he
  have l2 : (ks.map fun e => (sqKey e.1, e.2)).length = xs.length := Paired.length pr
  rw [List.length_map] at l2
  have hitems : ∀ acc : Array Value, ItemsOf (fun i v => ∃ en : DictEntry, es[i]? = some en ∧ v = en.key) acc es.size → acc.toList = L0.map fun q => Value.ref q.1 := by
    intro acc' it
    have ea : acc'.toList = xs.map fun x => Value.ref x.2.1 := by
      have hl : acc'.toList.length = xs.length := by rw [Array.length_toList, it.1]; exact l1
      apply List.ext_getElem?
      intro j
      rw [List.getElem?_map]
      cases hj : acc'.toList[j]? with
      | none =>
        have h1 := List.getElem?_eq_none_iff.mp hj
        rw [List.getElem?_eq_none (by omega)]
        all_goals rfl
      | some v =>
        obtain ⟨en, hen, hv⟩ := it.2 j v (by rw [← Array.getElem?_toList]; exact hj)
        have qe := entry_at he j
        rw [hen] at qe
        cases hb : xs[j]? with
        | none =>
          rw [hb] at qe
          exact nomatch (show some en = none from qe)
        | some b =>
          rw [hb] at qe
          have e2 : en = entryOfKey (tupleKind (mixKind X.prog X.w)) b := Option.some.inj qe
          rw [hv, e2]
          all_goals rfl
    rw [ea]
    have : (xs.map fun x => Value.ref x.2.1) = (xs.map fun x => x.2.1).map Value.ref := by rw [List.map_map]; rfl
    rw [this, e2, List.map_map]
    rfl
  have hL : ∀ q ∈ L0, q.2.length = dl ∧ TS.Bd B q.2 := fun q hq => by
    have : q.2 ∈ ks.map (·.1) := by rw [← e1]; exact List.mem_map.mpr ⟨q, hq, rfl⟩
    obtain ⟨e, he, ee⟩ := List.mem_map.mp this
    rw [← ee]
    exact hB e he
  refine sq_sortedK (dl := dl) (B := B) (kdl_raw hs hx hdt) (I.ok.hd hc) ho (by omega) hd (fun acc it v hv => ?_) fun h' tk p c acc out k hp hg it pm pw => ?_
  · rw [hitems acc it] at hv
    obtain ⟨q, hq, rfl⟩ := List.mem_map.mp hv
    exact ⟨q.2, tupI_raw I (SqT.of (e3 q hq)), (hL q hq).1, (hL q hq).2⟩
  · rw [hitems acc it] at pm
    obtain ⟨L, pL, eL⟩ := sq_perm_map (fun q : Addr × List Int => Value.ref q.1) pm L0 rfl
    have hn : H p = none := I.hok.fresh hp
    have hlen : (L.map fun q => V.ref q.1).length ≤ sizeLine := by
      have : L.length = ks.length := by
        rw [pL.length_eq]
        have := congrArg List.length e1
        simpa using this
      rw [List.length_map, this, sizeLine_eq]
      omega
    have hv : Vals (L.map fun q => V.ref q.1) out.toList := by rw [eL]; exact vals_of_refs L
    have J : Inv X pins σ (upd H p (.lst (L.map fun q => V.ref q.1))) { s with heap := h', toks := tk } := I.laid k hp ⟨hlen, out.toList, c, hv, by rw [Array.toArray_toList]; exact hg⟩
    refine ⟨.ref p, _, J, rfl, q L p ?_ (fun x hx => e3 x (pL.mem_iff.mp hx)) ?_ hn⟩
    · rw [← e1]
      exact pL.map _
    · rw [eL] at pw
      refine List.Pairwise.imp_of_mem (fun {a b} ha hb hle => ?_) (List.pairwise_map.mp pw)
      have f1 : TS.intsOf s.heap (.ref a.1) = a.2 := (tupI_raw I (SqT.of (e3 a (pL.mem_iff.mp ha)))).ints
      have f2 : TS.intsOf s.heap (.ref b.1) = b.2 := (tupI_raw I (SqT.of (e3 b (pL.mem_iff.mp hb)))).ints
      rw [← f1, ← f2]
      exact hle
end
end L2
/-! SqD0: the text by places; what the built-in names are; is_whole. -/
namespace SqP
open PySem PySem.Spec PyProof.Rows L2
def top (i : Nat) : Stmt := PySem.Challenge.pw_signsquared_k32_whole_ways_by_stirrings.main.body.getD i (.Pass ⟨0, 0, 0, 0⟩)
abbrev sWhole : Stmt := top 8
abbrev sFew : Stmt := top 9
abbrev sFits : Stmt := top 13
abbrev sCross : Stmt := top 14
abbrev sWith : Stmt := top 15
abbrev sFrom : Stmt := top 16
abbrev sEvery : Stmt := top 17
abbrev sNeedT : Stmt := top 18
abbrev sNeedP : Stmt := top 19
abbrev sAll : Stmt := top 20
abbrev sStir : Stmt := top 23
abbrev sWord : Stmt := top 24
abbrev sBetw : Stmt := top 25
abbrev sBoth : Stmt := top 26
abbrev sBy : Stmt := top 27
abbrev sWay : Stmt := top 28
abbrev sPot : Stmt := top 30
abbrev sDip : Stmt := top 31
abbrev sOne : Stmt := top 32
abbrev sWords : Stmt := top 33
abbrev sTies : Stmt := top 34
abbrev sStirred : Stmt := top 35
abbrev sName : Stmt := top 36
abbrev sSteps : Stmt := top 37
abbrev sLaw : Stmt := top 38
/-- the built-in names are still the built-ins -/
structure Bi (mg : Str → Option Value) : Prop where
  isi : mg "isinstance" = none
  int : mg "int" = none
  bool : mg "bool" = none
  tuple : mg "tuple" = none
  len : mg "len" = none
  all : mg "all" = none
  enum : mg "enumerate" = none
  range : mg "range" = none
  sorted : mg "sorted" = none
  list : mg "list" = none
  abs : mg "abs" = none
  str : mg "str" = none
section
variable {P : Program} {w : World} {K : PySem.W.Frag} {mg : Str → Option Value} {base : Heap}
def spWhole : Sp := fun vs H Q _ => ∃ v lo hi : Int, vs = [.int v, .int lo, .int hi] ∧ Q (.bl (decide (lo ≤ v ∧ v ≤ hi))) H
theorem scWhole : FnScope ["value", "low", "high"] ["value", "low", "high"] (defScope sWhole) := ⟨rfl, rfl, rfl, by decide +kernel, rfl, by decide +kernel, by decide +kernel⟩
theorem ok_whole {f : Addr} {fd : FuncData} (F : Fun K "is_whole" "is_whole" sWhole f fd) (B : Bi mg) : FnOk P w K mg base CX0 1 f fd ["value", "low", "high"] spWhole := by
  refine F.ok scWhole (fun vs H Q E h => ?_) (fun cdv A outer s H vs Q E hr h => ?_)
  · obtain ⟨v, lo, hi, rfl, _⟩ := h
    rfl
  · obtain ⟨v, lo, hi, rfl, k⟩ := h
    refine ⟨_, pss_one (ps_ret (pe_and (pe_callB call_isi (by rfl) B.isi (by decide +kernel) (pa_cons (pv 0) (pa_cons (pe_bltn (v := .ty "int") (by rfl) B.int (by decide +kernel) rfl) pa_nil)))
      (pe_and (pe_not (pe_callB call_isi (by rfl) B.isi (by decide +kernel) (pa_cons (pv 0) (pa_cons (pe_bltn (v := .ty "bool") (by rfl) B.bool (by decide +kernel) rfl) pa_nil))))
        (pe_one (pe_chain op_le op_le (pv 1) (pv 0) (pv 2)))))), ?_⟩
    refine ⟨_, rfl, _, _, _, _, true, rfl, .ty "int", .base (.int _), kit_ty (by decide +kernel), true, rfl, ?_⟩
    refine iteT ?_
    refine ⟨_, rfl, _, _, _, _, false, rfl, .ty "bool", .base (.int _), kit_ty (by decide +kernel), false, rfl, true, rfl, ?_⟩
    refine iteT ?_
    refine ⟨_, rfl, _, rfl, _, _, rfl, rfl, _, rfl, ?_⟩
    by_cases c : lo ≤ v
    · rw [decide_eq_true c]
      refine iteT ?_
      refine ⟨_, rfl, _, _, rfl, rfl, ?_⟩
      have e : decide (lo ≤ v ∧ v ≤ hi) = decide (v ≤ hi) := by simp [c]
      rw [e] at k
      exact k
    · rw [decide_eq_false c]
      refine iteF ?_
      have e : decide (lo ≤ v ∧ v ≤ hi) = false := by simp [c]
      rw [e] at k
      exact k
end
end SqP
/-! SqD1: data, do_not_cross, fits_ties, need_ties, need_pairs. -/
namespace SqP
open PySem PySem.Spec PyProof.Rows L2
theorem sameT {K : PySem.W.Frag} {H H' : Hp} {a : Addr} {xs : List V} (e : Same H H') (h : SqT K H a xs) : SqT K H' a xs := by
  rcases h with (h | ⟨o, h⟩) | h
  · exact .inl (.inl (e _ _ h))
  · exact .inl (.inr ⟨o, e _ _ h⟩)
  · exact .inr h
theorem same_new {H H' : Hp} {p : Addr} {o : HO} (e : Same H H') (h : H' p = none) : Same H (upd H' p o) := fun b u q => by
  rw [upd_ne (ne_of_none (e b u q) h)]
  exact e b u q
theorem same_mut {H H' : Hp} {p : Addr} {o : HO} (e : Same H H') (h : H p = none) : Same H (upd H' p o) := fun b u q => by
  rw [upd_ne (ne_of_none q h)]
  exact e b u q
theorem upd_keep {H : Hp} {p q : Addr} {o u : HO} (h : H p = some o) (n : H q = none) : upd H q u p = some o := by
  rw [upd_ne (ne_of_none h n)]
  exact h
theorem get_int {ns : List Int} {i : Nat} {v : V} (h : (ns.map V.int)[i]? = some v) : ∃ x, ns[i]? = some x ∧ v = .int x := by
  rw [List.getElem?_map] at h
  cases e : ns[i]? with
  | none => rw [e] at h; cases h
  | some x => rw [e] at h; exact ⟨x, rfl, (Option.some.inj h).symm⟩
theorem at_int {ns : List Int} {x : Int} (h0 : 0 ≤ x) (h1 : x < ns.length) : atI (ns.map V.int) x = some (.int (ns.getD x.toNat 0)) := by
  have hl : x.toNat < ns.length := by omega
  refine at_of (j := x.toNat) (by omega) ?_
  rw [List.getElem?_map, List.getElem?_eq_getElem hl, List.getD_eq_getElem?_getD, List.getElem?_eq_getElem hl]
  rfl
theorem dpAll_ints {K : PySem.W.Frag} {H : Hp} : ∀ ns : List Int, DpAll K H (ns.map V.int) (ns.map PyData.int)
  | [] => .nil
  | n :: ns => .cons (.int n) (dpAll_ints ns)
theorem eqv_ints : ∀ ns ms : List Int, PyData.eqvAll (ns.map PyData.int) (ms.map PyData.int) = decide (ns = ms)
  | [], [] => by simp [PyData.eqvAll]
  | [], _ :: _ => by simp [PyData.eqvAll]
  | _ :: _, [] => by simp [PyData.eqvAll]
  | a :: r, b :: t => by
    simp only [List.map_cons, PyData.eqvAll, PyData.eqv, eqv_ints r t]
    by_cases h : a = b <;> by_cases h' : r = t <;> simp [h, h']
theorem eqv_lst (ns ms : List Int) : PyData.eqv (.list (ns.map PyData.int)) (.list (ms.map PyData.int)) = decide (ns = ms) := by
  simp only [PyData.eqv]
  exact eqv_ints ns ms
theorem eqv_tup (ns ms : List Int) : PyData.eqv (.tuple (ns.map PyData.int)) (.tuple (ms.map PyData.int)) = decide (ns = ms) := by
  simp only [PyData.eqv]
  exact eqv_ints ns ms
theorem shaped_tup (ns : List Int) : SeqAt.shaped (.tuple (ns.map PyData.int)) = true := by
  simp [SeqAt.shaped, PyData.canLay0, PyData.depth, PySem.W.ke_canLayAll0, PySem.W.ke_depthAll]
theorem cut_last (op : List Int) : cutV (op.map V.int) (some (-1)) none = (op.drop (op.length - 1)).map V.int := by
  unfold cutV
  rw [List.length_map]
  cases op with
  | nil => rfl
  | cons a r =>
    have e1 : HT.sIx (a :: r).length 0 (some (-1)) = (a :: r).length - 1 := by
      unfold HT.sIx
      simp
      omega
    have e2 : HT.sIx (a :: r).length (a :: r).length none = (a :: r).length := rfl
    rw [e1, e2, ← List.map_drop, ← List.map_take, List.take_of_length_le]
    rw [List.length_drop]
    exact Nat.le_refl _
theorem cut_init (op : List Int) : cutV (op.map V.int) none (some (-1)) = (op.take (op.length - 1)).map V.int := by
  unfold cutV
  rw [List.length_map]
  cases op with
  | nil => rfl
  | cons a r =>
    have e1 : HT.sIx (a :: r).length 0 none = 0 := rfl
    have e2 : HT.sIx (a :: r).length (a :: r).length (some (-1)) = (a :: r).length - 1 := by
      unfold HT.sIx
      simp
      omega
    rw [e1, e2, List.drop_zero, Nat.sub_zero, ← List.map_take]
theorem crossGo_cons (t : Sq.Tie) (i : Nat) (x : Int) (r op : List Int) : Sq.crossGo t i (x :: r) op = if t.getD x.toNat 0 ≠ (i : Int) ∨ x = (i : Int) then false
    else if x > (i : Int) then Sq.crossGo t (i + 1) r (op ++ [(i : Int)])
    else if op.drop (op.length - 1) ≠ [x] then false
    else Sq.crossGo t (i + 1) r (op.take (op.length - 1)) := rfl
section
variable {P : Program} {w : World} {K : PySem.W.Frag} {mg : Str → Option Value} {base : Heap}
def spCross (K : PySem.W.Frag) : Sp := fun vs H Q _ => ∃ (a : Addr) (ns : List Int), vs = [.ref a] ∧ SqT K H a (ns.map V.int) ∧ (∀ x ∈ ns, 0 ≤ x ∧ x < ns.length) ∧ ns.length ≤ 24 ∧ ∀ H', Same H H' → Q (.bl (Sq.crossGo ns 0 ns [])) H'
theorem scCross : FnScope ["value", "open_so", "place", "other"] ["value"] (defScope sCross) := ⟨rfl, rfl, rfl, by decide +kernel, rfl, by decide +kernel, by decide +kernel⟩
theorem ok_cross {f : Addr} {fd : FuncData} (F : Fun K "do_not_cross" "do_not_cross" sCross f fd) (B : Bi mg) : FnOk P w K mg base CX0 1 f fd ["value"] (spCross K) := by
  refine F.ok scCross (fun vs H Q E h => ?_) (fun cdv A outer s H vs Q E hr h => ?_)
  · obtain ⟨a, ns, rfl, _⟩ := h
    rfl
  · obtain ⟨a, ns, rfl, hS, hb, hl, k⟩ := h
    generalize hcr : Sq.crossGo ns 0 ns [] = cr at k
    refine ⟨_, pss_cons (ps_set (i := 1) scCross.nd rfl (.inl rfl) (pe_lst pa_nil))
      (pss_cons (ps_for PassesOwn.never rfl (sq_pi_enumT (by rfl) B.enum (pa_cons (pv 0) pa_nil)) (pg_tup rfl (pgs_cons (pg_name (i := 2) scCross.nd rfl (.inl rfl)) (pgs_cons (pg_name (i := 3) scCross.nd rfl (.inl rfl)) pgs_nil)))
        (pss_cons (ps_if (PW.pt (pw_or (pt_cmpR op_ne (pe_ix ix_tup (pv 0) (pv 3) (fun _ _ => rfl)) (pv 2) (nomark _)) (pw_or1 (pt_cmpR op_eq (pv 3) (pv 2) (nomark _))))) (pss_one (ps_ret pe_bl)) pss_nil)
          (pss_one (ps_if (pt_cmpR op_gt (pv 3) (pv 2) (nomark _)) (pss_one (ps_set (i := 1) scCross.nd rfl (.inl rfl) (pe_op op_cat (pv 1) (pe_lst (pa_cons (pv 2) pa_nil)))))
            (pss_one (ps_if (pt_cmpR (op_neD hr.units) (pe_slice sl_list (pv 1) (po_some (pe_un un_neg pe_int)) po_none) (pe_lst (pa_cons (pv 3) pa_nil)) (nomark _)) (pss_one (ps_ret pe_bl))
              (pss_one (ps_set (i := 1) scCross.nd rfl (.inl rfl) (pe_slice sl_list (pv 1) po_none (po_some (pe_un un_neg pe_int)))))))))))
      (pss_one (ps_ret pe_bl))), ?_⟩
    refine ⟨Nat.zero_le _, fun p0 hp0 => ?_⟩
    refine ⟨_, rfl, a, ns.map V.int, rfl, sameT (same_new (.refl _) hp0) hS, for_it sq_walk_enumT (fun i σ H' => ∃ (p : Addr) (op : List Int) (v1 v2 : Option V), σ = [some (.ref a), some (.ref p), v1, v2] ∧ Same H H' ∧ H' p = some (.lst (op.map V.int)) ∧ op.length ≤ i ∧
      cr = Sq.crossGo ns i (ns.drop i) op) ⟨p0, [], none, none, rfl, same_new (.refl _) hp0, upd_same, Nat.zero_le _, hcr.symm⟩ (fun i σ H' _ ⟨_, _, _, _, _, s5, _⟩ => sameT s5 hS) ?_ ?_⟩
    · rintro i x σ H1 H2 hi ⟨p, op, v1, v2, rfl, s5, hp, hop, hc⟩ ⟨T, y, z, rfl, hT, rfl, ey, ez⟩
      obtain rfl : V.int (i : Nat) = y := Option.some.inj ey
      obtain ⟨x, hx, rfl⟩ := get_int ez
      rw [List.length_map] at hi
      have hdrop : ns.drop i = x :: ns.drop (i + 1) := by
        rw [List.drop_eq_getElem_cons hi]
        have := (List.getElem?_eq_some_iff.mp hx).2
        rw [this]
      rw [hdrop, crossGo_cons] at hc
      have hxm : x ∈ ns := List.mem_of_getElem? hx
      obtain ⟨b0, b1⟩ := hb x hxm
      have s6 : Same H (upd H1 T (.tup [.int (i : Nat), .int x])) := same_new s5 hT
      have hp2 := upd_keep (u := HO.tup [V.int (i : Nat), V.int x]) hp hT
      refine ⟨T, _, rfl, SqT.of upd_same, rfl, _, _, rfl, _, _, rfl, rfl, ?_⟩
      refine ⟨_, rfl, _, rfl, a, _, x, _, rfl, rfl, sameT s6 hS, at_int b0 b1, _, rfl, rfl, _, rfl, ?_⟩
      refine ite2 (fun c => ?_) (fun c => ?_)
      · have c' : ¬ ns.getD x.toNat 0 = (i : Int) := by simpa using c
        rw [if_pos (Or.inl c')] at hc
        refine iteT ?_
        have := k _ s6
        rw [hc] at this
        exact this
      · have c' : ns.getD x.toNat 0 = (i : Int) := by simpa using c
        refine ⟨_, rfl, _, rfl, rfl, _, rfl, ?_⟩
        refine ite2 (fun d => ?_) (fun d => ?_)
        · have d' : x = (i : Int) := by simpa using d
          rw [if_pos (Or.inr d')] at hc
          have := k _ s6
          rw [hc] at this
          exact this
        · have d' : ¬ x = (i : Int) := by simpa using d
          rw [if_neg (fun z => z.elim (fun z => z c') d')] at hc
          refine ⟨_, rfl, _, rfl, _, _, rfl, rfl, _, rfl, ?_⟩
          refine ite2 (fun e => ?_) (fun e => ?_)
          · have e' : x > (i : Int) := by simpa using e
            rw [if_pos e'] at hc
            refine ⟨_, rfl, _, rfl, (by show 1 ≤ sizeLine; decide), fun q hq => ?_⟩
            have hp3 := upd_keep (u := HO.lst [V.int (i : Nat)]) hp2 hq
            refine ⟨p, q, _, _, rfl, rfl, hp3, upd_same, (by rw [List.length_map]; show op.length + 1 ≤ sizeLine; rw [sizeLine_eq]; omega), fun r hr' => ?_⟩
            refine ⟨r, op ++ [(i : Int)], _, _, rfl, same_new (same_new s6 hq) hr', ?_, by rw [List.length_append]; show op.length + 1 ≤ i + 1; omega, hc⟩
            rw [upd_same, List.map_append]
            rfl
          · have e' : ¬ x > (i : Int) := by simpa using e
            rw [if_neg e'] at hc
            refine ⟨_, rfl, _, rfl, _, rfl, p, _, rfl, SqL.of hp2, fun q hq => ?_⟩
            refine ⟨_, rfl, (by show 1 ≤ sizeLine; decide), fun q2 hq2 => ?_⟩
            have hq3 : upd (upd (upd H1 T (.tup [.int (i : Nat), .int x])) q (.lst (cutV (op.map V.int) (some (-1)) none))) q2 (.lst [V.int x]) q = some (.lst ((op.drop (op.length - 1)).map V.int)) := by
              rw [upd_keep upd_same hq2, cut_last]
            refine ⟨.list ((op.drop (op.length - 1)).map PyData.int), .list ([x].map PyData.int), .lst (SqL.of hq3) (dpAll_ints _), .lst (SqL.of upd_same) (dpAll_ints [x]), PySem.W.ke_shaped_ints _, PySem.W.ke_shaped_ints _, _, rfl, ?_⟩
            rw [eqv_lst]
            refine ite2 (fun g => ?_) (fun g => ?_)
            · have g' : op.drop (op.length - 1) ≠ [x] := by simpa using g
              rw [if_pos g'] at hc
              have := k _ (same_new (o := .lst [V.int x]) (same_new s6 hq) hq2)
              rw [hc] at this
              exact this
            · have g' : ¬ op.drop (op.length - 1) ≠ [x] := by simpa using g
              rw [if_neg g'] at hc
              have s8 := same_new (o := .lst [V.int x]) (same_new (o := .lst (cutV (op.map V.int) (some (-1)) none)) s6 hq) hq2
              have hp4 := upd_keep (u := HO.lst [V.int x]) (upd_keep (u := HO.lst (cutV (op.map V.int) (some (-1)) none)) hp2 hq) hq2
              refine ⟨_, rfl, _, rfl, _, rfl, p, _, rfl, SqL.of hp4, fun r hr' => ?_⟩
              refine ⟨r, op.take (op.length - 1), _, _, rfl, same_new s8 hr', by rw [upd_same, cut_init], ?_, hc⟩
              rw [List.length_take]
              omega
    · rintro σ H1 ⟨p, op, v1, v2, rfl, s5, hp, hop, hc⟩
      have := k _ s5
      rw [hc, List.length_map, List.drop_length] at this
      exact this
end
end SqP
/-! SqD2: fits_ties, need_ties, need_pairs. -/
namespace SqP
open PySem PySem.Spec PyProof.Rows L2
theorem tyX_tup {K : PySem.W.Frag} {H : Hp} {a : Addr} {xs : List V} (h : SqT K H a xs) : TyX K H (.ref a) (.type "tuple") := by
  rcases h with (h | ⟨o, h⟩) | ⟨o, its, n, h, c, _⟩
  · exact .base (.tup h)
  · exact .fTuple h
  · exact .kTuple h c
theorem call_lenK {X : Cx} {K : PySem.W.Frag} (h : X.K = K) : CallR X (.builtin "len") (Evl.rLenS K) := by
  subst h
  exact call_len_seq
theorem ix_tupK {X : Cx} {K : PySem.W.Frag} (h : X.K = K) : IxR X (rIxT K) := by
  subst h
  exact ix_tup
theorem ix_listK {X : Cx} {K : PySem.W.Frag} (h : X.K = K) : IxR X (rIxL K) := by
  subst h
  exact ix_list
/-- a def of the module: its promise, where it stands, how it binds -/
structure Df (P : Program) (w : World) (K : PySem.W.Frag) (mg : Str → Option Value) (base : Heap) (CX : CXT) (k : Nat) (x : Str) (ps : List Str) (sp : Sp) : Prop where
  ex : ∃ (f : Addr) (fd : FuncData), FnOk P w K mg base CX k f fd ps sp ∧ mg x = some (.ref f) ∧ PySem.W.keepIn K (.ref f) = true ∧ Binds K fd ps []
/-- an own error of the module, over SignError -/
structure ExC (K : PySem.W.Frag) (mg : Str → Option Value) (x : Str) (C : Addr) : Prop where
  g : mg x = some (.ref C)
  x : PySem.W.excIn K C [.type "ValueError", .type "Exception", .type "BaseException", .type "object"] "ValueError.__new__" = true
  kp : PySem.W.keepIn K (.ref C) = true
  sub : PySem.W.subIn K (.ref C) (.type "BaseException") = some true
  ty : PySem.W.typeIn K (.ref C) = some (.type "type")
section
variable {P : Program} {w : World} {K : PySem.W.Frag} {mg : Str → Option Value} {base : Heap}
def spFits (K : PySem.W.Frag) : Sp := fun vs H Q _ => (vs = [.non] ∧ Q (.bl false) H) ∨ ∃ (a : Addr) (ns : List Int), vs = [.ref a] ∧ SqT K H a (ns.map V.int) ∧ ns.length ≤ 1000 ∧ ∀ H', Same H H' → Q (.bl (Sq.fitsT ns)) H'
theorem scFits : FnScope ["value", "one"] ["value"] (defScope sFits) := ⟨rfl, rfl, rfl, by decide +kernel, rfl, by decide +kernel, by decide +kernel⟩
theorem ok_fits {f fW fC : Addr} {fd fdW fdC : FuncData} (F : Fun K "fits_ties" "fits_ties" sFits f fd) (B : Bi mg) (gM : ∃ t, mg "MOST_PAIRS" = some (.int 12 t))
    (GW : FnOk P w K mg base CX0 1 fW fdW ["value", "low", "high"] spWhole) (gW : mg "is_whole" = some (.ref fW)) (kW : PySem.W.keepIn K (.ref fW) = true) (bW : Binds K fdW ["value", "low", "high"] [])
    (GC : FnOk P w K mg base CX0 1 fC fdC ["value"] (spCross K)) (gC : mg "do_not_cross" = some (.ref fC)) (kC : PySem.W.keepIn K (.ref fC) = true) (bC : Binds K fdC ["value"] []) : FnOk P w K mg base CX0 2 f fd ["value"] (spFits K) := by
  obtain ⟨tM, gM⟩ := gM
  refine F.ok scFits (fun vs H Q E h => ?_) (fun cdv A outer s H vs Q E hr h => ?_)
  · rcases h with ⟨rfl, _⟩ | ⟨a, ns, rfl, _⟩ <;> rfl
  · refine ⟨_, pss_cons (ps_if (PW.pt (pw_or (pt_not (pt_val (pe_callB call_isi (by rfl) B.isi (by decide +kernel) (pa_cons (pv 0) (pa_cons (pe_bltn (v := .ty "tuple") (by rfl) B.tuple (by decide +kernel) rfl) pa_nil)))))
        (pw_or (pt_cmpR op_ne (pe_op op_mod (pe_callB (call_lenK (K := K) rfl) (by rfl) B.len PySem.boot_len (pa_cons (pv 0) pa_nil)) pe_int) pe_int (nomark _))
          (pw_or1 (pt_not (pt_chain op_le op_le pe_int (pe_callB (call_lenK (K := K) rfl) (by rfl) B.len PySem.boot_len (pa_cons (pv 0) pa_nil)) (pe_op op_mul pe_int (pe_glob (by rfl) gM (v := .int 12) ⟨_, rfl⟩)))))))) (pss_one (ps_ret pe_bl)) pss_nil)
      (pss_cons (ps_if (pt_not (pt_val (pe_callB (cr_all rfl) (by rfl) B.all (by decide +kernel) (pa_cons (pe_lc (own := [("one", 1)]) (g := gName 1) (tt := tYes) rfl scFits.nd (pi_tup (pv 0)) (blkOk_by (N := ["value", "one"]) (sc := defScope sFits) (by decide +kernel))
          (fun _ _ _ _ _ => pg_name (i := 1) scFits.nd rfl (.inl rfl)) (fun _ _ _ _ _ => pts_nil)
          (fun _ _ _ _ _ => pe_call GW hr (by rfl) gW kW bW .nil pass0 (pa_cons (pv 1) (pa_cons pe_int (pa_cons (pe_op op_sub (pe_callB (call_lenK (K := K) rfl) (by rfl) B.len PySem.boot_len (pa_cons (pv 0) pa_nil)) pe_int) pa_nil))))) pa_nil)))) (pss_one (ps_ret pe_bl)) pss_nil)
      (pss_one (ps_ret (pe_call GC hr (by rfl) gC kC bC .nil pass0 (pa_cons (pv 0) pa_nil))))), ?_⟩
    rcases h with ⟨rfl, k⟩ | ⟨a, ns, rfl, hS, hl, k⟩
    · refine ⟨_, rfl, _, _, _, _, false, rfl, .ty "tuple", .base .non, kit_ty (by decide +kernel), _, rfl, ?_⟩
      exact iteT (iteT k)
    · refine ⟨_, rfl, _, _, _, _, true, rfl, .ty "tuple", tyX_tup hS, kit_ty (by decide +kernel), _, rfl, ?_⟩
      refine iteF ?_
      refine ⟨_, rfl, a, _, rfl, .inr hS, _, _, rfl, rfl, (by show (0 : Int) < 2; decide), rfl, _, rfl, ?_⟩
      unfold Sq.fitsT at k
      refine ite2 (fun c => ?_) (fun c => ?_)
      · have c' : ns.length % 2 ≠ 0 := by
          simp at c
          omega
        have := k _ (.refl _)
        rw [if_pos (Or.inl c')] at this
        exact iteT this
      · have c' : ¬ ns.length % 2 ≠ 0 := by
          simp at c
          omega
        refine ⟨_, rfl, a, _, rfl, .inr hS, _, _, rfl, rfl, _, rfl, ?_⟩
        rw [List.length_map]
        by_cases d : (2 : Int) ≤ ((ns.length : Nat) : Int)
        · rw [decide_eq_true d]
          refine iteT ?_
          refine ⟨_, _, rfl, rfl, .inl ⟨by decide, by decide⟩, _, _, rfl, rfl, _, rfl, ?_⟩
          by_cases e : ((ns.length : Nat) : Int) ≤ 2 * 12
          · rw [decide_eq_true e]
            refine iteF ?_
            have n1 : ¬ (ns.length % 2 ≠ 0 ∨ ¬ (2 ≤ ns.length ∧ ns.length ≤ 24)) := by omega
            rw [if_neg n1] at k
            refine ⟨_, rfl, a, rfl, ⟨_, hS⟩, fun D hD => ?_⟩
            refine lc_tup (xs := ns.map V.int) (fun i H' => Same H H' ∧ H' D = some (.lst ((ns.take i).map fun x => V.bl (decide (0 ≤ x ∧ x ≤ (ns.length : Int) - 1))))) ⟨same_new (.refl _) hD, upd_same⟩ (fun i H' _ s5 => sameT s5.1 hS) ?_ ?_
            · rintro i y H' hi ⟨s5, hDl⟩
              obtain ⟨x, hx, rfl⟩ := get_int hi
              refine ⟨rfl, ?_⟩
              refine ⟨_, rfl, _, rfl, a, _, rfl, .inr (sameT s5 hS), _, _, rfl, rfl, ?_⟩
              rw [List.length_map]
              refine ⟨x, 0, _, rfl, ?_⟩
              refine ⟨_, hDl, ?_, same_mut s5 hD, ?_⟩
              · rw [List.length_map, List.length_take, sizeLine_eq]
                omega
              · rw [upd_same, Sq.take_more hx, List.map_append]
                rfl
            · rintro H' ⟨s5, hDl⟩
              rw [List.length_map, List.take_length] at hDl
              refine ⟨D, ns.map fun x => decide (0 ≤ x ∧ x ≤ (ns.length : Int) - 1), rfl, SqL.of (by rw [hDl, List.map_map]; rfl), _, rfl, ?_⟩
              rw [List.all_map]
              show if (!(ns.all fun x => decide (0 ≤ x ∧ x ≤ (ns.length : Int) - 1))) = true then _ else _
              cases g : ns.all fun x => decide (0 ≤ x ∧ x ≤ (ns.length : Int) - 1) with
              | false =>
                have := k _ s5
                rw [if_pos g] at this
                exact iteT this
              | true =>
                refine iteF ?_
                rw [if_neg (by rw [g]; decide)] at k
                refine ⟨_, rfl, a, ns, rfl, sameT s5 hS, fun x hx => ?_, by omega, fun H2 s6 => k _ (s5.trans s6)⟩
                have := of_decide_eq_true (List.all_eq_true.mp g x hx)
                omega
          · rw [decide_eq_false e]
            refine iteT ?_
            have := k _ (.refl _)
            rw [if_pos (Or.inr (by omega))] at this
            exact this
        · rw [decide_eq_false d]
          refine iteF ?_
          refine ⟨_, rfl, ?_⟩
          refine iteT ?_
          have := k _ (.refl _)
          rw [if_pos (Or.inr (by omega))] at this
          exact this
end
end SqP
/-! SqD3: need_ties, need_pairs, need_both_ties, stir_at, fits_word, stirred_by. -/
namespace SqP
open PySem PySem.Spec PyProof.Rows L2
section
variable {P : Program} {w : World} {K : PySem.W.Frag} {mg : Str → Option Value} {base : Heap}
/-- no ties; ties -/
def Bad (K : PySem.W.Frag) (v : V) (H : Hp) : Prop := v = .non ∨ ∃ (a : Addr) (ns : List Int), v = .ref a ∧ SqT K H a (ns.map V.int) ∧ ns.length ≤ 1000 ∧ Sq.fitsT ns = false
def Good (K : PySem.W.Frag) (v : V) (H : Hp) (ns : List Int) : Prop := ∃ a : Addr, v = .ref a ∧ SqT K H a (ns.map V.int) ∧ ns.length ≤ 1000 ∧ Sq.fitsT ns = true
theorem Bad.same {K : PySem.W.Frag} {v : V} {H H' : Hp} (b : Bad K v H) (s : Same H H') : Bad K v H' := by
  rcases b with h | ⟨a, ns, e, h, r⟩
  · exact .inl h
  · exact .inr ⟨a, ns, e, sameT s h, r⟩
theorem Good.same {K : PySem.W.Frag} {v : V} {H H' : Hp} {ns : List Int} (b : Good K v H ns) (s : Same H H') : Good K v H' ns := by
  obtain ⟨a, e, h, r⟩ := b
  exact ⟨a, e, sameT s h, r⟩
def spNeedT (K : PySem.W.Frag) (CT : Addr) : Sp := fun vs H Q E => ∃ v, vs = [v] ∧ ((Bad K v H ∧ ∀ H', Same H H' → E (.ref CT) none H') ∨ ∃ ns, Good K v H ns ∧ ∀ H', Same H H' → Q .non H')
theorem scNeedT : FnScope ["value"] ["value"] (defScope sNeedT) := ⟨rfl, rfl, rfl, by decide +kernel, rfl, by decide +kernel, by decide +kernel⟩
theorem ok_needT {f fF CT : Addr} {fd fdF : FuncData} (F : Fun K "need_ties" "need_ties" sNeedT f fd) (X : ExC K mg "InvalidTies" CT)
    (GF : FnOk P w K mg base CX0 2 fF fdF ["value"] (spFits K)) (gF : mg "fits_ties" = some (.ref fF)) (kF : PySem.W.keepIn K (.ref fF) = true) (bF : Binds K fdF ["value"] []) : FnOk P w K mg base (L2.CX P w) 3 f fd ["value"] (spNeedT K CT) := by
  refine F.okX scNeedT (fun vs H Q E h => ?_) (fun cdv A outer s H vs Q E hr h => ?_)
  · obtain ⟨v, rfl, _⟩ := h
    rfl
  · obtain ⟨v, rfl, h⟩ := h
    refine ⟨_, pss_one (ps_if (pt_not (pt_val (pe_call GF hr (by rfl) gF kF bF .nil pass0 (pa_cons (pv 0) pa_nil)))) (pss_one (ps_raise rfl (takes_of rfl rfl rfl rfl) (pmk_own PySem.F.excBase_ValueError X.x X.g X.kp (raises_own X.sub X.ty) rfl))) pss_nil), ?_⟩
    rcases h with ⟨rfl | ⟨a, ns, rfl, hS, hl, hf⟩, k⟩ | ⟨ns, ⟨a, rfl, hS, hl, hf⟩, k⟩
    · exact ⟨_, rfl, .inl ⟨rfl, false, rfl, iteT (k _ (.refl _))⟩⟩
    · refine ⟨_, rfl, .inr ⟨a, ns, rfl, hS, hl, fun H1 s1 => ⟨_, rfl, ?_⟩⟩⟩
      rw [hf]
      exact iteT (k _ s1)
    · refine ⟨_, rfl, .inr ⟨a, ns, rfl, hS, hl, fun H1 s1 => ⟨_, rfl, ?_⟩⟩⟩
      rw [hf]
      exact iteF (k _ s1)
def spNeedP : Sp := fun vs H Q _ => ∃ v most : Int, vs = [.int v, .int most] ∧ 1 ≤ v ∧ v ≤ most ∧ ∀ H', Same H H' → Q .non H'
theorem scNeedP : FnScope ["value", "most"] ["value", "most"] (defScope sNeedP) := ⟨rfl, rfl, rfl, by decide +kernel, rfl, by decide +kernel, by decide +kernel⟩
theorem ok_needP {f fW : Addr} {fd fdW : FuncData} (F : Fun K "need_pairs" "need_pairs" sNeedP f fd)
    (GW : FnOk P w K mg base CX0 1 fW fdW ["value", "low", "high"] spWhole) (gW : mg "is_whole" = some (.ref fW)) (kW : PySem.W.keepIn K (.ref fW) = true) (bW : Binds K fdW ["value", "low", "high"] []) : FnOk P w K mg base CX0 2 f fd ["value", "most"] spNeedP := by
  refine F.ok scNeedP (fun vs H Q E h => ?_) (fun cdv A outer s H vs Q E hr h => ?_)
  · obtain ⟨v, m, rfl, _⟩ := h
    rfl
  · obtain ⟨v, m, rfl, h1, h2, k⟩ := h
    refine ⟨_, pss_one (ps_if (pt_not (pt_val (pe_call GW hr (by rfl) gW kW bW .nil pass0 (pa_cons (pv 0) (pa_cons pe_int (pa_cons (pv 1) pa_nil)))))) (pss_one ps_never) pss_nil), ?_⟩
    refine ⟨_, rfl, _, rfl, v, 1, m, rfl, _, rfl, ?_⟩
    rw [decide_eq_true (⟨h1, h2⟩ : (1 : Int) ≤ v ∧ v ≤ m)]
    exact iteF (k _ (.refl _))
/-- need_both_ties -/
def spBoth (K : PySem.W.Frag) (CT CU : Addr) : Sp := fun vs H Q E => ∃ v u, vs = [v, u] ∧ ((Bad K v H ∧ ∀ H', Same H H' → E (.ref CT) none H') ∨ (∃ ns, Good K v H ns ∧ Bad K u H ∧ ∀ H', Same H H' → E (.ref CT) none H') ∨
  (∃ ns ms, Good K v H ns ∧ Good K u H ms ∧ ns.length ≠ ms.length ∧ ∀ H', Same H H' → E (.ref CU) none H') ∨ ∃ ns ms, Good K v H ns ∧ Good K u H ms ∧ ns.length = ms.length ∧ ∀ H', Same H H' → Q .non H')
theorem scBoth : FnScope ["one", "other"] ["one", "other"] (defScope sBoth) := ⟨rfl, rfl, rfl, by decide +kernel, rfl, by decide +kernel, by decide +kernel⟩
theorem ok_both {f fN CT CU : Addr} {fd fdN : FuncData} (F : Fun K "need_both_ties" "need_both_ties" sBoth f fd) (B : Bi mg) (X : ExC K mg "Unlike" CU)
    (GN : FnOk P w K mg base (L2.CX P w) 3 fN fdN ["value"] (spNeedT K CT)) (gN : mg "need_ties" = some (.ref fN)) (kN : PySem.W.keepIn K (.ref fN) = true) (bN : Binds K fdN ["value"] []) : FnOk P w K mg base (L2.CX P w) 4 f fd ["one", "other"] (spBoth K CT CU) := by
  refine F.okX scBoth (fun vs H Q E h => ?_) (fun cdv A outer s H vs Q E hr h => ?_)
  · obtain ⟨v, u, rfl, _⟩ := h
    rfl
  · obtain ⟨v, u, rfl, h⟩ := h
    refine ⟨_, pss_cons (ps_expr (pe_call GN hr (by rfl) gN kN bN .nil (passes_call (W := fun cls d _ H => E cls d H) (takes_of rfl rfl rfl rfl) fun _ _ _ _ h => h) (pa_cons (pv 0) pa_nil)))
      (pss_cons (ps_expr (pe_call GN hr (by rfl) gN kN bN .nil (passes_call (W := fun cls d _ H => E cls d H) (takes_of rfl rfl rfl rfl) fun _ _ _ _ h => h) (pa_cons (pv 1) pa_nil)))
      (pss_one (ps_if (pt_cmpR op_ne (pe_callB (call_lenK (K := K) rfl) (by rfl) B.len PySem.boot_len (pa_cons (pv 0) pa_nil)) (pe_callB (call_lenK (K := K) rfl) (by rfl) B.len PySem.boot_len (pa_cons (pv 1) pa_nil)) (nomark _))
        (pss_one (ps_raise rfl (takes_of rfl rfl rfl rfl) (pmk_own PySem.F.excBase_ValueError X.x X.g X.kp (raises_own X.sub X.ty) rfl))) pss_nil))), ?_⟩
    rcases h with ⟨b, k⟩ | ⟨ns, g, b, k⟩ | ⟨ns, ms, g, g2, ne, k⟩ | ⟨ns, ms, g, g2, e, k⟩
    · exact ⟨_, rfl, v, rfl, .inl ⟨b, k⟩⟩
    · exact ⟨_, rfl, v, rfl, .inr ⟨ns, g, fun H1 s1 => ⟨_, rfl, u, rfl, .inl ⟨b.same s1, fun H2 s2 => k _ (s1.trans s2)⟩⟩⟩⟩
    · refine ⟨_, rfl, v, rfl, .inr ⟨ns, g, fun H1 s1 => ⟨_, rfl, u, rfl, .inr ⟨ms, g2.same s1, fun H2 s2 => ?_⟩⟩⟩⟩
      obtain ⟨a, rfl, hS, _⟩ := g
      obtain ⟨b, rfl, hS2, _⟩ := g2
      have s12 := s1.trans s2
      refine ⟨_, rfl, a, _, rfl, .inr (sameT s12 hS), _, rfl, b, _, rfl, .inr (sameT s12 hS2), rfl, _, rfl, ?_⟩
      rw [List.length_map, List.length_map]
      refine ite2 (fun _ => k _ s12) (fun c => ?_)
      exact absurd (by simpa using c) (fun z => ne (by omega))
    · refine ⟨_, rfl, v, rfl, .inr ⟨ns, g, fun H1 s1 => ⟨_, rfl, u, rfl, .inr ⟨ms, g2.same s1, fun H2 s2 => ?_⟩⟩⟩⟩
      obtain ⟨a, rfl, hS, _⟩ := g
      obtain ⟨b, rfl, hS2, _⟩ := g2
      have s12 := s1.trans s2
      refine ⟨_, rfl, a, _, rfl, .inr (sameT s12 hS), _, rfl, b, _, rfl, .inr (sameT s12 hS2), rfl, _, rfl, ?_⟩
      rw [List.length_map, List.length_map, e]
      refine ite2 (fun c => ?_) (fun _ => k _ s12)
      simp at c
end
end SqP
/-! SqD4: stir_at, fits_word, stirred_by. -/
namespace SqP
open PySem PySem.Spec PyProof.Rows L2
/-- a tie's shape: some places, each number one of them -/
structure Shp (ns : List Int) : Prop where
  pos : 0 < ns.length
  few : ns.length ≤ 1000
  bd : ∀ x ∈ ns, 0 ≤ x ∧ x < (ns.length : Int)
theorem shp_T {n : Nat} {ns : List Int} (h : ns ∈ Sq.T n) : Shp ns := by
  obtain ⟨h1, h2, _⟩ := Sq.T_shape h
  have h3 := Sq.T_pos h
  have h4 := Sq.T_lt h
  refine ⟨by omega, by omega, fun x hx => ?_⟩
  have := h2 x hx
  omega
theorem getD_mem {ns : List Int} {i : Nat} (h : i < ns.length) : ns.getD i 0 ∈ ns := by
  rw [List.getD_eq_getElem?_getD, List.getElem?_eq_getElem h]
  exact List.getElem_mem h
theorem ixN_of {n : Nat} {z : Int} {j : Nat} (e : z = (j : Int)) (h : j < n) : ixN n z = some j := by
  subst e
  exact Evl.ixN_nat h
section
variable {P : Program} {w : World} {K : PySem.W.Frag} {mg : Str → Option Value} {base : Heap}
def spStir : Sp := fun vs H Q _ => ∃ (a : Addr) (ns : List Int) (p : Nat), vs = [.ref a, .int (p : Int)] ∧ H a = some (.tup (ns.map V.int)) ∧ Shp ns ∧ p < ns.length ∧
  ∀ H' b, Same H H' → H' b = some (.tup ((Sq.stirAt ns p).map V.int)) → Q (.ref b) H'
theorem scStir : FnScope ["ties", "place", "other", "one", "two", "found"] ["ties", "place"] (defScope sStir) := ⟨rfl, rfl, rfl, by decide +kernel, rfl, by decide +kernel, by decide +kernel⟩
theorem ok_stir {f : Addr} {fd : FuncData} (F : Fun K "stir_at" "stir_at" sStir f fd) (B : Bi mg) : FnOk P w K mg base CX0 1 f fd ["ties", "place"] spStir := by
  refine F.ok scStir (fun vs H Q E h => ?_) (fun cdv A outer s H vs Q E hr h => ?_)
  · obtain ⟨a, ns, p, rfl, _⟩ := h
    rfl
  · obtain ⟨a, ns, p, rfl, hS, sh, hp, k⟩ := h
    refine ⟨_, pss_cons (ps_set (i := 2) scStir.nd rfl (.inl rfl) (pe_op op_mod (pe_op op_add (pv 1) pe_int) (pe_callB (call_lenK (K := K) rfl) (by rfl) B.len PySem.boot_len (pa_cons (pv 0) pa_nil))))
      (pss_cons (ps_par (i := 3) (j := 4) (by rfl) scStir.nd rfl rfl (by decide) rfl rfl (pa_cons (pe_ix (ix_tupK (K := K) rfl) (pv 0) (pv 1) (fun _ _ => rfl)) (pa_cons (pe_ix (ix_tupK (K := K) rfl) (pv 0) (pv 2) (fun _ _ => rfl)) pa_nil)) (by rfl))
      (pss_cons (ps_if (pt_cmpR op_eq (pv 3) (pv 2) (nomark _)) (pss_one (ps_ret (pv 0))) pss_nil)
      (pss_cons (ps_set (i := 5) scStir.nd rfl (.inl rfl) (pe_callTy call_list_of (by rfl) B.list (by decide +kernel) (pa_cons (pv 0) pa_nil)))
      (pss_cons (ps_asg (pe_tup (pa_cons (pv 2) (pa_cons (pv 1) (pa_cons (pv 4) (pa_cons (pv 3) pa_nil)))))
        (pg_tup rfl (pgs_cons (pg_sub (pv 5) (pv 1) set_list) (pgs_cons (pg_sub (pv 5) (pv 2) set_list) (pgs_cons (pg_sub (pv 5) (pv 3) set_list) (pgs_cons (pg_sub (pv 5) (pv 4) set_list) pgs_nil))))))
      (pss_one (ps_ret (pe_callTy call_tuple_of (by rfl) B.tuple (by decide +kernel) (pa_cons (pv 5) pa_nil)))))))), ?_⟩
    have hT : SqT K H a (ns.map V.int) := .of hS
    have hpos := sh.pos
    have ho : (p + 1) % ns.length < ns.length := Nat.mod_lt _ hpos
    have eo : ((p : Int) + 1) % (((ns.map V.int).length : Nat) : Int) = (((p + 1) % ns.length : Nat) : Int) := by
      rw [List.length_map, show ((p : Int) + 1) = ((p + 1 : Nat) : Int) by omega]
      exact (Int.natCast_emod (p + 1) ns.length).symm
    have m1 := sh.bd _ (getD_mem hp)
    have m2 := sh.bd _ (getD_mem ho)
    have at_nat : ∀ j : Nat, j < ns.length → atI (ns.map V.int) (j : Int) = some (.int (ns.getD j 0)) := fun j hj => by
      have := at_int (ns := ns) (x := (j : Int)) (by omega) (by omega)
      simpa using this
    refine ⟨_, rfl, _, _, rfl, rfl, _, rfl, a, _, rfl, .inr hT, _, _, rfl, rfl, (by rw [List.length_map]; show (0 : Int) < _; omega), ?_⟩
    show gName 2 (V.int (((p : Int) + 1) % (((ns.map V.int).length : Nat) : Int))) _ _ _
    rw [eo]
    refine ⟨_, rfl, _, rfl, a, _, _, _, rfl, rfl, hT, at_nat p hp, _, rfl, _, rfl, a, _, _, _, rfl, rfl, hT, at_nat _ ho, _, _, rfl, ?_⟩
    refine ⟨_, rfl, _, rfl, rfl, _, rfl, ?_⟩
    refine ite2 (fun c => ?_) (fun c => ?_)
    · have c' : ns.getD p 0 = (((p + 1) % ns.length : Nat) : Int) := by simpa using c
      refine ⟨_, rfl, ?_⟩
      refine k _ a (.refl _) ?_
      unfold Sq.stirAt
      rw [if_pos (by rw [c']; rfl)]
      exact hS
    · have c' : ¬ ns.getD p 0 = (((p + 1) % ns.length : Nat) : Int) := by simpa using c
      refine ⟨_, rfl, a, _, rfl, .inr hT, fun l hl => ?_⟩
      refine ⟨_, rfl, _, rfl, _, rfl, _, rfl, (by show 4 ≤ sizeLine; decide), fun t ht => ?_⟩
      have hl1 := upd_keep (u := HO.tup [V.int (((p + 1) % ns.length : Nat) : Int), V.int (p : Int), V.int (ns.getD ((p + 1) % ns.length) 0), V.int (ns.getD p 0)]) (upd_same (H := H) (a := l) (o := HO.lst (ns.map V.int))) ht
      refine ⟨t, _, rfl, SqT.of upd_same, rfl, ?_⟩
      refine ⟨_, _, rfl, _, rfl, _, rfl, l, _, _, p, rfl, rfl, hl1, ixN_of rfl (by simpa using hp), ?_⟩
      refine ⟨_, _, rfl, _, rfl, _, rfl, l, _, _, (p + 1) % ns.length, rfl, rfl, upd_same, ixN_of rfl (by simpa using ho), ?_⟩
      refine ⟨_, _, rfl, _, rfl, _, rfl, l, _, _, (ns.getD p 0).toNat, rfl, rfl, upd_same, ixN_of (by omega) (by simp only [List.length_set, List.length_map]; omega), ?_⟩
      refine ⟨_, _, rfl, _, rfl, _, rfl, l, _, _, (ns.getD ((p + 1) % ns.length) 0).toNat, rfl, rfl, upd_same, ixN_of (by omega) (by simp only [List.length_set, List.length_map]; omega), ?_⟩
      refine ⟨rfl, ?_⟩
      refine ⟨_, rfl, l, _, rfl, .inl ⟨SqL.of upd_same, fun q hq => ?_⟩⟩
      refine k _ q ?_ ?_
      · exact same_mut (same_mut (same_mut (same_mut (same_new (o := .tup _) (same_new (o := .lst _) (.refl _) hl) ht) hl) hl) hl) hl |>.trans fun b u e => by rw [upd_ne (ne_of_none e hq)]; exact e
      · rw [upd_same]
        unfold Sq.stirAt
        rw [if_neg (fun z => c' (by omega))]
        simp [List.map_set]
end
end SqP
/-! SqD5: fits_word, stirred_by. -/
namespace SqP
open PySem PySem.Spec PyProof.Rows L2
section
variable {P : Program} {w : World} {K : PySem.W.Frag} {mg : Str → Option Value} {base : Heap}
def spWordF (K : PySem.W.Frag) : Sp := fun vs H Q _ => ∃ (a b : Addr) (ns ws : List Int), vs = [.ref a, .ref b] ∧ SqT K H a (ns.map V.int) ∧ SqT K H b (ws.map V.int) ∧ ws.length ≤ 60 ∧ (∀ x ∈ ws, 0 ≤ x ∧ x < (ns.length : Int)) ∧ ∀ H', Same H H' → Q (.bl true) H'
theorem scWord : FnScope ["ties", "value", "one"] ["ties", "value"] (defScope sWord) := ⟨rfl, rfl, rfl, by decide +kernel, rfl, by decide +kernel, by decide +kernel⟩
theorem ok_word {f fW : Addr} {fd fdW : FuncData} (F : Fun K "fits_word" "fits_word" sWord f fd) (B : Bi mg) (gM : ∃ t, mg "WORD" = some (.int 60 t))
    (GW : FnOk P w K mg base CX0 1 fW fdW ["value", "low", "high"] spWhole) (gW : mg "is_whole" = some (.ref fW)) (kW : PySem.W.keepIn K (.ref fW) = true) (bW : Binds K fdW ["value", "low", "high"] []) : FnOk P w K mg base CX0 2 f fd ["ties", "value"] (spWordF K) := by
  obtain ⟨tM, gM⟩ := gM
  refine F.ok scWord (fun vs H Q E h => ?_) (fun cdv A outer s H vs Q E hr h => ?_)
  · obtain ⟨a, b, ns, ws, rfl, _⟩ := h
    rfl
  · obtain ⟨a, b, ns, ws, rfl, hS, hW, hl, hb, k⟩ := h
    refine ⟨_, pss_cons (ps_if (PW.pt (pw_or (pt_not (pt_val (pe_callB call_isi (by rfl) B.isi (by decide +kernel) (pa_cons (pv 1) (pa_cons (pe_bltn (v := .ty "tuple") (by rfl) B.tuple (by decide +kernel) rfl) pa_nil)))))
        (pw_or1 (pt_cmpR op_gt (pe_callB (call_lenK (K := K) rfl) (by rfl) B.len PySem.boot_len (pa_cons (pv 1) pa_nil)) (pe_glob (by rfl) gM (v := .int 60) ⟨_, rfl⟩) (nomark _))))) (pss_one (ps_ret pe_bl)) pss_nil)
      (pss_one (ps_ret (pe_callB (cr_all rfl) (by rfl) B.all (by decide +kernel) (pa_cons (pe_lc (own := [("one", 2)]) (g := gName 2) (tt := tYes) rfl scWord.nd (pi_tup (pv 1)) (blkOk_by (N := ["ties", "value", "one"]) (sc := defScope sWord) (by decide +kernel))
          (fun _ _ _ _ _ => pg_name (i := 2) scWord.nd rfl (.inl rfl)) (fun _ _ _ _ _ => pts_nil)
          (fun _ _ _ _ _ => pe_call GW hr (by rfl) gW kW bW .nil pass0 (pa_cons (pv 2) (pa_cons pe_int (pa_cons (pe_op op_sub (pe_callB (call_lenK (K := K) rfl) (by rfl) B.len PySem.boot_len (pa_cons (pv 0) pa_nil)) pe_int) pa_nil))))) pa_nil)))), ?_⟩
    refine ⟨_, rfl, _, _, _, _, true, rfl, .ty "tuple", tyX_tup hW, kit_ty (by decide +kernel), _, rfl, ?_⟩
    refine iteF ?_
    refine ⟨_, rfl, b, _, rfl, .inr hW, _, _, rfl, rfl, _, rfl, ?_⟩
    rw [List.length_map, decide_eq_false (by omega)]
    refine iteF ?_
    refine ⟨_, rfl, b, rfl, ⟨_, hW⟩, fun D hD => ?_⟩
    refine lc_tup (xs := ws.map V.int) (fun i H' => Same H H' ∧ H' D = some (.lst ((ws.take i).map fun x => V.bl true))) ⟨same_new (.refl _) hD, upd_same⟩ (fun i H' _ s5 => sameT s5.1 hW) ?_ ?_
    · rintro i y H' hi ⟨s5, hDl⟩
      obtain ⟨x, hx, rfl⟩ := get_int hi
      have bx := hb x (List.mem_of_getElem? hx)
      refine ⟨rfl, ?_⟩
      refine ⟨_, rfl, _, rfl, a, _, rfl, .inr (sameT s5 hS), _, _, rfl, rfl, ?_⟩
      rw [List.length_map]
      refine ⟨x, 0, _, rfl, ?_⟩
      refine ⟨_, hDl, ?_, same_mut s5 hD, ?_⟩
      · rw [List.length_map, List.length_take, sizeLine_eq]
        omega
      · rw [upd_same, Sq.take_more hx, List.map_append, decide_eq_true (by omega : (0 : Int) ≤ x ∧ x ≤ ((ns.length : Nat) : Int) - 1)]
        rfl
    · rintro H' ⟨s5, hDl⟩
      rw [List.length_map, List.take_length] at hDl
      refine ⟨D, ws.map fun x => true, rfl, SqL.of (by rw [hDl, List.map_map]; rfl), ?_⟩
      have : (ws.map fun x => true).all id = true := by simp
      rw [this]
      exact k _ s5
def spBy (K : PySem.W.Frag) : Sp := fun vs H Q _ => ∃ (a b : Addr) (n : Nat) (ns ws : List Int), vs = [.ref a, .ref b] ∧ H a = some (.tup (ns.map V.int)) ∧ ns ∈ Sq.T n ∧ SqT K H b (ws.map V.int) ∧ ws.length ≤ 60 ∧ (∀ x ∈ ws, 0 ≤ x ∧ x < 2 * (n : Int)) ∧
  ∀ H' c, Same H H' → H' c = some (.tup ((ws.foldl (fun t p => Sq.stirAt t p.toNat) ns).map V.int)) → Q (.ref c) H'
theorem scBy : FnScope ["ties", "word", "place"] ["ties", "word"] (defScope sBy) := ⟨rfl, rfl, rfl, by decide +kernel, rfl, by decide +kernel, by decide +kernel⟩
theorem fold_T {n : Nat} : ∀ (ws : List Int) {ns : List Int}, ns ∈ Sq.T n → (∀ x ∈ ws, 0 ≤ x ∧ x < 2 * (n : Int)) → ws.foldl (fun t p => Sq.stirAt t p.toNat) ns ∈ Sq.T n
  | [], _, h, _ => h
  | p :: ws, ns, h, hb => fold_T ws (Sq.stir_in h (by have := hb p List.mem_cons_self; omega)) fun x hx => hb x (List.mem_cons_of_mem _ hx)
theorem ok_by {f fN fF fS CT : Addr} {fd fdN fdF fdS : FuncData} (F : Fun K "stirred_by" "stirred_by" sBy f fd)
    (GN : FnOk P w K mg base (L2.CX P w) 3 fN fdN ["value"] (spNeedT K CT)) (gN : mg "need_ties" = some (.ref fN)) (kN : PySem.W.keepIn K (.ref fN) = true) (bN : Binds K fdN ["value"] [])
    (GF : FnOk P w K mg base CX0 2 fF fdF ["ties", "value"] (spWordF K)) (gF : mg "fits_word" = some (.ref fF)) (kF : PySem.W.keepIn K (.ref fF) = true) (bF : Binds K fdF ["ties", "value"] [])
    (GS : FnOk P w K mg base CX0 1 fS fdS ["ties", "place"] spStir) (gS : mg "stir_at" = some (.ref fS)) (kS : PySem.W.keepIn K (.ref fS) = true) (bS : Binds K fdS ["ties", "place"] []) : FnOk P w K mg base CX0 4 f fd ["ties", "word"] (spBy K) := by
  refine F.ok scBy (fun vs H Q E h => ?_) (fun cdv A outer s H vs Q E hr h => ?_)
  · obtain ⟨a, b, n, ns, ws, rfl, _⟩ := h
    rfl
  · obtain ⟨a, b, n, ns, ws, rfl, hS, hT, hW, hl, hb, k⟩ := h
    have sh := shp_T hT
    obtain ⟨t1, t2, t3⟩ := Sq.T_shape hT
    have hr2 : Room 2 _ := hr.mono (by decide)
    have hr1 : Room 1 _ := hr.mono (by decide)
    refine ⟨_, pss_cons (ps_expr (pe_call GN hr (by rfl) gN kN bN .nil passL (pa_cons (pv 0) pa_nil)))
      (pss_cons (ps_if (pt_not (pt_val (pe_call GF hr2 (by rfl) gF kF bF .nil pass0 (pa_cons (pv 0) (pa_cons (pv 1) pa_nil))))) (pss_one ps_never) pss_nil)
      (pss_cons (ps_for PassesOwn.never rfl (pi_tup (pv 1)) (pg_name (i := 2) scBy.nd rfl (.inl rfl)) (pss_one (ps_set (i := 0) scBy.nd rfl (.inl rfl) (pe_call GS hr1 (by rfl) gS kS bS .nil pass0 (pa_cons (pv 0) (pa_cons (pv 2) pa_nil))))))
      (pss_one (ps_ret (pv 0))))), ?_⟩
    refine ⟨_, rfl, _, rfl, .inr ⟨ns, ⟨a, rfl, .of hS, sh.few, t3⟩, fun H1 s1 => ?_⟩⟩
    refine ⟨_, rfl, _, rfl, a, b, ns, ws, rfl, .of (s1 _ _ hS), sameT s1 hW, hl, fun x hx => by have := hb x hx; omega, fun H2 s2 => ⟨_, rfl, ?_⟩⟩
    refine iteF ?_
    have s12 := s1.trans s2
    refine ⟨_, rfl, b, rfl, ⟨_, sameT s12 hW⟩, for_tup (K := K) (a := b) (xs := ws.map V.int) (fun i σ H' => ∃ (c : Addr) (v : Option V), σ = [some (.ref c), some (.ref b), v] ∧ Same H H' ∧ H' c = some (.tup (((ws.take i).foldl (fun t p => Sq.stirAt t p.toNat) ns).map V.int)))
      ⟨a, none, rfl, s12, s12 _ _ hS⟩ (fun i σ H' _ ⟨_, _, _, s5, _⟩ => sameT s5 hW) ?_ ?_⟩
    · rintro i y σ H' hi ⟨c, v, rfl, s5, hc⟩
      obtain ⟨x, hx, rfl⟩ := get_int hi
      have bx := hb x (List.mem_of_getElem? hx)
      have hm : (ws.take i).foldl (fun t p => Sq.stirAt t p.toNat) ns ∈ Sq.T n := fold_T _ hT fun y hy => hb y (List.mem_of_mem_take hy)
      have hln := (Sq.T_shape hm).1
      refine ⟨_, rfl, _, rfl, c, _, x.toNat, ?_, hc, shp_T hm, by omega, fun H2 c2 s6 hc2 => ?_⟩
      · show [V.ref c, V.int x] ++ [] = [V.ref c, V.int ((x.toNat : Nat) : Int)]
        rw [show ((x.toNat : Nat) : Int) = x by omega]
        rfl
      · refine ⟨c2, _, rfl, s5.trans s6, ?_⟩
        rw [Sq.take_more hx, List.foldl_append]
        exact hc2
    · rintro σ H' ⟨c, v, rfl, s5, hc⟩
      rw [List.length_map, List.take_length] at hc
      exact ⟨_, rfl, k _ c s5 hc⟩
end
end SqP
/-! Sq2: the state within a round. -/
namespace Sq
/-- behind j ties of the line -/
def atJ (s : Kn × List Tie) (j : Nat) : Kn × List Tie := (s.2.take j).foldl (stepH stirAt) (s.1, [])
/-- .. and i places of the j-th -/
def atI (s : Kn × List Tie) (j : Nat) (here : Tie) (i : Nat) : Kn × List Tie := (List.range i).foldl (stepP stirAt here) (atJ s j)
theorem atJ_zero (s : Kn × List Tie) : atJ s 0 = (s.1, []) := rfl
theorem atJ_end (s : Kn × List Tie) : atJ s s.2.length = round stirAt s := by
  unfold atJ round
  rw [List.take_length]
theorem atI_zero (s : Kn × List Tie) (j : Nat) (here : Tie) : atI s j here 0 = atJ s j := rfl
theorem atI_succ (s : Kn × List Tie) (j : Nat) (here : Tie) (i : Nat) : atI s j here (i + 1) = stepP stirAt here (atI s j here i) i := by
  unfold atI
  rw [range_more, List.foldl_append]
  rfl
theorem atI_end {s : Kn × List Tie} {j : Nat} {here : Tie} (h : s.2[j]? = some here) : atI s j here here.length = atJ s (j + 1) := by
  unfold atI atJ
  rw [take_more h, List.foldl_append]
  rfl
/-- what holds within a round -/
structure MidOk (n : Nat) (one : Tie) (k : Nat) (here : Tie) (st : Kn × List Tie) : Prop where
  kn : KnOk n one (k + 1) st.1
  has : Sq.has st.1 here = true
  tie : here ∈ T n
theorem mid_ok {n k : Nat} {one : Tie} {s : Kn × List Tie} (h : StOk n one k s) {j : Nat} {here : Tie} (hj : s.2[j]? = some here) {i : Nat} (hi : i ≤ 2 * n) : MidOk n one k here (atI s j here i) := by
  have hm : here ∈ s.2 := List.mem_of_getElem? hj
  have h0 := h.line here hm
  have hl0 := h.kn.valLen h0
  have hT := h.kn.has h0
  have kJ : KnOk n one (k + 1) (atJ s j).1 := KnOk.foldH (s.2.take j) (st := (s.1, [])) (h.kn.mono (Nat.le_succ k)) fun t ht => h.lineOk (List.mem_of_mem_take ht)
  have gJ : Grown s.1 (atJ s j) := foldH_grown _ (Grown.start _)
  have hJ := gJ.has h0
  have vJ : (val (atJ s j).1 here).length ≤ k := by rw [gJ.val h0]; exact hl0
  exact ⟨kJ.foldP (List.range i) (fun p hp => Nat.lt_of_lt_of_le (List.mem_range.mp hp) hi) hJ vJ, foldP_ext _ hJ, hT⟩
theorem mid_len {n k : Nat} {one here : Tie} {st : Kn × List Tie} (m : MidOk n one k here st) : (val st.1 here).length ≤ k + 1 := m.kn.valLen m.has
theorem atI_later {s : Kn × List Tie} {j : Nat} {here : Tie} {i : Nat} : (atI s j here i).2.length ≤ (atI s j here i).1.length := (foldP_grown (kn0 := s.1) _ (foldH_grown _ (Grown.start _))).len
end Sq
/-! SqD6: word_between. -/
namespace SqP
open PySem PySem.Spec PyProof.Rows L2
theorem sqKey_inj {a b : List Int} (h : sqKey a = sqKey b) : a = b := by
  have := congrArg (List.map kV) h
  rw [sqKey_kV, sqKey_kV] at this
  have h2 := congrArg (List.map fun v : V => match v with | .int i => i | _ => 0) this
  rw [List.map_map, List.map_map] at h2
  have e : ((fun v : V => match v with | .int i => i | _ => 0) ∘ V.int) = (id : Int → Int) := rfl
  rw [e, List.map_id, List.map_id] at h2
  exact h2
theorem dget_v {H : Hp} {a b : Addr} {kvs : List (List Key × V)} {ns : List Int} {o : Option V} (e : H a = some (.dT kvs)) (eb : H b = some (.tup (ns.map V.int))) (h : valV kvs (sqKey ns) = o) : DGet H a (.ref b) o := by
  rw [← h]
  exact DGet.t e (by rw [sqKey_kV]; exact eb)
theorem dput_v {H : Hp} {a b : Addr} {kvs : List (List Key × V)} {ns : List Int} {v : V} (e : H a = some (.dT kvs)) (eb : H b = some (.tup (ns.map V.int))) (hl : kvs.length < sizeLine) : DPut H a (.ref b) v (upd H a (.dT (putK kvs (sqKey ns) v))) :=
  DPut.t e (by rw [sqKey_kV]; exact eb) hl
/-- the dict's pairs tell what is known: R tells a word's value -/
def KnR (R : List Int → V → Prop) : Sq.Kn → List (List Key × V) → Prop := Paired fun e kv => kv.1 = sqKey e.1 ∧ R e.2 kv.2
theorem KnR.mono {R R' : List Int → V → Prop} {kn : Sq.Kn} {kvs : List (List Key × V)} (h : KnR R kn kvs) (f : ∀ w v, R w v → R' w v) : KnR R' kn kvs := Paired.mapP h fun _ _ x => ⟨x.1, f _ _ x.2⟩
theorem KnR.app {R : List Int → V → Prop} {t : List Int} {w : List Int} {v : V} (r : R w v) : ∀ {kn : Sq.Kn} {kvs : List (List Key × V)}, KnR R kn kvs → KnR R (kn ++ [(t, w)]) (kvs ++ [(sqKey t, v)])
  | [], [], _ => .cons ⟨rfl, r⟩ .nil
  | [], _ :: _, h => by cases h
  | _ :: _, [], h => by cases h
  | _ :: _, _ :: _, .cons h1 h2 => .cons h1 (KnR.app r h2)
theorem KnR.length {R : List Int → V → Prop} {kn : Sq.Kn} {kvs : List (List Key × V)} (h : KnR R kn kvs) : kn.length = kvs.length := Paired.length h
theorem KnR.yes {R : List Int → V → Prop} {t : List Int} : ∀ {kn : Sq.Kn} {kvs : List (List Key × V)}, KnR R kn kvs → Sq.has kn t = true → ∃ v, valV kvs (sqKey t) = some v ∧ R (Sq.val kn t) v
  | [], _, _, h => by simp [Sq.has] at h
  | _ :: _, [], h, _ => by cases h
  | (u, w) :: kn, (k, v) :: kvs, .cons h1 h2, h => by
    have hk : k = sqKey u := h1.1
    by_cases c : u = t
    · subst c
      refine ⟨v, valV_pos hk, ?_⟩
      have : Sq.val ((u, w) :: kn) u = w := by simp [Sq.val]
      rw [this]
      exact h1.2
    · have c2 : ¬ (k, v).1 = sqKey t := fun z => c (sqKey_inj (hk.symm.trans z))
      have h' : Sq.has kn t = true := by simpa [Sq.has, c] using h
      obtain ⟨x, a, b⟩ := KnR.yes h2 h'
      refine ⟨x, by rw [valV_neg c2]; exact a, ?_⟩
      have : Sq.val ((u, w) :: kn) t = Sq.val kn t := by simp [Sq.val, c]
      rw [this]
      exact b
theorem KnR.no {R : List Int → V → Prop} {t : List Int} : ∀ {kn : Sq.Kn} {kvs : List (List Key × V)}, KnR R kn kvs → Sq.has kn t = false → valV kvs (sqKey t) = none
  | [], [], _, _ => rfl
  | [], _ :: _, h, _ => by cases h
  | _ :: _, [], h, _ => by cases h
  | (u, w) :: kn, (k, v) :: kvs, .cons h1 h2, h => by
    have hk : k = sqKey u := h1.1
    have hh : ¬ u = t ∧ Sq.has kn t = false := by simpa [Sq.has] using h
    have c2 : ¬ (k, v).1 = sqKey t := fun z => hh.1 (sqKey_inj (hk.symm.trans z))
    rw [valV_neg c2]
    exact KnR.no h2 hh.2
/-- the list's addresses tell ties -/
def LnR (H : Hp) : List Sq.Tie → List Addr → Prop := Paired fun t r => H r = some (.tup (t.map V.int))
theorem LnR.mono {H H' : Hp} {ls : List Sq.Tie} {rs : List Addr} (h : LnR H ls rs) (f : ∀ r xs, H r = some (.tup xs) → H' r = some (.tup xs)) : LnR H' ls rs := Paired.mapP h fun _ _ x => f _ _ x
theorem LnR.app {H : Hp} {t : Sq.Tie} {r : Addr} (h0 : H r = some (.tup (t.map V.int))) : ∀ {ls : List Sq.Tie} {rs : List Addr}, LnR H ls rs → LnR H (ls ++ [t]) (rs ++ [r])
  | [], [], _ => .cons h0 .nil
  | [], _ :: _, h => by cases h
  | _ :: _, [], h => by cases h
  | _ :: _, _ :: _, .cons h1 h2 => .cons h1 (LnR.app h0 h2)
theorem LnR.length {H : Hp} {ls : List Sq.Tie} {rs : List Addr} (h : LnR H ls rs) : ls.length = rs.length := Paired.length h
theorem LnR.get {H : Hp} : ∀ {ls : List Sq.Tie} {rs : List Addr} {j : Nat} {r : Addr}, LnR H ls rs → rs[j]? = some r → ∃ t, ls[j]? = some t ∧ H r = some (.tup (t.map V.int))
  | [], [], _, _, _, h => by simp at h
  | [], _ :: _, _, _, h, _ => by cases h
  | _ :: _, [], _, _, h, _ => by cases h
  | t :: _, _ :: _, 0, r, .cons h1 _, h => by
    simp at h
    subst h
    exact ⟨t, rfl, h1⟩
  | _ :: ls, _ :: rs, j + 1, r, .cons _ h2, h => by
    obtain ⟨t, a, b⟩ := LnR.get (j := j) h2 (by simpa using h)
    exact ⟨t, by simpa using a, b⟩
/-- what stands in the heap between two turns of the searches: what stood at the entry, the dict, the line, the next line -/
structure Srch (R : Hp → List Int → V → Prop) (H H' : Hp) (d l lt : Addr) (rs : List Addr) (s st : Sq.Kn × List Sq.Tie) : Prop where
  same : Same H H'
  dn : H d = none
  ln : H l = none
  ltn : H lt = none
  ne : l ≠ lt
  dict : ∃ kvs, H' d = some (.dT kvs) ∧ KnR (R H') st.1 kvs
  line : H' l = some (.lst (rs.map V.ref)) ∧ LnR H' s.2 rs
  later : ∃ rs : List Addr, H' lt = some (.lst (rs.map V.ref)) ∧ LnR H' st.2 rs
/-- a word's value stays when tuples stay -/
def Keeps (R : Hp → List Int → V → Prop) : Prop := ∀ H H' : Hp, (∀ r xs, H r = some (.tup xs) → H' r = some (.tup xs)) → ∀ w v, R H w v → R H' w v
theorem Srch.ext {R : Hp → List Int → V → Prop} {H H' H2 : Hp} {d l lt : Addr} {ls : List Addr} {s st : Sq.Kn × List Sq.Tie} (kR : Keeps R) (h : Srch R H H' d l lt ls s st) (e : Same H' H2) : Srch R H H2 d l lt ls s st := by
  have ht : ∀ r xs, H' r = some (.tup xs) → H2 r = some (.tup xs) := fun r xs q => e _ _ q
  obtain ⟨kvs, d1, d2⟩ := h.dict
  obtain ⟨l1, l2⟩ := h.line
  obtain ⟨rs', t1, t2⟩ := h.later
  exact ⟨h.same.trans e, h.dn, h.ln, h.ltn, h.ne, ⟨kvs, e _ _ d1, d2.mono (kR _ _ ht)⟩, ⟨e _ _ l1, l2.mono ht⟩, ⟨rs', e _ _ t1, t2.mono ht⟩⟩
/-- a new tie is put into both -/
theorem Srch.put {R : Hp → List Int → V → Prop} {H H' : Hp} {d l lt b : Addr} {s st : Sq.Kn × List Sq.Tie} {t w : List Int} {v : V} {kvs : List (List Key × V)} {ls rs : List Addr} (kR : Keeps R) (h : Srch R H H' d l lt ls s st)
    (hd : H' d = some (.dT kvs)) (hk : KnR (R H') st.1 kvs) (hl : H' lt = some (.lst (rs.map V.ref))) (hr : LnR H' st.2 rs) (hn : Sq.has st.1 t = false) (hb : H' b = some (.tup (t.map V.int))) (hv : R H' w v) :
    Srch R H (upd (upd H' d (.dT (putK kvs (sqKey t) v))) lt (.lst (rs.map V.ref ++ [V.ref b]))) d l lt ls s (st.1 ++ [(t, w)], st.2 ++ [t]) := by
  have ndl : d ≠ lt := ne_of hd hl (fun z => nomatch z)
  have ht : ∀ r xs, H' r = some (.tup xs) → upd (upd H' d (.dT (putK kvs (sqKey t) v))) lt (.lst (rs.map V.ref ++ [V.ref b])) r = some (.tup xs) := fun r xs q => by
    rw [upd_ne (ne_of q hl (fun z => nomatch z)), upd_ne (ne_of q hd (fun z => nomatch z))]
    exact q
  obtain ⟨l1, l2⟩ := h.line
  have nld : l ≠ d := ne_of l1 hd (fun z => nomatch z)
  refine ⟨fun c u q => ?_, h.dn, h.ln, h.ltn, h.ne, ⟨_, by rw [upd_ne ndl, upd_same], ?_⟩, ⟨by rw [upd_ne h.ne, upd_ne nld]; exact l1, l2.mono ht⟩, ⟨rs ++ [b], by rw [upd_same, List.map_append]; rfl, (hr.mono ht).app (ht _ _ hb)⟩⟩
  · rw [upd_ne (ne_of_none q h.ltn), upd_ne (ne_of_none q h.dn)]
    exact h.same c u q
  · have q := KnR.app (t := t) (kR _ _ ht _ _ hv) (hk.mono (kR _ _ ht))
    rw [← putK_new v (hk.no hn)] at q
    exact q
/-- the program's words -/
def RWord (H : Hp) (w : List Int) (v : V) : Prop := ∃ r : Addr, v = .ref r ∧ H r = some (.tup (w.map V.int))
theorem keepsWord : Keeps RWord := fun H H' h w v ⟨r, e, q⟩ => ⟨r, e, h _ _ q⟩
/-- known[here] + (place,) -/
theorem cat_word {K : PySem.W.Frag} {H4 : Hp} {r q : Addr} {w : List Int} {i : Int} {Qc : VK} (hr : H4 r = some (.tup (w.map V.int))) (hq : H4 q = none) (hw : w.length ≤ 1000)
    (k : ∀ H5 c, Same H4 H5 → H5 c = some (.tup ((w ++ [i]).map V.int)) → Qc (.ref c) H5) : rCatA K (.ref r) (.ref q) (upd H4 q (.tup [.int i])) Qc := by
  have s1 : Same H4 (upd H4 q (.tup [.int i])) := same_new (.refl _) hq
  refine ⟨r, q, _, _, rfl, rfl, .of (upd_keep hr hq), .of upd_same, ?_, fun c => ?_, fun _ c => ?_, fun _ _ p hp => ?_⟩
  · rw [List.length_map, sizeLine_eq]
    show w.length + 1 ≤ 16777216
    omega
  · refine k _ q s1 ?_
    have : w = [] := by
      cases w with
      | nil => rfl
      | cons _ _ => cases c
    subst this
    exact upd_same
  · cases c
  · refine k _ p (same_new s1 hp) ?_
    rw [upd_same, List.map_append]
    rfl
section
variable {P : Program} {w : World} {K : PySem.W.Frag} {mg : Str → Option Value} {base : Heap}
def spBetw : Sp := fun vs H Q _ => ∃ (a b : Addr) (n : Nat) (one other : List Int), vs = [.ref a, .ref b] ∧ H a = some (.tup (one.map V.int)) ∧ H b = some (.tup (other.map V.int)) ∧ one ∈ Sq.T n ∧ other ∈ Sq.T n ∧
  ∀ H' r, Same H H' → H' r = some (.tup ((Sq.word one other).map V.int)) → Q (.ref r) H'
theorem scBetw : FnScope ["one", "other", "known", "line", "later", "here", "place", "there"] ["one", "other"] (defScope sBetw) := ⟨rfl, rfl, rfl, by decide +kernel, rfl, by decide +kernel, by decide +kernel⟩
theorem small42 {n : Nat} (h : n ≤ 42) : n < sizeLine := by rw [sizeLine_eq]; omega
theorem ok_betw {f fS : Addr} {fd fdS : FuncData} (F : Fun K "word_between" "word_between" sBetw f fd) (B : Bi mg)
    (GS : FnOk P w K mg base CX0 1 fS fdS ["ties", "place"] spStir) (gS : mg "stir_at" = some (.ref fS)) (kS : PySem.W.keepIn K (.ref fS) = true) (bS : Binds K fdS ["ties", "place"] []) : FnOk P w K mg base CX0 2 f fd ["one", "other"] spBetw := by
  refine F.ok scBetw (fun vs H Q E h => ?_) (fun cdv A outer s H vs Q E hr h => ?_)
  · obtain ⟨a, b, n, one, other, rfl, _⟩ := h
    rfl
  · obtain ⟨a, b, n, one, other, rfl, hA, hB, h1, h2, k⟩ := h
    have hu := hu_of hr
    refine ⟨_, pss_cons (ps_par (i := 2) (j := 3) (by rfl) scBetw.nd rfl rfl (by decide) rfl rfl (pa_cons (sq_pe_disp1 hr.units0 (pv 0) (pe_tup pa_nil)) (pa_cons (pe_lst (pa_cons (pv 0) pa_nil)) pa_nil)) (by rfl))
      (pss_cons (ps_while PassesOwn.never (pt_cmp (pc_dnotin hu (pv 1) (pv 2)))
        (pss_cons (ps_set (i := 4) scBetw.nd rfl (.inl rfl) (pe_lst pa_nil))
        (pss_cons (ps_for PassesOwn.never rfl (pi_list (pv 3)) (pg_name (i := 5) scBetw.nd rfl (.inl rfl))
          (pss_one (ps_for PassesOwn.never rfl (pi_range1 (by rfl) B.range (pa_cons (pe_callB (call_lenK (K := K) rfl) (by rfl) B.len PySem.boot_len (pa_cons (pv 5) pa_nil)) pa_nil)) (pg_name (i := 6) scBetw.nd rfl (.inl rfl))
            (pss_cons (ps_set (i := 7) scBetw.nd rfl (.inl rfl) (pe_call GS hr (by rfl) gS kS bS .nil pass0 (pa_cons (pv 5) (pa_cons (pv 6) pa_nil))))
            (pss_one (ps_if (pt_cmp (pc_dnotin hu (pv 7) (pv 2)))
              (pss_cons (ps_dput hu (pv 2) (pv 7) (pe_op op_catA (pe_dget hu (pv 2) (pv 5) (fun _ _ => rfl)) (pe_tup (pa_cons (pv 6) pa_nil))) rfl)
              (pss_one (ps_expr (pe_bm PySem.F.plainAttrs_list PySem.F.slot_list_append PySem.F.type_list_append mt_append (pv 4) (pa_cons (pv 7) pa_nil))))) pss_nil))))))
        (pss_one (ps_set (i := 3) scBetw.nd rfl (.inl rfl) (pv 4))))))
      (pss_one (ps_ret (pe_dget hu (pv 2) (pv 1) (fun _ _ => rfl))))), ?_⟩
    intro d hd
    refine ⟨_, rfl, Nat.zero_le _, fun e he => ?_⟩
    have hA1 := upd_keep (u := HO.tup []) (upd_keep (u := HO.dT []) hA hd) he
    have hd1 := upd_keep (u := HO.tup []) (upd_same (H := H) (a := d) (o := HO.dT [])) he
    refine ⟨a, sqKey one, rfl, by rw [sqKey_kV]; exact hA1, hd1, ?_⟩
    have ned : e ≠ d := ne_of (upd_same (H := upd H d (HO.dT [])) (a := e) (o := HO.tup [])) hd1 (fun z => nomatch z)
    refine ⟨_, rfl, (by show 1 ≤ sizeLine; decide), fun l hl => ⟨_, _, rfl, ?_⟩⟩
    have s0 : Same H (upd (upd (upd H d (.dT [])) e (.tup [])) d (.dT [(sqKey one, V.ref e)])) := same_mut (same_new (same_new (.refl _) hd) he) hd
    have hln : H l = none := s0.free hl
    refine ⟨fun m σ H' => ∃ (kk : Nat) (l : Addr) (rs : List Addr) (v4 v5 v6 v7 : Option V), m = 60 - kk ∧ kk ≤ 60 ∧ σ = [some (.ref a), some (.ref b), some (.ref d), some (.ref l), v4, v5, v6, v7] ∧ Same H H' ∧ H l = none ∧
      (∃ kvs, H' d = some (.dT kvs) ∧ KnR (RWord H') (Sq.iter Sq.stirAt one kk).1 kvs) ∧ H' l = some (.lst (rs.map V.ref)) ∧ LnR H' (Sq.iter Sq.stirAt one kk).2 rs, ⟨60, 0, l, [a], none, none, none, none, rfl, Nat.zero_le _, rfl, same_new s0 hl, hln, ⟨_, upd_keep upd_same hl, .cons ⟨rfl, e, rfl, ?_⟩ .nil⟩, upd_same, .cons ?_ .nil⟩, ?_⟩
    · refine upd_keep ?_ hl
      rw [upd_ne ned]
      exact upd_same
    · refine upd_keep ?_ hl
      rw [upd_ne (ne_of_none hA hd)]
      exact hA1
    rintro m σ H1 ⟨kk, l, rs, v4, v5, v6, v7, rfl, hk60, rfl, s1, ln, ⟨kvs, hd1, hk1⟩, hl1, hr1⟩
    have ok := Sq.iter_ok h1 kk
    cases hh : Sq.has (Sq.iter Sq.stirAt one kk).1 other with
    | true =>
      obtain ⟨v, ev, r, rfl, hr⟩ := hk1.yes hh
      refine ⟨_, rfl, _, rfl, d, _, rfl, dget_v hd1 (s1 _ _ hB) ev, _, rfl, ?_⟩
      refine iteF ?_
      refine ⟨_, rfl, _, rfl, d, _, rfl, dget_v hd1 (s1 _ _ hB) ev, k _ r s1 ?_⟩
      rw [Sq.word_at h1 hk60 hh] at hr
      exact hr
    | false =>
      refine ⟨_, rfl, _, rfl, d, _, rfl, dget_v hd1 (s1 _ _ hB) (hk1.no hh), _, rfl, ?_⟩
      refine iteT ?_
      have hk60' : kk < 60 := by
        rcases Nat.lt_or_ge kk 60 with c | c
        · exact c
        · have : kk = 60 := by omega
          subst this
          rw [Sq.all_found h1 h2] at hh
          cases hh
      refine ⟨fun σ' H' => ∃ m', m' < 60 - kk ∧ ∃ (kk : Nat) (l : Addr) (rs : List Addr) (v4 v5 v6 v7 : Option V), m' = 60 - kk ∧ kk ≤ 60 ∧ σ' = [some (.ref a), some (.ref b), some (.ref d), some (.ref l), v4, v5, v6, v7] ∧ Same H H' ∧ H l = none ∧
        (∃ kvs, H' d = some (.dT kvs) ∧ KnR (RWord H') (Sq.iter Sq.stirAt one kk).1 kvs) ∧ H' l = some (.lst (rs.map V.ref)) ∧ LnR H' (Sq.iter Sq.stirAt one kk).2 rs, fun _ _ z => z, ?_⟩
      refine ⟨Nat.zero_le _, fun lt hlt => ?_⟩
      have ltn : H lt = none := s1.free hlt
      have ht1 : ∀ r xs, H1 r = some (.tup xs) → upd H1 lt (.lst []) r = some (.tup xs) := fun r xs q => upd_keep q hlt
      have nell : l ≠ lt := ne_of_none hl1 hlt
      have S0 : Srch RWord H (upd H1 lt (.lst [])) d l lt rs (Sq.iter Sq.stirAt one kk) (Sq.atJ (Sq.iter Sq.stirAt one kk) 0) :=
        ⟨same_new s1 hlt, hd, ln, ltn, nell, ⟨kvs, upd_keep hd1 hlt, hk1.mono (keepsWord _ _ ht1)⟩, ⟨upd_keep hl1 hlt, hr1.mono ht1⟩, ⟨[], upd_same, .nil⟩⟩
      refine ⟨_, rfl, l, rfl, ⟨_, .of (upd_keep hl1 hlt)⟩, for_list (K := K) (a := l) (xs := rs.map V.ref) (fun j σ H' => ∃ (v5 v6 v7 : Option V), σ = [some (.ref a), some (.ref b), some (.ref d), some (.ref l), some (.ref lt), v5, v6, v7] ∧ Srch RWord H H' d l lt rs (Sq.iter Sq.stirAt one kk) (Sq.atJ (Sq.iter Sq.stirAt one kk) j))
        ⟨v5, v6, v7, rfl, S0⟩ (fun j σ H' _ ⟨_, _, _, _, S⟩ => .of S.line.1) ?_ ?_⟩
      · rintro j x σ H2 hj ⟨v5, v6, v7, rfl, S⟩
        obtain ⟨r, hrj, rfl⟩ : ∃ r, rs[j]? = some r ∧ x = V.ref r := by
          rw [List.getElem?_map] at hj
          cases e : rs[j]? with
          | none => rw [e] at hj; cases hj
          | some r => rw [e] at hj; exact ⟨r, rfl, (Option.some.inj hj).symm⟩
        obtain ⟨here, hhere, hr2⟩ := S.line.2.get hrj
        have hT : here ∈ Sq.T n := ok.kn.has (ok.line here (List.mem_of_getElem? hhere))
        have hlen : here.length = 2 * n := (Sq.T_shape hT).1
        have e0 : (((here.map V.int).length : Nat) : Int).toNat = here.length := by simp
        have hn6 := Sq.T_lt hT
        refine ⟨_, rfl, r, _, rfl, .inr (.of hr2), _, rfl, by simp only [List.length_map]; omega, by simp only [List.length_map]; omega, ?_⟩
        rw [e0]
        refine for_range (lo := 0) (n := here.length) (fun i σ H' => ∃ (v6 v7 : Option V), σ = [some (.ref a), some (.ref b), some (.ref d), some (.ref l), some (.ref lt), some (.ref r), v6, v7] ∧ Srch RWord H H' d l lt rs (Sq.iter Sq.stirAt one kk) (Sq.atI (Sq.iter Sq.stirAt one kk) j here i) ∧ H' r = some (.tup (here.map V.int)))
          ⟨v6, v7, rfl, S, hr2⟩ ?_ ?_
        · rintro i σ H3 hi ⟨v6, v7, rfl, S3, hr3⟩
          have mid := Sq.mid_ok ok hhere (i := i) (by omega)
          refine ⟨_, rfl, _, rfl, r, here, i, ?_, hr3, shp_T hT, hi, fun H4 c s4 hc => ?_⟩
          · show [V.ref r, V.int (0 + (i : Int))] ++ [] = [V.ref r, V.int (i : Int)]
            rw [Int.zero_add]
            rfl
          · have S4 := S3.ext keepsWord s4
            obtain ⟨kvs4, hd4, hk4⟩ := S4.dict
            obtain ⟨rs4, hlt4, hr4⟩ := S4.later
            have hx := Sq.atI_succ (Sq.iter Sq.stirAt one kk) j here i
            unfold Sq.stepP at hx
            cases hs : Sq.has (Sq.atI (Sq.iter Sq.stirAt one kk) j here i).1 (Sq.stirAt here i) with
            | true =>
              obtain ⟨v, ev, _⟩ := hk4.yes hs
              refine ⟨_, rfl, _, rfl, d, _, rfl, dget_v hd4 hc ev, _, rfl, ?_⟩
              refine iteF ?_
              rw [if_pos hs] at hx
              exact ⟨_, _, rfl, by rw [hx]; exact S4, s4 _ _ hr3⟩
            | false =>
              refine ⟨_, rfl, _, rfl, d, _, rfl, dget_v hd4 hc (hk4.no hs), _, rfl, ?_⟩
              refine iteT ?_
              rw [if_neg (by rw [hs]; decide)] at hx
              obtain ⟨v, ev, rw', rfl, hrw⟩ := hk4.yes mid.has
              have hz : kvs4.length ≤ 42 := by rw [← hk4.length]; exact mid.kn.size
              have hw := Sq.mid_len mid
              refine ⟨_, rfl, _, rfl, d, _, rfl, dget_v hd4 (s4 _ _ hr3) ev, ?_⟩
              refine ⟨_, rfl, (by show 1 ≤ sizeLine; decide), fun q hq => ?_⟩
              refine cat_word hrw hq (by omega) fun H5 w5 s5 hw5 => ?_
              rw [Int.zero_add] at hw5
              have S5 := S4.ext keepsWord s5
              have ht5 : ∀ r xs, H4 r = some (.tup xs) → H5 r = some (.tup xs) := fun r xs q => s5 _ _ q
              have hd5 := s5 _ _ hd4
              have hlt5 := s5 _ _ hlt4
              have hk5 : KnR (RWord H5) (Sq.atI (Sq.iter Sq.stirAt one kk) j here i).1 kvs4 := hk4.mono (keepsWord _ _ ht5)
              have ndl : lt ≠ d := ne_of hlt5 hd5 (fun z => nomatch z)
              have hz2 : rs4.length ≤ 42 := by
                rw [← hr4.length]
                exact Nat.le_trans Sq.atI_later mid.kn.size
              refine ⟨_, rfl, _, rfl, d, _, rfl, dput_v hd5 (s5 _ _ hc) (small42 hz), ?_⟩
              refine ⟨_, rfl, .inl ⟨rfl, _, .of (by rw [upd_ne ndl]; exact hlt5)⟩, _, rfl, lt, _, _, rfl, rfl, by rw [upd_ne ndl]; exact hlt5, by rw [List.length_map]; exact small42 hz2, ?_⟩
              refine ⟨_, _, rfl, ?_, ?_⟩
              · rw [hx]
                exact S5.put keepsWord hd5 hk5 hlt5 (hr4.mono ht5) hs (s5 _ _ hc) ⟨w5, rfl, hw5⟩
              · have hr5 := s5 _ _ (s4 _ _ hr3)
                rw [upd_ne (ne_of hr5 hlt5 (fun z => nomatch z)), upd_ne (ne_of hr5 hd5 (fun z => nomatch z))]
                exact hr5
        · rintro σ H3 ⟨v6, v7, rfl, S3, hr3⟩
          rw [Sq.atI_end hhere] at S3
          exact ⟨_, _, _, rfl, S3⟩
      · rintro σ H2 ⟨v5, v6, v7, rfl, S⟩
        have el : (rs.map V.ref).length = (Sq.iter Sq.stirAt one kk).2.length := by rw [List.length_map]; exact (S.line.2.length).symm
        rw [el, Sq.atJ_end] at S
        obtain ⟨rs', t1, t2⟩ := S.later
        exact ⟨_, rfl, 60 - (kk + 1), by omega, kk + 1, lt, rs', _, _, _, _, rfl, hk60', rfl, S.same, S.ltn, S.dict, t1, t2⟩
end
end SqP
/-! SqD7: ties_with. -/
namespace SqP
open PySem PySem.Spec PyProof.Rows L2
/-- tuples of two numbers each -/
def PrsAt (H : Hp) : List (Int × Int) → List Addr → Prop := Paired fun p q => H q = some (.tup [.int p.1, .int p.2])
theorem PrsAt.same {H H' : Hp} {ps : List (Int × Int)} {qs : List Addr} (h : PrsAt H ps qs) (s : Same H H') : PrsAt H' ps qs := Paired.mapP h fun _ _ x => s _ _ x
theorem PrsAt.get {H : Hp} : ∀ {ps : List (Int × Int)} {qs : List Addr} {j : Nat} {q : Addr}, PrsAt H ps qs → qs[j]? = some q → ∃ p, ps[j]? = some p ∧ H q = some (.tup [.int p.1, .int p.2])
  | [], [], _, _, _, h => by simp at h
  | [], _ :: _, _, _, h, _ => by cases h
  | _ :: _, [], _, _, h, _ => by cases h
  | t :: _, _ :: _, 0, r, .cons h1 _, h => by
    simp at h
    subst h
    exact ⟨t, rfl, h1⟩
  | _ :: ls, _ :: rs, j + 1, r, .cons _ h2, h => by
    obtain ⟨t, a, b⟩ := PrsAt.get (j := j) h2 (by simpa using h)
    exact ⟨t, by simpa using a, b⟩
theorem PrsAt.app {H : Hp} : ∀ {ps ps' : List (Int × Int)} {qs qs' : List Addr}, PrsAt H ps qs → PrsAt H ps' qs' → PrsAt H (ps ++ ps') (qs ++ qs')
  | [], _, [], _, _, h => h
  | [], _, _ :: _, _, h, _ => by cases h
  | _ :: _, _, [], _, h, _ => by cases h
  | _ :: _, _, _ :: _, _, .cons h1 h2, h => .cons h1 (PrsAt.app h2 h)
theorem get_ref {rs : List Addr} {j : Nat} {v : V} (h : (rs.map V.ref)[j]? = some v) : ∃ r, rs[j]? = some r ∧ v = .ref r := by
  rw [List.getElem?_map] at h
  cases e : rs[j]? with
  | none => rw [e] at h; cases h
  | some x => rw [e] at h; exact ⟨x, rfl, (Option.some.inj h).symm⟩
theorem look_more (ps : List (Int × Int)) (q : Int × Int) (i : Int) : Sq.look (ps ++ [q]) i = if i = q.2 then some q.1 else if i = q.1 then some q.2 else Sq.look ps i := by
  unfold Sq.look
  rw [List.foldl_append]
  rfl
section
variable {P : Program} {w : World} {K : PySem.W.Frag} {mg : Str → Option Value} {base : Heap}
def spWith : Sp := fun vs H Q _ => ∃ (a : Addr) (ps : List (Int × Int)) (qs : List Addr) (n : Nat), vs = [.ref a, .int (n : Int)] ∧ H a = some (.tup (qs.map V.ref)) ∧ PrsAt H ps qs ∧ ps.length ≤ 100 ∧ n ≤ 100 ∧ (∀ i : Nat, i < n → (Sq.look ps (i : Int)).isSome = true) ∧
  ∀ H' r, Same H H' → H' r = some (.tup ((Sq.tiesWith ps n).map V.int)) → Q (.ref r) H'
theorem scWith : FnScope ["pairs", "size", "found", "one", "other", "place"] ["pairs", "size"] (defScope sWith) := ⟨rfl, rfl, rfl, by decide +kernel, rfl, by decide +kernel, by decide +kernel⟩
theorem ok_with {f : Addr} {fd : FuncData} (F : Fun K "ties_with" "ties_with" sWith f fd) (B : Bi mg) : FnOk P w K mg base CX0 1 f fd ["pairs", "size"] spWith := by
  refine F.ok scWith (fun vs H Q E h => ?_) (fun cdv A outer s H vs Q E hr h => ?_)
  · obtain ⟨a, ps, qs, n, rfl, _⟩ := h
    rfl
  · obtain ⟨a, ps, qs, n, rfl, hA, hP, hl, hn, hs, k⟩ := h
    have hu := hu_of hr
    refine ⟨_, pss_cons (ps_set (i := 2) scWith.nd rfl (.inr rfl) pe_dnewK)
      (pss_cons (ps_for PassesOwn.never rfl (pi_tup (pv 0)) (pg_tup rfl (pgs_cons (pg_name (i := 3) scWith.nd rfl (.inl rfl)) (pgs_cons (pg_name (i := 4) scWith.nd rfl (.inl rfl)) pgs_nil)))
        (pss_cons (ps_dput hu (pv 2) (pv 3) (pv 4) rfl) (pss_one (ps_dput hu (pv 2) (pv 4) (pv 3) rfl))))
      (pss_one (ps_ret (pe_callTy call_tuple_of (by rfl) B.tuple (by decide +kernel) (pa_cons (pe_lc (own := [("place", 5)]) (g := gName 5) (tt := tYes) rfl scWith.nd (pi_range1 (by rfl) B.range (pa_cons (pv 1) pa_nil)) (blkOk_by (N := ["pairs", "size", "found", "one", "other", "place"]) (sc := defScope sWith) (by decide +kernel))
          (fun _ _ _ _ _ => pg_name (i := 5) scWith.nd rfl (.inl rfl)) (fun _ _ _ _ _ => pts_nil)
          (fun _ _ _ _ _ => pe_dget hu (pv 2) (pv 5) (fun _ _ => rfl))) pa_nil))))), ?_⟩
    intro d hd
    refine ⟨_, rfl, a, rfl, ⟨_, .of (upd_keep hA hd)⟩, for_tup (K := K) (a := a) (xs := qs.map V.ref) (fun j σ H' => ∃ (v3 v4 : Option V) (kvs : List (Key × V)), σ = [some (.ref a), some (.int (n : Int)), some (.ref d), v3, v4, none] ∧ Same H H' ∧ H' d = some (.dK kvs) ∧ kvs.length ≤ 2 * j ∧
      ∀ i : Int, valV kvs (Sum.inl i) = (Sq.look (ps.take j) i).map V.int) ⟨none, none, [], rfl, same_new (.refl _) hd, upd_same, Nat.zero_le _, fun i => rfl⟩ (fun i σ H' _ ⟨_, _, _, _, s5, _⟩ => .of (s5 _ _ hA)) ?_ ?_⟩
    · rintro j x σ H1 hj ⟨v3, v4, kvs, rfl, s5, hd1, hk, hv⟩
      obtain ⟨q, hq, rfl⟩ := get_ref hj
      obtain ⟨p, hp, hH⟩ := hP.get hq
      have hjl : j < ps.length := (List.getElem?_eq_some_iff.mp hp).1
      refine ⟨q, _, rfl, .of (s5 _ _ hH), rfl, _, _, rfl, _, _, rfl, rfl, ?_⟩
      refine ⟨_, rfl, _, rfl, _, rfl, d, _, rfl, DPut.k (k := Sum.inl p.1) hd1 (by rw [sizeLine_eq]; omega), ?_⟩
      have l1 := length_putK kvs (Sum.inl p.1) (V.int p.2)
      refine ⟨_, rfl, _, rfl, _, rfl, d, _, rfl, DPut.k (k := Sum.inl p.2) upd_same (by rw [sizeLine_eq]; omega), ?_⟩
      have l2 := length_putK (putK kvs (Sum.inl p.1) (V.int p.2)) (Sum.inl p.2) (V.int p.1)
      refine ⟨_, _, _, rfl, same_mut (same_mut s5 hd) hd, upd_same, by omega, fun i => ?_⟩
      rw [valV_put, valV_put, Sq.take_more hp, look_more, hv i]
      by_cases c : i = p.2
      · subst c
        rw [if_pos rfl, if_pos rfl]
        rfl
      · rw [if_neg (fun z => c (Sum.inl.inj z)), if_neg c]
        by_cases c2 : i = p.1
        · subst c2
          rw [if_pos rfl, if_pos rfl]
          rfl
        · rw [if_neg (fun z => c2 (Sum.inl.inj z)), if_neg c2]
    · rintro σ H1 ⟨v3, v4, kvs, rfl, s5, hd1, hk, hv⟩
      have hlen : qs.length = ps.length := (Paired.length hP).symm
      rw [List.length_map, hlen, List.take_length] at hv
      refine ⟨_, rfl, _, rfl, by omega, by omega, fun D hD => ?_⟩
      have hDn := s5.free hD
      have en : ((n : Nat) : Int).toNat = n := by simp
      rw [en]
      refine lc_range (lo := 0) (n := n) (fun i H' => Same H H' ∧ H' d = some (.dK kvs) ∧ H' D = some (.lst ((List.range i).map fun (m : Nat) => V.int ((Sq.look ps (m : Int)).getD 0)))) ⟨same_new s5 hD, upd_keep hd1 hD, upd_same⟩ ?_ ?_
      · rintro i H2 hi ⟨s6, hd2, hD2⟩
        have hsi := hs i hi
        obtain ⟨y, hy⟩ := Option.isSome_iff_exists.mp hsi
        refine ⟨rfl, ?_⟩
        refine ⟨_, rfl, _, rfl, d, V.int y, rfl, ?_, ?_⟩
        · have e : valV kvs (Sum.inl (i : Int)) = some (V.int y) := by rw [hv, hy]; rfl
          rw [← e]
          have := DGet.k (k := Sum.inl (0 + (i : Int))) hd2
          rw [Int.zero_add] at this ⊢
          exact this
        · refine ⟨_, hD2, by rw [List.length_map, List.length_range, sizeLine_eq]; omega, same_mut s6 hDn, ?_, ?_⟩
          · rw [upd_ne (ne_of hd2 hD2 (fun z => nomatch z))]
            exact hd2
          · rw [upd_same, Sq.range_more, List.map_append]
            show _ = some (HO.lst (_ ++ [V.int ((Sq.look ps (i : Int)).getD 0)]))
            rw [hy]
            rfl
      · rintro H2 ⟨s6, hd2, hD2⟩
        refine ⟨D, _, rfl, .inl ⟨.of hD2, fun r hr => k _ r (same_new s6 hr) ?_⟩⟩
        rw [upd_same]
        unfold Sq.tiesWith
        rw [List.map_map]
        rfl
end
end SqP
/-! Sq3: how many and how long tiesFrom's answers are. -/
namespace Sq
theorem from_few_all : ((List.range 11).all fun k => (List.range 11).all fun f => (List.range 11).all fun l => decide ((l : Int) - 1 - (f : Int) + 1 > (k : Int)) || decide ((tiesFrom k (f : Int) ((l : Int) - 1)).length ≤ 42)) = true := by decide +kernel
theorem from_few {k : Nat} {first last : Int} (hk : k ≤ 10) (h0 : 0 ≤ first) (h1 : first ≤ 10) (h2 : -1 ≤ last) (h3 : last ≤ 9) (h : last - first + 1 ≤ (k : Int)) : (tiesFrom k first last).length ≤ 42 := by
  have a := List.all_eq_true.mp from_few_all k (List.mem_range.mpr (by omega))
  have b := List.all_eq_true.mp a first.toNat (List.mem_range.mpr (by omega))
  have c := List.all_eq_true.mp b (last + 1).toNat (List.mem_range.mpr (by omega))
  have e1 : ((first.toNat : Nat) : Int) = first := by omega
  have e2 : (((last + 1).toNat : Nat) : Int) - 1 = last := by omega
  rw [e1, e2] at c
  simp only [Bool.or_eq_true, decide_eq_true_eq] at c
  rcases c with c | c
  · omega
  · exact c
theorem from_short : ∀ (k : Nat) (first last : Int), ∀ ps ∈ tiesFrom k first last, ps.length + 1 ≤ 2 ^ k
  | 0, _, _, ps, h => by
    have : ps = [] := by simpa [tiesFrom] using h
    subst this
    exact Nat.le_refl _
  | k + 1, first, last, ps, h => by
    unfold tiesFrom at h
    split at h
    · have : ps = [] := by simpa using h
      subst this
      exact Nat.one_le_two_pow
    · obtain ⟨other, _, h⟩ := List.mem_flatMap.mp h
      obtain ⟨inner, hi, h⟩ := List.mem_flatMap.mp h
      obtain ⟨rest, hr, rfl⟩ := List.mem_map.mp h
      have a := from_short k _ _ inner hi
      have b := from_short k _ _ rest hr
      rw [List.length_cons, List.length_append, Nat.pow_succ]
      omega
/-- what one other, one inner gives -/
def fromH (k : Nat) (first last other : Int) (inner : List (Int × Int)) : List (List (Int × Int)) := (tiesFrom k (other + 1) last).map fun rest => (first, other) :: (inner ++ rest)
def fromG (k : Nat) (first last other : Int) : List (List (Int × Int)) := (tiesFrom k (first + 1) (other - 1)).flatMap (fromH k first last other)
theorem from_succ {k : Nat} {first last : Int} (h : ¬ first > last) : tiesFrom (k + 1) first last = (others first last).flatMap (fromG k first last) := by
  have : tiesFrom (k + 1) first last = if first > last then [[]] else (others first last).flatMap (fromG k first last) := rfl
  rw [this, if_neg h]
theorem from_none {k : Nat} {first last : Int} (h : first > last) : tiesFrom (k + 1) first last = [[]] := by
  have : tiesFrom (k + 1) first last = if first > last then [[]] else (others first last).flatMap (fromG k first last) := rfl
  rw [this, if_pos h]
theorem flat_take {α β : Type} (f : α → List β) (l : List α) (i : Nat) : ((l.take i).flatMap f).length ≤ (l.flatMap f).length := by
  have e : l.flatMap f = (l.take i).flatMap f ++ (l.drop i).flatMap f := by
    rw [← List.flatMap_append, List.take_append_drop]
  rw [e, List.length_append]
  omega
theorem flat_more {α β : Type} (f : α → List β) {l : List α} {i : Nat} {x : α} (h : l[i]? = some x) : (l.take (i + 1)).flatMap f = (l.take i).flatMap f ++ f x := by
  rw [take_more h, List.flatMap_append]
  simp
theorem others_len (first last : Int) : (others first last).length = ((last - first + 1) / 2).toNat := by
  unfold others
  rw [List.length_map, List.length_range]
theorem others_get {first last : Int} {i : Nat} (h : i < ((last - first + 1) / 2).toNat) : (others first last)[i]? = some (first + 1 + (i : Int) * 2) := by
  unfold others
  rw [List.getElem?_map, List.getElem?_range h]
  rfl
end Sq
/-! SqD8: ties_from. -/
namespace SqP
open PySem PySem.Spec PyProof.Rows L2
/-- tuples of pairs -/
def TPs (H : Hp) : List (List (Int × Int)) → List Addr → Prop := Paired fun ps r => ∃ qs : List Addr, H r = some (.tup (qs.map V.ref)) ∧ PrsAt H ps qs
theorem TPs.same {H H' : Hp} {pss : List (List (Int × Int))} {rs : List Addr} (h : TPs H pss rs) (s : Same H H') : TPs H' pss rs := Paired.mapP h fun _ _ ⟨qs, a, b⟩ => ⟨qs, s _ _ a, b.same s⟩
theorem PrsAt.tups {H H' : Hp} {ps : List (Int × Int)} {qs : List Addr} (h : PrsAt H ps qs) (k : ∀ r xs, H r = some (.tup xs) → H' r = some (.tup xs)) : PrsAt H' ps qs := Paired.mapP h fun _ _ x => k _ _ x
theorem TPs.tups {H H' : Hp} {pss : List (List (Int × Int))} {rs : List Addr} (h : TPs H pss rs) (k : ∀ r xs, H r = some (.tup xs) → H' r = some (.tup xs)) : TPs H' pss rs := Paired.mapP h fun _ _ ⟨qs, a, b⟩ => ⟨qs, k _ _ a, b.tups k⟩
theorem TPs.length {H : Hp} {pss : List (List (Int × Int))} {rs : List Addr} (h : TPs H pss rs) : pss.length = rs.length := Paired.length h
theorem TPs.get {H : Hp} : ∀ {pss : List (List (Int × Int))} {rs : List Addr} {j : Nat} {r : Addr}, TPs H pss rs → rs[j]? = some r → ∃ ps, pss[j]? = some ps ∧ ∃ qs : List Addr, H r = some (.tup (qs.map V.ref)) ∧ PrsAt H ps qs
  | [], [], _, _, _, h => by simp at h
  | [], _ :: _, _, _, h, _ => by cases h
  | _ :: _, [], _, _, h, _ => by cases h
  | t :: _, _ :: _, 0, r, .cons h1 _, h => by
    simp at h
    subst h
    exact ⟨t, rfl, h1⟩
  | _ :: ls, _ :: rs, j + 1, r, .cons _ h2, h => by
    obtain ⟨t, a, b⟩ := TPs.get (j := j) h2 (by simpa using h)
    exact ⟨t, by simpa using a, b⟩
theorem TPs.app {H : Hp} : ∀ {a b : List (List (Int × Int))} {rs rs' : List Addr}, TPs H a rs → TPs H b rs' → TPs H (a ++ b) (rs ++ rs')
  | [], _, [], _, _, h => h
  | [], _, _ :: _, _, h, _ => by cases h
  | _ :: _, _, [], _, h, _ => by cases h
  | _ :: _, _, _ :: _, _, .cons h1 h2, h => .cons h1 (TPs.app h2 h)
/-- t + u as a tuple that stands somewhere -/
theorem cat_any {K : PySem.W.Frag} {H : Hp} {r q : Addr} {xs ys : List V} {Qc : VK} (hr : H r = some (.tup xs)) (hq : H q = some (.tup ys)) (hz : xs.length + ys.length ≤ 100000)
    (k : ∀ H' c, Same H H' → H' c = some (.tup (xs ++ ys)) → Qc (.ref c) H') : rCatA K (.ref r) (.ref q) H Qc := by
  refine ⟨r, q, xs, ys, rfl, rfl, .of hr, .of hq, by rw [sizeLine_eq]; omega, fun c => ?_, fun _ c => ?_, fun _ _ p hp => ?_⟩
  · subst c
    exact k _ q (.refl _) hq
  · subst c
    exact k _ r (.refl _) (by rw [List.append_nil]; exact hr)
  · exact k _ p (same_new (.refl _) hp) upd_same
theorem op_catK {X : Cx} {K : PySem.W.Frag} (h : X.K = K) : OpR X (binaryOp .Add) (rCatA K) := by
  subst h
  exact op_catA
theorem rg2 {i j : Int} (h1 : -1000 ≤ i) (h2 : i ≤ 1000) (h3 : -1000 ≤ j) (h4 : j ≤ 1000) (h : i ≤ j) : RgC i j 2 ((j - i + 1) / 2).toNat := by
  have e : Builtin.Range.rangeSize i j 2 = (((j - i + 1) / 2).toNat : Int) := by
    unfold Builtin.Range.rangeSize
    rw [if_pos (by decide)]
    split <;> omega
  refine ⟨by decide, by decide, ?_, e⟩
  unfold Builtin.Range.small
  rw [e]
  simp only [Builtin.Range.rangeFitsLong, Bool.and_eq_true, Bool.or_eq_true, decide_eq_true_eq, beq_iff_eq, show (2 : Int) > 0 by decide, if_true]
  omega
section
variable {P : Program} {w : World} {K : PySem.W.Frag} {mg : Str → Option Value} {base : Heap}
def spFrom (k : Nat) : Sp := fun vs H Q _ => ∃ first last : Int, vs = [.int first, .int last] ∧ k ≤ 10 ∧ 0 ≤ first ∧ first ≤ 10 ∧ -1 ≤ last ∧ last ≤ 9 ∧ last - first + 1 ≤ (k : Int) ∧
  ∀ H' (l : Addr) (rs : List Addr), Same H H' → H' l = some (.lst (rs.map V.ref)) → TPs H' (Sq.tiesFrom k first last) rs → Q (.ref l) H'
theorem scFrom : FnScope ["first", "last", "found", "other", "inner", "rest"] ["first", "last"] (defScope sFrom) := ⟨rfl, rfl, rfl, by decide +kernel, rfl, by decide +kernel, by decide +kernel⟩
theorem ok_from0 {f : Addr} {fd : FuncData} (F : Fun K "ties_from" "ties_from" sFrom f fd) : FnOk P w K mg base CX0 1 f fd ["first", "last"] (spFrom 0) := by
  refine F.ok scFrom (fun vs H Q E h => ?_) (fun cdv A outer s H vs Q E hr h => ?_)
  · obtain ⟨a, b, rfl, _⟩ := h
    rfl
  · obtain ⟨first, last, rfl, h10, b1, b2, b3, b4, hz, k⟩ := h
    refine ⟨_, pss_cons (ps_if (pt_cmpR op_gt (pv 0) (pv 1) (nomark _)) (pss_one (ps_ret (pe_lst (pa_cons (pe_tup pa_nil) pa_nil)))) pss_nil) pss_never, ?_⟩
    refine ⟨_, rfl, _, rfl, _, _, rfl, rfl, _, rfl, ?_⟩
    rw [decide_eq_true (by omega)]
    refine iteT ?_
    refine ⟨Nat.zero_le _, fun t ht => ?_⟩
    refine ⟨(by show 1 ≤ sizeLine; decide), fun l hl => ?_⟩
    exact k _ l [t] (same_new (same_new (.refl _) ht) hl) upd_same (.cons ⟨[], upd_keep upd_same hl, .nil⟩ .nil)
set_option maxHeartbeats 16000000 in
theorem ok_fromS {f : Addr} {fd : FuncData} (F : Fun K "ties_from" "ties_from" sFrom f fd) (B : Bi mg) (gF : mg "ties_from" = some (.ref f)) (kF : PySem.W.keepIn K (.ref f) = true) (bF : Binds K fd ["first", "last"] []) {k : Nat} (G : FnOk P w K mg base CX0 (k + 1) f fd ["first", "last"] (spFrom k)) :
    FnOk P w K mg base CX0 (k + 2) f fd ["first", "last"] (spFrom (k + 1)) := by
  refine F.ok scFrom (fun vs H Q E h => ?_) (fun cdv A outer s H vs Q E hr h => ?_)
  · obtain ⟨a, b, rfl, _⟩ := h
    rfl
  · obtain ⟨first, last, rfl, h10, b1, b2, b3, b4, hz, kk⟩ := h
    refine ⟨_, pss_cons (ps_if (pt_cmpR op_gt (pv 0) (pv 1) (nomark _)) (pss_one (ps_ret (pe_lst (pa_cons (pe_tup pa_nil) pa_nil)))) pss_nil)
      (pss_cons (ps_set (i := 2) scFrom.nd rfl (.inl rfl) (pe_lst pa_nil))
      (pss_cons (ps_for PassesOwn.never rfl (pi_range3 (by rfl) B.range (pa_cons (pe_op op_add (pv 0) pe_int) (pa_cons (pe_op op_add (pv 1) pe_int) (pa_cons pe_int pa_nil)))) (pg_name (i := 3) scFrom.nd rfl (.inr rfl))
        (pss_one (ps_for PassesOwn.never rfl (pi_list (pe_call G hr (by rfl) gF kF bF .nil pass0 (pa_cons (pe_op op_add (pv 0) pe_int) (pa_cons (pe_op op_sub (pv 3) pe_int) pa_nil)))) (pg_name (i := 4) scFrom.nd rfl (.inr rfl))
          (pss_one (ps_set (i := 2) scFrom.nd rfl (.inl rfl) (pe_op op_cat (pv 2) (pe_lc (own := [("rest", 5)]) (g := gName 5) (tt := tYes) rfl scFrom.nd
            (pi_list (pe_call G hr (by rfl) gF kF bF .nil pass0 (pa_cons (pe_op op_add (pv 3) pe_int) (pa_cons (pv 1) pa_nil)))) (blkOk_by (N := ["first", "last", "found", "other", "inner", "rest"]) (sc := defScope sFrom) (by decide +kernel))
            (fun _ _ _ _ _ => pg_name (i := 5) scFrom.nd rfl (.inl rfl)) (fun _ _ _ _ _ => pts_nil)
            (fun _ _ _ _ _ => pe_op (op_catK (K := K) rfl) (pe_op (op_catK (K := K) rfl) (pe_tup (pa_cons (pe_tup (pa_cons (pv 0) (pa_cons (pv 3) pa_nil))) pa_nil)) (pv 4)) (pv 5)))))))))
      (pss_one (ps_ret (pv 2))))), ?_⟩
    refine ⟨_, rfl, _, rfl, _, _, rfl, rfl, _, rfl, ?_⟩
    by_cases c : last < first
    · rw [decide_eq_true c]
      refine iteT ?_
      refine ⟨Nat.zero_le _, fun t ht => ?_⟩
      refine ⟨(by show 1 ≤ sizeLine; decide), fun l hl => ?_⟩
      refine kk _ l [t] (same_new (same_new (.refl _) ht) hl) upd_same ?_
      rw [Sq.from_none c]
      exact .cons ⟨[], upd_keep upd_same hl, .nil⟩ .nil
    · rw [decide_eq_false c]
      refine iteF ?_
      have hfs := Sq.from_succ (k := k) (first := first) (last := last) c
      have hfew : ((Sq.others first last).flatMap (Sq.fromG k first last)).length ≤ 42 := by
        rw [← hfs]
        exact Sq.from_few h10 b1 b2 b3 b4 hz
      refine ⟨Nat.zero_le _, fun p0 hp0 => ?_⟩
      refine ⟨_, rfl, _, _, rfl, rfl, _, rfl, _, _, rfl, rfl, _, _, _, _, rfl, rg2 (by omega) (by omega) (by omega) (by omega) (by omega), ?_⟩
      have en : ((last + 1 - (first + 1) + 1) / 2).toNat = ((last - first + 1) / 2).toNat := by
        congr 2
        omega
      rw [en]
      refine for_rangeC (lo := first + 1) (c := 2) (n := ((last - first + 1) / 2).toNat) (fun i σ H' => ∃ (p : Addr) (rs : List Addr) (v3 v4 : Option V), σ = [some (.int first), some (.int last), some (.ref p), v3, v4, none] ∧ Same H H' ∧ H' p = some (.lst (rs.map V.ref)) ∧
        TPs H' (((Sq.others first last).take i).flatMap (Sq.fromG k first last)) rs) ⟨p0, [], none, none, rfl, same_new (.refl _) hp0, upd_same, .nil⟩ ?_ ?_
      · rintro i σ H1 hi ⟨p, rs, v3, v4, rfl, s1, hp1, ht1⟩
        have hoth := Sq.others_get hi
        generalize eo : first + 1 + (i : Int) * 2 = other at hoth
        have ho1 : first + 1 ≤ other := by omega
        have ho2 : other ≤ last := by omega
        have hpart : (((Sq.others first last).take (i + 1)).flatMap (Sq.fromG k first last)).length ≤ 42 := Nat.le_trans (Sq.flat_take _ _ _) hfew
        rw [Sq.flat_more _ hoth] at hpart
        show tFor _ _ _ _ _ _
        refine ⟨_, rfl, _, _, rfl, rfl, _, rfl, _, _, rfl, rfl, first + 1, other - 1, ?_, by omega, by omega, by omega, by omega, by omega, by omega, fun H2 l2 rs2 s2 hl2 ht2 => ?_⟩
        · rfl
        refine ⟨l2, rfl, ⟨_, .of hl2⟩, for_list (K := K) (a := l2) (xs := rs2.map V.ref) (fun j σ H' => ∃ (p : Addr) (rs : List Addr) (v4 : Option V), σ = [some (.int first), some (.int last), some (.ref p), some (.int other), v4, none] ∧ Same H H' ∧ H' l2 = some (.lst (rs2.map V.ref)) ∧
          TPs H' (Sq.tiesFrom k (first + 1) (other - 1)) rs2 ∧ H' p = some (.lst (rs.map V.ref)) ∧
          TPs H' (((Sq.others first last).take i).flatMap (Sq.fromG k first last) ++ ((Sq.tiesFrom k (first + 1) (other - 1)).take j).flatMap (Sq.fromH k first last other)) rs)
          ⟨p, rs, v4, ?_, s1.trans s2, hl2, ht2, s2 _ _ hp1, ?_⟩ (fun j σ H' _ ⟨_, _, _, _, _, h, _⟩ => .of h) ?_ ?_⟩
        · rfl
        · rw [List.take_zero, List.flatMap_nil, List.append_nil]
          exact ht1.same s2
        · rintro j x σ H3 hj ⟨p, rs, v4, rfl, s3, hl3, ht3, hp3, ha3⟩
          obtain ⟨r, hrj, rfl⟩ := get_ref hj
          obtain ⟨inner, hinner, qs, hr3, hq3⟩ := ht3.get hrj
          have hin := List.mem_of_getElem? hinner
          have hshort := Sq.from_short _ _ _ inner hin
          have h2k : 2 ^ k ≤ 1024 := by
            have : 2 ^ k ≤ 2 ^ 10 := Nat.pow_le_pow_right (by decide) (by omega)
            omega
          have hql : qs.length = inner.length := (Paired.length hq3).symm
          have hpart2 : (((Sq.others first last).take i).flatMap (Sq.fromG k first last) ++ ((Sq.tiesFrom k (first + 1) (other - 1)).take (j + 1)).flatMap (Sq.fromH k first last other)).length ≤ 42 := by
            refine Nat.le_trans ?_ hpart
            rw [List.length_append, List.length_append]
            exact Nat.add_le_add_left (Sq.flat_take _ _ _) _
          rw [Sq.flat_more _ hinner, ← List.append_assoc] at hpart2
          refine ⟨_, rfl, _, rfl, _, _, rfl, rfl, _, rfl, other + 1, last, rfl, by omega, by omega, by omega, by omega, by omega, by omega, fun H4 l4 rs4 s4 hl4 ht4 => ?_⟩
          refine ⟨l4, rfl, ⟨_, .of hl4⟩, fun D hD => ?_⟩
          refine lc_list (K := K) (a := l4) (xs := rs4.map V.ref) (fun m H' => Same H4 H' ∧ ∃ ts : List Addr, H' D = some (.lst (ts.map V.ref)) ∧ TPs H' (((Sq.tiesFrom k (other + 1) last).take m).map fun rest => (first, other) :: (inner ++ rest)) ts)
            ⟨same_new (.refl _) hD, [], upd_same, .nil⟩ (fun m H' _ ⟨s5, _⟩ => .of (s5 _ _ hl4)) ?_ ?_
          · rintro m y H5 hm ⟨s5, ts, hD5, ht5⟩
            obtain ⟨u, hu, rfl⟩ := get_ref hm
            obtain ⟨rest, hrest, qs2, hu4, hq4⟩ := ht4.get hu
            have hrin := List.mem_of_getElem? hrest
            have hshort2 := Sq.from_short _ _ _ rest hrin
            have hql2 : qs2.length = rest.length := (Paired.length hq4).symm
            refine ⟨rfl, ?_⟩
            refine ⟨_, rfl, _, rfl, (by show 2 ≤ sizeLine; decide), fun q hq => ?_⟩
            refine ⟨(by show 1 ≤ sizeLine; decide), fun t ht => ?_⟩
            have s6 : Same H5 (upd (upd H5 q (.tup [.int first, .int other])) t (.tup [.ref q])) := same_new (same_new (.refl _) hq) ht
            have s36 := (s4.trans s5).trans s6
            refine ⟨_, rfl, cat_any (xs := [V.ref q]) (ys := qs.map V.ref) upd_same (s36 _ _ hr3) (by rw [List.length_map]; show 1 + qs.length ≤ 100000; omega) fun H7 c s7 hc => ?_⟩
            refine ⟨_, rfl, cat_any (xs := [V.ref q] ++ qs.map V.ref) (ys := qs2.map V.ref) hc (s7 _ _ (s6 _ _ (s5 _ _ hu4))) (by rw [List.length_append, List.length_map, List.length_map]; show 1 + qs.length + qs2.length ≤ 100000; omega) fun H8 c2 s8 hc2 => ?_⟩
            have s58 := (s6.trans s7).trans s8
            have hts : ts.length ≤ 42 := by
              rw [← ht5.length, List.length_map]
              refine Nat.le_trans (List.length_take_le' _ _) ?_
              refine Nat.le_trans ?_ hpart2
              rw [List.length_append, List.length_append]
              unfold Sq.fromH
              rw [List.length_map]
              omega
            refine ⟨_, s58 _ _ hD5, by rw [List.length_map]; exact small42 hts, same_mut (s5.trans s58) hD, ts ++ [c2], ?_, ?_⟩
            · rw [upd_same, List.map_append]
              rfl
            · have tk : ∀ r xs, H8 r = some (.tup xs) → upd H8 D (.lst (ts.map V.ref ++ [V.ref c2])) r = some (.tup xs) := fun r xs z => by
                rw [upd_ne (ne_of z (s58 _ _ hD5) (fun z => nomatch z))]
                exact z
              rw [Sq.take_more hrest, List.map_append]
              refine ((ht5.same s58).tups tk).app (.cons ⟨(q :: qs) ++ qs2, tk _ _ ?_, ?_⟩ .nil)
              · rw [hc2, List.map_append]
                rfl
              · have hq8 : H8 q = some (.tup [.int first, .int other]) := s8 _ _ (s7 _ _ (upd_keep upd_same ht))
                exact PrsAt.app (ps := (first, other) :: inner) (.cons (tk _ _ hq8) (((hq3.same s36).same (s7.trans s8)).tups tk)) ((hq4.same (s5.trans s58)).tups tk)
          · rintro H5 ⟨s5, ts, hD5, ht5⟩
            rw [List.length_map, ← ht4.length, List.take_length] at ht5
            have hts : ts.length ≤ 42 := by
              rw [← ht5.length, List.length_map]
              refine Nat.le_trans ?_ hpart2
              rw [List.length_append, List.length_append]
              unfold Sq.fromH
              rw [List.length_map]
              omega
            have hrs : rs.length ≤ 42 := by
              rw [← ha3.length]
              refine Nat.le_trans ?_ hpart2
              rw [List.length_append (as := _ ++ _)]
              omega
            have s35 := s4.trans s5
            refine ⟨p, D, _, _, rfl, rfl, s35 _ _ hp3, hD5, by rw [List.length_map, List.length_map, sizeLine_eq]; omega, fun r2 hr2 => ?_⟩
            refine ⟨r2, rs ++ ts, _, rfl, (s3.trans s35).trans (same_new (.refl _) hr2), upd_keep (s35 _ _ hl3) hr2, (ht3.same s35).same (same_new (.refl _) hr2), ?_, ?_⟩
            · rw [upd_same, List.map_append]
            · rw [Sq.flat_more _ hinner, ← List.append_assoc]
              exact ((ha3.same s35).same (same_new (.refl _) hr2)).app (ht5.same (same_new (.refl _) hr2))
        · rintro σ H3 ⟨p, rs, v4, rfl, s3, hl3, ht3, hp3, ha3⟩
          rw [List.length_map, ← ht2.length, List.take_length] at ha3
          refine ⟨p, rs, _, _, rfl, s3, hp3, ?_⟩
          rw [Sq.flat_more _ hoth]
          exact ha3
      · rintro σ H1 ⟨p, rs, v3, v4, rfl, s1, hp1, ht1⟩
        refine ⟨_, rfl, kk _ p rs s1 hp1 ?_⟩
        rw [hfs]
        rw [← Sq.others_len, List.take_length] at ht1
        exact ht1
end
end SqP
/-! SqD9: every_ties, all_ties. -/
namespace Sq
theorem from_look_all : ((List.range 6).all fun n => n == 0 || ((tiesFrom (2 * n) 0 (2 * (n : Int) - 1)).length == (T n).length && (tiesFrom (2 * n) 0 (2 * (n : Int) - 1)).all fun ps => decide (ps.length ≤ 100) && (List.range (2 * n)).all fun (i : Nat) => (look ps (i : Int)).isSome)) = true := by decide +kernel
theorem from_look {n : Nat} (h1 : 1 ≤ n) (h5 : n ≤ 5) : (tiesFrom (2 * n) 0 (2 * (n : Int) - 1)).length ≤ 42 ∧ ∀ ps ∈ tiesFrom (2 * n) 0 (2 * (n : Int) - 1), ps.length ≤ 100 ∧ ∀ i : Nat, i < 2 * n → (look ps (i : Int)).isSome = true := by
  have h := all6 from_look_all (n := n) (by omega)
  simp only [Bool.or_eq_true, Bool.and_eq_true, beq_iff_eq] at h
  rcases h with h | ⟨a, b⟩
  · omega
  · refine ⟨by rw [a]; exact T_len, fun ps hp => ?_⟩
    have q := List.all_eq_true.mp b ps hp
    simp only [Bool.and_eq_true, decide_eq_true_eq] at q
    exact ⟨q.1, fun i hi => List.all_eq_true.mp q.2 i (List.mem_range.mpr hi)⟩
end Sq
namespace SqP
open PySem PySem.Spec PyProof.Rows L2
theorem code_cd : ∀ ns : List Int, TS.code 16 ns = Sq.cd ns
  | [] => rfl
  | d :: r => by
    show d * 16 ^ r.length + TS.code 16 r = d * 16 ^ r.length + Sq.cd r
    rw [code_cd r]
theorem bd16 {n : Nat} {t : List Int} (h : t ∈ Sq.T n) : t.length = 2 * n ∧ TS.Bd 16 t := by
  obtain ⟨a, b, _⟩ := Sq.T_shape h
  have := Sq.T_lt h
  exact ⟨a, fun x hx => by have := b x hx; omega⟩
theorem LnR.zip {H : Hp} : ∀ {ls : List Sq.Tie} {rs : List Addr}, LnR H ls rs → ∃ Z : List (Sq.Tie × Addr), Z.map (·.1) = ls ∧ Z.map (·.2) = rs ∧ ∀ z ∈ Z, H z.2 = some (.tup (z.1.map V.int))
  | [], [], _ => ⟨[], rfl, rfl, fun z h => by cases h⟩
  | [], _ :: _, h => by cases h
  | _ :: _, [], h => by cases h
  | t :: _, r :: _, .cons h1 h2 => by
    obtain ⟨Z, a, b, c⟩ := LnR.zip h2
    refine ⟨(t, r) :: Z, by rw [List.map_cons, a], by rw [List.map_cons, b], fun z hz => ?_⟩
    rcases List.mem_cons.mp hz with rfl | hz
    · exact h1
    · exact c z hz
theorem LnR.of {H : Hp} : ∀ Z : List (Sq.Tie × Addr), (∀ z ∈ Z, H z.2 = some (.tup (z.1.map V.int))) → LnR H (Z.map (·.1)) (Z.map (·.2))
  | [], _ => .nil
  | z :: Z, h => .cons (h z List.mem_cons_self) (LnR.of Z fun y hy => h y (List.mem_cons_of_mem _ hy))
section
variable {P : Program} {w : World} {K : PySem.W.Frag} {mg : Str → Option Value} {base : Heap}
def spEvery : Sp := fun vs H Q _ => ∃ n : Nat, vs = [.int (n : Int)] ∧ 1 ≤ n ∧ n ≤ 5 ∧ ∀ H' (l : Addr) (rs : List Addr), Same H H' → H' l = some (.lst (rs.map V.ref)) → LnR H' (Sq.T n) rs → Q (.ref l) H'
theorem scEvery : FnScope ["pairs", "some"] ["pairs"] (defScope sEvery) := ⟨rfl, rfl, rfl, by decide +kernel, rfl, by decide +kernel, by decide +kernel⟩
theorem ok_every {f fF fW : Addr} {fd fdF fdW : FuncData} (F : Fun K "every_ties" "every_ties" sEvery f fd) (B : Bi mg)
    (GF : ∀ k, k ≤ 10 → FnOk P w K mg base CX0 11 fF fdF ["first", "last"] (spFrom k)) (gF : mg "ties_from" = some (.ref fF)) (kF : PySem.W.keepIn K (.ref fF) = true) (bF : Binds K fdF ["first", "last"] [])
    (GW : FnOk P w K mg base CX0 1 fW fdW ["pairs", "size"] spWith) (gW : mg "ties_with" = some (.ref fW)) (kW : PySem.W.keepIn K (.ref fW) = true) (bW : Binds K fdW ["pairs", "size"] []) : FnOk P w K mg base CX0 12 f fd ["pairs"] spEvery := by
  refine F.ok scEvery (fun vs H Q E h => ?_) (fun cdv A outer s H vs Q E hr h => ?_)
  · obtain ⟨n, rfl, _⟩ := h
    rfl
  · obtain ⟨n, rfl, h1, h5, k⟩ := h
    have hr1 : Room 1 _ := hr.mono (by decide)
    refine ⟨_, pss_one (ps_ret (pe_callB (cr_sortT (d := 2 * n) (B := 16) (by omega)) (by rfl) B.sorted (by decide +kernel) (pa_cons (pe_lc (own := [("some", 1)]) (g := gName 1) (tt := tYes) rfl scEvery.nd
      (pi_list (pe_call (GF (2 * n) (by omega)) hr (by rfl) gF kF bF .nil pass0 (pa_cons pe_int (pa_cons (pe_op op_sub (pe_op op_mul pe_int (pv 0)) pe_int) pa_nil)))) (blkOk_by (N := ["pairs", "some"]) (sc := defScope sEvery) (by decide +kernel))
      (fun _ _ _ _ _ => pg_name (i := 1) scEvery.nd rfl (.inl rfl)) (fun _ _ _ _ _ => pts_nil)
      (fun _ _ _ _ _ => pe_call GW hr1 (by rfl) gW kW bW .nil pass0 (pa_cons (pv 1) (pa_cons (pe_op op_mul pe_int (pv 0)) pa_nil)))) pa_nil))), ?_⟩
    obtain ⟨hfew, hlook⟩ := Sq.from_look h1 h5
    refine ⟨_, rfl, _, _, rfl, rfl, .inl ⟨by decide, by decide⟩, _, _, rfl, rfl, 0, 2 * (n : Int) - 1, rfl, by omega, by omega, by omega, by omega, by omega, by omega, fun H1 l1 rs1 s1 hl1 ht1 => ?_⟩
    refine ⟨l1, rfl, ⟨_, .of hl1⟩, fun D hD => ?_⟩
    have hDn := s1.free hD
    refine lc_list (K := K) (a := l1) (xs := rs1.map V.ref) (fun m H' => Same H1 H' ∧ ∃ ts : List Addr, H' D = some (.lst (ts.map V.ref)) ∧ LnR H' (((Sq.tiesFrom (2 * n) 0 (2 * (n : Int) - 1)).take m).map fun ps => Sq.tiesWith ps (2 * n)) ts)
      ⟨same_new (.refl _) hD, [], upd_same, .nil⟩ (fun m H' _ ⟨s5, _⟩ => .of (s5 _ _ hl1)) ?_ ?_
    · rintro m y H5 hm ⟨s5, ts, hD5, ht5⟩
      obtain ⟨u, hu, rfl⟩ := get_ref hm
      obtain ⟨ps, hps, qs, hu1, hq1⟩ := ht1.get hu
      obtain ⟨c1, c2⟩ := hlook ps (List.mem_of_getElem? hps)
      have hts : ts.length ≤ 42 := by
        rw [← ht5.length, List.length_map]
        exact Nat.le_trans (List.length_take_le' _ _) hfew
      refine ⟨rfl, ?_⟩
      refine ⟨_, rfl, _, rfl, _, _, rfl, rfl, .inl ⟨by decide, by decide⟩, u, ps, qs, 2 * n, ?_, s5 _ _ hu1, hq1.same s5, c1, by omega, c2, fun H6 r s6 hr6 => ?_⟩
      · show [V.ref u, V.int (2 * (n : Int))] ++ [] = [V.ref u, V.int ((2 * n : Nat) : Int)]
        rw [show ((2 * n : Nat) : Int) = 2 * (n : Int) by omega]
        rfl
      · refine ⟨_, s6 _ _ hD5, by rw [List.length_map]; exact small42 hts, same_mut (s5.trans s6) hD, ts ++ [r], by rw [upd_same, List.map_append]; rfl, ?_⟩
        have tk : ∀ r' xs, H6 r' = some (.tup xs) → upd H6 D (.lst (ts.map V.ref ++ [V.ref r])) r' = some (.tup xs) := fun r' xs z => by
          rw [upd_ne (ne_of z (s6 _ _ hD5) (fun z => nomatch z))]
          exact z
        rw [Sq.take_more hps, List.map_append]
        exact LnR.app (tk _ _ hr6) (ht5.mono fun r' xs z => tk _ _ (s6 _ _ z))
    · rintro H5 ⟨s5, ts, hD5, ht5⟩
      rw [List.length_map, ← ht1.length, List.take_length] at ht5
      have ht5' : LnR H5 (Sq.unsorted n) ts := ht5
      obtain ⟨Z, z1, z2, z3⟩ := ht5'.zip
      have hZ : ∀ z ∈ Z, z.1 ∈ Sq.T n := fun z hz => (Sq.T_perm h1 (by omega)).mem_iff.mp (by rw [← z1]; exact List.mem_map.mpr ⟨z, hz, rfl⟩)
      have hxs : ts.map V.ref = Z.map fun z => V.ref z.2 := by rw [← z2, List.map_map]; rfl
      refine ⟨D, _, rfl, .of hD5, ?_, fun x hx => ?_, fun ys p hp hw hn => ?_⟩
      · rw [List.length_map, ← ht5'.length]
        unfold Sq.unsorted
        rw [List.length_map]
        omega
      · rw [hxs] at hx
        obtain ⟨z, hz, rfl⟩ := List.mem_map.mp hx
        exact ⟨z.1, ⟨z.2, rfl, .of (z3 z hz)⟩, bd16 (hZ z hz)⟩
      · rw [hxs] at hp
        obtain ⟨Z', pZ, rfl⟩ := sq_perm_map (fun z : Sq.Tie × Addr => V.ref z.2) hp Z rfl
        have e : Z'.map (·.1) = Sq.T n := by
          refine Sq.sorted_one (((pZ.map _).trans (by rw [z1])).trans (Sq.T_perm h1 (by omega))) ?_ (Sq.T_ord (by omega))
          refine List.pairwise_map.mpr (List.Pairwise.imp_of_mem (fun {a b} ha hb hle => ?_) (List.pairwise_map.mp hw))
          have := hle a.1 b.1 ⟨a.2, rfl, .of (z3 a (pZ.mem_iff.mp ha))⟩ ⟨b.2, rfl, .of (z3 b (pZ.mem_iff.mp hb))⟩
          rw [code_cd, code_cd] at this
          exact this
        have s6 : Same H5 (upd H5 p (.lst (Z'.map fun z => V.ref z.2))) := same_new (.refl _) hn
        refine k _ p (Z'.map (·.2)) ((s1.trans s5).trans s6) (by rw [upd_same, List.map_map]; rfl) ?_
        rw [← e]
        exact (LnR.of Z' fun z hz => z3 z (pZ.mem_iff.mp hz)).mono fun r xs q => s6 _ _ q
theorem scAll : FnScope ["pairs"] ["pairs"] (defScope sAll) := ⟨rfl, rfl, rfl, by decide +kernel, rfl, by decide +kernel, by decide +kernel⟩
theorem ok_all {f fN fE : Addr} {fd fdN fdE : FuncData} (F : Fun K "all_ties" "all_ties" sAll f fd) (gA : ∃ t, mg "ALL_PAIRS" = some (.int 6 t))
    (GN : FnOk P w K mg base CX0 2 fN fdN ["value", "most"] spNeedP) (gN : mg "need_pairs" = some (.ref fN)) (kN : PySem.W.keepIn K (.ref fN) = true) (bN : Binds K fdN ["value", "most"] [])
    (GE : FnOk P w K mg base CX0 12 fE fdE ["pairs"] spEvery) (gE : mg "every_ties" = some (.ref fE)) (kE : PySem.W.keepIn K (.ref fE) = true) (bE : Binds K fdE ["pairs"] []) : FnOk P w K mg base CX0 13 f fd ["pairs"] spEvery := by
  obtain ⟨tA, gA⟩ := gA
  refine F.ok scAll (fun vs H Q E h => ?_) (fun cdv A outer s H vs Q E hr h => ?_)
  · obtain ⟨n, rfl, _⟩ := h
    rfl
  · obtain ⟨n, rfl, h1, h5, k⟩ := h
    have hr2 : Room 2 _ := hr.mono (by decide)
    refine ⟨_, pss_cons (ps_expr (pe_call GN hr2 (by rfl) gN kN bN .nil pass0 (pa_cons (pv 0) (pa_cons (pe_glob (by rfl) gA (v := .int 6) ⟨_, rfl⟩) pa_nil))))
      (pss_one (ps_ret (pe_call GE hr (by rfl) gE kE bE .nil pass0 (pa_cons (pv 0) pa_nil)))), ?_⟩
    refine ⟨_, rfl, (n : Int), 6, rfl, by omega, by omega, fun H1 s1 => ?_⟩
    exact ⟨_, rfl, n, rfl, h1, h5, fun H2 l rs s2 => k _ l rs (s1.trans s2)⟩
end
end SqP
/-! SqL1: the law's draws: _law_pot, _law_dip, _law_one. -/
namespace SqP
open PySem PySem.Spec PyProof.Rows L2
/-- xs + ys of lists that are read -/
def rCatS (K : PySem.W.Frag) : R2 := fun x y H Q => ∃ l b xs zs, x = .ref l ∧ y = .ref b ∧ SqL K H l xs ∧ SqL K H b zs ∧ xs.length + zs.length ≤ sizeLine ∧ ∀ p, H p = none → Q (.ref p) (upd H p (.lst (xs ++ zs)))
theorem op_catS {X : Cx} : OpR X (binaryOp .Add) (rCatS X.K) := by
  intro pins s σ H x y v u Q I rx ry h
  obtain ⟨l, b, xs, zs, rfl, rfl, hH, hB, hz, q⟩ := h
  cases rx
  cases ry
  obtain ⟨its, r, p, hl⟩ := I.list hH
  obtain ⟨its2, r2, p2, hl2⟩ := I.list hB
  have e1 := r.length
  have e2 := r2.length
  obtain ⟨⟨cls, dd, data, sl⟩, ho, hc, n, hd⟩ := id p.isList
  obtain ⟨⟨cls2, dd2, data2, sl2⟩, ho2, hc2, n2, hd2⟩ := id p2.isList
  simp only at hc hd hc2 hd2
  subst hc hd hc2 hd2
  have ea : its.toArray ++ its2.toArray = (its ++ its2).toArray := by simp
  refine concat_meets ⟨_, ho, rfl⟩ ⟨_, ho2, rfl⟩ noFill_list_add seq_list_add PySem.F.slot_list_add PySem.F.entry_list_add (PySem.F.args_list_add_2 _ _) (list_addW l b its.toArray its2.toArray n n2 dd dd2 sl sl2 (by rw [List.size_toArray, List.size_toArray]; omega)) ⟨ho, ho2, ?_⟩
  rw [ea]
  exact ⟨.ref _, _, I.lnew (t' := s.toks) (r.append r2) (by rw [List.length_append]; omega), rfl, q _ I.fresh⟩
def PotOk (x y : Int) : Prop := 0 ≤ x ∧ 0 ≤ y ∧ y < 2 ^ 32
section
variable {P : Program} {w : World} {K : PySem.W.Frag} {mg : Str → Option Value} {base : Heap}
def spPot (K : PySem.W.Frag) : Sp := fun vs H Q _ => ∃ (a : Addr) (ns : List Int) (t : Int), vs = [.ref a, .int t] ∧ SqL K H a (ns.map V.int) ∧ ns.length ≤ 63 ∧ 0 ≤ t ∧ t ≤ 1000 ∧
  ∀ H' p x y, Same H H' → H p = none → H' p = some (.lst [.int x, .int y]) → PotOk x y → Q (.ref p) H'
theorem scPot : FnScope ["_law_script", "_law_turn", "_law_cell", "_law_great"] ["_law_script", "_law_turn"] (defScope sPot) := ⟨rfl, rfl, rfl, by decide +kernel, rfl, by decide +kernel, by decide +kernel⟩
theorem ok_pot {f : Addr} {fd : FuncData} (F : Fun K "_law_pot" "_law_pot" sPot f fd) (B : Bi mg) : FnOk P w K mg base CX0 1 f fd ["_law_script", "_law_turn"] (spPot K) := by
  refine F.ok scPot (fun vs H Q E h => ?_) (fun cdv A outer s H vs Q E hr h => ?_)
  · obtain ⟨a, ns, t, rfl, _⟩ := h
    rfl
  · obtain ⟨a, ns, t, rfl, hS, hl, t0, t1, k⟩ := h
    refine ⟨_, pss_cons (ps_set (i := 2) scPot.nd rfl (.inl rfl) (pe_callB call_abs (by rfl) B.abs (by decide +kernel) (pa_cons (pe_callTy call_int1 (by rfl) B.int (by decide +kernel)
        (pa_cons (pe_ix (ix_listK (K := K) rfl) (pe_op op_catS (pv 0) (pe_lst (pa_cons pe_int pa_nil))) pe_int (fun _ _ => rfl)) pa_nil)) pa_nil)))
      (pss_cons (ps_set (i := 3) scPot.nd rfl (.inl rfl) (pe_ifExp (pt_cmpR op_ge (pv 2) (pe_op op_pow pe_int pe_int) (nomark _)) (pe_op op_fdiv (pv 2) pe_int) pe_int))
      (pss_one (ps_ret (pe_lst (pa_cons (pv 3) (pa_cons (pe_op op_add (pe_op op_mod (pe_callTy call_int1 (by rfl) B.int (by decide +kernel) (pa_cons (pe_op op_add (pe_op op_mul (pv 2) pe_int) (pe_op op_mul pe_int (pv 1))) pa_nil)) pe_int) pe_int) pa_nil)))))), ?_⟩
    refine ⟨_, rfl, (by show 1 ≤ sizeLine; decide), fun l hl' => ?_⟩
    refine ⟨a, l, _, _, rfl, rfl, (same_new (.refl _) hl').seq hS, .of upd_same, by rw [List.length_map, sizeLine_eq]; show ns.length + 1 ≤ 16777216; omega, fun q hq => ?_⟩
    have s2 : Same H (upd (upd H l (.lst [V.int 0])) q (.lst (ns.map V.int ++ [V.int 0]))) := same_new (same_new (.refl _) hl') hq
    obtain ⟨c, hc⟩ : ∃ c : Int, (ns.map V.int ++ [V.int 0])[0]? = some (.int c) := by
      cases ns with
      | nil => exact ⟨0, rfl⟩
      | cons n r => exact ⟨n, rfl⟩
    refine ⟨q, _, 0, _, rfl, rfl, .of upd_same, at_of (j := 0) rfl hc, .inl ⟨c, rfl, c, rfl, ?_⟩⟩
    generalize ec : (if c < 0 then -c else c) = cell
    have hcell : 0 ≤ cell := by
      rw [← ec]
      split <;> omega
    refine ⟨_, rfl, _, _, rfl, rfl, ⟨by decide, by decide, by decide⟩, _, _, rfl, rfl, _, rfl, ?_⟩
    refine ite2 (fun _ => ?_) (fun _ => ?_)
    · refine ⟨_, rfl, _, _, rfl, rfl, ⟨by decide, by decide⟩, ?_⟩
      refine ⟨_, rfl, _, rfl, _, _, rfl, rfl, .inr ⟨by decide, by decide⟩, _, rfl, _, _, rfl, rfl, .inl ⟨by decide, by decide⟩, _, _, rfl, rfl, .inl ⟨_, rfl, _, _, rfl, rfl, (by show (0 : Int) < 2147483399; decide), _, _, rfl, rfl, ?_⟩⟩
      refine ⟨(by show 2 ≤ sizeLine; decide), fun p hp => ?_⟩
      refine k _ p _ _ (same_new s2 hp) (s2.free hp) upd_same ⟨Int.ediv_nonneg hcell (by decide), ?_, ?_⟩
      · have := Int.emod_nonneg (cell * 6101 + 977 * t) (show (2147483399 : Int) ≠ 0 by decide)
        show 0 ≤ (cell * 6101 + 977 * t) % 2147483399 + 17
        omega
      · have := Int.emod_lt_of_pos (cell * 6101 + 977 * t) (show (0 : Int) < 2147483399 by decide)
        show (cell * 6101 + 977 * t) % 2147483399 + 17 < 2 ^ 32
        omega
    · refine ⟨_, rfl, _, rfl, _, _, rfl, rfl, .inr ⟨by decide, by decide⟩, _, rfl, _, _, rfl, rfl, .inl ⟨by decide, by decide⟩, _, _, rfl, rfl, .inl ⟨_, rfl, _, _, rfl, rfl, (by show (0 : Int) < 2147483399; decide), _, _, rfl, rfl, ?_⟩⟩
      refine ⟨(by show 2 ≤ sizeLine; decide), fun p hp => ?_⟩
      refine k _ p _ _ (same_new s2 hp) (s2.free hp) upd_same ⟨Int.le_refl _, ?_, ?_⟩
      · have := Int.emod_nonneg (cell * 6101 + 977 * t) (show (2147483399 : Int) ≠ 0 by decide)
        show 0 ≤ (cell * 6101 + 977 * t) % 2147483399 + 17
        omega
      · have := Int.emod_lt_of_pos (cell * 6101 + 977 * t) (show (0 : Int) < 2147483399 by decide)
        show (cell * 6101 + 977 * t) % 2147483399 + 17 < 2 ^ 32
        omega
/-- a number below m is drawn, the pot goes on -/
def spDip : Sp := fun vs H Q _ => ∃ (p : Addr) (x y m : Int), vs = [.ref p, .int m] ∧ H p = some (.lst [.int x, .int y]) ∧ PotOk x y ∧ 0 < m ∧ m ≤ 1000 ∧ ∀ x' y' d, PotOk x' y' → 0 ≤ d → d < m → Q (.int d) (upd H p (.lst [.int x', .int y']))
theorem scDip : FnScope ["_law_pot_here", "_law_many", "_law_found", "_law_deep"] ["_law_pot_here", "_law_many"] (defScope sDip) := ⟨rfl, rfl, rfl, by decide +kernel, rfl, by decide +kernel, by decide +kernel⟩
theorem ok_dip {f : Addr} {fd : FuncData} (F : Fun K "_law_dip" "_law_dip" sDip f fd) (B : Bi mg) : FnOk P w K mg base CX0 1 f fd ["_law_pot_here", "_law_many"] spDip := by
  refine F.ok scDip (fun vs H Q E h => ?_) (fun cdv A outer s H vs Q E hr h => ?_)
  · obtain ⟨p, x, y, m, rfl, _⟩ := h
    rfl
  · obtain ⟨p, x, y, m, rfl, hp, ⟨x0, y0, y1⟩, m0, m1, k⟩ := h
    refine ⟨_, pss_cons (ps_if (pt_cmpR op_gt (pe_ix (ix_listK (K := K) rfl) (pv 0) pe_int (fun _ _ => rfl)) pe_int (nomark _))
        (pss_cons (ps_set (i := 2) scDip.nd rfl (.inl rfl) (pe_op op_mod (pe_callTy call_int1 (by rfl) B.int (by decide +kernel) (pa_cons (pe_ix (ix_listK (K := K) rfl) (pv 0) pe_int (fun _ _ => rfl)) pa_nil)) (pv 1)))
        (pss_cons (ps_asg (pe_op op_fdiv (pe_ix (ix_listK (K := K) rfl) (pv 0) pe_int (fun _ _ => rfl)) (pv 1)) (pg_sub (pv 0) pe_int set_list))
        (pss_one (ps_ret (pv 2))))) pss_nil)
      (pss_cons (ps_asg (pe_op op_mod (pe_callTy call_int1 (by rfl) B.int (by decide +kernel) (pa_cons (pe_op op_add (pe_op op_mul (pe_ix (ix_listK (K := K) rfl) (pv 0) pe_int (fun _ _ => rfl)) pe_int) pe_int) pa_nil)) pe_int) (pg_sub (pv 0) pe_int set_list))
      (pss_cons (ps_set (i := 3) scDip.nd rfl (.inl rfl) (pe_op op_mod (pe_callTy call_int1 (by rfl) B.int (by decide +kernel) (pa_cons (pe_op op_mul (pe_ix (ix_listK (K := K) rfl) (pv 0) pe_int (fun _ _ => rfl)) (pe_op op_add (pe_ix (ix_listK (K := K) rfl) (pv 0) pe_int (fun _ _ => rfl)) pe_int)) pa_nil)) pe_int))
      (pss_one (ps_ret (pe_op op_mod (pe_callTy call_int1 (by rfl) B.int (by decide +kernel) (pa_cons (pe_op op_fdiv (pv 3) pe_int) pa_nil)) (pv 1)))))), ?_⟩
    refine ⟨_, rfl, p, _, 0, _, rfl, rfl, .of hp, rfl, _, _, rfl, rfl, _, rfl, ?_⟩
    refine ite2 (fun c => ?_) (fun c => ?_)
    · refine ⟨_, rfl, p, _, 0, _, rfl, rfl, .of hp, rfl, .inl ⟨_, rfl, _, rfl, _, _, rfl, rfl, m0, ?_⟩⟩
      refine ⟨_, rfl, p, _, 0, _, rfl, rfl, .of hp, rfl, _, rfl, _, _, rfl, rfl, ⟨m0, by omega⟩, ?_⟩
      refine ⟨_, rfl, p, _, 0, 0, rfl, rfl, hp, rfl, ?_⟩
      exact ⟨_, rfl, k _ _ _ ⟨Int.ediv_nonneg x0 (by omega), y0, y1⟩ (Int.emod_nonneg _ (by omega)) (Int.emod_lt_of_pos _ m0)⟩
    · have hy' := Int.emod_nonneg (y * 40692 + 311) (show (2147483399 : Int) ≠ 0 by decide)
      have hy2 := Int.emod_lt_of_pos (y * 40692 + 311) (show (0 : Int) < 2147483399 by decide)
      refine ⟨_, rfl, p, _, 1, _, rfl, rfl, .of hp, rfl, _, _, rfl, rfl, .inr ⟨by decide, by decide⟩, _, _, rfl, rfl, .inl ⟨_, rfl, _, _, rfl, rfl, (by show (0 : Int) < 2147483399; decide), ?_⟩⟩
      refine ⟨_, rfl, p, _, 1, 1, rfl, rfl, hp, rfl, ?_⟩
      refine ⟨_, rfl, p, _, 1, _, rfl, rfl, .of upd_same, rfl, _, rfl, p, _, 1, _, rfl, rfl, .of upd_same, rfl, _, _, rfl, rfl, _, _, rfl, rfl, (show CMul ((y * 40692 + 311) % 2147483399) ((y * 40692 + 311) % 2147483399 + 57) from .inl ⟨by omega, by omega⟩), .inl ⟨_, rfl, _, _, rfl, rfl, (by show (0 : Int) < 2147483563; decide), ?_⟩⟩
      refine ⟨_, rfl, _, _, rfl, rfl, ⟨by decide, by decide⟩, .inl ⟨_, rfl, _, rfl, _, _, rfl, rfl, m0, ?_⟩⟩
      exact k x ((y * 40692 + 311) % 2147483399) _ ⟨x0, hy', by omega⟩ (Int.emod_nonneg _ (by omega)) (Int.emod_lt_of_pos _ m0)
/-- one of a list's items -/
def spOne (K : PySem.W.Frag) : Sp := fun vs H Q _ => ∃ (p l : Addr) (x y : Int) (xs : List V), vs = [.ref p, .ref l] ∧ H p = some (.lst [.int x, .int y]) ∧ PotOk x y ∧ H l = some (.lst xs) ∧ p ≠ l ∧ xs ≠ [] ∧ xs.length ≤ 1000 ∧
  ∀ x' y' (i : Nat) v, PotOk x' y' → xs[i]? = some v → Q v (upd H p (.lst [.int x', .int y']))
theorem scOne : FnScope ["_law_pot_here", "_law_some"] ["_law_pot_here", "_law_some"] (defScope sOne) := ⟨rfl, rfl, rfl, by decide +kernel, rfl, by decide +kernel, by decide +kernel⟩
theorem ok_one {f fD : Addr} {fd fdD : FuncData} (F : Fun K "_law_one" "_law_one" sOne f fd) (B : Bi mg)
    (GD : FnOk P w K mg base CX0 1 fD fdD ["_law_pot_here", "_law_many"] spDip) (gD : mg "_law_dip" = some (.ref fD)) (kD : PySem.W.keepIn K (.ref fD) = true) (bD : Binds K fdD ["_law_pot_here", "_law_many"] []) : FnOk P w K mg base CX0 2 f fd ["_law_pot_here", "_law_some"] (spOne K) := by
  refine F.ok scOne (fun vs H Q E h => ?_) (fun cdv A outer s H vs Q E hr h => ?_)
  · obtain ⟨p, l, x, y, xs, rfl, _⟩ := h
    rfl
  · obtain ⟨p, l, x, y, xs, rfl, hp, po, hl, ne, hx, hz, k⟩ := h
    refine ⟨_, pss_one (ps_ret (pe_ix (ix_listK (K := K) rfl) (pv 1) (pe_call GD hr (by rfl) gD kD bD .nil pass0 (pa_cons (pv 0) (pa_cons (pe_callB (call_lenK (K := K) rfl) (by rfl) B.len PySem.boot_len (pa_cons (pv 1) pa_nil)) pa_nil))) (fun _ _ => rfl))), ?_⟩
    have hpos : 0 < xs.length := List.length_pos_iff.mpr hx
    refine ⟨_, rfl, _, rfl, _, rfl, l, _, rfl, .inl (.of hl), p, x, y, (xs.length : Int), rfl, hp, po, by omega, by omega, fun x' y' d po' d0 d1 => ?_⟩
    have hd : d.toNat < xs.length := by omega
    refine ⟨l, xs, d, xs[d.toNat], rfl, rfl, .of (by rw [upd_ne ne.symm]; exact hl), at_of (j := d.toNat) (by omega) (by simp [hd]), k x' y' d.toNat _ po' (by simp [hd])⟩
end
end SqP
/-! SqL2: _law_ties. -/
namespace SqP
open PySem PySem.Spec PyProof.Rows L2
section
variable {P : Program} {w : World} {K : PySem.W.Frag} {mg : Str → Option Value} {base : Heap}
def spTies : Sp := fun vs H Q _ => ∃ (p : Addr) (x y : Int) (n : Nat), vs = [.ref p, .int (n : Int)] ∧ H p = some (.lst [.int x, .int y]) ∧ PotOk x y ∧ 1 ≤ n ∧ n ≤ 5 ∧
  ∀ H' r x' y' t, (∀ b o, b ≠ p → H b = some o → H' b = some o) → H' p = some (.lst [.int x', .int y']) → PotOk x' y' → t ∈ Sq.T n → H' r = some (.tup (t.map V.int)) → Q (.ref r) H'
theorem scTies : FnScope ["_law_pot_here", "_law_pairs", "_law_found", "_law_open_so", "_law_left", "_law_place", "_law_shut", "_law_other"] ["_law_pot_here", "_law_pairs"] (defScope sTies) := ⟨rfl, rfl, rfl, by decide +kernel, rfl, by decide +kernel, by decide +kernel⟩
/-- between two places -/
structure Drw (n : Nat) (H H' : Hp) (p fo o : Addr) (i : Nat) (ft op : List Int) (l x y : Int) : Prop where
  same : ∀ b u, b ≠ p → H b = some u → H' b = some u
  pot : H' p = some (.lst [.int x, .int y])
  ok : PotOk x y
  fn : H fo = none
  on : H o = none
  pf : p ≠ fo
  po : p ≠ o
  ffo : fo ≠ o
  hf : H' fo = some (.lst (ft.map V.int))
  ho : H' o = some (.lst (op.map V.int))
  len : ft.length = 2 * n
  bd : ∀ x ∈ op, 0 ≤ x ∧ x < 2 * (n : Int)
  few : op.length ≤ i
  outs : ∀ t ∈ Sq.outs (2 * n - i) i ft op l, t ∈ Sq.T n
theorem rep_zero (n : Nat) : (List.replicate n [V.int 0]).flatten = (List.replicate n (0 : Int)).map V.int := by
  induction n with
  | zero => rfl
  | succ n ih => rw [List.replicate_succ, List.replicate_succ, List.flatten_cons, ih]; rfl
theorem dropLast_map (op : List Int) : (op.map V.int).dropLast = op.dropLast.map V.int := by rw [List.map_dropLast]
theorem ok_ties {f fD : Addr} {fd fdD : FuncData} (F : Fun K "_law_ties" "_law_ties" sTies f fd) (B : Bi mg)
    (GD : FnOk P w K mg base CX0 1 fD fdD ["_law_pot_here", "_law_many"] spDip) (gD : mg "_law_dip" = some (.ref fD)) (kD : PySem.W.keepIn K (.ref fD) = true) (bD : Binds K fdD ["_law_pot_here", "_law_many"] []) : FnOk P w K mg base CX0 2 f fd ["_law_pot_here", "_law_pairs"] spTies := by
  refine F.ok scTies (fun vs H Q E h => ?_) (fun cdv A outer s H vs Q E hr h => ?_)
  · obtain ⟨p, x, y, n, rfl, _⟩ := h
    rfl
  · obtain ⟨p, x, y, n, rfl, hp, po, h1, h5, k⟩ := h
    refine ⟨_, pss_cons (ps_par3 (i := 2) (j := 3) (l := 4) (by rfl) scTies.nd rfl rfl rfl (by decide) (by decide) (by decide) rfl rfl rfl
        (pa_cons (pe_op op_rep (pe_lst (pa_cons pe_int pa_nil)) (pe_op op_mul pe_int (pv 1))) (pa_cons (pe_lst pa_nil) (pa_cons (pv 1) pa_nil))) (by rfl))
      (pss_cons (ps_for PassesOwn.never rfl (pi_range1 (by rfl) B.range (pa_cons (pe_op op_mul pe_int (pv 1)) pa_nil)) (pg_name (i := 5) scTies.nd rfl (.inl rfl))
        (Evl.pss_cut (ps_set (i := 6) scTies.nd rfl (.inl rfl) (pe_and (pe_cmpR (op_neD hr.units) (pv 3) (pe_lst pa_nil) (nomark _))
            (pe_one (pe_or (pe_cmpR op_eq (pv 4) pe_int (nomark _)) (pe_one (pe_cmpR op_eq (pe_call GD hr (by rfl) gD kD bD .nil pass0 (pa_cons (pv 0) (pa_cons pe_int pa_nil))) pe_int (nomark _)))))))
          (pss_one (ps_if (pt_val (pv 6))
            (pss_cons (ps_set (i := 7) scTies.nd rfl (.inl rfl) (pe_bm0 PySem.F.plainAttrs_list PySem.F.slot_list_pop PySem.F.type_list_pop mt_pop (pv 3)))
            (pss_cons (ps_asg (pv 5) (pg_sub (pv 2) (pv 7) set_list)) (pss_one (ps_asg (pv 7) (pg_sub (pv 2) (pv 5) set_list)))))
            (pss_cons (ps_expr (pe_bm PySem.F.plainAttrs_list PySem.F.slot_list_append PySem.F.type_list_append mt_append (pv 3) (pa_cons (pv 5) pa_nil)))
            (pss_one (ps_set (i := 4) scTies.nd rfl (.inl rfl) (pe_op op_sub (pv 4) pe_int))))))))
      (pss_one (ps_ret (pe_callTy call_tuple_of (by rfl) B.tuple (by decide +kernel) (pa_cons (pv 2) pa_nil))))), ?_⟩
    have en : (2 * (n : Int)).toNat = 2 * n := by omega
    refine ⟨(by show 1 ≤ sizeLine; decide), fun q hq => ?_⟩
    refine ⟨_, rfl, _, _, rfl, rfl, .inl ⟨by decide, by decide⟩, q, _, _, rfl, rfl, upd_same, by omega, by omega, by rw [en, sizeLine_eq]; show 1 * (2 * n) ≤ 16777216; omega, fun fo hfo => ?_⟩
    rw [en, rep_zero]
    refine ⟨Nat.zero_le _, fun o ho => ?_⟩
    refine ⟨_, rfl, _, _, _, rfl, ?_⟩
    have sq1 : Same H (upd H q (.lst [V.int 0])) := same_new (.refl _) hq
    have sq2 := same_new (o := .lst ((List.replicate (2 * n) (0 : Int)).map V.int)) sq1 hfo
    have sq3 := same_new (o := .lst ([] : List V)) sq2 ho
    refine ⟨_, rfl, _, _, rfl, rfl, .inl ⟨by decide, by decide⟩, _, rfl, by omega, by omega, ?_⟩
    show _
    rw [en]
    refine for_range (lo := 0) (n := 2 * n) (fun i σ H' => ∃ (ft op : List Int) (l x' y' : Int) (v5 v6 v7 : Option V), σ = [some (.ref p), some (.int (n : Int)), some (.ref fo), some (.ref o), some (.int l), v5, v6, v7] ∧ Drw n H H' p fo o i ft op l x' y')
      ⟨List.replicate (2 * n) 0, [], (n : Int), x, y, none, none, none, rfl, ⟨fun b u _ h => sq3 b u h, sq3 _ _ hp, po, sq1.free hfo, sq2.free ho, ?_, ?_, ?_, ?_, upd_same, by simp, fun x hx => (by cases hx), Nat.le_refl _, fun t ht => Sq.outs_in h1 (by omega) ht⟩⟩ ?_ ?_
    · exact ne_of_none (sq1 _ _ hp) hfo
    · exact ne_of_none (sq2 _ _ hp) ho
    · exact ne_of_none (upd_same (H := upd H q (.lst [V.int 0]))) ho
    · exact upd_keep upd_same ho
    · rintro i σ H1 hi ⟨ft, op, l, x', y', v5, v6, v7, rfl, D⟩
      refine ⟨fun σ' H' => ∃ (b : Bool) (x' y' : Int) (v7 : Option V), σ' = [some (.ref p), some (.int (n : Int)), some (.ref fo), some (.ref o), some (.int l), some (.int (i : Int)), some (.bl b), v7] ∧ Drw n H H' p fo o i ft op l x' y' ∧ (b = true → op ≠ []) ∧ (b = false → ¬ (op ≠ [] ∧ l = 0)), ?_, ?_⟩
      · refine ⟨_, rfl, Nat.zero_le _, fun e he => ?_⟩
        have e0 : ∀ (a : Addr) (u : HO), H1 a = some u → upd H1 e (.lst []) a = some u := fun a u h => upd_keep h he
        have D1 : Drw n H (upd H1 e (.lst [])) p fo o i ft op l x' y' := ⟨fun b u hb h => e0 _ _ (D.same b u hb h), e0 _ _ D.pot, D.ok, D.fn, D.on, D.pf, D.po, D.ffo, e0 _ _ D.hf, e0 _ _ D.ho, D.len, D.bd, D.few, D.outs⟩
        refine ⟨.list (op.map PyData.int), .list (([] : List Int).map PyData.int), .lst (.of D1.ho) (dpAll_ints _), .lst (.of upd_same) (dpAll_ints []), PySem.W.ke_shaped_ints _, PySem.W.ke_shaped_ints _, _, rfl, ?_⟩
        rw [eqv_lst]
        refine ite2 (fun c => ?_) (fun c => ?_)
        · have c' : op ≠ [] := by simpa using c
          refine ⟨_, rfl, rfl, _, rfl, ?_⟩
          refine ite2 (fun d => ?_) (fun d => ?_)
          · refine ⟨true, x', y', v7, ?_, D1, fun _ => c', fun z => by cases z⟩
            show [_, _, _, _, _, some (V.int (0 + (i : Int))), _, _] = _
            rw [Int.zero_add]
          · have d' : ¬ l = 0 := by simpa using d
            refine ⟨_, rfl, p, x', y', 2, rfl, D1.pot, D1.ok, by decide, by decide, fun x2 y2 dd po2 g0 g1 => ?_⟩
            have D2 : Drw n H (upd (upd H1 e (.lst [])) p (.lst [.int x2, .int y2])) p fo o i ft op l x2 y2 := ⟨fun b u hb h => by rw [upd_ne hb]; exact D1.same b u hb h, upd_same, po2, D.fn, D.on, D.pf, D.po, D.ffo, by rw [upd_ne D.pf.symm]; exact D1.hf, by rw [upd_ne D.po.symm]; exact D1.ho, D.len, D.bd, D.few, D.outs⟩
            refine ⟨rfl, decide (V.int dd = V.int 0), x2, y2, v7, ?_, D2, fun _ => c', fun _ z => d' z.2⟩
            show [_, _, _, _, _, some (V.int (0 + (i : Int))), _, _] = _
            rw [Int.zero_add]
        · have c' : op = [] := by simpa using c
          refine ⟨false, x', y', v7, ?_, D1, fun z => (by cases z), fun _ z => z.1 c'⟩
          have : (!decide (op = [])) = false := by rw [c']; rfl
          show [_, _, _, _, _, some (V.int (0 + (i : Int))), _, _] = _
          rw [Int.zero_add]
      · rintro σ H2 ⟨b, x', y', v7, rfl, D, hb1, hb2⟩
        have hk : 2 * n - i = (2 * n - (i + 1)) + 1 := by omega
        have ho := D.outs
        rw [hk] at ho
        unfold Sq.outs at ho
        refine ⟨_, rfl, b, rfl, ?_⟩
        cases b with
        | true =>
          refine iteT ?_
          have hop := hb1 rfl
          rw [if_neg hop] at ho
          have hpos : 0 < op.length := List.length_pos_iff.mpr hop
          have hlast : op.length - 1 < op.length := by omega
          have bl := D.bd _ (getD_mem hlast)
          refine ⟨_, rfl, .inl ⟨rfl, _, .of D.ho⟩, o, _, .int (op.getD (op.length - 1) 0), rfl, rfl, D.ho, ?_, ?_⟩
          · rw [List.length_map, List.getElem?_map, List.getD_eq_getElem?_getD, List.getElem?_eq_getElem hlast]
            rfl
          have hf2 : upd H2 o (.lst (op.map V.int).dropLast) fo = some (.lst (ft.map V.int)) := by rw [upd_ne D.ffo]; exact D.hf
          refine ⟨_, rfl, _, rfl, _, rfl, fo, _, _, (op.getD (op.length - 1) 0).toNat, rfl, rfl, hf2, ixN_of (by omega) (by rw [List.length_map, D.len]; omega), ?_⟩
          refine ⟨_, rfl, _, rfl, _, rfl, fo, _, _, i, rfl, rfl, upd_same, ixN_of rfl (by rw [List.length_set, List.length_map, D.len]; omega), ?_⟩
          refine ⟨Sq.shutF ft op i, op.dropLast, l, x', y', _, _, _, rfl, ⟨fun c u hc h => ?_, ?_, D.ok, D.fn, D.on, D.pf, D.po, D.ffo, ?_, ?_, ?_, fun z hz => D.bd z (List.dropLast_subset _ hz), ?_, fun t ht => ho t (List.mem_append_left _ ht)⟩⟩
          · rw [upd_ne (ne_of_none h D.fn), upd_ne (ne_of_none h D.fn), upd_ne (ne_of_none h D.on)]
            exact D.same c u hc h
          · rw [upd_ne D.pf, upd_ne D.pf, upd_ne D.po]
            exact D.pot
          · rw [upd_same]
            unfold Sq.shutF
            simp [List.map_set]
          · rw [upd_ne D.ffo.symm, upd_ne D.ffo.symm, upd_same, dropLast_map]
          · unfold Sq.shutF
            rw [List.length_set, List.length_set]
            exact D.len
          · rw [List.length_dropLast]
            have := D.few
            omega
        | false =>
          refine iteF ?_
          rw [if_neg (hb2 rfl)] at ho
          have hfew := D.few
          refine ⟨_, rfl, .inl ⟨rfl, _, .of D.ho⟩, _, rfl, o, _, _, rfl, rfl, D.ho, by rw [List.length_map, sizeLine_eq]; omega, ?_⟩
          refine ⟨_, rfl, _, _, rfl, rfl, ?_⟩
          refine ⟨ft, op ++ [(i : Int)], l - 1, x', y', _, _, _, rfl, ⟨fun c u hc h => ?_, ?_, D.ok, D.fn, D.on, D.pf, D.po, D.ffo, ?_, ?_, D.len, fun z hz => ?_, ?_, fun t ht => ho t (List.mem_append_right _ ht)⟩⟩
          · rw [upd_ne (ne_of_none h D.on)]
            exact D.same c u hc h
          · rw [upd_ne D.po]
            exact D.pot
          · rw [upd_ne D.ffo]
            exact D.hf
          · rw [upd_same, List.map_append]
            rfl
          · rcases List.mem_append.mp hz with hz | hz
            · exact D.bd z hz
            · rw [List.mem_singleton.mp hz]
              omega
          · rw [List.length_append, List.length_singleton]
            omega
    · rintro σ H1 ⟨ft, op, l, x', y', v5, v6, v7, rfl, D⟩
      have ht := D.outs ft (by rw [Nat.sub_self]; exact List.mem_singleton.mpr rfl)
      refine ⟨_, rfl, fo, _, rfl, .inl ⟨.of D.hf, fun r hr' => ?_⟩⟩
      exact k _ r x' y' ft (fun b u hb h => upd_keep (D.same b u hb h) hr') (upd_keep D.pot hr') D.ok ht upd_same
end
end SqP
/-! SqL3: _law_stirred. -/
namespace SqP
open PySem PySem.Spec PyProof.Rows L2
theorem op_inK {X : Cx} {K : PySem.W.Frag} (h : X.K = K) : OpR X (compareOp .In) (rIn K false) := by
  subst h
  exact op_in_seq
theorem op_notInK {X : Cx} {K : PySem.W.Frag} (h : X.K = K) : OpR X (compareOp .NotIn) (rIn K true) := by
  subst h
  exact op_notIn_seq
/-- an expression, with a word between it and what follows -/
def tMidE (te : TE) : TE := fun σ H Q => ∃ M : V → Hp → Prop, te σ H M ∧ ∀ v H', M v H' → Q v H'
theorem pe_mid {X : Cx} {e : Expr} {te : TE} (h : PE X e te) : PE X e (tMidE te) := ⟨fun pins s σ H Q I ⟨M, h1, h2⟩ => thn (h.run pins s σ H M I h1) fun v s' ⟨x, H', I', r, m⟩ => ⟨x, H', I', r, h2 _ _ m⟩⟩
theorem inV2 (x a b : Int) : inV (.int x) [.int a, .int b] = (a == x || b == x) := by
  unfold inV
  simp [eqV]
theorem filt_more (p : Nat → Bool) (i : Nat) : (List.range (i + 1)).filter p = (List.range i).filter p ++ (if p i = true then [i] else []) := by
  rw [Sq.range_more, List.filter_append]
  congr 1
  by_cases c : p i = true
  · rw [if_pos c]
    simp [c]
  · rw [if_neg c]
    simp [c]
theorem PrsAt.one {H : Hp} {a b : Int} {q : Addr} (h : H q = some (.tup [.int a, .int b])) : PrsAt H [(a, b)] [q] := .cons h .nil
section
variable {P : Program} {w : World} {K : PySem.W.Frag} {mg : Str → Option Value} {base : Heap}
def spStirred : Sp := fun vs H Q _ => ∃ (a : Addr) (n p : Nat) (ns : List Int), vs = [.ref a, .int (p : Int)] ∧ H a = some (.tup (ns.map V.int)) ∧ ns ∈ Sq.T n ∧ p < 2 * n ∧
  ∀ H' r, Same H H' → H' r = some (.tup ((Sq.stirAt ns p).map V.int)) → Q (.ref r) H'
abbrev nmStirred : List Str := ["_law_ties_here", "_law_place", "_law_size", "_law_other", "_law_pairs", "_law_rest", "_law_left", "_law_found", "_law_one_here", "_law_two", "_law_pair"]
theorem scStirred : FnScope nmStirred ["_law_ties_here", "_law_place"] (defScope sStirred) := ⟨rfl, rfl, rfl, by decide +kernel, rfl, by decide +kernel, by decide +kernel⟩
set_option maxHeartbeats 16000000 in
theorem ok_stirred {f : Addr} {fd : FuncData} (F : Fun K "_law_stirred" "_law_stirred" sStirred f fd) (B : Bi mg) : FnOk P w K mg base CX0 1 f fd ["_law_ties_here", "_law_place"] spStirred := by
  refine F.ok scStirred (fun vs H Q E h => ?_) (fun cdv A outer s H vs Q E hr h => ?_)
  · obtain ⟨a, n, p, ns, rfl, _⟩ := h
    rfl
  · obtain ⟨a, n, p, ns, rfl, hA, hT, hp, k⟩ := h
    refine ⟨_, pss_cons (ps_set (i := 2) scStirred.nd rfl (.inl rfl) (pe_callB (call_lenK (K := K) rfl) (by rfl) B.len PySem.boot_len (pa_cons (pv 0) pa_nil)))
      (pss_cons (ps_set (i := 3) scStirred.nd rfl (.inr rfl) (pe_op op_mod (pe_op op_add (pv 1) pe_int) (pv 2)))
      (Evl.pss_cut (ps_setLc (i := 4) (own := [("_law_one_here", 8)]) (g := gName 8) rfl scStirred.nd rfl rfl (sw_true rfl rfl rfl (by decide +kernel)) (pi_range1 (by rfl) B.range (pa_cons (pv 2) pa_nil)) (blkOk_by (N := nmStirred) (sc := defScope sStirred) (by decide +kernel))
          (fun _ _ _ _ _ => pg_name (i := 8) scStirred.nd rfl (.inl rfl)) (fun _ _ _ _ _ => pts_one (pt_cmpR op_lt (pv 8) (pe_ix (ix_tupK (K := K) rfl) (pv 0) (pv 8) (fun _ _ => rfl)) (nomark _)))
          (fun _ _ _ _ _ => pe_tup (pa_cons (pv 8) (pa_cons (pe_ix (ix_tupK (K := K) rfl) (pv 0) (pv 8) (fun _ _ => rfl)) pa_nil))))
      (Evl.pss_cut (ps_setLc (i := 5) (own := [("_law_pair", 10)]) (g := gName 10) rfl scStirred.nd rfl rfl (sw_true rfl rfl rfl (by decide +kernel)) (pi_list (pv 4)) (blkOk_by (N := nmStirred) (sc := defScope sStirred) (by decide +kernel))
          (fun _ _ _ _ _ => pg_name (i := 10) scStirred.nd rfl (.inl rfl)) (fun _ _ _ _ _ => pts_one (PW.pt (pw_and (pt_cmpR (op_notInK (K := K) rfl) (pv 1) (pv 10) (by rfl)) (pw_and1 (pt_cmpR (op_notInK (K := K) rfl) (pv 3) (pv 10) (by rfl))))))
          (fun _ _ _ _ _ => pv 10))
      (Evl.pss_cut (ps_setLc (i := 6) (own := [("_law_one_here", 8)]) (g := gName 8) rfl scStirred.nd rfl rfl (sw_true rfl rfl rfl (by decide +kernel)) (pi_range1 (by rfl) B.range (pa_cons (pv 2) pa_nil)) (blkOk_by (N := nmStirred) (sc := defScope sStirred) (by decide +kernel))
          (fun _ _ _ _ _ => pg_name (i := 8) scStirred.nd rfl (.inl rfl)) (fun _ _ _ _ _ => pts_one (PW.pt (pw_and (pt_cmpR (op_inK (K := K) rfl) (pe_ix (ix_tupK (K := K) rfl) (pv 0) (pv 8) (fun _ _ => rfl)) (pe_tup (pa_cons (pv 1) (pa_cons (pv 3) pa_nil))) (by rfl))
            (pw_and1 (pt_cmpR (op_notInK (K := K) rfl) (pv 8) (pe_tup (pa_cons (pv 1) (pa_cons (pv 3) pa_nil))) (by rfl))))))
          (fun _ _ _ _ _ => pv 8))
      (pss_cons (ps_set (i := 7) scStirred.nd rfl (.inl rfl) (pe_op op_rep (pe_lst (pa_cons pe_int pa_nil)) (pv 2)))
      (pss_cons (ps_for PassesOwn.never rfl (pi_list (pe_mid (pe_op op_cat (pe_op op_cat (pv 5) (pe_lst (pa_cons (pe_tup (pa_cons (pv 1) (pa_cons (pv 3) pa_nil))) pa_nil)))
          (pe_ifExp (pt_cmpR (op_neD hr.units) (pv 6) (pe_lst pa_nil) (nomark _)) (pe_lst (pa_cons (pe_tup (pa_cons (pe_ix (ix_listK (K := K) rfl) (pv 6) pe_int (fun _ _ => rfl)) (pa_cons (pe_ix (ix_listK (K := K) rfl) (pv 6) pe_int (fun _ _ => rfl)) pa_nil))) pa_nil)) (pe_lst pa_nil)))))
          (pg_tup rfl (pgs_cons (pg_name (i := 8) scStirred.nd rfl (.inl rfl)) (pgs_cons (pg_name (i := 9) scStirred.nd rfl (.inl rfl)) pgs_nil)))
          (pss_cons (ps_asg (pv 9) (pg_sub (pv 7) (pv 8) set_list)) (pss_one (ps_asg (pv 8) (pg_sub (pv 7) (pv 9) set_list)))))
      (pss_one (ps_ret (pe_callTy call_tuple_of (by rfl) B.tuple (by decide +kernel) (pa_cons (pv 7) pa_nil)))))))))), ?_⟩
    obtain ⟨hlen, hbd, _⟩ := Sq.T_shape hT
    have sh := shp_T hT
    have hn5 := Sq.T_lt hT
    have hn1 := Sq.T_pos hT
    have hTa : SqT K H a (ns.map V.int) := .of hA
    have at_nat : ∀ j : Nat, j < ns.length → atI (ns.map V.int) (0 + (j : Int)) = some (.int (ns.getD j 0)) := fun j hj => by
      have := at_int (ns := ns) (x := (0 + (j : Int))) (by omega) (by omega)
      simpa using this
    have at_nat2 : ∀ j : Nat, j < ns.length → atI (ns.map V.int) (j : Int) = some (.int (ns.getD j 0)) := fun j hj => by
      have := at_nat j hj
      rw [Int.zero_add] at this
      exact this
    have ho : (p + 1) % ns.length < ns.length := Nat.mod_lt _ sh.pos
    have eo : ((p : Int) + 1) % ((ns.length : Nat) : Int) = (((p + 1) % ns.length : Nat) : Int) := by
      rw [show ((p : Int) + 1) = ((p + 1 : Nat) : Int) by omega]
      exact (Int.natCast_emod (p + 1) ns.length).symm
    have eN : ((ns.length : Nat) : Int).toNat = ns.length := by simp
    refine ⟨_, rfl, a, _, rfl, .inr hTa, ?_⟩
    rw [List.length_map]
    refine ⟨_, rfl, _, _, rfl, rfl, _, rfl, _, _, rfl, rfl, (by show (0 : Int) < ((ns.length : Nat) : Int); have := sh.pos; omega), ?_⟩
    show gName 3 (V.int (((p : Int) + 1) % ((ns.length : Nat) : Int))) _ _ _
    rw [eo]
    generalize hoo : (p + 1) % ns.length = oo at ho
    refine ⟨fun σ' H' => ∃ (l4 : Addr) (qs : List Addr), σ' = [some (.ref a), some (.int (p : Int)), some (.int ((ns.length : Nat) : Int)), some (.int (oo : Int)), some (.ref l4), none, none, none, none, none, none] ∧ Same H H' ∧ H' l4 = some (.lst (qs.map V.ref)) ∧ PrsAt H' (Sq.pairsOf ns) qs, ?_, ?_⟩
    · refine ⟨_, rfl, _, rfl, by omega, by omega, fun D hD => ?_⟩
      rw [eN]
      refine lc_range (lo := 0) (n := ns.length) (fun i H' => Same H H' ∧ ∃ qs : List Addr, H' D = some (.lst (qs.map V.ref)) ∧ qs.length ≤ i ∧ PrsAt H' (((List.range i).filter fun (i : Nat) => decide ((i : Int) < ns.getD i 0)).map fun (i : Nat) => ((i : Int), ns.getD i 0)) qs)
        ⟨same_new (.refl _) hD, [], upd_same, Nat.le_refl _, .nil⟩ ?_ ?_
      · rintro i H1 hi ⟨s1, qs, hq1, hz, hp1⟩
        refine ⟨rfl, ?_⟩
        refine ⟨_, rfl, _, rfl, _, rfl, a, _, _, _, rfl, rfl, sameT s1 hTa, at_nat i hi, _, _, rfl, rfl, _, rfl, ?_⟩
        rw [filt_more, List.map_append, Int.zero_add]
        refine ite2 (fun c => ?_) (fun c => ?_)
        · refine ⟨_, rfl, _, rfl, _, rfl, a, _, _, _, rfl, rfl, sameT s1 hTa, at_nat2 i hi, (by show 2 ≤ sizeLine; decide), fun t ht => ?_⟩
          have hq2 := upd_keep (u := HO.tup [V.int (i : Int), V.int (ns.getD i 0)]) hq1 ht
          refine ⟨_, hq2, by rw [List.length_map, sizeLine_eq]; omega, same_mut (same_new s1 ht) hD, qs ++ [t], by rw [upd_same, List.map_append]; rfl, by rw [List.length_append]; show qs.length + 1 ≤ i + 1; omega, ?_⟩
          rw [if_pos c]
          have tk : ∀ r xs, upd H1 t (.tup [V.int (i : Int), V.int (ns.getD i 0)]) r = some (.tup xs) → upd (upd H1 t (.tup [V.int (i : Int), V.int (ns.getD i 0)])) D (.lst (qs.map V.ref ++ [V.ref t])) r = some (.tup xs) := fun r xs z => by
            rw [upd_ne (ne_of z hq2 (fun z => nomatch z))]
            exact z
          refine ((hp1.same (same_new (.refl _) ht)).tups tk).app (PrsAt.one (tk _ _ ?_))
          rw [upd_same]
        · rw [if_neg c, List.map_nil, List.append_nil]
          exact ⟨s1, qs, hq1, by omega, hp1⟩
      · rintro H1 ⟨s1, qs, hq1, hz, hp1⟩
        exact ⟨D, qs, rfl, s1, hq1, hp1⟩
    · rintro σ H1 ⟨l4, qs4, rfl, s1, h4, p4⟩
      have hpl : (Sq.pairsOf ns).length ≤ 10 := by
        unfold Sq.pairsOf
        rw [List.length_map]
        refine Nat.le_trans (List.length_filter_le _ _) ?_
        rw [List.length_range]
        omega
      refine ⟨fun σ' H' => ∃ (l5 : Addr) (qs : List Addr), σ' = [some (.ref a), some (.int (p : Int)), some (.int ((ns.length : Nat) : Int)), some (.int (oo : Int)), some (.ref l4), some (.ref l5), none, none, none, none, none] ∧ Same H H' ∧ H' l5 = some (.lst (qs.map V.ref)) ∧ PrsAt H' (Sq.restOf ns p) qs, ?_, ?_⟩
      · refine ⟨_, rfl, l4, rfl, ⟨_, .of h4⟩, fun D hD => ?_⟩
        refine lc_list (K := K) (a := l4) (xs := qs4.map V.ref) (fun i H' => Same H1 H' ∧ ∃ qs : List Addr, H' D = some (.lst (qs.map V.ref)) ∧ PrsAt H' (((Sq.pairsOf ns).take i).filter fun q => !(q.1 == (p : Int) || q.2 == (p : Int)) && !(q.1 == (oo : Int) || q.2 == (oo : Int))) qs)
          ⟨same_new (.refl _) hD, [], upd_same, .nil⟩ (fun i H' _ ⟨s, _⟩ => .of (s _ _ h4)) ?_ ?_
        · rintro i x H2 hi ⟨s2, qs, hq2, hp2⟩
          obtain ⟨q, hq, rfl⟩ := get_ref hi
          obtain ⟨pq, hpq, hHq⟩ := p4.get hq
          rw [Sq.take_more hpq, List.filter_append]
          have hqz : qs.length ≤ 42 := by
            rw [← Paired.length hp2]
            refine Nat.le_trans (List.length_filter_le _ _) (Nat.le_trans (List.length_take_le' _ _) (by omega))
          refine ⟨rfl, ?_⟩
          refine ⟨_, rfl, _, rfl, q, _, rfl, .inr (.of (s2 _ _ hHq)), rfl, rfl, _, rfl, ?_⟩
          show if (!inV (V.int (p : Int)) [V.int pq.1, V.int pq.2]) = true then _ else _
          rw [inV2]
          cases c1 : (pq.1 == (p : Int) || pq.2 == (p : Int)) with
          | true =>
            refine iteF ?_
            refine iteF ?_
            refine ⟨s2, qs, hq2, ?_⟩
            have : [pq].filter (fun q => !(q.1 == (p : Int) || q.2 == (p : Int)) && !(q.1 == (oo : Int) || q.2 == (oo : Int))) = [] := by simp [List.filter, c1]
            rw [this, List.append_nil]
            exact hp2
          | false =>
            refine iteT ?_
            refine ⟨_, rfl, _, rfl, q, _, rfl, .inr (.of (s2 _ _ hHq)), rfl, rfl, _, rfl, ?_⟩
            show if (!inV (V.int (oo : Int)) [V.int pq.1, V.int pq.2]) = true then _ else _
            rw [inV2]
            cases c2 : (pq.1 == (oo : Int) || pq.2 == (oo : Int)) with
            | true =>
              refine iteF ?_
              refine ⟨s2, qs, hq2, ?_⟩
              have : [pq].filter (fun q => !(q.1 == (p : Int) || q.2 == (p : Int)) && !(q.1 == (oo : Int) || q.2 == (oo : Int))) = [] := by simp [List.filter, c1, c2]
              rw [this, List.append_nil]
              exact hp2
            | false =>
              refine iteT ?_
              refine ⟨_, rfl, _, hq2, by rw [List.length_map]; exact small42 hqz, same_mut s2 hD, qs ++ [q], by rw [upd_same, List.map_append]; rfl, ?_⟩
              have : [pq].filter (fun q => !(q.1 == (p : Int) || q.2 == (p : Int)) && !(q.1 == (oo : Int) || q.2 == (oo : Int))) = [pq] := by simp [List.filter, c1, c2]
              rw [this]
              have tk : ∀ r xs, H2 r = some (.tup xs) → upd H2 D (.lst (qs.map V.ref ++ [V.ref q])) r = some (.tup xs) := fun r xs z => by
                rw [upd_ne (ne_of z hq2 (fun z => nomatch z))]
                exact z
              exact (hp2.tups tk).app (PrsAt.one (tk _ _ (s2 _ _ hHq)))
        · rintro H2 ⟨s2, qs, hq2, hp2⟩
          rw [List.length_map, ← Paired.length p4, List.take_length] at hp2
          refine ⟨D, qs, rfl, s1.trans s2, hq2, ?_⟩
          unfold Sq.restOf
          rw [hoo]
          exact hp2
      · rintro σ H2 ⟨l5, qs5, rfl, s2, h5, p5⟩
        refine ⟨fun σ' H' => ∃ (l6 : Addr), σ' = [some (.ref a), some (.int (p : Int)), some (.int ((ns.length : Nat) : Int)), some (.int (oo : Int)), some (.ref l4), some (.ref l5), some (.ref l6), none, none, none, none] ∧ Same H H' ∧ H' l5 = some (.lst (qs5.map V.ref)) ∧ PrsAt H' (Sq.restOf ns p) qs5 ∧ H' l6 = some (.lst ((Sq.leftOf ns p).map V.int)), ?_, ?_⟩
        · refine ⟨_, rfl, _, rfl, by omega, by omega, fun D hD => ?_⟩
          rw [eN]
          refine lc_range (lo := 0) (n := ns.length) (fun i H' => Same H2 H' ∧ H' D = some (.lst ((((List.range i).filter fun (i : Nat) => (ns.getD i 0 == (p : Int) || ns.getD i 0 == (oo : Int)) && !((i : Int) == (p : Int) || (i : Int) == (oo : Int))).map fun (i : Nat) => (i : Int)).map V.int)))
            ⟨same_new (.refl _) hD, upd_same⟩ ?_ ?_
          · rintro i H3 hi ⟨s3, hq3⟩
            refine ⟨rfl, ?_⟩
            rw [filt_more, List.map_append, List.map_append, Int.zero_add]
            refine ⟨_, rfl, _, rfl, a, _, _, _, rfl, rfl, sameT (s2.trans s3) hTa, at_nat2 i hi, _, rfl, _, rfl, (by show 2 ≤ sizeLine; decide), fun t ht => ?_⟩
            have s4 : Same H3 (upd H3 t (.tup [V.int (p : Int), V.int (oo : Int)])) := same_new (.refl _) ht
            refine ⟨t, _, rfl, .inr (.of upd_same), rfl, rfl, _, rfl, ?_⟩
            show if inV (V.int (ns.getD i 0)) [V.int (p : Int), V.int (oo : Int)] = true then _ else _
            have e1 : inV (V.int (ns.getD i 0)) [V.int (p : Int), V.int (oo : Int)] = (ns.getD i 0 == (p : Int) || ns.getD i 0 == (oo : Int)) := by
              rw [inV2, BEq.comm (a := (p : Int)), BEq.comm (a := (oo : Int))]
            rw [e1]
            cases c1 : (ns.getD i 0 == (p : Int) || ns.getD i 0 == (oo : Int)) with
            | false =>
              refine iteF ?_
              refine iteF ?_
              rw [if_neg (by simp), List.map_nil, List.map_nil, List.append_nil]
              exact ⟨s3.trans s4, s4 _ _ hq3⟩
            | true =>
              refine iteT ?_
              refine ⟨_, rfl, _, rfl, _, rfl, (by show 2 ≤ sizeLine; decide), fun t2 ht2 => ?_⟩
              have s5 : Same H3 (upd (upd H3 t (.tup [V.int (p : Int), V.int (oo : Int)])) t2 (.tup [V.int (p : Int), V.int (oo : Int)])) := same_new s4 ht2
              refine ⟨t2, _, rfl, .inr (.of upd_same), rfl, rfl, _, rfl, ?_⟩
              show if (!inV (V.int (i : Int)) [V.int (p : Int), V.int (oo : Int)]) = true then _ else _
              have e2 : inV (V.int (i : Int)) [V.int (p : Int), V.int (oo : Int)] = ((i : Int) == (p : Int) || (i : Int) == (oo : Int)) := by
                rw [inV2, BEq.comm (a := (p : Int)), BEq.comm (a := (oo : Int))]
              rw [e2]
              cases c2 : ((i : Int) == (p : Int) || (i : Int) == (oo : Int)) with
              | true =>
                refine iteF ?_
                rw [if_neg (by simp), List.map_nil, List.map_nil, List.append_nil]
                exact ⟨s3.trans s5, s5 _ _ hq3⟩
              | false =>
                refine iteT ?_
                rw [if_pos (by simp)]
                refine ⟨_, rfl, _, s5 _ _ hq3, ?_, same_mut (s3.trans s5) hD, by rw [upd_same]; rfl⟩
                rw [List.length_map, List.length_map]
                refine small42 (Nat.le_trans (List.length_filter_le _ _) ?_)
                rw [List.length_range]
                omega
          · rintro H3 ⟨s3, hq3⟩
            refine ⟨D, rfl, s2.trans s3, s3 _ _ h5, p5.same s3, ?_⟩
            unfold Sq.leftOf
            rw [hoo]
            exact hq3
        · rintro σ H3 ⟨l6, rfl, s3, h5', p5', h6⟩
          have hrl : (Sq.restOf ns p).length ≤ 10 := by
            unfold Sq.restOf
            exact Nat.le_trans (List.length_filter_le _ _) hpl
          have hql : qs5.length ≤ 10 := by
            rw [← Paired.length p5']
            exact hrl
          refine ⟨(by show 1 ≤ sizeLine; decide), fun e he => ?_⟩
          refine ⟨_, rfl, e, _, _, rfl, rfl, upd_same, by omega, by omega, by rw [eN, sizeLine_eq]; show 1 * ns.length ≤ 16777216; omega, fun fo hfo => ?_⟩
          rw [eN, rep_zero]
          have s4 : Same H3 (upd H3 e (.lst [V.int 0])) := same_new (.refl _) he
          have s5 : Same H3 (upd (upd H3 e (.lst [V.int 0])) fo (.lst ((List.replicate ns.length (0 : Int)).map V.int))) := same_new s4 hfo
          have hfoH : H fo = none := s3.free (s4.free hfo)
          generalize hH4 : upd (upd H3 e (.lst [V.int 0])) fo (.lst ((List.replicate ns.length (0 : Int)).map V.int)) = H4 at s5
          have hfo4 : H4 fo = some (.lst ((List.replicate ns.length (0 : Int)).map V.int)) := by rw [← hH4]; exact upd_same
          refine ⟨fun v H5 => ∃ (l : Addr) (qs : List Addr), v = .ref l ∧ Same H4 H5 ∧ H5 l = some (.lst (qs.map V.ref)) ∧ l ≠ fo ∧ PrsAt H5 (Sq.linksOf ns p) qs, ?_, ?_⟩
          · refine ⟨_, rfl, _, rfl, _, rfl, (by show 2 ≤ sizeLine; decide), fun t ht => ?_⟩
            refine ⟨(by show 1 ≤ sizeLine; decide), fun b hb => ?_⟩
            have s6 : Same H4 (upd (upd H4 t (.tup [V.int (p : Int), V.int (oo : Int)])) b (.lst [V.ref t])) := same_new (same_new (.refl _) ht) hb
            refine ⟨l5, b, _, _, rfl, rfl, s6 _ _ (s5 _ _ h5'), upd_same, by rw [List.length_map, sizeLine_eq]; show qs5.length + 1 ≤ 16777216; omega, fun c hc => ?_⟩
            have s7 := same_new (o := .lst (qs5.map V.ref ++ [V.ref t])) s6 hc
            refine ⟨_, rfl, Nat.zero_le _, fun g hg => ?_⟩
            have s8 := same_new (o := .lst ([] : List V)) s7 hg
            have hc8 := upd_keep (u := HO.lst ([] : List V)) (upd_same (H := upd (upd H4 t (.tup [V.int (p : Int), V.int (oo : Int)])) b (.lst [V.ref t])) (a := c) (o := .lst (qs5.map V.ref ++ [V.ref t]))) hg
            generalize hH8 : upd (upd (upd (upd H4 t (.tup [V.int (p : Int), V.int (oo : Int)])) b (.lst [V.ref t])) c (.lst (qs5.map V.ref ++ [V.ref t]))) g (.lst []) = H8 at s8 hc8
            have hg8 : H8 g = some (.lst []) := by rw [← hH8]; exact upd_same
            have hH4t : H8 t = some (.tup [V.int (p : Int), V.int (oo : Int)]) := by
              rw [← hH8]
              exact upd_keep (upd_keep (upd_keep upd_same hb) hc) hg
            have hfo8 := s8 _ _ hfo4
            have h68 := s8 _ _ (s5 _ _ h6)
            refine ⟨.list ((Sq.leftOf ns p).map PyData.int), .list (([] : List Int).map PyData.int), .lst (.of h68) (dpAll_ints _), .lst (.of hg8) (dpAll_ints []), PySem.W.ke_shaped_ints _, PySem.W.ke_shaped_ints _, _, rfl, ?_⟩
            rw [eqv_lst]
            have base8 : PrsAt H8 (Sq.restOf ns p ++ [((p : Int), (((p + 1) % ns.length : Nat) : Int))]) (qs5 ++ [t]) := by
              rw [hoo]
              exact (p5'.same (s5.trans s8)).app (PrsAt.one hH4t)
            have hc8' : H8 c = some (.lst ((qs5 ++ [t]).map V.ref)) := by rw [hc8, List.map_append]; rfl
            refine ite2 (fun d => ?_) (fun d => ?_)
            · have d' : Sq.leftOf ns p ≠ [] := by simpa using d
              have ev := Sq.left_even hT hp
              have hl2 : 2 ≤ (Sq.leftOf ns p).length := by
                have := List.length_pos_iff.mpr d'
                omega
              have g0 : atI ((Sq.leftOf ns p).map V.int) 0 = some (.int ((Sq.leftOf ns p).getD 0 0)) := by
                have := at_of (xs := (Sq.leftOf ns p).map V.int) (z := 0) (j := 0) (v := .int ((Sq.leftOf ns p).getD 0 0)) rfl (by
                  rw [List.getElem?_map, List.getD_eq_getElem?_getD, List.getElem?_eq_getElem (by omega)]; rfl)
                exact this
              have g1 : atI ((Sq.leftOf ns p).map V.int) 1 = some (.int ((Sq.leftOf ns p).getD 1 0)) := by
                have := at_of (xs := (Sq.leftOf ns p).map V.int) (z := 1) (j := 1) (v := .int ((Sq.leftOf ns p).getD 1 0)) rfl (by
                  rw [List.getElem?_map, List.getD_eq_getElem?_getD, List.getElem?_eq_getElem (by omega)]; rfl)
                exact this
              refine ⟨_, rfl, l6, _, 0, _, rfl, rfl, .of h68, g0, _, rfl, l6, _, 1, _, rfl, rfl, .of h68, g1, (by show 2 ≤ sizeLine; decide), fun t2 ht2 => ?_⟩
              refine ⟨(by show 1 ≤ sizeLine; decide), fun m hm => ?_⟩
              have s9 : Same H8 (upd (upd H8 t2 (.tup [V.int ((Sq.leftOf ns p).getD 0 0), V.int ((Sq.leftOf ns p).getD 1 0)])) m (.lst [V.ref t2])) := same_new (same_new (.refl _) ht2) hm
              refine ⟨c, m, _, _, rfl, rfl, s9 _ _ hc8', upd_same, by rw [List.length_map, List.length_append, sizeLine_eq]; show qs5.length + 1 + 1 ≤ 16777216; omega, fun z hz => ?_⟩
              refine ⟨z, (qs5 ++ [t]) ++ [t2], rfl, (s8.trans s9).trans (same_new (.refl _) hz), by rw [upd_same]; simp, (ne_of_none (s9 _ _ hfo8) hz).symm, ?_⟩
              unfold Sq.linksOf
              rw [if_neg (by simpa using d')]
              refine PrsAt.same ?_ (same_new (.refl _) hz)
              exact (base8.same s9).app (PrsAt.one (upd_keep upd_same hm))
            · have d' : Sq.leftOf ns p = [] := by simpa using d
              refine ⟨Nat.zero_le _, fun m hm => ?_⟩
              have s9 : Same H8 (upd H8 m (.lst [])) := same_new (.refl _) hm
              refine ⟨c, m, _, _, rfl, rfl, s9 _ _ hc8', upd_same, by rw [List.length_map, List.length_append, sizeLine_eq]; show qs5.length + 1 + 0 ≤ 16777216; omega, fun z hz => ?_⟩
              refine ⟨z, qs5 ++ [t], rfl, (s8.trans s9).trans (same_new (.refl _) hz), by rw [upd_same, List.append_nil], (ne_of_none (s9 _ _ hfo8) hz).symm, ?_⟩
              unfold Sq.linksOf
              rw [if_pos (by rw [d']; rfl)]
              have base9 := (base8.same s9).same (same_new (o := .lst ((qs5 ++ [t]).map V.ref ++ [])) (.refl _) hz)
              rw [← List.append_nil (Sq.restOf ns p ++ _)] at base9
              exact base9
          · rintro v H5 ⟨l, qs, rfl, s6, hl, hlf, hpr⟩
            refine ⟨l, rfl, ⟨_, .of hl⟩, for_list (K := K) (a := l) (xs := qs.map V.ref) (fun j σ H' => ∃ (v8 v9 : Option V), σ = [some (.ref a), some (.int (p : Int)), some (.int ((ns.length : Nat) : Int)), some (.int (oo : Int)), some (.ref l4), some (.ref l5), some (.ref l6), some (.ref fo), v8, v9, none] ∧
              Same H H' ∧ H' l = some (.lst (qs.map V.ref)) ∧ PrsAt H' (Sq.linksOf ns p) qs ∧ H' fo = some (.lst ((((Sq.linksOf ns p).take j).foldl Sq.link (List.replicate ns.length 0)).map V.int)) ∧ (((Sq.linksOf ns p).take j).foldl Sq.link (List.replicate ns.length 0)).length = ns.length)
              ⟨none, none, rfl, (s3.trans s5).trans s6, hl, hpr, s6 _ _ hfo4, by simp⟩ (fun j σ H' _ ⟨_, _, _, _, h, _⟩ => .of h) ?_ ?_⟩
            · rintro j x σ H6 hj ⟨v8, v9, rfl, s7, hl6, hp6, hf6, hz6⟩
              obtain ⟨q, hq, rfl⟩ := get_ref hj
              obtain ⟨pq, hpq, hHq⟩ := hp6.get hq
              obtain ⟨b1, b2, b3, b4⟩ := Sq.links_bd hT hp (List.mem_of_getElem? hpq)
              rw [Sq.take_more hpq, List.foldl_append]
              refine ⟨q, _, rfl, .of hHq, rfl, _, _, rfl, _, _, rfl, rfl, ?_⟩
              refine ⟨_, rfl, _, rfl, _, rfl, fo, _, _, pq.1.toNat, rfl, rfl, hf6, ixN_of (by omega) (by rw [List.length_map, hz6]; omega), ?_⟩
              refine ⟨_, rfl, _, rfl, _, rfl, fo, _, _, pq.2.toNat, rfl, rfl, upd_same, ixN_of (by omega) (by rw [List.length_set, List.length_map, hz6]; omega), ?_⟩
              have tk : ∀ (o1 o2 : List V) (r : Addr) (xs : List V), H6 r = some (.tup xs) → upd (upd H6 fo (.lst o1)) fo (.lst o2) r = some (.tup xs) := fun o1 o2 r xs z => by
                rw [upd_ne (ne_of z hf6 (fun z => nomatch z)), upd_ne (ne_of z hf6 (fun z => nomatch z))]
                exact z
              refine ⟨_, _, rfl, same_mut (same_mut s7 hfoH) hfoH, by rw [upd_ne hlf, upd_ne hlf]; exact hl6, hp6.tups (tk _ _), ?_, ?_⟩
              · rw [upd_same]
                show _ = some (HO.lst ((Sq.link _ pq).map V.int))
                unfold Sq.link
                simp [List.map_set]
              · show (Sq.link _ pq).length = ns.length
                unfold Sq.link
                rw [List.length_set, List.length_set]
                exact hz6
            · rintro σ H6 ⟨v8, v9, rfl, s7, hl6, hp6, hf6, hz6⟩
              rw [List.length_map, ← Paired.length hp6, List.take_length] at hf6
              refine ⟨_, rfl, fo, _, rfl, .inl ⟨.of hf6, fun r hr' => ?_⟩⟩
              refine k _ r (s7.trans (same_new (.refl _) hr')) ?_
              rw [upd_same]
              have : (Sq.linksOf ns p).foldl Sq.link (List.replicate ns.length 0) = Sq.stirAt ns p := Sq.stir_eq hT hp
              rw [this]
end
end SqP
/-! SqL4: _law_steps. -/
namespace SqP
open PySem PySem.Spec PyProof.Rows L2
/-- the law's numbers of stirrings -/
def RNum (_ : Hp) (w : List Int) (v : V) : Prop := v = .int (w.length : Int)
theorem keepsNum : Keeps RNum := fun _ _ _ _ _ h => h
section
variable {P : Program} {w : World} {K : PySem.W.Frag} {mg : Str → Option Value} {base : Heap}
def spSteps : Sp := fun vs H Q _ => ∃ (a : Addr) (n : Nat) (one : List Int), vs = [.ref a] ∧ H a = some (.tup (one.map V.int)) ∧ one ∈ Sq.T n ∧
  ∀ H' d kvs, Same H H' → H' d = some (.dT kvs) → KnR (RNum H') (Sq.iter Sq.stirAt one 60).1 kvs → Q (.ref d) H'
abbrev nmSteps : List Str := ["_law_ties_here", "_law_known", "_law_line", "_law_turn", "_law_later", "_law_here", "_law_place", "_law_there"]
theorem scSteps : FnScope nmSteps ["_law_ties_here"] (defScope sSteps) := ⟨rfl, rfl, rfl, by decide +kernel, rfl, by decide +kernel, by decide +kernel⟩
theorem ok_steps {f fS : Addr} {fd fdS : FuncData} (F : Fun K "_law_steps" "_law_steps" sSteps f fd) (B : Bi mg)
    (GS : FnOk P w K mg base CX0 1 fS fdS ["_law_ties_here", "_law_place"] spStirred) (gS : mg "_law_stirred" = some (.ref fS)) (kS : PySem.W.keepIn K (.ref fS) = true) (bS : Binds K fdS ["_law_ties_here", "_law_place"] []) : FnOk P w K mg base CX0 2 f fd ["_law_ties_here"] spSteps := by
  refine F.ok scSteps (fun vs H Q E h => ?_) (fun cdv A outer s H vs Q E hr h => ?_)
  · obtain ⟨a, n, one, rfl, _⟩ := h
    rfl
  · obtain ⟨a, n, one, rfl, hA, h1, k⟩ := h
    have hu := hu_of hr
    refine ⟨_, pss_cons (ps_par (i := 1) (j := 2) (by rfl) scSteps.nd rfl rfl (by decide) rfl rfl (pa_cons pe_dnewT (pa_cons (pe_lst (pa_cons (pv 0) pa_nil)) pa_nil)) (by rfl))
      (pss_cons (ps_dput hu (pv 1) (pv 0) pe_int rfl)
      (pss_cons (ps_for PassesOwn.never rfl (pi_range1 (by rfl) B.range (pa_cons pe_int pa_nil)) (pg_name (i := 3) scSteps.nd rfl (.inl rfl))
        (pss_cons (ps_set (i := 4) scSteps.nd rfl (.inl rfl) (pe_lst pa_nil))
        (pss_cons (ps_for PassesOwn.never rfl (pi_list (pv 2)) (pg_name (i := 5) scSteps.nd rfl (.inl rfl))
          (pss_one (ps_for PassesOwn.never rfl (pi_range1 (by rfl) B.range (pa_cons (pe_callB (call_lenK (K := K) rfl) (by rfl) B.len PySem.boot_len (pa_cons (pv 5) pa_nil)) pa_nil)) (pg_name (i := 6) scSteps.nd rfl (.inl rfl))
            (pss_cons (ps_set (i := 7) scSteps.nd rfl (.inl rfl) (pe_call GS hr (by rfl) gS kS bS .nil pass0 (pa_cons (pv 5) (pa_cons (pv 6) pa_nil))))
            (pss_one (ps_if (pt_cmp (pc_dnotin hu (pv 7) (pv 1)))
              (pss_cons (ps_dput hu (pv 1) (pv 7) (pe_op op_add (pe_dget hu (pv 1) (pv 5) (fun _ _ => rfl)) pe_int) rfl)
              (pss_one (ps_expr (pe_bm PySem.F.plainAttrs_list PySem.F.slot_list_append PySem.F.type_list_append mt_append (pv 4) (pa_cons (pv 7) pa_nil))))) pss_nil))))))
        (pss_one (ps_set (i := 2) scSteps.nd rfl (.inl rfl) (pv 4))))))
      (pss_one (ps_ret (pv 1))))), ?_⟩
    intro d hd
    refine ⟨_, rfl, (by show 1 ≤ sizeLine; decide), fun l hl => ⟨_, _, rfl, ?_⟩⟩
    have s00 : Same H (upd (upd H d (.dT [])) l (.lst [V.ref a])) := same_new (same_new (.refl _) hd) hl
    have hdd := upd_keep (u := HO.lst [V.ref a]) (upd_same (H := H) (a := d) (o := HO.dT [])) hl
    have ndl : d ≠ l := ne_of_none (upd_same (H := H) (a := d) (o := HO.dT [])) hl
    refine ⟨_, rfl, _, rfl, d, _, rfl, dput_v (v := .int 0) hdd (s00 _ _ hA) (by show (0 : Nat) < sizeLine; rw [sizeLine_eq]; decide), ?_⟩
    have s0 : Same H (upd (upd (upd H d (.dT [])) l (.lst [V.ref a])) d (.dT (putK [] (sqKey one) (V.int 0)))) := same_mut s00 hd
    have hl0 : H l = none := (same_new (o := .dT []) (.refl H) hd).free hl
    refine ⟨_, rfl, by decide, by decide, ?_⟩
    refine for_range (lo := 0) (n := 60) (fun kk σ H' => ∃ (l : Addr) (rs : List Addr) (v3 v4 v5 v6 v7 : Option V), σ = [some (.ref a), some (.ref d), some (.ref l), v3, v4, v5, v6, v7] ∧ Same H H' ∧ H l = none ∧
      (∃ kvs, H' d = some (.dT kvs) ∧ KnR (RNum H') (Sq.iter Sq.stirAt one kk).1 kvs) ∧ H' l = some (.lst (rs.map V.ref)) ∧ LnR H' (Sq.iter Sq.stirAt one kk).2 rs) ⟨l, [a], none, none, none, none, none, rfl, s0, hl0, ⟨_, upd_same, .cons ⟨rfl, rfl⟩ .nil⟩, ?_, .cons (s0 _ _ hA) .nil⟩ ?_ ?_
    · rw [upd_ne ndl.symm]
      exact upd_same
    · rintro kk σ H1 hk60 ⟨l, rs, v3, v4, v5, v6, v7, rfl, s1, ln, ⟨kvs, hd1, hk1⟩, hl1, hr1⟩
      have ok := Sq.iter_ok h1 kk
      refine ⟨Nat.zero_le _, fun lt hlt => ?_⟩
      have ltn : H lt = none := s1.free hlt
      have ht1 : ∀ r xs, H1 r = some (.tup xs) → upd H1 lt (.lst []) r = some (.tup xs) := fun r xs q => upd_keep q hlt
      have nell : l ≠ lt := ne_of_none hl1 hlt
      have S0 : Srch RNum H (upd H1 lt (.lst [])) d l lt rs (Sq.iter Sq.stirAt one kk) (Sq.atJ (Sq.iter Sq.stirAt one kk) 0) :=
        ⟨same_new s1 hlt, hd, ln, ltn, nell, ⟨kvs, upd_keep hd1 hlt, hk1.mono (keepsNum _ _ ht1)⟩, ⟨upd_keep hl1 hlt, hr1.mono ht1⟩, ⟨[], upd_same, .nil⟩⟩
      refine ⟨_, rfl, l, rfl, ⟨_, .of (upd_keep hl1 hlt)⟩, for_list (K := K) (a := l) (xs := rs.map V.ref) (fun j σ H' => ∃ (v3 v5 v6 v7 : Option V), σ = [some (.ref a), some (.ref d), some (.ref l), v3, some (.ref lt), v5, v6, v7] ∧ Srch RNum H H' d l lt rs (Sq.iter Sq.stirAt one kk) (Sq.atJ (Sq.iter Sq.stirAt one kk) j))
        ⟨_, v5, v6, v7, rfl, S0⟩ (fun j σ H' _ ⟨_, _, _, _, _, S⟩ => .of S.line.1) ?_ ?_⟩
      · rintro j x σ H2 hj ⟨v3, v5, v6, v7, rfl, S⟩
        obtain ⟨r, hrj, rfl⟩ := get_ref hj
        obtain ⟨here, hhere, hr2⟩ := S.line.2.get hrj
        have hT : here ∈ Sq.T n := ok.kn.has (ok.line here (List.mem_of_getElem? hhere))
        have hlen : here.length = 2 * n := (Sq.T_shape hT).1
        have e0 : (((here.map V.int).length : Nat) : Int).toNat = here.length := by simp
        have hn6 := Sq.T_lt hT
        refine ⟨_, rfl, r, _, rfl, .inr (.of hr2), _, rfl, by simp only [List.length_map]; omega, by simp only [List.length_map]; omega, ?_⟩
        rw [e0]
        refine for_range (lo := 0) (n := here.length) (fun i σ H' => ∃ (v3 v6 v7 : Option V), σ = [some (.ref a), some (.ref d), some (.ref l), v3, some (.ref lt), some (.ref r), v6, v7] ∧ Srch RNum H H' d l lt rs (Sq.iter Sq.stirAt one kk) (Sq.atI (Sq.iter Sq.stirAt one kk) j here i) ∧ H' r = some (.tup (here.map V.int)))
          ⟨v3, v6, v7, rfl, S, hr2⟩ ?_ ?_
        · rintro i σ H3 hi ⟨v3, v6, v7, rfl, S3, hr3⟩
          have mid := Sq.mid_ok ok hhere (i := i) (by omega)
          refine ⟨_, rfl, _, rfl, r, n, i, here, ?_, hr3, hT, by omega, fun H4 c s4 hc => ?_⟩
          · show [V.ref r, V.int (0 + (i : Int))] ++ [] = [V.ref r, V.int (i : Int)]
            rw [Int.zero_add]
            rfl
          · have S4 := S3.ext keepsNum s4
            obtain ⟨kvs4, hd4, hk4⟩ := S4.dict
            obtain ⟨rs4, hlt4, hr4⟩ := S4.later
            have hx := Sq.atI_succ (Sq.iter Sq.stirAt one kk) j here i
            unfold Sq.stepP at hx
            cases hs : Sq.has (Sq.atI (Sq.iter Sq.stirAt one kk) j here i).1 (Sq.stirAt here i) with
            | true =>
              obtain ⟨v, ev, _⟩ := hk4.yes hs
              refine ⟨_, rfl, _, rfl, d, _, rfl, dget_v hd4 hc ev, _, rfl, ?_⟩
              refine iteF ?_
              rw [if_pos hs] at hx
              exact ⟨_, _, _, rfl, by rw [hx]; exact S4, s4 _ _ hr3⟩
            | false =>
              refine ⟨_, rfl, _, rfl, d, _, rfl, dget_v hd4 hc (hk4.no hs), _, rfl, ?_⟩
              refine iteT ?_
              rw [if_neg (by rw [hs]; decide)] at hx
              obtain ⟨v, ev, rfl⟩ := hk4.yes mid.has
              have hz : kvs4.length ≤ 42 := by rw [← hk4.length]; exact mid.kn.size
              have ndl : lt ≠ d := ne_of hlt4 hd4 (fun z => nomatch z)
              have hz2 : rs4.length ≤ 42 := by
                rw [← hr4.length]
                exact Nat.le_trans Sq.atI_later mid.kn.size
              refine ⟨_, rfl, _, rfl, d, _, rfl, dget_v hd4 (s4 _ _ hr3) ev, ?_⟩
              refine ⟨_, _, rfl, rfl, ?_⟩
              refine ⟨_, rfl, _, rfl, d, _, rfl, dput_v hd4 hc (small42 hz), ?_⟩
              refine ⟨_, rfl, .inl ⟨rfl, _, .of (by rw [upd_ne ndl]; exact hlt4)⟩, _, rfl, lt, _, _, rfl, rfl, by rw [upd_ne ndl]; exact hlt4, by rw [List.length_map]; exact small42 hz2, ?_⟩
              refine ⟨_, _, _, rfl, ?_, ?_⟩
              · rw [hx]
                refine S4.put keepsNum hd4 hk4 hlt4 hr4 hs hc ?_
                show V.int (((Sq.val (Sq.atI (Sq.iter Sq.stirAt one kk) j here i).1 here).length : Nat) + 1) = V.int ((_ ++ [_]).length : Nat)
                rw [List.length_append]
                rfl
              · have hr5 := s4 _ _ hr3
                rw [upd_ne (ne_of hr5 hlt4 (fun z => nomatch z)), upd_ne (ne_of hr5 hd4 (fun z => nomatch z))]
                exact hr5
        · rintro σ H3 ⟨v3, v6, v7, rfl, S3, hr3⟩
          rw [Sq.atI_end hhere] at S3
          exact ⟨_, _, _, _, rfl, S3⟩
      · rintro σ H2 ⟨v3, v5, v6, v7, rfl, S⟩
        have el : (rs.map V.ref).length = (Sq.iter Sq.stirAt one kk).2.length := by rw [List.length_map]; exact (S.line.2.length).symm
        rw [el, Sq.atJ_end] at S
        obtain ⟨rs', t1, t2⟩ := S.later
        exact ⟨_, rfl, lt, rs', _, _, _, _, _, rfl, S.same, S.ltn, S.dict, t1, t2⟩
    · rintro σ H1 ⟨l, rs, v3, v4, v5, v6, v7, rfl, s1, ln, ⟨kvs, hd1, hk1⟩, hl1, hr1⟩
      exact ⟨_, rfl, k _ d kvs s1 hd1 hk1⟩
end
end SqP
/-! SqE1: TooMany(limit), made: its __init__ says super().__init__(text) and keeps the limit. -/
namespace SqP
open PySem PySem.Spec PyProof.Rows L2
abbrev sMany : Stmt := top 6
abbrev sMInit : Stmt := inClass sMany 0
/-- what the written part says of TooMany -/
structure MnyC (P : Program) (K : PySem.W.Frag) (C fI : Addr) : Prop where
  oex : OexC K C
  init : PySem.W.excInitIn K C PySem.HandSPX.veTail "ValueError.__new__" = true
  iC : PySem.W.findIn K (.ref C) "__init__" = some (some (.ref fI))
  tI : PySem.W.typeIn K (.ref fI) = some (.type "function")
  fn : ∃ (oc : Value) (od : Option Addr) (kV doc pm : Value) (an : Option Addr) (cda cc : Addr) (ct : Value) (osl : Array (Option Value)) (ccl : Value) (cdd : Option Addr) (vs : Array Value) (ccs : Array (Option Value)) (file : Str) (tf : Tok) (cl : Value) (cld : Option Addr) (csl : Array (Option Value)),
    K.lookup fI = some ⟨oc, od, .func (PySem.W.ksFn "__init__" "TooMany.__init__" (defArgs sMInit) (defBody sMInit) (defScope sMInit) .none kV doc pm an (.ref cda) ct cc), osl⟩ ∧ PySem.W.codeIn K (.ref cda) "TooMany.__init__" = true ∧
    K.lookup cda = some ⟨ccl, cdd, .fields vs, ccs⟩ ∧ vs[2]? = some (.str file tf) ∧ ((P.main.file : Str) == file) = true ∧ K.lookup cc = some ⟨cl, cld, .cell (some (.ref C)), csl⟩
  cD : (PySem.W.clsIn K C).isSome = true
  sub : PySem.W.mroIn K C (.ref C) = some true
  sup : PySem.W.ks_superIn K C C "__init__" = some (some (.builtin "ValueError.__init__"))
  ve : PySem.W.subIn K (.ref C) (.type "ValueError") = some true
  op : PySem.W.nsIn K cStatics "thirdparty.any" = some none
  lim : PySem.W.findIn K (.ref C) "limit" = some none
  main : (P.main.scope.names.lookup ("super" : Str)).isSome = false
theorem mi_body : ∃ p0 p1 p2 p3 p4 p5 p6 p7 p8 p9 j, defBody sMInit = [.Expr (.Call (.Attribute (.Call (.Name "super" p0) [] [] p1) "__init__" p2) [.Constant (.str "too many") j p3] [] p4) p5, .Assign [.Attribute (.Name "self" p6) "limit" p7] (.Name "limit" p8) p9] ∧
    ∀ env, ∃ pl, eval (.Call (.Attribute (.Call (.Name "super" p0) [] [] p1) "__init__" p2) [.Constant (.str "too many") j p3] [] p4) env = (do
      let ov ← attributeBase (.Call (.Name "super" p0) [] [] p1) "__init__" env (eval (.Call (.Name "super" p0) [] [] p1) env)
      standAt p2.atName
      let (f, first) ← holding [ov] (getMethod ov "__init__" pl)
      callWith p4 f first (backTo p4 (starEach [.Constant (.str "too many") j p3] env)) []) :=
  ⟨_, _, _, _, _, _, _, _, _, _, _, rfl, fun env => ⟨_, rfl⟩⟩
theorem mi_super : (defScope sMInit).names.lookup ("super" : Str) = some .globalImplicit := by decide +kernel
theorem mi_cls : (defScope sMInit).names.lookup ("__class__" : Str) = some .free := by decide +kernel
theorem mi_self : (defScope sMInit).names.lookup ("self" : Str) = some .local := by decide +kernel
theorem mi_lim : (defScope sMInit).names.lookup ("limit" : Str) = some .local := by decide +kernel
theorem mi_cell : ∀ x ∈ (defScope sMInit).names, x.2 ≠ .cell := by decide +kernel
theorem mi_kind : (defScope sMInit).kind = .function := by rfl
section
variable {P : Program} {w : World} {K : PySem.W.Frag} {mg : Str → Option Value} {base : Heap} {A : Around} {h : Heap} {g : Array GenState} {d : Drawn} {t : Nat} {os : OsState} {C fI : Addr} {u : Value} {Q : Value → Shared → Prop} {E : Value → Shared → Prop}
theorem many_raw (M : MnyC P K C fI) (md : Mod K mg base) (ms : mg "super" = none) (kb : ∀ b o, base.get? b = some o → h.get? b = some o) (hr : Room 2 A)
    (hq : ∀ h' tk' dx t0, (∀ b o, h.get? b = some o → h'.get? b = some o) → h.objs.size < dx → dx ≠ h.objs.size + 1 → h'.get? (h.objs.size + 1) = some ({ cls := .ref C, dict := some dx, data := .fields #[.ref t0, .none, .none, .none, .bool false, .none] } : Obj) →
      h'.Ns1 dx (fun y => if y = "limit" then some u else none) → Q (.ref (h.objs.size + 1)) ⟨h', g, d, tk', os⟩) :
    wpAny (model P w) A (call (.ref C) [u]) Q E ⟨h, g, d, t, os⟩ := by
  obtain ⟨nm, q, N, bs, bm, sn, sub, ab, col, dd, k0, k1, k2, k3, k5, hC, hbm⟩ := M.oex.cls
  obtain ⟨oc, od, kV, doc, pm, an, cda, cc, ct, osl, ccl, cdd, vs, ccs, file, tf, cl, cld, csl, lk, hcode, lkc, hvs, hfile, lkcell⟩ := M.fn
  obtain ⟨p0, p1, p2, p3, p4, p5, p6, p7, p8, p9, j, hbody, heval⟩ := mi_body
  have KX : K.In h := md.kin.keeps kb
  refine wpAny_call (PySem.HandSPX.call_own F.excBase_ValueError (fun Y => PySem.HandSPX.refsVE_contains Y bm hbm) (KX _ _ hC) (PySem.W.looks_findIn KX M.iC) (fun self => PySem.W.bind_fn KX self M.tI) (by show 1 ≤ sizeLine; rw [sizeLine_eq]; omega) ?_)
  have kk : ∀ b o, h.get? b = some o → ((h.push (PySem.W.kdv_tup [u])).push (PySem.HandSPX.excO C h.objs.size)).get? b = some o := fun b o e => Heap.get?_push_of_some _ (Heap.get?_push_of_some _ e)
  have hget : ((h.push (PySem.W.kdv_tup [u])).push (PySem.HandSPX.excO C h.objs.size)).get? (h.objs.size + 1) = some (PySem.HandSPX.excO C h.objs.size) := by heap_get
  have hsz : ((h.push (PySem.W.kdv_tup [u])).push (PySem.HandSPX.excO C h.objs.size)).objs.size = h.objs.size + 2 := by simp [Heap.push]
  generalize hh2 : (h.push (PySem.W.kdv_tup [u])).push (PySem.HandSPX.excO C h.objs.size) = h2 at kk hget hsz
  have K2 : K.In h2 := KX.keeps kk
  have nm2 : md.nolimit = md.nolimit := rfl
  have hr1 : Room 1 (A.under (.builtin "type.__call__" ⟨.ref C :: [u], []⟩)) := hr.make C [u] []
  generalize A.under (.builtin "type.__call__" ⟨.ref C :: [u], []⟩) = A1 at hr1
  refine PySem.ks_codeAny_call_defAt (fd := PySem.W.ksFn "__init__" "TooMany.__init__" (defArgs sMInit) (defBody sMInit) (defScope sMInit) .none kV doc pm an (.ref cda) ct cc) (body := defBody sMInit) (binds := [("self", .ref (h.objs.size + 1)), ("limit", u)]) hr1.depth (K2 _ _ lk) rfl
    ((md.nolimit.keeps kb).keeps kk) (PySem.W.codeRec_of K2 hcode) rfl (BindsTo.of_eq rfl) mi_cell (fun y hy => ?_) (fun h₁ hns hk₁ => ?_) (by rfl) (by rfl) (by rfl)
  · rcases List.mem_cons.mp hy with rfl | hy
    · exact mi_self
    · rcases List.mem_cons.mp hy with rfl | hy
      · exact mi_lim
      · cases hy
  · rw [hbody]
    have hnsL : h₁.Ns h2.objs.size (fun x => ([("self", Value.ref (h.objs.size + 1)), ("limit", u)] : List (Str × Value)).reverse.lookup x) := hns
    have F0 : Fr h h2.objs.size h₁ (fun x => ([("self", Value.ref (h.objs.size + 1)), ("limit", u)] : List (Str × Value)).reverse.lookup x) := ⟨hnsL, fun b o e => hk₁ b o (kk b o e), by omega⟩
    have N0 : News h h2.objs.size h₁ [(h.objs.size + 1, PySem.W.excObj C h.objs.size none .none)] := fun p hp => by
      rcases List.mem_cons.mp hp with rfl | hp
      · exact ⟨hk₁ _ _ hget, by show h.objs.size + 1 ≠ _; omega, Heap.get?_none_of_le (by show h.objs.size ≤ h.objs.size + 1; omega)⟩
      · cases hp
    have I0 : PySem.W.InstAt h₁ (h.objs.size + 1) (PySem.W.excObj C h.objs.size none .none) C none := ⟨hk₁ _ _ hget, rfl, rfl, trivial⟩
    have K1 : K.In h₁ := K2.keeps hk₁
    obtain ⟨mb, hmb, hmb2⟩ := md.blt
    have kb1 : ∀ b o, base.get? b = some o → h₁.get? b = some o := fun b o e => hk₁ b o (kk b o (kb b o e))
    obtain ⟨pl, he⟩ := heval (callEnv (PySem.W.ksFn "__init__" "TooMany.__init__" (defArgs sMInit) [.Expr (.Call (.Attribute (.Call (.Name "super" p0) [] [] p1) "__init__" p2) [.Constant (.str "too many") j p3] [] p4) p5, .Assign [.Attribute (.Name "self" p6) "limit" p7] (.Name "limit" p8) p9] (defScope sMInit) .none kV doc pm an (.ref cda) ct cc) h2.objs.size fI)
    refine ks_wpAt_execs_cons (ks_wpAt_Expr_any (ks_wpAt_MethodCall (pl := pl) ?_ he) (by rfl) (by rfl))
    obtain ⟨oD, hD1, cdD, hD2⟩ : ∃ oD, h₁.get? C = some oD ∧ ∃ cdD, oD.data = .cls cdD := ⟨_, K1 _ _ hC, _, rfl⟩
    refine ks_wpAt_super_base mi_super mi_cls (by decide) rfl (K1 _ _ lk) rfl (by rfl) rfl (K1 _ _ lkc) rfl hvs hfile M.main ?_
    refine PySem.W.ks_loadName_global mi_kind mi_super (Calls.loadGlobal_builtin (md.glob.keeps kb1) ms (hmb.keeps kb1) (hmb2 _ (by decide)) ⟨rfl, ?_⟩)
    refine wpAny_loadName_free mi_kind mi_cls rfl ⟨_, K1 _ _ lkcell, rfl⟩ ?_
    refine wpAny_loadName_local mi_kind mi_self hnsL (v := .ref (h.objs.size + 1)) (by rfl) ?_
    refine ks_wpAny_isType_cls hD1 hD2 ⟨rfl, ?_⟩
    refine ks_wpAny_call_super hD1 hD2 I0.at_ I0.cls (fun c e => ?_) (PySem.W.looks_mroIn K1 M.sub) (fun h3 e3 k3 => ?_)
    · cases e
    obtain ⟨F1, N1, l1⟩ := PySem.W.ks_newsPush (s := ⟨h₁, g, d, t + 2, os⟩) F0 N0 rfl e3 k3
    refine PySem.W.kxs_method (odx := none) PySem.W.kxs_ValueError F1 KX N1 (List.mem_cons_self ..) ⟨k3 _ _ I0.at_, rfl, rfl, trivial⟩ M.op M.sup M.ve (by decide) (fun q4 h4 F2 N2 l2 => ?_)
    refine PySem.W.kxs_callWith1 (i := "ValueError.__init__") (x := h.objs.size + 1) N2 (List.mem_cons_self ..) ?_ (by rfl) (by rfl)
    refine args_cons (Calls.Constant_str (args_nil ⟨PySem.W.kxs_at N2 (List.mem_cons_self ..), ?_⟩)) (by rfl)
    have ne1 : (q4 : Addr) ≠ h.objs.size + 1 := by
      have := l2 (h.objs.size + 1, PySem.W.excObj C h.objs.size none .none) (List.mem_cons_of_mem _ (List.mem_cons_self ..))
      exact Nat.ne_of_gt this
    have ne2 : h₁.objs.size ≠ h.objs.size + 1 := by
      have := l1 (h.objs.size + 1, PySem.W.excObj C h.objs.size none .none) (List.mem_cons_self ..)
      exact Nat.ne_of_gt this
    refine PySem.W.kxs_call F2 KX N2 F.excBase_ValueError M.init (List.mem_cons_self ..) (.tail ne1 (.tail ne2 (.head fun p hp => (by cases hp)))) (by show 1 ≤ sizeLine; rw [sizeLine_eq]; omega) (fun t5 h5 F3 N3 l3 => ?_)
    have hm5 := N3 (h.objs.size + 1, PySem.W.excObj C t5 none .none) (by simp)
    have F3n : h5.Ns h2.objs.size _ := F3.ns
    have K5 : K.In h5 := KX.keeps F3.keep
    have hcl : PySem.W.clsIn K C = some { name := nm, bases := bs, mro := .ref C :: bm, ns := N, qualname := q, hasDict := true, slotNames := sn, subclasses := sub, abstract := ab, collection := col, hasDel := false } := by unfold PySem.W.clsIn; rw [hC] <;> rfl
    refine ks_wpAt_execs_cons (ks_wpAt_Assign_Attr (wpAt_of_wpAny ?_) (by rfl))
    refine wpAny_Name (wpAny_loadName_local mi_kind mi_lim F3n (v := u) (by rfl) ?_) (by decide)
    refine wpAny_Name (wpAny_loadName_local mi_kind mi_self F3n (v := .ref (h.objs.size + 1)) (by rfl) ?_) (by decide)
    refine PySem.W.set_plain K5 (ox := PySem.W.excObj C t5 none .none) (od := none) ⟨hm5.1, rfl, rfl, trivial⟩ M.oex.sa ?_
    refine PySem.HandSPX.exc_osa K5 hm5.1 hcl (show PySem.HandSPX.refsVE (.ref C :: bm) = true from hbm) rfl M.lim (fun h6 tk6 dx k6 dn dne hx hn => ?_)
    refine wpAt_of_wpAny (wpAny_execs_nil ?_)
    refine ⟨rfl, hq h6 tk6 dx t5 (fun b o e => ?_) ?_ dne hx hn⟩
    · exact k6 b o (fun z => by rw [z] at e; rw [Heap.get?_none_of_le (by omega)] at e; cases e) (F3.keep b o e)
    · exact Nat.lt_of_lt_of_le (Nat.lt_trans (Nat.lt_succ_self _) (Heap.lt_size hm5.1)) dn
end
/-- TooMany(e), made -/
def tMany (C : Addr) (ta : TA) : L2.St → Hp → XK → Prop := fun σ H Q => ta σ H fun vs H1 => ∃ i : Int, vs = [.int i] ∧ ∀ dx, H1 dx = none → Q (.ref C) (some dx) (upd H1 dx (.xd [("limit", .int i)]))
theorem pmk_many {X : Cx} {x : Str} {C fI : Addr} {e : Expr} {es : List Expr} {ta : TA} {p pos : Pos} (M : MnyC X.prog X.K C fI) (ms : X.mg "super" = none) (hr : Room 2 X.A) (hg : Gl X x) (hm : X.mg x = some (.ref C)) (ha : PA X (e :: es) ta)
    (hdb : (x == ("__debug__" : Str)) = false := by decide) (he : starEach (e :: es) X.env = (false, eval e X.env) :: starEach es X.env := by rfl) (hpl : (backTo pos (starEach es X.env)).any (·.1) = false := by rfl) :
    PMk X (.Call (.Name x p) (e :: es) [] pos) (tMany C ta) := by
  intro pins s σ H Q I hh
  refine wpAny_Call_Name_kw (ld_glob I hg hm ?_ hdb)
  refine PySem.W.callWith_K (h₀ := X.base) I.ok.mod.kin M.oex.kC (thn (ha.run pos pins s σ H _ I hh) fun us s1 ⟨vs, H1, I1, r1, i, ev, q1⟩ => ⟨I1.kIn, ?_⟩) he hpl
  subst ev
  cases r1 with
  | @cons _ u _ us' ru rn =>
    cases rn
    show wpAny _ _ (call (.ref C) [u]) _ _ _
    obtain ⟨hp, g, dr, tk, os⟩ := s1
    refine many_raw M I1.ok.mod ms I1.bk hr fun h' tk' dx t0 k dn dne hx hn => ?_
    have nd : H1 dx = none := I1.hok.fresh (Nat.le_of_lt dn)
    obtain ⟨G, g1', g2'⟩ := restrict h' fun b => decide (b ≠ hp.objs.size + 1)
    have gk : ∀ b, b ≠ hp.objs.size + 1 → G.get? b = h'.get? b := fun b hb => g1' b (decide_eq_true hb)
    have ge : G.get? (hp.objs.size + 1) = none := g2' _ (by simp)
    have J : Inv X pins σ (upd H1 dx (.xd [("limit", .int i)])) ⟨G, g, dr, tk', os⟩ := I1.laid (t' := tk') (a := dx) (o := .xd [("limit", .int i)]) (h' := G)
      (fun b o e => by rw [gk b (Nat.ne_of_lt (Nat.lt_succ_of_lt (Heap.lt_size e)))]; exact k b o e) (Nat.le_of_lt dn) ⟨_, hn.at fun o y => (gk dx dne).trans y, relO_put (fs := []) ru fun g => True.intro⟩
    refine ⟨hp.objs.size + 1, _, _, ⟨G, g, dr, tk', os⟩, _, .ref C, some dx, rfl, J, fun b o z => ?_, ge, hx, ⟨rfl, rfl⟩, rfl, rfl, ?_, rfl, I1.bare, raises_own M.oex.exC M.oex.tyC, q1 dx nd⟩
    · by_cases hb : b = hp.objs.size + 1
      · have z' : G.get? b = some o := z
        rw [hb, ge] at z'
        cases z'
      · exact (gk b hb).symm.trans z
    · rw [upd_ne (Ne.symm dne)]
      exact I1.hok.fresh (Nat.le_succ _)
end SqP
/-! SqE2: need_few, stir_way. -/
namespace SqP
open PySem PySem.Spec PyProof.Rows L2
section
variable {P : Program} {w : World} {K : PySem.W.Frag} {mg : Str → Option Value} {base : Heap}
def spFew (CM : Addr) : Sp := fun vs H Q E => ∃ many limit : Int, vs = [.int many, .int limit] ∧ ((many ≤ limit ∧ Q .non H) ∨ (limit < many ∧ ∀ dx, H dx = none → E (.ref CM) (some dx) (upd H dx (.xd [("limit", .int limit)]))))
theorem scFew : FnScope ["many", "limit"] ["many", "limit"] (defScope sFew) := ⟨rfl, rfl, rfl, by decide +kernel, rfl, by decide +kernel, by decide +kernel⟩
theorem ok_few {f CM fI : Addr} {fd : FuncData} (F : Fun K "need_few" "need_few" sFew f fd) (M : MnyC P K CM fI) (ms : mg "super" = none) (gM : mg "TooMany" = some (.ref CM)) : FnOk P w K mg base (L2.CX P w) 3 f fd ["many", "limit"] (spFew CM) := by
  refine F.okX scFew (fun vs H Q E h => ?_) (fun cdv A outer s H vs Q E hr h => ?_)
  · obtain ⟨v, u, rfl, _⟩ := h
    rfl
  · obtain ⟨v, u, rfl, h⟩ := h
    refine ⟨_, pss_one (ps_if (pt_cmpR op_gt (pv 0) (pv 1) (nomark _)) (pss_one (ps_raise rfl (takes_of rfl rfl rfl rfl) (pmk_many M ms hr (by rfl) gM (pa_cons (pv 1) pa_nil)))) pss_nil), ?_⟩
    refine ⟨_, rfl, _, rfl, _, _, rfl, rfl, _, rfl, ?_⟩
    rcases h with ⟨hl, k⟩ | ⟨hl, k⟩
    · refine ite2 (fun c => ?_) (fun _ => k)
      have : v > u := by simpa using c
      omega
    · refine ite2 (fun c => ⟨_, rfl, _, rfl, k⟩) (fun c => ?_)
      exact absurd (show v > u from hl) (by simpa using c)
/-- stir_way -/
def spWay (K : PySem.W.Frag) (CT CU CM : Addr) : Sp := fun vs H Q E => ∃ v u, vs = [v, u] ∧ ((Bad K v H ∧ ∀ H', Same H H' → E (.ref CT) none H') ∨ (∃ ns, Good K v H ns ∧ Bad K u H ∧ ∀ H', Same H H' → E (.ref CT) none H') ∨
  (∃ ns ms, Good K v H ns ∧ Good K u H ms ∧ ns.length ≠ ms.length ∧ ∀ H', Same H H' → E (.ref CU) none H') ∨
  (∃ ns ms, Good K v H ns ∧ Good K u H ms ∧ ns.length = ms.length ∧ 14 ≤ ns.length ∧ ∀ H' dx, Same H H' → H' dx = some (.xd [("limit", .int 6)]) → E (.ref CM) (some dx) H') ∨
  ∃ (a b : Addr) (n : Nat) (one other : List Int), v = .ref a ∧ u = .ref b ∧ H a = some (.tup (one.map V.int)) ∧ H b = some (.tup (other.map V.int)) ∧ one ∈ Sq.T n ∧ other ∈ Sq.T n ∧ ∀ H' r, Same H H' → H' r = some (.tup ((Sq.word one other).map V.int)) → Q (.ref r) H')
theorem scWay : FnScope ["one_ties", "other_ties"] ["one_ties", "other_ties"] (defScope sWay) := ⟨rfl, rfl, rfl, by decide +kernel, rfl, by decide +kernel, by decide +kernel⟩
theorem good_T {a : Addr} {n : Nat} {H : Hp} {ns : List Int} (h : H a = some (.tup (ns.map V.int))) (ht : ns ∈ Sq.T n) : Good K (.ref a) H ns := by
  obtain ⟨h1, _, h3⟩ := Sq.T_shape ht
  have := Sq.T_lt ht
  exact ⟨a, rfl, .of h, by omega, h3⟩
theorem ok_way {f fB fF fW CT CU CM : Addr} {fd fdB fdF fdW : FuncData} (F : Fun K "stir_way" "stir_way" sWay f fd) (B : Bi mg)
    (GB : FnOk P w K mg base (L2.CX P w) 4 fB fdB ["one", "other"] (spBoth K CT CU)) (gB : mg "need_both_ties" = some (.ref fB)) (kB : PySem.W.keepIn K (.ref fB) = true) (bB : Binds K fdB ["one", "other"] [])
    (GF : FnOk P w K mg base (L2.CX P w) 3 fF fdF ["many", "limit"] (spFew CM)) (gF : mg "need_few" = some (.ref fF)) (kF : PySem.W.keepIn K (.ref fF) = true) (bF : Binds K fdF ["many", "limit"] [])
    (GW : FnOk P w K mg base CX0 2 fW fdW ["one", "other"] spBetw) (gW : mg "word_between" = some (.ref fW)) (kW : PySem.W.keepIn K (.ref fW) = true) (bW : Binds K fdW ["one", "other"] []) : FnOk P w K mg base (L2.CX P w) 5 f fd ["one_ties", "other_ties"] (spWay K CT CU CM) := by
  refine F.okX scWay (fun vs H Q E h => ?_) (fun cdv A outer s H vs Q E hr h => ?_)
  · obtain ⟨v, u, rfl, _⟩ := h
    rfl
  · obtain ⟨v, u, rfl, h⟩ := h
    refine ⟨_, pss_cons (ps_expr (pe_call GB hr (by rfl) gB kB bB .nil (passes_call (W := fun cls d _ H => E cls d H) (takes_of rfl rfl rfl rfl) fun _ _ _ _ h => h) (pa_cons (pv 0) (pa_cons (pv 1) pa_nil))))
      (pss_cons (ps_expr (pe_call GF (hr.mono (by decide)) (by rfl) gF kF bF .nil (passes_call (W := fun cls d _ H => E cls d H) (takes_of rfl rfl rfl rfl) fun _ _ _ _ h => h) (pa_cons (pe_op op_fdivNN (pe_callB (call_lenK (K := K) rfl) (by rfl) B.len PySem.boot_len (pa_cons (pv 0) pa_nil)) pe_int) (pa_cons pe_int pa_nil))))
      (pss_one (ps_ret (pe_call GW (hr.mono (by decide)) (by rfl) gW kW bW .nil pass0 (pa_cons (pv 0) (pa_cons (pv 1) pa_nil)))))), ?_⟩
    rcases h with ⟨b, k⟩ | ⟨ns, g, b, k⟩ | ⟨ns, ms, g, g2, ne, k⟩ | ⟨ns, ms, g, g2, e, hl, k⟩ | ⟨a, b, n, one, other, rfl, rfl, ha, hb, h1, h2, k⟩
    · exact ⟨_, rfl, _, rfl, v, u, rfl, .inl ⟨b, k⟩⟩
    · exact ⟨_, rfl, _, rfl, v, u, rfl, .inr (.inl ⟨ns, g, b, k⟩)⟩
    · exact ⟨_, rfl, _, rfl, v, u, rfl, .inr (.inr (.inl ⟨ns, ms, g, g2, ne, k⟩))⟩
    · refine ⟨_, rfl, _, rfl, v, u, rfl, .inr (.inr (.inr ⟨ns, ms, g, g2, e, fun H1 s1 => ?_⟩))⟩
      obtain ⟨a, rfl, hS, _⟩ := g
      refine ⟨_, rfl, a, _, rfl, .inr (sameT s1 hS), (ns.map V.int).length, 2, rfl, rfl, ⟨by decide, by decide⟩, _, 6, rfl, .inr ⟨?_, fun dx hd => k _ dx (same_new s1 hd) upd_same⟩⟩
      rw [List.length_map]
      omega
    · refine ⟨_, rfl, _, rfl, .ref a, .ref b, rfl, .inr (.inr (.inr ⟨one, other, good_T ha h1, good_T hb h2, ?_, fun H1 s1 => ?_⟩))⟩
      · rw [(Sq.T_shape h1).1, (Sq.T_shape h2).1]
      · have hT : SqT K H1 a (one.map V.int) := .of (s1 _ _ ha)
        refine ⟨_, rfl, a, _, rfl, .inr hT, (one.map V.int).length, 2, rfl, rfl, ⟨by decide, by decide⟩, _, 6, rfl, .inl ⟨?_, ?_⟩⟩
        · rw [List.length_map, (Sq.T_shape h1).1]
          have := Sq.T_lt h1
          omega
        · exact ⟨_, rfl, _, rfl, a, b, n, one, other, rfl, s1 _ _ ha, s1 _ _ hb, h1, h2, fun H2 r s2 hr2 => k _ r (s1.trans s2) hr2⟩
end
end SqP
/-! SqR3: isinstance of a caught error that has fields; a lambda with parameters, called. -/
namespace PySem.W
open PySem PySem.Spec PySem.Calls PyProof.Rows
section
variable {prog : Program} {w : World} {A : Around} {E : Value → Shared → Prop} {s : Shared} {K : Frag} {t : Value} {x a : Addr} {oe : Obj}
/-- the class itself is asked: nothing of the object but its class is looked at -/
theorem sq_exact {Pr : Heap → Prop} (ty : ∀ (M : Model) (h : Heap), Pr h → Looks M h (typeOf (.ref x)) t) : Answers (fun s => K.In s.heap ∧ Pr s.heap) (.ref x) t true := by
  intro dep tk prog w A R s hs
  obtain ⟨hh, g, d, n, os⟩ := s
  unfold Builtin.«isinstance.nested»
  refine wpAny_bind ((ty _ _ hs.1.2).at ?_)
  rw [if_pos (beq_self_eq_true t)]
  have fin := hs.2 n
  first
    | ((repeat lk); exact fin)
    | exact wpAny_bind (wpAny_rule fin)
    | exact wpAny_bind (wpAny_rule (wpAny_pure fin))
theorem sq_isa {D : Addr} {Q : Value → Shared → Prop} (X : K.In s.heap) (ha : s.heap.get? a = some oe) (hc : oe.cls = .ref D) (h : ∀ tk, Q (.bool true) { s with toks := tk }) : wpAny (model prog w) A (call (.builtin "isinstance") [.ref a, .ref D]) Q E s := by
  have ans := sq_exact (K := K) (x := a) (t := .ref D) (Pr := fun h => h.get? a = some oe) fun M h e A Q E s k q => wpAny_typeOf_ref (k _ _ e) (by rw [hc]; exact q)
  exact call_isinstance (S := fun _ R s => (K.In s.heap ∧ s.heap.get? a = some oe) ∧ ∀ tk, R (.ok (.ret (.bool true))) { s with toks := tk }) (fun prog w A R s hs => isinstance_outer (ans 0 _ prog w A R s hs) (fun z => nomatch z)) ⟨⟨X, ha⟩, h⟩
end
end PySem.W
namespace L2
open PySem PySem.Spec PyProof.Rows
/-- isinstance(e, c), e the exception that a suite holds: c any class if e has no fields, else e's own class -/
def sqIsE (K : PySem.W.Frag) (D a : Addr) (d : Option Addr) : List V → Hp → VK → Prop := fun xs H Q => ∃ (C : Addr) (b : Bool), xs = [.ref a, .ref C] ∧ ((d = none ∧ PySem.W.kitOne K (.ref D) (.ref C) = some b) ∨ (C = D ∧ b = true)) ∧ Q (.bl b) H
theorem sq_call_isE {X : Cx} {a D : Addr} {d : Option Addr} {oe : Obj} (C : ExcC X.K D) (hz : Zc (.ref D) d oe) (hf : ∃ vs, oe.data = .fields vs) (hp : (a, oe) ∈ X.pn) : CallR X (.builtin "isinstance") (sqIsE X.K D a d) := by
  intro pins s σ H xs us Q I r h
  obtain ⟨c, b, rfl, e, q⟩ := h
  obtain ⟨u1, u2, rfl, r1, r2⟩ : ∃ u1 u2, us = [u1, u2] ∧ RelV (.ref a) u1 ∧ RelV (.ref c) u2 := by
    rcases r with _ | ⟨r1, _ | ⟨r2, _ | _⟩⟩
    exact ⟨_, _, rfl, r1, r2⟩
  obtain rfl : u1 = Value.ref a := r1
  obtain rfl : u2 = Value.ref c := r2
  have at_a := (I.pin (a, oe) (List.mem_append_left _ hp)).1
  have out : ∀ tk, EP X pins σ Q (.bool b) { s with toks := tk } := fun tk => ⟨.bl b, H, I.tok tk, rfl, q⟩
  rcases e with ⟨hd, e⟩ | ⟨rfl, rfl⟩
  · obtain ⟨vs, hv⟩ := hf
    have J : PySem.W.InstAt s.heap a oe D none := ⟨at_a, hz.1, by unfold PySem.W.notCls; rw [hv] <;> rfl, by rw [hz.2, hd]; exact trivial⟩
    exact PySem.W.kia_one (PySem.W.handS_kitx_exc C.hg C.hk C.hs C.hd C.ha C.hn C.ht C.hm) I.kIn J e (fun z => nomatch z) out
  · exact PySem.W.sq_isa I.kIn at_a hz.1 out
/-- a def's body that runs within a suite is a suite's context -/
theorem hot_suite {X : Cx} {a : Addr} {oe : Obj} (hh : X.A.handled = some (.ref a)) (hc : X.calm = false) (hp : X.pn = [(a, oe)]) : X.nox = X.suite a [(a, oe)] := by
  obtain ⟨prog, w, K, mg, base, A, N, s0, H0, env, outer, stack, ex, fn, calm, pn, xe⟩ := X
  cases A
  simp_all [Cx.wish, Around.mark]
/-- e.f, e the exception that such a body knows -/
theorem sq_pe_xf {X : Cx} {a C : Addr} {oe : Obj} {cls : Value} {d : Option Addr} {e : Expr} {te : TE} {pos : Pos} {n : Str} (T : XfC X.K C) (hno : PySem.W.findIn X.K (.ref C) n = some none) (hz : Zc cls d oe) (hf : ∃ vs, oe.data = .fields vs)
    (hh : X.A.handled = some (.ref a)) (hc : X.calm = false) (hp : X.pn = [(a, oe)]) (he : PE (X.suite a [(a, oe)]) e te) (hb : attributeBase e n X.env (eval e X.env) = eval e X.env := by rfl) : PE X (.Attribute e n pos) (tXf a cls d C n te) := by
  refine PE.nox ?_
  rw [hot_suite hh hc hp]
  exact pe_xf T hno hz hf he hb
end L2
/-! SqE3: _law_name, called in the except suite. -/
namespace SqP
open PySem PySem.Spec PyProof.Rows L2
/-- a def called in a suite: p is the exception that the suite holds -/
theorem run_ofH {CX : CXT} {P : Program} {w : World} {K : PySem.W.Frag} {mg : Str → Option Value} {base : Heap} {k : Nat} {f : Addr} {name qual : Str} {params : Arguments} {body : List Stmt} {scope : Scope} {dV kV doc pm cdv ct oc : Value} {an od : Option Addr}
    {osl : Array (Option Value)} {N ps : List Str} (lk : K.lookup f = some ⟨oc, od, .func (PySem.W.fnOf name qual params body scope dV kV doc pm an cdv ct), osl⟩) (hcd : PySem.W.codeIn K cdv qual = true) (S : FnScope N ps scope)
    {A : Around} {outer : List Env} {s : Shared} {H : Hp} {args : Args} {us : List Value} {vs : List V} {Q : VK} {E : XK} {p : Addr × Obj} (hr : L2H.RoomH (k + 1) A) (hpin : L2H.PinOk outer H s p) (e0 : Env0 P w K mg base A outer s H)
    (hb : BindsTo s (PySem.W.fnOf name qual params body scope dV kV doc pm an cdv ct) args (ps.zip us)) (r : Vals vs us) (hl : vs.length = ps.length)
    (hbody : L2H.RoomH k (A.deeper (envOfC qual scope s.heap.objs.size f cdv)) → ∃ t, PSs (L2H.cxH CX P w K mg base N qual scope f cdv A outer s H E p) body t ∧ t { nx := fun _ H' => Q .non H', rt := Q } (L2.start N vs) H) :
    codeAny (model P w) A (.call (.ref f) args) (CR CX outer P w H s Q E) s := by
  have up := fun b o (z : base.get? b = some o) => (e0.bs b o z).1
  have KX := e0.mod.kin.keeps up
  have kd : ∀ y ∈ ps.zip us, scope.names.lookup y.1 = some .local ∨ (scope.names.lookup y.1 = some .cell ∧ ((cellsFrom (s.heap.objs.size + 1) scope.names []).lookup y.1).isSome = true) := fun y hy =>
    (S.par y.1 (List.of_mem_zip (b := y.2) hy).1).imp id fun q => ⟨q, PySem.W.cellsFrom_some _ _ _ (.inl q)⟩
  refine codeAny_call_function hr.depth (KX _ _ lk) rfl S.co S.gen rfl (PySem.W.codeRec_of KX hcd) (hb _ _ _ _ (wpAny_newFunctionEnv_cells S.kind kd fun env he s1 x => ?_))
  cases he
  obtain ⟨t, ht, hq⟩ := hbody (hr.deeper _)
  refine ⟨(e0.mod.nolimit.keeps up).keeps x.toInCall.keep, codeAny_func (wpAny_mono (ht.run [] s1 _ H _ (L2H.inv_startH (CX := CX) (E := E) S hpin e0 hl r x) hq) (fun fl s' hs => ?_) fun _ _ z => z)⟩
  match fl, hs with
  | .ret u, ⟨v, σ', H', J, rv, q⟩ => exact ⟨v, H', J.os, J.bare, J.base, J.hok, rv, q⟩
  | .next, ⟨σ', H', J, q⟩ => exact ⟨.non, H', J.os, J.bare, J.base, J.hok, rfl, q⟩
  | .brk, ⟨_, _, _, q⟩ => exact q.elim
  | .cont, ⟨_, _, _, q⟩ => exact q.elim
/-- what the law's names ask of the classes -/
structure NameC (K : PySem.W.Frag) (mg : Str → Option Value) (CT CU CM : Addr) : Prop where
  ecT : ExcC K CT
  ecU : ExcC K CU
  ecM : ExcC K CM
  gT : mg "InvalidTies" = some (.ref CT)
  gU : mg "Unlike" = some (.ref CU)
  gM : mg "TooMany" = some (.ref CM)
  tT : PySem.W.kitOne K (.ref CT) (.ref CT) = some true
  tU : PySem.W.kitOne K (.ref CT) (.ref CU) = some false
  tM : PySem.W.kitOne K (.ref CT) (.ref CM) = some false
  uU : PySem.W.kitOne K (.ref CU) (.ref CU) = some true
  uM : PySem.W.kitOne K (.ref CU) (.ref CM) = some false
  mM : PySem.W.kitOne K (.ref CM) (.ref CM) = some true
  xf : XfC K CM
  lim : PySem.W.findIn K (.ref CM) "limit" = some none
/-- an error, and the law's name for it -/
def Named (CT CU CM : Addr) (cls : Value) (d : Option Addr) (H : Hp) (name : Str) : Prop :=
  (cls = .ref CT ∧ d = none ∧ name = "ties") ∨ (cls = .ref CU ∧ d = none ∧ name = "unlike") ∨ (cls = .ref CM ∧ name = "many 6" ∧ ∃ dx, d = some dx ∧ H dx = some (.xd [("limit", .int 6)]))
theorem scName : FnScope ["_law_e"] ["_law_e"] (defScope sName) := ⟨rfl, rfl, rfl, by decide +kernel, rfl, by decide +kernel, by decide +kernel⟩
theorem many6 : (("many " : Str) ++ ((toString (6 : Int) : String) : Str)) = ("many 6" : Str) := by decide +kernel
theorem pe_name {X : Cx} {mg : Str → Option Value} {f a CT CU CM : Addr} {fd : FuncData} {oe : Obj} {cls : Value} {d : Option Addr} {e : Expr} {te : TE} {q pos : Pos} (F : Fun X.K "_law_name" "_law_name" sName f fd) (hmg : X.mg = mg) (B : Bi mg) (N : NameC X.K mg CT CU CM)
    (gf : mg "_law_name" = some (.ref f)) (hg : Gl X "_law_name") (hb : Binds X.K fd ["_law_e"] []) (hr : L2H.RoomH 1 X.A) (hz : Zc cls d oe) (hf : ∃ vs, oe.data = .fields vs) (hp : (a, oe) ∈ X.pn) (hh : X.A.handled = some (.ref a)) (he : PE X e te)
    (hx : ∀ pins σ H s er s', Inv X pins σ H s → CX0 X.stack H s E0 er s' → X.xe er s')
    (hse : starEach [e] X.env = (false, eval e X.env) :: starEach [] X.env := by rfl) :
    PE X (.Call (.Name "_law_name" q) [e] [] pos) (fun σ H Q => tCons te tNil σ H fun vs H1 => ∃ name, vs = [.ref a] ∧ Named CT CU CM cls d H1 name ∧ Q (.str name) H1) := by
  subst hmg
  refine ⟨fun pins s σ H Q I h => ?_⟩
  refine wpAny_Call_Name_kw (ld_glob I hg gf ?_ (by decide))
  refine PySem.W.callWith_K (h₀ := X.base) I.ok.mod.kin F.kp (thn ((pa_cons he pa_nil hse).run pos pins s σ H _ I h) fun us s1 ⟨vs, H1, I1, r, name, ev, nm, q⟩ => ⟨I1.kIn, ?_⟩) hse (by rfl)
  · subst ev
    obtain ⟨oc, od, kV, doc, pm, an, cdv, ct, osl, rfl, lk, hcd⟩ := F.ex
    have P1 := I1.pin (a, oe) (List.mem_append_left _ hp)
    have hpin : L2H.PinOk X.stack H1 s1 (a, oe) := ⟨P1.1, P1.2.1, fun hm => (List.mem_cons.mp (I1.stkSub a hm)).elim P1.2.2.1 P1.2.2.2.1, P1.2.2.2.2⟩
    have b := hb s1 us I1.kIn (by rw [List.append_nil, ← r.length]; rfl)
    rw [List.append_nil] at b
    refine wpAny_call (codeAny_mono (run_ofH (CX := CX0) (Q := Q) (E := E0) lk hcd scName hr hpin I1.env0 b r rfl fun hr2 => ?_) fun r s' hq => ?_)
    · have isE : ∀ {C2 : Addr} {x : Str} {p1 p2 p3 p4 : Pos}, X.mg x = some (.ref C2) → (defScope sName).names.lookup x = some .globalImplicit → (x == ("__debug__" : Str)) = false → ∀ D, cls = .ref D → ExcC X.K D →
          PT (L2H.cxH CX0 X.prog X.w X.K X.mg X.base ["_law_e"] "_law_name" (defScope sName) f cdv X.A X.stack s1 H1 E0 (a, oe)) (.Call (.Name "isinstance" p1) [.Name "_law_e" p2, .Name x p3] [] p4) (tB (tCB (sqIsE X.K D a d) (tCons (tVar 0) (tCons (tC (.ref C2)) tNil)))) := fun {C2 x p1 p2 p3 p4} hgx hlx hdx D hD ec => by
        subst hD
        refine pt_val (pe_callB (sq_call_isE ec hz hf (List.mem_cons_self ..)) (by rfl) B.isi (by decide +kernel) (pa_cons (pv 0) (pa_cons (pe_glob hlx hgx rfl hdx) pa_nil)))
      have hD : ∃ D, cls = .ref D ∧ ExcC X.K D := by
        rcases nm with ⟨h1, _⟩ | ⟨h1, _⟩ | ⟨h1, _⟩
        · exact ⟨_, h1, N.ecT⟩
        · exact ⟨_, h1, N.ecU⟩
        · exact ⟨_, h1, N.ecM⟩
      obtain ⟨D, hD, ec⟩ := hD
      refine ⟨_, pss_cons (ps_if (isE N.gM (by decide +kernel) (by decide) D hD ec) (pss_one (ps_ret (pe_op op_add_str pe_str (pe_callTy call_str_int (by rfl) B.str (by decide +kernel) (pa_cons (sq_pe_xf N.xf N.lim hz hf hh rfl rfl (pv 0)) pa_nil))))) pss_nil)
        (pss_one (ps_ret (pe_ifExp (isE N.gU (by decide +kernel) (by decide) D hD ec) pe_str (pe_ifExp (isE N.gT (by decide +kernel) (by decide) D hD ec) pe_str pe_str)))), ?_⟩
      rcases nm with ⟨h1, h2, h3⟩ | ⟨h1, h2, h3⟩ | ⟨h1, h3, dx, h2, h4⟩
      · subst h2 h3
        obtain rfl : CT = D := Value.ref.inj (h1.symm.trans hD)
        refine ⟨_, rfl, CM, false, rfl, .inl ⟨rfl, N.tM⟩, _, rfl, iteF ?_⟩
        refine ⟨_, rfl, CU, false, rfl, .inl ⟨rfl, N.tU⟩, _, rfl, iteF ?_⟩
        exact ⟨_, rfl, CT, true, rfl, .inl ⟨rfl, N.tT⟩, _, rfl, iteT q⟩
      · subst h2 h3
        obtain rfl : CU = D := Value.ref.inj (h1.symm.trans hD)
        refine ⟨_, rfl, CM, false, rfl, .inl ⟨rfl, N.uM⟩, _, rfl, iteF ?_⟩
        exact ⟨_, rfl, CU, true, rfl, .inl ⟨rfl, N.uU⟩, _, rfl, iteT q⟩
      · subst h2 h3
        obtain rfl : CM = D := Value.ref.inj (h1.symm.trans hD)
        refine ⟨_, rfl, CM, true, rfl, .inr ⟨rfl, rfl⟩, _, rfl, iteT ?_⟩
        refine ⟨_, rfl, rfl, h1, dx, _, .int 6, rfl, h4, rfl, 6, rfl, by decide +kernel, _, _, rfl, rfl, by decide +kernel, ?_⟩
        rw [many6]
        exact q
    · cases r with
      | error er => exact hx pins σ H1 s1 er s' I1 hq
      | ok fl =>
        cases fl with
        | ret u => exact I1.after hq
        | next => exact False.elim hq
        | brk => exact False.elim hq
        | cont => exact False.elim hq
end SqP
/-! SqE4: a lambda with parameters, called in the def that got it. -/
namespace SqP
open PySem PySem.Spec PyProof.Rows L2 LamX NdefX
section
variable {CX : CXT} {P : Program} {w : World} {K : PySem.W.Frag} {mg : Str → Option Value} {base : Heap} {N ps fr : List Str} {F : NF} {f : Addr} {k : Nat}
theorem lam_run {A : Around} {outer : List Env} {s : Shared} {H : Hp} {us : List Value} {vs : List V} {ws : List (Option V)} {Q : VK} {E : XK} {body : Expr} {pm ctv : Value} {tb : TE} (S : NScope N ps fr F.scope)
    (hf : s.heap.get? f = some (PySem.W.kla_obj "<lambda>" F.qual F.params body F.scope F.cl pm F.c ctv)) (hb : bindArgs (PySem.W.kla_fn "<lambda>" F.qual F.params body F.scope F.cl pm (.ref F.c) ctv) ⟨us, []⟩ = pure (ps.zip us)) (hl : vs.length = ps.length)
    (hr : Room (k + 1) A) (e0 : Env0 P w K mg base A outer s H) (hc : H F.c = some (CodeO F.c F.qual)) (C : CellsAt F.cl fr ws s.heap H) (r : Vals vs us)
    (hbody : Room k (A.deeper (envF F f s.heap.objs.size)) → PE (ncx CX P w K mg base N F f A outer s H E) body tb) (ht : tb (startF N vs ws) H Q) : codeAny (model P w) A (.call (.ref f) ⟨us, []⟩) (CR CX outer P w H s Q E) s := by
  have lim : s.heap.NoLimit := e0.mod.nolimit.keeps fun b o e => (e0.bs b o e).1
  refine PySem.W.kla_callFunE hr.depth hf rfl S.co S.gen rfl (codeO_at e0.hok hc) ?_
  rw [hb]
  refine wpAny_pure (wpAny_newFunctionEnv S.nocell (fun ⟨n, _⟩ hy => S.par n (List.of_mem_zip hy).1) (fun h₁ hns hsb => ⟨lim.fresh _ hsb, ?_⟩) S.kind)
  show codeAny _ _ (.expr body (envF F f s.heap.objs.size)) _ _
  have kp : ∀ b o, s.heap.get? b = some o → h₁.get? b = some o := fun b o e => hsb.extBut b o (Nat.ne_of_lt (Heap.lt_size e)) (Heap.get?_push_of_some _ e)
  have I : Inv (ncx CX P w K mg base N F f A outer s H E) [] (startF N vs ws) H { s with heap := h₁, toks := s.toks + (ps.zip us).length } := inv_startN S hr.hd e0 hl r C hns kp
  refine PySem.W.kla_codeExpr (wpAny_mono ((hbody (hr.deeper _)).run [] _ _ H Q I ht) (fun v s' hq => ?_) fun e s' hq => hq)
  obtain ⟨w', H', J', rv, q⟩ := hq
  exact ⟨w', H', J'.os, J'.bare, J'.base, J'.hok, rv, q⟩
end
/-- what the cells held when the running frame began they hold still -/
theorem cells_later {X : Cx} {pins : List (Addr × Obj)} {σ : L2.St} {H : Hp} {s : Shared} {cl : List (Str × Addr)} {fr : List Str} {ws : List (Option V)} (C : CellsAt cl fr ws X.s_0.heap X.H_0) (hx : X.ex = []) (I : Inv X pins σ H s) : CellsAt cl fr ws s.heap H := by
  have nx : ∀ c, c ∉ X.ex := fun c => by rw [hx]; simp
  have kp : ∀ y c, cl.lookup y = some c → ∀ v, X.s_0.heap.IsCell c v → s.heap.IsCell c v := fun y c e v ⟨o, ho, hd⟩ => by
    obtain ⟨sl, q⟩ := I.base.any ho (C.all y c e).1 (nx c)
    exact ⟨_, q, hd⟩
  refine ⟨C.len, fun y c e => ?_, C.inj, fun i y e => ?_⟩
  · obtain ⟨n, v, z⟩ := C.all y c e
    refine ⟨?_, v, kp y c e v z⟩
    obtain ⟨o, ho, _⟩ := z
    exact I.base.free c o ho n (nx c)
  · obtain ⟨c, hc, hv⟩ := C.has i y e
    refine ⟨c, hc, fun v ev => ?_⟩
    obtain ⟨u, r, z⟩ := hv v ev
    exact ⟨u, r, kp y c hc _ z⟩
/-- a(e), in the def that got the lambda as its i-th: the def's context, entered at s; ws: what the captured cells held there -/
theorem pe_act1 {CXg : CXT} {P : Program} {w : World} {K : PySem.W.Frag} {mg : Str → Option Value} {base : Heap} {Ng N ps fr : List Str} {F : NF} {qg : Str} {sg : Scope} {g f : Addr} {cdg pm ctv : Value} {A : Around} {outer : List Env} {s : Shared} {H : Hp} {Eg : XK} {body : Expr} {k i : Nat} {a : Str}
    {pn : List (Addr × Obj)} {xe : Value → Shared → Prop} {W : WX} {tb : XK → TE} {ws : List (Option V)} {e : Expr} {te : TE} {p1 p2 : Pos} (S : NScope N ps fr F.scope) (h1 : ps.length = 1)
    (hf : s.heap.get? f = some (PySem.W.kla_obj "<lambda>" F.qual F.params body F.scope F.cl pm F.c ctv)) (hfn : H f = none) (hfr : f ∉ frs outer) (C : CellsAt F.cl fr ws s.heap H)
    (hb : ∀ u, bindArgs (PySem.W.kla_fn "<lambda>" F.qual F.params body F.scope F.cl pm (.ref F.c) ctv) ⟨[u], []⟩ = pure (ps.zip [u]))
    (tk : Takes ((cxOf CXg P w K mg base Ng qg sg g cdg A outer s H Eg).tr pn xe) W) (hr : Room (k + 1) (A.deeper (envOfC qg sg s.heap.objs.size g cdg)))
    (hbody : ∀ (A : Around) (outer : List Env) (s : Shared) (H : Hp) (E : XK), Room k (A.deeper (envF F f s.heap.objs.size)) → PE (ncx (L2.CX P w) P w K mg base N F f A outer s H E) body (tb E))
    (hN : Ng[i]? = some a) (hv : Vis sg a) (he : PE ((cxOf CXg P w K mg base Ng qg sg g cdg A outer s H Eg).tr pn xe) e te) (hse : starEach [e] (envOfC qg sg s.heap.objs.size g cdg) = (false, eval e (envOfC qg sg s.heap.objs.size g cdg)) :: starEach [] (envOfC qg sg s.heap.objs.size g cdg))
    (hd : (a == ("__debug__" : Str)) = false := by decide) (hcd : (a == ("__classdict__" : Str)) = false := by decide) :
    PE ((cxOf CXg P w K mg base Ng qg sg g cdg A outer s H Eg).tr pn xe) (.Call (.Name a p1) [e] [] p2)
      (fun σZ HZ Q => σZ[i]? = some (some (.ref f)) ∧ tCons te tNil σZ HZ fun vs HZ => ∃ v, vs = [v] ∧ HZ F.c = some (CodeO F.c F.qual) ∧ tb (fun cls d H => W cls d σZ H) (startF N [v] ws) HZ Q) := by
  refine ⟨fun pinsZ sZ σZ HZ Q IZ h => ?_⟩
  obtain ⟨hs, ht⟩ := h
  refine wpAny_Call_Name_kw (thn ((pe_var (pos := p1) (i := i) hN hv hd hcd).run pinsZ sZ σZ HZ (fun v H1 => v = .ref f ∧ H1 = HZ) IZ ⟨.ref f, hs, rfl, rfl⟩) fun u s1 ⟨v, H1, I1, r1, q1⟩ => ?_)
  obtain ⟨ev, eH⟩ := q1
  subst ev
  rw [eH] at I1
  obtain rfl : u = Value.ref f := r1
  have at_f : ∀ {pins : List (Addr × Obj)} {σ : L2.St} {H' : Hp} {s' : Shared}, Inv ((cxOf CXg P w K mg base Ng qg sg g cdg A outer s H Eg).tr pn xe) pins σ H' s' → s'.heap.get? f = some (PySem.W.kla_obj "<lambda>" F.qual F.params body F.scope F.cl pm F.c ctv) := fun {pins σ H' s'} J =>
    J.base.keep f _ hf hfn hfr (fun z => nomatch (show f ∈ ([] : List Addr) from z))
  refine PySem.W.callWith_F ⟨_, _, _, _, at_f I1⟩ (thn ((pa_cons he pa_nil hse).run p2 pinsZ s1 σZ HZ _ I1 ht) fun us s2 ⟨vs, H2, I2, r2, v, ev, hc, q2⟩ => ⟨⟨_, _, _, _, at_f I2⟩, ?_⟩) hse (by rfl)
  have Z2 : CellsAt F.cl fr ws s2.heap H2 := cells_later (X := (cxOf CXg P w K mg base Ng qg sg g cdg A outer s H Eg).tr pn xe) C rfl I2
  show wpAny _ _ (call (.ref f) us) _ _ s2
  subst ev
  obtain ⟨u, rfl⟩ : ∃ u, us = [u] := by
    cases r2 with
    | cons _ rr =>
      cases rr
      exact ⟨_, rfl⟩
  have rc : codeAny (model P w) (A.deeper (envOfC qg sg s.heap.objs.size g cdg)) (.call (.ref f) ⟨[u], []⟩) (CR (L2.CX P w) (envOfC qg sg s.heap.objs.size g cdg :: outer) P w H2 s2 Q (fun cls d H => W cls d σZ H)) s2 :=
    lam_run S (at_f I2) (hb u) (by rw [h1]; rfl) hr I2.env0 hc Z2 r2 (fun hr2 => hbody _ _ s2 H2 _ hr2) q2
  refine wpAny_call (codeAny_mono rc fun r s' hq => ?_)
  cases r with
  | error e => exact passAt tk σZ pinsZ H2 s2 e s' I2 hq
  | ok fl =>
    cases fl with
    | ret u => exact I2.after hq
    | next => exact False.elim hq
    | brk => exact False.elim hq
    | cont => exact False.elim hq
end SqP
/-! SqE5: _law_words. -/
namespace SqP
open PySem PySem.Spec PyProof.Rows L2 LamX NdefX
abbrev nmWords : List Str := ["_law_call", "_law_odds", "_law_found", "_law_odd", "_law_e"]
theorem scWords : FnScope nmWords ["_law_call", "_law_odds"] (defScope sWords) := ⟨rfl, rfl, rfl, by decide +kernel, rfl, by decide +kernel, by decide +kernel⟩
def tTryAs (K : PySem.W.Frag) (c : Value) (i : Nat) (ts : Addr → Value → Option Addr → TS) (Wout : WX) (tb : WX → TS) : TS := fun D σ H => tb (wAs K c i ts Wout D) D σ H
theorem ps_tryA {X : Cx} {x n : Str} {c : Value} {i : Nat} {body suite : List Stmt} {b₀ : Stmt} {np pos pos' : Pos} {tb : WX → TS} {ts : Addr → Value → Option Addr → TS} {Wout : WX} (hs : X.stack = X.env :: X.outer) (hf : X.env.frame = some X.env.locals) (hN : X.N.Nodup) (hi : X.N[i]? = some n) (hln : X.env.kindOf n = some .local) (hc : Names X x c) (tk : Takes X Wout)
    (hb : ∀ (W : WX) (pn : List (Addr × Obj)) (xe : Value → Shared → Prop), Takes (X.tr pn xe) W → PassesOwn (model X.prog X.w) X.A X.env xe → PSs (X.tr pn xe) body (tb W))
    (hsu : ∀ (a : Addr) (oe : Obj) (cls : Value) (d : Option Addr) (pn : List (Addr × Obj)), Zc cls d oe → (∃ vs, oe.data = .fields vs) → PSs (X.suite a ((a, oe) :: pn)) (b₀ :: suite) (ts a cls d)) :
    PS X (.Try body [.ExceptHandler (some (.Name x np)) (some n) (b₀ :: suite) pos'] [] [] pos) (tTryAs X.K c i ts Wout tb) := ps_try_as hs hf hN hi hln hc tk hb hsu
/-- what the clause asks of the classes -/
structure CatchC (K : PySem.W.Frag) (mg : Str → Option Value) (CS CT CU CM : Addr) : Prop where
  g : mg "SignError" = some (.ref CS)
  t : PySem.W.exmOne K (.ref CT) (.ref CS) = some true
  u : PySem.W.exmOne K (.ref CU) (.ref CS) = some true
  m : PySem.W.exmOne K (.ref CM) (.ref CS) = some true
section
variable {P : Program} {w : World} {K : PySem.W.Frag} {mg : Str → Option Value} {base : Heap} {g f c' l fn CS CT CU CM : Addr} {fdn : FuncData} {cdg : Value} {A : Around} {outer : List Env} {s : Shared} {H : Hp} {q : Str} {tl : V → XK → Hp → VK → Prop} {xs : List V} {names : List Str} {Q : VK}
abbrev zWords (P : Program) (w : World) (K : PySem.W.Frag) (mg : Str → Option Value) (base : Heap) (g : Addr) (cdg : Value) (A : Around) (outer : List Env) (s : Shared) (H : Hp) : Cx := cxOf CX0 P w K mg base nmWords "_law_words" (defScope sWords) g cdg A outer s H E0
theorem words_body (B : Bi mg) (NC : NameC K mg CT CU CM) (KC : CatchC K mg CS CT CU CM) (FN : Fun K "_law_name" "_law_name" sName fn fdn) (gN : mg "_law_name" = some (.ref fn)) (bN : Binds K fdn ["_law_e"] []) (hr : Room 1 (A.deeper (envOfC "_law_words" (defScope sWords) s.heap.objs.size g cdg)))
    (act : ∀ (W : WX) (pn : List (Addr × Obj)) (xe : Value → Shared → Prop) (p1 p2 p3 : Pos), Takes ((zWords P w K mg base g cdg A outer s H).tr pn xe) W →
      PE ((zWords P w K mg base g cdg A outer s H).tr pn xe) (.Call (.Name "_law_call" p1) [.Name "_law_odd" p3] [] p2) (fun σZ HZ Q => σZ[0]? = some (some (.ref f)) ∧ tCons (tVar 3) tNil σZ HZ fun vs HZ => ∃ v, vs = [v] ∧ HZ c' = some (CodeO c' q) ∧ tl v (fun cls d H => W cls d σZ H) HZ Q))
    (hc : H c' = some (CodeO c' q)) (hl : H l = some (.lst xs)) (hz : xs.length ≤ 1000) (hxn : xs.length = names.length)
    (odd : ∀ (j : Nat) (x : V) (nm : Str), xs[j]? = some x → names[j]? = some nm → ∀ HZ, Same H HZ → ∀ (E : XK) (Q' : VK), (∀ cls d H', Same HZ H' → Named CT CU CM cls d H' nm → E cls d H') → tl x E HZ Q')
    (k : ∀ H3 r, Same H H3 → H3 r = some (.lst (names.map V.str)) → Q (.ref r) H3) :
    ∃ t, PSs (zWords P w K mg base g cdg A outer s H).nox (defBody sWords) t ∧ t { nx := fun _ H' => Q .non H', rt := Q } (L2.start nmWords [.ref f, .ref l]) H := by
  have act' : ∀ (W : WX) (pn : List (Addr × Obj)) (xe : Value → Shared → Prop) (p1 p2 p3 : Pos), Takes ((zWords P w K mg base g cdg A outer s H).nox.tr pn xe) W →
      PE ((zWords P w K mg base g cdg A outer s H).nox.tr pn xe) (.Call (.Name "_law_call" p1) [.Name "_law_odd" p3] [] p2) (fun σZ HZ Q => σZ[0]? = some (some (.ref f)) ∧ tCons (tVar 3) tNil σZ HZ fun vs HZ => ∃ v, vs = [v] ∧ HZ c' = some (CodeO c' q) ∧ tl v (fun cls d H => W cls d σZ H) HZ Q) := act
  refine ⟨_, pss_cons (ps_set (i := 2) scWords.nd rfl (.inl rfl) (pe_lst pa_nil))
    (pss_cons (ps_for PassesOwn.never rfl (pi_list (pv 1)) (pg_name (i := 3) scWords.nd rfl (.inl rfl))
      (pss_one (ps_tryA (X := (zWords P w K mg base g cdg A outer s H).nox) (c := .ref CS) (i := 4)
        (tb := fun W => tSeq (tDrop (fun σZ HZ Q => σZ[0]? = some (some (.ref f)) ∧ tCons (tVar 3) tNil σZ HZ fun vs HZ => ∃ v, vs = [v] ∧ HZ c' = some (CodeO c' q) ∧ tl v (fun cls d H => W cls d σZ H) HZ Q)) (tDrop (tBM K "list" rAppend (tVar 2) (tCons (tC (.str "none")) tNil))))
        (ts := fun a cls d => tDrop (tBM K "list" rAppend (tVar 2) (tCons (fun σ H Q => tCons (tVar 4) tNil σ H fun vs H1 => ∃ name, vs = [.ref a] ∧ Named CT CU CM cls d H1 name ∧ Q (.str name) H1) tNil))) rfl rfl scWords.nd rfl rfl ⟨by rfl, by decide, .inl KC.g⟩ L2.takes0
        (fun W pn xe tk _ => by exact pss_cons (ps_expr (act' W pn xe _ _ _ tk)) (pss_one (ps_expr (pe_bm PySem.F.plainAttrs_list PySem.F.slot_list_append PySem.F.type_list_append mt_append (pv 2) (pa_cons pe_str pa_nil)))))
        (fun a oe cls d pn hzc hf => by exact pss_one (ps_expr (pe_bm PySem.F.plainAttrs_list PySem.F.slot_list_append PySem.F.type_list_append mt_append (pv 2) (pa_cons
          (pe_name (mg := mg) FN rfl B NC gN (by rfl) bN ⟨hr.dp, hr.un⟩ hzc hf (List.mem_cons_self ..) rfl (pv 4) (fun _ _ _ _ _ _ _ h => h.elim)) pa_nil)))))))
    (pss_one (ps_ret (pv 2)))), ?_⟩
  refine ⟨Nat.zero_le _, fun fo hfo => ?_⟩
  refine ⟨_, rfl, l, rfl, ⟨_, .of (upd_keep hl hfo)⟩, for_list (K := K) (a := l) (xs := xs) (fun j σ H' => ∃ (v3 v4 : Option V), σ = [some (.ref f), some (.ref l), some (.ref fo), v3, v4] ∧ Same H H' ∧ H' fo = some (.lst ((names.take j).map V.str)))
    ⟨none, none, rfl, same_new (.refl _) hfo, upd_same⟩ (fun j σ H' _ ⟨_, _, _, s, _⟩ => .of (s _ _ hl)) ?_ ?_⟩
  · rintro j x σ H1 hj ⟨v3, v4, rfl, s1, h1⟩
    have hjl : j < xs.length := (List.getElem?_eq_some_iff.mp hj).1
    obtain ⟨nm, hnm⟩ : ∃ nm, names[j]? = some nm := ⟨_, List.getElem?_eq_getElem (by omega)⟩
    refine ⟨rfl, _, rfl, x, rfl, s1 _ _ hc, odd j x nm hj hnm H1 s1 _ _ (fun cls d H' s2 nmd => ?_)⟩
    have h1' := s2 _ _ h1
    refine ⟨true, ?_, fun _ a ha => ?_, fun z => (by cases z)⟩
    · rcases nmd with ⟨rfl, _⟩ | ⟨rfl, _⟩ | ⟨rfl, _⟩
      · exact KC.t
      · exact KC.u
      · exact KC.m
    · refine ⟨_, rfl, .inl ⟨rfl, _, .of h1'⟩, _, rfl, nm, rfl, nmd, fo, _, _, rfl, rfl, h1', ?_, ?_⟩
      · rw [List.length_map, sizeLine_eq]
        have := List.length_take_le j names
        omega
      · refine ⟨_, _, rfl, same_mut (s1.trans s2) hfo, ?_⟩
        rw [upd_same, Sq.take_more hnm, List.map_append]
        rfl
  · rintro σ H1 ⟨v3, v4, rfl, s1, h1⟩
    rw [hxn, List.take_length] at h1
    exact ⟨_, rfl, k _ fo s1 h1⟩
end
end SqP
/-! SqE6: _law_words(lambda e: .., odds). -/
namespace SqP
open PySem PySem.Spec PyProof.Rows L2 LamX NdefX
/-- the reading: te2 the odds, tb the lambda's body, js where the captured names stand -/
def tWords (T : List (Addr × Str)) (CT CU CM : Addr) (N : List Str) (js : List Nat) (te2 : TE) (tb : XK → TE) : TE := fun σ H Q => Tabs T H ∧ ∀ H1, ExtN H H1 → Tabs T H1 → tCons te2 tNil σ H1 fun vs2 H2 => ∃ (l : Addr) (xs : List V) (names : List Str), vs2 = [.ref l] ∧ H2 l = some (.lst xs) ∧ xs.length ≤ 1000 ∧ xs.length = names.length ∧ Same H1 H2 ∧
  (∀ (j : Nat) (x : V) (nm : Str), xs[j]? = some x → names[j]? = some nm → ∀ HZ, Same H2 HZ → ∀ (E : XK) (Q' : VK), (∀ cls d H', Same HZ H' → Named CT CU CM cls d H' nm → E cls d H') → tb E (startF N [x] (js.map (slotAt σ))) HZ Q') ∧
  ∀ H3 r, Same H2 H3 → H3 r = some (.lst (names.map V.str)) → Q (.ref r) H3
theorem pe_words {X : Cx} {mg : Str → Option Value} {g fn c P CS CT CU CM : Addr} {fd fdn : FuncData} {k : Nat} {T : List (Addr × Str)} {params : Arguments} {body e2 : Expr} {scope : Scope} {N fr : List Str} {js : List Nat} {a : Str} {te2 : TE} {tb : XK → TE} {p lpos pos : Pos}
    (hmg : X.mg = mg) (B : Bi mg) (NC : NameC X.K mg CT CU CM) (KC : CatchC X.K mg CS CT CU CM) (F : Fun X.K "_law_words" "_law_words" sWords g fd) (gg : mg "_law_words" = some (.ref g)) (hg : Gl X "_law_words") (hbg : Binds X.K fd ["_law_call", "_law_odds"] [])
    (FN : Fun X.K "_law_name" "_law_name" sName fn fdn) (gN : mg "_law_name" = some (.ref fn)) (bN : Binds X.K fdn ["_law_e"] [])
    (TB : TabB X.base X.mg c P) (hcode : X.env.code = .ref c) (hmT : (P, X.env.qual ++ "<lambda>") ∈ T) (hu : ∀ p ∈ T, p.1 = P → p.2 = X.env.qual ++ "<lambda>") (hr : Room (k + 2) X.A) (hx0 : Passes CX0 X E0)
    (S : NScope N [a] fr scope) (hdef : defaultsOf params X.env = ([], [])) (hfree : ndefB X.env.scope scope fr = true) (hjs : js.map (fun j => X.N[j]?) = fr.map some)
    (hbind : ∀ (q : Str) (cl : List (Str × Addr)) (pm cv ctv u : Value), bindArgs (PySem.W.kla_fn "<lambda>" q params body scope cl pm cv ctv) ⟨[u], []⟩ = pure [(a, u)])
    (he2 : PE X e2 te2) (hse2 : starEach [e2] X.env = (false, eval e2 X.env) :: starEach [] X.env)
    (hbody : ∀ (q : Str) (cl : List (Str × Addr)) (c' : Addr) (A : Around) (outer : List Env) (s : Shared) (H : Hp) (E : XK) (f : Addr), Room k (A.deeper (envF ⟨"<lambda>", q, params, [], scope, cl, c'⟩ f s.heap.objs.size)) → PE (ncx (L2.CX X.prog X.w) X.prog X.w X.K X.mg X.base N ⟨"<lambda>", q, params, [], scope, cl, c'⟩ f A outer s H E) body (tb E))
    (he : starEach (.Lambda params body scope lpos :: [e2]) X.env = (false, eval (.Lambda params body scope lpos) X.env) :: starEach [e2] X.env := by rfl) :
    PE X (.Call (.Name "_law_words" p) [.Lambda params body scope lpos, e2] [] pos) (tWords T CT CU CM N js te2 tb) := by
  subst hmg
  have hfr2 := ndef_free hfree
  refine ⟨fun pins s σ H Q I h => ?_⟩
  obtain ⟨hT, h⟩ := h
  obtain ⟨oc, od, kV, doc, pm0, an, cdv, ct, osl, rfl, lk, hcd⟩ := F.ex
  refine wpAny_Call_Name_kw (ld_glob I hg gg ?_ (by decide))
  refine PySem.W.callWith_K (h₀ := X.base) I.ok.mod.kin F.kp ?_ he (by rw [hse2]; rfl)
  rw [he]
  show wpAny _ _ (spliced ((false, eval (.Lambda params body scope lpos) X.env) :: backTo pos (starEach [e2] X.env))) _ _ s
  refine Calls.spliced_cons (lam_make2 I TB hcode hmT hu hT hdef (fun y hy e => (hfr2 y hy e).elim (fun z => I.ok.has _ (.inl z)) fun z => I.ok.has _ (.inr z)) fun f c' pm' ctv H1 s' I1 eN T1 hf hfn hfr hco => ?_)
  have I1' : Inv X ((f, PySem.W.kla_obj "<lambda>" (X.env.qual ++ "<lambda>") params body scope (cloFrom X.env.cells scope.names []) pm' c' ctv) :: pins) σ H1 s' := by
    refine ⟨I1.ok, I1.os, I1.bare, I1.base, I1.loc, I1.cell, I1.free, I1.freeC, fun p hp => ?_, I1.hok, I1.len⟩
    rcases List.mem_append.mp hp with z | z
    · exact I1.pin p (List.mem_append_left _ z)
    · rcases List.mem_cons.mp z with z | z
      · subst z
        refine ⟨hf, hfn, fun e => ?_, fun hb => hfr ?_, fun v z => by cases z⟩
        · obtain ⟨m, ⟨o, es, ep, ho, hd, _⟩, _⟩ := I1.loc
          have e' : f = X.env.locals := e
          rw [← e', hf] at ho
          cases ho
          cases hd
        · rcases I1.ok.stk with q | ⟨q, _⟩
          · rw [q]
            exact hb
          · rw [q]
            obtain ⟨e, he, q2⟩ := List.mem_filterMap.mp hb
            exact List.mem_filterMap.mpr ⟨e, List.mem_cons_of_mem _ he, q2⟩
      · exact I1.pin p (List.mem_append_right _ z)
  refine thn ((pa_cons he2 pa_nil hse2).run pos _ s' σ H1 _ I1' (h H1 eN T1)) fun us2 s2 ⟨vs2, H2, I2, r2, l, xs, names, ev, hl, hz, hxn, hS, odd, kq⟩ => ?_
  subst ev
  refine ⟨I2.kIn, ?_⟩
  show wpAny _ _ (call (.ref g) (.ref f :: us2)) _ _ s2
  have I3 : Inv X pins σ H2 s2 := ⟨I2.ok, I2.os, I2.bare, I2.base, I2.loc, I2.cell, I2.free, I2.freeC, fun p hp => I2.pin p (by
    rcases List.mem_append.mp hp with z | z
    · exact List.mem_append_left _ z
    · exact List.mem_append_right _ (List.mem_cons_of_mem _ z)), I2.hok, I2.len⟩
  obtain ⟨hf2, hfn2, _⟩ := I2.pin _ (List.mem_append_right _ (List.mem_cons_self ..))
  have C : CellsAt (cloFrom X.env.cells scope.names []) fr (js.map (slotAt σ)) s2.heap H2 := cells_of I3 (Caps.made I3.ok hfr2 (ndef_fr hfree) hjs)
  have rc : codeAny (model X.prog X.w) X.A (.call (.ref g) ⟨.ref f :: us2, []⟩) (CR CX0 X.stack X.prog X.w H2 s2 Q E0) s2 := by
    refine run_ofS (N := nmWords) (ps := ["_law_call", "_law_odds"]) (us := .ref f :: us2) (vs := [.ref f, .ref l]) lk hcd scWords hr I3.env0 ?_ (.cons rfl r2) rfl fun hr' => ?_
    · have b := hbg s2 (.ref f :: us2) I3.kIn (by rw [List.append_nil]; show us2.length + 1 = 2; rw [← r2.length]; rfl)
      rw [List.append_nil] at b
      exact b
    · obtain ⟨t', ht', hq'⟩ := words_body (f := f) (c' := c') (q := X.env.qual ++ "<lambda>") (tl := fun v E HZ Q => tb E (startF N [v] (js.map (slotAt σ))) HZ Q) B NC KC FN gN bN (hr'.mono (by omega)) (fun W pn xe p1 p2 p3 tk =>
          pe_act1 (i := 0) (F := ⟨"<lambda>", X.env.qual ++ "<lambda>", params, [], scope, cloFrom X.env.cells scope.names [], c'⟩) S rfl hf2 hfn2 hfr C (fun u => hbind _ _ _ _ _ u) tk hr' (fun A outer s H E hr2 => hbody _ _ _ A outer s H E f hr2) rfl (.inl (by rfl)) (pv 3) (by rfl)) (hS _ _ hco) hl hz hxn odd kq
      exact ⟨t', ht'.nox, hq'⟩
  refine wpAny_call (codeAny_mono rc fun r s3 hq => ?_)
  cases r with
  | error e => exact (show False from hq).elim
  | ok fl =>
    cases fl with
    | ret u => exact I3.after hq
    | next => exact False.elim hq
    | brk => exact False.elim hq
    | cont => exact False.elim hq
end SqP
/-! SqL5: what the law compares. -/
namespace SqP
open PySem PySem.Spec PyProof.Rows L2
theorem knR_ks {R : List Int → V → Prop} : ∀ {kn : Sq.Kn} {kvs : List (List Key × V)}, KnR R kn kvs → ∃ ks : List (List Int × V), kvs = ks.map (fun e => (sqKey e.1, e.2)) ∧ ks.map (·.1) = kn.map (·.1)
  | [], [], _ => ⟨[], rfl, rfl⟩
  | [], _ :: _, h => by cases h
  | _ :: _, [], h => by cases h
  | e :: kn, (k, v) :: kvs, .cons h1 h2 => by
    obtain ⟨ks, a, b⟩ := knR_ks h2
    refine ⟨(e.1, v) :: ks, ?_, by rw [List.map_cons, List.map_cons, b]⟩
    rw [List.map_cons, a]
    have : k = sqKey e.1 := h1.1
    rw [this]
/-- sorted(dict of ties), whatever their length -/
theorem cr_sortT {X : Cx} (hc : X.calm = true) : CallR X (.builtin "sorted") (fun vs H Q => ∃ dl, 1 ≤ dl ∧ sq_rSortD dl 16 vs H Q) := fun pins s σ H vs us Q I r ⟨_, hd, h⟩ => sq_cr_sortD hc hd pins s σ H vs us Q I r h
theorem sort_known {R : List Int → V → Prop} {H : Hp} {d : Addr} {n : Nat} {one : List Int} {kvs : List (List Key × V)} {Q : VK} (hd : H d = some (.dT kvs)) (hk : KnR R (Sq.iter Sq.stirAt one 60).1 kvs) (h1 : one ∈ Sq.T n)
    (k : ∀ (rs : List Addr) p, LnR H (Sq.T n) rs → H p = none → Q (.ref p) (upd H p (.lst (rs.map V.ref)))) : ∃ dl, 1 ≤ dl ∧ sq_rSortD dl 16 [.ref d] H Q := by
  have hn := Sq.T_pos h1
  have hn6 := Sq.T_lt h1
  have pm := Sq.known_perm h1
  obtain ⟨ks, rfl, e2⟩ := knR_ks hk
  refine ⟨2 * n, by omega, d, ks, rfl, hd, ?_, fun e he => ?_, fun L p hp hL ho hpn => ?_⟩
  · have : ks.length = (Sq.iter Sq.stirAt one 60).1.length := by simpa using congrArg List.length e2
    have := (Sq.iter_ok h1 60).kn.size
    omega
  · have hm : e.1 ∈ ks.map (·.1) := List.mem_map_of_mem he
    rw [e2] at hm
    exact bd16 (pm.mem_iff.mp hm)
  · have e : L.map (·.2) = Sq.T n := by
      refine Sq.sorted_one (hp.trans (by rw [e2]; exact pm)) ?_ (Sq.T_ord hn6)
      refine List.pairwise_map.mpr (ho.imp fun {a b} h => ?_)
      rw [code_cd, code_cd] at h
      exact h
    have ln : LnR H (L.map (·.2)) (L.map (·.1)) := by
      have z := LnR.of (H := H) (L.map fun q => (q.2, q.1)) (fun z hz => by
        obtain ⟨q, hq, rfl⟩ := List.mem_map.mp hz
        exact hL q hq)
      rw [List.map_map, List.map_map] at z
      exact z
    rw [e] at ln
    have := k _ p ln hpn
    rw [List.map_map] at this
    exact this
/-- the data of ties -/
abbrev dTie (t : List Int) : PyData := .tuple (t.map PyData.int)
theorem dp_ties {K : PySem.W.Frag} {H : Hp} : ∀ {ts : List Sq.Tie} {rs : List Addr}, LnR H ts rs → DpAll K H (rs.map V.ref) (ts.map dTie)
  | [], [], _ => .nil
  | [], _ :: _, h => by cases h
  | _ :: _, [], h => by cases h
  | t :: ts, r :: rs, .cons h1 h2 => .cons (.tup (.of h1) (dpAll_ints t)) (dp_ties h2)
theorem tiesD_all : ((List.range 6).all fun n => SeqAt.shaped (.list ((Sq.T n).map dTie)) && PyData.plain (.list ((Sq.T n).map dTie))) = true := by decide +kernel
theorem tiesD {n : Nat} (h : n < 6) : SeqAt.shaped (.list ((Sq.T n).map dTie)) = true ∧ PyData.eqv (.list ((Sq.T n).map dTie)) (.list ((Sq.T n).map dTie)) = true := by
  have q := Sq.all6 tiesD_all h
  simp only [Bool.and_eq_true] at q
  exact ⟨q.1, PySem.SeqAt.eqv_refl_plain _ q.2⟩
/-- the lists of names -/
theorem dp_strs {K : PySem.W.Frag} {H : Hp} : ∀ ns : List Str, DpAll K H (ns.map V.str) (ns.map PyData.str)
  | [] => .nil
  | n :: ns => .cons (.str n) (dp_strs ns)
end SqP
/-! SqL6: law. -/
namespace SqP
open PySem PySem.Spec PyProof.Rows L2 LamX NdefX
abbrev nmLaw : List Str := ["_law_script", "_law_pot_here", "_law_pairs", "_law_ties_here", "_law_known", "_law_turn", "_law_other", "_law_way", "_law_odds", "_law_wide", "_law_seven"]
theorem scLaw : FnScope nmLaw ["_law_script"] (defScope sLaw) := ⟨rfl, rfl, rfl, by decide +kernel, rfl, by decide +kernel, by decide +kernel⟩
/-- the functions that law calls -/
structure LawF (P : Program) (w : World) (K : PySem.W.Frag) (mg : Str → Option Value) (base : Heap) (CT CU CM : Addr) where
  fP : Addr
  fO : Addr
  fT : Addr
  fS : Addr
  fA : Addr
  fW : Addr
  fY : Addr
  fG : Addr
  fN : Addr
  dP : FuncData
  dO : FuncData
  dT : FuncData
  dS : FuncData
  dA : FuncData
  dW : FuncData
  dY : FuncData
  dG : FuncData
  dN : FuncData
  GP : FnOk P w K mg base CX0 1 fP dP ["_law_script", "_law_turn"] (spPot K)
  gP : mg "_law_pot" = some (.ref fP)
  kP : PySem.W.keepIn K (.ref fP) = true
  bP : Binds K dP ["_law_script", "_law_turn"] []
  GO : FnOk P w K mg base CX0 2 fO dO ["_law_pot_here", "_law_some"] (spOne K)
  gO : mg "_law_one" = some (.ref fO)
  kO : PySem.W.keepIn K (.ref fO) = true
  bO : Binds K dO ["_law_pot_here", "_law_some"] []
  GT : FnOk P w K mg base CX0 2 fT dT ["_law_pot_here", "_law_pairs"] spTies
  gT : mg "_law_ties" = some (.ref fT)
  kT : PySem.W.keepIn K (.ref fT) = true
  bT : Binds K dT ["_law_pot_here", "_law_pairs"] []
  GS : FnOk P w K mg base CX0 2 fS dS ["_law_ties_here"] spSteps
  gS : mg "_law_steps" = some (.ref fS)
  kS : PySem.W.keepIn K (.ref fS) = true
  bS : Binds K dS ["_law_ties_here"] []
  GA : FnOk P w K mg base CX0 13 fA dA ["pairs"] spEvery
  gA : mg "all_ties" = some (.ref fA)
  kA : PySem.W.keepIn K (.ref fA) = true
  bA : Binds K dA ["pairs"] []
  GW : FnOk P w K mg base (L2.CX P w) 5 fW dW ["one_ties", "other_ties"] (spWay K CT CU CM)
  gW : mg "stir_way" = some (.ref fW)
  kW : PySem.W.keepIn K (.ref fW) = true
  bW : Binds K dW ["one_ties", "other_ties"] []
  GY : FnOk P w K mg base CX0 4 fY dY ["ties", "word"] (spBy K)
  gY : mg "stirred_by" = some (.ref fY)
  kY : PySem.W.keepIn K (.ref fY) = true
  bY : Binds K dY ["ties", "word"] []
  FG : Fun K "_law_words" "_law_words" sWords fG dG
  gG : mg "_law_words" = some (.ref fG)
  bG : Binds K dG ["_law_call", "_law_odds"] []
  FN : Fun K "_law_name" "_law_name" sName fN dN
  gN : mg "_law_name" = some (.ref fN)
  bN : Binds K dN ["_law_e"] []
def lawAt (i : Nat) : Stmt := (defBody sLaw).getD i (.Pass ⟨0, 0, 0, 0⟩)
/-- behind the search -/
structure Lw (Pt : Addr) (H : Hp) (p a d : Addr) (n : Nat) (one : List Int) : Prop where
  pot : ∃ x y, H p = some (.lst [.int x, .int y]) ∧ PotOk x y
  tie : H a = some (.tup (one.map V.int))
  inT : one ∈ Sq.T n
  dict : ∃ kvs, H d = some (.dT kvs) ∧ KnR (RNum H) (Sq.iter Sq.stirAt one 60).1 kvs
  tab : H Pt = some (.tbl #[])
theorem Lw.same {Pt : Addr} {H H' : Hp} {p a d : Addr} {n : Nat} {one : List Int} (L : Lw Pt H p a d n one) (s : Same H H') : Lw Pt H' p a d n one := by
  obtain ⟨x, y, h1, h2⟩ := L.pot
  obtain ⟨kvs, h3, h4⟩ := L.dict
  exact ⟨⟨x, y, s _ _ h1, h2⟩, s _ _ L.tie, L.inT, ⟨kvs, s _ _ h3, h4⟩, s _ _ L.tab⟩
theorem Lw.draw {Pt : Addr} {H : Hp} {p a d : Addr} {n : Nat} {one : List Int} {x y : Int} (L : Lw Pt H p a d n one) (ok : PotOk x y) : Lw Pt (upd H p (.lst [.int x, .int y])) p a d n one := by
  obtain ⟨x', y', h1, h2⟩ := L.pot
  obtain ⟨kvs, h3, h4⟩ := L.dict
  refine ⟨⟨x, y, upd_same, ok⟩, ?_, L.inT, ⟨kvs, ?_, h4⟩, ?_⟩
  · rw [upd_ne (ne_of L.tie h1 (fun z => nomatch z))]
    exact L.tie
  · rw [upd_ne (ne_of h3 h1 (fun z => nomatch z))]
    exact h3
  · rw [upd_ne (ne_of L.tab h1 (fun z => nomatch z))]
    exact L.tab
abbrev lamQ : Str := (("law" : Str) ++ ".<locals>.") ++ "<lambda>"
/-- what the words need -/
structure Od (Pt : Addr) (H : Hp) (a l q1 q2 q3 : Addr) (n : Nat) (one : List Int) : Prop where
  tie : H a = some (.tup (one.map V.int))
  inT : one ∈ Sq.T n
  lst : H l = some (.lst [.non, .ref q1, .ref q2, .ref q3])
  h1 : H q1 = some (.tup (([] : List Int).map V.int))
  h2 : H q2 = some (.tup (([0, 1] : List Int).map V.int))
  h3 : H q3 = some (.tup (([2, 3, 0, 1] : List Int).map V.int))
  tab : Tabs [(Pt, lamQ)] H
theorem Od.ext {Pt : Addr} {H H' : Hp} {a l q1 q2 q3 : Addr} {n : Nat} {one : List Int} (o : Od Pt H a l q1 q2 q3 n one) (e : ExtN H H') (t : Tabs [(Pt, lamQ)] H') : Od Pt H' a l q1 q2 q3 n one :=
  ⟨e _ _ o.tie (fun ps z => nomatch z), o.inT, e _ _ o.lst (fun ps z => nomatch z), e _ _ o.h1 (fun ps z => nomatch z), e _ _ o.h2 (fun ps z => nomatch z), e _ _ o.h3 (fun ps z => nomatch z), t⟩
theorem Od.same {Pt : Addr} {H H' : Hp} {a l q1 q2 q3 : Addr} {n : Nat} {one : List Int} (o : Od Pt H a l q1 q2 q3 n one) (e : Same H H') : Od Pt H' a l q1 q2 q3 n one :=
  ⟨e _ _ o.tie, o.inT, e _ _ o.lst, e _ _ o.h1, e _ _ o.h2, e _ _ o.h3, o.tab.ext e⟩
theorem bad_tup {K : PySem.W.Frag} {H : Hp} {q : Addr} {ns : List Int} (h : H q = some (.tup (ns.map V.int))) (hl : ns.length ≤ 1000) (hf : Sq.fitsT ns = false) : Bad K (.ref q) H := .inr ⟨q, ns, rfl, .of h, hl, hf⟩
theorem Od.bad {K : PySem.W.Frag} {Pt : Addr} {H : Hp} {a l q1 q2 q3 : Addr} {n : Nat} {one : List Int} (o : Od Pt H a l q1 q2 q3 n one) {j : Nat} {x : V} (h : ([.non, .ref q1, .ref q2, .ref q3] : List V)[j]? = some x) : Bad K x H := by
  have hm := List.mem_of_getElem? h
  simp only [List.mem_cons, List.not_mem_nil, or_false] at hm
  rcases hm with rfl | rfl | rfl | rfl
  · exact .inl rfl
  · exact bad_tup o.h1 (by decide) (by decide)
  · exact bad_tup o.h2 (by decide) (by decide)
  · exact bad_tup o.h3 (by decide) (by decide)
theorem four_ties {j : Nat} {nm : Str} (h : (["ties", "ties", "ties", "ties"] : List Str)[j]? = some nm) : nm = "ties" := by
  have hm := List.mem_of_getElem? h
  simp only [List.mem_cons, List.not_mem_nil, or_false] at hm
  rcases hm with rfl | rfl | rfl | rfl <;> rfl
abbrev dn12 : List Int := [11, 10, 9, 8, 7, 6, 5, 4, 3, 2, 1, 0]
abbrev dn14 : List Int := [13, 12, 11, 10, 9, 8, 7, 6, 5, 4, 3, 2, 1, 0]
abbrev dStr (ns : List Str) : PyData := .list (ns.map PyData.str)
theorem dStr_4 : PyData.eqv (dStr ["ties", "ties", "ties", "ties"]) (dStr ["ties", "ties", "ties", "ties"]) = true := by decide +kernel
theorem dStr_sh4 : SeqAt.shaped (dStr ["ties", "ties", "ties", "ties"]) = true := by decide +kernel
theorem dn12_ok : Sq.fitsT dn12 = true := by decide +kernel
theorem dn14_ok : Sq.fitsT dn14 = true := by decide +kernel
theorem one_is {α : Type} {a x : α} {j : Nat} (h : [a][j]? = some x) : x = a := by
  have hm := List.mem_of_getElem? h
  simpa using hm
theorem dStr_u : PyData.eqv (dStr ["unlike"]) (dStr ["unlike"]) = true := by decide +kernel
theorem dStr_shu : SeqAt.shaped (dStr ["unlike"]) = true := by decide +kernel
theorem dStr_m : PyData.eqv (dStr ["many 6"]) (dStr ["many 6"]) = true := by decide +kernel
theorem dStr_shm : SeqAt.shaped (dStr ["many 6"]) = true := by decide +kernel
theorem inT1 : ([1, 0] : List Int) ∈ Sq.T 1 := by decide +kernel
theorem inT2a : ([1, 0, 3, 2] : List Int) ∈ Sq.T 2 := by decide +kernel
theorem inT2b : ([3, 2, 1, 0] : List Int) ∈ Sq.T 2 := by decide +kernel
theorem inT3a : ([5, 4, 3, 2, 1, 0] : List Int) ∈ Sq.T 3 := by decide +kernel
theorem inT3b : ([1, 0, 5, 4, 3, 2] : List Int) ∈ Sq.T 3 := by decide +kernel
theorem in_ones : ([dTie [1], dTie [3]].any fun z => PyData.eqv z (dTie [1])) = true := by decide +kernel
theorem sh_ones : SeqAt.shaped (.tuple [dTie [1], dTie [3]]) = true := by decide +kernel
section
variable {P : Program} {w : World} {K : PySem.W.Frag} {mg : Str → Option Value} {base : Heap}
def spLaw (K : PySem.W.Frag) (Pt : Addr) : Sp := fun vs H Q _ => ∃ (a : Addr) (ns : List Int), vs = [.ref a] ∧ SqL K H a (ns.map V.int) ∧ ns.length ≤ 63 ∧ H Pt = some (.tbl #[]) ∧ ∀ H', Q (.bl true) H'
set_option maxHeartbeats 16000000 in
theorem ok_law {f c Pt CS CT CU CM : Addr} {oc kV doc pm ct : Value} {od an : Option Addr} {osl : Array (Option Value)} (lk : K.lookup f = some ⟨oc, od, .func (PySem.W.fnOf "law" "law" (defArgs sLaw) (defBody sLaw) (defScope sLaw) .none kV doc pm an (.ref c) ct), osl⟩)
    (hcd : PySem.W.codeIn K (.ref c) "law" = true) (B : Bi mg) (NC : NameC K mg CT CU CM) (KC : CatchC K mg CS CT CU CM) (L : LawF P w K mg base CT CU CM) (TB : TabB base mg c Pt) :
    FnOk P w K mg base CX0 14 f (PySem.W.fnOf "law" "law" (defArgs sLaw) (defBody sLaw) (defScope sLaw) .none kV doc pm an (.ref c) ct) ["_law_script"] (spLaw K Pt) := by
  refine fn_of lk hcd scLaw (fun vs H Q E h => ?_) (fun A outer s H vs Q E hr h => ?_)
  · obtain ⟨a, ns, rfl, _⟩ := h
    rfl
  · obtain ⟨a, ns, rfl, hA, hl, hPt, k⟩ := h
    have hu := hu_of hr
    have hu65 : (A.deeper (envOfC "law" (defScope sLaw) s.heap.objs.size f (.ref c))).units + 65 < cLine := by
      have := hr.un
      omega
    have wordsR := fun {sc : Scope} {ps : Arguments} {bd e2 : Expr} {N fr : List Str} {js : List Nat} {te2 : TE} {tb : XK → TE} {p lpos pos : Pos} =>
      pe_words (X := (cxOf CX0 P w K mg base nmLaw "law" (defScope sLaw) f (.ref c) A outer s H E).nox) (T := [(Pt, lamQ)]) (k := 5) (params := ps) (body := bd) (e2 := e2) (scope := sc) (N := N) (fr := fr) (js := js) (a := "_law_odd") (te2 := te2) (tb := tb) (p := p) (lpos := lpos) (pos := pos) rfl B NC KC L.FG L.gG (by rfl) L.bG L.FN L.gN L.bN TB rfl (List.mem_cons_self ..) (fun p hp _ => by
        rcases List.mem_cons.mp hp with rfl | hp
        · rfl
        · cases hp) (hr.mono (by decide)) pass0
    have r0 := (ps_set (i := 1) scLaw.nd rfl (.inl rfl) (pe_call L.GP (hr.mono (by decide)) (by rfl) L.gP L.kP L.bP .nil pass0 (pa_cons (pv 0) (pa_cons pe_int pa_nil))) : PS (cxOf CX0 P w K mg base nmLaw "law" (defScope sLaw) f (.ref c) A outer s H E).nox (lawAt 0) _)
    have r1 := (ps_set (i := 2) scLaw.nd rfl (.inl rfl) (pe_call L.GO (hr.mono (by decide)) (by rfl) L.gO L.kO L.bO .nil pass0 (pa_cons (pv 1) (pa_cons (pe_lst (pa_cons pe_int (pa_cons pe_int (pa_cons pe_int (pa_cons pe_int (pa_cons pe_int (pa_cons pe_int pa_nil))))))) pa_nil))) : PS (cxOf CX0 P w K mg base nmLaw "law" (defScope sLaw) f (.ref c) A outer s H E).nox (lawAt 1) _)
    have r2 := (ps_set (i := 3) scLaw.nd rfl (.inr rfl) (pe_call L.GT (hr.mono (by decide)) (by rfl) L.gT L.kT L.bT .nil pass0 (pa_cons (pv 1) (pa_cons (pv 2) pa_nil))) : PS (cxOf CX0 P w K mg base nmLaw "law" (defScope sLaw) f (.ref c) A outer s H E).nox (lawAt 2) _)
    have r3 := (ps_set (i := 4) scLaw.nd rfl (.inl rfl) (pe_call L.GS (hr.mono (by decide)) (by rfl) L.gS L.kS L.bS .nil pass0 (pa_cons (pv 3) pa_nil)) : PS (cxOf CX0 P w K mg base nmLaw "law" (defScope sLaw) f (.ref c) A outer s H E).nox (lawAt 3) _)
    have r4 := (ps_if (pt_cmpR (op_neD hr.units) (pe_callB (cr_sortT rfl) (by rfl) B.sorted (by decide +kernel) (pa_cons (pv 4) pa_nil)) (pe_call L.GA (hr.mono (by decide)) (by rfl) L.gA L.kA L.bA .nil pass0 (pa_cons (pv 2) pa_nil)) (nomark _)) (pss_one (ps_ret pe_bl)) pss_nil : PS (cxOf CX0 P w K mg base nmLaw "law" (defScope sLaw) f (.ref c) A outer s H E).nox (lawAt 4) _)
    have r5 := (ps_for PassesOwn.never rfl (pi_range1 (by rfl) B.range (pa_cons pe_int pa_nil)) (pg_name (i := 5) scLaw.nd rfl (.inl rfl)) (Evl.pss_cut (ps_set (i := 6) scLaw.nd rfl (.inl rfl) (pe_call L.GO (hr.mono (by decide)) (by rfl) L.gO L.kO L.bO .nil pass0 (pa_cons (pv 1) (pa_cons (pe_callB (cr_sortT rfl) (by rfl) B.sorted (by decide +kernel) (pa_cons (pv 4) pa_nil)) pa_nil)))) (Evl.pss_cut (ps_set (i := 7) scLaw.nd rfl (.inl rfl) (pe_call L.GW (hr.mono (by decide)) (by rfl) L.gW L.kW L.bW .nil passL (pa_cons (pv 3) (pa_cons (pv 6) pa_nil)))) (Evl.pss_cut (ps_if (PW.pt (pw_or (pt_not (pt_val (pe_callB call_isi (by rfl) B.isi (by decide +kernel) (pa_cons (pv 7) (pa_cons (pe_bltn (v := .ty "tuple") (by rfl) B.tuple (by decide +kernel) rfl) pa_nil))))) (pw_or1 (pt_cmpR op_ne (pe_callB (call_lenK (K := K) rfl) (by rfl) B.len PySem.boot_len (pa_cons (pv 7) pa_nil)) (pe_dget hu (pv 4) (pv 6) (fun _ _ => rfl)) (nomark _))))) (pss_one (ps_ret pe_bl)) pss_nil) (pss_one (ps_if (pt_cmpR (op_neD hr.units) (pe_call L.GY (hr.mono (by decide)) (by rfl) L.gY L.kY L.bY .nil pass0 (pa_cons (pv 3) (pa_cons (pv 7) pa_nil))) (pv 6) (nomark _)) (pss_one (ps_ret pe_bl)) pss_nil))))) : PS (cxOf CX0 P w K mg base nmLaw "law" (defScope sLaw) f (.ref c) A outer s H E).nox (lawAt 5) _)
    have r6 := (ps_set (i := 8) scLaw.nd rfl (.inl rfl) (pe_lst (pa_cons pe_non (pa_cons (pe_tup pa_nil) (pa_cons (pe_tup (pa_cons pe_int (pa_cons pe_int pa_nil))) (pa_cons (pe_tup (pa_cons pe_int (pa_cons pe_int (pa_cons pe_int (pa_cons pe_int pa_nil))))) pa_nil))))) : PS (cxOf CX0 P w K mg base nmLaw "law" (defScope sLaw) f (.ref c) A outer s H E).nox (lawAt 6) _)
    have r7 := (ps_if (pt_cmpR (op_neD hr.units) (wordsR (N := ["_law_odd"]) (fr := []) (js := []) (nscope_by (by decide +kernel)) rfl (by rfl) rfl (fun _ _ _ _ _ _ => rfl) (pv 8) (by rfl) (fun q cl c' A outer s H E f hr2 => pe_call L.GW hr2 (by rfl) L.gW L.kW L.bW .nil (passes_call (W := fun cls d _ H => E cls d H) (takes_of rfl rfl rfl rfl) fun _ _ _ _ h => h) (pa_cons (pv 0) (pa_cons pe_non pa_nil)))) (pe_op op_rep (pe_lst (pa_cons pe_str pa_nil)) pe_int) (nomark _)) (pss_one (ps_ret pe_bl)) pss_nil : PS (cxOf CX0 P w K mg base nmLaw "law" (defScope sLaw) f (.ref c) A outer s H E).nox (lawAt 7) _)
    have r8 := (ps_if (pt_cmpR (op_neD hr.units) (wordsR (N := ["_law_odd", "_law_ties_here"]) (fr := ["_law_ties_here"]) (js := [3]) (nscope_by (by decide +kernel)) rfl (by rfl) rfl (fun _ _ _ _ _ _ => rfl) (pv 8) (by rfl) (fun q cl c' A outer s H E f hr2 => pe_call L.GW hr2 (by rfl) L.gW L.kW L.bW .nil (passes_call (W := fun cls d _ H => E cls d H) (takes_of rfl rfl rfl rfl) fun _ _ _ _ h => h) (pa_cons (pv 1) (pa_cons (pv 0) pa_nil)))) (pe_op op_rep (pe_lst (pa_cons pe_str pa_nil)) pe_int) (nomark _)) (pss_one (ps_ret pe_bl)) pss_nil : PS (cxOf CX0 P w K mg base nmLaw "law" (defScope sLaw) f (.ref c) A outer s H E).nox (lawAt 8) _)
    have r9 := (ps_asg (pe_tup (pa_cons (sq_pe_tupDn rfl (by rfl) B.tuple (by rfl) B.range (pa_cons pe_int (pa_cons (pe_un un_neg pe_int) (pa_cons (pe_un un_neg pe_int) pa_nil)))) (pa_cons (sq_pe_tupDn rfl (by rfl) B.tuple (by rfl) B.range (pa_cons pe_int (pa_cons (pe_un un_neg pe_int) (pa_cons (pe_un un_neg pe_int) pa_nil)))) pa_nil))) (pg_tup rfl (pgs_cons (pg_name (i := 9) scLaw.nd rfl (.inr rfl)) (pgs_cons (pg_name (i := 10) scLaw.nd rfl (.inr rfl)) pgs_nil))) : PS (cxOf CX0 P w K mg base nmLaw "law" (defScope sLaw) f (.ref c) A outer s H E).nox (lawAt 9) _)
    have r10 := (ps_if (pt_cmpR (op_neD hr.units) (wordsR (N := ["_law_odd", "_law_wide"]) (fr := ["_law_wide"]) (js := [9]) (nscope_by (by decide +kernel)) rfl (by rfl) rfl (fun _ _ _ _ _ _ => rfl) (pe_lst (pa_cons (pv 10) pa_nil)) (by rfl) (fun q cl c' A outer s H E f hr2 => pe_call L.GW hr2 (by rfl) L.gW L.kW L.bW .nil (passes_call (W := fun cls d _ H => E cls d H) (takes_of rfl rfl rfl rfl) fun _ _ _ _ h => h) (pa_cons (pv 1) (pa_cons (pv 0) pa_nil)))) (pe_lst (pa_cons pe_str pa_nil)) (nomark _)) (pss_one (ps_ret pe_bl)) pss_nil : PS (cxOf CX0 P w K mg base nmLaw "law" (defScope sLaw) f (.ref c) A outer s H E).nox (lawAt 10) _)
    have r11 := (ps_if (pt_cmpR (op_neD hr.units) (wordsR (N := ["_law_odd", "_law_seven"]) (fr := ["_law_seven"]) (js := [10]) (nscope_by (by decide +kernel)) rfl (by rfl) rfl (fun _ _ _ _ _ _ => rfl) (pe_lst (pa_cons (pv 10) pa_nil)) (by rfl) (fun q cl c' A outer s H E f hr2 => pe_call L.GW hr2 (by rfl) L.gW L.kW L.bW .nil (passes_call (W := fun cls d _ H => E cls d H) (takes_of rfl rfl rfl rfl) fun _ _ _ _ h => h) (pa_cons (pv 1) (pa_cons (pv 0) pa_nil)))) (pe_lst (pa_cons pe_str pa_nil)) (nomark _)) (pss_one (ps_ret pe_bl)) pss_nil : PS (cxOf CX0 P w K mg base nmLaw "law" (defScope sLaw) f (.ref c) A outer s H E).nox (lawAt 11) _)
    have r12 := (ps_if (PW.pt (pw_or (pt_cmpR (op_neD hr.units) (pe_call L.GW (hr.mono (by decide)) (by rfl) L.gW L.kW L.bW .nil passL (pa_cons (pe_tup (pa_cons pe_int (pa_cons pe_int pa_nil))) (pa_cons (pe_tup (pa_cons pe_int (pa_cons pe_int pa_nil))) pa_nil))) (pe_tup pa_nil) (nomark _)) (pw_or1 (pt_cmpR op_ne (pe_callB (call_lenK (K := K) rfl) (by rfl) B.len PySem.boot_len (pa_cons (pe_call L.GW (hr.mono (by decide)) (by rfl) L.gW L.kW L.bW .nil passL (pa_cons (pe_tup (pa_cons pe_int (pa_cons pe_int (pa_cons pe_int (pa_cons pe_int (pa_cons pe_int (pa_cons pe_int pa_nil))))))) (pa_cons (pe_tup (pa_cons pe_int (pa_cons pe_int (pa_cons pe_int (pa_cons pe_int (pa_cons pe_int (pa_cons pe_int pa_nil))))))) pa_nil))) pa_nil)) pe_int (nomark _))))) (pss_one (ps_ret pe_bl)) pss_nil : PS (cxOf CX0 P w K mg base nmLaw "law" (defScope sLaw) f (.ref c) A outer s H E).nox (lawAt 12) _)
    have r13 := (ps_ret (pe_cmpR (sq_op_inT hu65) (pe_call L.GW (hr.mono (by decide)) (by rfl) L.gW L.kW L.bW .nil passL (pa_cons (pe_tup (pa_cons pe_int (pa_cons pe_int (pa_cons pe_int (pa_cons pe_int pa_nil))))) (pa_cons (pe_tup (pa_cons pe_int (pa_cons pe_int (pa_cons pe_int (pa_cons pe_int pa_nil))))) pa_nil))) (pe_tup (pa_cons (pe_tup (pa_cons pe_int pa_nil)) (pa_cons (pe_tup (pa_cons pe_int pa_nil)) pa_nil))) rfl) : PS (cxOf CX0 P w K mg base nmLaw "law" (defScope sLaw) f (.ref c) A outer s H E).nox (lawAt 13) _)
    have all : PSs (cxOf CX0 P w K mg base nmLaw "law" (defScope sLaw) f (.ref c) A outer s H E).nox (defBody sLaw) _ := Evl.pss_cut r0 (Evl.pss_cut r1 (Evl.pss_cut r2 (Evl.pss_cut r3 (Evl.pss_cut r4 (Evl.pss_cut r5 (Evl.pss_cut r6 (Evl.pss_cut r7 (Evl.pss_cut r8 (Evl.pss_cut r9 (Evl.pss_cut r10 (Evl.pss_cut r11 (Evl.pss_cut r12 (pss_one r13)))))))))))))
    refine ⟨_, all.nox, ?_⟩
    clear all wordsR r0 r1 r2 r3 r4 r5 r6 r7 r8 r9 r10 r11 r12 r13
    refine ⟨fun σ' H' => ∃ (p : Addr) (x y : Int), σ' = [some (.ref a), some (.ref p), none, none, none, none, none, none, none, none, none] ∧ Same H H' ∧ H' p = some (.lst [.int x, .int y]) ∧ PotOk x y, ?_, ?_⟩
    · exact ⟨_, rfl, a, ns, 32, rfl, hA, hl, by decide, by decide, fun H' p x y s1 _ hp ok => ⟨p, x, y, rfl, s1, hp, ok⟩⟩
    rintro σ H1 ⟨p, x, y, rfl, s1, hp, ok⟩
    refine ⟨fun σ' H' => ∃ (x y : Int) (n : Nat), σ' = [some (.ref a), some (.ref p), some (.int (n : Int)), none, none, none, none, none, none, none, none] ∧ H' p = some (.lst [.int x, .int y]) ∧ PotOk x y ∧ 1 ≤ n ∧ n ≤ 5 ∧ H' Pt = some (.tbl #[]), ?_, ?_⟩
    · refine ⟨_, rfl, (by show 6 ≤ sizeLine; decide), fun q hq => ⟨p, q, x, y, _, rfl, upd_keep hp hq, ok, upd_same, ne_of_none hp hq, by simp, by simp, fun x' y' i v ok' hv => ?_⟩⟩
      obtain ⟨n, rfl, h1, h5⟩ : ∃ n : Nat, v = .int (n : Int) ∧ 1 ≤ n ∧ n ≤ 5 := by
        have hm := List.mem_of_getElem? hv
        simp only [List.mem_cons, List.not_mem_nil, or_false] at hm
        rcases hm with rfl | rfl | rfl | rfl | rfl | rfl
        · exact ⟨1, rfl, by decide, by decide⟩
        · exact ⟨2, rfl, by decide, by decide⟩
        · exact ⟨3, rfl, by decide, by decide⟩
        · exact ⟨3, rfl, by decide, by decide⟩
        · exact ⟨4, rfl, by decide, by decide⟩
        · exact ⟨5, rfl, by decide, by decide⟩
      have hP1 := s1 _ _ hPt
      exact ⟨x', y', n, rfl, upd_same, ok', h1, h5, by rw [upd_ne (ne_of hP1 hp (fun z => nomatch z))]; exact upd_keep hP1 hq⟩
    rintro σ H2 ⟨x, y, n, rfl, hp, ok, h1, h5, hP2⟩
    refine ⟨fun σ' H' => ∃ (a2 : Addr) (one : List Int) (x y : Int), σ' = [some (.ref a), some (.ref p), some (.int (n : Int)), some (.ref a2), none, none, none, none, none, none, none] ∧ H' p = some (.lst [.int x, .int y]) ∧ PotOk x y ∧ one ∈ Sq.T n ∧ H' a2 = some (.tup (one.map V.int)) ∧ H' Pt = some (.tbl #[]), ?_, ?_⟩
    · exact ⟨_, rfl, _, rfl, p, x, y, n, rfl, hp, ok, h1, h5, fun H' r x' y' t sx hp' ok' hT hr => ⟨r, t, x', y', rfl, hp', ok', hT, hr, sx _ _ (ne_of hP2 hp (fun z => nomatch z)) hP2⟩⟩
    rintro σ H3 ⟨a2, one, x, y, rfl, hp, ok, hT, ha2, hP3⟩
    refine ⟨fun σ' H' => ∃ (d : Addr), σ' = [some (.ref a), some (.ref p), some (.int (n : Int)), some (.ref a2), some (.ref d), none, none, none, none, none, none] ∧ Lw Pt H' p a2 d n one, ?_, ?_⟩
    · exact ⟨_, rfl, a2, n, one, rfl, ha2, hT, fun H' d kvs s' hd hk => ⟨d, rfl, ⟨x, y, s' _ _ hp, ok⟩, s' _ _ ha2, hT, ⟨kvs, hd, hk⟩, s' _ _ hP3⟩⟩
    rintro σ H4 ⟨d, rfl, L4⟩
    have hn6 := Sq.T_lt hT
    refine ⟨fun σ' H' => σ' = [some (.ref a), some (.ref p), some (.int (n : Int)), some (.ref a2), some (.ref d), none, none, none, none, none, none] ∧ Lw Pt H' p a2 d n one, ?_, ?_⟩
    · obtain ⟨kvs, hd, hk⟩ := L4.dict
      refine ⟨_, rfl, sort_known hd hk hT fun rs q ln hq => ?_⟩
      have s5 : Same H4 (upd H4 q (.lst (rs.map V.ref))) := same_new (.refl _) hq
      refine ⟨_, rfl, n, rfl, h1, h5, fun H5 l2 rs2 s6 hl2 ln2 => ?_⟩
      refine ⟨.list ((Sq.T n).map dTie), .list ((Sq.T n).map dTie), .lst (.of (s6 _ _ upd_same)) (dp_ties (ln.mono fun r xs z => s6 _ _ (s5 _ _ z))), .lst (.of hl2) (dp_ties ln2), (tiesD hn6).1, (tiesD hn6).1, _, rfl, ?_⟩
      rw [(tiesD hn6).2]
      exact iteF ⟨rfl, L4.same (s5.trans s6)⟩
    rintro σ H5 ⟨rfl, L5⟩
    refine ⟨fun σ' H' => ∃ (v5 v6 v7 : Option V), σ' = [some (.ref a), some (.ref p), some (.int (n : Int)), some (.ref a2), some (.ref d), v5, v6, v7, none, none, none] ∧ Lw Pt H' p a2 d n one, ?_, ?_⟩
    · refine ⟨_, rfl, by decide, by decide, ?_⟩
      refine for_range (lo := 0) (n := 4) (fun j σ' H' => ∃ (v5 v6 v7 : Option V), σ' = [some (.ref a), some (.ref p), some (.int (n : Int)), some (.ref a2), some (.ref d), v5, v6, v7, none, none, none] ∧ Lw Pt H' p a2 d n one) ⟨none, none, none, rfl, L5⟩ ?_ (fun σ' H' h => h)
      rintro j σ H6 hj ⟨v5, v6, v7, rfl, L6⟩
      refine ⟨fun σ' H' => ∃ (r : Addr) (t : List Int) (v5 v7 : Option V), σ' = [some (.ref a), some (.ref p), some (.int (n : Int)), some (.ref a2), some (.ref d), v5, some (.ref r), v7, none, none, none] ∧ Lw Pt H' p a2 d n one ∧ H' r = some (.tup (t.map V.int)) ∧ t ∈ Sq.T n, ?_, ?_⟩
      · obtain ⟨x, y, hp, ok⟩ := L6.pot
        obtain ⟨kvs, hd, hk⟩ := L6.dict
        refine ⟨_, rfl, _, rfl, sort_known hd hk hT fun rs q ln hq => ⟨p, q, x, y, rs.map V.ref, rfl, upd_keep hp hq, ok, upd_same, ne_of_none hp hq, ?_, ?_, fun x' y' i v ok' hv => ?_⟩⟩
        · intro z
          have e : rs = [] := List.map_eq_nil_iff.mp z
          subst e
          have : (Sq.T n).length = 0 := ln.length
          rw [List.length_eq_zero_iff.mp this] at hT
          cases hT
        · rw [List.length_map, ← ln.length]
          have := Sq.T_len (n := n)
          omega
        · obtain ⟨r, hr, rfl⟩ := get_ref hv
          obtain ⟨t, ht, hHr⟩ := ln.get hr
          have L7 : Lw Pt (upd H6 q (.lst (rs.map V.ref))) p a2 d n one := L6.same (same_new (.refl _) hq)
          have hHr2 := upd_keep (u := HO.lst (rs.map V.ref)) hHr hq
          exact ⟨r, t, _, _, rfl, L7.draw ok', by rw [upd_ne (ne_of hHr2 (upd_keep hp hq) (fun z => nomatch z))]; exact hHr2, List.mem_of_getElem? ht⟩
      rintro σ H7 ⟨r, t, v5, v7, rfl, L7, hr7, ht⟩
      obtain ⟨w1, w2b, w3⟩ := Sq.word_ok hT ht
      have hval : ∀ v, RNum H7 (Sq.val (Sq.iter Sq.stirAt one 60).1 t) v → v = .int ((Sq.word one t).length : Int) := fun v h => h
      have hall := Sq.all_found hT ht
      generalize hwd : Sq.word one t = wd at w1 w2b w3 hval
      refine ⟨fun σ' H' => ∃ (w2 : Addr) (v5 : Option V), σ' = [some (.ref a), some (.ref p), some (.int (n : Int)), some (.ref a2), some (.ref d), v5, some (.ref r), some (.ref w2), none, none, none] ∧ Lw Pt H' p a2 d n one ∧ H' r = some (.tup (t.map V.int)) ∧ H' w2 = some (.tup (wd.map V.int)), ?_, ?_⟩
      · exact ⟨_, rfl, _, rfl, .ref a2, .ref r, rfl, .inr (.inr (.inr (.inr ⟨a2, r, n, one, t, rfl, rfl, L7.tie, hr7, hT, ht, fun H' w2 s' hw => ⟨w2, v5, rfl, L7.same s', s' _ _ hr7, by rw [← hwd]; exact hw⟩⟩)))⟩
      rintro σ H8 ⟨w2, v5, rfl, L8, hr8, hw8⟩
      refine ⟨fun σ' H' => H' = H8 ∧ σ' = [some (.ref a), some (.ref p), some (.int (n : Int)), some (.ref a2), some (.ref d), v5, some (.ref r), some (.ref w2), none, none, none], ?_, ?_⟩
      · obtain ⟨kvs, hd, hk⟩ := L8.dict
        obtain ⟨v, ev, hv⟩ := hk.yes hall
        have hv' := hval v hv
        clear hv
        subst hv'
        refine ⟨_, rfl, _, _, _, _, true, rfl, .ty "tuple", tyX_tup (.of hw8), kit_ty (by decide +kernel), _, rfl, ?_⟩
        refine iteF ?_
        refine ⟨_, rfl, w2, _, rfl, .inr (.of hw8), _, rfl, _, rfl, d, _, rfl, dget_v hd hr8 ev, rfl, _, rfl, ?_⟩
        refine ite2 (fun z => ?_) (fun _ => ⟨rfl, rfl⟩)
        exfalso
        rw [List.length_map] at z
        simp at z
      rintro σ H' ⟨rfl, rfl⟩
      refine ⟨_, rfl, _, rfl, a2, w2, n, one, wd, rfl, L8.tie, hT, .of hw8, w3, w2b, fun H9 c9 s9 hc9 => ?_⟩
      refine ⟨_, rfl, .tuple _, .tuple _, .tup (.of hc9) (dpAll_ints _), .tup (.of (s9 _ _ hr8)) (dpAll_ints _), shaped_tup _, shaped_tup _, _, rfl, ?_⟩
      rw [eqv_tup, decide_eq_true w1]
      exact iteF ⟨_, _, _, rfl, L8.same s9⟩
    rintro σ H6 ⟨v5, v6, v7, rfl, L6⟩
    have k' : ∀ H', Q (.bl true) H' := k
    refine ⟨fun σ' H' => ∃ (l q1 q2 q3 : Addr), σ' = [some (.ref a), some (.ref p), some (.int (n : Int)), some (.ref a2), some (.ref d), v5, v6, v7, some (.ref l), none, none] ∧ Od Pt H' a2 l q1 q2 q3 n one, ?_, ?_⟩
    · refine ⟨Nat.zero_le _, fun q1 hq1 => ⟨(by show 2 ≤ sizeLine; decide), fun q2 hq2 => ⟨(by show 4 ≤ sizeLine; decide), fun q3 hq3 => ⟨(by show 4 ≤ sizeLine; decide), fun l hl => ?_⟩⟩⟩⟩
      have e1 := upd_same (H := H6) (a := q1) (o := HO.tup [])
      have e2 := upd_same (H := upd H6 q1 (HO.tup [])) (a := q2) (o := HO.tup [V.int 0, V.int 1])
      have e3 := upd_same (H := upd (upd H6 q1 (HO.tup [])) q2 (HO.tup [V.int 0, V.int 1])) (a := q3) (o := HO.tup [V.int 2, V.int 3, V.int 0, V.int 1])
      have L7 := (((L6.same (same_new (o := HO.tup []) (.refl _) hq1)).same (same_new (o := HO.tup [V.int 0, V.int 1]) (.refl _) hq2)).same (same_new (o := HO.tup [V.int 2, V.int 3, V.int 0, V.int 1]) (.refl _) hq3)).same (same_new (o := HO.lst [.non, .ref q1, .ref q2, .ref q3]) (.refl _) hl)
      refine ⟨l, q1, q2, q3, rfl, L7.tie, hT, upd_same, upd_keep (upd_keep (upd_keep e1 hq2) hq3) hl, upd_keep (upd_keep e2 hq3) hl, upd_keep e3 hl, fun z hz => ?_⟩
      rcases List.mem_cons.mp hz with rfl | hz
      · exact TabS.nil L7.tab
      · cases hz
    rintro σ H7 ⟨l, q1, q2, q3, rfl, O7⟩
    refine ⟨fun σ' H' => σ' = [some (.ref a), some (.ref p), some (.int (n : Int)), some (.ref a2), some (.ref d), v5, v6, v7, some (.ref l), none, none] ∧ Od Pt H' a2 l q1 q2 q3 n one, ?_, ?_⟩
    · refine ⟨O7.tab, fun H8 e8 t8 => ?_⟩
      have O8 := O7.ext e8 t8
      refine ⟨_, rfl, l, _, ["ties", "ties", "ties", "ties"], rfl, O8.lst, (by show 4 ≤ 1000; decide), rfl, .refl _, fun j x nm hx hnm HZ sZ E2 Q' hE => ?_, fun H9 r s9 hr => ?_⟩
      · refine ⟨_, rfl, x, .non, rfl, .inl ⟨(O8.same sZ).bad hx, fun H' s' => hE _ _ _ s' (.inl ⟨rfl, rfl, four_ties hnm⟩)⟩⟩
      · refine ⟨(by show 1 ≤ sizeLine; decide), fun e he => ?_⟩
        refine ⟨e, _, _, rfl, rfl, upd_same, by decide, by decide, by decide, fun fo hfo => ?_⟩
        have s10 : Same H9 (upd (upd H9 e (.lst [.str "ties"])) fo (.lst [.str "ties", .str "ties", .str "ties", .str "ties"])) := same_new (same_new (.refl _) he) hfo
        refine ⟨dStr ["ties", "ties", "ties", "ties"], dStr ["ties", "ties", "ties", "ties"], .lst (.of (s10 _ _ hr)) (dp_strs _), .lst (.of upd_same) (dp_strs ["ties", "ties", "ties", "ties"]), dStr_sh4, dStr_sh4, _, rfl, ?_⟩
        rw [dStr_4]
        exact iteF ⟨rfl, (O8.same s9).same s10⟩
    rintro σ H8 ⟨rfl, O8⟩
    refine ⟨fun σ' H' => σ' = [some (.ref a), some (.ref p), some (.int (n : Int)), some (.ref a2), some (.ref d), v5, v6, v7, some (.ref l), none, none] ∧ Tabs [(Pt, lamQ)] H', ?_, ?_⟩
    · refine ⟨O8.tab, fun H9 e9 t9 => ?_⟩
      have O9 := O8.ext e9 t9
      refine ⟨_, rfl, l, _, ["ties", "ties", "ties", "ties"], rfl, O9.lst, (by show 4 ≤ 1000; decide), rfl, .refl _, fun j x nm hx hnm HZ sZ E2 Q' hE => ?_, fun H10 r s10 hr => ?_⟩
      · refine ⟨_, rfl, _, rfl, .ref a2, x, rfl, .inr (.inl ⟨one, good_T (O9.same sZ).tie hT, (O9.same sZ).bad hx, fun H' s' => hE _ _ _ s' (.inl ⟨rfl, rfl, four_ties hnm⟩)⟩)⟩
      · refine ⟨(by show 1 ≤ sizeLine; decide), fun e he => ?_⟩
        refine ⟨e, _, _, rfl, rfl, upd_same, by decide, by decide, by decide, fun fo hfo => ?_⟩
        have s11 : Same H10 (upd (upd H10 e (.lst [.str "ties"])) fo (.lst [.str "ties", .str "ties", .str "ties", .str "ties"])) := same_new (same_new (.refl _) he) hfo
        refine ⟨dStr ["ties", "ties", "ties", "ties"], dStr ["ties", "ties", "ties", "ties"], .lst (.of (s11 _ _ hr)) (dp_strs _), .lst (.of upd_same) (dp_strs ["ties", "ties", "ties", "ties"]), dStr_sh4, dStr_sh4, _, rfl, ?_⟩
        rw [dStr_4]
        exact iteF ⟨rfl, ((O9.same s10).same s11).tab⟩
    rintro σ H9 ⟨rfl, t9⟩
    refine ⟨fun σ' H' => ∃ (wd sv : Addr), σ' = [some (.ref a), some (.ref p), some (.int (n : Int)), some (.ref a2), some (.ref d), v5, v6, v7, some (.ref l), some (.ref wd), some (.ref sv)] ∧ Tabs [(Pt, lamQ)] H' ∧ H' wd = some (.tup (dn12.map V.int)) ∧ H' sv = some (.tup (dn14.map V.int)), ?_, ?_⟩
    · refine ⟨1, rfl, 1, rfl, 11, -1, rfl, ⟨by decide, by decide, by decide, by decide, by decide⟩, fun wd hwd => ?_⟩
      refine ⟨1, rfl, 1, rfl, 13, -1, rfl, ⟨by decide, by decide, by decide, by decide, by decide⟩, fun sv hsv => ?_⟩
      refine ⟨(by show 2 ≤ sizeLine; decide), fun t ht => ?_⟩
      have w1 := upd_keep (u := HO.tup [V.ref wd, V.ref sv]) (upd_keep (u := HO.tup (sq_dnV 13 (-1))) (upd_same (H := H9) (a := wd) (o := HO.tup (sq_dnV 11 (-1)))) hsv) ht
      have w2 := upd_keep (u := HO.tup [V.ref wd, V.ref sv]) (upd_same (H := upd H9 wd (HO.tup (sq_dnV 11 (-1)))) (a := sv) (o := HO.tup (sq_dnV 13 (-1)))) ht
      have s3 : Same H9 (upd (upd (upd H9 wd (HO.tup (sq_dnV 11 (-1)))) sv (HO.tup (sq_dnV 13 (-1)))) t (HO.tup [V.ref wd, V.ref sv])) := same_new (same_new (same_new (.refl _) hwd) hsv) ht
      exact ⟨t, _, rfl, .of upd_same, rfl, _, _, rfl, _, _, rfl, rfl, wd, sv, rfl, t9.ext s3, w1, w2⟩
    rintro σ H10 ⟨wd, sv, rfl, t10, hwd, hsv⟩
    have gw : ∀ {HZ : Hp}, HZ wd = some (.tup (dn12.map V.int)) → Good K (.ref wd) HZ dn12 := fun h => ⟨wd, rfl, .of h, by decide, dn12_ok⟩
    have gs : ∀ {HZ : Hp}, HZ sv = some (.tup (dn14.map V.int)) → Good K (.ref sv) HZ dn14 := fun h => ⟨sv, rfl, .of h, by decide, dn14_ok⟩
    refine ⟨fun σ' H' => σ' = [some (.ref a), some (.ref p), some (.int (n : Int)), some (.ref a2), some (.ref d), v5, v6, v7, some (.ref l), some (.ref wd), some (.ref sv)] ∧ Tabs [(Pt, lamQ)] H' ∧ H' sv = some (.tup (dn14.map V.int)), ?_, ?_⟩
    · refine ⟨t10, fun H11 e11 t11 => ?_⟩
      have w11 := e11 _ _ hwd (fun ps z => nomatch z)
      have v11 := e11 _ _ hsv (fun ps z => nomatch z)
      refine ⟨_, rfl, (by show 1 ≤ sizeLine; decide), fun l2 hl2 => ?_⟩
      have s12 : Same H11 (upd H11 l2 (.lst [V.ref sv])) := same_new (.refl _) hl2
      refine ⟨l2, _, ["unlike"], rfl, upd_same, (by show 1 ≤ 1000; decide), rfl, s12, fun j x nm hx hnm HZ sZ E2 Q' hE => ?_, fun H13 r s13 hr => ?_⟩
      · obtain rfl := one_is hx
        obtain rfl := one_is hnm
        exact ⟨_, rfl, _, rfl, .ref wd, .ref sv, rfl, .inr (.inr (.inl ⟨dn12, dn14, gw (sZ _ _ (s12 _ _ w11)), gs (sZ _ _ (s12 _ _ v11)), by decide, fun H' s' => hE _ _ _ s' (.inr (.inl ⟨rfl, rfl, rfl⟩))⟩))⟩
      · refine ⟨(by show 1 ≤ sizeLine; decide), fun e he => ?_⟩
        have s14 : Same H13 (upd H13 e (.lst [.str "unlike"])) := same_new (.refl _) he
        refine ⟨dStr ["unlike"], dStr ["unlike"], .lst (.of (s14 _ _ hr)) (dp_strs _), .lst (.of upd_same) (dp_strs ["unlike"]), dStr_shu, dStr_shu, _, rfl, ?_⟩
        rw [dStr_u]
        have sA := (s12.trans s13).trans s14
        exact iteF ⟨rfl, t11.ext sA, sA _ _ v11⟩
    rintro σ H11 ⟨rfl, t11, hsv⟩
    refine ⟨fun σ' H' => True, ?_, ?_⟩
    · refine ⟨t11, fun H12 e12 t12 => ?_⟩
      have v12 := e12 _ _ hsv (fun ps z => nomatch z)
      refine ⟨_, rfl, (by show 1 ≤ sizeLine; decide), fun l2 hl2 => ?_⟩
      have s12 : Same H12 (upd H12 l2 (.lst [V.ref sv])) := same_new (.refl _) hl2
      refine ⟨l2, _, ["many 6"], rfl, upd_same, (by show 1 ≤ 1000; decide), rfl, s12, fun j x nm hx hnm HZ sZ E2 Q' hE => ?_, fun H13 r s13 hr => ?_⟩
      · obtain rfl := one_is hx
        obtain rfl := one_is hnm
        exact ⟨_, rfl, _, rfl, .ref sv, .ref sv, rfl, .inr (.inr (.inr (.inl ⟨dn14, dn14, gs (sZ _ _ (s12 _ _ v12)), gs (sZ _ _ (s12 _ _ v12)), rfl, by decide, fun H' dx s' hd => hE _ _ _ s' (.inr (.inr ⟨rfl, rfl, dx, rfl, hd⟩))⟩)))⟩
      · refine ⟨(by show 1 ≤ sizeLine; decide), fun e he => ?_⟩
        have s14 : Same H13 (upd H13 e (.lst [.str "many 6"])) := same_new (.refl _) he
        refine ⟨dStr ["many 6"], dStr ["many 6"], .lst (.of (s14 _ _ hr)) (dp_strs _), .lst (.of upd_same) (dp_strs ["many 6"]), dStr_shm, dStr_shm, _, rfl, ?_⟩
        rw [dStr_m]
        exact iteF trivial
    rintro σ H12 -
    refine ⟨fun σ' H' => True, ?_, ?_⟩
    · refine ⟨(by show 2 ≤ sizeLine; decide), fun q1 hq1 => ⟨(by show 2 ≤ sizeLine; decide), fun q2 hq2 => ?_⟩⟩
      refine ⟨.ref q1, .ref q2, rfl, .inr (.inr (.inr (.inr ⟨q1, q2, 1, [1, 0], [1, 0], rfl, rfl, upd_keep upd_same hq2, upd_same, inT1, inT1, fun H13 r s13 hr => ?_⟩)))⟩
      rw [Sq.word_1] at hr
      refine ⟨Nat.zero_le _, fun e he => ?_⟩
      refine ⟨.tuple (([] : List Int).map PyData.int), .tuple (([] : List Int).map PyData.int), .tup (.of (upd_keep hr he)) (dpAll_ints []), .tup (.of upd_same) (dpAll_ints []), shaped_tup _, shaped_tup _, _, rfl, ?_⟩
      rw [eqv_tup, decide_eq_true rfl]
      refine iteF ?_
      refine ⟨(by show 6 ≤ sizeLine; decide), fun q3 hq3 => ⟨(by show 6 ≤ sizeLine; decide), fun q4 hq4 => ?_⟩⟩
      obtain ⟨wd3, hwd3, hlen3⟩ : ∃ wd3, Sq.word [5, 4, 3, 2, 1, 0] [1, 0, 5, 4, 3, 2] = wd3 ∧ wd3.length = 2 := ⟨_, rfl, Sq.word_3⟩
      refine ⟨.ref q3, .ref q4, rfl, .inr (.inr (.inr (.inr ⟨q3, q4, 3, [5, 4, 3, 2, 1, 0], [1, 0, 5, 4, 3, 2], rfl, rfl, upd_keep upd_same hq4, upd_same, inT3a, inT3b, fun H14 r3 s14 hr3 => ?_⟩)))⟩
      rw [hwd3] at hr3
      refine ⟨r3, _, rfl, .inr (.of hr3), rfl, _, rfl, ?_⟩
      rw [List.length_map, hlen3]
      exact iteF trivial
    rintro σ H13 -
    refine ⟨(by show 4 ≤ sizeLine; decide), fun q1 hq1 => ⟨(by show 4 ≤ sizeLine; decide), fun q2 hq2 => ?_⟩⟩
    refine ⟨.ref q1, .ref q2, rfl, .inr (.inr (.inr (.inr ⟨q1, q2, 2, [1, 0, 3, 2], [3, 2, 1, 0], rfl, rfl, upd_keep upd_same hq2, upd_same, inT2a, inT2b, fun H14 r s14 hr => ?_⟩)))⟩
    rw [Sq.word_2] at hr
    refine ⟨(by show 1 ≤ sizeLine; decide), fun e1 he1 => ⟨(by show 1 ≤ sizeLine; decide), fun e2 he2 => ⟨(by show 2 ≤ sizeLine; decide), fun e3 he3 => ?_⟩⟩⟩
    have x1 := upd_same (H := H14) (a := e1) (o := HO.tup (([1] : List Int).map V.int))
    have x2 := upd_same (H := upd H14 e1 (HO.tup (([1] : List Int).map V.int))) (a := e2) (o := HO.tup (([3] : List Int).map V.int))
    refine ⟨dTie [1], [dTie [1], dTie [3]], .tup (.of (upd_keep (upd_keep (upd_keep hr he1) he2) he3)) (dpAll_ints [1]), .tup (.of upd_same) (.cons (.tup (.of (upd_keep (upd_keep x1 he2) he3)) (dpAll_ints [1])) (.cons (.tup (.of (upd_keep x2 he3)) (dpAll_ints [3])) .nil)), sh_ones, shaped_tup _, ?_⟩
    rw [in_ones]
    exact k' _
end
end SqP
/-! SqF: all defs together. -/
namespace SqP
open PySem PySem.Spec PyProof.Rows L2 LamX NdefX
/-- a def of the module, under its name -/
structure FnX (K : PySem.W.Frag) (mg : Str → Option Value) (x : Str) (st : Stmt) (f : Addr) (fd : FuncData) : Prop where
  fn : Fun K x x st f fd
  g : mg x = some (.ref f)
theorem fx_mk {K : PySem.W.Frag} {h : Heap} {mg : Str → Option Value} {x : Str} {st : Stmt} {f : Addr} {oc : Value} {od an : Option Addr} {osl : Array (Option Value)} {kV doc pm cdv ct : Value} (X : K.In h) (G : h.Ns mainGlobals mg)
    (a : PySem.W.nsIn K mainGlobals x = some (some (.ref f))) (l : K.lookup f = some ⟨oc, od, .func (PySem.W.fnOf x x (defArgs st) (defBody st) (defScope st) .none kV doc pm an cdv ct), osl⟩) (c : PySem.W.codeIn K cdv x = true) (k : PySem.W.keepIn K (.ref f) = true) :
    ∃ (f : Addr) (fd : FuncData), FnX K mg x st f fd := ⟨f, _, fun_mk l c k, PySem.W.mg_of X G a⟩
/-- the constants -/
structure CoX (mg : Str → Option Value) : Prop where
  most : ∃ t, mg "MOST_PAIRS" = some (.int 12 t)
  all : ∃ t, mg "ALL_PAIRS" = some (.int 6 t)
  word : ∃ t, mg "WORD" = some (.int 60 t)
theorem co_mk {K : PySem.W.Frag} {h : Heap} {mg : Str → Option Value} {t1 t2 t3 : Tok} (X : K.In h) (G : h.Ns mainGlobals mg) (a1 : PySem.W.nsIn K mainGlobals "MOST_PAIRS" = some (some (.int 12 t1))) (a2 : PySem.W.nsIn K mainGlobals "ALL_PAIRS" = some (some (.int 6 t2))) (a3 : PySem.W.nsIn K mainGlobals "WORD" = some (some (.int 60 t3))) : CoX mg :=
  ⟨⟨_, PySem.W.mg_of X G a1⟩, ⟨_, PySem.W.mg_of X G a2⟩, ⟨_, PySem.W.mg_of X G a3⟩⟩
section
variable {P : Program} {w : World} {K : PySem.W.Frag} {mg : Str → Option Value} {base : Heap}
theorem from_all {f : Addr} {fd : FuncData} (F : Fun K "ties_from" "ties_from" sFrom f fd) (B : Bi mg) (gF : mg "ties_from" = some (.ref f)) (bF : Binds K fd ["first", "last"] []) : ∀ k, FnOk P w K mg base CX0 (k + 1) f fd ["first", "last"] (spFrom k)
  | 0 => ok_from0 F
  | k + 1 => ok_fromS F B gF F.kp bF (from_all F B gF bF k)
theorem all_ok {fI CS CT CU CM f c Pt : Addr} {oc kV doc pm ct : Value} {od an : Option Addr} {osl : Array (Option Value)} {f1 f2 f3 f4 f5 f6 f7 f8 f9 f10 f11 f12 f13 f14 f15 f16 f17 f18 f19 f20 f21 f22 f23 f24 : Addr} {d1 d2 d3 d4 d5 d6 d7 d8 d9 d10 d11 d12 d13 d14 d15 d16 d17 d18 d19 d20 d21 d22 d23 d24 : FuncData} (B : Bi mg) (C : CoX mg) (NC : NameC K mg CT CU CM) (KC : CatchC K mg CS CT CU CM) (XT : ExC K mg "InvalidTies" CT) (XU : ExC K mg "Unlike" CU) (M : MnyC P K CM fI) (ms : mg "super" = none)
    (X1 : FnX K mg "is_whole" sWhole f1 d1)
    (X2 : FnX K mg "need_few" sFew f2 d2)
    (X3 : FnX K mg "fits_ties" sFits f3 d3)
    (X4 : FnX K mg "do_not_cross" sCross f4 d4)
    (X5 : FnX K mg "ties_with" sWith f5 d5)
    (X6 : FnX K mg "ties_from" sFrom f6 d6)
    (X7 : FnX K mg "every_ties" sEvery f7 d7)
    (X8 : FnX K mg "need_ties" sNeedT f8 d8)
    (X9 : FnX K mg "need_pairs" sNeedP f9 d9)
    (X10 : FnX K mg "all_ties" sAll f10 d10)
    (X11 : FnX K mg "stir_at" sStir f11 d11)
    (X12 : FnX K mg "fits_word" sWord f12 d12)
    (X13 : FnX K mg "word_between" sBetw f13 d13)
    (X14 : FnX K mg "need_both_ties" sBoth f14 d14)
    (X15 : FnX K mg "stirred_by" sBy f15 d15)
    (X16 : FnX K mg "stir_way" sWay f16 d16)
    (X17 : FnX K mg "_law_pot" sPot f17 d17)
    (X18 : FnX K mg "_law_dip" sDip f18 d18)
    (X19 : FnX K mg "_law_one" sOne f19 d19)
    (X20 : FnX K mg "_law_words" sWords f20 d20)
    (X21 : FnX K mg "_law_ties" sTies f21 d21)
    (X22 : FnX K mg "_law_stirred" sStirred f22 d22)
    (X23 : FnX K mg "_law_name" sName f23 d23)
    (X24 : FnX K mg "_law_steps" sSteps f24 d24)
    (lk : K.lookup f = some ⟨oc, od, .func (PySem.W.fnOf "law" "law" (defArgs sLaw) (defBody sLaw) (defScope sLaw) .none kV doc pm an (.ref c) ct), osl⟩) (hcd : PySem.W.codeIn K (.ref c) "law" = true) (TB : TabB base mg c Pt) :
    FnOk P w K mg base CX0 14 f (PySem.W.fnOf "law" "law" (defArgs sLaw) (defBody sLaw) (defScope sLaw) .none kV doc pm an (.ref c) ct) ["_law_script"] (spLaw K Pt) := by
  have b1 := X1.fn.binds (ps := ["value", "low", "high"]) fun _ _ _ _ _ _ us hl => match us, hl with | [_, _, _], _ => rfl
  have b2 := X2.fn.binds (ps := ["many", "limit"]) fun _ _ _ _ _ _ us hl => match us, hl with | [_, _], _ => rfl
  have b3 := X3.fn.binds (ps := ["value"]) fun _ _ _ _ _ _ us hl => match us, hl with | [_], _ => rfl
  have b4 := X4.fn.binds (ps := ["value"]) fun _ _ _ _ _ _ us hl => match us, hl with | [_], _ => rfl
  have b5 := X5.fn.binds (ps := ["pairs", "size"]) fun _ _ _ _ _ _ us hl => match us, hl with | [_, _], _ => rfl
  have b6 := X6.fn.binds (ps := ["first", "last"]) fun _ _ _ _ _ _ us hl => match us, hl with | [_, _], _ => rfl
  have b7 := X7.fn.binds (ps := ["pairs"]) fun _ _ _ _ _ _ us hl => match us, hl with | [_], _ => rfl
  have b8 := X8.fn.binds (ps := ["value"]) fun _ _ _ _ _ _ us hl => match us, hl with | [_], _ => rfl
  have b9 := X9.fn.binds (ps := ["value", "most"]) fun _ _ _ _ _ _ us hl => match us, hl with | [_, _], _ => rfl
  have b10 := X10.fn.binds (ps := ["pairs"]) fun _ _ _ _ _ _ us hl => match us, hl with | [_], _ => rfl
  have b11 := X11.fn.binds (ps := ["ties", "place"]) fun _ _ _ _ _ _ us hl => match us, hl with | [_, _], _ => rfl
  have b12 := X12.fn.binds (ps := ["ties", "value"]) fun _ _ _ _ _ _ us hl => match us, hl with | [_, _], _ => rfl
  have b13 := X13.fn.binds (ps := ["one", "other"]) fun _ _ _ _ _ _ us hl => match us, hl with | [_, _], _ => rfl
  have b14 := X14.fn.binds (ps := ["one", "other"]) fun _ _ _ _ _ _ us hl => match us, hl with | [_, _], _ => rfl
  have b15 := X15.fn.binds (ps := ["ties", "word"]) fun _ _ _ _ _ _ us hl => match us, hl with | [_, _], _ => rfl
  have b16 := X16.fn.binds (ps := ["one_ties", "other_ties"]) fun _ _ _ _ _ _ us hl => match us, hl with | [_, _], _ => rfl
  have b17 := X17.fn.binds (ps := ["_law_script", "_law_turn"]) fun _ _ _ _ _ _ us hl => match us, hl with | [_, _], _ => rfl
  have b18 := X18.fn.binds (ps := ["_law_pot_here", "_law_many"]) fun _ _ _ _ _ _ us hl => match us, hl with | [_, _], _ => rfl
  have b19 := X19.fn.binds (ps := ["_law_pot_here", "_law_some"]) fun _ _ _ _ _ _ us hl => match us, hl with | [_, _], _ => rfl
  have b20 := X20.fn.binds (ps := ["_law_call", "_law_odds"]) fun _ _ _ _ _ _ us hl => match us, hl with | [_, _], _ => rfl
  have b21 := X21.fn.binds (ps := ["_law_pot_here", "_law_pairs"]) fun _ _ _ _ _ _ us hl => match us, hl with | [_, _], _ => rfl
  have b22 := X22.fn.binds (ps := ["_law_ties_here", "_law_place"]) fun _ _ _ _ _ _ us hl => match us, hl with | [_, _], _ => rfl
  have b23 := X23.fn.binds (ps := ["_law_e"]) fun _ _ _ _ _ _ us hl => match us, hl with | [_], _ => rfl
  have b24 := X24.fn.binds (ps := ["_law_ties_here"]) fun _ _ _ _ _ _ us hl => match us, hl with | [_], _ => rfl
  have G1 := ok_whole (P := P) (w := w) (base := base) X1.fn B
  have G4 := ok_cross (P := P) (w := w) (base := base) X4.fn B
  have G3 := ok_fits X3.fn B C.most G1 X1.g X1.fn.kp b1 G4 X4.g X4.fn.kp b4
  have G8 := ok_needT X8.fn XT G3 X3.g X3.fn.kp b3
  have G9 := ok_needP X9.fn G1 X1.g X1.fn.kp b1
  have G14 := ok_both X14.fn B XU G8 X8.g X8.fn.kp b8
  have G11 := ok_stir (P := P) (w := w) (base := base) X11.fn B
  have G12 := ok_word X12.fn B C.word G1 X1.g X1.fn.kp b1
  have G15 := ok_by X15.fn G8 X8.g X8.fn.kp b8 G12 X12.g X12.fn.kp b12 G11 X11.g X11.fn.kp b11
  have G13 := ok_betw X13.fn B G11 X11.g X11.fn.kp b11
  have G2 := ok_few (w := w) (base := base) X2.fn M ms NC.gM
  have G16 := ok_way X16.fn B G14 X14.g X14.fn.kp b14 G2 X2.g X2.fn.kp b2 G13 X13.g X13.fn.kp b13
  have G5 := ok_with (P := P) (w := w) (base := base) X5.fn B
  have G6 : ∀ k, k ≤ 10 → FnOk P w K mg base CX0 11 f6 d6 ["first", "last"] (spFrom k) := fun k hk => (from_all X6.fn B X6.g b6 k).mono (by omega)
  have G7 := ok_every X7.fn B G6 X6.g X6.fn.kp b6 G5 X5.g X5.fn.kp b5
  have G10 := ok_all X10.fn C.all G9 X9.g X9.fn.kp b9 G7 X7.g X7.fn.kp b7
  have G17 := ok_pot (P := P) (w := w) (base := base) X17.fn B
  have G18 := ok_dip (P := P) (w := w) (base := base) X18.fn B
  have G19 := ok_one X19.fn B G18 X18.g X18.fn.kp b18
  have G21 := ok_ties X21.fn B G18 X18.g X18.fn.kp b18
  have G22 := ok_stirred (P := P) (w := w) (base := base) X22.fn B
  have G24 := ok_steps X24.fn B G22 X22.g X22.fn.kp b22
  exact ok_law lk hcd B NC KC { fP := f17, dP := d17, GP := G17, gP := X17.g, kP := X17.fn.kp, bP := b17, fO := f19, dO := d19, GO := G19, gO := X19.g, kO := X19.fn.kp, bO := b19, fT := f21, dT := d21, GT := G21, gT := X21.g, kT := X21.fn.kp, bT := b21, fS := f24, dS := d24, GS := G24, gS := X24.g, kS := X24.fn.kp, bS := b24, fA := f10, dA := d10, GA := G10, gA := X10.g, kA := X10.fn.kp, bA := b10, fW := f16, dW := d16, GW := G16, gW := X16.g, kW := X16.fn.kp, bW := b16, fY := f15, dY := d15, GY := G15, gY := X15.g, kY := X15.fn.kp, bY := b15, fG := f20, dG := d20, FG := X20.fn, gG := X20.g, bG := b20, fN := f23, dN := d23, FN := X23.fn, gN := X23.g, bN := b23 } TB
theorem cls_all {h : Heap} {CS CT CU CM fI : Addr} (X : K.In h) (G : h.Ns mainGlobals mg)
    {nm q : Str} {N : Addr} {bs bm : List Value} {sn : List Str} {sub : List Value} {ab : Bool} {col : Option Bool} {dd : Option Addr} {m0 m1 m2 m3 m5 : Option Value}
    {oc : Value} {od : Option Addr} {kV doc pm : Value} {an : Option Addr} {cda cc : Addr} {ct : Value} {osl : Array (Option Value)} {ccl : Value} {cdd : Option Addr} {vs : Array Value} {ccs : Array (Option Value)} {file : Str} {tf : Tok} {cl : Value} {cld : Option Addr} {csl : Array (Option Value)}
    (gS : PySem.W.nsIn K mainGlobals "SignError" = some (some (.ref CS))) (gT : PySem.W.nsIn K mainGlobals "InvalidTies" = some (some (.ref CT))) (gU : PySem.W.nsIn K mainGlobals "Unlike" = some (some (.ref CU))) (gM : PySem.W.nsIn K mainGlobals "TooMany" = some (some (.ref CM)))
    (xL : K.lookup CM = some (excClassObj nm q CM N bs bm true sn sub ab col dd m0 m1 m2 m3 m5 "ValueError.__new__"))
    (sa : PySem.W.findIn K (.ref CM) "__setattr__" = some (some (.builtin "object.__setattr__")))
    (iC : PySem.W.findIn K (.ref CM) "__init__" = some (some (.ref fI)))
    (tI : PySem.W.typeIn K (.ref fI) = some (.type "function"))
    (lI : K.lookup fI = some ⟨oc, od, .func (PySem.W.ksFn "__init__" "TooMany.__init__" (defArgs sMInit) (defBody sMInit) (defScope sMInit) .none kV doc pm an (.ref cda) ct cc), osl⟩)
    (cI : PySem.W.codeIn K (.ref cda) "TooMany.__init__" = true)
    (lc : K.lookup cda = some ⟨ccl, cdd, .fields vs, ccs⟩)
    (lcc : K.lookup cc = some ⟨cl, cld, .cell (some (.ref CM)), csl⟩)
    (ve : PySem.W.subIn K (.ref CM) (.type "ValueError") = some true)
    (lim : PySem.W.findIn K (.ref CM) "limit" = some none)
    (op : PySem.W.nsIn K cStatics "thirdparty.any" = some none)
    (sp : PySem.W.nsIn K mainGlobals "super" = some none)
    (hn : PySem.W.specialIn K (.builtin "object.__class__") "__get__" = some (some (.builtin "getset_descriptor.__get__")))
    (ht : PySem.W.takesIn K (.builtin "object.__class__") = some true)
    (sB : PySem.W.subIn K (.ref CS) (.type "BaseException") = some true) (sD : PySem.W.hasDictIn K CS = true) (sT : PySem.W.typeIn K (.ref CS) = some (.type "type"))
    (tS : PySem.W.subIn K (.ref CT) (.ref CS) = some true) (uS : PySem.W.subIn K (.ref CU) (.ref CS) = some true) (mS : PySem.W.subIn K (.ref CM) (.ref CS) = some true)
    (hgT : PySem.W.findIn K (.ref CT) "__getattribute__" = some (some (.builtin "BaseException.__getattribute__"))) (hkT : PySem.W.findIn K (.ref CT) "__getattr__" = some none) (hsT : PySem.W.subIn K (.ref CT) (.type "BaseException") = some true) (hdT : PySem.W.hasDictIn K CT = true)
    (haT : PySem.W.findIn K (.ref CT) "__class__" = some (some (.builtin "object.__class__"))) (hmT : PySem.W.mroIn K CT (.type "object") = some true) (tyT : PySem.W.typeIn K (.ref CT) = some (.type "type")) (kpT : PySem.W.keepIn K (.ref CT) = true)
    (hgU : PySem.W.findIn K (.ref CU) "__getattribute__" = some (some (.builtin "BaseException.__getattribute__"))) (hkU : PySem.W.findIn K (.ref CU) "__getattr__" = some none) (hsU : PySem.W.subIn K (.ref CU) (.type "BaseException") = some true) (hdU : PySem.W.hasDictIn K CU = true)
    (haU : PySem.W.findIn K (.ref CU) "__class__" = some (some (.builtin "object.__class__"))) (hmU : PySem.W.mroIn K CU (.type "object") = some true) (tyU : PySem.W.typeIn K (.ref CU) = some (.type "type")) (kpU : PySem.W.keepIn K (.ref CU) = true)
    (hgM : PySem.W.findIn K (.ref CM) "__getattribute__" = some (some (.builtin "BaseException.__getattribute__"))) (hkM : PySem.W.findIn K (.ref CM) "__getattr__" = some none) (hsM : PySem.W.subIn K (.ref CM) (.type "BaseException") = some true) (hdM : PySem.W.hasDictIn K CM = true)
    (haM : PySem.W.findIn K (.ref CM) "__class__" = some (some (.builtin "object.__class__"))) (hmM : PySem.W.mroIn K CM (.type "object") = some true) (tyM : PySem.W.typeIn K (.ref CM) = some (.type "type")) (kpM : PySem.W.keepIn K (.ref CM) = true)
    (e1 : PySem.HandSPX.refsVE bm = true)
    (e2 : PySem.W.excInitIn K CM PySem.HandSPX.veTail "ValueError.__new__" = true)
    (e3 : PySem.W.mroIn K CM (.ref CM) = some true)
    (e4 : PySem.W.ks_superIn K CM CM "__init__" = some (some (.builtin "ValueError.__init__")))
    (e5 : vs[2]? = some (.str file tf)) (e6 : ((P.main.file : Str) == file) = true)
    (e7 : (P.main.scope.names.lookup ("super" : Str)).isSome = false)
    (xT : PySem.W.excIn K CT [.type "ValueError", .type "Exception", .type "BaseException", .type "object"] "ValueError.__new__" = true)
    (xU : PySem.W.excIn K CU [.type "ValueError", .type "Exception", .type "BaseException", .type "object"] "ValueError.__new__" = true)
    (kTU : PySem.W.kitOne K (.ref CT) (.ref CU) = some false) (kTM : PySem.W.kitOne K (.ref CT) (.ref CM) = some false) (kUM : PySem.W.kitOne K (.ref CU) (.ref CM) = some false)
    (cD : (PySem.W.clsIn K CM).isSome = true) :
    ∃ CS CT CU CM fI : Addr, NameC K mg CT CU CM ∧ CatchC K mg CS CT CU CM ∧ ExC K mg "InvalidTies" CT ∧ ExC K mg "Unlike" CU ∧ MnyC P K CM fI ∧ mg "super" = none := by
  have kk : ∀ t : Value, PySem.W.kitOne K t t = some true := fun t => by
    unfold PySem.W.kitOne
    simp
  exact ⟨CS, CT, CU, CM, fI,
    ⟨⟨hgT, hkT, hsT, hdT, haT, hn, ht, hmT⟩, ⟨hgU, hkU, hsU, hdU, haU, hn, ht, hmU⟩, ⟨hgM, hkM, hsM, hdM, haM, hn, ht, hmM⟩, PySem.W.mg_of X G gT, PySem.W.mg_of X G gU, PySem.W.mg_of X G gM, kk _, kTU, kTM, kk _, kUM, kk _, ⟨hgM, hkM, hsM, hdM⟩, lim⟩,
    ⟨PySem.W.mg_of X G gS, PySem.W.exm_ref sB sD sT tS, PySem.W.exm_ref sB sD sT uS, PySem.W.exm_ref sB sD sT mS⟩,
    ⟨PySem.W.mg_of X G gT, xT, kpT, hsT, tyT⟩, ⟨PySem.W.mg_of X G gU, xU, kpU, hsU, tyU⟩,
    { oex := ⟨⟨nm, q, N, bs, bm, sn, sub, ab, col, dd, m0, m1, m2, m3, m5, xL, e1⟩, sa, hsM, tyM, kpM⟩, init := e2, iC := iC, tI := tI, fn := ⟨oc, od, kV, doc, pm, an, cda, cc, ct, osl, ccl, cdd, vs, ccs, file, tf, cl, cld, csl, lI, cI, lc, e5, e6, lcc⟩, cD := cD, sub := e3, sup := e4, ve := ve, op := op, lim := lim, main := e7 },
    PySem.W.mg_none_of X G sp⟩
theorem law_mk {l : PySem.W.OpenLaw} {n : Nat} {h : Heap} {ts : List Addr} {fa f c Pt fI CS CT CU CM : Addr} {oc kV doc pm ct : Value} {od an : Option Addr} {osl : Array (Option Value)} {f1 f2 f3 f4 f5 f6 f7 f8 f9 f10 f11 f12 f13 f14 f15 f16 f17 f18 f19 f20 f21 f22 f23 f24 : Addr} {d1 d2 d3 d4 d5 d6 d7 d8 d9 d10 d11 d12 d13 d14 d15 d16 d17 d18 d19 d20 d21 d22 d23 d24 : FuncData} (hn : n ≤ 63) (X : K.In h) (G : h.Ns mainGlobals mg) (hfa : mg "law" = some (.ref fa)) (tt : ∀ P ∈ ts, h.get? P = some { cls := .none, data := .fields #[] })
    (B : Bi mg) (C : CoX mg) (NC : NameC K mg CT CU CM) (KC : CatchC K mg CS CT CU CM) (XT : ExC K mg "InvalidTies" CT) (XU : ExC K mg "Unlike" CU) (M : MnyC l.prog K CM fI) (ms : mg "super" = none)
    (X1 : FnX K mg "is_whole" sWhole f1 d1)
    (X2 : FnX K mg "need_few" sFew f2 d2)
    (X3 : FnX K mg "fits_ties" sFits f3 d3)
    (X4 : FnX K mg "do_not_cross" sCross f4 d4)
    (X5 : FnX K mg "ties_with" sWith f5 d5)
    (X6 : FnX K mg "ties_from" sFrom f6 d6)
    (X7 : FnX K mg "every_ties" sEvery f7 d7)
    (X8 : FnX K mg "need_ties" sNeedT f8 d8)
    (X9 : FnX K mg "need_pairs" sNeedP f9 d9)
    (X10 : FnX K mg "all_ties" sAll f10 d10)
    (X11 : FnX K mg "stir_at" sStir f11 d11)
    (X12 : FnX K mg "fits_word" sWord f12 d12)
    (X13 : FnX K mg "word_between" sBetw f13 d13)
    (X14 : FnX K mg "need_both_ties" sBoth f14 d14)
    (X15 : FnX K mg "stirred_by" sBy f15 d15)
    (X16 : FnX K mg "stir_way" sWay f16 d16)
    (X17 : FnX K mg "_law_pot" sPot f17 d17)
    (X18 : FnX K mg "_law_dip" sDip f18 d18)
    (X19 : FnX K mg "_law_one" sOne f19 d19)
    (X20 : FnX K mg "_law_words" sWords f20 d20)
    (X21 : FnX K mg "_law_ties" sTies f21 d21)
    (X22 : FnX K mg "_law_stirred" sStirred f22 d22)
    (X23 : FnX K mg "_law_name" sName f23 d23)
    (X24 : FnX K mg "_law_steps" sSteps f24 d24)
    (a39 : PySem.W.nsIn K mainGlobals "law" = some (some (.ref f))) (lk : K.lookup f = some ⟨oc, od, .func (PySem.W.fnOf "law" "law" (defArgs sLaw) (defBody sLaw) (defScope sLaw) .none kV doc pm an (.ref c) ct), osl⟩) (hcd : PySem.W.codeIn K (.ref c) "law" = true)
    (e39 : PySem.W.codeHdIn K c Pt = true) (n39 : K.lookup Pt = none) (m39 : Pt ∈ ts) : LawAtS l w K CX0 14 n "_law_script" mg fa h := by
  have e := hfa.symm.trans (PySem.W.mg_of X G a39)
  cases e
  refine ⟨_, [(c, Pt)], spLaw K Pt, fun p hp => ?_, fun p hp => ?_, fun p hp => ?_, fun s u => .of_eq rfl, fun H a ns hl _ hT hS => ?_, fun base kb gb tb => all_ok B C NC KC XT XU M ms X1 X2 X3 X4 X5 X6 X7 X8 X9 X10 X11 X12 X13 X14 X15 X16 X17 X18 X19 X20 X21 X22 X23 X24 lk hcd (tb _ (List.mem_cons_self ..))⟩
  · obtain rfl := List.mem_singleton.mp hp
    exact tt _ m39
  · obtain rfl := List.mem_singleton.mp hp
    exact n39
  · obtain rfl := List.mem_singleton.mp hp
    exact PySem.W.codeHd_of_K X e39
  · exact ⟨a, ns, rfl, hS, Nat.le_trans hl hn, hT _ (List.mem_cons_self ..), fun _ => rfl⟩
end
end SqP
open PySem PySem.W PyProof.Rows
set_option maxRecDepth 100000 in
set_option maxHeartbeats 0 in
theorem PySem.Challenge.cw_signsquared_k32_whole_ways_by_stirrings_holds : PySem.Challenge.rw_signsquared_k32_whole_ways_by_stirrings.Holds := by
  w_on; o_law; k_head; (case hw => w_witness2)
  k_fill
  refine LamX.walk_ofTs (k := 14) (CX := fun _ => L2.CX0) (x := "_law_script") rfl (by decide) rfl ⟨rfl, by decide, by decide⟩ (fun w h Y => PySem.W.km_in_of Y) ?F (fun _ _ _ _ _ h => h)
  case F =>
    intro w mg fa h Y KX G hmg
    have tt := PySem.W.km_tabs_of Y
    have bi : SqP.Bi mg := ⟨PySem.W.mg_none_of KX G (by k_is), PySem.W.mg_none_of KX G (by k_is), PySem.W.mg_none_of KX G (by k_is), PySem.W.mg_none_of KX G (by k_is), PySem.W.mg_none_of KX G (by k_is), PySem.W.mg_none_of KX G (by k_is), PySem.W.mg_none_of KX G (by k_is), PySem.W.mg_none_of KX G (by k_is), PySem.W.mg_none_of KX G (by k_is), PySem.W.mg_none_of KX G (by k_is), PySem.W.mg_none_of KX G (by k_is), PySem.W.mg_none_of KX G (by k_is)⟩
    have co : SqP.CoX mg := by
      refine' SqP.co_mk KX G ?a1 ?a2 ?a3
      (case a1 => k_is)
      (case a2 => k_is)
      (case a3 => k_is)
    obtain ⟨CS, CT, CU, CM, fI, NC, KC, XT, XU, MC, ms⟩ : ∃ CS CT CU CM fI : Addr, SqP.NameC _ mg CT CU CM ∧ SqP.CatchC _ mg CS CT CU CM ∧ SqP.ExC _ mg "InvalidTies" CT ∧ SqP.ExC _ mg "Unlike" CU ∧ SqP.MnyC PySem.Challenge.rw_signsquared_k32_whole_ways_by_stirrings.prog _ CM fI ∧ mg "super" = none := by
      refine' SqP.cls_all (P := PySem.Challenge.rw_signsquared_k32_whole_ways_by_stirrings.prog) KX G ?gS ?gT ?gU ?gM ?xL ?sa ?iC ?tI ?lI ?cI ?lc ?lcc ?ve ?lim ?op ?sp ?hn ?ht ?sB ?sD ?sT ?tS ?uS ?mS ?hgT ?hkT ?hsT ?hdT ?haT ?hmT ?tyT ?kpT ?hgU ?hkU ?hsU ?hdU ?haU ?hmU ?tyU ?kpU ?hgM ?hkM ?hsM ?hdM ?haM ?hmM ?tyM ?kpM ?e1 ?e2 ?e3 ?e4 ?e5 ?e6 ?e7 ?xT ?xU ?kTU ?kTM ?kUM ?cD
      (case gS => k_is)
      (case gT => k_is)
      (case gU => k_is)
      (case gM => k_is)
      (case xL => k_is)
      (case sa => k_is)
      (case iC => k_is)
      (case tI => k_is)
      (case lI => k_is)
      (case cI => k_is)
      (case lc => k_is)
      (case lcc => k_is)
      (case ve => k_is)
      (case lim => k_is)
      (case op => k_is)
      (case sp => k_is)
      (case hn => k_is)
      (case ht => k_is)
      (case sB => k_is)
      (case sD => k_is)
      (case sT => k_is)
      (case tS => k_is)
      (case uS => k_is)
      (case mS => k_is)
      (case hgT => k_is)
      (case hkT => k_is)
      (case hsT => k_is)
      (case hdT => k_is)
      (case haT => k_is)
      (case hmT => k_is)
      (case tyT => k_is)
      (case kpT => k_is)
      (case hgU => k_is)
      (case hkU => k_is)
      (case hsU => k_is)
      (case hdU => k_is)
      (case haU => k_is)
      (case hmU => k_is)
      (case tyU => k_is)
      (case kpU => k_is)
      (case hgM => k_is)
      (case hkM => k_is)
      (case hsM => k_is)
      (case hdM => k_is)
      (case haM => k_is)
      (case hmM => k_is)
      (case tyM => k_is)
      (case kpM => k_is)
      (case e1 => decide +kernel)
      (case e2 => kernel_rfl)
      (case e3 => k_is)
      (case e4 => ks_is)
      (case e5 => rfl)
      (case e6 => first | rfl | decide +kernel)
      (case e7 => decide +kernel)
      (case xT => first | k_is | kernel_rfl)
      (case xU => first | k_is | kernel_rfl)
      (case kTU => first | k_is | kernel_rfl)
      (case kTM => first | k_is | kernel_rfl)
      (case kUM => first | k_is | kernel_rfl)
      (case cD => kernel_rfl)
    obtain ⟨f1, d1, X1⟩ := SqP.fx_mk (x := "is_whole") (st := SqP.sWhole) KX G (by k_is) (by k_is) (by k_is) (by k_is)
    obtain ⟨f2, d2, X2⟩ := SqP.fx_mk (x := "need_few") (st := SqP.sFew) KX G (by k_is) (by k_is) (by k_is) (by k_is)
    obtain ⟨f3, d3, X3⟩ := SqP.fx_mk (x := "fits_ties") (st := SqP.sFits) KX G (by k_is) (by k_is) (by k_is) (by k_is)
    obtain ⟨f4, d4, X4⟩ := SqP.fx_mk (x := "do_not_cross") (st := SqP.sCross) KX G (by k_is) (by k_is) (by k_is) (by k_is)
    obtain ⟨f5, d5, X5⟩ := SqP.fx_mk (x := "ties_with") (st := SqP.sWith) KX G (by k_is) (by k_is) (by k_is) (by k_is)
    obtain ⟨f6, d6, X6⟩ := SqP.fx_mk (x := "ties_from") (st := SqP.sFrom) KX G (by k_is) (by k_is) (by k_is) (by k_is)
    obtain ⟨f7, d7, X7⟩ := SqP.fx_mk (x := "every_ties") (st := SqP.sEvery) KX G (by k_is) (by k_is) (by k_is) (by k_is)
    obtain ⟨f8, d8, X8⟩ := SqP.fx_mk (x := "need_ties") (st := SqP.sNeedT) KX G (by k_is) (by k_is) (by k_is) (by k_is)
    obtain ⟨f9, d9, X9⟩ := SqP.fx_mk (x := "need_pairs") (st := SqP.sNeedP) KX G (by k_is) (by k_is) (by k_is) (by k_is)
    obtain ⟨f10, d10, X10⟩ := SqP.fx_mk (x := "all_ties") (st := SqP.sAll) KX G (by k_is) (by k_is) (by k_is) (by k_is)
    obtain ⟨f11, d11, X11⟩ := SqP.fx_mk (x := "stir_at") (st := SqP.sStir) KX G (by k_is) (by k_is) (by k_is) (by k_is)
    obtain ⟨f12, d12, X12⟩ := SqP.fx_mk (x := "fits_word") (st := SqP.sWord) KX G (by k_is) (by k_is) (by k_is) (by k_is)
    obtain ⟨f13, d13, X13⟩ := SqP.fx_mk (x := "word_between") (st := SqP.sBetw) KX G (by k_is) (by k_is) (by k_is) (by k_is)
    obtain ⟨f14, d14, X14⟩ := SqP.fx_mk (x := "need_both_ties") (st := SqP.sBoth) KX G (by k_is) (by k_is) (by k_is) (by k_is)
    obtain ⟨f15, d15, X15⟩ := SqP.fx_mk (x := "stirred_by") (st := SqP.sBy) KX G (by k_is) (by k_is) (by k_is) (by k_is)
    obtain ⟨f16, d16, X16⟩ := SqP.fx_mk (x := "stir_way") (st := SqP.sWay) KX G (by k_is) (by k_is) (by k_is) (by k_is)
    obtain ⟨f17, d17, X17⟩ := SqP.fx_mk (x := "_law_pot") (st := SqP.sPot) KX G (by k_is) (by k_is) (by k_is) (by k_is)
    obtain ⟨f18, d18, X18⟩ := SqP.fx_mk (x := "_law_dip") (st := SqP.sDip) KX G (by k_is) (by k_is) (by k_is) (by k_is)
    obtain ⟨f19, d19, X19⟩ := SqP.fx_mk (x := "_law_one") (st := SqP.sOne) KX G (by k_is) (by k_is) (by k_is) (by k_is)
    obtain ⟨f20, d20, X20⟩ := SqP.fx_mk (x := "_law_words") (st := SqP.sWords) KX G (by k_is) (by k_is) (by k_is) (by k_is)
    obtain ⟨f21, d21, X21⟩ := SqP.fx_mk (x := "_law_ties") (st := SqP.sTies) KX G (by k_is) (by k_is) (by k_is) (by k_is)
    obtain ⟨f22, d22, X22⟩ := SqP.fx_mk (x := "_law_stirred") (st := SqP.sStirred) KX G (by k_is) (by k_is) (by k_is) (by k_is)
    obtain ⟨f23, d23, X23⟩ := SqP.fx_mk (x := "_law_name") (st := SqP.sName) KX G (by k_is) (by k_is) (by k_is) (by k_is)
    obtain ⟨f24, d24, X24⟩ := SqP.fx_mk (x := "_law_steps") (st := SqP.sSteps) KX G (by k_is) (by k_is) (by k_is) (by k_is)
    refine' SqP.law_mk (Pt := 254) (by decide) KX G hmg tt bi co NC KC XT XU MC ms X1 X2 X3 X4 X5 X6 X7 X8 X9 X10 X11 X12 X13 X14 X15 X16 X17 X18 X19 X20 X21 X22 X23 X24 ?a39 ?l39 ?c39 ?e39 ?n39 ?m39
    (case a39 => k_is)
    (case l39 => k_is)
    (case c39 => k_is)
    (case m39 => exact List.mem_singleton.mpr rfl)
    (case e39 => kernel_rfl)
    (case n39 => kernel_rfl)
