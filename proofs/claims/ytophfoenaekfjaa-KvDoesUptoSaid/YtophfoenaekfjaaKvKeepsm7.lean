/- Parts of the proof of KvKeeps: Entries by name: what an operation does. Copies are what they are copies of. What kv.Do's law says, of lists. What reads as data is of our kinds. Arguments opened: an operation, entries, a text; copies. -/
import Derived.Test.YtophfoenaekfjaaKvKeepsm6
import Derived.Test.YtophfoenaekfjaaKvKeepsm2
import Derived.Test.YtophfoenaekfjaaKvKeepsm1
import Derived.Test.YtophfoenaekfjaaKvKeepsm3
import Derived.Test.YtophfoenaekfjaaKvKeepsm5
import Derived.Test.YtophfoenaekfjaaPSnapEncodesx3
import Derived.Test.YtophfoenaekfjaaRows
import Derived.WalkKit
import Derived.ProofKit
import Derived.OpenShut
import Derived.Lib.SmallJoins
namespace Go.Proofs.Ytophfoenaekfjaa
open Go.RowKit Go.Proofs.YtophfoenaekfjaaW.PrintWords Go.Proofs.YtophfoenaekfjaaW.PrintLast Go.Proofs.YtophfoenaekfjaaW.PrintMore Go.Proofs.Ytophfoenaekfjaa.PSnapEncodes
set_option linter.unusedVariables false
set_option linter.unusedSimpArgs false
/-- The value at a name. -/
def getE : List S72 → List Int → Option (List Int)
  | [], _ => none
  | x :: t, n => if lessB x.f0 n = true then getE t n else if sameB x.f0 n = true then some x.f1 else none
def putE : List S72 → List Int → List Int → List S72
  | [], n, v => [⟨n, v⟩]
  | x :: t, n, v => if lessB x.f0 n = true then x :: putE t n v else if sameB x.f0 n = true then ⟨x.f0, v⟩ :: t else ⟨n, v⟩ :: x :: t
def delE : List S72 → List Int → List S72
  | [], _ => []
  | x :: t, n => if lessB x.f0 n = true then x :: delE t n else if sameB x.f0 n = true then t else x :: t
theorem sameB_refl' (a : List Int) : sameB a a = true := same_iff.2 rfl
theorem ne_less {a b : List Int} (h : sameB a b = false) (k : lessB a b = false) : lessB b a = true := by
  rcases less_tri a b with e | e | e
  · rw [k] at e; cases e
  · rw [h] at e; cases e
  · exact e
theorem lbN_cons (x : S72) (t : List S72) (n : List Int) : lbN (nm (x :: t)) n = if lessB x.f0 n = true then lbN (nm t) n + 1 else 0 := by
  unfold lbN nm
  rw [List.map_cons, List.takeWhile_cons]
  by_cases h : lessB x.f0 n = true
  · rw [if_pos h, if_pos h]; rfl
  · rw [if_neg h, if_neg h]; rfl
theorem getE_eq : ∀ (l : List S72) (n : List Int), getE l n = if fdN (nm l) n = true then some (l.getD (lbN (nm l) n) z72).f1 else none
  | [], n => by simp [getE, fdN, nm, lbN]
  | x :: t, n => by
    have ih := getE_eq t n
    have hc := lbN_cons x t n
    unfold getE
    by_cases h : lessB x.f0 n = true
    · rw [if_pos h, ih, hc, if_pos h]
      have : fdN (nm (x :: t)) n = fdN (nm t) n := by
        unfold fdN
        rw [hc, if_pos h]
        simp [nm]
      rw [this]
      rfl
    · rw [if_neg h]
      rw [hc, if_neg h]
      have : fdN (nm (x :: t)) n = sameB x.f0 n := by
        unfold fdN
        rw [hc, if_neg h]
        simp [nm]
      rw [this]
      rfl
theorem putE_eq : ∀ (l : List S72) (n v : List Int), putE l n v = if fdN (nm l) n = true then l.set (lbN (nm l) n) ⟨(l.getD (lbN (nm l) n) z72).f0, v⟩ else l.take (lbN (nm l) n) ++ ⟨n, v⟩ :: l.drop (lbN (nm l) n)
  | [], n, v => by simp [putE, fdN, nm, lbN]
  | x :: t, n, v => by
    have ih := putE_eq t n v
    have hc := lbN_cons x t n
    unfold putE
    by_cases h : lessB x.f0 n = true
    · rw [if_pos h, ih, hc, if_pos h]
      have : fdN (nm (x :: t)) n = fdN (nm t) n := by
        unfold fdN
        rw [hc, if_pos h]
        simp [nm]
      rw [this]
      split <;> rfl
    · rw [if_neg h]
      rw [hc, if_neg h]
      have : fdN (nm (x :: t)) n = sameB x.f0 n := by
        unfold fdN
        rw [hc, if_neg h]
        simp [nm]
      rw [this]
      split <;> rfl
theorem delE_eq : ∀ (l : List S72) (n : List Int), delE l n = if fdN (nm l) n = true then l.eraseIdx (lbN (nm l) n) else l
  | [], n => by simp [delE]
  | x :: t, n => by
    have ih := delE_eq t n
    have hc := lbN_cons x t n
    unfold delE
    by_cases h : lessB x.f0 n = true
    · rw [if_pos h, ih, hc, if_pos h]
      have : fdN (nm (x :: t)) n = fdN (nm t) n := by
        unfold fdN
        rw [hc, if_pos h]
        simp [nm]
      rw [this]
      split <;> rfl
    · rw [if_neg h]
      rw [hc, if_neg h]
      have : fdN (nm (x :: t)) n = sameB x.f0 n := by
        unfold fdN
        rw [hc, if_neg h]
        simp [nm]
      rw [this]
      split <;> rfl
/-- Entries, by name going up. -/
def Up (l : List S72) : Prop := l.Pairwise (fun x y => lessB x.f0 y.f0 = true)
theorem up_sort {l : List S72} : Up l ↔ SortN (nm l) := by
  unfold Up SortN
  rw [List.pairwise_iff_getElem]
  constructor
  · intro h i j hij hj
    rw [nm_len] at hj
    rw [nm_at, nm_at, List.getD_eq_getElem?_getD, List.getD_eq_getElem?_getD, List.getElem?_eq_getElem hj, List.getElem?_eq_getElem (by omega : i < l.length)]
    exact h i j _ hj hij
  · intro h i j hi hj hij
    have := h i j hij (by rw [nm_len]; exact hj)
    rw [nm_at, nm_at, List.getD_eq_getElem?_getD, List.getD_eq_getElem?_getD, List.getElem?_eq_getElem hj, List.getElem?_eq_getElem hi] at this
    exact this
theorem get_above {n : List Int} : ∀ {t : List S72}, (∀ y ∈ t, lessB n y.f0 = true) → getE t n = none
  | [], _ => rfl
  | x :: t, h => by
    have hx := h x (by simp)
    unfold getE
    rw [if_neg (by rw [less_asym hx]; simp), if_neg (by rw [same_comm, less_ne hx]; simp)]
theorem put_above {n : List Int} (v : List Int) : ∀ {t : List S72}, (∀ y ∈ t, lessB n y.f0 = true) → putE t n v = ⟨n, v⟩ :: t
  | [], _ => rfl
  | x :: t, h => by
    have hx := h x (by simp)
    unfold putE
    rw [if_neg (by rw [less_asym hx]; simp), if_neg (by rw [same_comm, less_ne hx]; simp)]
theorem del_above {n : List Int} : ∀ {t : List S72}, (∀ y ∈ t, lessB n y.f0 = true) → delE t n = t
  | [], _ => rfl
  | x :: t, h => by
    have hx := h x (by simp)
    unfold delE
    rw [if_neg (by rw [less_asym hx]; simp), if_neg (by rw [same_comm, less_ne hx]; simp)]
/-- What an operation does at its name: leave, put, delete. -/
inductive Act where
  | leave | put (v : List Int) | del
def apE (l : List S72) (n : List Int) : Act → List S72
  | .leave => l
  | .put v => putE l n v
  | .del => delE l n
def stepE (g : Option (List Int)) (full : Bool) (k : Int) (a b : List Int) : Act × S45 :=
  match g with
  | none => if k = 2 then (if full = true then (.leave, ⟨3, []⟩) else (.put a, ⟨0, []⟩)) else (.leave, ⟨1, []⟩)
  | some v => if k = 1 then (.leave, ⟨0, v⟩) else if k = 2 then (.put a, ⟨0, []⟩) else if k = 3 then (if sameB v a = false then (.leave, ⟨2, v⟩) else (.put b, ⟨0, []⟩)) else (.del, ⟨0, []⟩)
theorem kvOp_eq (l : List S72) (k : Int) (n a b : List Int) : kvOp l k n a b (lbN (nm l) n) (fdN (nm l) n) = (apE l n (stepE (getE l n) (decide (l.length = 64)) k a b).1, (stepE (getE l n) (decide (l.length = 64)) k a b).2) := by
  have hg := getE_eq l n
  have hp := fun v => putE_eq l n v
  have hd := delE_eq l n
  unfold kvOp
  cases hf : fdN (nm l) n with
  | false =>
    rw [hf] at hg hp hd
    rw [if_neg (by simp)] at hg hd
    rw [hg]
    by_cases h2 : k = 2
    · subst h2
      by_cases h64 : l.length = 64
      · simp [stepE, apE, h64]
      · simp [stepE, apE, h64, hp]
    · simp [stepE, apE, h2]
  | true =>
    rw [hf] at hg hp hd
    rw [if_pos (by simp)] at hg hd
    rw [hg]
    generalize (l.getD (lbN (nm l) n) z72).f1 = v at *
    by_cases h1 : k = 1
    · subst h1; simp [stepE, apE]
    · by_cases h2 : k = 2
      · subst h2; simp [stepE, apE, hp]
      · by_cases h3 : k = 3
        · subst h3
          cases hs : sameB v a <;> simp [stepE, apE, hp, hs]
        · simp [stepE, apE, h1, h2, h3, hd]
theorem get_put_ne {n m : List Int} (v : List Int) (hne : sameB n m = false) : ∀ l : List S72, getE (putE l n v) m = getE l m
  | [] => by
    show getE [⟨n, v⟩] m = none
    unfold getE
    cases h : lessB n m <;> simp [h, hne, getE]
  | x :: t => by
    have ih := get_put_ne v hne t
    unfold putE
    by_cases h : lessB x.f0 n = true
    · rw [if_pos h]; simp only [getE, ih]
    · rw [if_neg h]
      by_cases k : sameB x.f0 n = true
      · rw [if_pos k]
        have e : sameB x.f0 m = false := by
          cases q : sameB x.f0 m with
          | false => rfl
          | true => rw [same_trans (same_symm k) q] at hne; cases hne
        simp only [getE, e]; rfl
      · rw [if_neg k]
        have hx : lessB n x.f0 = true := ne_less (Bool.eq_false_iff.2 k) (Bool.eq_false_iff.2 h)
        show getE (⟨n, v⟩ :: x :: t) m = _
        rw [getE]
        by_cases q : lessB n m = true
        · rw [if_pos q]
        · rw [if_neg q, if_neg (by simp [hne])]
          have hm : lessB m n = true := ne_less hne (Bool.eq_false_iff.2 q)
          have := less_trans hm hx
          rw [getE, if_neg (by rw [less_asym this]; simp), if_neg (by rw [same_comm, less_ne this]; simp)]
theorem get_put {n : List Int} (v : List Int) : ∀ l : List S72, getE (putE l n v) n = some v
  | [] => by
    show getE [⟨n, v⟩] n = _
    rw [getE, if_neg (by rw [less_irr]; simp), if_pos (sameB_refl' n)]
  | x :: t => by
    have ih := get_put (n := n) v t
    unfold putE
    by_cases h : lessB x.f0 n = true
    · rw [if_pos h, getE, if_pos h, ih]
    · rw [if_neg h]
      by_cases k : sameB x.f0 n = true
      · rw [if_pos k, getE, if_neg h, if_pos k]
      · rw [if_neg k, getE, if_neg (by rw [less_irr]; simp), if_pos (sameB_refl' n)]
theorem get_del_ne {n m : List Int} (hne : sameB n m = false) : ∀ {l : List S72}, Up l → getE (delE l n) m = getE l m
  | [], _ => rfl
  | x :: t, hu => by
    obtain ⟨hx, ht⟩ := List.pairwise_cons.1 hu
    have ih := get_del_ne hne (l := t) ht
    unfold delE
    by_cases h : lessB x.f0 n = true
    · rw [if_pos h]; simp only [getE, ih]
    · rw [if_neg h]
      by_cases k : sameB x.f0 n = true
      · rw [if_pos k, getE]
        have e : sameB x.f0 m = false := by
          cases q : sameB x.f0 m with
          | false => rfl
          | true => rw [same_trans (same_symm k) q] at hne; cases hne
        by_cases q : lessB x.f0 m = true
        · rw [if_pos q]
        · rw [if_neg q, if_neg (by simp [e])]
          have := ne_less e (Bool.eq_false_iff.2 q)
          exact get_above (fun y hy => less_trans this (hx y hy))
      · rw [if_neg k]
theorem get_del {n : List Int} : ∀ {l : List S72}, Up l → getE (delE l n) n = none
  | [], _ => rfl
  | x :: t, hu => by
    obtain ⟨hx, ht⟩ := List.pairwise_cons.1 hu
    have ih := get_del (n := n) (l := t) ht
    unfold delE
    by_cases h : lessB x.f0 n = true
    · rw [if_pos h, getE, if_pos h, ih]
    · rw [if_neg h]
      by_cases k : sameB x.f0 n = true
      · rw [if_pos k]
        exact get_above (fun y hy => by rw [← less_same k]; exact hx y hy)
      · rw [if_neg k, getE, if_neg h, if_neg k]
theorem mem_put {n v : List Int} : ∀ {l : List S72} {y : S72}, y ∈ putE l n v → y = ⟨n, v⟩ ∨ y ∈ l ∨ (∃ x ∈ l, sameB x.f0 n = true ∧ y = ⟨x.f0, v⟩)
  | [], y, h => by left; simpa [putE] using h
  | x :: t, y, h => by
    unfold putE at h
    by_cases a : lessB x.f0 n = true
    · rw [if_pos a] at h
      rcases List.mem_cons.1 h with rfl | h
      · exact .inr (.inl (by simp))
      · rcases mem_put h with e | e | ⟨z, hz, e⟩
        · exact .inl e
        · exact .inr (.inl (by simp [e]))
        · exact .inr (.inr ⟨z, by simp [hz], e⟩)
    · rw [if_neg a] at h
      by_cases k : sameB x.f0 n = true
      · rw [if_pos k] at h
        rcases List.mem_cons.1 h with rfl | h
        · exact .inr (.inr ⟨x, by simp, k, rfl⟩)
        · exact .inr (.inl (by simp [h]))
      · rw [if_neg k] at h
        rcases List.mem_cons.1 h with rfl | h
        · exact .inl rfl
        · exact .inr (.inl h)
theorem mem_del {n : List Int} : ∀ {l : List S72} {y : S72}, y ∈ delE l n → y ∈ l
  | [], y, h => h
  | x :: t, y, h => by
    unfold delE at h
    by_cases a : lessB x.f0 n = true
    · rw [if_pos a] at h
      rcases List.mem_cons.1 h with rfl | h
      · simp
      · simp [mem_del h]
    · rw [if_neg a] at h
      by_cases k : sameB x.f0 n = true
      · rw [if_pos k] at h; simp [h]
      · rw [if_neg k] at h; exact h
theorem up_put {n v : List Int} : ∀ {l : List S72}, Up l → Up (putE l n v)
  | [], _ => by simp [putE, Up]
  | x :: t, hu => by
    obtain ⟨hx, ht⟩ := List.pairwise_cons.1 hu
    have ih := up_put (n := n) (v := v) (l := t) ht
    unfold putE
    by_cases a : lessB x.f0 n = true
    · rw [if_pos a]
      refine List.pairwise_cons.2 ⟨fun y hy => ?_, ih⟩
      rcases mem_put hy with rfl | e | ⟨z, hz, hs, rfl⟩
      · exact a
      · exact hx y e
      · exact hx z hz
    · rw [if_neg a]
      by_cases k : sameB x.f0 n = true
      · rw [if_pos k]
        exact List.pairwise_cons.2 ⟨fun y hy => hx y hy, ht⟩
      · rw [if_neg k]
        have hn : lessB n x.f0 = true := ne_less (Bool.eq_false_iff.2 k) (Bool.eq_false_iff.2 a)
        refine List.pairwise_cons.2 ⟨fun y hy => ?_, hu⟩
        rcases List.mem_cons.1 hy with rfl | hy
        · exact hn
        · exact less_trans hn (hx y hy)
theorem up_del {n : List Int} : ∀ {l : List S72}, Up l → Up (delE l n)
  | [], _ => by simp [delE, Up]
  | x :: t, hu => by
    obtain ⟨hx, ht⟩ := List.pairwise_cons.1 hu
    have ih := up_del (n := n) (l := t) ht
    unfold delE
    by_cases a : lessB x.f0 n = true
    · rw [if_pos a]
      exact List.pairwise_cons.2 ⟨fun y hy => hx y (mem_del hy), ih⟩
    · rw [if_neg a]
      by_cases k : sameB x.f0 n = true
      · rw [if_pos k]; exact ht
      · rw [if_neg k]; exact hu
theorem len_put (n v : List Int) : ∀ l : List S72, (putE l n v).length = l.length + if getE l n = none then 1 else 0
  | [] => by simp [putE, getE]
  | x :: t => by
    have ih := len_put n v t
    unfold putE getE
    by_cases a : lessB x.f0 n = true
    · rw [if_pos a, if_pos a, List.length_cons, ih, List.length_cons]; omega
    · rw [if_neg a, if_neg a]
      by_cases k : sameB x.f0 n = true
      · rw [if_pos k, if_pos k]; simp
      · rw [if_neg k, if_neg k]; simp
theorem len_del (n : List Int) : ∀ l : List S72, (delE l n).length ≤ l.length
  | [] => by simp [delE]
  | x :: t => by
    have ih := len_del n t
    unfold delE
    by_cases a : lessB x.f0 n = true
    · rw [if_pos a, List.length_cons, List.length_cons]; omega
    · rw [if_neg a]
      by_cases k : sameB x.f0 n = true
      · rw [if_pos k]; simp
      · rw [if_neg k]; simp

end Go.Proofs.Ytophfoenaekfjaa

namespace Go.Proofs.Ytophfoenaekfjaa
open Go.RowKit Go.Proofs.YtophfoenaekfjaaW.PrintWords Go.Proofs.YtophfoenaekfjaaW.PrintLast Go.Proofs.YtophfoenaekfjaaW.PrintMore Go.Proofs.Ytophfoenaekfjaa.PSnapEncodes
set_option linter.unusedVariables false
set_option linter.unusedSimpArgs false

theorem take_snoc' {α : Type} (z : α) {xs : List α} {i : Nat} (h : i < xs.length) : xs.take i ++ [xs.getD i z] = xs.take (i + 1) := by
  rw [List.take_add_one, List.getElem?_eq_getElem h, List.getD_eq_getElem?_getD, List.getElem?_eq_getElem h]
  rfl
theorem w64 {i : Nat} (h : i < 140737488355328) : wrap64 ((i : Int) + 1) = ((i + 1 : Nat) : Int) := by unfold wrap64; omega
def smallE (l : List S72) : Prop := l.length ≤ 1048576 ∧ ∀ x ∈ l, x.f0.length ≤ 1048576 ∧ x.f1.length ≤ 1048576
def smallL (l : List S87) : Prop := l.length ≤ 1048576 ∧ ∀ x ∈ l, x.f0.length ≤ 1048576
def smallS (l : List S97) : Prop := l.length ≤ 1048576 ∧ ∀ x ∈ l, x.f2.f1.length ≤ 1048576
theorem getD_mem' {α : Type} (z : α) {xs : List α} {i : Nat} (h : i < xs.length) : xs.getD i z ∈ xs := by
  rw [List.getD_eq_getElem?_getD, List.getElem?_eq_getElem h]
  exact List.getElem_mem h
theorem copy7_l {xs : List S72} (hs : smallE xs) : ∀ (n i : Nat), i + n = xs.length → catenaryref07_Copy.l0 (n + 1) (xs.take i) xs xs.length i = some xs
  | 0, i, h => by
    have : i = xs.length := by omega
    subst this
    unfold catenaryref07_Copy.l0
    rw [if_neg (by omega), List.take_length]
  | n + 1, i, h => by
    have hi : i < xs.length := by omega
    have hl := hs.1
    have hx := hs.2 _ (getD_mem' z72 hi)
    unfold catenaryref07_Copy.l0
    have e : rd_T72 xs (i : Int) = xs.getD i z72 := by unfold rd_T72; rw [Int.toNat_natCast]
    rw [if_pos (by omega), if_pos (by omega), if_pos (by omega), e]
    simp only [Option.bind_some, List.nil_append, List.length_nil, Nat.zero_add]
    rw [if_pos (by omega), if_pos (by omega), if_pos (by rw [List.length_take]; omega), w64 (by omega)]
    have := copy7_l hs n (i + 1) (by omega)
    rw [← take_snoc' z72 hi] at this
    exact this
theorem copy8_l {xs : List S87} (hs : smallL xs) : ∀ (n i : Nat), i + n = xs.length → catenaryref08_Copy.l0 (n + 1) (xs.take i) xs xs.length i = some xs
  | 0, i, h => by
    have : i = xs.length := by omega
    subst this
    unfold catenaryref08_Copy.l0
    rw [if_neg (by omega), List.take_length]
  | n + 1, i, h => by
    have hi : i < xs.length := by omega
    have hl := hs.1
    have hx := hs.2 _ (getD_mem' z87 hi)
    unfold catenaryref08_Copy.l0
    have e : rd_T87 xs (i : Int) = xs.getD i z87 := by unfold rd_T87; rw [Int.toNat_natCast]
    rw [if_pos (by omega), if_pos (by omega), if_pos (by omega), e]
    simp only [Option.bind_some, List.nil_append, List.length_nil, Nat.zero_add]
    rw [if_pos (by omega), if_pos (by rw [List.length_take]; omega), w64 (by omega)]
    have := copy8_l hs n (i + 1) (by omega)
    rw [← take_snoc' z87 hi] at this
    exact this
theorem copy9_l {xs : List S97} (hs : smallS xs) (a : Int) (l1 : List S72) (l2 : List S87) : ∀ (n i : Nat), i + n = xs.length → catenaryref09_Copy.l0 (n + 1) xs xs.length i a l1 l2 (xs.take i) = some (a, l1, l2, xs)
  | 0, i, h => by
    have : i = xs.length := by omega
    subst this
    unfold catenaryref09_Copy.l0
    rw [if_neg (by omega), List.take_length]
  | n + 1, i, h => by
    have hi : i < xs.length := by omega
    have hl := hs.1
    have hx := hs.2 _ (getD_mem' z97 hi)
    unfold catenaryref09_Copy.l0
    have e : rd_T97 xs (i : Int) = xs.getD i z97 := by unfold rd_T97; rw [Int.toNat_natCast]
    rw [if_pos (by omega), if_pos (by omega), if_pos (by omega), e]
    simp only [Option.bind_some, List.nil_append, List.length_nil, Nat.zero_add]
    rw [if_pos (by omega), if_pos (by rw [List.length_take]; omega), w64 (by omega)]
    have := copy9_l hs a l1 l2 n (i + 1) (by omega)
    rw [← take_snoc' z97 hi] at this
    exact this
theorem copy7 {xs : List S72} (hs : smallE xs) : catenaryref07_Copy.f (xs.length + 1) xs = some xs := copy7_l hs xs.length 0 (by omega)
theorem copy8 {xs : List S87} (hs : smallL xs) : catenaryref08_Copy.f (xs.length + 1) xs = some xs := copy8_l hs xs.length 0 (by omega)
theorem copy9 {a : Int} {l1 : List S72} {l2 : List S87} {l3 : List S97} (h1 : smallE l1) (h2 : smallL l2) (h3 : smallS l3) : ∃ k, catenaryref09_Copy.f k a l1 l2 l3 = some (a, l1, l2, l3) := by
  refine ⟨l1.length + 1 + (l2.length + 1 + (l3.length + 1)), ?_⟩
  unfold catenaryref09_Copy.f
  rw [at_rounds (g := fun k => catenaryref07_Copy.f k l1) (fun k => catenaryref07_Copy.mono l1 k) (k := l1.length + 1) (by omega) (copy7 h1)]
  simp only [Option.bind_some]
  rw [at_rounds (g := fun k => catenaryref08_Copy.f k l2) (fun k => catenaryref08_Copy.mono l2 k) (k := l2.length + 1) (by omega) (copy8 h2)]
  simp only [Option.bind_some]
  exact at_rounds (g := fun k => catenaryref09_Copy.l0 k l3 l3.length 0 a l1 l2 []) (fun k => catenaryref09_Copy.mono_l k _ _ _ _ _ _ _) (k := l3.length + 1) (by omega) (copy9_l h3 a l1 l2 l3.length 0 (by omega))
structure PostCp (w : World) (a : Int) (l1 : List S72) (l2 : List S87) (l3 : List S97) (e : Ending) (w' : World) : Prop where
  mk ::
  out : ∃ v1 v2 v3 : Value, e = .returned (.agg #[.int .i64 a, v1, v2, v3]) ∧ Kd.S k72 72 w' w.heap.size (fun _ => True) v1 l1 ∧ Kd.S k87 87 w' w.heap.size (fun _ => True) v2 l2 ∧ Kd.S k97 97 w' w.heap.size (fun _ => True) v3 l3 ∧ Below w.heap.size w w'
theorem ref09_Copy (a0 : Int) (A1 A2 A3 : Option Addr) (c1 c2 c3 : Nat) (l1 : List S72) (l2 : List S87) (l3 : List S97) (w : World) (h1 : Kd.C k72 w A1 l1.length l1) (m1 : l1.length ≤ c1) (h2 : Kd.C k87 w A2 l2.length l2) (m2 : l2.length ≤ c2) (h3 : Kd.C k97 w A3 l3.length l3) (m3 : l3.length ≤ c3) (s1 : smallE l1) (s2 : smallL l2) (s3 : smallS l3) :
    Calls Try.prog 19 #[.agg #[.int .i64 a0, .slice A1 l1.length c1, .slice A2 l2.length c2, .slice A3 l3.length c3]] w (PostCp w a0 l1 l2 l3) := by
  obtain ⟨k, hk⟩ := copy9 (a := a0) s1 s2 s3
  exact (catenaryref09_Copy.calls k a0 A1 c1 l1 A2 c2 l2 A3 c3 l3 a0 l1 l2 l3 w h1 m1 h2 m2 h3 m3 hk).mono fun _ _ h => ⟨h⟩

end Go.Proofs.Ytophfoenaekfjaa

namespace Go.Proofs.Ytophfoenaekfjaa
open Go.RowKit Go.Proofs.YtophfoenaekfjaaW.PrintWords Go.Proofs.YtophfoenaekfjaaW.PrintLast Go.Proofs.YtophfoenaekfjaaW.PrintMore Go.Proofs.Ytophfoenaekfjaa.PSnapEncodes
set_option linter.unusedVariables false
set_option linter.unusedSimpArgs false
structure okE (x : S72) : Prop where
  num : 1 ≤ x.f0.length ∧ x.f0.length ≤ 16 ∧ x.f1.length ≤ 64
theorem goodE_iff {l : List S72} : goodE l ↔ l.length ≤ 64 ∧ (∀ x ∈ l, okE x) ∧ Up l := by
  constructor
  · intro h
    refine ⟨h.1, fun x hx => ?_, up_sort.2 (sortN_of_goodE h)⟩
    obtain ⟨i, hi, rfl⟩ := List.getElem_of_mem hx
    have := (h.2 (i : Int) (by omega) (by omega)).num
    unfold rd_T72 at this
    rw [Int.toNat_natCast, List.getD_eq_getElem?_getD, List.getElem?_eq_getElem hi] at this
    exact ⟨this⟩
  · rintro ⟨h1, h2, h3⟩
    have hs := up_sort.1 h3
    refine ⟨h1, fun x h0 hx => ⟨?_, fun hp => ?_⟩⟩
    · exact (h2 _ (getD_mem' z72 (xs := l) (i := x.toNat) (by omega))).num
    · have := hs (x - 1).toNat x.toNat (by omega) (by rw [nm_len]; omega)
      rw [nm_at, nm_at] at this
      exact this
/-- An operation where all names lie above. -/
def headA (n : List Int) (t : List S72) : Act → List S72
  | .leave => t
  | .put v => ⟨n, v⟩ :: t
  | .del => t
def hitA (x : S72) (t : List S72) : Act → List S72
  | .leave => x :: t
  | .put v => ⟨x.f0, v⟩ :: t
  | .del => t
theorem ap_above {n : List Int} {t : List S72} (h : ∀ y ∈ t, lessB n y.f0 = true) (A : Act) : apE t n A = headA n t A := by
  cases A with
  | leave => rfl
  | put v => exact put_above v h
  | del => exact del_above h
theorem ap_lt {n : List Int} {x : S72} {t : List S72} (h : lessB x.f0 n = true) (A : Act) : apE (x :: t) n A = x :: apE t n A := by
  cases A with
  | leave => rfl
  | put v => show putE _ _ _ = _; rw [putE, if_pos h]; rfl
  | del => show delE _ _ = _; rw [delE, if_pos h]; rfl
theorem ap_hit {n : List Int} {x : S72} {t : List S72} (h : sameB x.f0 n = true) (A : Act) : apE (x :: t) n A = hitA x t A := by
  have hn : ¬ lessB x.f0 n = true := by rw [same_irr h]; simp
  cases A with
  | leave => rfl
  | put v => show putE _ _ _ = _; rw [putE, if_neg hn, if_pos h]; rfl
  | del => show delE _ _ = _; rw [delE, if_neg hn, if_pos h]; rfl
theorem head_comm {n m : List Int} (h : lessB n m = true) (t : List S72) (A B : Act) : apE (headA n t A) m B = headA n (apE t m B) A := by
  cases A with
  | leave => rfl
  | put v => exact ap_lt (x := ⟨n, v⟩) h B
  | del => rfl
theorem hit_comm {m : List Int} {x : S72} (h : lessB x.f0 m = true) (t : List S72) (A B : Act) : apE (hitA x t A) m B = hitA x (apE t m B) A := by
  cases A with
  | leave => exact ap_lt h B
  | put v => exact ap_lt (x := ⟨x.f0, v⟩) h B
  | del => rfl
theorem ap_names {n m : List Int} (h : lessB n m = true) {l : List S72} (hl : ∀ y ∈ l, lessB n y.f0 = true) (B : Act) : ∀ y ∈ apE l m B, lessB n y.f0 = true := by
  intro y hy
  cases B with
  | leave => exact hl y hy
  | put v =>
    rcases mem_put hy with rfl | e | ⟨z, hz, hs, rfl⟩
    · exact h
    · exact hl y e
    · exact hl z hz
  | del => exact hl y (mem_del hy)
theorem ap_comm {n m : List Int} (h : lessB n m = true) (A B : Act) : ∀ {l : List S72}, Up l → apE (apE l n A) m B = apE (apE l m B) n A
  | [], _ => by
    have hl : ∀ y ∈ ([] : List S72), lessB n y.f0 = true := by simp
    rw [ap_above hl, ap_above (ap_names h hl B), head_comm h]
  | x :: t, hu => by
    obtain ⟨hx, ht⟩ := List.pairwise_cons.1 hu
    rcases less_tri x.f0 n with e | e | e
    · rw [ap_lt e, ap_lt (less_trans e h), ap_lt (less_trans e h), ap_lt e, ap_comm h A B ht]
    · have e' : lessB x.f0 m = true := by rw [less_same e]; exact h
      rw [ap_hit e, hit_comm e', ap_lt e', ap_hit e]
    · have hl : ∀ y ∈ x :: t, lessB n y.f0 = true := by
        intro y hy
        rcases List.mem_cons.1 hy with rfl | hy
        · exact e
        · exact less_trans e (hx y hy)
      rw [ap_above hl, ap_above (ap_names h hl B), head_comm h]
theorem ap_comm' {n m : List Int} (h : sameB n m = false) (A B : Act) {l : List S72} (hu : Up l) : apE (apE l n A) m B = apE (apE l m B) n A := by
  rcases less_tri n m with e | e | e
  · exact ap_comm e A B hu
  · rw [h] at e; cases e
  · exact (ap_comm e B A hu).symm
theorem get_ap_ne {n m : List Int} (h : sameB n m = false) (A : Act) {l : List S72} (hu : Up l) : getE (apE l n A) m = getE l m := by
  cases A with
  | leave => rfl
  | put v => exact get_put_ne v h l
  | del => exact get_del_ne h hu
theorem up_ap (n : List Int) (A : Act) {l : List S72} (hu : Up l) : Up (apE l n A) := by
  cases A with
  | leave => exact hu
  | put v => exact up_put hu
  | del => exact up_del hu
theorem len_ap (n : List Int) (A : Act) (l : List S72) : (apE l n A).length ≤ l.length + 1 := by
  cases A with
  | leave => exact Nat.le_succ _
  | put v => show (putE l n v).length ≤ _; rw [len_put]; split <;> omega
  | del => have := len_del n l; exact Nat.le_succ_of_le this
open Classical in
noncomputable def actE (l : List S72) (k : Int) (n a b : List Int) (num : Int) : Act × S45 :=
  if goodE l ∧ goodO k n a b num ∧ k ≤ 4 then stepE (getE l n) (decide (l.length = 64)) k a b else (.leave, ⟨5, []⟩)
theorem kvDo_eq (l : List S72) (k : Int) (n a b : List Int) (num : Int) : kvDo l k n a b num = (apE l n (actE l k n a b num).1, (actE l k n a b num).2) := by
  unfold kvDo actE
  split
  · exact kvOp_eq l k n a b
  · rfl
theorem act_of {l l' : List S72} {k : Int} {n a b : List Int} {num : Int} (h : goodE l) (h' : goodE l') (h1 : l.length ≠ 64) (h2 : l'.length ≠ 64) (hg : getE l' n = getE l n) : actE l' k n a b num = actE l k n a b num := by
  unfold actE
  rw [hg, decide_eq_false h1, decide_eq_false h2]
  by_cases c : goodO k n a b num ∧ k ≤ 4
  · rw [if_pos ⟨h', c⟩, if_pos ⟨h, c⟩]
  · rw [if_neg (fun q => c q.2), if_neg (fun q => c q.2)]
theorem good_kv {l : List S72} (h : goodE l) (k : Int) (n a b : List Int) (num : Int) : goodE (kvDo l k n a b num).1 := by
  by_cases c : goodE l ∧ goodO k n a b num ∧ k ≤ 4
  · rw [kvDo_eq]
    have hn := c.2.1.name
    obtain ⟨g1, g2, g3⟩ := goodE_iff.1 h
    have hput : ∀ v : List Int, v.length ≤ 64 → (putE l n v).length ≤ 64 → goodE (putE l n v) := by
      intro v hv hl
      refine goodE_iff.2 ⟨hl, fun y hy => ?_, up_put g3⟩
      rcases mem_put hy with rfl | e | ⟨z, hz, hs, rfl⟩
      · exact ⟨by show 1 ≤ n.length ∧ n.length ≤ 16 ∧ v.length ≤ 64; omega⟩
      · exact g2 y e
      · have := (g2 z hz).num
        exact ⟨by show 1 ≤ z.f0.length ∧ z.f0.length ≤ 16 ∧ v.length ≤ 64; omega⟩
    have hdel : goodE (delE l n) := goodE_iff.2 ⟨Nat.le_trans (len_del n l) g1, fun y hy => g2 y (mem_del hy), up_del g3⟩
    unfold actE
    rw [if_pos c]
    cases hg : getE l n with
    | none =>
      unfold stepE
      simp only
      by_cases h2 : k = 2
      · rw [if_pos h2]
        by_cases h64 : l.length = 64
        · rw [decide_eq_true h64]; exact h
        · rw [decide_eq_false h64]
          exact hput a hn.2.2.1 (by rw [len_put, hg]; simp; omega)
      · rw [if_neg h2]; exact h
    | some v =>
      have hp : ∀ u, (putE l n u).length ≤ 64 := fun u => by rw [len_put, hg]; simp; omega
      unfold stepE
      simp only
      by_cases h1 : k = 1
      · rw [if_pos h1]; exact h
      · rw [if_neg h1]
        by_cases h2 : k = 2
        · rw [if_pos h2]; exact hput a hn.2.2.1 (hp a)
        · rw [if_neg h2]
          by_cases h3 : k = 3
          · rw [if_pos h3]
            by_cases hs : sameB v a = false
            · rw [if_pos hs]; exact h
            · rw [if_neg hs]; exact hput b hn.2.2.2 (hp b)
          · rw [if_neg h3]; exact hdel
  · rw [kvDo_bad c]; exact h
theorem len_kv (l : List S72) (k : Int) (n a b : List Int) (num : Int) : (kvDo l k n a b num).1.length ≤ l.length + 1 := by
  rw [kvDo_eq]; exact len_ap _ _ _
/-- Operations at unlike names commute. -/
theorem kv_comm {l : List S72} (h : goodE l) (h62 : l.length ≤ 62) {k k' : Int} {n m a a' b b' : List Int} {num num' : Int} (hne : sameB n m = false) :
    (kvDo (kvDo l k n a b num).1 k' m a' b' num').1 = (kvDo (kvDo l k' m a' b' num').1 k n a b num).1 ∧ (kvDo l k n a b num).2 = (kvDo (kvDo l k' m a' b' num').1 k n a b num).2 ∧ (kvDo (kvDo l k n a b num).1 k' m a' b' num').2 = (kvDo l k' m a' b' num').2 := by
  have hu := (goodE_iff.1 h).2.2
  have g1 := good_kv h k n a b num
  have g2 := good_kv h k' m a' b' num'
  have l1 := len_kv l k n a b num
  have l2 := len_kv l k' m a' b' num'
  have e1 : (kvDo l k n a b num).1 = apE l n (actE l k n a b num).1 := by rw [kvDo_eq]
  have e2 : (kvDo l k' m a' b' num').1 = apE l m (actE l k' m a' b' num').1 := by rw [kvDo_eq]
  have a1 : actE (kvDo l k n a b num).1 k' m a' b' num' = actE l k' m a' b' num' := act_of h g1 (by omega) (by omega) (by rw [e1]; exact get_ap_ne hne _ hu)
  have a2 : actE (kvDo l k' m a' b' num').1 k n a b num = actE l k n a b num := act_of h g2 (by omega) (by omega) (by rw [e2]; exact get_ap_ne (by rw [same_comm]; exact hne) _ hu)
  rw [kvDo_eq (kvDo l k n a b num).1, kvDo_eq (kvDo l k' m a' b' num').1, a1, a2]
  refine ⟨?_, by rw [kvDo_eq l k n a b num], by rw [kvDo_eq l k' m a' b' num']⟩
  rw [e1, e2]
  exact ap_comm' hne _ _ hu
/-- What a get sees behind an operation. -/
theorem kv_after {l : List S72} (h : goodE l) {k : Int} {n a b : List Int} {num : Int} :
    (k = 2 → (kvDo l k n a b num).2.f0 = 0 → (kvDo (kvDo l k n a b num).1 1 n [] [] 0).2 = ⟨0, a⟩) ∧ (k = 3 → (kvDo l k n a b num).2.f0 = 0 → (kvDo (kvDo l k n a b num).1 1 n [] [] 0).2 = ⟨0, b⟩) ∧ (k = 4 → (kvDo l k n a b num).2.f0 ≠ 5 → (kvDo (kvDo l k n a b num).1 1 n [] [] 0).2.f0 = 1) := by
  by_cases c : goodE l ∧ goodO k n a b num ∧ k ≤ 4
  · have hg' := good_kv h k n a b num
    have hn := c.2.1.name
    have cg : goodE (kvDo l k n a b num).1 ∧ goodO 1 n [] [] 0 ∧ (1 : Int) ≤ 4 := ⟨hg', ⟨by omega, ⟨hn.1, hn.2.1, by simp, by simp⟩, .inl rfl, .inl rfl, .inr ⟨by omega, rfl⟩⟩, by omega⟩
    have ey : (kvDo (kvDo l k n a b num).1 1 n [] [] 0).2 = (stepE (getE (kvDo l k n a b num).1 n) (decide ((kvDo l k n a b num).1.length = 64)) 1 [] []).2 := by
      rw [kvDo_eq (kvDo l k n a b num).1]; unfold actE; rw [if_pos cg]
    rw [ey]
    have e1 : (kvDo l k n a b num).1 = apE l n (actE l k n a b num).1 := by rw [kvDo_eq]
    have e2 : (kvDo l k n a b num).2 = (actE l k n a b num).2 := by rw [kvDo_eq]
    have ea : actE l k n a b num = stepE (getE l n) (decide (l.length = 64)) k a b := by unfold actE; rw [if_pos c]
    rw [e1, e2, ea]
    have hu := (goodE_iff.1 h).2.2
    have hs : ∀ v full, (stepE (some v) full 1 [] []).2 = ⟨0, v⟩ := fun v full => rfl
    refine ⟨?_, ?_, ?_⟩
    · rintro rfl
      cases hg : getE l n with
      | none =>
        cases decide (l.length = 64) with
        | true => intro hh; exact absurd hh (by show ¬ ((3 : Int) = 0); decide)
        | false => intro _; show (stepE (getE (putE l n a) n) _ 1 [] []).2 = _; rw [get_put]; rfl
      | some v => intro _; show (stepE (getE (putE l n a) n) _ 1 [] []).2 = _; rw [get_put]; rfl
    · rintro rfl
      cases hg : getE l n with
      | none => intro hh; exact absurd (show (1 : Int) = 0 from hh) (by decide)
      | some v =>
        cases hv : sameB v a with
        | false =>
          have : stepE (some v) (decide (l.length = 64)) 3 a b = (.leave, ⟨2, v⟩) := by unfold stepE; simp [hv]
          rw [this]; intro hh; exact absurd (show (2 : Int) = 0 from hh) (by decide)
        | true =>
          have : stepE (some v) (decide (l.length = 64)) 3 a b = (.put b, ⟨0, []⟩) := by unfold stepE; simp [hv]
          rw [this]; intro _; show (stepE (getE (putE l n b) n) _ 1 [] []).2 = _; rw [get_put]; rfl
    · rintro rfl
      cases hg : getE l n with
      | none =>
        intro _
        show (stepE (getE l n) _ 1 [] []).2.f0 = _
        rw [hg]; rfl
      | some v => intro _; show (stepE (getE (delE l n) n) _ 1 [] []).2.f0 = _; rw [get_del hu]; rfl
  · rw [kvDo_bad c]
    exact ⟨fun _ hh => absurd (show (5 : Int) = 0 from hh) (by decide), fun _ hh => absurd (show (5 : Int) = 0 from hh) (by decide), fun _ hh => absurd rfl hh⟩
/-- The place of a name, and its value. -/
theorem find_get {l : List S72} (h : goodE l) {n : List Int} {r : Int} (hr : FindR (nm l) n r) : (getE l n = none ∧ r = -1) ∨ (getE l n = some (rd_T72 l r).f1 ∧ 0 ≤ r ∧ r < l.length) := by
  have hs := sortN_of_goodE h
  have e := hr.sorted hs
  rw [getE_eq]
  cases hf : fdN (nm l) n with
  | false => left; rw [hf] at e; exact ⟨by simp, by simpa using e⟩
  | true =>
    right
    rw [hf, if_pos rfl] at e
    have hl : lbN (nm l) n < (nm l).length := by
      unfold fdN at hf
      rw [Bool.and_eq_true, decide_eq_true_eq] at hf
      exact hf.1
    rw [nm_len] at hl
    subst e
    refine ⟨?_, by omega, by omega⟩
    rw [if_pos rfl]
    unfold rd_T72
    rw [Int.toNat_natCast]
theorem kv_get_ne {l : List S72} (h : goodE l) {k : Int} {n m a b : List Int} {num : Int} (hne : sameB n m = false) : getE (kvDo l k n a b num).1 m = getE l m := by
  rw [kvDo_eq]; exact get_ap_ne hne _ (goodE_iff.1 h).2.2

end Go.Proofs.Ytophfoenaekfjaa

namespace Go.Proofs.Ytophfoenaekfjaa
open Go.ChangeShapes Go.WideShapes Go.RowKit Go.Proofs.YtophfoenaekfjaaW.PrintWords Go.Proofs.YtophfoenaekfjaaW.PrintLast Go.Proofs.YtophfoenaekfjaaW.PrintMore Go.Proofs.Ytophfoenaekfjaa.PSnapEncodes
set_option linter.unusedVariables false
set_option linter.unusedSimpArgs false

/-- A value of type t, wherever it reads as data, is one of kind K; Q: what its bulk bounds. -/
def Rdg {α : Type} (K : Kd α) (t : TypeId) (Q : α → Nat → Prop) : Prop :=
  ∀ {H : Type} (enc : TypeId × Value → H) (w : World) (base : Nat) (spare : Nat → Bool) (held : Bool) (fuel : Nat) (cs : List Value) (x : DataW H × List MemPlace),
    DataW.trod enc Try.prog w base spare held fuel t cs = some x → ∃ v, K.K w v cs ∧ Q v (Rows.uptoBulk x.1)
def Mono {α : Type} (Q : α → Nat → Prop) : Prop := ∀ x a b, a ≤ b → Q x a → Q x b
theorem bulk_one {H : Type} (d : DataW H) : 1 ≤ Rows.uptoBulk d := by
  cases d with
  | lit l => cases l <;> simp [Rows.uptoBulk]
  | nil => simp [Rows.uptoBulk]
  | ptr d => simp [Rows.uptoBulk]
  | slice elems spare => simp [Rows.uptoBulk]
  | agg parts => simp [Rows.uptoBulk]
  | iface t d => simp [Rows.uptoBulk]
  | map entries => simp [Rows.uptoBulk]
  | held h => simp [Rows.uptoBulk]
theorem bulk_part {H : Type} {d : DataW H} {l : List (DataW H)} (h : d ∈ l) : Rows.uptoBulk d ≤ Rows.uptoBulkAll l := by
  induction l with
  | nil => cases h
  | cons x r ih =>
    simp only [Rows.uptoBulkAll]
    cases List.mem_cons.1 h with
    | inl e => subst e; omega
    | inr e => have := ih e; omega
theorem bulk_len {H : Type} (l : List (DataW H)) : l.length ≤ Rows.uptoBulkAll l := by
  induction l with
  | nil => simp [Rows.uptoBulkAll]
  | cons x r ih => have := bulk_one x; simp only [Rows.uptoBulkAll, List.length_cons]; omega
theorem bulk_agg {H : Type} {parts : List (DataW H)} {d : DataW H} (h : d ∈ parts) : Rows.uptoBulk d ≤ Rows.uptoBulk (.agg parts) := by
  have := bulk_part h
  simp only [Rows.uptoBulk]
  omega
theorem bulk_elem {H : Type} {elems spare : List (DataW H)} {d : DataW H} (h : d ∈ elems) : Rows.uptoBulk d ≤ Rows.uptoBulk (.slice elems spare) := by
  have := bulk_part h
  simp only [Rows.uptoBulk]
  omega
theorem list_2 {α : Type} : ∀ {l : List α}, l.length = 2 → ∃ a b, l = [a, b]
  | [a, b], _ => ⟨a, b, rfl⟩
theorem list_3 {α : Type} : ∀ {l : List α}, l.length = 3 → ∃ a b c, l = [a, b, c]
  | [a, b, c], _ => ⟨a, b, c, rfl⟩
theorem list_4 {α : Type} : ∀ {l : List α}, l.length = 4 → ∃ a b c d, l = [a, b, c, d]
  | [a, b, c, d], _ => ⟨a, b, c, d, rfl⟩
theorem addr_add (a : Addr) (x y : Nat) : (a.add x).add y = a.add (x + y) := by
  unfold Addr.add
  by_cases h1 : x = 0 <;> by_cases h2 : y = 0 <;> simp [h1, h2, Nat.add_assoc]
theorem rdg_int : Rdg (Kd.int .i64) 3 (fun n _ => -9223372036854775808 ≤ n ∧ n ≤ 9223372036854775807) := by
  intro H enc w base spare held fuel cs x h
  obtain ⟨n, rfl, rfl, hw⟩ := DataW.trod_int Try.underlying3 h
  refine ⟨n, rfl, ?_⟩
  simp only [Lit.wf, Bool.and_eq_true, decide_eq_true_eq] at hw
  exact hw
theorem rdg_byte : Rdg (Kd.int .u8) 5 (fun n _ => 0 ≤ n ∧ n ≤ 255) := by
  intro H enc w base spare held fuel cs x h
  obtain ⟨n, rfl, rfl, hw⟩ := DataW.trod_int Try.underlying5 h
  refine ⟨n, rfl, ?_⟩
  simp only [Lit.wf, Bool.and_eq_true, decide_eq_true_eq] at hw
  exact hw
theorem rdg_slice {α : Type} {d : Kd α} {t e : TypeId} {Q : α → Nat → Prop} (ht : Try.prog.underlying t = some (.slice e)) (hsz : Try.prog.cellsOf e = d.sz) (h : Rdg d e Q) (hQ : Mono Q) :
    Rdg (Kd.slice e d) t (fun xs b => xs.length ≤ b ∧ ∀ x ∈ xs, Q x b) := by
  intro H enc w base spare held fuel cs x hx
  rcases DataW.trod_slice ht hx with ⟨rfl, rfl⟩ | ⟨a, len, cap, elems, rest, n, _, rfl, rfl, hb, hl, hm, hlen, hel, _, _⟩
  · exact ⟨[], ⟨none, 0, rfl, Nat.le_refl _, Kd.C_nil _ _⟩, by simp, by simp⟩
  · have each : ∀ i, i < len → ∃ v, ∃ c, c.length = d.sz ∧ d.K w v c ∧ (∀ j u, c[j]? = some u → w.cell? (a.add (i * d.sz + j)) = some u) ∧ Q v (Rows.uptoBulk (DataW.slice (elems.map (·.1)) (rest.map (·.1)))) := by
      intro i hi
      have hi' : i < elems.length := by omega
      have h1 := hel i hi
      rw [List.getElem?_eq_getElem hi', Option.bind_eq_some_iff] at h1
      obtain ⟨c, hc, hd⟩ := h1
      obtain ⟨_, hcl, hcell⟩ := World.cells?_some hc
      obtain ⟨v, hk, hq⟩ := h enc w base spare held n c _ hd
      refine ⟨v, c, by rw [hcl, hsz], hk, fun j u hj => ?_, hQ _ _ _ (bulk_elem (List.mem_map.2 ⟨_, List.getElem_mem hi', rfl⟩)) hq⟩
      have hjl : j < c.length := (List.getElem?_eq_some_iff.1 hj).1
      have := hcell j (by omega)
      rw [hsz] at this
      rw [addr_add] at this
      rw [← hj, ← this]
    have ex : ∃ xs : List α, xs.length = len ∧ ∀ (i : Nat) (p : α), xs[i]? = some p → ∃ c, c.length = d.sz ∧ d.K w p c ∧ (∀ j u, c[j]? = some u → w.cell? (a.add (i * d.sz + j)) = some u) ∧ Q p (Rows.uptoBulk (DataW.slice (elems.map (·.1)) (rest.map (·.1)))) := by
      classical
      refine ⟨(List.range len).pmap (fun i hi => (each i hi).choose) (fun i hi => List.mem_range.1 hi), by simp, fun i p hp => ?_⟩
      obtain ⟨hil, hpe⟩ := List.getElem?_eq_some_iff.1 hp
      have hil2 : i < len := by simpa using hil
      have : p = (each i hil2).choose := by rw [← hpe]; simp
      rw [this]
      exact (each i hil2).choose_spec
    obtain ⟨xs, hxl, hxs⟩ := ex
    have hmax : len ≤ 9223372036854775807 := by simp [maxLen] at hm; omega
    refine ⟨xs, ⟨some a, cap, by rw [hxl], by omega, rfl, by omega, fun _ => ⟨a, rfl, fun j p hj => ?_⟩⟩, ?_, fun y hy => ?_⟩
    · obtain ⟨c, h1, h2, h3, _⟩ := hxs j p hj
      exact ⟨c, h1, h2, h3⟩
    · have := bulk_len (elems.map (·.1))
      rw [List.length_map] at this
      simp only [Rows.uptoBulk]
      omega
    · obtain ⟨i, hi⟩ := List.getElem?_of_mem hy
      obtain ⟨_, _, _, _, hq⟩ := hxs i y hi
      exact hq
def QB (l : List Int) (b : Nat) : Prop := l.length ≤ b ∧ ∀ x ∈ l, 0 ≤ x ∧ x ≤ 255
theorem mono_byte : Mono (fun (n : Int) (_ : Nat) => 0 ≤ n ∧ n ≤ 255) := fun _ _ _ _ h => h
theorem mono_B : Mono QB := fun _ _ _ h k => ⟨Nat.le_trans k.1 h, k.2⟩
theorem c5 : Try.prog.cellsOf 5 = 1 := by kernel_rfl
theorem c3 : Try.prog.cellsOf 3 = 1 := by kernel_rfl
theorem c29 : Try.prog.cellsOf 29 = 1 := by kernel_rfl
theorem c72 : Try.prog.cellsOf 72 = 2 := by kernel_rfl
theorem c87 : Try.prog.cellsOf 87 = 3 := by kernel_rfl
theorem c97 : Try.prog.cellsOf 97 = 4 := by kernel_rfl
theorem c45 : Try.prog.cellsOf 45 = 2 := by kernel_rfl
theorem c26 : Try.prog.cellsOf 26 = 4 := by kernel_rfl
theorem c22 : Try.prog.cellsOf 22 = 1 := by kernel_rfl
theorem c23 : Try.prog.cellsOf 23 = 1 := by kernel_rfl
theorem c24 : Try.prog.cellsOf 24 = 1 := by kernel_rfl
theorem rdg_bytes : Rdg (Kd.slice 5 (Kd.int .u8)) 29 QB := rdg_slice Try.underlying29 c5 rdg_byte mono_byte
def QE (x : S72) (b : Nat) : Prop := QB x.f0 b ∧ QB x.f1 b
def QL (x : S87) (b : Nat) : Prop := QB x.f0 b ∧ (-9223372036854775808 ≤ x.f1 ∧ x.f1 ≤ 9223372036854775807) ∧ (-9223372036854775808 ≤ x.f2 ∧ x.f2 ≤ 9223372036854775807)
def QR (x : S45) (b : Nat) : Prop := (-9223372036854775808 ≤ x.f0 ∧ x.f0 ≤ 9223372036854775807) ∧ QB x.f1 b
def QS (x : S97) (b : Nat) : Prop := (-9223372036854775808 ≤ x.f0 ∧ x.f0 ≤ 9223372036854775807) ∧ (-9223372036854775808 ≤ x.f1 ∧ x.f1 ≤ 9223372036854775807) ∧ QR x.f2 b
theorem mono_E : Mono QE := fun _ _ _ h k => ⟨mono_B _ _ _ h k.1, mono_B _ _ _ h k.2⟩
theorem mono_L : Mono QL := fun _ _ _ h k => ⟨mono_B _ _ _ h k.1, k.2⟩
theorem mono_R : Mono QR := fun _ _ _ h k => ⟨k.1, mono_B _ _ _ h k.2⟩
theorem mono_S : Mono QS := fun _ _ _ h k => ⟨k.1, k.2.1, mono_R _ _ _ h k.2.2⟩
theorem rdg_E : Rdg k72 72 QE := by
  intro H enc w base spare held fuel cs x h
  obtain ⟨xs, n, _, rfl, hl, hx, hf⟩ := DataW.trod_struct Try.underlying72 h
  rw [c72] at hl
  replace hx : xs.length = 2 := hx
  obtain ⟨x0, x1, rfl⟩ := list_2 hx
  obtain ⟨u0, u1, rfl⟩ := list_2 hl
  have h0 : DataW.trod enc Try.prog w base spare held n 29 (([u0, u1].drop 0).take (Try.prog.cellsOf 29)) = some x0 := hf 0 _ rfl
  rw [show (([u0, u1] : List Value).drop 0).take (Try.prog.cellsOf 29) = [u0] by rw [c29]; rfl] at h0
  obtain ⟨y0, k0, q0⟩ := rdg_bytes enc w base spare held n _ x0 h0
  have b0 : Rows.uptoBulk x0.1 ≤ Rows.uptoBulk (DataW.agg ([x0, x1].map (·.1))) := bulk_agg (by simp)
  have h1 : DataW.trod enc Try.prog w base spare held n 29 (([u0, u1].drop 1).take (Try.prog.cellsOf 29)) = some x1 := hf 1 _ rfl
  rw [show (([u0, u1] : List Value).drop 1).take (Try.prog.cellsOf 29) = [u1] by rw [c29]; rfl] at h1
  obtain ⟨y1, k1, q1⟩ := rdg_bytes enc w base spare held n _ x1 h1
  have b1 : Rows.uptoBulk x1.1 ≤ Rows.uptoBulk (DataW.agg ([x0, x1].map (·.1))) := bulk_agg (by simp)
  exact ⟨⟨y0, y1⟩, ⟨_, _, rfl, k0, k1⟩, ⟨mono_B _ _ _ b0 q0, mono_B _ _ _ b1 q1⟩⟩
theorem rdg_L : Rdg k87 87 QL := by
  intro H enc w base spare held fuel cs x h
  obtain ⟨xs, n, _, rfl, hl, hx, hf⟩ := DataW.trod_struct Try.underlying87 h
  rw [c87] at hl
  replace hx : xs.length = 3 := hx
  obtain ⟨x0, x1, x2, rfl⟩ := list_3 hx
  obtain ⟨u0, u1, u2, rfl⟩ := list_3 hl
  have h0 : DataW.trod enc Try.prog w base spare held n 29 (([u0, u1, u2].drop 0).take (Try.prog.cellsOf 29)) = some x0 := hf 0 _ rfl
  rw [show (([u0, u1, u2] : List Value).drop 0).take (Try.prog.cellsOf 29) = [u0] by rw [c29]; rfl] at h0
  obtain ⟨y0, k0, q0⟩ := rdg_bytes enc w base spare held n _ x0 h0
  have b0 : Rows.uptoBulk x0.1 ≤ Rows.uptoBulk (DataW.agg ([x0, x1, x2].map (·.1))) := bulk_agg (by simp)
  have h1 : DataW.trod enc Try.prog w base spare held n 3 (([u0, u1, u2].drop 1).take (Try.prog.cellsOf 3)) = some x1 := hf 1 _ rfl
  rw [show (([u0, u1, u2] : List Value).drop 1).take (Try.prog.cellsOf 3) = [u1] by rw [c3]; rfl] at h1
  obtain ⟨y1, k1, q1⟩ := rdg_int enc w base spare held n _ x1 h1
  have b1 : Rows.uptoBulk x1.1 ≤ Rows.uptoBulk (DataW.agg ([x0, x1, x2].map (·.1))) := bulk_agg (by simp)
  have h2 : DataW.trod enc Try.prog w base spare held n 3 (([u0, u1, u2].drop 2).take (Try.prog.cellsOf 3)) = some x2 := hf 2 _ rfl
  rw [show (([u0, u1, u2] : List Value).drop 2).take (Try.prog.cellsOf 3) = [u2] by rw [c3]; rfl] at h2
  obtain ⟨y2, k2, q2⟩ := rdg_int enc w base spare held n _ x2 h2
  have b2 : Rows.uptoBulk x2.1 ≤ Rows.uptoBulk (DataW.agg ([x0, x1, x2].map (·.1))) := bulk_agg (by simp)
  exact ⟨⟨y0, y1, y2⟩, ⟨_, _, rfl, k0, ⟨_, _, rfl, k1, k2⟩⟩, ⟨mono_B _ _ _ b0 q0, q1, q2⟩⟩
theorem rdg_R : Rdg k45 45 QR := by
  intro H enc w base spare held fuel cs x h
  obtain ⟨xs, n, _, rfl, hl, hx, hf⟩ := DataW.trod_struct Try.underlying45 h
  rw [c45] at hl
  replace hx : xs.length = 2 := hx
  obtain ⟨x0, x1, rfl⟩ := list_2 hx
  obtain ⟨u0, u1, rfl⟩ := list_2 hl
  have h0 : DataW.trod enc Try.prog w base spare held n 3 (([u0, u1].drop 0).take (Try.prog.cellsOf 3)) = some x0 := hf 0 _ rfl
  rw [show (([u0, u1] : List Value).drop 0).take (Try.prog.cellsOf 3) = [u0] by rw [c3]; rfl] at h0
  obtain ⟨y0, k0, q0⟩ := rdg_int enc w base spare held n _ x0 h0
  have b0 : Rows.uptoBulk x0.1 ≤ Rows.uptoBulk (DataW.agg ([x0, x1].map (·.1))) := bulk_agg (by simp)
  have h1 : DataW.trod enc Try.prog w base spare held n 29 (([u0, u1].drop 1).take (Try.prog.cellsOf 29)) = some x1 := hf 1 _ rfl
  rw [show (([u0, u1] : List Value).drop 1).take (Try.prog.cellsOf 29) = [u1] by rw [c29]; rfl] at h1
  obtain ⟨y1, k1, q1⟩ := rdg_bytes enc w base spare held n _ x1 h1
  have b1 : Rows.uptoBulk x1.1 ≤ Rows.uptoBulk (DataW.agg ([x0, x1].map (·.1))) := bulk_agg (by simp)
  exact ⟨⟨y0, y1⟩, ⟨_, _, rfl, k0, k1⟩, ⟨q0, mono_B _ _ _ b1 q1⟩⟩
theorem rdg_S : Rdg k97 97 QS := by
  intro H enc w base spare held fuel cs x h
  obtain ⟨xs, n, _, rfl, hl, hx, hf⟩ := DataW.trod_struct Try.underlying97 h
  rw [c97] at hl
  replace hx : xs.length = 3 := hx
  obtain ⟨x0, x1, x2, rfl⟩ := list_3 hx
  obtain ⟨u0, u1, u2, u3, rfl⟩ := list_4 hl
  have h0 : DataW.trod enc Try.prog w base spare held n 3 (([u0, u1, u2, u3].drop 0).take (Try.prog.cellsOf 3)) = some x0 := hf 0 _ rfl
  rw [show (([u0, u1, u2, u3] : List Value).drop 0).take (Try.prog.cellsOf 3) = [u0] by rw [c3]; rfl] at h0
  obtain ⟨y0, k0, q0⟩ := rdg_int enc w base spare held n _ x0 h0
  have b0 : Rows.uptoBulk x0.1 ≤ Rows.uptoBulk (DataW.agg ([x0, x1, x2].map (·.1))) := bulk_agg (by simp)
  have h1 : DataW.trod enc Try.prog w base spare held n 3 (([u0, u1, u2, u3].drop 1).take (Try.prog.cellsOf 3)) = some x1 := hf 1 _ rfl
  rw [show (([u0, u1, u2, u3] : List Value).drop 1).take (Try.prog.cellsOf 3) = [u1] by rw [c3]; rfl] at h1
  obtain ⟨y1, k1, q1⟩ := rdg_int enc w base spare held n _ x1 h1
  have b1 : Rows.uptoBulk x1.1 ≤ Rows.uptoBulk (DataW.agg ([x0, x1, x2].map (·.1))) := bulk_agg (by simp)
  have h2 : DataW.trod enc Try.prog w base spare held n 45 (([u0, u1, u2, u3].drop 2).take (Try.prog.cellsOf 45)) = some x2 := hf 2 _ rfl
  rw [show (([u0, u1, u2, u3] : List Value).drop 2).take (Try.prog.cellsOf 45) = [u2, u3] by rw [c45]; rfl] at h2
  obtain ⟨y2, k2, q2⟩ := rdg_R enc w base spare held n _ x2 h2
  have b2 : Rows.uptoBulk x2.1 ≤ Rows.uptoBulk (DataW.agg ([x0, x1, x2].map (·.1))) := bulk_agg (by simp)
  exact ⟨⟨y0, y1, y2⟩, ⟨_, _, rfl, k0, ⟨_, _, rfl, k1, k2⟩⟩, ⟨q0, q1, mono_R _ _ _ b2 q2⟩⟩

end Go.Proofs.Ytophfoenaekfjaa

namespace Go.Proofs.Ytophfoenaekfjaa
open Go.RowKit Go.Proofs.YtophfoenaekfjaaW.PrintWords Go.Proofs.YtophfoenaekfjaaW.PrintLast Go.Proofs.YtophfoenaekfjaaW.PrintMore Go.Proofs.Ytophfoenaekfjaa.PSnapEncodes
set_option linter.unusedVariables false
set_option linter.unusedSimpArgs false
open Go.Joins Go.ChangeShapes Go.WideShapes

theorem oneC' {a b : Value} (h : [a] = [b]) : a = b := by injection h
theorem bulkAll_mem' {H : Type} {d : DataW H} {ds : List (DataW H)} {N : Nat} (h : Rows.uptoBulkAll ds ≤ N) (hd : d ∈ ds) : Rows.uptoBulk d ≤ N := Nat.le_trans (bulk_part hd) h
theorem smallE_of' {l : List S72} {b : Nat} (h : l.length ≤ b ∧ ∀ x ∈ l, QE x b) (hb : b ≤ 1048576) : smallE l := ⟨by omega, fun x hx => by have := (h.2 x hx).1.1; have := (h.2 x hx).2.1; omega⟩
theorem list_5 {α : Type} : ∀ {l : List α}, l.length = 5 → ∃ a b c d e, l = [a, b, c, d, e]
  | [a, b, c, d, e], _ => ⟨a, b, c, d, e, rfl⟩
theorem c63 : Try.prog.cellsOf 63 = 5 := by kernel_rfl
/-- The bytes of a text are bytes. -/
def bytesB (l : List Int) : Prop := ∀ x ∈ l, 0 ≤ x ∧ x ≤ 255
structure OpIn (W : World) (v : Value) (k : Int) (A1 A2 A3 : Option Addr) (c1 c2 c3 : Nat) (n a b : List Int) (num : Int) : Prop where
  val : v = .agg #[.int .i64 k, .slice A1 n.length c1, .slice A2 a.length c2, .slice A3 b.length c3, .int .i64 num]
  kind : -9223372036854775808 ≤ k ∧ k ≤ 9223372036854775807
  h1 : CB W A1 n
  m1 : n.length ≤ c1
  h2 : CB W A2 a
  m2 : a.length ≤ c2
  h3 : CB W A3 b
  m3 : b.length ≤ c3
  num : -9223372036854775808 ≤ num ∧ num ≤ 9223372036854775807
  s1 : n.length ≤ 1048576
  s2 : a.length ≤ 1048576
  s3 : b.length ≤ 1048576
  w1 : bytesB n
  w2 : bytesB a
  w3 : bytesB b
set_option maxRecDepth 100000 in
theorem open_op {H : Type} {enc : TypeId × Value → H} {W : World} {base : Nat} {v : Value} {d : DataW H} {p : List MemPlace} (hv : Value.okWide Try.prog W .any base 63 v) (h : DataW.Trod enc Try.prog W 0 (fun _ => true) true 63 v d p) (hd : Rows.uptoBulk d ≤ 1048576) :
    ∃ k A1 A2 A3 c1 c2 c3 n a b num, OpIn W v k A1 A2 A3 c1 c2 c3 n a b num := by
  obtain ⟨cs, rfl, hsz⟩ := okWide_struct Try.underlying63 hv
  obtain ⟨cl⟩ := cs
  obtain ⟨u0, u1, u2, u3, u4, rfl⟩ := list_5 (show cl.length = 5 from hsz.trans c63)
  obtain ⟨fuel, hf0⟩ := h
  obtain ⟨xs, n, _, hxe, hl, hx, hf⟩ := DataW.trod_struct Try.underlying63 hf0
  replace hx : xs.length = 5 := hx
  obtain ⟨x0, x1, x2, x3, x4, rfl⟩ := list_5 hx
  obtain ⟨rfl, rfl⟩ := Prod.mk.inj hxe
  have g0 : DataW.trod enc Try.prog W 0 (fun _ => true) true n 3 ((([u0, u1, u2, u3, u4] : List Value).drop 0).take (Try.prog.cellsOf 3)) = some x0 := hf 0 _ rfl
  rw [c3, show (([u0, u1, u2, u3, u4] : List Value).drop 0).take 1 = [u0] from rfl] at g0
  have g1 : DataW.trod enc Try.prog W 0 (fun _ => true) true n 29 ((([u0, u1, u2, u3, u4] : List Value).drop 1).take (Try.prog.cellsOf 29)) = some x1 := hf 1 _ rfl
  rw [c29, show (([u0, u1, u2, u3, u4] : List Value).drop 1).take 1 = [u1] from rfl] at g1
  have g2 : DataW.trod enc Try.prog W 0 (fun _ => true) true n 29 ((([u0, u1, u2, u3, u4] : List Value).drop 2).take (Try.prog.cellsOf 29)) = some x2 := hf 2 _ rfl
  rw [c29, show (([u0, u1, u2, u3, u4] : List Value).drop 2).take 1 = [u2] from rfl] at g2
  have g3 : DataW.trod enc Try.prog W 0 (fun _ => true) true n 29 ((([u0, u1, u2, u3, u4] : List Value).drop 3).take (Try.prog.cellsOf 29)) = some x3 := hf 3 _ rfl
  rw [c29, show (([u0, u1, u2, u3, u4] : List Value).drop 3).take 1 = [u3] from rfl] at g3
  have g4 : DataW.trod enc Try.prog W 0 (fun _ => true) true n 3 ((([u0, u1, u2, u3, u4] : List Value).drop 4).take (Try.prog.cellsOf 3)) = some x4 := hf 4 _ rfl
  rw [c3, show (([u0, u1, u2, u3, u4] : List Value).drop 4).take 1 = [u4] from rfl] at g4
  obtain ⟨k, k0, q0⟩ := rdg_int enc W 0 _ _ n _ _ g0
  obtain ⟨y1, ⟨A1, c1, e1, m1, r1⟩, q1⟩ := rdg_bytes enc W 0 _ _ n _ _ g1
  obtain ⟨y2, ⟨A2, c2, e2, m2, r2⟩, q2⟩ := rdg_bytes enc W 0 _ _ n _ _ g2
  obtain ⟨y3, ⟨A3, c3, e3, m3, r3⟩, q3⟩ := rdg_bytes enc W 0 _ _ n _ _ g3
  obtain ⟨num, k4, q4⟩ := rdg_int enc W 0 _ _ n _ _ g4
  obtain rfl := oneC' k0
  obtain rfl := oneC' e1
  obtain rfl := oneC' e2
  obtain rfl := oneC' e3
  obtain rfl := oneC' k4
  have b1 : Rows.uptoBulk x1.1 ≤ 1048576 := Nat.le_trans (bulk_agg (by simp)) hd
  have b2 : Rows.uptoBulk x2.1 ≤ 1048576 := Nat.le_trans (bulk_agg (by simp)) hd
  have b3 : Rows.uptoBulk x3.1 ≤ 1048576 := Nat.le_trans (bulk_agg (by simp)) hd
  exact ⟨k, A1, A2, A3, c1, c2, c3, y1, y2, y3, num, rfl, q0, r1, m1, r2, m2, r3, m3, q4, Nat.le_trans q1.1 b1, Nat.le_trans q2.1 b2, Nat.le_trans q3.1 b3, q1.2, q2.2, q3.2⟩
structure EnIn (W : World) (v : Value) (A : Option Addr) (c : Nat) (l : List S72) : Prop where
  val : v = .slice A l.length c
  rd : Kd.C k72 W A l.length l
  le : l.length ≤ c
  sm : smallE l
set_option maxRecDepth 100000 in
theorem open_en {H : Type} {enc : TypeId × Value → H} {W : World} {base : Nat} {v : Value} {d : DataW H} {p : List MemPlace} (hv : Value.okWide Try.prog W .any base 22 v) (h : DataW.Trod enc Try.prog W 0 (fun _ => true) true 22 v d p) (hd : Rows.uptoBulk d ≤ 1048576) : ∃ A c l, EnIn W v A c l := by
  obtain ⟨a, len, cap, rfl⟩ := okWide_slice Try.underlying22 hv
  obtain ⟨n, hn⟩ := h
  obtain ⟨l, ⟨A, c, e, m, g⟩, q⟩ := rdg_slice Try.underlying22 c72 rdg_E mono_E enc W 0 _ _ n _ _ hn
  exact ⟨A, c, l, oneC' (show [Value.slice a len cap] = _ from e), g, m, smallE_of' q hd⟩
structure BtIn (W : World) (v : Value) (A : Option Addr) (c : Nat) (l : List Int) : Prop where
  val : v = .slice A l.length c
  rd : CB W A l
  le : l.length ≤ c
  wf : bytesB l
  sm : l.length ≤ 1048576
set_option maxRecDepth 100000 in
theorem open_bt {H : Type} {enc : TypeId × Value → H} {W : World} {base : Nat} {v : Value} {d : DataW H} {p : List MemPlace} (hv : Value.okWide Try.prog W .any base 29 v) (h : DataW.Trod enc Try.prog W 0 (fun _ => true) true 29 v d p) (hd : Rows.uptoBulk d ≤ 1048576) : ∃ A c l, BtIn W v A c l := by
  obtain ⟨a, len, cap, rfl⟩ := okWide_slice Try.underlying29 hv
  obtain ⟨n, hn⟩ := h
  obtain ⟨l, ⟨A, c, e, m, g⟩, q⟩ := rdg_bytes enc W 0 _ _ n _ _ hn
  exact ⟨A, c, l, oneC' (show [Value.slice a len cap] = _ from e), g, m, q.2, Nat.le_trans q.1 hd⟩
theorem ref07_Copy (A0 : Option Addr) (c0 : Nat) (l : List S72) (w : World) (h : Kd.C k72 w A0 l.length l) (hc : l.length ≤ c0) (hs : smallE l) : Calls Try.prog 37 #[.slice A0 l.length c0] w (PostE w l) :=
  (catenaryref07_Copy.calls _ A0 c0 l l w h hc (copy7 hs)).mono fun _ _ h => ⟨h⟩
/-- A block laid ahead of a call is there behind it. -/
theorem blk_up {W cur w' : World} {o : Obj} (h : Below (W.alloc o).heap.size (W.alloc o) cur) (hb : Below cur.heap.size cur w') : w'.heap[W.heap.size]? = some o := blk_below (blk_new W o) (below_step h hb)
theorem z45_0 {W : World} {g : Nat} (h : W.heap[g]? = some (.cells #[.int .i64 0, .slice none 0 0] 45 (0, 0))) : W.cell? ⟨g, 0, none⟩ = some (.int .i64 0) := (blk_cell h 0).trans rfl
theorem z45_1 {W : World} {g : Nat} (h : W.heap[g]? = some (.cells #[.int .i64 0, .slice none 0 0] 45 (0, 0))) : W.cell? ⟨g, 1, none⟩ = some (.slice none 0 0) := (blk_cell h 1).trans rfl
/-- What kv.Do left: the entries, the result in a block of its own. -/
structure DoneK (w1 : World) (r : List S72 × S45) (v7 v8 : Value) (wx : World) : Prop where
  mk ::
  out : ∃ A c g X rc, v7 = .slice A r.1.length c ∧ v8 = .pointer (some ⟨g, 0, none⟩) ∧ r.1.length ≤ c ∧ Kd.C k72 wx A r.1.length r.1 ∧ wx.heap[g]? = some (.cells #[.int .i64 r.2.f0, .slice X r.2.f1.length rc] 45 (0, 0)) ∧ CB wx X r.2.f1 ∧ Below w1.heap.size w1 wx
theorem done_fin {w1 W : World} {r : List S72 × S45} {g N base : Nat} {ok : Nat → Prop} {v rv : Value} (HZ : W.heap[g]? = some (.cells #[.int .i64 0, .slice none 0 0] 45 (0, 0))) (hg : w1.heap.size ≤ g) (hS : Kd.S k72 72 W base ok v r.1) (hO : OB W N rv r.2.f1) (hB : Below w1.heap.size w1 W) :
    DoneK w1 r v (.pointer (some ⟨g, 0, none⟩)) ((W.setCell ⟨g, 0, none⟩ (.int .i64 r.2.f0)).setCell ⟨g, 1, none⟩ rv) := by
  have h1 := blk_set HZ 0 (.int .i64 r.2.f0)
  obtain ⟨A, c, rfl, hc, hC⟩ := Kd.S_reads (Kd.S_set (Kd.S_set hS HZ (by decide) 0 (.int .i64 r.2.f0)) h1 (by decide) 1 rv)
  have ho : OB ((W.setCell ⟨g, 0, none⟩ (.int .i64 r.2.f0)).setCell ⟨g, 1, none⟩ rv) N rv r.2.f1 := ⟨Kd.R_set (Kd.R_set hO.out HZ (by decide) _ _) h1 (by decide) _ _⟩
  obtain ⟨X, rc, rfl, hx, hX⟩ := ho.reads
  exact ⟨A, c, g, X, rc, rfl, rfl, hc, hC, put2c HZ _ _, hX, below_set (below_set hB hg) hg⟩
theorem done_new {w1 W : World} {r : List S72 × S45} {N base : Nat} {ok : Nat → Prop} {v rv : Value} (hS : Kd.S k72 72 W base ok v r.1) (hO : OB W N rv r.2.f1) (hB : Below w1.heap.size w1 W) :
    DoneK w1 r v (.pointer (some ⟨W.heap.size, 0, none⟩)) (W.alloc (.cells #[.int .i64 r.2.f0, rv] 45)) := by
  have hn : Below W.heap.size W (W.alloc (.cells #[.int .i64 r.2.f0, rv] 45)) := below_alloc (Below.refl _ _) _
  obtain ⟨A, c, rfl, hc, hC⟩ := Kd.S_reads hS
  obtain ⟨X, rc, rfl, hx, hX⟩ := hO.reads
  exact ⟨A, c, _, X, rc, rfl, rfl, hc, Kd.C_below hC hn, blk_new _ _, Kd.C_below hX hn, below_alloc hB _⟩
theorem goodE_small {l : List S72} (h : goodE l) : l.length ≤ 1048576 ∧ ∀ x ∈ l, x.f0.length ≤ 1048576 ∧ x.f1.length ≤ 1048576 := by
  refine ⟨by have := h.1; omega, fun x hx => ?_⟩
  obtain ⟨i, hi, rfl⟩ := List.getElem_of_mem hx
  have := (h.2 (i : Int) (by omega) (by omega)).num
  unfold rd_T72 at this
  rw [Int.toNat_natCast, List.getD_eq_getElem?_getD, List.getElem?_eq_getElem hi] at this
  simp only [Option.getD_some] at this
  omega

end Go.Proofs.Ytophfoenaekfjaa

