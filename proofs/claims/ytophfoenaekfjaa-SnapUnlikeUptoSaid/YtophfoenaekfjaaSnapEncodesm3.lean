/- Parts of the proof of SnapEncodes: A text read from bytes. The bytes of a right state, in plain words, and how many they are. The reference's Encode makes a right state's bytes, and refuses any other; no condition. slices.Grow from nothing; no condition. slices.Concat of bytes; no condition beyond room for the result. octet.Bytes, octet.Pack; no condition beyond room for the result. -/
import Derived.Test.YtophfoenaekfjaaSnapEncodesm2
import Derived.Outline
namespace Go.Proofs.Ytophfoenaekfjaa
open Go.RowKit Go.Proofs.YtophfoenaekfjaaW.PrintWords Go.Proofs.YtophfoenaekfjaaW.PrintLast Go.Proofs.YtophfoenaekfjaaW.PrintMore Go.Proofs.Ytophfoenaekfjaa.PSnapEncodes
set_option linter.unusedVariables false
set_option linter.unusedSimpArgs false

theorem gi_ok : ∀ (l : List Int) (i : Nat) (n : Int) (m : Int) (k : Nat), gi l i n = some (m, k) → wfB l → 0 ≤ n → 0 ≤ m ∧ m ≤ 2147483647 ∧ i < k ∧ k ≤ i + l.length
  | [], _, _, _, _, h, _, _ => by simp [gi] at h
  | c :: t, i, n, m, k, h, hw, hn => by
    have hc := hw c (by simp)
    have hp : (0 : Int) ≤ c % 128 * 128 ^ i := Int.mul_nonneg (by omega) (Int.pow_nonneg (by decide))
    simp only [gi] at h
    split at h
    · cases h
    · split at h
      · split at h
        · cases h
        · rename_i hno
          injection h with h
          injection h with h1 h2
          subst h1; subst h2
          simp only [List.length_cons]
          refine ⟨by omega, by omega, by omega, by omega⟩
      · obtain ⟨a1, a2, a3, a4⟩ := gi_ok t (i + 1) _ m k h (fun x hx => hw x (by simp [hx])) (by omega)
        simp only [List.length_cons]
        exact ⟨a1, a2, by omega, by omega⟩
/-- What comes of a number read: the place goes on, or nothing was there. -/
theorem getI_cases {l : List Int} {a : Int} (hw : wfB l) : (∃ n nx : Int, getI l a = (n, nx, 0) ∧ 0 ≤ a ∧ 0 ≤ n ∧ n ≤ 2147483647 ∧ a < nx ∧ nx ≤ l.length) ∨ getI l a = (0, 0, 11) := by
  by_cases h : a < 0 ∨ (l.length : Int) < a
  · exact .inr (by unfold getI; rw [if_pos h])
  · rw [getI_in (by omega) (by omega)]
    cases hg : gi (l.drop a.toNat) 0 0 with
    | none => exact .inr rfl
    | some p =>
      obtain ⟨m, k⟩ := p
      obtain ⟨h1, h2, h3, h4⟩ := gi_ok _ _ _ _ _ hg (fun c hc => hw c (List.mem_of_mem_drop hc)) (by omega)
      rw [List.length_drop] at h4
      exact .inl ⟨m, a + k, rfl, by omega, h1, h2, by omega, by omega⟩
/-- The text at a place: it, the place behind it, the error. -/
def getB (l : List Int) (a most : Int) : List Int × Int × Int :=
  if (getI l a).2.2 = 0 ∧ (getI l a).1 ≤ most ∧ (getI l a).1 ≤ l.length - (getI l a).2.1 then ((l.drop (getI l a).2.1.toNat).take (getI l a).1.toNat, (getI l a).2.1 + (getI l a).1, 0) else ([], 0, 11)
theorem getB_cases {l : List Int} {a most : Int} (hw : wfB l) : (∃ (p : List Int) (nx : Int), getB l a most = (p, nx, 0) ∧ 0 ≤ a ∧ p.length ≤ most ∧ p.length ≤ 2147483647 ∧ wfB p ∧ a < nx ∧ nx ≤ l.length) ∨ getB l a most = ([], 0, 11) := by
  rcases getI_cases (a := a) hw with ⟨n, nx, h, h0, h1, h2, h3, h4⟩ | h
  · by_cases hc : n ≤ most ∧ n ≤ l.length - nx
    · refine .inl ⟨(l.drop nx.toNat).take n.toNat, nx + n, by unfold getB; rw [h]; exact if_pos ⟨rfl, hc.1, hc.2⟩, h0, ?_, ?_, fun c hcm => hw c (List.mem_of_mem_drop (List.mem_of_mem_take hcm)), by omega, by omega⟩
      all_goals (rw [List.length_take]; omega)
    · exact .inr (by unfold getB; rw [h]; exact if_neg (fun hh => hc ⟨hh.2.1, hh.2.2⟩))
  · exact .inr (by unfold getB; rw [h]; exact if_neg (fun hh => by simp at hh))
/-- A text read: it in new memory, the place, the error. -/
structure PostG (w : World) (r : List Int × Int × Int) (e : Ending) (w' : World) : Prop where
  mk ::
  out : ∃ v, e = .returned (.tuple #[v, .int .i64 r.2.1, .int .i64 r.2.2]) ∧ OB w' w.heap.size v r.1 ∧ Below w.heap.size w w'
set_option maxHeartbeats 4000000 in
set_option maxRecDepth 100000 in
theorem octet_GetBytes (A : Option Addr) (c : Nat) (l : List Int) (a most : Int) (w : World) (hr : CB w A l) (hc : l.length ≤ c) (hw : wfB l) (ha : -4611686018427387904 ≤ a ∧ a ≤ 4611686018427387904) (hL : l.length ≤ 137438953472) (hm : 0 ≤ most ∧ most ≤ 2147483647) :
    Calls Try.prog 113 #[.slice A l.length c, .int .i64 a, .int .i64 most] w (PostG w (getB l a most)) := by
  have HR := Aside0.mk hr
  have HW := Aside0.mk hw
  have HC := Aside0.mk hc
  clear hr hw
  go_enter Try.func113, Try.ntmps113
  go_wp2_with fail
  refine (octet_GetInt A c l a w HR.out hc HW.out ha (by omega)).mono ?_
  rintro e w1 ⟨rfl, hb⟩
  replace hb := hb.below
  have HB1 := Aside0.mk hb
  have HR1 := Aside0.mk (Kd.C_below HR.out hb)
  clear hb HR
  rcases getI_cases (a := a) HW.out with ⟨n, nx, h, h0, h1, h2, h3, h4⟩ | h
  · have HG := Aside0.mk h
    rw [h]
    clear h
    cases hq0 : decide (most < n) with
    | true =>
      have HE := Aside0.mk (show getB l a most = ([], 0, 11) by unfold getB; rw [HG.out]; exact if_neg (fun hh => by have := of_decide_eq_true hq0; have := hh.2.1; simp only at this; omega))
      go_wp2_with fail
      go_ret3
      rw [HE.out]
      exact ⟨_, rfl, OB_nil _ _, HB1.out⟩
    | false =>
      cases hq1 : decide ((l.length : Int) - nx < n) with
      | true =>
        have HE := Aside0.mk (show getB l a most = ([], 0, 11) by unfold getB; rw [HG.out]; exact if_neg (fun hh => by have := of_decide_eq_true hq1; have := hh.2.2; simp only at this; omega))
        go_wp2_with fail
        go_ret3
        rw [HE.out]
        exact ⟨_, rfl, OB_nil _ _, HB1.out⟩
      | false =>
        have h5 : n ≤ most := by have := of_decide_eq_false hq0; omega
        have h6 : n ≤ l.length - nx := by have := of_decide_eq_false hq1; omega
        have HE := Aside0.mk (show getB l a most = ((l.drop nx.toNat).take n.toNat, nx + n, 0) by unfold getB; rw [HG.out]; exact if_pos ⟨rfl, h5, h6⟩)
        obtain ⟨A1, c1, hcut, hc1, hC1⟩ := cut_lh (Kd.int .u8) 29 5 .i64 .i64 Try.underlying29 info5 A l c nx (nx + n) (by omega) (by omega) (by omega) HC.out
        have hr1 := hC1 w1 HR1.out
        rw [show nx + n - nx = n by omega] at hcut hc1 hr1
        obtain ⟨p, hp⟩ : ∃ p, (l.drop nx.toNat).take n.toNat = p := ⟨_, rfl⟩
        have hpl : p.length ≤ 2147483647 := by rw [← hp, List.length_take]; omega
        rw [hp] at hcut hc1 hr1 HE
        have HR2 := Aside0.mk hr1
        clear hr1 hC1 hp
        go_wp2_with fail
        refine (slices_Clone A1 c1 p w1 HR2.out (by omega)).mono ?_
        rintro e w2 ⟨v, rfl, ho, hb⟩
        have HO := Aside0.mk ho
        have HB2 := Aside0.mk (below_step HB1.out hb)
        have HS := Aside0.mk HB1.out.size
        clear ho hb
        go_wp2_with fail
        go_ret3
        rw [HE.out]
        exact ⟨_, rfl, OB.lower HO.out HS.out, HB2.out⟩
  · have HG := Aside0.mk h
    rw [h]
    clear h
    have HE := Aside0.mk (show getB l a most = ([], 0, 11) by unfold getB; rw [HG.out]; exact if_neg (fun hh => by simp at hh))
    go_wp2_with fail
    go_ret3
    rw [HE.out]
    exact ⟨_, rfl, OB_nil _ _, HB1.out⟩
set_option maxHeartbeats 4000000 in
set_option maxRecDepth 100000 in
theorem ref01_GetBytes (A : Option Addr) (c : Nat) (l : List Int) (a most : Int) (w : World) (hr : CB w A l) (hc : l.length ≤ c) (hw : wfB l) (ha : -4611686018427387904 ≤ a ∧ a ≤ 4611686018427387904) (hL : l.length ≤ 137438953472) (hm : 0 ≤ most ∧ most ≤ 2147483647) :
    Calls Try.prog 115 #[.slice A l.length c, .int .i64 a, .int .i64 most] w (PostG w (getB l a most)) := by
  have HR := Aside0.mk hr
  have HW := Aside0.mk hw
  have HC := Aside0.mk hc
  clear hr hw
  go_enter Try.func115, Try.ntmps115
  go_wp2_with fail
  refine (ref01_GetInt A c l a w HR.out hc HW.out ha (by omega)).mono ?_
  rintro e w1 ⟨rfl, hb⟩
  have HB1 := Aside0.mk hb
  have HR1 := Aside0.mk (Kd.C_below HR.out hb)
  clear hb HR
  rcases getI_cases (a := a) HW.out with ⟨n, nx, h, h0, h1, h2, h3, h4⟩ | h
  · have HG := Aside0.mk h
    rw [h]
    clear h
    cases hq0 : decide (most < n) with
    | true =>
      have HE := Aside0.mk (show getB l a most = ([], 0, 11) by unfold getB; rw [HG.out]; exact if_neg (fun hh => by have := of_decide_eq_true hq0; have := hh.2.1; simp only at this; omega))
      go_wp2_with fail
      go_ret3
      rw [HE.out]
      exact ⟨_, rfl, OB_nil _ _, HB1.out⟩
    | false =>
      cases hq1 : decide ((l.length : Int) - nx < n) with
      | true =>
        have HE := Aside0.mk (show getB l a most = ([], 0, 11) by unfold getB; rw [HG.out]; exact if_neg (fun hh => by have := of_decide_eq_true hq1; have := hh.2.2; simp only at this; omega))
        go_wp2_with fail
        go_ret3
        rw [HE.out]
        exact ⟨_, rfl, OB_nil _ _, HB1.out⟩
      | false =>
        have h5 : n ≤ most := by have := of_decide_eq_false hq0; omega
        have h6 : n ≤ l.length - nx := by have := of_decide_eq_false hq1; omega
        have HE := Aside0.mk (show getB l a most = ((l.drop nx.toNat).take n.toNat, nx + n, 0) by unfold getB; rw [HG.out]; exact if_pos ⟨rfl, h5, h6⟩)
        obtain ⟨A1, c1, hcut, hc1, hC1⟩ := cut_lh (Kd.int .u8) 29 5 .i64 .i64 Try.underlying29 info5 A l c nx (nx + n) (by omega) (by omega) (by omega) HC.out
        have hr1 := hC1 w1 HR1.out
        rw [show nx + n - nx = n by omega] at hcut hc1 hr1
        obtain ⟨p, hp⟩ : ∃ p, (l.drop nx.toNat).take n.toNat = p := ⟨_, rfl⟩
        have hpl : p.length ≤ 2147483647 := by rw [← hp, List.length_take]; omega
        rw [hp] at hcut hc1 hr1 HE
        have HR2 := Aside0.mk hr1
        clear hr1 hC1 hp
        have hS : w.heap.size ≤ w1.heap.size := HB1.out.size
        go_wp2_with (first | ((with_reducible refine gate_dst (N := 34) rfl ?_); refine ob_lit ([] : List Int) [] ?hg (N := 34) ?hd ?hr ?hi ?hm ?_; (case hd => rfl); (case hg => rfl); (case hr => first | (go_simp; done) | (go_simp; rfl)); (case hi => rfl); (case hm => simp); intro v2 w2 ho hb; have HO2 := Aside0.mk (OB.lower ho hS); have HB2 := Aside0.mk (below_step HB1.out hb); have HR3 := Aside0.mk (Kd.C_below HR2.out hb); have HS2 : w.heap.size ≤ w2.heap.size := HB2.out.size; clear ho hb) | ((with_reducible refine gate_builtin (b := .append) (xs := #[.tmp 34, .tmp 40]) rfl ?_); at_builtin; refine ob_append rfl (.tmp 34) (.tmp 40) rfl rfl rfl HO2.out HR3.out ?hb ?hl ?_; (case hb => exact HS2); (case hl => exact (by simp; omega)); intro v3 w3 ho hg hat; have HO3 := Aside0.mk ho; have HB3 := Aside0.mk (below_grown' HB2.out HO2.out HS2 hg); clear ho hg hat))
        go_ret3
        rw [HE.out]
        exact ⟨_, rfl, HO3.out, HB3.out⟩
  · have HG := Aside0.mk h
    rw [h]
    clear h
    have HE := Aside0.mk (show getB l a most = ([], 0, 11) by unfold getB; rw [HG.out]; exact if_neg (fun hh => by simp at hh))
    go_wp2_with fail
    go_ret3
    rw [HE.out]
    exact ⟨_, rfl, OB_nil _ _, HB1.out⟩

end Go.Proofs.Ytophfoenaekfjaa

namespace Go.Proofs.Ytophfoenaekfjaa
open Go.RowKit Go.Proofs.YtophfoenaekfjaaW.PrintWords Go.Proofs.YtophfoenaekfjaaW.PrintLast Go.Proofs.YtophfoenaekfjaaW.PrintMore Go.Proofs.Ytophfoenaekfjaa.PSnapEncodes
set_option linter.unusedVariables false
set_option linter.unusedSimpArgs false

def txt (l : List Int) : List Int := vint l.length ++ l
def itemE (e : S72) : List Int := txt e.f0 ++ txt e.f1
def itemL (e : S87) : List Int := txt e.f0 ++ nat [e.f1, e.f2]
def itemS (e : S97) : List Int := nat [e.f0, e.f1, e.f2.f0] ++ txt e.f2.f1
def encE (l : List S72) : List Int := l.flatMap itemE
def encL (l : List S87) : List Int := l.flatMap itemL
def encS (l : List S97) : List Int := l.flatMap itemS
/-- A state's bytes. -/
def encA (a0 : Int) (l1 : List S72) (l2 : List S87) (l3 : List S97) : List Int := nat [a0, l1.length] ++ encE l1 ++ nat [(l2.length : Int)] ++ encL l2 ++ nat [(l3.length : Int)] ++ encS l3
theorem fm_take {α : Type} (f : α → List Int) (z : α) {xs : List α} {x : Int} (h0 : 0 ≤ x) (h1 : x < xs.length) : (xs.take (x + 1).toNat).flatMap f = (xs.take x.toNat).flatMap f ++ f (xs.getD x.toNat z) := by
  have hl : x.toNat < xs.length := by omega
  have e : (x + 1).toNat = x.toNat + 1 := by omega
  rw [e, List.take_add_one, List.getElem?_eq_getElem hl, List.getD_eq_getElem?_getD, List.getElem?_eq_getElem hl, List.flatMap_append]
  simp
theorem fm_all {α : Type} (f : α → List Int) {xs : List α} {x : Int} (h1 : (xs.length : Int) ≤ x) : (xs.take x.toNat).flatMap f = xs.flatMap f := by
  rw [List.take_of_length_le (by omega)]
theorem txt_len {l : List Int} (h : l.length ≤ 64) : (txt l).length ≤ 69 := by
  have := vint_len5 l.length (by omega)
  unfold txt
  rw [List.length_append]
  omega
theorem itemE_len {l : List S72} {x : Int} (h : goodE1 l x) : (itemE (rd_T72 l x)).length ≤ 200 := by
  have := h.num
  have h1 := txt_len (l := (rd_T72 l x).f0) (by omega)
  have h2 := txt_len (l := (rd_T72 l x).f1) (by omega)
  unfold itemE
  rw [List.length_append]
  omega
theorem itemL_len {l : List S87} {x : Int} (h : goodL1 l x) : (itemL (rd_T87 l x)).length ≤ 200 := by
  have := h.num
  have h1 := txt_len (l := (rd_T87 l x).f0) (by omega)
  have h2 := nat_len [(rd_T87 l x).f1, (rd_T87 l x).f2] (fun y hy => by simp at hy; unfold okInt; rcases hy with rfl | rfl <;> omega)
  unfold itemL
  rw [List.length_append]
  simp only [List.length_cons, List.length_nil] at h2
  omega
theorem itemS_len {l : List S97} {x : Int} (h : goodS1 l x) : (itemS (rd_T97 l x)).length ≤ 200 := by
  have := h.num
  have h1 := txt_len (l := (rd_T97 l x).f2.f1) (by omega)
  have h2 := nat_len [(rd_T97 l x).f0, (rd_T97 l x).f1, (rd_T97 l x).f2.f0] (fun y hy => by simp at hy; unfold okInt; rcases hy with rfl | rfl | rfl <;> omega)
  unfold itemS
  rw [List.length_append]
  simp only [List.length_cons, List.length_nil] at h2
  omega
theorem goodS_len {l : List S97} (h : goodS l) : l.length ≤ 4 := by
  have key : ∀ n : Nat, n < l.length → (n : Int) + 1 ≤ (rd_T97 l (n : Int)).f0 := by
    intro n
    induction n with
    | zero => intro hn; have := (h 0 (by omega) (by omega)).num; simpa using this.1.1
    | succ n ih =>
      intro hn
      have h1 := ih (by omega)
      have h2 := (h ((n + 1 : Nat) : Int) (by omega) (by omega)).prev (by omega)
      have e : (((n + 1 : Nat) : Int)) - 1 = (n : Int) := by omega
      rw [e] at h2
      omega
  rcases Nat.lt_or_ge 4 l.length with h4 | h4
  · have h5 := key 4 h4
    have h6 := (h 4 (by omega) (by omega)).num
    have e : ((4 : Nat) : Int) = 4 := rfl
    rw [e] at h5
    omega
  · exact h4

end Go.Proofs.Ytophfoenaekfjaa

namespace Go.Proofs.Ytophfoenaekfjaa
open Go.RowKit Go.Proofs.YtophfoenaekfjaaW.PrintWords Go.Proofs.YtophfoenaekfjaaW.PrintLast Go.Proofs.YtophfoenaekfjaaW.PrintMore Go.Proofs.Ytophfoenaekfjaa.PSnapEncodes
set_option linter.unusedVariables false
set_option linter.unusedSimpArgs false

/-- A call that hands back a row of bytes of its own and an error's number. -/
structure PostEn (w : World) (good : Prop) (l : List Int) (e : Ending) (w' : World) : Prop where
  mk ::
  out : ∃ v b er, e = .returned (.tuple #[v, .int .i64 er]) ∧ OB w' w.heap.size v b ∧ Below w.heap.size w w' ∧ (good → b = l ∧ er = 0) ∧ (¬ good → b = [] ∧ er = 101)
theorem PostAp.from {w W : World} {base : Nat} {u : Value} {l : List Int} {e : Ending} {w' : World} (h : PostAp W base u l e w') (hb : Below w.heap.size w W) : PostAp w base u l e w' := by
  obtain ⟨v, he, ho, hg, hat⟩ := h.out
  exact ⟨v, he, ho, grown_trans hb hg, at_trans hb.size hat⟩
theorem ob_ne {w : World} {base : Nat} {v : Value} {l : List Int} (h : OB w base v l) {g : Nat} (hg : w.heap.size ≤ g) : some g ≠ v.ownBlock := fun e => by have := h.lt g e.symm; omega
theorem ob_ne_new {w w1 : World} {base : Nat} {u v : Value} {l : List Int} (_h : OB w1 base v l) (hat : v.ownBlock = u.ownBlock ∨ ∃ b, v.ownBlock = some b ∧ w.heap.size ≤ b) {g : Nat} (hg : g < w.heap.size) (hne : some g ≠ u.ownBlock) : some g ≠ v.ownBlock := by
  rcases hat with h | ⟨b, h, hb⟩
  · rw [h]; exact hne
  · rw [h]; intro e; injection e with e; omega
theorem _root_.Go.RowKit.Below.size' {w W : World} {o : Obj} (h : Below (w.heap.size + 1) (w.alloc o) W) : w.heap.size + 1 ≤ W.heap.size := by simpa using h.size
theorem lenacc {a t : List Int} {n : Nat} {K : Nat} (h : a.length ≤ K + 200 * n) (ht : t.length ≤ 69) (hn : n ≤ 1000) (hK : K ≤ 100000) : (a ++ t).length ≤ 137438953472 := by rw [List.length_append]; omega
theorem C_grown1 {k : IntKind} {W w1 : World} {g n : Nat} {xs : List Int} {row : Option Nat} (h : (Kd.int k).C W (some ⟨g, 0, none⟩) n xs) (hg : W.grownBy w1 row) (hne : some g ≠ row) : (Kd.int k).C w1 (some ⟨g, 0, none⟩) n xs :=
  ⟨h.1, h.2.1, fun hn => by
    obtain ⟨ad, e, hc⟩ := h.2.2 hn
    refine ⟨ad, e, fun j p hj => ?_⟩
    obtain ⟨c, hs, hr, hcell⟩ := hc j p hj
    refine ⟨c, hs, hr, fun i u hu => hg.cell (hcell i u hu) ?_⟩
    cases e
    rw [add_block]
    exact hne⟩
theorem C_lit2 (W X : World) (a b : Int) (hX : Below (W.heap.size + 1) (W.alloc (.cells #[.int .i64 a, .int .i64 b] 3)) X) : (Kd.int .i64).C X (some ⟨W.heap.size, 0, none⟩) 2 [a, b] :=
  ⟨rfl, by omega, fun _ => by
    obtain ⟨ad, e, hc⟩ := (C_litI W [a, b] (by simp)).2.2 (by simp)
    refine ⟨ad, e, fun j p hj => ?_⟩
    obtain ⟨c, hs, hr, hcell⟩ := hc j p hj
    refine ⟨c, hs, hr, fun i u hu => ?_⟩
    have h1 := hcell i u hu
    cases e
    exact (hX.cell (by rw [add_block]; exact Nat.lt_succ_self _)).trans h1⟩
/-- nums at a literal that was laid at W's end, ahead of an append that came to w1. -/
theorem nums2_late (base : Nat) (u v : Value) (l0 l1 : List Int) (a b : Int) (W X w1 : World) (hX : Below (W.heap.size + 1) (W.alloc (.cells #[.int .i64 a, .int .i64 b] 3)) X) (how : OB W base u l0) (hp : PostAp X base u l1 (.returned v) w1) (hB : base ≤ w1.heap.size) (hx : ∀ x ∈ [a, b], okInt x) (hl0 : l1.length ≤ 137438953472) :
    Calls Try.prog 70 #[v, .slice (some ⟨W.heap.size, 0, none⟩) 2 2] w1 (PostAp w1 base v (l1 ++ nat [a, b])) := by
  obtain ⟨v', he, ho, hg, hat⟩ := hp.out
  cases he
  have hne : some W.heap.size ≠ u.ownBlock := ob_ne how (Nat.le_refl _)
  have hs : W.heap.size < X.heap.size := by have := hX.size; simp at this; omega
  have hnv := ob_ne_new ho hat hs hne
  exact ref10_nums base v l1 _ 2 [a, b] w1 hB ho (C_grown1 (C_lit2 W X a b hX) hg hne) (by simp) hx (fun k hk ad e h => by cases e; rw [hk] at hnv; exact hnv (by rw [← h])) hl0
theorem nums_lit (base : Nat) (u : Value) (l0 xs : List Int) (W : World) (hB : base ≤ W.heap.size) (ho : OB W base u l0) (hl : xs.length ≤ 1000) (hx : ∀ x ∈ xs, okInt x) (hl0 : l0.length ≤ 137438953472) :
    Calls Try.prog 70 #[u, .slice (some ⟨W.heap.size, 0, none⟩) xs.length xs.length] (W.alloc (.cells (xs.map (Value.int .i64)).toArray 3)) (PostAp W base u (l0 ++ nat xs)) :=
  (ref10_nums base u l0 _ _ xs _ (by simp; omega) (ho.below (below_alloc (Below.refl _ _) _)) (C_litI W xs hl) hl hx (fun k hk ad e => by cases e; have := ho.lt k hk; exact fun h => by simp at h; omega) hl0).mono fun _ _ hp => hp.from (below_alloc (Below.refl _ _) _)
theorem C_litX (W X : World) (xs : List Int) (hm : xs.length ≤ 1000) (hX : Below (W.heap.size + 1) (W.alloc (.cells (xs.map (Value.int .i64)).toArray 3)) X) : (Kd.int .i64).C X (some ⟨W.heap.size, 0, none⟩) xs.length xs :=
  ⟨rfl, by omega, fun hn => by
    obtain ⟨ad, e, hc⟩ := (C_litI W xs hm).2.2 hn
    refine ⟨ad, e, fun j p hj => ?_⟩
    obtain ⟨c, hs, hr, hcell⟩ := hc j p hj
    refine ⟨c, hs, hr, fun i u hu => ?_⟩
    have h1 := hcell i u hu
    cases e
    exact (hX.cell (by rw [add_block]; exact Nat.lt_succ_self _)).trans h1⟩
theorem nums3_at (base : Nat) (u : Value) (l0 : List Int) (a b c : Int) (W X : World) (hX : Below (W.heap.size + 1) (W.alloc (.cells #[.int .i64 a, .int .i64 b, .int .i64 c] 3)) X) (hB : base ≤ W.heap.size) (ho : OB W base u l0) (hx : ∀ x ∈ [a, b, c], okInt x) (hl0 : l0.length ≤ 137438953472) :
    Calls Try.prog 70 #[u, .slice (some ⟨W.heap.size, 0, none⟩) 3 3] X (PostAp W base u (l0 ++ nat [a, b, c])) := by
  have hW : Below W.heap.size W X := (below_alloc (Below.refl _ W) _).trans (hX.mono (by omega))
  exact (ref10_nums base u l0 _ 3 [a, b, c] X (Nat.le_trans hB hW.size) (ho.below hW) (C_litX W X [a, b, c] (by simp) hX) (by simp) hx (fun k hk ad e h => by cases e; have := ho.lt k hk; simp at h; omega) hl0).mono fun _ _ hp => hp.from hW
theorem nums1 (base : Nat) (u : Value) (l0 : List Int) (a : Int) (W : World) (hB : base ≤ W.heap.size) (ho : OB W base u l0) (hx : ∀ x ∈ [a], okInt x) (hl0 : l0.length ≤ 137438953472) :
    Calls Try.prog 70 #[u, .slice (some ⟨W.heap.size, 0, none⟩) 1 1] (W.alloc (.cells #[.int .i64 a] 3)) (PostAp W base u (l0 ++ nat [a])) := nums_lit base u l0 [a] W hB ho (by simp) hx hl0
theorem nums2 (base : Nat) (u : Value) (l0 : List Int) (a b : Int) (W : World) (hB : base ≤ W.heap.size) (ho : OB W base u l0) (hx : ∀ x ∈ [a, b], okInt x) (hl0 : l0.length ≤ 137438953472) :
    Calls Try.prog 70 #[u, .slice (some ⟨W.heap.size, 0, none⟩) 2 2] (W.alloc (.cells #[.int .i64 a, .int .i64 b] 3)) (PostAp W base u (l0 ++ nat [a, b])) := nums_lit base u l0 [a, b] W hB ho (by simp) hx hl0
theorem nums3 (base : Nat) (u : Value) (l0 : List Int) (a b c : Int) (W : World) (hB : base ≤ W.heap.size) (ho : OB W base u l0) (hx : ∀ x ∈ [a, b, c], okInt x) (hl0 : l0.length ≤ 137438953472) :
    Calls Try.prog 70 #[u, .slice (some ⟨W.heap.size, 0, none⟩) 3 3] (W.alloc (.cells #[.int .i64 a, .int .i64 b, .int .i64 c] 3)) (PostAp W base u (l0 ++ nat [a, b, c])) := nums_lit base u l0 [a, b, c] W hB ho (by simp) hx hl0
set_option maxHeartbeats 4000000 in
set_option maxRecDepth 100000 in
theorem ref10_Encode (a0 : Int) (A1 A2 A3 : Option Addr) (c1 c2 c3 : Nat) (l1 : List S72) (l2 : List S87) (l3 : List S97) (w : World) (h1 : Kd.C k72 w A1 l1.length l1) (m1 : l1.length ≤ c1) (h2 : Kd.C k87 w A2 l2.length l2) (m2 : l2.length ≤ c2) (h3 : Kd.C k97 w A3 l3.length l3) (m3 : l3.length ≤ c3) :
    Calls Try.prog 21 #[.agg #[.int .i64 a0, .slice A1 l1.length c1, .slice A2 l2.length c2, .slice A3 l3.length c3]] w (PostEn w (goodA a0 l1 l2 l3) (encA a0 l1 l2 l3)) := by
  have H1 := Aside0.mk h1
  have H2 := Aside0.mk h2
  have H3 := Aside0.mk h3
  clear h1 h2 h3
  have HB := Aside0.mk (Below.refl (w.heap.size + 1) (w.alloc (.cells #[.int .i64 a0, .slice A1 l1.length c1, .slice A2 l2.length c2, .slice A3 l3.length c3] 26)))
  go_enter Try.func21, Try.ntmps21
  go_wp2_with fail
  refine (ref09_Right _ _ _ _ _ _ _ _ _ _ _ (C_old H1.out HB.out) m1 (C_old H2.out HB.out) m2 (C_old H3.out HB.out) m3).mono ?_
  rintro e w1 ⟨b, rfl, hb, hiff⟩
  have HB1 := Aside0.mk (HB.out.trans (hb.mono (by simp)))
  have HS1 : w.heap.size + 1 ≤ w1.heap.size := by simpa using HB1.out.size
  clear hb HB
  have HI := Aside0.mk hiff
  clear hiff
  have hb0 := box_cell HB1.out 0 _ rfl
  have hb1 := box_cell HB1.out 1 _ rfl
  have hb2 := box_cell HB1.out 2 _ rfl
  have hb3 := box_cell HB1.out 3 _ rfl
  cases b with
  | false =>
    go_wp2
    go_ret2
    exact ⟨_, [], 101, rfl, OB_nil _ _, below_of_alloc HB1.out, fun h => (by have := HI.out.2 h; cases this), fun _ => ⟨rfl, rfl⟩⟩
  | true =>
    have HG := Aside0.mk (HI.out.1 (by simp))
    have hl1 : l1.length ≤ 64 := HG.out.ent.1
    have hl2 : l2.length ≤ 16 := HG.out.lea.1
    have hl3 : l3.length ≤ 4 := goodS_len HG.out.ses
    have HX1 := Aside0.mk (show ∀ x ∈ [a0, (l1.length : Int)], okInt x from fun x hx => by have := HG.out.slot; simp at hx; unfold okInt; rcases hx with rfl | rfl <;> omega)
    have HX2 := Aside0.mk (show ∀ x ∈ [(l2.length : Int)], okInt x from fun x hx => by simp at hx; unfold okInt; omega)
    have HX3 := Aside0.mk (show ∀ x ∈ [(l3.length : Int)], okInt x from fun x hx => by simp at hx; unfold okInt; omega)
    have HN1 := Aside0.mk (nat_len _ HX1.out)
    clear HI
    go_wp2_with (first | ((with_reducible refine gate_dst (N := 14) rfl ?_); refine ob_lit ([] : List Int) [] ?hg (N := 14) ?hd ?hr ?hi ?hm ?_; (case hd => rfl); (case hg => rfl); (case hr => first | (go_simp; done) | (go_simp; rfl)); (case hi => rfl); (case hm => simp); intro v2 w2 ho hb; have HO2 := Aside0.mk (OB.lower ho HS1); have HB2 := Aside0.mk (HB1.out.trans (hb.mono HS1)); have HS2 : w.heap.size + 1 ≤ w2.heap.size := Nat.le_trans HS1 hb.size; clear ho hb hb0 hb1 hb2 hb3; have hb0 := box_cell HB2.out 0 _ rfl; have hb1 := box_cell HB2.out 1 _ rfl; have hb2 := box_cell HB2.out 2 _ rfl; have hb3 := box_cell HB2.out 3 _ rfl))
    refine (nums2 (w.heap.size + 1) v2 [] a0 l1.length w2 HS2 HO2.out HX1.out (by simp)).mono ?_
    rintro e w3 hp
    obtain ⟨v3, rfl, ho, hg, hat⟩ := hp.out
    have HB3 := Aside0.mk (below_grown' HB2.out HO2.out HS2 hg)
    have HS3 : w.heap.size + 1 ≤ w3.heap.size := Nat.le_trans HS2 hg.size
    obtain ⟨a3, ha3⟩ : ∃ ys : List Int, [] ++ nat [a0, (l1.length : Int)] = ys := ⟨_, rfl⟩
    rw [ha3] at ho
    have HO3 := Aside0.mk ho
    have HE3 := Aside0.mk ha3
    clear ho hg hat ha3 hp HB2 HO2 HS2 hb0 hb1 hb2 hb3
    have hb0 := box_cell HB3.out 0 _ rfl
    have hb1 := box_cell HB3.out 1 _ rfl
    have hb2 := box_cell HB3.out 2 _ rfl
    have hb3 := box_cell HB3.out 3 _ rfl
    have HL3 := Aside0.mk (show a3.length ≤ 1000 by rw [← HE3.out]; have := HN1.out; simp at this; simp; omega)
    clear HX1 HN1
    go_wp2
    go_loopw [4, 25] (fun v vi wr => ∃ x : Int, vi = .int .i64 x ∧ 0 ≤ x ∧ x ≤ l1.length ∧ Aside0 (OB wr (w.heap.size + 1) v (a3 ++ encE (l1.take x.toNat))) ∧ Aside0 ((a3 ++ encE (l1.take x.toNat)).length ≤ 1000 + 200 * x.toNat) ∧ Aside0 (Below (w.heap.size + 1) (w.alloc (.cells #[.int .i64 a0, .slice A1 l1.length c1, .slice A2 l2.length c2, .slice A3 l3.length c3] 26)) wr)) (fun _ vi _ => l1.length - (intOf vi).toNat)
    case atStart => exact ⟨0, rfl, by omega, by omega, ⟨by simpa [encE] using HO3.out⟩, ⟨by have := HL3.out; simp [encE]; omega⟩, HB3⟩
    case round =>
      clear HB3 HO3 HS3 hb0 hb1 hb2 hb3
      obtain ⟨x, rfl, h0, hi, HO, HLA, HB⟩ := hrel
      have HS : w.heap.size + 1 ≤ wr.heap.size := by simpa using HB.out.size
      have hb0 := box_cell HB.out 0 _ rfl
      have hb1 := box_cell HB.out 1 _ rfl
      have hb2 := box_cell HB.out 2 _ rfl
      have hb3 := box_cell HB.out 3 _ rfl
      by_cases hlt : x < l1.length
      · obtain ⟨ad, A, c, A', c', e1, hx0, hx1, hlc, hn, hlc2, hn2⟩ := at_T72 H1.out x h0 hlt
        subst e1
        replace hx0 := pw_cell_below (below_of_alloc HB.out) hx0
        replace hx1 := pw_cell_below (below_of_alloc HB.out) hx1
        have HN := Aside0.mk hn
        have HN2 := Aside0.mk hn2
        have HGE := Aside0.mk (HG.out.ent.2 x h0 hlt)
        have hlA : (rd_T72 l1 x).f0.length ≤ 16 := HGE.out.num.2.1
        have hlB : (rd_T72 l1 x).f1.length ≤ 64 := HGE.out.num.2.2
        have HT1 := Aside0.mk (txt_len (l := (rd_T72 l1 x).f0) (by omega))
        have hx9 : x.toNat ≤ 1000 := by omega
        clear hn hn2
        go_wp2_with fail
        have hg0 : (wr.alloc (.cells #[.slice A (rd_T72 l1 x).f0.length c, .slice A' (rd_T72 l1 x).f1.length c'] 72)).cell? ⟨wr.heap.size, 0, none⟩ = some (.slice A (rd_T72 l1 x).f0.length c) := (blk_cell (heap_alloc_new wr _) 0).trans rfl
        have hg1 : (wr.alloc (.cells #[.slice A (rd_T72 l1 x).f0.length c, .slice A' (rd_T72 l1 x).f1.length c'] 72)).cell? ⟨wr.heap.size, 1, none⟩ = some (.slice A' (rd_T72 l1 x).f1.length c') := (blk_cell (heap_alloc_new wr _) 1).trans rfl
        have HOW := Aside0.mk (HO.out.below (below_alloc (Below.refl _ wr) (.cells #[.slice A (rd_T72 l1 x).f0.length c, .slice A' (rd_T72 l1 x).f1.length c'] 72)))
        have HBW := Aside0.mk (below1_alloc HB.out (.cells #[.slice A (rd_T72 l1 x).f0.length c, .slice A' (rd_T72 l1 x).f1.length c'] 72) HS)
        have HSW : wr.heap.size + 1 ≤ (wr.alloc (.cells #[.slice A (rd_T72 l1 x).f0.length c, .slice A' (rd_T72 l1 x).f1.length c'] 72)).heap.size := by simp
        generalize wr.alloc (.cells #[.slice A (rd_T72 l1 x).f0.length c, .slice A' (rd_T72 l1 x).f1.length c'] 72) = W at hg0 hg1 HOW HBW HSW ⊢
        go_region_held3 (fun w' => w'.cell? ⟨wr.heap.size, 0, none⟩ = some (.slice A (rd_T72 l1 x).f0.length c) ∧ w'.cell? ⟨wr.heap.size, 1, none⟩ = some (.slice A' (rd_T72 l1 x).f1.length c')) (go_keep) (first | (go_at_call 71; (with_reducible refine (ref10_text (w.heap.size + 1) _ (a3 ++ encE (l1.take x.toNat)) A _ (rd_T72 l1 x).f0 _ ?hB ?ho ?hr ?hl ?hl0).mono ?_); (case hB => first | (simp; omega) | omega); (case ho => exact (HOW.out.below (by repeat (first | exact Below.refl _ _ | apply below_alloc | apply pw_below_drewN | apply below_drew)))); (case hr => exact (C_old HN.out (below1_drewN HBW.out 1))); (case hl => omega); (case hl0 => (have := HLA.out; omega)); rintro e w1 hp; obtain ⟨v1, rfl, ho, hg, hat⟩ := hp.out; have hs0 := hg.cell hg0 (ob_ne HO.out (Nat.le_refl _)); have hs1 := hg.cell hg1 (ob_ne HO.out (Nat.le_refl _)); have HB1 := Aside0.mk (below_grown' (below1_drewN HBW.out 1) (HOW.out.below (pw_below_drewN (Below.refl _ W) 1)) (Nat.le_trans HS (Nat.le_of_succ_le HSW)) hg); have hgs := hg.size; have HSV := Aside0.mk (ob_ne_new ho hat (show wr.heap.size < W.heap.size from HSW) (ob_ne HO.out (Nat.le_refl _))); have HO1 := Aside0.mk ho; clear ho hg hat) | (go_at_call 71; (with_reducible refine (ref10_text (w.heap.size + 1) _ _ A' _ (rd_T72 l1 x).f1 _ ?hB HO1.out ?hr ?hl ?hl0).mono ?_); (case hB => exact HB1.out.size'); (case hr => exact C_old HN2.out HB1.out); (case hl => omega); (case hl0 => exact lenacc HLA.out HT1.out hx9 (by omega)); rintro e w2 hp; obtain ⟨v2, rfl, ho, hg, hat⟩ := hp.out; have hs0 := hg.cell hs0 HSV.out; have hs1 := hg.cell hs1 HSV.out; have HB2 := Aside0.mk (below_grown' HB1.out HO1.out HB1.out.size' hg); have HO2 := Aside0.mk ho; clear ho hg hat))
        go_wp2
        go_roundw
        case rel => exact ⟨x + 1, by go_num, by omega, by omega, ⟨by rw [encE, fm_take itemE z72 h0 hlt, ← List.append_assoc]; exact (List.append_assoc _ _ _) ▸ HO2.out⟩, ⟨by rw [encE, fm_take itemE z72 h0 hlt, ← List.append_assoc, List.length_append]; have := HLA.out; have := itemE_len HGE.out; unfold encE at *; unfold rd_T72 at *; omega⟩, HB2⟩
        case measure => simp [intOf]; omega
      · have he := fm_all itemE (xs := l1) (x := x) (by omega)
        have hx9 : x ≤ l1.length := by omega
        replace HO := Aside0.mk (show OB wr (w.heap.size + 1) _ (a3 ++ encE l1) by have := HO.out; unfold encE at this; rw [he] at this; exact this)
        replace HLA := Aside0.mk (show (a3 ++ encE l1).length ≤ 1000 + 200 * x.toNat by have := HLA.out; unfold encE at this; rw [he] at this; exact this)
        clear he
        go_wp2_with fail
        refine (nums1 (w.heap.size + 1) _ _ (l2.length : Int) wr HS HO.out HX2.out (by have := HLA.out; omega)).mono ?_
        rintro e w4 hp
        obtain ⟨v4, rfl, ho, hg, hat⟩ := hp.out
        have HB4 := Aside0.mk (below_grown' HB.out HO.out HS hg)
        have HS4 : w.heap.size + 1 ≤ w4.heap.size := Nat.le_trans HS hg.size
        obtain ⟨a4, ha4⟩ : ∃ ys : List Int, (a3 ++ encE l1) ++ nat [(l2.length : Int)] = ys := ⟨_, rfl⟩
        rw [ha4] at ho
        have HO4 := Aside0.mk ho
        have HE4 := Aside0.mk ha4
        clear ho hg hat ha4 hp HB HO HS hb0 hb1 hb2 hb3
        have hb0 := box_cell HB4.out 0 _ rfl
        have hb1 := box_cell HB4.out 1 _ rfl
        have hb2 := box_cell HB4.out 2 _ rfl
        have hb3 := box_cell HB4.out 3 _ rfl
        have HL4 := Aside0.mk (show a4.length ≤ 20000 by rw [← HE4.out, List.length_append]; have h8 := HLA.out; have := nat_len _ HX2.out; simp at this; omega)
        go_wp2
        go_loopw [4, 46] (fun v vi wr => ∃ x : Int, vi = .int .i64 x ∧ 0 ≤ x ∧ x ≤ l2.length ∧ Aside0 (OB wr (w.heap.size + 1) v (a4 ++ encL (l2.take x.toNat))) ∧ Aside0 ((a4 ++ encL (l2.take x.toNat)).length ≤ 20000 + 200 * x.toNat) ∧ Aside0 (Below (w.heap.size + 1) (w.alloc (.cells #[.int .i64 a0, .slice A1 l1.length c1, .slice A2 l2.length c2, .slice A3 l3.length c3] 26)) wr)) (fun _ vi _ => l2.length - (intOf vi).toNat)
        case atStart => exact ⟨0, rfl, by omega, by omega, ⟨by simpa [encL] using HO4.out⟩, ⟨by have := HL4.out; simp [encL]; omega⟩, HB4⟩
        case round =>
          clear HB4 HO4 HS4 hb0 hb1 hb2 hb3
          obtain ⟨x, rfl, h0, hi, HO, HLA, HB⟩ := hrel
          have HS : w.heap.size + 1 ≤ wr.heap.size := by simpa using HB.out.size
          have hb0 := box_cell HB.out 0 _ rfl
          have hb1 := box_cell HB.out 1 _ rfl
          have hb2 := box_cell HB.out 2 _ rfl
          have hb3 := box_cell HB.out 3 _ rfl
          by_cases hlt : x < l2.length
          · obtain ⟨ad, A, c, e1, hx0, hx1, hx2, hlc, hn⟩ := at_T87 H2.out x h0 hlt
            subst e1
            replace hx0 := pw_cell_below (below_of_alloc HB.out) hx0
            replace hx1 := pw_cell_below (below_of_alloc HB.out) hx1
            replace hx2 := pw_cell_below (below_of_alloc HB.out) hx2
            have HN := Aside0.mk hn
            have HGE := Aside0.mk (HG.out.lea.2 x h0 hlt)
            have hlA : (rd_T87 l2 x).f0.length ≤ 16 := HGE.out.num.1.2
            have HT1 := Aside0.mk (txt_len (l := (rd_T87 l2 x).f0) (by omega))
            have HXL := Aside0.mk (show ∀ y ∈ [(rd_T87 l2 x).f1, (rd_T87 l2 x).f2], okInt y from fun y hy => by have := HGE.out.num; simp at hy; unfold okInt; rcases hy with rfl | rfl <;> omega)
            have hx9' : x.toNat ≤ 1000 := by omega
            clear hn
            go_wp2_with fail
            have hg0 : (wr.alloc (.cells #[.slice A (rd_T87 l2 x).f0.length c, .int .i64 (rd_T87 l2 x).f1, .int .i64 (rd_T87 l2 x).f2] 87)).cell? ⟨wr.heap.size, 0, none⟩ = some (.slice A (rd_T87 l2 x).f0.length c) := (blk_cell (heap_alloc_new wr _) 0).trans rfl
            have hg1 : (wr.alloc (.cells #[.slice A (rd_T87 l2 x).f0.length c, .int .i64 (rd_T87 l2 x).f1, .int .i64 (rd_T87 l2 x).f2] 87)).cell? ⟨wr.heap.size, 1, none⟩ = some (.int .i64 (rd_T87 l2 x).f1) := (blk_cell (heap_alloc_new wr _) 1).trans rfl
            have hg2 : (wr.alloc (.cells #[.slice A (rd_T87 l2 x).f0.length c, .int .i64 (rd_T87 l2 x).f1, .int .i64 (rd_T87 l2 x).f2] 87)).cell? ⟨wr.heap.size, 2, none⟩ = some (.int .i64 (rd_T87 l2 x).f2) := (blk_cell (heap_alloc_new wr _) 2).trans rfl
            have HOW := Aside0.mk (HO.out.below (below_alloc (Below.refl _ wr) (.cells #[.slice A (rd_T87 l2 x).f0.length c, .int .i64 (rd_T87 l2 x).f1, .int .i64 (rd_T87 l2 x).f2] 87)))
            have HBW := Aside0.mk (below1_alloc HB.out (.cells #[.slice A (rd_T87 l2 x).f0.length c, .int .i64 (rd_T87 l2 x).f1, .int .i64 (rd_T87 l2 x).f2] 87) HS)
            have HSW : wr.heap.size + 1 ≤ (wr.alloc (.cells #[.slice A (rd_T87 l2 x).f0.length c, .int .i64 (rd_T87 l2 x).f1, .int .i64 (rd_T87 l2 x).f2] 87)).heap.size := by simp
            generalize wr.alloc (.cells #[.slice A (rd_T87 l2 x).f0.length c, .int .i64 (rd_T87 l2 x).f1, .int .i64 (rd_T87 l2 x).f2] 87) = W at hg0 hg1 hg2 HOW HBW HSW ⊢
            have HSS : w.heap.size + 1 ≤ W.heap.size := by omega
            have HSN := Aside0.mk (ob_ne HO.out (Nat.le_refl wr.heap.size))
            go_region_held3 (fun w' => w'.cell? ⟨wr.heap.size, 0, none⟩ = some (.slice A (rd_T87 l2 x).f0.length c) ∧ w'.cell? ⟨wr.heap.size, 1, none⟩ = some (.int .i64 (rd_T87 l2 x).f1) ∧ w'.cell? ⟨wr.heap.size, 2, none⟩ = some (.int .i64 (rd_T87 l2 x).f2)) (go_keep) (first | (go_at_call 71; (with_reducible refine (ref10_text (w.heap.size + 1) _ (a4 ++ encL (l2.take x.toNat)) A _ (rd_T87 l2 x).f0 _ ?hB (HOW.out.below ?hX) (C_old HN.out (HBW.out.trans (Below.mono ?hX HSS))) ?hl ?hl0).mono ?_); (case hX => (with_reducible repeat (first | exact Below.refl _ _ | apply below_drew | apply pw_below_drewN | apply below_alloc))); (case hB => simp; omega); (case hl => omega); (case hl0 => have := HLA.out; omega); rintro e w1 hp; have HP := Aside0.mk hp; replace hp := hp.from (w := W) (by (with_reducible repeat (first | exact Below.refl _ _ | apply below_drew | apply pw_below_drewN | apply below_alloc))); obtain ⟨v1, rfl, ho, hg, hat⟩ := hp.out; have hs0 := hg.cell hg0 HSN.out; have hs1 := hg.cell hg1 HSN.out; have hs2 := hg.cell hg2 HSN.out; have HB1 := Aside0.mk (below_grown' HBW.out HOW.out HSS hg); have hgs := hg.size; have HO1 := Aside0.mk ho; have HSV := Aside0.mk (ob_ne_new ho hat HSW HSN.out); clear ho hg hat) | (go_at_call 70; (with_reducible refine (nums2 (w.heap.size + 1) _ _ (rd_T87 l2 x).f1 (rd_T87 l2 x).f2 w1 ?hB HO1.out HXL.out ?hl0).mono ?_); (case hB => exact HB1.out.size'); (case hl0 => exact lenacc HLA.out HT1.out hx9' (by omega)); rintro e w2 hp; obtain ⟨v2, rfl, ho, hg, hat⟩ := hp.out; have hs0 := hg.cell hs0 HSV.out; have hs1 := hg.cell hs1 HSV.out; have hs2 := hg.cell hs2 HSV.out; have HB2 := Aside0.mk (below_grown' HB1.out HO1.out HB1.out.size' hg); have HO2 := Aside0.mk ho; clear ho hg hat) | (go_at_call 70; (with_reducible refine (nums2_late (w.heap.size + 1) _ _ _ _ (rd_T87 l2 x).f1 (rd_T87 l2 x).f2 W _ w1 ?hX HOW.out HP.out ?hB HXL.out ?hl0).mono ?_); (case hX => (with_reducible repeat (first | exact Below.refl _ _ | apply Below.drew | apply below1_drewN))); (case hB => exact HB1.out.size'); (case hl0 => exact lenacc HLA.out HT1.out hx9' (by omega)); rintro e w2 hp; obtain ⟨v2, rfl, ho, hg, hat⟩ := hp.out; have hs0 := hg.cell hs0 HSV.out; have hs1 := hg.cell hs1 HSV.out; have hs2 := hg.cell hs2 HSV.out; have HB2 := Aside0.mk (below_grown' HB1.out HO1.out HB1.out.size' hg); have HO2 := Aside0.mk ho; clear ho hg hat))
            all_goals
              go_wp2
              go_roundw
              case rel => exact ⟨x + 1, by go_num, by omega, by omega, ⟨by rw [encL, fm_take itemL z87 h0 hlt, ← List.append_assoc]; exact (List.append_assoc _ _ _) ▸ HO2.out⟩, ⟨by rw [encL, fm_take itemL z87 h0 hlt, ← List.append_assoc, List.length_append]; have := HLA.out; have := itemL_len HGE.out; unfold encL at *; unfold rd_T87 at *; omega⟩, HB2⟩
              case measure => simp [intOf]; omega
          · have he := fm_all itemL (xs := l2) (x := x) (by omega)
            have hx9 : x ≤ l2.length := by omega
            replace HO := Aside0.mk (show OB wr (w.heap.size + 1) _ (a4 ++ encL l2) by have := HO.out; unfold encL at this; rw [he] at this; exact this)
            replace HLA := Aside0.mk (show (a4 ++ encL l2).length ≤ 20000 + 200 * x.toNat by have := HLA.out; unfold encL at this; rw [he] at this; exact this)
            clear he
            go_wp2_with fail
            refine (nums1 (w.heap.size + 1) _ _ (l3.length : Int) wr HS HO.out HX3.out (by have := HLA.out; omega)).mono ?_
            rintro e w5 hp
            obtain ⟨v5, rfl, ho, hg, hat⟩ := hp.out
            have HB5 := Aside0.mk (below_grown' HB.out HO.out HS hg)
            have HS5 : w.heap.size + 1 ≤ w5.heap.size := Nat.le_trans HS hg.size
            obtain ⟨a5, ha5⟩ : ∃ ys : List Int, (a4 ++ encL l2) ++ nat [(l3.length : Int)] = ys := ⟨_, rfl⟩
            rw [ha5] at ho
            have HO5 := Aside0.mk ho
            have HE5 := Aside0.mk ha5
            clear ho hg hat ha5 hp HB HO HS hb0 hb1 hb2 hb3
            have hb0 := box_cell HB5.out 0 _ rfl
            have hb1 := box_cell HB5.out 1 _ rfl
            have hb2 := box_cell HB5.out 2 _ rfl
            have hb3 := box_cell HB5.out 3 _ rfl
            have HL5 := Aside0.mk (show a5.length ≤ 30000 by rw [← HE5.out, List.length_append]; have h8 := HLA.out; have := nat_len _ HX3.out; simp at this; omega)
            go_wp2
            go_loopw [4, 70] (fun v vi wr => ∃ x : Int, vi = .int .i64 x ∧ 0 ≤ x ∧ x ≤ l3.length ∧ Aside0 (OB wr (w.heap.size + 1) v (a5 ++ encS (l3.take x.toNat))) ∧ Aside0 ((a5 ++ encS (l3.take x.toNat)).length ≤ 30000 + 200 * x.toNat) ∧ Aside0 (Below (w.heap.size + 1) (w.alloc (.cells #[.int .i64 a0, .slice A1 l1.length c1, .slice A2 l2.length c2, .slice A3 l3.length c3] 26)) wr)) (fun _ vi _ => l3.length - (intOf vi).toNat)
            case atStart => exact ⟨0, rfl, by omega, by omega, ⟨by simpa [encS] using HO5.out⟩, ⟨by have := HL5.out; simp [encS]; omega⟩, HB5⟩
            case round =>
              clear HB5 HO5 HS5 hb0 hb1 hb2 hb3
              obtain ⟨x, rfl, h0, hi, HO, HLA, HB⟩ := hrel
              have HS : w.heap.size + 1 ≤ wr.heap.size := by simpa using HB.out.size
              have hb0 := box_cell HB.out 0 _ rfl
              have hb1 := box_cell HB.out 1 _ rfl
              have hb2 := box_cell HB.out 2 _ rfl
              have hb3 := box_cell HB.out 3 _ rfl
              by_cases hlt : x < l3.length
              · obtain ⟨ad, A, c, e1, hx0, hx1, hx2, hx3, hlc, hn⟩ := at_T97 H3.out x h0 hlt
                subst e1
                replace hx0 := pw_cell_below (below_of_alloc HB.out) hx0
                replace hx1 := pw_cell_below (below_of_alloc HB.out) hx1
                replace hx2 := pw_cell_below (below_of_alloc HB.out) hx2
                replace hx3 := pw_cell_below (below_of_alloc HB.out) hx3
                have HN := Aside0.mk hn
                have HGE := Aside0.mk (HG.out.ses x h0 hlt)
                have hlA : (rd_T97 l3 x).f2.f1.length ≤ 64 := HGE.out.num.2.2.2.2
                have HXL := Aside0.mk (show ∀ y ∈ [(rd_T97 l3 x).f0, (rd_T97 l3 x).f1, (rd_T97 l3 x).f2.f0], okInt y from fun y hy => by have := HGE.out.num; simp at hy; unfold okInt; rcases hy with rfl | rfl | rfl <;> omega)
                have HNL := Aside0.mk (nat_len _ HXL.out)
                have hx9' : x.toNat ≤ 1000 := by omega
                clear hn
                go_wp2_with fail
                have hg0 : (wr.alloc (.cells #[.int .i64 (rd_T97 l3 x).f0, .int .i64 (rd_T97 l3 x).f1, .int .i64 (rd_T97 l3 x).f2.f0, .slice A (rd_T97 l3 x).f2.f1.length c] 97)).cell? ⟨wr.heap.size, 0, none⟩ = some (.int .i64 (rd_T97 l3 x).f0) := (blk_cell (heap_alloc_new wr _) 0).trans rfl
                have hg1 : (wr.alloc (.cells #[.int .i64 (rd_T97 l3 x).f0, .int .i64 (rd_T97 l3 x).f1, .int .i64 (rd_T97 l3 x).f2.f0, .slice A (rd_T97 l3 x).f2.f1.length c] 97)).cell? ⟨wr.heap.size, 1, none⟩ = some (.int .i64 (rd_T97 l3 x).f1) := (blk_cell (heap_alloc_new wr _) 1).trans rfl
                have hg2 : (wr.alloc (.cells #[.int .i64 (rd_T97 l3 x).f0, .int .i64 (rd_T97 l3 x).f1, .int .i64 (rd_T97 l3 x).f2.f0, .slice A (rd_T97 l3 x).f2.f1.length c] 97)).cell? ⟨wr.heap.size, 2, none⟩ = some (.int .i64 (rd_T97 l3 x).f2.f0) := (blk_cell (heap_alloc_new wr _) 2).trans rfl
                have hg3 : (wr.alloc (.cells #[.int .i64 (rd_T97 l3 x).f0, .int .i64 (rd_T97 l3 x).f1, .int .i64 (rd_T97 l3 x).f2.f0, .slice A (rd_T97 l3 x).f2.f1.length c] 97)).cell? ⟨wr.heap.size, 3, none⟩ = some (.slice A (rd_T97 l3 x).f2.f1.length c) := (blk_cell (heap_alloc_new wr _) 3).trans rfl
                have HOW := Aside0.mk (HO.out.below (below_alloc (Below.refl _ wr) (.cells #[.int .i64 (rd_T97 l3 x).f0, .int .i64 (rd_T97 l3 x).f1, .int .i64 (rd_T97 l3 x).f2.f0, .slice A (rd_T97 l3 x).f2.f1.length c] 97)))
                have HBW := Aside0.mk (below1_alloc HB.out (.cells #[.int .i64 (rd_T97 l3 x).f0, .int .i64 (rd_T97 l3 x).f1, .int .i64 (rd_T97 l3 x).f2.f0, .slice A (rd_T97 l3 x).f2.f1.length c] 97) HS)
                have HSW : wr.heap.size + 1 ≤ (wr.alloc (.cells #[.int .i64 (rd_T97 l3 x).f0, .int .i64 (rd_T97 l3 x).f1, .int .i64 (rd_T97 l3 x).f2.f0, .slice A (rd_T97 l3 x).f2.f1.length c] 97)).heap.size := by simp
                generalize wr.alloc (.cells #[.int .i64 (rd_T97 l3 x).f0, .int .i64 (rd_T97 l3 x).f1, .int .i64 (rd_T97 l3 x).f2.f0, .slice A (rd_T97 l3 x).f2.f1.length c] 97) = W at hg0 hg1 hg2 hg3 HOW HBW HSW ⊢
                have HSS : w.heap.size + 1 ≤ W.heap.size := by omega
                have HSN := Aside0.mk (ob_ne HO.out (Nat.le_refl wr.heap.size))
                go_region_held3 (fun w' => w'.cell? ⟨wr.heap.size, 0, none⟩ = some (.int .i64 (rd_T97 l3 x).f0) ∧ w'.cell? ⟨wr.heap.size, 1, none⟩ = some (.int .i64 (rd_T97 l3 x).f1) ∧ w'.cell? ⟨wr.heap.size, 2, none⟩ = some (.int .i64 (rd_T97 l3 x).f2.f0) ∧ w'.cell? ⟨wr.heap.size, 3, none⟩ = some (.slice A (rd_T97 l3 x).f2.f1.length c)) (go_keep) (first | (go_at_call 70; (with_reducible refine (nums3_at (w.heap.size + 1) _ _ (rd_T97 l3 x).f0 (rd_T97 l3 x).f1 (rd_T97 l3 x).f2.f0 W _ ?hX HSS HOW.out HXL.out ?hl0).mono ?_); (case hX => (with_reducible repeat (first | exact Below.refl _ _ | apply Below.drew | apply below1_drewN))); (case hl0 => have := HLA.out; omega); rintro e w1 hp; obtain ⟨v1, rfl, ho, hg, hat⟩ := hp.out; have hs0 := hg.cell hg0 HSN.out; have hs1 := hg.cell hg1 HSN.out; have hs2 := hg.cell hg2 HSN.out; have hs3 := hg.cell hg3 HSN.out; have HB1 := Aside0.mk (below_grown' HBW.out HOW.out HSS hg); have hgs := hg.size; have HO1 := Aside0.mk ho; have HSV := Aside0.mk (ob_ne_new ho hat HSW HSN.out); clear ho hg hat) | (go_at_call 71; (with_reducible refine (ref10_text (w.heap.size + 1) _ _ A _ (rd_T97 l3 x).f2.f1 w1 ?hB HO1.out (C_old HN.out HB1.out) ?hl ?hl0).mono ?_); (case hB => exact HB1.out.size'); (case hl => omega); (case hl0 => have h8 := HLA.out; have h9 := HNL.out; simp only [List.length_append] at h8 ⊢; simp only [List.length_cons, List.length_nil] at h9; omega); rintro e w2 hp; obtain ⟨v2, rfl, ho, hg, hat⟩ := hp.out; have hs0 := hg.cell hs0 HSV.out; have hs1 := hg.cell hs1 HSV.out; have hs2 := hg.cell hs2 HSV.out; have hs3 := hg.cell hs3 HSV.out; have HB2 := Aside0.mk (below_grown' HB1.out HO1.out HB1.out.size' hg); have HO2 := Aside0.mk ho; clear ho hg hat))
                all_goals
                  go_wp2
                  go_roundw
                  case rel => exact ⟨x + 1, by go_num, by omega, by omega, ⟨by rw [encS, fm_take itemS z97 h0 hlt, ← List.append_assoc]; exact (List.append_assoc _ _ _) ▸ HO2.out⟩, ⟨by rw [encS, fm_take itemS z97 h0 hlt, ← List.append_assoc, List.length_append]; have := HLA.out; have := itemS_len HGE.out; unfold encS at *; unfold rd_T97 at *; omega⟩, HB2⟩
                  case measure => simp [intOf]; omega
              · have he := fm_all itemS (xs := l3) (x := x) (by omega)
                have hx9 : x ≤ l3.length := by omega
                replace HO := Aside0.mk (show OB wr (w.heap.size + 1) _ (a5 ++ encS l3) by have := HO.out; unfold encS at this; rw [he] at this; exact this)
                replace HLA := Aside0.mk (show (a5 ++ encS l3).length ≤ 30000 + 200 * x.toNat by have := HLA.out; unfold encS at this; rw [he] at this; exact this)
                clear he
                go_wp2
                go_ret2
                exact ⟨_, _, 0, rfl, HO.out.lower (by omega), below_of_alloc HB.out, fun _ => ⟨by rw [encA, ← HE5.out, ← HE4.out, ← HE3.out, List.nil_append], rfl⟩, fun h => absurd HG.out h⟩

end Go.Proofs.Ytophfoenaekfjaa

namespace Go.Proofs.Ytophfoenaekfjaa
open Go.RowKit Go.Proofs.YtophfoenaekfjaaW.PrintWords Go.Proofs.YtophfoenaekfjaaW.PrintLast Go.Proofs.YtophfoenaekfjaaW.PrintMore Go.Proofs.Ytophfoenaekfjaa.PSnapEncodes
set_option linter.unusedVariables false
set_option linter.unusedSimpArgs false

theorem ob_take0 {w : World} {base : Nat} {A : Option Addr} {n c : Nat} {l : List Int} (h : OB w base (.slice A n c) l) : OB w base (.slice A 0 c) [] := ⟨by simpa using Kd.R_take (m := 0) h.out (Nat.zero_le _)⟩
section
variable {ops : Array Oper} {rest : List Oper} {o : Oper} {a : Act} {Q : Exit → Act → World → Prop}
/-- append(v, make([]byte, n)...). -/
theorem ob_zeros {W : World} {base : Nat} {v : Value} {xs : List Int} {n : Int} (hgd : o.guard = none) (s x : Operand)
    (ho : o.op = .call { callee := .builtin .append, args := #[s, x], argTypes := #[29, 3] })
    (hs : a.eval s = v) (hx : a.eval x = .int .i64 n) (HO : OB W base v xs) (h0 : 0 ≤ n) (hbase : base ≤ W.heap.size) (hl : xs.length + n.toNat ≤ 140737488355328)
    (h : ∀ v1 w1, OB w1 base v1 (xs ++ List.replicate n.toNat 0) → W.grownBy w1 v.ownBlock → (v1.ownBlock = v.ownBlock ∨ ∃ b, v1.ownBlock = some b ∧ W.heap.size ≤ b) → wpList Try.prog ops Q rest (a.put o.dst v1) w1) :
    wpList Try.prog ops Q (o :: rest) a W :=
  Kd.R_append_zeros (Kd.int .u8) (w0 := W) base hgd s x 29 3 5 (.int .u8 0) 1 ho Try.underlying29 Try.underlying3 info5 rfl (by decide) (by omega) v xs 0 n (fun _ => True) hs hx rfl (fun _ _ => trivial) HO.out h0 (Below.refl _ _) hbase (by omega)
    (fun v1 w1 h1 _ hg hat => h v1 w1 ⟨h1⟩ hg hat)
end
set_option maxHeartbeats 4000000 in
set_option maxRecDepth 100000 in
theorem slices_Grow (n : Int) (w : World) (h0 : 0 ≤ n) (hn : n ≤ 70368744177664) : Calls Try.prog 131 #[.slice none 0 0, .int .i64 n] w (PostBy w []) := by
  cases hq : decide (0 < n) with
  | false =>
    have hn0 : n = 0 := by have := of_decide_eq_false hq; omega
    subst hn0
    go_enter Try.func131, Try.ntmps131
    go_wp2
    go_ret
    exact ⟨_, rfl, OB_nil _ _, Below.refl _ _⟩
  | true =>
    have hp := of_decide_eq_true hq
    go_enter Try.func131, Try.ntmps131
    go_wp2_with (first | ((with_reducible refine gate_builtin (b := .append) (xs := #[.tmp 20, .tmp 21]) rfl ?_); at_builtin; refine ob_zeros rfl (.tmp 20) (.tmp 21) rfl rfl rfl (OB_nil w w.heap.size) ?h0 ?hb ?hl ?_; (case h0 => omega); (case hb => exact Nat.le_refl _); (case hl => simp; omega); intro v1 w1 ho hg hat; obtain ⟨A1, c1, rfl, hc, hr⟩ := ho.reads; have HO1 := Aside0.mk ho; have HB1 := Aside0.mk (below_grown' (Below.refl w.heap.size w) (OB_nil w w.heap.size) (Nat.le_refl _) hg); clear ho hg hat hr))
    go_ret
    exact ⟨_, rfl, ob_take0 HO1.out, HB1.out⟩

end Go.Proofs.Ytophfoenaekfjaa

namespace Go.Proofs.Ytophfoenaekfjaa
open Go.RowKit Go.Proofs.YtophfoenaekfjaaW.PrintWords Go.Proofs.YtophfoenaekfjaaW.PrintLast Go.Proofs.YtophfoenaekfjaaW.PrintMore Go.Proofs.Ytophfoenaekfjaa.PSnapEncodes
set_option linter.unusedVariables false
set_option linter.unusedSimpArgs false

theorem flat_take {xs : List (List Int)} {x : Int} (h0 : 0 ≤ x) (h1 : x < xs.length) : (xs.take (x + 1).toNat).flatten = (xs.take x.toNat).flatten ++ rd_L1 xs x := by
  have hl : x.toNat < xs.length := by omega
  have e : (x + 1).toNat = x.toNat + 1 := by omega
  unfold rd_L1
  rw [e, List.take_add_one, List.getElem?_eq_getElem hl, List.getD_eq_getElem?_getD, List.getElem?_eq_getElem hl, List.flatten_append]
  simp
theorem flat_le (xs : List (List Int)) (n : Nat) : (xs.take n).flatten.length ≤ xs.flatten.length := by
  have h : xs.flatten = (xs.take n).flatten ++ (xs.drop n).flatten := by rw [← List.flatten_append, List.take_append_drop]
  rw [h, List.length_append]
  omega
theorem flat_all {xs : List (List Int)} {x : Int} (h1 : (xs.length : Int) ≤ x) : (xs.take x.toNat).flatten = xs.flatten := by rw [List.take_of_length_le (by omega)]
set_option maxHeartbeats 4000000 in
set_option maxRecDepth 100000 in
theorem slices_Concat (A : Option Addr) (c : Nat) (ls : List (List Int)) (w : World) (hr : (Kd.slice 5 (Kd.int .u8)).C w A ls.length ls) (hf : ls.flatten.length ≤ 70368744177664) : Calls Try.prog 116 #[.slice A ls.length c] w (PostBy w ls.flatten) := by
  have hlen := hr.2.1
  have HR := Aside0.mk hr
  clear hr
  go_enter Try.func116, Try.ntmps116
  go_wp2
  go_loopw [3, 11] (fun v3 v11 wr => ∃ x s : Int, v3 = .int .i64 s ∧ v11 = .int .i64 x ∧ 0 ≤ x ∧ x ≤ ls.length ∧ 0 ≤ s ∧ s ≤ 70368744177664 ∧ Aside0 (s = ((ls.take x.toNat).flatten.length : Int)) ∧ Aside0 (w = wr)) (fun _ v11 _ => ls.length - (intOf v11).toNat)
  case atStart => exact ⟨0, 0, rfl, rfl, by omega, by omega, by omega, by omega, ⟨by simp⟩, ⟨rfl⟩⟩
  case round =>
    obtain ⟨x, s, rfl, rfl, h0, hi, hs0, hs1, HSM, HW⟩ := hrel
    obtain rfl := HW.out
    by_cases hlt : x < ls.length
    · obtain ⟨ad, A0, c0, e1, hx0, hl0, hn⟩ := at_L1 HR.out x h0 hlt
      subst e1
      have HF := Aside0.mk (flat_take h0 hlt)
      have hsz3 : s + (rd_L1 ls x).length ≤ 70368744177664 := by have hsz2 := flat_le ls (x + 1).toNat; rw [HF.out, List.length_append] at hsz2; have := HSM.out; omega
      clear hn
      go_wp2
      go_roundw
      case rel => exact ⟨x + 1, s + (rd_L1 ls x).length, by go_num, by go_num, by omega, by omega, by omega, by omega, ⟨by rw [HF.out, List.length_append]; have := HSM.out; omega⟩, ⟨by first | trivial | rfl⟩⟩
      case measure => simp [intOf]; omega
    · go_wp2_with fail
      refine (slices_Grow s _ (by omega) (by omega)).mono ?_
      rintro e w1 ⟨v, rfl, ho, hb⟩
      have HO1 := Aside0.mk ho
      have HB1 := Aside0.mk hb
      clear ho hb HW
      go_wp2
      go_loopw [6, 27] (fun v6 v27 wr => ∃ x : Int, v27 = .int .i64 x ∧ 0 ≤ x ∧ x ≤ ls.length ∧ Aside0 (OB wr w.heap.size v6 (ls.take x.toNat).flatten) ∧ Aside0 (Below w.heap.size w wr)) (fun _ v27 _ => ls.length - (intOf v27).toNat)
      case atStart => exact ⟨0, rfl, by omega, by omega, ⟨by simpa using HO1.out⟩, HB1⟩
      case round =>
        clear HO1 HB1
        obtain ⟨y, rfl, g0, gi, HO, HB⟩ := hrel
        have HS : w.heap.size ≤ wr.heap.size := HB.out.size
        by_cases hlt : y < ls.length
        · obtain ⟨ad, A0, c0, e1, hx0, hl0, hn⟩ := at_L1 HR.out y g0 hlt
          subst e1
          replace hx0 := pw_cell_below HB.out hx0
          have HN := Aside0.mk hn
          have HF := Aside0.mk (flat_take g0 hlt)
          have HLF := Aside0.mk (show (ls.take y.toNat).flatten.length + (rd_L1 ls y).length ≤ 70368744177664 by have := flat_le ls (y + 1).toNat; rw [HF.out, List.length_append] at this; omega)
          clear hn
          go_wp2_with (first | ((with_reducible refine gate_builtin (b := .append) (xs := #[.tmp 31, .tmp 32]) rfl ?_); at_builtin; refine ob_append rfl (.tmp 31) (.tmp 32) rfl rfl rfl HO.out (Kd.C_below HN.out HB.out) ?hb ?hl ?_; (case hb => exact HS); (case hl => exact (by have := HLF.out; omega)); intro v1 w1 ho hg hat; have HO1 := Aside0.mk ho; have HB1 := Aside0.mk (below_grown' HB.out HO.out HS hg); clear ho hg hat))
          go_roundw
          case rel => exact ⟨y + 1, by go_num, by omega, by omega, ⟨by rw [HF.out]; exact HO1.out⟩, HB1⟩
          case measure => simp [intOf]; omega
        · have he := flat_all (xs := ls) (x := y) (by omega)
          have HE := Aside0.mk he
          clear he
          go_wp2
          go_ret
          exact ⟨_, rfl, by have := HO.out; rw [HE.out] at this; exact this, HB.out⟩

end Go.Proofs.Ytophfoenaekfjaa

namespace Go.Proofs.Ytophfoenaekfjaa
open Go.RowKit Go.Proofs.YtophfoenaekfjaaW.PrintWords Go.Proofs.YtophfoenaekfjaaW.PrintLast Go.Proofs.YtophfoenaekfjaaW.PrintMore Go.Proofs.Ytophfoenaekfjaa.PSnapEncodes
set_option linter.unusedVariables false
set_option linter.unusedSimpArgs false

section
variable {ops : Array Oper} {o : Oper} {a : Act} {Q : Exit → Act → World → Prop} {Kc : Act → World → Prop}
/-- append(v, ys...), of bytes, inside a region that draws its order. -/
theorem ob_append_step {W : World} {base : Nat} {v : Value} {xs ys : List Int} {A : Option Addr} {m c : Nat} (hw : Region.wanted o (yielded ops a.tmps) = true) (s x : Operand)
    (ho : o.op = .call { callee := .builtin .append, args := #[s, x], argTypes := #[29, 29] })
    (hs : a.eval s = v) (hx : a.eval x = .slice A m c) (HO : OB W base v xs) (HR : (Kd.int .u8).C W A m ys) (hbase : base ≤ W.heap.size) (hl : xs.length + m ≤ 140737488355328)
    (h : ∀ v1 w1, OB w1 base v1 (xs ++ ys) → W.grownBy w1 v.ownBlock → (v1.ownBlock = v.ownBlock ∨ ∃ b, v1.ownBlock = some b ∧ W.heap.size ≤ b) → Kc (a.put o.dst v1) w1) :
    if Region.wanted o (yielded ops a.tmps) = true then Oper.wp Try.prog o a W Kc Q else Kc (a.put o.dst undef) W :=
  Kd.R_append_rows_step (Kd.int .u8) (w0 := W) base hw s x 29 5 (.int .u8 0) 1 ho Try.underlying29 info5 rfl (by decide) (by omega) v xs ys A m c (fun _ => True) (fun _ => False) hs hx HO.out HR (fun _ _ h => h) (fun _ h => h.elim) (fun _ _ => trivial) (Below.refl _ _) hbase (by omega)
    (fun v1 w1 h1 _ hg hat => h v1 w1 ⟨h1⟩ hg hat)
end
theorem K_of_CB {W : World} {A : Option Addr} {c : Nat} {l : List Int} (h : CB W A l) (hc : l.length ≤ c) : (Kd.slice 5 (Kd.int .u8)).K W l [.slice A l.length c] := ⟨A, c, rfl, hc, h⟩
/-- A literal [][]byte at W's end, in a later world. -/
theorem C_litR (W X : World) (xs : List (List Int)) (vs : List Value) (hlen : vs.length = xs.length) (hm : xs.length ≤ 1000) (hv : ∀ (j : Nat) (l : List Int), xs[j]? = some l → ∃ v, vs[j]? = some v ∧ (Kd.slice 5 (Kd.int .u8)).K X l [v])
    (hX : Below (W.heap.size + 1) (W.alloc (.cells vs.toArray 29)) X) : (Kd.slice 5 (Kd.int .u8)).C X (some ⟨W.heap.size, 0, none⟩) xs.length xs := by
  refine ⟨rfl, by omega, fun _ => ⟨_, rfl, fun j l hj => ?_⟩⟩
  obtain ⟨v, hvj, hk⟩ := hv j l hj
  refine ⟨[v], rfl, hk, fun i u hu => ?_⟩
  obtain ⟨hil, hiu⟩ := List.getElem?_eq_some_iff.1 hu
  have hi0 : i = 0 := by simp at hil; omega
  subst hi0
  have e1 : (⟨W.heap.size, 0, none⟩ : Addr).add (j * 1 + 0) = ⟨W.heap.size, j, none⟩ := by rw [add_at]; simp
  show X.cell? ((⟨W.heap.size, 0, none⟩ : Addr).add (j * 1 + 0)) = some u
  rw [e1, ← hiu]
  refine (hX.cell (p := ⟨W.heap.size, j, none⟩) (Nat.lt_succ_self _)).trans ((blk_cell (heap_alloc_new W _) j).trans ?_)
  simpa using hvj
theorem C_litR1 (W X : World) (l0 : List Int) (A0 : Option Addr) (c0 : Nat) (h0 : CB X A0 l0) (hc0 : l0.length ≤ c0) (hX : Below (W.heap.size + 1) (W.alloc (.cells #[.slice A0 l0.length c0] 29)) X) :
    (Kd.slice 5 (Kd.int .u8)).C X (some ⟨W.heap.size, 0, none⟩) 1 [l0] :=
  C_litR W X [l0] [.slice A0 l0.length c0] rfl (by simp) (fun j l hj => by
    match j, hj with
    | 0, hj => simp at hj; subst hj; exact ⟨_, rfl, K_of_CB h0 hc0⟩) hX
theorem C_litR2 (W X : World) (l0 l1 : List Int) (A0 A1 : Option Addr) (c0 c1 : Nat) (h0 : CB X A0 l0) (hc0 : l0.length ≤ c0) (h1 : CB X A1 l1) (hc1 : l1.length ≤ c1) (hX : Below (W.heap.size + 1) (W.alloc (.cells #[.slice A0 l0.length c0, .slice A1 l1.length c1] 29)) X) :
    (Kd.slice 5 (Kd.int .u8)).C X (some ⟨W.heap.size, 0, none⟩) 2 [l0, l1] :=
  C_litR W X [l0, l1] [.slice A0 l0.length c0, .slice A1 l1.length c1] rfl (by simp) (fun j l hj => by
    match j, hj with
    | 0, hj => simp at hj; subst hj; exact ⟨_, rfl, K_of_CB h0 hc0⟩
    | 1, hj => simp at hj; subst hj; exact ⟨_, rfl, K_of_CB h1 hc1⟩) hX
theorem C_litR3 (W X : World) (l0 l1 l2 : List Int) (A0 A1 A2 : Option Addr) (c0 c1 c2 : Nat) (h0 : CB X A0 l0) (hc0 : l0.length ≤ c0) (h1 : CB X A1 l1) (hc1 : l1.length ≤ c1) (h2 : CB X A2 l2) (hc2 : l2.length ≤ c2) (hX : Below (W.heap.size + 1) (W.alloc (.cells #[.slice A0 l0.length c0, .slice A1 l1.length c1, .slice A2 l2.length c2] 29)) X) :
    (Kd.slice 5 (Kd.int .u8)).C X (some ⟨W.heap.size, 0, none⟩) 3 [l0, l1, l2] :=
  C_litR W X [l0, l1, l2] [.slice A0 l0.length c0, .slice A1 l1.length c1, .slice A2 l2.length c2] rfl (by simp) (fun j l hj => by
    match j, hj with
    | 0, hj => simp at hj; subst hj; exact ⟨_, rfl, K_of_CB h0 hc0⟩
    | 1, hj => simp at hj; subst hj; exact ⟨_, rfl, K_of_CB h1 hc1⟩
    | 2, hj => simp at hj; subst hj; exact ⟨_, rfl, K_of_CB h2 hc2⟩) hX
set_option maxHeartbeats 4000000 in
set_option maxRecDepth 100000 in
theorem octet_Bytes (A : Option Addr) (c : Nat) (l : List Int) (w : World) (hr : CB w A l) (hc : l.length ≤ c) (hl : l.length ≤ 2147483647) : Calls Try.prog 91 #[.slice A l.length c] w (PostBy w (txt l)) := by
  have HL := Aside0.mk hl
  have HR := Aside0.mk hr
  have HC := Aside0.mk hc
  clear hr hc
  go_enter Try.func91, Try.ntmps91
  go_wp2_with fail
  refine (octet_Int0 (l.length : Int) _ (by unfold okInt; omega)).mono ?_
  rintro e w1 ⟨v, rfl, ho, hb⟩
  obtain ⟨b1, hbs⟩ : ∃ bs : List Int, vint ((l.length : Int)).toNat = bs := ⟨_, rfl⟩
  rw [hbs] at ho
  have HE1 := Aside0.mk hbs
  clear hbs
  obtain ⟨A1, c1, rfl, hc, hr1⟩ := ho.reads
  have HOwn1 := Aside0.mk ho
  have HR1 := Aside0.mk hr1
  have Hb1 := Aside0.mk hb
  have hc1 := hc
  clear ho hr1 hb hc
  have HR' := Aside0.mk (Kd.C_below HR.out Hb1.out)
  have HC1 := Aside0.mk hc1
  have HL1 := Aside0.mk (show b1.length ≤ 5 by rw [← HE1.out, Int.toNat_natCast]; exact vint_len5 _ hl)
  clear hc1
  go_wp2_with fail
  refine (slices_Concat _ _ [b1, l] _ (C_litR2 w1 _ b1 l A1 A c1 c (Kd.C_below HR1.out (below_alloc (Below.refl _ _) _)) HC1.out (Kd.C_below HR'.out (below_alloc (Below.refl _ _) _)) HC.out (Below.refl _ _)) (by have := HL.out; have := HL1.out; simp; omega)).mono ?_
  rintro e w2 ⟨v, rfl, ho, hb⟩
  have HO2 := Aside0.mk ho
  have HB2 := Aside0.mk hb
  clear ho hb
  go_wp2
  go_ret
  exact ⟨_, rfl, by have := HO2.out.lower (Nat.le_trans Hb1.out.size (by simp)); rw [← HE1.out, Int.toNat_natCast] at this; simpa [txt] using this, Hb1.out.trans (((below_alloc (Below.refl _ _) _).trans (HB2.out.mono (by simp))).mono Hb1.out.size)⟩

def pack (ls : List (List Int)) : List Int := ls.flatMap txt
theorem pack_take {xs : List (List Int)} {x : Int} (h0 : 0 ≤ x) (h1 : x < xs.length) : pack (xs.take (x + 1).toNat) = pack (xs.take x.toNat) ++ txt (rd_L1 xs x) := fm_take txt [] h0 h1
theorem pack_all {xs : List (List Int)} {x : Int} (h1 : (xs.length : Int) ≤ x) : pack (xs.take x.toNat) = pack xs := fm_all txt h1
theorem pack_le (xs : List (List Int)) (n : Nat) : (pack (xs.take n)).length ≤ (pack xs).length := by
  have h : pack xs = pack (xs.take n) ++ pack (xs.drop n) := by unfold pack; rw [← List.flatMap_append, List.take_append_drop]
  rw [h, List.length_append]
  omega
theorem txt_of_pack {xs : List (List Int)} {x : Int} (h0 : 0 ≤ x) (h1 : x < xs.length) : (rd_L1 xs x).length ≤ (pack xs).length := by
  have h2 := pack_le xs (x + 1).toNat
  rw [pack_take h0 h1, List.length_append] at h2
  unfold txt at h2
  rw [List.length_append] at h2
  omega
set_option maxHeartbeats 4000000 in
set_option maxRecDepth 100000 in
theorem octet_Pack (A : Option Addr) (c : Nat) (ls : List (List Int)) (w : World) (hr : (Kd.slice 5 (Kd.int .u8)).C w A ls.length ls) (hf : (pack ls).length ≤ 2147483647) : Calls Try.prog 69 #[.slice A ls.length c] w (PostBy w (pack ls)) := by
  have hlen := hr.2.1
  have HR := Aside0.mk hr
  clear hr
  go_enter Try.func69, Try.ntmps69
  go_wp2
  go_loopw [3, 8] (fun v3 v8 wr => ∃ x : Int, v8 = .int .i64 x ∧ 0 ≤ x ∧ x ≤ ls.length ∧ Aside0 (OB wr w.heap.size v3 (pack (ls.take x.toNat))) ∧ Aside0 (Below w.heap.size w wr)) (fun _ v8 _ => ls.length - (intOf v8).toNat)
  case atStart => exact ⟨0, rfl, by omega, by omega, ⟨by simpa [pack] using OB_nil w w.heap.size⟩, ⟨Below.refl _ _⟩⟩
  case round =>
    obtain ⟨x, rfl, h0, hi, HO, HB⟩ := hrel
    have HS : w.heap.size ≤ wr.heap.size := HB.out.size
    by_cases hlt : x < ls.length
    · obtain ⟨ad, A0, c0, e1, hx0, hl0, hn⟩ := at_L1 HR.out x h0 hlt
      subst e1
      replace hx0 := pw_cell_below HB.out hx0
      have HN := Aside0.mk hn
      have HP := Aside0.mk (pack_take h0 hlt)
      have hsz := txt_of_pack h0 hlt
      have HLF := Aside0.mk (pack_le ls x.toNat)
      have HC0 := Aside0.mk hl0
      clear hn hl0
      go_wp2_with fail
      refine (octet_Bytes _ _ _ _ (Kd.C_below HN.out HB.out) HC0.out (by omega)).mono ?_
      rintro e w1 ⟨v, rfl, ho, hb⟩
      obtain ⟨b1, hbs⟩ : ∃ bs : List Int, txt (rd_L1 ls x) = bs := ⟨_, rfl⟩
      rw [hbs] at ho
      have HE1 := Aside0.mk hbs
      clear hbs
      obtain ⟨A1, c1, rfl, hc, hr1⟩ := ho.reads
      have HOwn1 := Aside0.mk ho
      have HR1 := Aside0.mk hr1
      have Hb1 := Aside0.mk hb
      clear ho hr1 hb hc
      have HO1 := Aside0.mk (HO.out.below Hb1.out)
      have HB1 := Aside0.mk (HB.out.trans (Hb1.out.mono HS))
      have HS1 : w.heap.size ≤ w1.heap.size := HB1.out.size
      have HRB1 := Aside0.mk HR1.out
      have HLB := Aside0.mk (show b1.length ≤ 2147483652 by rw [← HE1.out]; have := vint_len5 (rd_L1 ls x).length (by omega); unfold txt; rw [List.length_append]; omega)
      clear HO HB hsz
      go_wp2_with (first | ((with_reducible refine gate_builtin (b := .append) (xs := #[.tmp 12, .tmp 14]) rfl ?_); at_builtin; refine ob_append rfl (.tmp 12) (.tmp 14) rfl rfl rfl HO1.out HRB1.out ?hb ?hl ?_; (case hb => exact HS1); (case hl => exact (by have := HLF.out; have := HLB.out; omega)); intro v2 w2 ho hg hat; have HO2 := Aside0.mk ho; have HB2 := Aside0.mk (below_grown' HB1.out HO1.out HS1 hg); clear ho hg hat))
      go_roundw
      case rel => exact ⟨x + 1, by go_num, by omega, by omega, ⟨by rw [HP.out, HE1.out]; exact HO2.out⟩, HB2⟩
      case measure => simp [intOf]; omega
    · have HE := Aside0.mk (pack_all (xs := ls) (x := x) (by omega))
      go_wp2
      go_ret
      exact ⟨_, rfl, by have := HO.out; rw [HE.out] at this; exact this, HB.out⟩

end Go.Proofs.Ytophfoenaekfjaa

