/- Parts of the proof of SnapDecodes: What was written is read as it was: states and their bytes. The law SnapDecodes. -/
import Derived.Test.YtophfoenaekfjaaSnapEncodesm6
import Derived.Test.YtophfoenaekfjaaSnapEncodesm8
import Derived.Outline
namespace Go.Proofs.Ytophfoenaekfjaa
open Go.RowKit Go.Proofs.YtophfoenaekfjaaW.PrintWords Go.Proofs.YtophfoenaekfjaaW.PrintLast Go.Proofs.YtophfoenaekfjaaW.PrintMore Go.Proofs.Ytophfoenaekfjaa.PSnapEncodes
set_option linter.unusedVariables false
set_option linter.unusedSimpArgs false

theorem vint_pos (q : Nat) : 0 < (vint q).length := by
  by_cases h : q < 128
  · rw [vint_small h]; simp
  · rw [vint_big h]; simp
theorem vint_wf (q : Nat) : wfB (vint q) := by
  induction q using Nat.strongRecOn with
  | _ q ih =>
    by_cases h : q < 128
    · rw [vint_small h]; intro c hc; rw [List.mem_singleton.1 hc]; omega
    · rw [vint_big h]
      intro c hc
      rcases List.mem_cons.1 hc with hc | hc
      · rw [hc]; omega
      · exact ih (q / 128) (by omega) c hc
theorem gi_of_vint (q : Nat) : ∀ (t : List Int) (i : Nat) (n : Int), n + (q : Int) * 128 ^ i ≤ 2147483647 → 0 ≤ n → (0 < i → 0 < q) → i + (vint q).length ≤ 5 → gi (vint q ++ t) i n = some (n + (q : Int) * 128 ^ i, i + (vint q).length) := by
  induction q using Nat.strongRecOn with
  | _ q ih =>
    intro t i n hn h0 hi hl
    by_cases h : q < 128
    · rw [vint_small h] at hl ⊢
      simp only [List.cons_append, List.nil_append, List.length_cons, List.length_nil, gi] at hl ⊢
      have e : (q : Int) % 128 = q := Int.emod_eq_of_lt (by omega) (by omega)
      rw [if_neg (by omega), if_pos (by omega), e, if_neg (by rintro (h1 | ⟨h1, h2⟩); · omega
                                                              · have := hi h2; omega)]
    · rw [vint_big h] at hl ⊢
      simp only [List.cons_append, List.length_cons, gi] at hl ⊢
      have e : (((q % 128 + 128 : Nat) : Int)) % 128 = ((q % 128 : Nat) : Int) := by omega
      have e3 : ((q : Int)) * 128 ^ i = ((q % 128 : Nat) : Int) * 128 ^ i + ((q / 128 : Nat) : Int) * 128 ^ (i + 1) := by
        have : (q : Int) = ((q % 128 : Nat) : Int) + ((q / 128 : Nat) : Int) * 128 := by omega
        rw [Int.pow_succ]
        calc (q : Int) * 128 ^ i = (((q % 128 : Nat) : Int) + ((q / 128 : Nat) : Int) * 128) * 128 ^ i := by rw [← this]
          _ = _ := by rw [Int.add_mul, Int.mul_assoc, Int.mul_comm (128 : Int) (128 ^ i)]
      have hp : (0 : Int) ≤ ((q % 128 : Nat) : Int) * 128 ^ i := Int.mul_nonneg (by omega) (Int.pow_nonneg (by decide))
      rw [if_neg (by omega), if_neg (by omega), e, ih (q / 128) (by omega) t (i + 1) _ (by omega) (by omega) (fun _ => by omega) (by omega)]
      rw [e3]
      congr 2
      · omega
      · omega
theorem okInt_len {n : Int} (h : okInt n) : (vint n.toNat).length ≤ 5 := vint_len5 _ (by unfold okInt at h; omega)
theorem getI_at {l r : List Int} {a : Nat} {n : Int} (h : l.drop a = vint n.toNat ++ r) (hn : okInt n) : getI l (a : Int) = (n, ((a + (vint n.toNat).length : Nat) : Int), 0) := by
  have hpos := vint_pos n.toNat
  have hlen : (l.drop a).length = (vint n.toNat).length + r.length := by rw [h, List.length_append]
  rw [List.length_drop] at hlen
  rw [getI_in (by omega) (by omega), Int.toNat_natCast, h]
  have h0 := hn.1
  have h1 := hn.2
  rw [gi_of_vint n.toNat r 0 0 (by simp; omega) (by omega) (by omega) (by have := okInt_len hn; omega)]
  simp only [gres, Nat.zero_add, Int.pow_zero, Int.mul_one, Int.zero_add]
  rw [Int.toNat_of_nonneg h0]
  congr 2
theorem rnum_at {l r : List Int} {a : Nat} {n : Int} (h : l.drop a = vint n.toNat ++ r) (hn : okInt n) : rnum l ((a : Int), false) = (n, (((a + (vint n.toNat).length : Nat) : Int), false)) := by
  unfold rnum
  rw [getI_at h hn]
  rfl
theorem drop_next {l e r : List Int} {a : Nat} (h : l.drop a = e ++ r) : l.drop (a + e.length) = r := by
  rw [← List.drop_drop, h, List.drop_left]
theorem rtext_at {l r p : List Int} {a : Nat} (h : l.drop a = txt p ++ r) (hp : p.length ≤ 64) : rtext l ((a : Int), false) = (p, (((a + (txt p).length : Nat) : Int), false)) := by
  have h' : l.drop a = vint ((p.length : Int)).toNat ++ (p ++ r) := by rw [h, Int.toNat_natCast]; unfold txt; rw [List.append_assoc]
  have hi := getI_at h' (by unfold okInt; omega)
  rw [Int.toNat_natCast] at hi
  have hd := drop_next h'
  rw [Int.toNat_natCast] at hd
  have hlen : (l.drop (a + (vint p.length).length)).length = p.length + r.length := by rw [hd, List.length_append]
  rw [List.length_drop] at hlen
  have hle : a + (vint p.length).length ≤ l.length := by
    have := congrArg List.length h
    rw [List.length_drop, List.length_append] at this
    unfold txt at this
    rw [List.length_append] at this
    have := vint_pos p.length
    omega
  unfold rtext getB
  rw [hi]
  simp only
  rw [if_pos ⟨trivial, by omega, by omega⟩, Int.toNat_natCast, Int.toNat_natCast, hd, List.take_left]
  unfold txt
  rw [List.length_append]
  simp only [bne_self_eq_false, Bool.or_false, Prod.mk.injEq, and_true, true_and]
  omega
def fitE (x : S72) : Prop := x.f0.length ≤ 64 ∧ x.f1.length ≤ 64
def fitL (x : S87) : Prop := x.f0.length ≤ 64 ∧ okInt x.f1 ∧ okInt x.f2
def fitS (x : S97) : Prop := okInt x.f0 ∧ okInt x.f1 ∧ okInt x.f2.f0 ∧ x.f2.f1.length ≤ 64
theorem step1_at {l r : List Int} {a : Nat} {x : S72} {acc : List S72} (h : l.drop a = itemE x ++ r) (hx : fitE x) : step1 l ((((a : Nat) : Int), false), acc) = ((((a + (itemE x).length : Nat) : Int), false), acc ++ [x]) := by
  obtain ⟨n, v⟩ := x
  unfold itemE at h ⊢
  rw [List.append_assoc] at h
  unfold step1
  simp only at h ⊢
  rw [rtext_at h hx.1]
  simp only
  rw [rtext_at (drop_next h) hx.2]
  simp only [List.length_append, Nat.add_assoc]
theorem step2_at {l r : List Int} {a : Nat} {x : S87} {acc : List S87} (h : l.drop a = itemL x ++ r) (hx : fitL x) : step2 l ((((a : Nat) : Int), false), acc) = ((((a + (itemL x).length : Nat) : Int), false), acc ++ [x]) := by
  obtain ⟨n, o, u⟩ := x
  have e : itemL ⟨n, o, u⟩ = txt n ++ (vint o.toNat ++ vint u.toNat) := by simp [itemL, nat]
  rw [e] at h ⊢
  rw [List.append_assoc, List.append_assoc] at h
  unfold step2
  simp only at h ⊢
  rw [rtext_at h hx.1]
  simp only
  rw [rnum_at (drop_next h) hx.2.1]
  simp only
  rw [rnum_at (drop_next (drop_next h)) hx.2.2]
  simp only [List.length_append, Nat.add_assoc]
theorem step3_at {l r : List Int} {a : Nat} {x : S97} {acc : List S97} (h : l.drop a = itemS x ++ r) (hx : fitS x) : step3 l ((((a : Nat) : Int), false), acc) = ((((a + (itemS x).length : Nat) : Int), false), acc ++ [x]) := by
  obtain ⟨c, s, ⟨q, v⟩⟩ := x
  have e : itemS ⟨c, s, ⟨q, v⟩⟩ = vint c.toNat ++ (vint s.toNat ++ (vint q.toNat ++ txt v)) := by simp [itemS, nat]
  rw [e] at h ⊢
  rw [List.append_assoc, List.append_assoc, List.append_assoc] at h
  unfold step3
  simp only at h ⊢
  rw [rnum_at h hx.1]
  simp only
  rw [rnum_at (drop_next h) hx.2.1]
  simp only
  rw [rnum_at (drop_next (drop_next h)) hx.2.2.1]
  simp only
  rw [rtext_at (drop_next (drop_next (drop_next h))) hx.2.2.2]
  simp only [List.length_append, Nat.add_assoc]
theorem rep_at {σ : Type} {l : List Int} {f : (Int × Bool) × List σ → (Int × Bool) × List σ} {enc : σ → List Int} {fit : σ → Prop}
    (hf : ∀ (r : List Int) (a : Nat) (x : σ) (acc : List σ), l.drop a = enc x ++ r → fit x → f ((((a : Nat) : Int), false), acc) = ((((a + (enc x).length : Nat) : Int), false), acc ++ [x])) :
    ∀ (xs : List σ) (r : List Int) (a : Nat) (acc : List σ), l.drop a = xs.flatMap enc ++ r → (∀ x ∈ xs, fit x) → rep f xs.length ((((a : Nat) : Int), false), acc) = ((((a + (xs.flatMap enc).length : Nat) : Int), false), acc ++ xs)
  | [], r, a, acc, _, _ => by simp [rep]
  | x :: xs, r, a, acc, h, hx => by
    rw [List.flatMap_cons, List.append_assoc] at h
    rw [List.length_cons, rep_go _ _ _ rfl, hf _ a x acc h (hx x (by simp)), rep_at hf xs r _ _ (drop_next h) (fun y hy => hx y (by simp [hy]))]
    simp only [List.flatMap_cons, List.length_append, List.append_assoc, Nat.add_assoc, List.cons_append, List.nil_append]
theorem many_at {σ : Type} {l : List Int} {f : (Int × Bool) × List σ → (Int × Bool) × List σ} {enc : σ → List Int} {fit : σ → Prop}
    (hf : ∀ (r : List Int) (a : Nat) (x : σ) (acc : List σ), l.drop a = enc x ++ r → fit x → f ((((a : Nat) : Int), false), acc) = ((((a + (enc x).length : Nat) : Int), false), acc ++ [x]))
    (xs : List σ) (r : List Int) (a : Nat) (h : l.drop a = vint (xs.length : Int).toNat ++ (xs.flatMap enc ++ r)) (hn : xs.length ≤ 1000) (hx : ∀ x ∈ xs, fit x) :
    many l f (((a : Nat) : Int), false) [] = ((((a + (vint (xs.length : Int).toNat).length + (xs.flatMap enc).length : Nat) : Int), false), xs) := by
  unfold many
  rw [rnum_at h (by unfold okInt; omega)]
  simp only
  rw [Int.toNat_natCast] at h ⊢
  rw [rep_at hf xs r _ _ (drop_next h) hx]
  simp
theorem fit_of_goodE {l : List S72} (h : goodE l) : l.length ≤ 1000 ∧ ∀ x ∈ l, fitE x := by
  refine ⟨by have := h.1; omega, fun x hx => ?_⟩
  obtain ⟨i, hi, rfl⟩ := List.getElem_of_mem hx
  have := (h.2 (i : Int) (by omega) (by omega)).num
  unfold rd_T72 at this
  rw [Int.toNat_natCast, List.getD_eq_getElem?_getD, List.getElem?_eq_getElem hi] at this
  exact ⟨by have := this.2.1; simp only [Option.getD_some] at this; omega, this.2.2⟩
theorem fit_of_goodL {l : List S87} (h : goodL l) : l.length ≤ 1000 ∧ ∀ x ∈ l, fitL x := by
  refine ⟨by have := h.1; omega, fun x hx => ?_⟩
  obtain ⟨i, hi, rfl⟩ := List.getElem_of_mem hx
  have := (h.2 (i : Int) (by omega) (by omega)).num
  unfold rd_T87 at this
  rw [Int.toNat_natCast, List.getD_eq_getElem?_getD, List.getElem?_eq_getElem hi] at this
  simp only [Option.getD_some] at this
  exact ⟨by omega, by unfold okInt; omega, by unfold okInt; omega⟩
theorem fit_of_goodS {l : List S97} (h : goodS l) : l.length ≤ 1000 ∧ ∀ x ∈ l, fitS x := by
  refine ⟨by have := goodS_len h; omega, fun x hx => ?_⟩
  obtain ⟨i, hi, rfl⟩ := List.getElem_of_mem hx
  have := (h (i : Int) (by omega) (by omega)).num
  unfold rd_T97 at this
  rw [Int.toNat_natCast, List.getD_eq_getElem?_getD, List.getElem?_eq_getElem hi] at this
  simp only [Option.getD_some] at this
  exact ⟨by unfold okInt; omega, by unfold okInt; omega, by unfold okInt; omega, by omega⟩
theorem encA_split (a0 : Int) (l1 : List S72) (l2 : List S87) (l3 : List S97) : encA a0 l1 l2 l3 = vint a0.toNat ++ (vint (l1.length : Int).toNat ++ (l1.flatMap itemE ++ (vint (l2.length : Int).toNat ++ (l2.flatMap itemL ++ (vint (l3.length : Int).toNat ++ (l3.flatMap itemS ++ [])))))) := by
  simp [encA, nat, encE, encL, encS, List.append_assoc]
/-- What was written is read as it was. -/
theorem parse_of_enc {a0 : Int} {l1 : List S72} {l2 : List S87} {l3 : List S97} (h : goodA a0 l1 l2 l3) : parse (encA a0 l1 l2 l3) = ⟨a0, l1, l2, l3, (((encA a0 l1 l2 l3).length : Nat), false)⟩ := by
  obtain ⟨l, hl⟩ : ∃ l, encA a0 l1 l2 l3 = l := ⟨_, rfl⟩
  rw [hl]
  have hs := h.slot
  have h0 : l.drop 0 = _ := hl.symm.trans (encA_split a0 l1 l2 l3)
  have e0 := rnum_at h0 (by unfold okInt; omega)
  have h1 := drop_next h0
  have e1 := many_at (enc := itemE) (fun r a x acc => step1_at) l1 _ _ h1 (fit_of_goodE h.ent).1 (fit_of_goodE h.ent).2
  have h2 := drop_next (drop_next h1)
  have e2 := many_at (enc := itemL) (fun r a x acc => step2_at) l2 _ _ h2 (fit_of_goodL h.lea).1 (fit_of_goodL h.lea).2
  have h3 := drop_next (drop_next h2)
  have e3 := many_at (enc := itemS) (fun r a x acc => step3_at) l3 _ _ h3 (fit_of_goodS h.ses).1 (fit_of_goodS h.ses).2
  have h4 := drop_next (drop_next h3)
  have hlen : l.length = (vint a0.toNat ++ (vint (l1.length : Int).toNat ++ (l1.flatMap itemE ++ (vint (l2.length : Int).toNat ++ (l2.flatMap itemL ++ (vint (l3.length : Int).toNat ++ (l3.flatMap itemS ++ []))))))).length := by rw [← encA_split, hl]
  simp only [List.length_append, List.length_nil] at hlen
  simp only [Nat.zero_add] at e0 e1 e2 e3
  unfold parse
  rw [show ((0 : Int), false) = (((0 : Nat) : Int), false) from rfl, e0]
  simp only
  rw [e1]
  simp only
  rw [e2]
  simp only
  rw [e3]
  simp only [Parsed.mk.injEq, Prod.mk.injEq, and_true, true_and]
  omega
theorem encA_inj {a0 b0 : Int} {l1 l1' : List S72} {l2 l2' : List S87} {l3 l3' : List S97} (h : goodA a0 l1 l2 l3) (k : goodA b0 l1' l2' l3') (e : encA a0 l1 l2 l3 = encA b0 l1' l2' l3') : a0 = b0 ∧ l1 = l1' ∧ l2 = l2' ∧ l3 = l3' := by
  have h1 := parse_of_enc h
  rw [e, parse_of_enc k] at h1
  injection h1 with e1 e2 e3 e4 _
  exact ⟨e1.symm, e2.symm, e3.symm, e4.symm⟩
theorem wfB_append {a b : List Int} (ha : wfB a) (hb : wfB b) : wfB (a ++ b) := fun c hc => (List.mem_append.1 hc).elim (ha c) (hb c)
theorem wfB_flatMap {α : Type} {f : α → List Int} {l : List α} (h : ∀ x ∈ l, wfB (f x)) : wfB (l.flatMap f) := fun c hc => by
  obtain ⟨x, hx, hc⟩ := List.mem_flatMap.1 hc
  exact h x hx c hc
theorem wfB_txt {p : List Int} (h : wfB p) : wfB (txt p) := wfB_append (vint_wf _) h
theorem wfB_nat (xs : List Int) : wfB (nat xs) := wfB_flatMap (fun x _ => vint_wf _)
theorem encA_wf (a0 : Int) {l1 : List S72} {l2 : List S87} {l3 : List S97} (h1 : ∀ x ∈ l1, wfB x.f0 ∧ wfB x.f1) (h2 : ∀ x ∈ l2, wfB x.f0) (h3 : ∀ x ∈ l3, wfB x.f2.f1) : wfB (encA a0 l1 l2 l3) := by
  unfold encA encE encL encS
  refine wfB_append (wfB_append (wfB_append (wfB_append (wfB_append (wfB_nat _) ?_) (wfB_nat _)) ?_) (wfB_nat _)) ?_
  · exact wfB_flatMap (fun x hx => wfB_append (wfB_txt (h1 x hx).1) (wfB_txt (h1 x hx).2))
  · exact wfB_flatMap (fun x hx => wfB_append (wfB_txt (h2 x hx)) (wfB_nat _))
  · exact wfB_flatMap (fun x hx => wfB_append (wfB_nat _) (wfB_txt (h3 x hx)))

end Go.Proofs.Ytophfoenaekfjaa

namespace Go.Proofs.Ytophfoenaekfjaa
open Go.RowKit Go.Proofs.YtophfoenaekfjaaW.PrintWords Go.Proofs.YtophfoenaekfjaaW.PrintLast Go.Proofs.YtophfoenaekfjaaW.PrintMore Go.Proofs.Ytophfoenaekfjaa.PSnapEncodes
set_option linter.unusedVariables false
set_option linter.unusedSimpArgs false
set_option maxHeartbeats 4000000 in
set_option maxRecDepth 100000 in
theorem law_SnapDecodes_good (A : Option Addr) (c : Nat) (l : List Int) (w : World) (hr : CB w A l) (hc : l.length ≤ c) (hw : wfB l) (hL : l.length ≤ 1048576) (HG : Aside0 ((parse l).ok l)) :
    Calls Try.prog 4 #[.slice A l.length c] w fun e w' => e = .returned (.bool true) ∧ Below w.heap.size w w' := by
  have HW := Aside0.mk hw
  have HR := Aside0.mk hr
  clear hr hw
  have HB := Aside0.mk (Below.refl w.heap.size w)
  go_enter Try.func4, Try.ntmps4
  go_wp2_with fail
  refine (snapAlive w).mono ?_
  rintro e w1 ⟨rfl, hb⟩
  replace HB := Aside0.mk (below_step HB.out hb)
  clear hb
  have HS1 := Aside0.mk (below_size HB.out)
  go_wp2_with (first | ((with_reducible refine gate_dst (N := 13) rfl ?_); refine ob_lit ([] : List Int) [] ?hg (N := 13) ?hd ?hr ?hi ?hm ?_; (case hd => rfl); (case hg => rfl); (case hr => first | (go_simp; done) | (go_simp; rfl)); (case hi => rfl); (case hm => simp); intro v2 w2 ho hb; have HO2 := Aside0.mk ho; have HB2 := Aside0.mk hb; have HS2 := Aside0.mk (below_size hb); clear ho hb) | ((with_reducible refine gate_builtin (b := .append) (xs := #[.tmp 13, .tmp 14]) rfl ?_); at_builtin; refine ob_append rfl (.tmp 13) (.tmp 14) rfl rfl rfl HO2.out (Kd.C_below HR.out (HB.out.trans (HB2.out.mono HS1.out))) ?hb ?hl ?_; (case hb => exact HS2.out); (case hl => exact (by simp; omega)); intro v3 w3 ho hg hat; have HO3 := Aside0.mk (show OB w3 w1.heap.size v3 l from ho); have HB3 := Aside0.mk (below_grown' (B := w.heap.size) (HB.out.trans (HB2.out.mono HS1.out)) (HO2.out.lower HS1.out) (Nat.le_trans HS1.out HS2.out) hg); clear ho hg hat))
  clear HB HB2 HO2 HS2
  obtain ⟨A3, c3, hv3, hc3, hr3⟩ := HO3.out.reads
  subst hv3
  obtain ⟨N, hN⟩ : ∃ N, N = w3.heap.size := ⟨_, rfl⟩
  refine (snap_Decode A3 c3 l w3 hr3 hc3 HW.out (by omega)).mono ?_
  rintro e w4 hp
  obtain ⟨m, v1, v2, v3, es, ls, ss, er, rfl, r1, r2, r3, hb, hyes, hno⟩ := hp.out
  clear hr3
  obtain ⟨em, e1, e2, e3, her⟩ := hyes HG.out
  have HE := Aside0.mk (And.intro em (And.intro e1 (And.intro e2 e3)))
  subst her
  clear hyes hno em e1 e2 e3
  rw [← hN] at r1 r2 r3
  obtain ⟨Q1, q1, hq1⟩ := Kd.S_slice r1
  obtain ⟨Q2, q2, hq2⟩ := Kd.S_slice r2
  obtain ⟨Q3, q3, hq3⟩ := Kd.S_slice r3
  subst hq1
  subst hq2
  subst hq3
  have HD := Aside0.mk (show ∀ k, (Value.slice A3 l.length c3).ownBlock = some k → k < N ∧ w.heap.size ≤ k from fun k hk => by rw [hN]; exact ⟨HO3.out.lt k hk, Nat.le_trans HS1.out (HO3.out.base_le k hk)⟩)
  have HE1 := Aside0.mk (show N ≤ w4.heap.size by rw [hN]; exact hb.size)
  replace HB3 := Aside0.mk (below_step HB3.out hb)
  replace HO3 := Aside0.mk (OB.below HO3.out hb)
  clear hb
  have G1 := Aside0.mk (r1)
  have G2 := Aside0.mk (r2)
  have G3 := Aside0.mk (r3)
  clear r1 r2 r3 hN
  obtain ⟨g5, hg5⟩ : ∃ g, g = w4.heap.size := ⟨_, rfl⟩
  obtain ⟨w5, hw5⟩ : ∃ W, W = w4.alloc (.cells #[.int .i64 m, .slice Q1 es.length q1, .slice Q2 ls.length q2, .slice Q3 ss.length q3] 26) := ⟨_, rfl⟩
  have HX_w5 := Aside0.mk (show Below w4.heap.size w4 w5 by rw [hw5]; exact below_alloc (Below.refl _ _) _)
  replace HB3 := Aside0.mk (below_step HB3.out HX_w5.out)
  replace HO3 := Aside0.mk (OB.below HO3.out HX_w5.out)
  replace G1 := Aside0.mk (Kd.S_below G1.out HX_w5.out)
  replace G2 := Aside0.mk (Kd.S_below G2.out HX_w5.out)
  replace G3 := Aside0.mk (Kd.S_below G3.out HX_w5.out)
  clear HX_w5
  have HK5 := Aside0.mk (show w5.heap[g5]? = some (.cells #[.int .i64 m, .slice Q1 es.length q1, .slice Q2 ls.length q2, .slice Q3 ss.length q3] 26 (0, 0)) by rw [hw5, hg5]; exact blk_new _ _)
  have HG_g5 := Aside0.mk (show w4.heap.size ≤ g5 from Nat.le_of_eq hg5.symm)
  have hl_g50 : (w4.alloc (.cells #[.int .i64 m, .slice Q1 es.length q1, .slice Q2 ls.length q2, .slice Q3 ss.length q3] 26)).cell? ⟨w4.heap.size, 0, none⟩ = some (.int .i64 m) := by rw [← hw5, ← hg5]; exact (blk_cell HK5.out 0).trans rfl
  have hl_g51 : (w4.alloc (.cells #[.int .i64 m, .slice Q1 es.length q1, .slice Q2 ls.length q2, .slice Q3 ss.length q3] 26)).cell? ⟨w4.heap.size, 1, none⟩ = some (.slice Q1 es.length q1) := by rw [← hw5, ← hg5]; exact (blk_cell HK5.out 1).trans rfl
  have hl_g52 : (w4.alloc (.cells #[.int .i64 m, .slice Q1 es.length q1, .slice Q2 ls.length q2, .slice Q3 ss.length q3] 26)).cell? ⟨w4.heap.size, 2, none⟩ = some (.slice Q2 ls.length q2) := by rw [← hw5, ← hg5]; exact (blk_cell HK5.out 2).trans rfl
  have hl_g53 : (w4.alloc (.cells #[.int .i64 m, .slice Q1 es.length q1, .slice Q2 ls.length q2, .slice Q3 ss.length q3] 26)).cell? ⟨w4.heap.size, 3, none⟩ = some (.slice Q3 ss.length q3) := by rw [← hw5, ← hg5]; exact (blk_cell HK5.out 3).trans rfl
  go_wp2_with fail
  try rw [← hg5]
  rw [← hw5]
  clear hl_g50 hl_g51 hl_g52 hl_g53
  clear hg5 hw5
  go_loopw [23] (fun v wr => ∃ x : Int, v = .int .i64 x ∧ 0 ≤ x ∧ x ≤ l.length ∧ Aside0 (∃ l' : List Int, l'.length = l.length ∧ OB wr w1.heap.size (.slice A3 l.length c3) l') ∧ Aside0 (Ch w5 wr (fun k => some k = (Value.slice A3 l.length c3).ownBlock))) (fun v _ => l.length - (intOf v).toNat)
  case atStart => exact ⟨0, rfl, by omega, by omega, ⟨l, rfl, HO3.out⟩, ⟨Ch.refl _ _⟩⟩
  case round =>
    obtain ⟨x, rfl, h0, h1, HL, HC⟩ := hrel
    by_cases hlt : x < l.length
    · obtain ⟨l', hl', ho'⟩ := HL.out
      obtain ⟨g, cap, hv, _, _, _⟩ := Kd.R_form ho'.out (by omega)
      injection hv with hA h2_ h3_
      clear h2_ h3_
      subst hA
      have hcl := Kd.R_celln (0 : Int) ho'.out x h0 hlt
      have hx0 : wr.cell? ⟨g, x.toNat, none⟩ = some (.int .u8 (rdOf 0 l' x)) := hcl.1
      have hxf := hcl.2
      have HO' := Aside0.mk ho'
      have HLL := Aside0.mk hl'
      clear hcl HL ho' hl'
      go_wp2_with fail
      go_roundw
      case rel => exact ⟨x + 1, by go_num, by omega, by omega, ⟨_, (List.length_set ..).trans HLL.out, ⟨(Kd.R_putg HO'.out.out x _).1⟩⟩, ⟨HC.out.grown (Kd.R_putg HO'.out.out x _).2 (fun i hi => .inl hi)⟩⟩
      case measure => simp [intOf]; omega
    · have HD2 := HD.out
      have HCH := HC.out
      obtain ⟨w6, hw6⟩ : ∃ w6, wr = w6 := ⟨_, rfl⟩
      subst hw6
      replace G1 := Aside0.mk (Kd.S_mono (Kd.S_step (w1 := wr) (Kd.S_bound G1.out) (fun k hk hlt => HCH.block k hlt (fun e => by have := (HD2 k e.symm).1; have := hk.2.1; omega))) (fun _ hk => hk.1))
      replace G2 := Aside0.mk (Kd.S_mono (Kd.S_step (w1 := wr) (Kd.S_bound G2.out) (fun k hk hlt => HCH.block k hlt (fun e => by have := (HD2 k e.symm).1; have := hk.2.1; omega))) (fun _ hk => hk.1))
      replace G3 := Aside0.mk (Kd.S_mono (Kd.S_step (w1 := wr) (Kd.S_bound G3.out) (fun k hk hlt => HCH.block k hlt (fun e => by have := (HD2 k e.symm).1; have := hk.2.1; omega))) (fun _ hk => hk.1))
      replace HB3 := Aside0.mk (Ch.onto HB3.out HCH (fun i hi => (HD2 i hi.symm).2) (below_size HB3.out))
      replace HK5 := Aside0.mk (HCH.blk HK5.out (fun e => by have := (HD2 g5 e.symm).1; have := HG_g5.out; have := HE1.out; omega))
      clear HCH HC HL HO3 HD HD2
      go_wp2_with fail
      refine (ref10_Decode A c l wr (Kd.C_below HR.out HB3.out) hc HW.out (by omega)).mono ?_
      rintro e w7 hp
      obtain ⟨m', v1, v2, v3, es', ls', ss', er', rfl, r1, r2, r3, hb, hyes, hno⟩ := hp.out
      obtain ⟨em, e1, e2, e3, her⟩ := hyes ((parse_ok HW.out).1 HG.out)
      rw [← parse_eq HW.out HG.out] at em e1 e2 e3
      subst her
      obtain rfl : m = m' := HE.out.1.trans em.symm
      obtain rfl : es = es' := HE.out.2.1.trans e1.symm
      obtain rfl : ls = ls' := HE.out.2.2.1.trans e2.symm
      obtain rfl : ss = ss' := HE.out.2.2.2.trans e3.symm
      clear em e1 e2 e3 hyes hno
      obtain ⟨R1, t1, hq1⟩ := Kd.S_slice r1
      obtain ⟨R2, t2, hq2⟩ := Kd.S_slice r2
      obtain ⟨R3, t3, hq3⟩ := Kd.S_slice r3
      subst hq1
      subst hq2
      subst hq3
      replace HB3 := Aside0.mk (below_step HB3.out hb)
      replace G1 := Aside0.mk (Kd.S_below G1.out hb)
      replace G2 := Aside0.mk (Kd.S_below G2.out hb)
      replace G3 := Aside0.mk (Kd.S_below G3.out hb)
      replace HK5 := Aside0.mk (blk_below HK5.out hb)
      clear hb
      have T1 := Aside0.mk (r1)
      have T2 := Aside0.mk (r2)
      have T3 := Aside0.mk (r3)
      clear r1 r2 r3
      obtain ⟨g8, hg8⟩ : ∃ g, g = w7.heap.size := ⟨_, rfl⟩
      obtain ⟨w8, hw8⟩ : ∃ W, W = w7.alloc (.cells #[.int .i64 m, .slice R1 es.length t1, .slice R2 ls.length t2, .slice R3 ss.length t3] 26) := ⟨_, rfl⟩
      have HX_w8 := Aside0.mk (show Below w7.heap.size w7 w8 by rw [hw8]; exact below_alloc (Below.refl _ _) _)
      replace HB3 := Aside0.mk (below_step HB3.out HX_w8.out)
      replace G1 := Aside0.mk (Kd.S_below G1.out HX_w8.out)
      replace G2 := Aside0.mk (Kd.S_below G2.out HX_w8.out)
      replace G3 := Aside0.mk (Kd.S_below G3.out HX_w8.out)
      replace HK5 := Aside0.mk (blk_below HK5.out HX_w8.out)
      replace T1 := Aside0.mk (Kd.S_below T1.out HX_w8.out)
      replace T2 := Aside0.mk (Kd.S_below T2.out HX_w8.out)
      replace T3 := Aside0.mk (Kd.S_below T3.out HX_w8.out)
      clear HX_w8
      have HK8 := Aside0.mk (show w8.heap[g8]? = some (.cells #[.int .i64 m, .slice R1 es.length t1, .slice R2 ls.length t2, .slice R3 ss.length t3] 26 (0, 0)) by rw [hw8, hg8]; exact blk_new _ _)
      have HG_g8 := Aside0.mk (show w7.heap.size ≤ g8 from Nat.le_of_eq hg8.symm)
      have hl_g80 : (w7.alloc (.cells #[.int .i64 m, .slice R1 es.length t1, .slice R2 ls.length t2, .slice R3 ss.length t3] 26)).cell? ⟨w7.heap.size, 0, none⟩ = some (.int .i64 m) := by rw [← hw8, ← hg8]; exact (blk_cell HK8.out 0).trans rfl
      have hl_g81 : (w7.alloc (.cells #[.int .i64 m, .slice R1 es.length t1, .slice R2 ls.length t2, .slice R3 ss.length t3] 26)).cell? ⟨w7.heap.size, 1, none⟩ = some (.slice R1 es.length t1) := by rw [← hw8, ← hg8]; exact (blk_cell HK8.out 1).trans rfl
      have hl_g82 : (w7.alloc (.cells #[.int .i64 m, .slice R1 es.length t1, .slice R2 ls.length t2, .slice R3 ss.length t3] 26)).cell? ⟨w7.heap.size, 2, none⟩ = some (.slice R2 ls.length t2) := by rw [← hw8, ← hg8]; exact (blk_cell HK8.out 2).trans rfl
      have hl_g83 : (w7.alloc (.cells #[.int .i64 m, .slice R1 es.length t1, .slice R2 ls.length t2, .slice R3 ss.length t3] 26)).cell? ⟨w7.heap.size, 3, none⟩ = some (.slice R3 ss.length t3) := by rw [← hw8, ← hg8]; exact (blk_cell HK8.out 3).trans rfl
      have hz0 : (w7.alloc (.cells #[.int .i64 m, .slice R1 es.length t1, .slice R2 ls.length t2, .slice R3 ss.length t3] 26)).cell? ⟨g5, 0, none⟩ = some (.int .i64 m) := by rw [← hw8]; exact (blk_cell HK5.out 0).trans rfl
      have hz1 : (w7.alloc (.cells #[.int .i64 m, .slice R1 es.length t1, .slice R2 ls.length t2, .slice R3 ss.length t3] 26)).cell? ⟨g5, 1, none⟩ = some (.slice Q1 es.length q1) := by rw [← hw8]; exact (blk_cell HK5.out 1).trans rfl
      have hz2 : (w7.alloc (.cells #[.int .i64 m, .slice R1 es.length t1, .slice R2 ls.length t2, .slice R3 ss.length t3] 26)).cell? ⟨g5, 2, none⟩ = some (.slice Q2 ls.length q2) := by rw [← hw8]; exact (blk_cell HK5.out 2).trans rfl
      have hz3 : (w7.alloc (.cells #[.int .i64 m, .slice R1 es.length t1, .slice R2 ls.length t2, .slice R3 ss.length t3] 26)).cell? ⟨g5, 3, none⟩ = some (.slice Q3 ss.length q3) := by rw [← hw8]; exact (blk_cell HK5.out 3).trans rfl
      go_wp2_with fail
      try rw [← hg8]
      rw [← hw8]
      clear hl_g80 hl_g81 hl_g82 hl_g83 hz0 hz1 hz2 hz3
      clear hg8 hw8
      refine (ref09_Same m m Q1 Q2 Q3 R1 R2 R3 q1 q2 q3 t1 t2 t3 es es ls ls ss ss w8 (Kd.S_reads' G1.out).2.2 (Kd.S_reads' G2.out).2.2 (Kd.S_reads' G3.out).2.2 (Kd.S_reads' T1.out).2.2 (Kd.S_reads' T2.out).2.2 (Kd.S_reads' T3.out).2.2).mono ?_
      rintro e w9 hp
      obtain ⟨rb, rfl, hb, hiff⟩ := hp
      have hrb := hiff.2 (sameA_refl _ _ _ _)
      subst hrb
      clear hiff
      replace HB3 := Aside0.mk (below_step HB3.out hb)
      replace G1 := Aside0.mk (Kd.S_below G1.out hb)
      replace G2 := Aside0.mk (Kd.S_below G2.out hb)
      replace G3 := Aside0.mk (Kd.S_below G3.out hb)
      replace HK5 := Aside0.mk (blk_below HK5.out hb)
      replace T1 := Aside0.mk (Kd.S_below T1.out hb)
      replace T2 := Aside0.mk (Kd.S_below T2.out hb)
      replace T3 := Aside0.mk (Kd.S_below T3.out hb)
      replace HK8 := Aside0.mk (blk_below HK8.out hb)
      clear hb
      have hz0 : w9.cell? ⟨g5, 0, none⟩ = some (.int .i64 m) := (blk_cell HK5.out 0).trans rfl
      have hz1 : w9.cell? ⟨g5, 1, none⟩ = some (.slice Q1 es.length q1) := (blk_cell HK5.out 1).trans rfl
      have hz2 : w9.cell? ⟨g5, 2, none⟩ = some (.slice Q2 ls.length q2) := (blk_cell HK5.out 2).trans rfl
      have hz3 : w9.cell? ⟨g5, 3, none⟩ = some (.slice Q3 ss.length q3) := (blk_cell HK5.out 3).trans rfl
      go_wp2_with fail
      refine (snap_Encode m Q1 Q2 Q3 q1 q2 q3 es ls ss w9 (Kd.S_reads' G1.out).2.2 (Kd.S_reads' G1.out).2.1 (Kd.S_reads' G2.out).2.2 (Kd.S_reads' G2.out).2.1 (Kd.S_reads' G3.out).2.2 (Kd.S_reads' G3.out).2.1).mono ?_
      rintro e w10 hp
      obtain ⟨v, b, er, rfl, ho, hb, hyes, hno⟩ := hp.out
      clear hz0 hz1 hz2 hz3
      have hgood : goodA m es ls ss := by rw [HE.out.1, HE.out.2.1, HE.out.2.2.1, HE.out.2.2.2]; exact HG.out.2.1
      have henc : encA m es ls ss = l := by rw [HE.out.1, HE.out.2.1, HE.out.2.2.1, HE.out.2.2.2]; exact parse_enc HW.out HG.out
      obtain ⟨hb1, her⟩ := hyes hgood
      subst her
      rw [henc] at hb1
      subst hb1
      obtain ⟨E1, f1, hv, hf, hr⟩ := ho.reads
      subst hv
      clear hyes hno ho hgood henc
      have HE2 := Aside0.mk (hr)
      replace HB3 := Aside0.mk (below_step HB3.out hb)
      clear hb hr hf
      go_wp2_with fail
      refine (ref01_Same E1 A f1 c b b w10 HE2.out (Kd.C_below HR.out HB3.out)).mono ?_
      rintro e w11 ⟨he, hd⟩
      rw [sameB_refl] at he
      subst he
      have hb := hd.below
      replace HB3 := Aside0.mk (below_step HB3.out hb)
      clear hb hd
      go_wp2_with fail
      go_ret
      exact ⟨rfl, HB3.out⟩
set_option maxHeartbeats 4000000 in
set_option maxRecDepth 100000 in
theorem law_SnapDecodes_bad (A : Option Addr) (c : Nat) (l : List Int) (w : World) (hr : CB w A l) (hc : l.length ≤ c) (hw : wfB l) (hL : l.length ≤ 1048576) (HG : Aside0 (¬ (parse l).ok l)) :
    Calls Try.prog 4 #[.slice A l.length c] w fun e w' => e = .returned (.bool true) ∧ Below w.heap.size w w' := by
  have HW := Aside0.mk hw
  have HR := Aside0.mk hr
  clear hr hw
  have HB := Aside0.mk (Below.refl w.heap.size w)
  go_enter Try.func4, Try.ntmps4
  go_wp2_with fail
  refine (snapAlive w).mono ?_
  rintro e w1 ⟨rfl, hb⟩
  replace HB := Aside0.mk (below_step HB.out hb)
  clear hb
  have HS1 := Aside0.mk (below_size HB.out)
  go_wp2_with (first | ((with_reducible refine gate_dst (N := 13) rfl ?_); refine ob_lit ([] : List Int) [] ?hg (N := 13) ?hd ?hr ?hi ?hm ?_; (case hd => rfl); (case hg => rfl); (case hr => first | (go_simp; done) | (go_simp; rfl)); (case hi => rfl); (case hm => simp); intro v2 w2 ho hb; have HO2 := Aside0.mk ho; have HB2 := Aside0.mk hb; have HS2 := Aside0.mk (below_size hb); clear ho hb) | ((with_reducible refine gate_builtin (b := .append) (xs := #[.tmp 13, .tmp 14]) rfl ?_); at_builtin; refine ob_append rfl (.tmp 13) (.tmp 14) rfl rfl rfl HO2.out (Kd.C_below HR.out (HB.out.trans (HB2.out.mono HS1.out))) ?hb ?hl ?_; (case hb => exact HS2.out); (case hl => exact (by simp; omega)); intro v3 w3 ho hg hat; have HO3 := Aside0.mk (show OB w3 w1.heap.size v3 l from ho); have HB3 := Aside0.mk (below_grown' (B := w.heap.size) (HB.out.trans (HB2.out.mono HS1.out)) (HO2.out.lower HS1.out) (Nat.le_trans HS1.out HS2.out) hg); clear ho hg hat))
  clear HB HB2 HO2 HS2
  obtain ⟨A3, c3, hv3, hc3, hr3⟩ := HO3.out.reads
  subst hv3
  obtain ⟨N, hN⟩ : ∃ N, N = w3.heap.size := ⟨_, rfl⟩
  refine (snap_Decode A3 c3 l w3 hr3 hc3 HW.out (by omega)).mono ?_
  rintro e w4 hp
  obtain ⟨m, v1, v2, v3, es, ls, ss, er, rfl, r1, r2, r3, hb, hyes, hno⟩ := hp.out
  clear hr3
  obtain ⟨em, e1, e2, e3, her⟩ := hno HG.out
  have HE := Aside0.mk (And.intro em (And.intro e1 (And.intro e2 e3)))
  subst her
  clear hyes hno em e1 e2 e3
  rw [← hN] at r1 r2 r3
  obtain ⟨Q1, q1, hq1⟩ := Kd.S_slice r1
  obtain ⟨Q2, q2, hq2⟩ := Kd.S_slice r2
  obtain ⟨Q3, q3, hq3⟩ := Kd.S_slice r3
  subst hq1
  subst hq2
  subst hq3
  have HD := Aside0.mk (show ∀ k, (Value.slice A3 l.length c3).ownBlock = some k → k < N ∧ w.heap.size ≤ k from fun k hk => by rw [hN]; exact ⟨HO3.out.lt k hk, Nat.le_trans HS1.out (HO3.out.base_le k hk)⟩)
  have HE1 := Aside0.mk (show N ≤ w4.heap.size by rw [hN]; exact hb.size)
  replace HB3 := Aside0.mk (below_step HB3.out hb)
  replace HO3 := Aside0.mk (OB.below HO3.out hb)
  clear hb
  have G1 := Aside0.mk (r1)
  have G2 := Aside0.mk (r2)
  have G3 := Aside0.mk (r3)
  clear r1 r2 r3 hN
  obtain ⟨g5, hg5⟩ : ∃ g, g = w4.heap.size := ⟨_, rfl⟩
  obtain ⟨w5, hw5⟩ : ∃ W, W = w4.alloc (.cells #[.int .i64 m, .slice Q1 es.length q1, .slice Q2 ls.length q2, .slice Q3 ss.length q3] 26) := ⟨_, rfl⟩
  have HX_w5 := Aside0.mk (show Below w4.heap.size w4 w5 by rw [hw5]; exact below_alloc (Below.refl _ _) _)
  replace HB3 := Aside0.mk (below_step HB3.out HX_w5.out)
  replace HO3 := Aside0.mk (OB.below HO3.out HX_w5.out)
  replace G1 := Aside0.mk (Kd.S_below G1.out HX_w5.out)
  replace G2 := Aside0.mk (Kd.S_below G2.out HX_w5.out)
  replace G3 := Aside0.mk (Kd.S_below G3.out HX_w5.out)
  clear HX_w5
  have HK5 := Aside0.mk (show w5.heap[g5]? = some (.cells #[.int .i64 m, .slice Q1 es.length q1, .slice Q2 ls.length q2, .slice Q3 ss.length q3] 26 (0, 0)) by rw [hw5, hg5]; exact blk_new _ _)
  have HG_g5 := Aside0.mk (show w4.heap.size ≤ g5 from Nat.le_of_eq hg5.symm)
  have hl_g50 : (w4.alloc (.cells #[.int .i64 m, .slice Q1 es.length q1, .slice Q2 ls.length q2, .slice Q3 ss.length q3] 26)).cell? ⟨w4.heap.size, 0, none⟩ = some (.int .i64 m) := by rw [← hw5, ← hg5]; exact (blk_cell HK5.out 0).trans rfl
  have hl_g51 : (w4.alloc (.cells #[.int .i64 m, .slice Q1 es.length q1, .slice Q2 ls.length q2, .slice Q3 ss.length q3] 26)).cell? ⟨w4.heap.size, 1, none⟩ = some (.slice Q1 es.length q1) := by rw [← hw5, ← hg5]; exact (blk_cell HK5.out 1).trans rfl
  have hl_g52 : (w4.alloc (.cells #[.int .i64 m, .slice Q1 es.length q1, .slice Q2 ls.length q2, .slice Q3 ss.length q3] 26)).cell? ⟨w4.heap.size, 2, none⟩ = some (.slice Q2 ls.length q2) := by rw [← hw5, ← hg5]; exact (blk_cell HK5.out 2).trans rfl
  have hl_g53 : (w4.alloc (.cells #[.int .i64 m, .slice Q1 es.length q1, .slice Q2 ls.length q2, .slice Q3 ss.length q3] 26)).cell? ⟨w4.heap.size, 3, none⟩ = some (.slice Q3 ss.length q3) := by rw [← hw5, ← hg5]; exact (blk_cell HK5.out 3).trans rfl
  go_wp2_with fail
  try rw [← hg5]
  rw [← hw5]
  clear hl_g50 hl_g51 hl_g52 hl_g53
  clear hg5 hw5
  go_loopw [23] (fun v wr => ∃ x : Int, v = .int .i64 x ∧ 0 ≤ x ∧ x ≤ l.length ∧ Aside0 (∃ l' : List Int, l'.length = l.length ∧ OB wr w1.heap.size (.slice A3 l.length c3) l') ∧ Aside0 (Ch w5 wr (fun k => some k = (Value.slice A3 l.length c3).ownBlock))) (fun v _ => l.length - (intOf v).toNat)
  case atStart => exact ⟨0, rfl, by omega, by omega, ⟨l, rfl, HO3.out⟩, ⟨Ch.refl _ _⟩⟩
  case round =>
    obtain ⟨x, rfl, h0, h1, HL, HC⟩ := hrel
    by_cases hlt : x < l.length
    · obtain ⟨l', hl', ho'⟩ := HL.out
      obtain ⟨g, cap, hv, _, _, _⟩ := Kd.R_form ho'.out (by omega)
      injection hv with hA h2_ h3_
      clear h2_ h3_
      subst hA
      have hcl := Kd.R_celln (0 : Int) ho'.out x h0 hlt
      have hx0 : wr.cell? ⟨g, x.toNat, none⟩ = some (.int .u8 (rdOf 0 l' x)) := hcl.1
      have hxf := hcl.2
      have HO' := Aside0.mk ho'
      have HLL := Aside0.mk hl'
      clear hcl HL ho' hl'
      go_wp2_with fail
      go_roundw
      case rel => exact ⟨x + 1, by go_num, by omega, by omega, ⟨_, (List.length_set ..).trans HLL.out, ⟨(Kd.R_putg HO'.out.out x _).1⟩⟩, ⟨HC.out.grown (Kd.R_putg HO'.out.out x _).2 (fun i hi => .inl hi)⟩⟩
      case measure => simp [intOf]; omega
    · have HD2 := HD.out
      have HCH := HC.out
      obtain ⟨w6, hw6⟩ : ∃ w6, wr = w6 := ⟨_, rfl⟩
      subst hw6
      replace G1 := Aside0.mk (Kd.S_mono (Kd.S_step (w1 := wr) (Kd.S_bound G1.out) (fun k hk hlt => HCH.block k hlt (fun e => by have := (HD2 k e.symm).1; have := hk.2.1; omega))) (fun _ hk => hk.1))
      replace G2 := Aside0.mk (Kd.S_mono (Kd.S_step (w1 := wr) (Kd.S_bound G2.out) (fun k hk hlt => HCH.block k hlt (fun e => by have := (HD2 k e.symm).1; have := hk.2.1; omega))) (fun _ hk => hk.1))
      replace G3 := Aside0.mk (Kd.S_mono (Kd.S_step (w1 := wr) (Kd.S_bound G3.out) (fun k hk hlt => HCH.block k hlt (fun e => by have := (HD2 k e.symm).1; have := hk.2.1; omega))) (fun _ hk => hk.1))
      replace HB3 := Aside0.mk (Ch.onto HB3.out HCH (fun i hi => (HD2 i hi.symm).2) (below_size HB3.out))
      replace HK5 := Aside0.mk (HCH.blk HK5.out (fun e => by have := (HD2 g5 e.symm).1; have := HG_g5.out; have := HE1.out; omega))
      clear HCH HC HL HO3 HD HD2
      go_wp2_with fail
      refine (ref10_Decode A c l wr (Kd.C_below HR.out HB3.out) hc HW.out (by omega)).mono ?_
      rintro e w7 hp
      obtain ⟨m', v1, v2, v3, es', ls', ss', er', rfl, r1, r2, r3, hb, hyes, hno⟩ := hp.out
      obtain ⟨em, e1, e2, e3, her⟩ := hno (fun h => HG.out ((parse_ok HW.out).2 h))
      subst her
      obtain rfl : m = m' := HE.out.1.trans em.symm
      obtain rfl : es = es' := HE.out.2.1.trans e1.symm
      obtain rfl : ls = ls' := HE.out.2.2.1.trans e2.symm
      obtain rfl : ss = ss' := HE.out.2.2.2.trans e3.symm
      clear em e1 e2 e3 hyes hno
      obtain ⟨R1, t1, hq1⟩ := Kd.S_slice r1
      obtain ⟨R2, t2, hq2⟩ := Kd.S_slice r2
      obtain ⟨R3, t3, hq3⟩ := Kd.S_slice r3
      subst hq1
      subst hq2
      subst hq3
      replace HB3 := Aside0.mk (below_step HB3.out hb)
      replace G1 := Aside0.mk (Kd.S_below G1.out hb)
      replace G2 := Aside0.mk (Kd.S_below G2.out hb)
      replace G3 := Aside0.mk (Kd.S_below G3.out hb)
      replace HK5 := Aside0.mk (blk_below HK5.out hb)
      clear hb
      have T1 := Aside0.mk (r1)
      have T2 := Aside0.mk (r2)
      have T3 := Aside0.mk (r3)
      clear r1 r2 r3
      obtain ⟨g8, hg8⟩ : ∃ g, g = w7.heap.size := ⟨_, rfl⟩
      obtain ⟨w8, hw8⟩ : ∃ W, W = w7.alloc (.cells #[.int .i64 m, .slice R1 es.length t1, .slice R2 ls.length t2, .slice R3 ss.length t3] 26) := ⟨_, rfl⟩
      have HX_w8 := Aside0.mk (show Below w7.heap.size w7 w8 by rw [hw8]; exact below_alloc (Below.refl _ _) _)
      replace HB3 := Aside0.mk (below_step HB3.out HX_w8.out)
      replace G1 := Aside0.mk (Kd.S_below G1.out HX_w8.out)
      replace G2 := Aside0.mk (Kd.S_below G2.out HX_w8.out)
      replace G3 := Aside0.mk (Kd.S_below G3.out HX_w8.out)
      replace HK5 := Aside0.mk (blk_below HK5.out HX_w8.out)
      replace T1 := Aside0.mk (Kd.S_below T1.out HX_w8.out)
      replace T2 := Aside0.mk (Kd.S_below T2.out HX_w8.out)
      replace T3 := Aside0.mk (Kd.S_below T3.out HX_w8.out)
      clear HX_w8
      have HK8 := Aside0.mk (show w8.heap[g8]? = some (.cells #[.int .i64 m, .slice R1 es.length t1, .slice R2 ls.length t2, .slice R3 ss.length t3] 26 (0, 0)) by rw [hw8, hg8]; exact blk_new _ _)
      have HG_g8 := Aside0.mk (show w7.heap.size ≤ g8 from Nat.le_of_eq hg8.symm)
      have hl_g80 : (w7.alloc (.cells #[.int .i64 m, .slice R1 es.length t1, .slice R2 ls.length t2, .slice R3 ss.length t3] 26)).cell? ⟨w7.heap.size, 0, none⟩ = some (.int .i64 m) := by rw [← hw8, ← hg8]; exact (blk_cell HK8.out 0).trans rfl
      have hl_g81 : (w7.alloc (.cells #[.int .i64 m, .slice R1 es.length t1, .slice R2 ls.length t2, .slice R3 ss.length t3] 26)).cell? ⟨w7.heap.size, 1, none⟩ = some (.slice R1 es.length t1) := by rw [← hw8, ← hg8]; exact (blk_cell HK8.out 1).trans rfl
      have hl_g82 : (w7.alloc (.cells #[.int .i64 m, .slice R1 es.length t1, .slice R2 ls.length t2, .slice R3 ss.length t3] 26)).cell? ⟨w7.heap.size, 2, none⟩ = some (.slice R2 ls.length t2) := by rw [← hw8, ← hg8]; exact (blk_cell HK8.out 2).trans rfl
      have hl_g83 : (w7.alloc (.cells #[.int .i64 m, .slice R1 es.length t1, .slice R2 ls.length t2, .slice R3 ss.length t3] 26)).cell? ⟨w7.heap.size, 3, none⟩ = some (.slice R3 ss.length t3) := by rw [← hw8, ← hg8]; exact (blk_cell HK8.out 3).trans rfl
      have hz0 : (w7.alloc (.cells #[.int .i64 m, .slice R1 es.length t1, .slice R2 ls.length t2, .slice R3 ss.length t3] 26)).cell? ⟨g5, 0, none⟩ = some (.int .i64 m) := by rw [← hw8]; exact (blk_cell HK5.out 0).trans rfl
      have hz1 : (w7.alloc (.cells #[.int .i64 m, .slice R1 es.length t1, .slice R2 ls.length t2, .slice R3 ss.length t3] 26)).cell? ⟨g5, 1, none⟩ = some (.slice Q1 es.length q1) := by rw [← hw8]; exact (blk_cell HK5.out 1).trans rfl
      have hz2 : (w7.alloc (.cells #[.int .i64 m, .slice R1 es.length t1, .slice R2 ls.length t2, .slice R3 ss.length t3] 26)).cell? ⟨g5, 2, none⟩ = some (.slice Q2 ls.length q2) := by rw [← hw8]; exact (blk_cell HK5.out 2).trans rfl
      have hz3 : (w7.alloc (.cells #[.int .i64 m, .slice R1 es.length t1, .slice R2 ls.length t2, .slice R3 ss.length t3] 26)).cell? ⟨g5, 3, none⟩ = some (.slice Q3 ss.length q3) := by rw [← hw8]; exact (blk_cell HK5.out 3).trans rfl
      go_wp2_with fail
      try rw [← hg8]
      rw [← hw8]
      clear hl_g80 hl_g81 hl_g82 hl_g83 hz0 hz1 hz2 hz3
      clear hg8 hw8
      refine (ref09_Same m m Q1 Q2 Q3 R1 R2 R3 q1 q2 q3 t1 t2 t3 es es ls ls ss ss w8 (Kd.S_reads' G1.out).2.2 (Kd.S_reads' G2.out).2.2 (Kd.S_reads' G3.out).2.2 (Kd.S_reads' T1.out).2.2 (Kd.S_reads' T2.out).2.2 (Kd.S_reads' T3.out).2.2).mono ?_
      rintro e w9 hp
      obtain ⟨rb, rfl, hb, hiff⟩ := hp
      have hrb := hiff.2 (sameA_refl _ _ _ _)
      subst hrb
      clear hiff
      replace HB3 := Aside0.mk (below_step HB3.out hb)
      replace G1 := Aside0.mk (Kd.S_below G1.out hb)
      replace G2 := Aside0.mk (Kd.S_below G2.out hb)
      replace G3 := Aside0.mk (Kd.S_below G3.out hb)
      replace HK5 := Aside0.mk (blk_below HK5.out hb)
      replace T1 := Aside0.mk (Kd.S_below T1.out hb)
      replace T2 := Aside0.mk (Kd.S_below T2.out hb)
      replace T3 := Aside0.mk (Kd.S_below T3.out hb)
      replace HK8 := Aside0.mk (blk_below HK8.out hb)
      clear hb
      have hz0 : w9.cell? ⟨g5, 0, none⟩ = some (.int .i64 m) := (blk_cell HK5.out 0).trans rfl
      have hz1 : w9.cell? ⟨g5, 1, none⟩ = some (.slice Q1 es.length q1) := (blk_cell HK5.out 1).trans rfl
      have hz2 : w9.cell? ⟨g5, 2, none⟩ = some (.slice Q2 ls.length q2) := (blk_cell HK5.out 2).trans rfl
      have hz3 : w9.cell? ⟨g5, 3, none⟩ = some (.slice Q3 ss.length q3) := (blk_cell HK5.out 3).trans rfl
      go_wp2_with fail
      refine (snap_Encode m Q1 Q2 Q3 q1 q2 q3 es ls ss w9 (Kd.S_reads' G1.out).2.2 (Kd.S_reads' G1.out).2.1 (Kd.S_reads' G2.out).2.2 (Kd.S_reads' G2.out).2.1 (Kd.S_reads' G3.out).2.2 (Kd.S_reads' G3.out).2.1).mono ?_
      rintro e w10 hp
      obtain ⟨v, b, er, rfl, ho, hb, hyes, hno⟩ := hp.out
      clear hz0 hz1 hz2 hz3
      replace HB3 := Aside0.mk (below_step HB3.out hb)
      clear hb hyes hno ho
      go_wp2_with fail
      go_ret
      exact ⟨rfl, HB3.out⟩
theorem law_SnapDecodes (A : Option Addr) (c : Nat) (l : List Int) (w : World) (hr : CB w A l) (hc : l.length ≤ c) (hw : wfB l) (hL : l.length ≤ 1048576) :
    Calls Try.prog 4 #[.slice A l.length c] w fun e w' => e = .returned (.bool true) ∧ Below w.heap.size w w' := by
  by_cases h : (parse l).ok l
  · exact law_SnapDecodes_good A c l w hr hc hw hL ⟨h⟩
  · exact law_SnapDecodes_bad A c l w hr hc hw hL ⟨h⟩

end Go.Proofs.Ytophfoenaekfjaa

