/- kv.Do: what it does. -/
import Derived.Test.YtophfoenaekfjaaKvKeepsm3
import Derived.Test.YtophfoenaekfjaaKvKeepsm4
import Derived.Outline
namespace Go.Proofs.Ytophfoenaekfjaa
open Go.RowKit Go.Proofs.YtophfoenaekfjaaW.PrintWords Go.Proofs.YtophfoenaekfjaaW.PrintLast Go.Proofs.YtophfoenaekfjaaW.PrintMore Go.Proofs.Ytophfoenaekfjaa.PSnapEncodes
set_option linter.unusedVariables false
set_option linter.unusedSimpArgs false

/-- What an operation on right entries does: i: where the name lies; f: is it there. -/
def kvOp (l : List S72) (k : Int) (n a b : List Int) (i : Nat) (f : Bool) : List S72 × S45 :=
  if f = false ∧ k ≠ 2 then (l, ⟨1, []⟩)
  else if k = 1 then (l, ⟨0, (l.getD i z72).f1⟩)
  else if k = 2 then
    if f = false then if l.length = 64 then (l, ⟨3, []⟩) else (l.take i ++ ⟨n, a⟩ :: l.drop i, ⟨0, []⟩)
    else (l.set i ⟨(l.getD i z72).f0, a⟩, ⟨0, []⟩)
  else if k = 3 then
    if sameB (l.getD i z72).f1 a = false then (l, ⟨2, (l.getD i z72).f1⟩) else (l.set i ⟨(l.getD i z72).f0, b⟩, ⟨0, []⟩)
  else (l.eraseIdx i, ⟨0, []⟩)
open Classical in
/-- The entries behind an operation, and what came of it. -/
noncomputable def kvDo (l : List S72) (k : Int) (n a b : List Int) (num : Int) : List S72 × S45 :=
  if goodE l ∧ goodO k n a b num ∧ k ≤ 4 then kvOp l k n a b (lbN (nm l) n) (fdN (nm l) n) else (l, ⟨5, []⟩)
theorem kvDo_bad {l : List S72} {k : Int} {n a b : List Int} {num : Int} (h : ¬ (goodE l ∧ goodO k n a b num ∧ k ≤ 4)) : kvDo l k n a b num = (l, ⟨5, []⟩) := by unfold kvDo; rw [if_neg h]
theorem kvDo_good {l : List S72} {k : Int} {n a b : List Int} {num : Int} (h : goodE l ∧ goodO k n a b num ∧ k ≤ 4) : kvDo l k n a b num = kvOp l k n a b (lbN (nm l) n) (fdN (nm l) n) := by unfold kvDo; rw [if_pos h]
structure PostKv (w : World) (r : List S72 × S45) (e : Ending) (w' : World) : Prop where
  mk ::
  out : ∃ v rv N, e = .returned (.tuple #[v, .agg #[.int .i64 r.2.f0, rv]]) ∧ w.heap.size ≤ N ∧ Kd.S k72 72 w' w.heap.size (fun k => k < N) v r.1 ∧ OB w' N rv r.2.f1 ∧ Below w.heap.size w w'
structure KvFin (w : World) (g5 : Nat) (code : Int) (v rv : Value) (r : List S72 × S45) (W' : World) : Prop where
  blk : W'.heap[g5]? = some (.cells #[.int .i64 code, rv] 45 (0, 0))
  post : PostKv w r (.returned (.tuple #[v, .agg #[.int .i64 code, rv]])) W'
theorem put2c {W : World} {g : Nat} {v0 v1 : Value} {T : TypeId} (h : W.heap[g]? = some (.cells #[v0, v1] T (0, 0))) (x y : Value) : ((W.setCell ⟨g, 0, none⟩ x).setCell ⟨g, 1, none⟩ y).heap[g]? = some (.cells #[x, y] T (0, 0)) :=
  (blk_set (blk_set h 0 x) 1 y).trans rfl
theorem kv_fin {w W : World} {g5 N : Nat} {v rv : Value} {code : Int} {xs : List S72} {l : List Int} {r : List S72 × S45} (HZ : W.heap[g5]? = some (.cells #[.int .i64 0, .slice none 0 0] 45 (0, 0))) (hg : w.heap.size ≤ g5)
    (hS : Kd.S k72 72 W w.heap.size (fun k => k < N) v xs) (hO : OB W N rv l) (hN : w.heap.size ≤ N) (hB : Below w.heap.size w W) (hr : r = (xs, ⟨code, l⟩)) :
    KvFin w g5 code v rv r ((W.setCell ⟨g5, 0, none⟩ (.int .i64 code)).setCell ⟨g5, 1, none⟩ rv) := by
  subst hr
  have h1 := blk_set HZ 0 (.int .i64 code)
  exact ⟨put2c HZ _ _, ⟨v, rv, N, rfl, hN, Kd.S_set (Kd.S_set hS HZ (by decide) _ _) h1 (by decide) _ _, ⟨Kd.R_set (Kd.R_set hO.out HZ (by decide) _ _) h1 (by decide) _ _⟩, below_set (below_set hB hg) hg⟩⟩
theorem kv_fin0 {w W : World} {g5 : Nat} {v : Value} {code : Int} {xs : List S72} {r : List S72 × S45} (HZ : W.heap[g5]? = some (.cells #[.int .i64 0, .slice none 0 0] 45 (0, 0))) (hg : w.heap.size ≤ g5)
    (hS : Kd.S k72 72 W w.heap.size (fun _ => True) v xs) (hB : Below w.heap.size w W) (hr : r = (xs, ⟨code, []⟩)) :
    KvFin w g5 code v (.slice none 0 0) r ((W.setCell ⟨g5, 0, none⟩ (.int .i64 code)).setCell ⟨g5, 1, none⟩ (.slice none 0 0)) :=
  kv_fin HZ hg (N := W.heap.size) (Kd.S_mono (Kd.S_bound hS) (fun k hk => hk.2.2.1)) (OB_nil _ _) hB.size hB hr
/-- An element's value is stored: its row is none of the others'. -/
theorem entry_put {ok okg : Nat → Prop} {W : World} {base g n cap : Nat} {xs : List S72} {i : Int} {u : Value} {l : List Int} (h : Kd.S k72 72 W base (fun k => ok k ∧ ¬ okg k) (.slice (some ⟨g, 0, none⟩) n cap) xs) (h0 : 0 ≤ i) (h1 : i < n)
    (hu : (Kd.int .u8).R 5 W base okg u l) (hg : ∀ k, okg k → ok k ∧ k ≠ g) :
    Kd.S k72 72 (W.setCell ⟨g, i.toNat * 2 + 1, none⟩ u) base ok (.slice (some ⟨g, 0, none⟩) n cap) (xs.set i.toNat ⟨(xs.getD i.toNat z72).f0, l⟩) ∧ W.grownBy (W.setCell ⟨g, i.toNat * 2 + 1, none⟩ u) (some g) := by
  obtain ⟨oki, c, hcl, hM, hcc, hfr, hoki, hH⟩ := Kd.S_elem h z72 i h0 h1
  obtain ⟨v2, v3, rfl, r2, r3⟩ := k72_openM hM
  exact Kd.S_seg (okp := fun k => oki k ∨ okg k) (seg := [u]) (j := 1) hH h0 h1 (by show 1 + 1 ≤ 2; omega) (k72_mkM W base _ ⟨(xs.getD i.toNat z72).f0, l⟩ (Kd.R_mono r2 (fun k hk => .inl hk)) (Kd.R_mono hu (fun k hk => .inr hk))) (fun k hk => hk) hg
theorem ins_get {α : Type} {l : List α} {I : Nat} (h : I ≤ l.length) (p z : α) : (l.take I ++ p :: l.drop I).getD I z = p := by
  rw [List.getD_eq_getElem?_getD, List.getElem?_append_right (by rw [List.length_take]; omega), List.length_take, Nat.min_eq_left h, Nat.sub_self]
  rfl
theorem ins_set {α : Type} {l : List α} {I : Nat} (h : I ≤ l.length) (p q : α) : (l.take I ++ p :: l.drop I).set I q = l.take I ++ q :: l.drop I := by
  rw [List.set_append_right _ _ (by rw [List.length_take]; omega), List.length_take, Nat.min_eq_left h, Nat.sub_self]
  rfl
theorem entry_cells {ok : Nat → Prop} {W : World} {base g n cap : Nat} {xs : List S72} {i : Int} (h : Kd.S k72 72 W base ok (.slice (some ⟨g, 0, none⟩) n cap) xs) (h0 : 0 ≤ i) (h1 : i < n) :
    ∃ v2 A3 c3, W.cell? ⟨g, i.toNat * 2, none⟩ = some v2 ∧ W.cell? ⟨g, i.toNat * 2 + 1, none⟩ = some (.slice A3 (xs.getD i.toNat z72).f1.length c3) ∧ CB W A3 (xs.getD i.toNat z72).f1 ∧ W.frozen? ⟨g, i.toNat * 2 + 1, none⟩ = false := by
  obtain ⟨oki, c, hcl, hM, hcc, hfr, hoki, hH⟩ := Kd.S_elem h z72 i h0 h1
  obtain ⟨v2, v3, rfl, r2, r3⟩ := k72_openM hM
  obtain ⟨A3, c3, rfl, hl, hr⟩ := Kd.R_reads r3
  exact ⟨v2, A3, c3, hcc 0 _ rfl, hcc 1 _ rfl, hr, hfr 1⟩
set_option maxHeartbeats 4000000 in
set_option maxRecDepth 100000 in
theorem kv_Do (A0 A1 A2 A3 : Option Addr) (c0 c1 c2 c3 : Nat) (l : List S72) (k : Int) (n a b : List Int) (num : Int) (w : World) (hr0 : Kd.C k72 w A0 l.length l) (hc0 : l.length ≤ c0) (hn : CB w A1 n) (ha : CB w A2 a) (hb : CB w A3 b) (hs : l.length ≤ 1048576 ∧ ∀ x ∈ l, x.f0.length ≤ 1048576 ∧ x.f1.length ≤ 1048576) (hk : -9223372036854775808 ≤ k ∧ k ≤ 9223372036854775807) :
    Calls Try.prog 39 #[.slice A0 l.length c0, .agg #[.int .i64 k, .slice A1 n.length c1, .slice A2 a.length c2, .slice A3 b.length c3, .int .i64 num]] w (PostKv w (kvDo l k n a b num)) := by
  have HR0 := Aside0.mk hr0
  have HN := Aside0.mk hn
  have HA := Aside0.mk ha
  have HBb := Aside0.mk hb
  have HSM := Aside0.mk hs
  have hl0 := hs.1
  clear hr0 hn ha hb hs
  obtain ⟨g3, hg3⟩ : ∃ g, g = w.heap.size := ⟨_, rfl⟩
  obtain ⟨g5, hg5⟩ : ∃ g, g = w.heap.size + 1 := ⟨_, rfl⟩
  obtain ⟨W0, hW0⟩ : ∃ W, W = (w.alloc (.cells #[.int .i64 k, .slice A1 n.length c1, .slice A2 a.length c2, .slice A3 b.length c3, .int .i64 num] 63)).alloc (.cells #[.int .i64 0, .slice none 0 0] 45) := ⟨_, rfl⟩
  have HB := Aside0.mk (show Below w.heap.size w W0 from by rw [hW0]; exact below_alloc (below_alloc (Below.refl _ _) _) _)
  have HK := Aside0.mk (show W0.heap[g3]? = some (.cells #[.int .i64 k, .slice A1 n.length c1, .slice A2 a.length c2, .slice A3 b.length c3, .int .i64 num] 63 (0, 0)) from by rw [hW0, hg3]; exact blk_below (blk_new _ _) (below_alloc (Below.refl _ _) _))
  have HZ := Aside0.mk (show W0.heap[g5]? = some (.cells #[.int .i64 0, .slice none 0 0] 45 (0, 0)) by rw [hW0, hg5, show w.heap.size + 1 = (w.alloc (.cells #[.int .i64 k, .slice A1 n.length c1, .slice A2 a.length c2, .slice A3 b.length c3, .int .i64 num] 63)).heap.size by simp]; exact blk_new _ _)
  have HG5 := Aside0.mk (show w.heap.size ≤ g5 by omega)
  have HG3 := Aside0.mk (show w.heap.size ≤ g3 by omega)
  have HG35 := Aside0.mk (show g3 < g5 by omega)
  have HZW := Aside0.mk (show g5 < W0.heap.size from blk_lt HZ.out)
  go_enter Try.func39, Try.ntmps39
  go_wp2_with fail
  try rw [← hg5]
  try rw [← hg3]
  rw [← hW0]
  clear hg3 hg5 hW0
  refine (kv_clone A0 c0 l W0 (Kd.C_below HR0.out HB.out) hc0 HSM.out).mono ?_
  intro e w1 hp
  obtain ⟨vo, he, ho, hb⟩ := hp.out
  subst he
  obtain ⟨Ao, co, hvo⟩ := Kd.S_slice ho
  subst hvo
  have HWS := Aside0.mk (below_size HB.out)
  replace HB := Aside0.mk (below_step HB.out hb)
  replace HK := Aside0.mk (blk_below HK.out hb)
  replace HZ := Aside0.mk (blk_below HZ.out hb)
  have HO := Aside0.mk (Kd.S_lower ho HWS.out)
  have HON := Aside0.mk (show ∀ k, (Value.slice Ao l.length co).ownBlock = some k → g5 < k from fun k hk => Nat.lt_of_lt_of_le HZW.out (Kd.S_base ho k hk))
  clear hb ho
  have hq0 : w1.cell? ⟨g3, 0, none⟩ = some (.int .i64 k) := (blk_cell HK.out 0).trans rfl
  have hq1 : w1.cell? ⟨g3, 1, none⟩ = some (.slice A1 n.length c1) := (blk_cell HK.out 1).trans rfl
  have hq2 : w1.cell? ⟨g3, 2, none⟩ = some (.slice A2 a.length c2) := (blk_cell HK.out 2).trans rfl
  have hq3 : w1.cell? ⟨g3, 3, none⟩ = some (.slice A3 b.length c3) := (blk_cell HK.out 3).trans rfl
  have hq4 : w1.cell? ⟨g3, 4, none⟩ = some (.int .i64 num) := (blk_cell HK.out 4).trans rfl
  go_wp2_with fail
  refine (kv_Right A0 c0 l w1 (Kd.C_below HR0.out HB.out) hc0).mono ?_
  rintro e w2 ⟨r1, rfl, hb, hi1⟩
  have HI1 := Aside0.mk hi1
  clear hi1
  clear hq0 hq1 hq2 hq3 hq4
  replace HB := Aside0.mk (below_step HB.out hb)
  replace HK := Aside0.mk (blk_below HK.out hb)
  replace HZ := Aside0.mk (blk_below HZ.out hb)
  replace HO := Aside0.mk (Kd.S_below HO.out hb)
  clear hb
  have hq0 : w2.cell? ⟨g3, 0, none⟩ = some (.int .i64 k) := (blk_cell HK.out 0).trans rfl
  have hq1 : w2.cell? ⟨g3, 1, none⟩ = some (.slice A1 n.length c1) := (blk_cell HK.out 1).trans rfl
  have hq2 : w2.cell? ⟨g3, 2, none⟩ = some (.slice A2 a.length c2) := (blk_cell HK.out 2).trans rfl
  have hq3 : w2.cell? ⟨g3, 3, none⟩ = some (.slice A3 b.length c3) := (blk_cell HK.out 3).trans rfl
  have hq4 : w2.cell? ⟨g3, 4, none⟩ = some (.int .i64 num) := (blk_cell HK.out 4).trans rfl
  cases r1 with
  | false =>
    have hz0 : w2.cell? ⟨g5, 0, none⟩ = some (.int .i64 0) := (blk_cell HZ.out 0).trans rfl
    have hz1 : w2.cell? ⟨g5, 1, none⟩ = some (.slice none 0 0) := (blk_cell HZ.out 1).trans rfl
    have hzf0 := blk_frozen HZ.out 0
    have hzf1 := blk_frozen HZ.out 1
    go_wp2_with fail
    have HF := kv_fin0 HZ.out HG5.out HO.out HB.out (code := 5) (show kvDo l k n a b num = _ from kvDo_bad (fun h => by have := HI1.out.2 h.1; cases this))
    refine bodyPost_ret (results_tc rfl _ _ g5 45 #[.int .i64 5, .slice none 0 0] (0, 0) _ rfl HF.blk Try.underlying45 rfl (by kernel_rfl)) rfl ?_
    exact HF.post
  | true =>
    go_wp2_with fail
    refine (kv_right k A1 A2 A3 c1 c2 c3 n a b num w2).mono ?_
    rintro e w3 ⟨r2, rfl, hb, hi2⟩
    have HI2 := Aside0.mk hi2
    clear hi2
    clear hq0 hq1 hq2 hq3 hq4
    replace HB := Aside0.mk (below_step HB.out hb)
    replace HK := Aside0.mk (blk_below HK.out hb)
    replace HZ := Aside0.mk (blk_below HZ.out hb)
    replace HO := Aside0.mk (Kd.S_below HO.out hb)
    clear hb
    have hq0 : w3.cell? ⟨g3, 0, none⟩ = some (.int .i64 k) := (blk_cell HK.out 0).trans rfl
    have hq1 : w3.cell? ⟨g3, 1, none⟩ = some (.slice A1 n.length c1) := (blk_cell HK.out 1).trans rfl
    have hq2 : w3.cell? ⟨g3, 2, none⟩ = some (.slice A2 a.length c2) := (blk_cell HK.out 2).trans rfl
    have hq3 : w3.cell? ⟨g3, 3, none⟩ = some (.slice A3 b.length c3) := (blk_cell HK.out 3).trans rfl
    have hq4 : w3.cell? ⟨g3, 4, none⟩ = some (.int .i64 num) := (blk_cell HK.out 4).trans rfl
    cases r2 with
    | false =>
      have hz0 : w3.cell? ⟨g5, 0, none⟩ = some (.int .i64 0) := (blk_cell HZ.out 0).trans rfl
      have hz1 : w3.cell? ⟨g5, 1, none⟩ = some (.slice none 0 0) := (blk_cell HZ.out 1).trans rfl
      have hzf0 := blk_frozen HZ.out 0
      have hzf1 := blk_frozen HZ.out 1
      go_wp2_with fail
      have HF := kv_fin0 HZ.out HG5.out HO.out HB.out (code := 5) (show kvDo l k n a b num = _ from kvDo_bad (fun h => by have := HI2.out.2 h.2.1; cases this))
      refine bodyPost_ret (results_tc rfl _ _ g5 45 #[.int .i64 5, .slice none 0 0] (0, 0) _ rfl HF.blk Try.underlying45 rfl (by kernel_rfl)) rfl ?_
      exact HF.post
    | true =>
      cases hk4 : decide (4 < k) with
      | true =>
        have hz0 : w3.cell? ⟨g5, 0, none⟩ = some (.int .i64 0) := (blk_cell HZ.out 0).trans rfl
        have hz1 : w3.cell? ⟨g5, 1, none⟩ = some (.slice none 0 0) := (blk_cell HZ.out 1).trans rfl
        have hzf0 := blk_frozen HZ.out 0
        have hzf1 := blk_frozen HZ.out 1
        go_wp2_with fail
        have HF := kv_fin0 HZ.out HG5.out HO.out HB.out (code := 5) (show kvDo l k n a b num = _ from kvDo_bad (fun h => absurd h.2.2 (by have := of_decide_eq_true hk4; omega)))
        refine bodyPost_ret (results_tc rfl _ _ g5 45 #[.int .i64 5, .slice none 0 0] (0, 0) _ rfl HF.blk Try.underlying45 rfl (by kernel_rfl)) rfl ?_
        exact HF.post
      | false =>
        have HGE := Aside0.mk (HI1.out.1 (by simp))
        have HGO := Aside0.mk (HI2.out.1 (by simp))
        have hk4' := of_decide_eq_false hk4
        have HGD := Aside0.mk (show kvDo l k n a b num = kvOp l k n a b (lbN (nm l) n) (fdN (nm l) n) from kvDo_good ⟨HGE.out, HGO.out, by omega⟩)
        clear HI1 HI2
        have hk0 := HGO.out.kind.1
        have hnl := HGO.out.name
        have hl64 := HGE.out.1
        have HLB := Aside0.mk (lbN_spec (sortN_of_goodE HGE.out) n)
        go_wp2_with fail
        refine (kv_search Ao A1 co c1 l n w3 (Kd.S_reads' HO.out).2.2 (Kd.S_reads' HO.out).2.1 (Kd.C_below HN.out HB.out) (sortN_of_goodE HGE.out) hl0).mono ?_
        intro e w4 hp
        obtain ⟨he, hb⟩ := hp.out
        subst he
        obtain ⟨I, hI⟩ : ∃ I, lbN (nm l) n = I := ⟨_, rfl⟩
        obtain ⟨F, hF⟩ : ∃ F, fdN (nm l) n = F := ⟨_, rfl⟩
        rw [hI, hF] at HGD ⊢
        rw [hI] at HLB
        have HFD := Aside0.mk hF
        have HII := Aside0.mk hI
        have hIl : I ≤ l.length := by have := HLB.out.le; rw [nm_len] at this; exact this
        clear hF hI
        clear hq0 hq1 hq2 hq3 hq4
        replace HB := Aside0.mk (below_step HB.out hb)
        replace HK := Aside0.mk (blk_below HK.out hb)
        replace HZ := Aside0.mk (blk_below HZ.out hb)
        replace HO := Aside0.mk (Kd.S_below HO.out hb)
        clear hb
        have hq0 : w4.cell? ⟨g3, 0, none⟩ = some (.int .i64 k) := (blk_cell HK.out 0).trans rfl
        have hq1 : w4.cell? ⟨g3, 1, none⟩ = some (.slice A1 n.length c1) := (blk_cell HK.out 1).trans rfl
        have hq2 : w4.cell? ⟨g3, 2, none⟩ = some (.slice A2 a.length c2) := (blk_cell HK.out 2).trans rfl
        have hq3 : w4.cell? ⟨g3, 3, none⟩ = some (.slice A3 b.length c3) := (blk_cell HK.out 3).trans rfl
        have hq4 : w4.cell? ⟨g3, 4, none⟩ = some (.int .i64 num) := (blk_cell HK.out 4).trans rfl
        cases F with
        | false =>
          cases hk2 : (k == 2) with
          | false =>
            have hz0 : w4.cell? ⟨g5, 0, none⟩ = some (.int .i64 0) := (blk_cell HZ.out 0).trans rfl
            have hz1 : w4.cell? ⟨g5, 1, none⟩ = some (.slice none 0 0) := (blk_cell HZ.out 1).trans rfl
            have hzf0 := blk_frozen HZ.out 0
            have hzf1 := blk_frozen HZ.out 1
            go_wp2_with fail
            have HF := kv_fin0 HZ.out HG5.out HO.out HB.out (code := 1) (show kvDo l k n a b num = _ from (by rw [HGD.out]; unfold kvOp; rw [if_pos ⟨rfl, ne_of_beq_false hk2⟩]))
            refine bodyPost_ret (results_tc rfl _ _ g5 45 #[.int .i64 1, .slice none 0 0] (0, 0) _ rfl HF.blk Try.underlying45 rfl (by kernel_rfl)) rfl ?_
            exact HF.post
          | true =>
            cases hl6 : ((l.length : Int) == 64) with
            | true =>
              have hz0 : w4.cell? ⟨g5, 0, none⟩ = some (.int .i64 0) := (blk_cell HZ.out 0).trans rfl
              have hz1 : w4.cell? ⟨g5, 1, none⟩ = some (.slice none 0 0) := (blk_cell HZ.out 1).trans rfl
              have hzf0 := blk_frozen HZ.out 0
              have hzf1 := blk_frozen HZ.out 1
              go_wp2_with fail
              have HF := kv_fin0 HZ.out HG5.out HO.out HB.out (code := 3) (show kvDo l k n a b num = _ from (by rw [HGD.out]; unfold kvOp; rw [if_neg (fun h => h.2 (eq_of_beq hk2)), if_neg (by have := eq_of_beq hk2; omega), if_pos (eq_of_beq hk2), if_pos rfl, if_pos (by have := eq_of_beq hl6; omega)]))
              refine bodyPost_ret (results_tc rfl _ _ g5 45 #[.int .i64 3, .slice none 0 0] (0, 0) _ rfl HF.blk Try.underlying45 rfl (by kernel_rfl)) rfl ?_
              exact HF.post
            | false =>
              have HO4 := Aside0.mk HO.out
              have hIle : (I : Int) ≤ l.length := by omega
              go_wp2_with fail
              refine (slices_Clone A1 c1 n w4 (Kd.C_below HN.out HB.out) (by omega)).mono ?_
              intro e w5 hp
              obtain ⟨v, he, ho, hb⟩ := hp.out
              subst he
              obtain ⟨Av, cv, hv, hcc, hrr⟩ := ho.reads
              subst hv
              have HOV := Aside0.mk ho
              clear ho hcc hrr
              have HOld := Aside0.mk (Kd.S_old HO.out hb)
              have HN4 := Aside0.mk (below_size HB.out)
              replace HB := Aside0.mk (below_step HB.out hb)
              replace HK := Aside0.mk (blk_below HK.out hb)
              replace HZ := Aside0.mk (blk_below HZ.out hb)
              replace HO := Aside0.mk (Kd.S_below HO.out hb)
              clear hb
              have HN5 := Aside0.mk (below_size HB.out)
              obtain ⟨gb, hgb⟩ : ∃ g, g = w5.heap.size := ⟨_, rfl⟩
              obtain ⟨w6, hw6⟩ : ∃ W, W = w5.alloc (.cells #[.slice Av n.length cv, .slice none 0 0] 72) := ⟨_, rfl⟩
              have HX6 := Aside0.mk (show Below w5.heap.size w5 w6 by rw [hw6]; exact below_alloc (Below.refl _ _) _)
              have HGB := Aside0.mk (show w6.heap[gb]? = some (.cells #[.slice Av n.length cv, .slice none 0 0] 72 (0, 0)) by rw [hw6, hgb]; exact blk_new _ _)
              have HGN := Aside0.mk (show some gb ≠ (Value.slice Ao l.length co).ownBlock from fun e => by have := Kd.S_lt HO.out gb e.symm; omega)
              replace HOld := Aside0.mk (Kd.S_below HOld.out HX6.out)
              replace HOV := Aside0.mk (HOV.out.below HX6.out)
              replace HB := Aside0.mk (below_step HB.out HX6.out)
              replace HK := Aside0.mk (blk_below HK.out HX6.out)
              replace HZ := Aside0.mk (blk_below HZ.out HX6.out)
              replace HO := Aside0.mk (Kd.S_below HO.out HX6.out)
              clear HX6
              go_wp2_with fail
              try rw [← hgb]
              rw [← hw6]
              clear hgb hw6
              obtain ⟨inner, hin, hin1⟩ := S_cells HO.out (by decide)
              refine (insert72 _ l.length I gb w.heap.size inner [.slice Av n.length cv, .slice none 0 0] w6 hin hIl (by omega) HGB.out rfl (by intro u hu; simp only [List.mem_cons, List.not_mem_nil, or_false] at hu; rcases hu with rfl | rfl <;> rfl) hin1 HGN.out (below_size HB.out)).mono ?_
              intro e w7 hp
              obtain ⟨v1, he, ho1, hg1, hat⟩ := hp.out
              subst he
              have hS1 := S_insert (d := k72) (e := 72) (ok := fun _ => True) (okp := fun k => w4.heap.size ≤ k) (p := ⟨n, []⟩) (Kd.S_mono HOld.out (fun k hk => ⟨trivial, by omega⟩)) hin hIl (k72_mkM w6 _ _ ⟨n, []⟩ (OB.fresh HOV.out HN4.out) (Kd.R_nil _ _ _ _ _)) (fun k hk => ⟨trivial, fun e => by have := Kd.S_lt HO4.out k e.symm; omega⟩) (fun _ _ => trivial) ho1 hg1 hat
              obtain ⟨xs, hxs⟩ : ∃ xs, l.take I ++ (⟨n, []⟩ : S72) :: l.drop I = xs := ⟨_, rfl⟩
              rw [hxs] at hS1
              have hxl : xs.length = l.length + 1 := by rw [← hxs, List.length_append, List.length_take, List.length_cons, List.length_drop]; omega
              have HXS := Aside0.mk hxs
              obtain ⟨gr, cap, hv1, hb1_, hb2_, _⟩ := Kd.S_form hS1 (by omega)
              subst hv1
              have HGR := Aside0.mk hb2_
              have HGR5 := Aside0.mk (show g5 < gr by
                rcases hat with hat | ⟨b, hb_, hle⟩
                · exact HON.out gr hat.symm
                · have e : gr = b := by injection hb_
                  have := blk_lt HZ.out
                  omega)
              replace HZ := Aside0.mk (blk_grown HZ.out hg1 (fun e => by have := HON.out g5 e.symm; omega))
              replace HK := Aside0.mk (blk_grown HK.out hg1 (fun e => by have := HON.out g3 e.symm; have := HG35.out; omega))
              replace HB := Aside0.mk (pw_below_grown HB.out _ (below_size HB.out) hg1 (fun k hk => Nat.le_trans HG5.out (Nat.le_of_lt (HON.out k hk))))
              replace HO := Aside0.mk hS1
              have HXL := Aside0.mk hxl
              have hxl1 : xs.length ≤ l.length + 1 := by omega
              have hxl2 : l.length + 1 ≤ xs.length := by omega
              clear HOld HOV hin hin1 ho1 hg1 hat hS1 hxs hb1_ hb2_ HGB HGN hxl HO4
              have hw70 : w7.cell? ⟨g3, 0, none⟩ = some (.int .i64 k) := (blk_cell HK.out 0).trans rfl
              have hw71 : w7.cell? ⟨g3, 1, none⟩ = some (.slice A1 n.length c1) := (blk_cell HK.out 1).trans rfl
              have hw72 : w7.cell? ⟨g3, 2, none⟩ = some (.slice A2 a.length c2) := (blk_cell HK.out 2).trans rfl
              have hw73 : w7.cell? ⟨g3, 3, none⟩ = some (.slice A3 b.length c3) := (blk_cell HK.out 3).trans rfl
              have hw74 : w7.cell? ⟨g3, 4, none⟩ = some (.int .i64 num) := (blk_cell HK.out 4).trans rfl
              have HNX := Aside0.mk (below_size HB.out)
              go_wp2_with fail
              refine (slices_Clone A2 c2 a w7 (Kd.C_below HA.out HB.out) (by omega)).mono ?_
              intro e w8 hp
              obtain ⟨v, he, ho, hb⟩ := hp.out
              subst he
              obtain ⟨Av, cv, hv, hcc, hrr⟩ := ho.reads
              subst hv
              have HOV := Aside0.mk ho
              clear ho hcc hrr
              have HOld := Aside0.mk (Kd.S_old HO.out hb)
              replace HB := Aside0.mk (below_step HB.out hb)
              replace HK := Aside0.mk (blk_below HK.out hb)
              replace HZ := Aside0.mk (blk_below HZ.out hb)
              replace HO := Aside0.mk (Kd.S_below HO.out hb)
              clear hb
              obtain ⟨v2y, A3y, c3y, hy0, hy1, hy2, hy3⟩ := entry_cells HO.out (i := (I : Int)) (by omega) (by omega)
              rw [Int.toNat_natCast] at hy0 hy1 hy3
              clear hy0 hy2
              obtain ⟨vold, hvold⟩ : ∃ x, Value.slice A3y ((xs).getD I z72).f1.length c3y = x := ⟨_, rfl⟩
              rw [hvold] at hy1
              clear hvold
              have HPUT := Aside0.mk (entry_put (ok := fun _ => True) (okg := fun k => w7.heap.size ≤ k) (i := (I : Int)) (Kd.S_mono HOld.out (fun k hk => ⟨trivial, by omega⟩)) (by omega) (by omega) (OB.fresh HOV.out HNX.out) (fun k hk => ⟨trivial, by have := HGR.out; omega⟩))
              rw [Int.toNat_natCast] at HPUT
              have HZ2 := Aside0.mk (blk_far HZ.out (p := ⟨gr, I * 2 + 1, none⟩) (Nat.ne_of_lt HGR5.out) (.slice Av a.length cv))
              have hz0 : (w8.setCell ⟨gr, I * 2 + 1, none⟩ (.slice Av a.length cv)).cell? ⟨g5, 0, none⟩ = some (.int .i64 0) := (blk_cell HZ2.out 0).trans rfl
              have hz1 : (w8.setCell ⟨gr, I * 2 + 1, none⟩ (.slice Av a.length cv)).cell? ⟨g5, 1, none⟩ = some (.slice none 0 0) := (blk_cell HZ2.out 1).trans rfl
              have hzf0 := blk_frozen HZ2.out 0
              have hzf1 := blk_frozen HZ2.out 1
              have HB2 := Aside0.mk (HB.out.setCell (p := ⟨gr, I * 2 + 1, none⟩) (Nat.le_trans HG5.out (Nat.le_of_lt HGR5.out)) (.slice Av a.length cv))
              clear hw70
              go_wp2_with fail
              have HF := kv_fin0 HZ2.out HG5.out HPUT.out.1 HB2.out (code := 0) (show kvDo l k n a b num = _ from (by rw [HGD.out]; unfold kvOp; rw [if_neg (fun h => h.2 (eq_of_beq hk2)), if_neg (by have := eq_of_beq hk2; omega), if_pos (eq_of_beq hk2), if_pos rfl, if_neg (by have := ne_of_beq_false hl6; omega), ← HXS.out, ins_get hIl, ins_set hIl]))
              refine bodyPost_ret (results_tc rfl _ _ g5 45 #[.int .i64 0, .slice none 0 0] (0, 0) _ rfl HF.blk Try.underlying45 rfl (by kernel_rfl)) rfl ?_
              exact HF.post
        | true =>
          cases hk1 : (k == 1) with
          | true =>
            have hfd := HFD.out
            unfold fdN at hfd
            rw [Bool.and_eq_true, decide_eq_true_eq, HII.out, nm_len] at hfd
            have hIlt : I < l.length := hfd.1
            clear hfd
            obtain ⟨go, cap, hv, hb1, hb2, _⟩ := Kd.S_form HO.out (by omega)
            injection hv with hA h2_ h3_
            clear h2_ h3_
            subst hA
            have hgo : g5 < go := HON.out go rfl
            have hI0 : (0 : Int) ≤ I := by omega
            have hI1 : (I : Int) < l.length := by omega
            obtain ⟨v2, A3', c3', hx0, hx1, hx2, hx3⟩ := entry_cells HO.out (i := (I : Int)) hI0 hI1
            rw [Int.toNat_natCast] at hx0 hx1 hx2 hx3
            have HX2 := Aside0.mk hx2
            have hvl := (HSM.out.2 _ (getD_mem_i z72 (xs := l) (i := (I : Int)) hI0 hI1)).2
            rw [Int.toNat_natCast] at hvl
            obtain ⟨VL, hVL⟩ : ∃ VL, (l.getD I z72).f1 = VL := ⟨_, rfl⟩
            rw [hVL] at hx1 HX2 hvl
            have HVL := Aside0.mk hVL
            clear hx2 hb1 hb2 hVL
            go_wp2_with fail
            refine (slices_Clone A3' c3' VL w4 HX2.out (by omega)).mono ?_
            intro e w5 hp
            obtain ⟨v, he, ho, hb⟩ := hp.out
            subst he
            obtain ⟨Av, cv, hv, hcc, hrr⟩ := ho.reads
            subst hv
            have HOV := Aside0.mk ho
            clear ho hcc hrr
            have HOld := Aside0.mk (Kd.S_old HO.out hb)
            have HN4 := Aside0.mk (below_size HB.out)
            replace HB := Aside0.mk (below_step HB.out hb)
            replace HK := Aside0.mk (blk_below HK.out hb)
            replace HZ := Aside0.mk (blk_below HZ.out hb)
            replace HO := Aside0.mk (Kd.S_below HO.out hb)
            clear hb
            clear hx0 hx1 hx3
            have hz0 : w5.cell? ⟨g5, 0, none⟩ = some (.int .i64 0) := (blk_cell HZ.out 0).trans rfl
            have hz1 : w5.cell? ⟨g5, 1, none⟩ = some (.slice none 0 0) := (blk_cell HZ.out 1).trans rfl
            have hzf0 := blk_frozen HZ.out 0
            have hzf1 := blk_frozen HZ.out 1
            go_wp2_with fail
            have HF := kv_fin HZ.out HG5.out (Kd.S_mono HOld.out (fun _ hk => hk.2)) HOV.out HN4.out HB.out (code := 0) (show kvDo l k n a b num = _ from (by rw [HGD.out]; unfold kvOp; rw [if_neg (fun h => by cases h.1), if_pos (eq_of_beq hk1), HVL.out]))
            refine bodyPost_ret (results_tc rfl _ _ g5 45 #[.int .i64 0, .slice Av VL.length cv] (0, 0) _ rfl HF.blk Try.underlying45 rfl (by kernel_rfl)) rfl ?_
            exact HF.post
          | false =>
            cases hk2 : (k == 2) with
            | true =>
              have hfd := HFD.out
              unfold fdN at hfd
              rw [Bool.and_eq_true, decide_eq_true_eq, HII.out, nm_len] at hfd
              have hIlt : I < l.length := hfd.1
              clear hfd
              obtain ⟨go, cap, hv, hb1, hb2, _⟩ := Kd.S_form HO.out (by omega)
              injection hv with hA h2_ h3_
              clear h2_ h3_
              subst hA
              have hgo : g5 < go := HON.out go rfl
              have hI0 : (0 : Int) ≤ I := by omega
              have hI1 : (I : Int) < l.length := by omega
              obtain ⟨v2, A3', c3', hx0, hx1, hx2, hx3⟩ := entry_cells HO.out (i := (I : Int)) hI0 hI1
              rw [Int.toNat_natCast] at hx0 hx1 hx2 hx3
              have HX2 := Aside0.mk hx2
              have hvl := (HSM.out.2 _ (getD_mem_i z72 (xs := l) (i := (I : Int)) hI0 hI1)).2
              rw [Int.toNat_natCast] at hvl
              obtain ⟨VL, hVL⟩ : ∃ VL, (l.getD I z72).f1 = VL := ⟨_, rfl⟩
              rw [hVL] at hx1 HX2 hvl
              have HVL := Aside0.mk hVL
              clear hx2 hb1 hb2 hVL
              obtain ⟨gr, hgr⟩ : ∃ gr, gr = go := ⟨_, rfl⟩
              rw [← hgr] at HO HON hx0 hx1 hx3 ⊢
              have HGR := Aside0.mk (show gr < w4.heap.size from Kd.S_lt HO.out gr rfl)
              have HGR5 := Aside0.mk (show g5 < gr by rw [hgr]; exact hgo)
              clear hgr hgo
              have HNX := Aside0.mk (below_size HB.out)
              go_wp2_with fail
              refine (slices_Clone A2 c2 a w4 (Kd.C_below HA.out HB.out) (by omega)).mono ?_
              intro e w5 hp
              obtain ⟨v, he, ho, hb⟩ := hp.out
              subst he
              obtain ⟨Av, cv, hv, hcc, hrr⟩ := ho.reads
              subst hv
              have HOV := Aside0.mk ho
              clear ho hcc hrr
              have HOld := Aside0.mk (Kd.S_old HO.out hb)
              replace HB := Aside0.mk (below_step HB.out hb)
              replace HK := Aside0.mk (blk_below HK.out hb)
              replace HZ := Aside0.mk (blk_below HZ.out hb)
              replace HO := Aside0.mk (Kd.S_below HO.out hb)
              clear hb
              obtain ⟨v2y, A3y, c3y, hy0, hy1, hy2, hy3⟩ := entry_cells HO.out (i := (I : Int)) (by omega) (by omega)
              rw [Int.toNat_natCast] at hy0 hy1 hy3
              clear hy0 hy2
              obtain ⟨vold, hvold⟩ : ∃ x, Value.slice A3y ((l).getD I z72).f1.length c3y = x := ⟨_, rfl⟩
              rw [hvold] at hy1
              clear hvold
              have HPUT := Aside0.mk (entry_put (ok := fun _ => True) (okg := fun k => w4.heap.size ≤ k) (i := (I : Int)) (Kd.S_mono HOld.out (fun k hk => ⟨trivial, by omega⟩)) (by omega) (by omega) (OB.fresh HOV.out HNX.out) (fun k hk => ⟨trivial, by have := HGR.out; omega⟩))
              rw [Int.toNat_natCast] at HPUT
              have HZ2 := Aside0.mk (blk_far HZ.out (p := ⟨gr, I * 2 + 1, none⟩) (Nat.ne_of_lt HGR5.out) (.slice Av a.length cv))
              have hz0 : (w5.setCell ⟨gr, I * 2 + 1, none⟩ (.slice Av a.length cv)).cell? ⟨g5, 0, none⟩ = some (.int .i64 0) := (blk_cell HZ2.out 0).trans rfl
              have hz1 : (w5.setCell ⟨gr, I * 2 + 1, none⟩ (.slice Av a.length cv)).cell? ⟨g5, 1, none⟩ = some (.slice none 0 0) := (blk_cell HZ2.out 1).trans rfl
              have hzf0 := blk_frozen HZ2.out 0
              have hzf1 := blk_frozen HZ2.out 1
              have HB2 := Aside0.mk (HB.out.setCell (p := ⟨gr, I * 2 + 1, none⟩) (Nat.le_trans HG5.out (Nat.le_of_lt HGR5.out)) (.slice Av a.length cv))
              clear hx0 hx1 hx3
              go_wp2_with fail
              have HF := kv_fin0 HZ2.out HG5.out HPUT.out.1 HB2.out (code := 0) (show kvDo l k n a b num = _ from (by rw [HGD.out]; unfold kvOp; rw [if_neg (fun h => by cases h.1), if_neg (by have := eq_of_beq hk2; omega), if_pos (eq_of_beq hk2), if_neg (by simp)]))
              refine bodyPost_ret (results_tc rfl _ _ g5 45 #[.int .i64 0, .slice none 0 0] (0, 0) _ rfl HF.blk Try.underlying45 rfl (by kernel_rfl)) rfl ?_
              exact HF.post
            | false =>
              cases hk3 : (k == 3) with
              | true =>
                have hfd := HFD.out
                unfold fdN at hfd
                rw [Bool.and_eq_true, decide_eq_true_eq, HII.out, nm_len] at hfd
                have hIlt : I < l.length := hfd.1
                clear hfd
                obtain ⟨go, cap, hv, hb1, hb2, _⟩ := Kd.S_form HO.out (by omega)
                injection hv with hA h2_ h3_
                clear h2_ h3_
                subst hA
                have hgo : g5 < go := HON.out go rfl
                have hI0 : (0 : Int) ≤ I := by omega
                have hI1 : (I : Int) < l.length := by omega
                obtain ⟨v2, A3', c3', hx0, hx1, hx2, hx3⟩ := entry_cells HO.out (i := (I : Int)) hI0 hI1
                rw [Int.toNat_natCast] at hx0 hx1 hx2 hx3
                have HX2 := Aside0.mk hx2
                have hvl := (HSM.out.2 _ (getD_mem_i z72 (xs := l) (i := (I : Int)) hI0 hI1)).2
                rw [Int.toNat_natCast] at hvl
                obtain ⟨VL, hVL⟩ : ∃ VL, (l.getD I z72).f1 = VL := ⟨_, rfl⟩
                rw [hVL] at hx1 HX2 hvl
                have HVL := Aside0.mk hVL
                clear hx2 hb1 hb2 hVL
                cases hsm : sameB VL a with
                | false =>
                  go_wp2_with fail
                  go_quiet (first | (go_at_call 78; exact quiet_of_drawn (bytes_Equal A3' A2 c3' c2 VL a _ (Kd.C_drewN HX2.out _) (Kd.C_drewN (Kd.C_below HA.out HB.out) _))))
                  obtain ⟨wq, hwq⟩ : ∃ W, W = w4.drewN nq := ⟨_, rfl⟩
                  rw [← hwq]
                  have hb : Below w4.heap.size w4 wq := by rw [hwq]; exact pw_below_drewN (Below.refl _ _) nq
                  replace hx0 : wq.cell? ⟨go, I * 2, none⟩ = some v2 := by rw [hwq]; exact hx0
                  replace hx1 : wq.cell? ⟨go, I * 2 + 1, none⟩ = some (.slice A3' VL.length c3') := by rw [hwq]; exact hx1
                  replace hx3 : wq.frozen? ⟨go, I * 2 + 1, none⟩ = false := by rw [hwq]; exact hx3
                  replace HX2 := Aside0.mk (Kd.C_below HX2.out hb)
                  clear hwq hq0 hq1 hq2 hq3 hq4
                  replace HB := Aside0.mk (below_step HB.out hb)
                  replace HK := Aside0.mk (blk_below HK.out hb)
                  replace HZ := Aside0.mk (blk_below HZ.out hb)
                  replace HO := Aside0.mk (Kd.S_below HO.out hb)
                  clear hb
                  have hu0 : wq.cell? ⟨g3, 0, none⟩ = some (.int .i64 k) := (blk_cell HK.out 0).trans rfl
                  have hu1 : wq.cell? ⟨g3, 1, none⟩ = some (.slice A1 n.length c1) := (blk_cell HK.out 1).trans rfl
                  have hu2 : wq.cell? ⟨g3, 2, none⟩ = some (.slice A2 a.length c2) := (blk_cell HK.out 2).trans rfl
                  have hu3 : wq.cell? ⟨g3, 3, none⟩ = some (.slice A3 b.length c3) := (blk_cell HK.out 3).trans rfl
                  have hu4 : wq.cell? ⟨g3, 4, none⟩ = some (.int .i64 num) := (blk_cell HK.out 4).trans rfl
                  go_wp2_with fail
                  refine (slices_Clone A3' c3' VL wq HX2.out (by omega)).mono ?_
                  intro e w5 hp
                  obtain ⟨v, he, ho, hb⟩ := hp.out
                  subst he
                  obtain ⟨Av, cv, hv, hcc, hrr⟩ := ho.reads
                  subst hv
                  have HOV := Aside0.mk ho
                  clear ho hcc hrr
                  have HOld := Aside0.mk (Kd.S_old HO.out hb)
                  have HN4 := Aside0.mk (below_size HB.out)
                  replace HB := Aside0.mk (below_step HB.out hb)
                  replace HK := Aside0.mk (blk_below HK.out hb)
                  replace HZ := Aside0.mk (blk_below HZ.out hb)
                  replace HO := Aside0.mk (Kd.S_below HO.out hb)
                  clear hb
                  clear hx0 hx1 hx3
                  have hz0 : w5.cell? ⟨g5, 0, none⟩ = some (.int .i64 0) := (blk_cell HZ.out 0).trans rfl
                  have hz1 : w5.cell? ⟨g5, 1, none⟩ = some (.slice none 0 0) := (blk_cell HZ.out 1).trans rfl
                  have hzf0 := blk_frozen HZ.out 0
                  have hzf1 := blk_frozen HZ.out 1
                  go_wp2_with fail
                  have HF := kv_fin HZ.out HG5.out (Kd.S_mono HOld.out (fun _ hk => hk.2)) HOV.out HN4.out HB.out (code := 2) (show kvDo l k n a b num = _ from (by rw [HGD.out]; unfold kvOp; rw [if_neg (fun h => by cases h.1), if_neg (by have := eq_of_beq hk3; omega), if_neg (by have := eq_of_beq hk3; omega), if_pos (eq_of_beq hk3), HVL.out, if_pos hsm]))
                  refine bodyPost_ret (results_tc rfl _ _ g5 45 #[.int .i64 2, .slice Av VL.length cv] (0, 0) _ rfl HF.blk Try.underlying45 rfl (by kernel_rfl)) rfl ?_
                  exact HF.post
                | true =>
                  go_wp2_with fail
                  go_quiet (first | (go_at_call 78; exact quiet_of_drawn (bytes_Equal A3' A2 c3' c2 VL a _ (Kd.C_drewN HX2.out _) (Kd.C_drewN (Kd.C_below HA.out HB.out) _))))
                  obtain ⟨wq, hwq⟩ : ∃ W, W = w4.drewN nq := ⟨_, rfl⟩
                  rw [← hwq]
                  have hb : Below w4.heap.size w4 wq := by rw [hwq]; exact pw_below_drewN (Below.refl _ _) nq
                  replace hx0 : wq.cell? ⟨go, I * 2, none⟩ = some v2 := by rw [hwq]; exact hx0
                  replace hx1 : wq.cell? ⟨go, I * 2 + 1, none⟩ = some (.slice A3' VL.length c3') := by rw [hwq]; exact hx1
                  replace hx3 : wq.frozen? ⟨go, I * 2 + 1, none⟩ = false := by rw [hwq]; exact hx3
                  replace HX2 := Aside0.mk (Kd.C_below HX2.out hb)
                  clear hwq hq0 hq1 hq2 hq3 hq4
                  replace HB := Aside0.mk (below_step HB.out hb)
                  replace HK := Aside0.mk (blk_below HK.out hb)
                  replace HZ := Aside0.mk (blk_below HZ.out hb)
                  replace HO := Aside0.mk (Kd.S_below HO.out hb)
                  clear hb
                  have hu0 : wq.cell? ⟨g3, 0, none⟩ = some (.int .i64 k) := (blk_cell HK.out 0).trans rfl
                  have hu1 : wq.cell? ⟨g3, 1, none⟩ = some (.slice A1 n.length c1) := (blk_cell HK.out 1).trans rfl
                  have hu2 : wq.cell? ⟨g3, 2, none⟩ = some (.slice A2 a.length c2) := (blk_cell HK.out 2).trans rfl
                  have hu3 : wq.cell? ⟨g3, 3, none⟩ = some (.slice A3 b.length c3) := (blk_cell HK.out 3).trans rfl
                  have hu4 : wq.cell? ⟨g3, 4, none⟩ = some (.int .i64 num) := (blk_cell HK.out 4).trans rfl
                  obtain ⟨gr, hgr⟩ : ∃ gr, gr = go := ⟨_, rfl⟩
                  rw [← hgr] at HO HON hx0 hx1 hx3 ⊢
                  have HGR := Aside0.mk (show gr < wq.heap.size from Kd.S_lt HO.out gr rfl)
                  have HGR5 := Aside0.mk (show g5 < gr by rw [hgr]; exact hgo)
                  clear hgr hgo
                  have HNX := Aside0.mk (below_size HB.out)
                  go_wp2_with fail
                  refine (slices_Clone A3 c3 b wq (Kd.C_below HBb.out HB.out) (by omega)).mono ?_
                  intro e w5 hp
                  obtain ⟨v, he, ho, hb⟩ := hp.out
                  subst he
                  obtain ⟨Av, cv, hv, hcc, hrr⟩ := ho.reads
                  subst hv
                  have HOV := Aside0.mk ho
                  clear ho hcc hrr
                  have HOld := Aside0.mk (Kd.S_old HO.out hb)
                  replace HB := Aside0.mk (below_step HB.out hb)
                  replace HK := Aside0.mk (blk_below HK.out hb)
                  replace HZ := Aside0.mk (blk_below HZ.out hb)
                  replace HO := Aside0.mk (Kd.S_below HO.out hb)
                  clear hb
                  obtain ⟨v2y, A3y, c3y, hy0, hy1, hy2, hy3⟩ := entry_cells HO.out (i := (I : Int)) (by omega) (by omega)
                  rw [Int.toNat_natCast] at hy0 hy1 hy3
                  clear hy0 hy2
                  obtain ⟨vold, hvold⟩ : ∃ x, Value.slice A3y ((l).getD I z72).f1.length c3y = x := ⟨_, rfl⟩
                  rw [hvold] at hy1
                  clear hvold
                  have HPUT := Aside0.mk (entry_put (ok := fun _ => True) (okg := fun k => wq.heap.size ≤ k) (i := (I : Int)) (Kd.S_mono HOld.out (fun k hk => ⟨trivial, by omega⟩)) (by omega) (by omega) (OB.fresh HOV.out HNX.out) (fun k hk => ⟨trivial, by have := HGR.out; omega⟩))
                  rw [Int.toNat_natCast] at HPUT
                  have HZ2 := Aside0.mk (blk_far HZ.out (p := ⟨gr, I * 2 + 1, none⟩) (Nat.ne_of_lt HGR5.out) (.slice Av b.length cv))
                  have hz0 : (w5.setCell ⟨gr, I * 2 + 1, none⟩ (.slice Av b.length cv)).cell? ⟨g5, 0, none⟩ = some (.int .i64 0) := (blk_cell HZ2.out 0).trans rfl
                  have hz1 : (w5.setCell ⟨gr, I * 2 + 1, none⟩ (.slice Av b.length cv)).cell? ⟨g5, 1, none⟩ = some (.slice none 0 0) := (blk_cell HZ2.out 1).trans rfl
                  have hzf0 := blk_frozen HZ2.out 0
                  have hzf1 := blk_frozen HZ2.out 1
                  have HB2 := Aside0.mk (HB.out.setCell (p := ⟨gr, I * 2 + 1, none⟩) (Nat.le_trans HG5.out (Nat.le_of_lt HGR5.out)) (.slice Av b.length cv))
                  clear hx0 hx1 hx3
                  go_wp2_with fail
                  have HF := kv_fin0 HZ2.out HG5.out HPUT.out.1 HB2.out (code := 0) (show kvDo l k n a b num = _ from (by rw [HGD.out]; unfold kvOp; rw [if_neg (fun h => by cases h.1), if_neg (by have := eq_of_beq hk3; omega), if_neg (by have := eq_of_beq hk3; omega), if_pos (eq_of_beq hk3), if_neg (by rw [HVL.out, hsm]; simp)]))
                  refine bodyPost_ret (results_tc rfl _ _ g5 45 #[.int .i64 0, .slice none 0 0] (0, 0) _ rfl HF.blk Try.underlying45 rfl (by kernel_rfl)) rfl ?_
                  exact HF.post
              | false =>
                have hfd := HFD.out
                unfold fdN at hfd
                rw [Bool.and_eq_true, decide_eq_true_eq, HII.out, nm_len] at hfd
                have hIlt : I < l.length := hfd.1
                clear hfd
                obtain ⟨go, cap, hv, hb1, hb2, _⟩ := Kd.S_form HO.out (by omega)
                injection hv with hA h2_ h3_
                clear h2_ h3_
                subst hA
                have hgo : g5 < go := HON.out go rfl
                have hI0 : (0 : Int) ≤ I := by omega
                have hI1 : (I : Int) < l.length := by omega
                obtain ⟨v2, A3', c3', hx0, hx1, hx2, hx3⟩ := entry_cells HO.out (i := (I : Int)) hI0 hI1
                rw [Int.toNat_natCast] at hx0 hx1 hx2 hx3
                have HX2 := Aside0.mk hx2
                have hvl := (HSM.out.2 _ (getD_mem_i z72 (xs := l) (i := (I : Int)) hI0 hI1)).2
                rw [Int.toNat_natCast] at hvl
                obtain ⟨VL, hVL⟩ : ∃ VL, (l.getD I z72).f1 = VL := ⟨_, rfl⟩
                rw [hVL] at hx1 HX2 hvl
                have HVL := Aside0.mk hVL
                clear hx2 hb1 hb2 hVL
                have hI1' : (I : Int) ≤ l.length := by omega
                obtain ⟨inner, hin, hin1⟩ := S_cells HO.out (by decide)
                go_wp2_with fail
                refine (delete72 _ l.length I w.heap.size inner w4 hin hIlt (by omega) hin1).mono ?_
                intro e w5 hp
                obtain ⟨v1, he, ho1, hg1, hat⟩ := hp.out
                subst he
                have HS1 := Aside0.mk (S_delete (d := k72) (e := 72) (ok := fun _ => True) HO.out hin hIlt (fun _ _ => trivial) ho1 hg1 hat)
                replace HZ := Aside0.mk (blk_grown HZ.out hg1 (fun e => Nat.ne_of_lt hgo (Option.some.inj e)))
                replace HB := Aside0.mk (pw_below_grown HB.out _ (below_size HB.out) hg1 (fun k hk => Nat.le_trans HG5.out (Nat.le_of_lt (HON.out k hk))))
                clear hin hin1 ho1 hg1 hat hx0 hx1 hx3
                have hz0 : w5.cell? ⟨g5, 0, none⟩ = some (.int .i64 0) := (blk_cell HZ.out 0).trans rfl
                have hz1 : w5.cell? ⟨g5, 1, none⟩ = some (.slice none 0 0) := (blk_cell HZ.out 1).trans rfl
                have hzf0 := blk_frozen HZ.out 0
                have hzf1 := blk_frozen HZ.out 1
                go_wp2_with fail
                have HF := kv_fin0 HZ.out HG5.out HS1.out HB.out (code := 0) (show kvDo l k n a b num = _ from (by rw [HGD.out]; unfold kvOp; have y1 := ne_of_beq_false hk1; have y2 := ne_of_beq_false hk2; have y3 := ne_of_beq_false hk3; rw [if_neg (fun h => by cases h.1), if_neg y1, if_neg y2, if_neg y3]))
                refine bodyPost_ret (results_tc rfl _ _ g5 45 #[.int .i64 0, .slice none 0 0] (0, 0) _ rfl HF.blk Try.underlying45 rfl (by kernel_rfl)) rfl ?_
                exact HF.post

end Go.Proofs.Ytophfoenaekfjaa

