/- Parts of the proof of KvKeeps: The reference's Find and With. The reference's Do: what it does. -/
import Derived.Test.YtophfoenaekfjaaKvKeepsm5
import Derived.Outline
namespace Go.Proofs.Ytophfoenaekfjaa
open Go.RowKit Go.Proofs.YtophfoenaekfjaaW.PrintWords Go.Proofs.YtophfoenaekfjaaW.PrintLast Go.Proofs.YtophfoenaekfjaaW.PrintMore Go.Proofs.Ytophfoenaekfjaa.PSnapEncodes
set_option linter.unusedVariables false
set_option linter.unusedSimpArgs false

theorem setCell_size (w : World) (a : Addr) (v : Value) : (w.setCell a v).heap.size = w.heap.size := by simp [World.setCell]
/-- The place of a name: the first that is the same, or -1. -/
structure FindR (ns : List (List Int)) (n : List Int) (r : Int) : Prop where
  mk ::
  out : (r = -1 ∧ ∀ j, j < ns.length → sameB (ns.getD j []) n = false) ∨ (∃ i : Nat, r = i ∧ i < ns.length ∧ sameB (ns.getD i []) n = true ∧ ∀ j, j < i → sameB (ns.getD j []) n = false)
theorem FindR.sorted {ns : List (List Int)} {n : List Int} {r : Int} (h : FindR ns n r) (hs : SortN ns) : r = if fdN ns n = true then (lbN ns n : Int) else -1 := by
  rcases h.out with ⟨rfl, hno⟩ | ⟨i, rfl, h1, h2, h3⟩
  · rw [if_neg]
    intro hf
    obtain ⟨j, h4, h5⟩ := (fdN_iff hs n).1 hf
    rw [hno j h4] at h5
    cases h5
  · rw [if_pos ((fdN_iff hs n).2 ⟨i, h1, h2⟩)]
    have hl := lbN_spec hs n
    have e : i = lbN ns n := by
      rcases Nat.lt_trichotomy i (lbN ns n) with hlt | e | hlt
      · have := hl.lo i hlt; rw [same_irr h2] at this; cases this
      · exact e
      · have a := hs _ i hlt h1
        rw [less_same' h2] at a
        have := hl.hi _ (Nat.le_refl _) (by omega)
        rw [this] at a; cases a
    rw [e]
set_option maxHeartbeats 4000000 in
set_option maxRecDepth 100000 in
theorem ref07_Find (A0 An : Option Addr) (c0 cn : Nat) (l : List S72) (n : List Int) (w : World) (hr0 : Kd.C k72 w A0 l.length l) (hc0 : l.length ≤ c0) (hn : CB w An n) (hl : l.length ≤ 1048576) :
    Calls Try.prog 46 #[.slice A0 l.length c0, .slice An n.length cn] w fun e w' => ∃ r : Int, e = .returned (.int .i64 r) ∧ FindR (nm l) n r ∧ Below w.heap.size w w' := by
  have HR0 := Aside0.mk hr0
  have HN := Aside0.mk hn
  clear hr0 hn
  go_enter Try.func46, Try.ntmps46
  go_wp2
  go_loopw [9] (fun v wr => ∃ x : Int, v = .int .i64 x ∧ 0 ≤ x ∧ x ≤ l.length ∧ Aside0 (Below w.heap.size w wr) ∧ Aside0 (∀ j, j < x.toNat → sameB ((nm l).getD j []) n = false)) (fun v _ => l.length - (intOf v).toNat)
  case atStart => exact ⟨0, rfl, by omega, by omega, ⟨Below.refl _ _⟩, ⟨fun j hj => by simp at hj⟩⟩
  case round =>
    obtain ⟨x, rfl, h0, hi, HB, HF⟩ := hrel
    by_cases hlt : x < l.length
    · obtain ⟨ad, A, c, A2, c2, e1, hx0, hx1, hl', hn', hl2, hn2⟩ := at_T72 (Kd.C_below HR0.out HB.out) x (by omega) (by omega)
      subst e1
      have HE := Aside0.mk hn'
      have HM := Aside0.mk (nm_rd l h0)
      clear hn' hn2
      obtain ⟨EN, hEN⟩ : ∃ EN, (rd_T72 l x).f0 = EN := ⟨_, rfl⟩
      rw [hEN] at hx0 HE HM hl'
      clear hEN
      go_wp2_with fail
      refine (ref01_Same A An c cn EN n _ (Kd.C_alloc HE.out _) (Kd.C_alloc (Kd.C_below HN.out HB.out) _)).mono ?_
      rintro e w1 ⟨rfl, hd⟩
      have HB1 := Aside0.mk (below_step (below_alloc HB.out _) hd.below)
      clear hd
      cases hq : sameB EN n with
      | true =>
        go_wp2_with fail
        go_ret
        exact ⟨x, rfl, ⟨.inr ⟨x.toNat, by omega, by rw [nm_len]; omega, by rw [HM.out]; exact hq, HF.out⟩⟩, HB1.out⟩
      | false =>
        go_wp2_with fail
        go_roundw
        case rel => exact ⟨x + 1, by go_num, by omega, by omega, HB1, ⟨fun j hj => by
          by_cases e : j = x.toNat
          · rw [e, HM.out]; exact hq
          · exact HF.out j (by omega)⟩⟩
        case measure => simp [intOf]; omega
    · go_wp2
      go_ret
      exact ⟨-1, rfl, ⟨.inl ⟨rfl, fun j hj => HF.out j (by rw [nm_len] at hj; omega)⟩⟩, HB.out⟩

/-- One round of With: what it has so far, and whether it has put the name's value. -/
def stepW (n v : List Int) (s : List S72 × Bool) (x : S72) : List S72 × Bool :=
  if sameB x.f0 n = true then ((if s.2 = false ∧ lessB n x.f0 = true then s.1 ++ [⟨n, v⟩] else s.1) ++ [⟨x.f0, v⟩], true)
  else if s.2 = false ∧ lessB n x.f0 = true then (s.1 ++ [⟨n, v⟩] ++ [x], true) else (s.1 ++ [x], s.2)
def withF (l : List S72) (n v : List Int) : List S72 × Bool := l.foldl (stepW n v) ([], false)
def withL (l : List S72) (n v : List Int) : List S72 := if (withF l n v).2 = true then (withF l n v).1 else (withF l n v).1 ++ [⟨n, v⟩]
theorem withF_snoc (l : List S72) (x : S72) (n v : List Int) : withF (l ++ [x]) n v = stepW n v (withF l n v) x := by unfold withF; rw [List.foldl_append]; rfl
theorem withF_len' (n v : List Int) : ∀ (l : List S72) (s : List S72 × Bool), (l.foldl (stepW n v) s).1.length ≤ s.1.length + 2 * l.length
  | [], s => by simp
  | x :: l, s => by
    have := withF_len' n v l (stepW n v s x)
    have h2 : (stepW n v s x).1.length ≤ s.1.length + 2 := by
      unfold stepW
      repeat' split
      all_goals simp only [List.length_append, List.length_cons, List.length_nil]
      all_goals omega
    rw [List.foldl_cons, List.length_cons]
    omega
theorem withF_len (n v : List Int) (l : List S72) : (withF l n v).1.length ≤ 2 * l.length := by have := withF_len' n v l ([], false); simpa [withF] using this
set_option maxHeartbeats 4000000 in
set_option maxRecDepth 100000 in
theorem ref07_With (A0 An Av : Option Addr) (c0 cn cv : Nat) (l : List S72) (n v : List Int) (w0 w : World) (hw0 : Below w0.heap.size w0 w) (hr0 : Kd.C k72 w0 A0 l.length l) (hc0 : l.length ≤ c0) (hn : CB w0 An n) (hnc : n.length ≤ cn) (hv : CB w0 Av v) (hvc : v.length ≤ cv) (hl : l.length ≤ 64) :
    Calls Try.prog 101 #[.slice A0 l.length c0, .slice An n.length cn, .slice Av v.length cv] w fun e w' => ∃ u, e = .returned u ∧ (Kd.fixed k72 w0).R 72 w' w.heap.size (fun _ => True) u (withL l n v) ∧ Below w.heap.size w w' := by
  have HR0 := Aside0.mk hr0
  have HN := Aside0.mk hn
  have HV := Aside0.mk hv
  have HB0 := Aside0.mk hw0
  have HNV := Aside0.mk (k72_mk w0 (⟨n, v⟩ : S72) hnc hn hvc hv)
  clear hr0 hn hv hw0
  go_enter Try.func101, Try.ntmps101
  go_wp2_with ((with_reducible refine gate_dst (N := 11) rfl ?_); refine Kd.R_lit (Kd.fixed k72 w0) w.heap.size 72 ?hg (N := 11) ?hd (xs := ([] : List S72)) (inner := []) (ok := fun _ => True) (okp := fun _ => True) ?hr ?hp (fun _ hk => hk) trivial (Below.refl _ _) (Nat.le_refl _) (by simp) ?_; (case hd => rfl); (case hg => rfl); (case hr => first | (go_simp; done) | (go_simp; rfl)); (case hp => exact (Reps.none _ _)); intro u1 w1 ho hb hg_ hnew_; have HO1 := Aside0.mk ho; have HB1 := Aside0.mk hb; clear ho hb hg_ hnew_)
  go_loopw [7, 8, 14] (fun v7 v8 v14 wr => ∃ (x : Int) (acc : List S72) (p : Bool), v14 = .int .i64 x ∧ v8 = .bool p ∧ 0 ≤ x ∧ x ≤ l.length ∧ Aside0 (withF (l.take x.toNat) n v = (acc, p)) ∧ Aside0 ((Kd.fixed k72 w0).R 72 wr w.heap.size (fun _ => True) v7 acc) ∧ Aside0 (Below w.heap.size w wr)) (fun _ _ v14 _ => l.length - (intOf v14).toNat)
  case atStart => exact ⟨0, [], false, rfl, rfl, by omega, by omega, ⟨rfl⟩, HO1, HB1⟩
  case round =>
    clear HO1 HB1
    obtain ⟨x, acc, p, rfl, rfl, h0, h1, HF, HO, HB⟩ := hrel
    have hal : acc.length ≤ 128 := by have := withF_len n v (l.take x.toNat); rw [HF.out, List.length_take] at this; simp only at this; omega
    by_cases hlt : x < l.length
    · obtain ⟨ad, A, c, A2, c2, e1, hx0, hx1, hl1, hn1, hl2, hn2⟩ := at_T72 HR0.out x (by omega) (by omega)
      subst e1
      have HE0 := Aside0.mk hn1
      have HE1 := Aside0.mk hn2
      have HX := Aside0.mk (show withF (l.take (x + 1).toNat) n v = stepW n v (acc, p) (rd_T72 l x) by rw [← HF.out, ← withF_snoc, ← take_more z72 h0 hlt]; rfl)
      obtain ⟨EX, hEX⟩ : ∃ EX, rd_T72 l x = EX := ⟨_, rfl⟩
      rw [hEX] at hx0 hx1 HE0 HE1 HX hl1 hl2
      replace hx0 := pw_cell_below (below_step HB0.out HB.out) hx0
      replace hx1 := pw_cell_below (below_step HB0.out HB.out) hx1
      clear hn1 hn2 hEX
      have HKX := Aside0.mk (k72_mk w0 EX hl1 HE0.out hl2 HE1.out)
      have HKV := Aside0.mk (k72_mk w0 (⟨EX.f0, v⟩ : S72) hl1 HE0.out hvc HV.out)
      obtain ⟨g, hg⟩ : ∃ g, g = wr.heap.size := ⟨_, rfl⟩
      obtain ⟨W2, hW2⟩ : ∃ W2, W2 = wr.alloc (.cells #[.slice A EX.f0.length c, .slice A2 EX.f1.length c2] 72) := ⟨_, rfl⟩
      have HXB := Aside0.mk (show Below wr.heap.size wr W2 by rw [hW2]; exact below_alloc (Below.refl _ _) _)
      have HG := Aside0.mk (show W2.heap[g]? = some (.cells #[.slice A EX.f0.length c, .slice A2 EX.f1.length c2] 72 (0, 0)) by rw [hW2, hg]; exact blk_new _ _)
      have HBW := Aside0.mk (show w.heap.size ≤ g by have := HB.out.size; omega)
      have HLTG := Aside0.mk (fun k hk => by have := Kd.R_lt HO.out k hk; omega : ∀ k, u7.ownBlock = some k → k ≠ g)
      replace HO := Aside0.mk (Kd.R_mono (Kd.R_tight rfl (Kd.R_below HO.out HXB.out)) (fun k hk => HLTG.out k hk.symm))
      replace HB := Aside0.mk (below_step HB.out HXB.out)
      clear HXB HLTG
      cases p with
      | false =>
        have hl0 : (wr.alloc (.cells #[.slice A EX.f0.length c, .slice A2 EX.f1.length c2] 72)).cell? ⟨wr.heap.size, 0, none⟩ = some (.slice A EX.f0.length c) := by rw [← hW2, ← hg]; exact (blk_cell HG.out 0).trans rfl
        go_wp2_with fail
        try rw [← hg]
        rw [← hW2]
        clear hl0 hg hW2
        refine (ref07_Less An A cn c n EX.f0 W2 (Kd.C_below HN.out (below_step HB0.out HB.out)) (Kd.C_below HE0.out (below_step HB0.out HB.out))).mono ?_
        rintro e w3 ⟨rfl, hd⟩
        have hb := hd.below
        clear hd
        replace HO := Aside0.mk (Kd.R_below HO.out hb)
        replace HB := Aside0.mk (below_step HB.out hb)
        replace HG := Aside0.mk (blk_below HG.out hb)
        clear hb
        have he0 : w3.cell? ⟨g, 0, none⟩ = some (.slice A EX.f0.length c) := (blk_cell HG.out 0).trans rfl
        have he1 : w3.cell? ⟨g, 1, none⟩ = some (.slice A2 EX.f1.length c2) := (blk_cell HG.out 1).trans rfl
        have hef := blk_frozen HG.out 1
        cases hls : lessB n EX.f0 with
        | true =>
          have HLS := Aside0.mk hls
          go_wp2_with ((with_reducible refine gate_builtin (b := .append) (xs := #[.tmp 26, .tmp 30]) rfl ?_); at_builtin; refine Kd.R_append (Kd.fixed k72 w0) (w0 := w) w.heap.size rfl (.tmp 26) (.tmp 30) 22 72 (.agg #[.slice none 0 0, .slice none 0 0]) 48 rfl Try.underlying22 info72 rfl (by show 0 < 2; omega) (by omega) _ _ (⟨n, v⟩ : S72) [.slice An n.length cn, .slice Av v.length cv] (fun k => k ≠ g) (fun _ => False) rfl rfl ?hp (fun _ h => h.elim) ?hf HO.out HB.out (below_size HB.out) ?hl ?_; (case hp => exact HNV.out); (case hf => intro k hk e; have := blk_lt HG.out; omega); (case hl => (try simp only [List.length_append, List.length_cons, List.length_nil]); omega); intro u4 w4 ho hb hgr hat; have hw40 : w4.cell? ⟨g, 0, none⟩ = some (.slice A EX.f0.length c) := (blk_cell (blk_grown HG.out hgr (Kd.R_away HO.out (fun k hk => hk))) 0).trans rfl; have HO1 := Aside0.mk ho; have HB1 := Aside0.mk hb; have HG1 := Aside0.mk (blk_grown HG.out hgr (Kd.R_away HO.out (fun k hk => hk))); clear ho hb hgr hat)
          clear he0 he1 hef
          clear HO HB HG
          have HO := HO1
          have HB := HB1
          have HG := HG1
          clear HO1 HB1 HG1 hw40
          have he0 : w4.cell? ⟨g, 0, none⟩ = some (.slice A EX.f0.length c) := (blk_cell HG.out 0).trans rfl
          have he1 : w4.cell? ⟨g, 1, none⟩ = some (.slice A2 EX.f1.length c2) := (blk_cell HG.out 1).trans rfl
          have hef := blk_frozen HG.out 1
          refine (ref01_Same A An c cn EX.f0 n w4 (Kd.C_below HE0.out (below_step HB0.out HB.out)) (Kd.C_below HN.out (below_step HB0.out HB.out))).mono ?_
          rintro e w5 ⟨rfl, hd⟩
          have hb := hd.below
          clear hd he0 he1 hef
          replace HO := Aside0.mk (Kd.R_below HO.out hb)
          replace HB := Aside0.mk (below_step HB.out hb)
          replace HG := Aside0.mk (blk_below HG.out hb)
          clear hb
          have he0 : w5.cell? ⟨g, 0, none⟩ = some (.slice A EX.f0.length c) := (blk_cell HG.out 0).trans rfl
          have he1 : w5.cell? ⟨g, 1, none⟩ = some (.slice A2 EX.f1.length c2) := (blk_cell HG.out 1).trans rfl
          have hef := blk_frozen HG.out 1
          cases hsm : sameB EX.f0 n with
          | true =>
            have HO2 := Aside0.mk (Kd.R_far HO.out (p := ⟨g, 1, none⟩) (fun _ hk => hk) (.slice Av v.length cv))
            have HB2 := Aside0.mk (HB.out.setCell (p := ⟨g, 1, none⟩) HBW.out (.slice Av v.length cv))
            have HG2 := Aside0.mk ((blk_set HG.out 1 (.slice Av v.length cv)).trans rfl : (w5.setCell ⟨g, 1, none⟩ (.slice Av v.length cv)).heap[g]? = some (.cells #[.slice A EX.f0.length c, .slice Av v.length cv] 72 (0, 0)))
            go_wp2_with ((with_reducible refine gate_builtin (b := .append) (xs := #[.tmp 38, .tmp 40]) rfl ?_); at_builtin; refine Kd.R_append (Kd.fixed k72 w0) (w0 := w) w.heap.size rfl (.tmp 38) (.tmp 40) 22 72 (.agg #[.slice none 0 0, .slice none 0 0]) 48 rfl Try.underlying22 info72 rfl (by show 0 < 2; omega) (by omega) _ _ (⟨EX.f0, v⟩ : S72) [.slice A EX.f0.length c, .slice Av v.length cv] (fun k => k ≠ g) (fun _ => False) rfl (by show Value.slice (some ⟨w5.heap.size, 0, none⟩) 1 1 = Value.slice (some ⟨(w5.setCell ⟨g, 1, none⟩ (.slice Av v.length cv)).heap.size, 0, none⟩) 1 1; rw [setCell_size]) ?hp (fun _ h => h.elim) ?hf HO2.out HB2.out (below_size HB2.out) ?hl ?_; (case hp => exact HKV.out); (case hf => intro k hk e; have := blk_lt HG2.out; omega); (case hl => (try simp only [List.length_append, List.length_cons, List.length_nil]); omega); intro u6 w6 ho hb hgr hat; have HO1 := Aside0.mk ho; have HB1 := Aside0.mk hb; clear ho hb hgr hat)
            go_wp2
            go_roundw
            case rel => exact ⟨x + 1, _, _, by go_num, rfl, by omega, by omega, ⟨by rw [HX.out]; unfold stepW; rw [if_pos hsm, if_pos ⟨rfl, HLS.out⟩]⟩, ⟨Kd.R_mono HO1.out (fun _ _ => trivial)⟩, HB1⟩
            case measure => simp [intOf]; omega
          | false =>
            go_wp2_with ((with_reducible refine gate_builtin (b := .append) (xs := #[.tmp 38, .tmp 40]) rfl ?_); at_builtin; refine Kd.R_append (Kd.fixed k72 w0) (w0 := w) w.heap.size rfl (.tmp 38) (.tmp 40) 22 72 (.agg #[.slice none 0 0, .slice none 0 0]) 48 rfl Try.underlying22 info72 rfl (by show 0 < 2; omega) (by omega) _ _ (EX : S72) [.slice A EX.f0.length c, .slice A2 EX.f1.length c2] (fun k => k ≠ g) (fun _ => False) rfl rfl ?hp (fun _ h => h.elim) ?hf HO.out HB.out (below_size HB.out) ?hl ?_; (case hp => exact HKX.out); (case hf => intro k hk e; have := blk_lt HG.out; omega); (case hl => (try simp only [List.length_append, List.length_cons, List.length_nil]); omega); intro u6 w6 ho hb hgr hat; have HO1 := Aside0.mk ho; have HB1 := Aside0.mk hb; clear ho hb hgr hat)
            go_wp2
            go_roundw
            case rel => exact ⟨x + 1, _, _, by go_num, rfl, by omega, by omega, ⟨by rw [HX.out]; unfold stepW; rw [if_neg (by rw [hsm]; simp), if_pos ⟨rfl, HLS.out⟩]⟩, ⟨Kd.R_mono HO1.out (fun _ _ => trivial)⟩, HB1⟩
            case measure => simp [intOf]; omega
        | false =>
          have HLS := Aside0.mk hls
          go_wp2_with fail
          clear he0 he1 hef
          have he0 : w3.cell? ⟨g, 0, none⟩ = some (.slice A EX.f0.length c) := (blk_cell HG.out 0).trans rfl
          have he1 : w3.cell? ⟨g, 1, none⟩ = some (.slice A2 EX.f1.length c2) := (blk_cell HG.out 1).trans rfl
          have hef := blk_frozen HG.out 1
          refine (ref01_Same A An c cn EX.f0 n w3 (Kd.C_below HE0.out (below_step HB0.out HB.out)) (Kd.C_below HN.out (below_step HB0.out HB.out))).mono ?_
          rintro e w5 ⟨rfl, hd⟩
          have hb := hd.below
          clear hd he0 he1 hef
          replace HO := Aside0.mk (Kd.R_below HO.out hb)
          replace HB := Aside0.mk (below_step HB.out hb)
          replace HG := Aside0.mk (blk_below HG.out hb)
          clear hb
          have he0 : w5.cell? ⟨g, 0, none⟩ = some (.slice A EX.f0.length c) := (blk_cell HG.out 0).trans rfl
          have he1 : w5.cell? ⟨g, 1, none⟩ = some (.slice A2 EX.f1.length c2) := (blk_cell HG.out 1).trans rfl
          have hef := blk_frozen HG.out 1
          cases hsm : sameB EX.f0 n with
          | true =>
            have HO2 := Aside0.mk (Kd.R_far HO.out (p := ⟨g, 1, none⟩) (fun _ hk => hk) (.slice Av v.length cv))
            have HB2 := Aside0.mk (HB.out.setCell (p := ⟨g, 1, none⟩) HBW.out (.slice Av v.length cv))
            have HG2 := Aside0.mk ((blk_set HG.out 1 (.slice Av v.length cv)).trans rfl : (w5.setCell ⟨g, 1, none⟩ (.slice Av v.length cv)).heap[g]? = some (.cells #[.slice A EX.f0.length c, .slice Av v.length cv] 72 (0, 0)))
            go_wp2_with ((with_reducible refine gate_builtin (b := .append) (xs := #[.tmp 38, .tmp 40]) rfl ?_); at_builtin; refine Kd.R_append (Kd.fixed k72 w0) (w0 := w) w.heap.size rfl (.tmp 38) (.tmp 40) 22 72 (.agg #[.slice none 0 0, .slice none 0 0]) 48 rfl Try.underlying22 info72 rfl (by show 0 < 2; omega) (by omega) _ _ (⟨EX.f0, v⟩ : S72) [.slice A EX.f0.length c, .slice Av v.length cv] (fun k => k ≠ g) (fun _ => False) rfl (by show Value.slice (some ⟨w5.heap.size, 0, none⟩) 1 1 = Value.slice (some ⟨(w5.setCell ⟨g, 1, none⟩ (.slice Av v.length cv)).heap.size, 0, none⟩) 1 1; rw [setCell_size]) ?hp (fun _ h => h.elim) ?hf HO2.out HB2.out (below_size HB2.out) ?hl ?_; (case hp => exact HKV.out); (case hf => intro k hk e; have := blk_lt HG2.out; omega); (case hl => (try simp only [List.length_append, List.length_cons, List.length_nil]); omega); intro u6 w6 ho hb hgr hat; have HO1 := Aside0.mk ho; have HB1 := Aside0.mk hb; clear ho hb hgr hat)
            go_wp2
            go_roundw
            case rel => exact ⟨x + 1, _, _, by go_num, rfl, by omega, by omega, ⟨by rw [HX.out]; unfold stepW; rw [if_pos hsm, if_neg (fun h => by have := h.2; rw [HLS.out] at this; cases this)]⟩, ⟨Kd.R_mono HO1.out (fun _ _ => trivial)⟩, HB1⟩
            case measure => simp [intOf]; omega
          | false =>
            go_wp2_with ((with_reducible refine gate_builtin (b := .append) (xs := #[.tmp 38, .tmp 40]) rfl ?_); at_builtin; refine Kd.R_append (Kd.fixed k72 w0) (w0 := w) w.heap.size rfl (.tmp 38) (.tmp 40) 22 72 (.agg #[.slice none 0 0, .slice none 0 0]) 48 rfl Try.underlying22 info72 rfl (by show 0 < 2; omega) (by omega) _ _ (EX : S72) [.slice A EX.f0.length c, .slice A2 EX.f1.length c2] (fun k => k ≠ g) (fun _ => False) rfl rfl ?hp (fun _ h => h.elim) ?hf HO.out HB.out (below_size HB.out) ?hl ?_; (case hp => exact HKX.out); (case hf => intro k hk e; have := blk_lt HG.out; omega); (case hl => (try simp only [List.length_append, List.length_cons, List.length_nil]); omega); intro u6 w6 ho hb hgr hat; have HO1 := Aside0.mk ho; have HB1 := Aside0.mk hb; clear ho hb hgr hat)
            go_wp2
            go_roundw
            case rel => exact ⟨x + 1, _, _, by go_num, rfl, by omega, by omega, ⟨by rw [HX.out]; unfold stepW; rw [if_neg (by rw [hsm]; simp), if_neg (fun h => by have := h.2; rw [HLS.out] at this; cases this)]⟩, ⟨Kd.R_mono HO1.out (fun _ _ => trivial)⟩, HB1⟩
            case measure => simp [intOf]; omega
      | true =>
        have hl0 : (wr.alloc (.cells #[.slice A EX.f0.length c, .slice A2 EX.f1.length c2] 72)).cell? ⟨wr.heap.size, 0, none⟩ = some (.slice A EX.f0.length c) := by rw [← hW2, ← hg]; exact (blk_cell HG.out 0).trans rfl
        go_wp2_with fail
        try rw [← hg]
        rw [← hW2]
        clear hl0 hg hW2
        have he0 : W2.cell? ⟨g, 0, none⟩ = some (.slice A EX.f0.length c) := (blk_cell HG.out 0).trans rfl
        have he1 : W2.cell? ⟨g, 1, none⟩ = some (.slice A2 EX.f1.length c2) := (blk_cell HG.out 1).trans rfl
        have hef := blk_frozen HG.out 1
        refine (ref01_Same A An c cn EX.f0 n W2 (Kd.C_below HE0.out (below_step HB0.out HB.out)) (Kd.C_below HN.out (below_step HB0.out HB.out))).mono ?_
        rintro e w5 ⟨rfl, hd⟩
        have hb := hd.below
        clear hd he0 he1 hef
        replace HO := Aside0.mk (Kd.R_below HO.out hb)
        replace HB := Aside0.mk (below_step HB.out hb)
        replace HG := Aside0.mk (blk_below HG.out hb)
        clear hb
        have he0 : w5.cell? ⟨g, 0, none⟩ = some (.slice A EX.f0.length c) := (blk_cell HG.out 0).trans rfl
        have he1 : w5.cell? ⟨g, 1, none⟩ = some (.slice A2 EX.f1.length c2) := (blk_cell HG.out 1).trans rfl
        have hef := blk_frozen HG.out 1
        cases hsm : sameB EX.f0 n with
        | true =>
          have HO2 := Aside0.mk (Kd.R_far HO.out (p := ⟨g, 1, none⟩) (fun _ hk => hk) (.slice Av v.length cv))
          have HB2 := Aside0.mk (HB.out.setCell (p := ⟨g, 1, none⟩) HBW.out (.slice Av v.length cv))
          have HG2 := Aside0.mk ((blk_set HG.out 1 (.slice Av v.length cv)).trans rfl : (w5.setCell ⟨g, 1, none⟩ (.slice Av v.length cv)).heap[g]? = some (.cells #[.slice A EX.f0.length c, .slice Av v.length cv] 72 (0, 0)))
          go_wp2_with ((with_reducible refine gate_builtin (b := .append) (xs := #[.tmp 38, .tmp 40]) rfl ?_); at_builtin; refine Kd.R_append (Kd.fixed k72 w0) (w0 := w) w.heap.size rfl (.tmp 38) (.tmp 40) 22 72 (.agg #[.slice none 0 0, .slice none 0 0]) 48 rfl Try.underlying22 info72 rfl (by show 0 < 2; omega) (by omega) _ _ (⟨EX.f0, v⟩ : S72) [.slice A EX.f0.length c, .slice Av v.length cv] (fun k => k ≠ g) (fun _ => False) rfl (by show Value.slice (some ⟨w5.heap.size, 0, none⟩) 1 1 = Value.slice (some ⟨(w5.setCell ⟨g, 1, none⟩ (.slice Av v.length cv)).heap.size, 0, none⟩) 1 1; rw [setCell_size]) ?hp (fun _ h => h.elim) ?hf HO2.out HB2.out (below_size HB2.out) ?hl ?_; (case hp => exact HKV.out); (case hf => intro k hk e; have := blk_lt HG2.out; omega); (case hl => (try simp only [List.length_append, List.length_cons, List.length_nil]); omega); intro u6 w6 ho hb hgr hat; have HO1 := Aside0.mk ho; have HB1 := Aside0.mk hb; clear ho hb hgr hat)
          go_wp2
          go_roundw
          case rel => exact ⟨x + 1, _, _, by go_num, rfl, by omega, by omega, ⟨by rw [HX.out]; unfold stepW; rw [if_pos hsm, if_neg (fun h => by cases h.1)]⟩, ⟨Kd.R_mono HO1.out (fun _ _ => trivial)⟩, HB1⟩
          case measure => simp [intOf]; omega
        | false =>
          go_wp2_with ((with_reducible refine gate_builtin (b := .append) (xs := #[.tmp 38, .tmp 40]) rfl ?_); at_builtin; refine Kd.R_append (Kd.fixed k72 w0) (w0 := w) w.heap.size rfl (.tmp 38) (.tmp 40) 22 72 (.agg #[.slice none 0 0, .slice none 0 0]) 48 rfl Try.underlying22 info72 rfl (by show 0 < 2; omega) (by omega) _ _ (EX : S72) [.slice A EX.f0.length c, .slice A2 EX.f1.length c2] (fun k => k ≠ g) (fun _ => False) rfl rfl ?hp (fun _ h => h.elim) ?hf HO.out HB.out (below_size HB.out) ?hl ?_; (case hp => exact HKX.out); (case hf => intro k hk e; have := blk_lt HG.out; omega); (case hl => (try simp only [List.length_append, List.length_cons, List.length_nil]); omega); intro u6 w6 ho hb hgr hat; have HO1 := Aside0.mk ho; have HB1 := Aside0.mk hb; clear ho hb hgr hat)
          go_wp2
          go_roundw
          case rel => exact ⟨x + 1, _, _, by go_num, rfl, by omega, by omega, ⟨by rw [HX.out]; unfold stepW; rw [if_neg (by rw [hsm]; simp), if_neg (fun h => by cases h.1)]⟩, ⟨Kd.R_mono HO1.out (fun _ _ => trivial)⟩, HB1⟩
          case measure => simp [intOf]; omega
    · have HF' := HF.out
      rw [List.take_of_length_le (by omega)] at HF'
      have HFF := Aside0.mk HF'
      clear HF'
      cases p with
      | true =>
        go_wp2_with fail
        go_ret
        exact ⟨_, rfl, by unfold withL; rw [HFF.out]; exact HO.out, HB.out⟩
      | false =>
        go_wp2_with ((with_reducible refine gate_builtin (b := .append) (xs := #[.tmp 45, .tmp 49]) rfl ?_); at_builtin; refine Kd.R_append (Kd.fixed k72 w0) (w0 := w) w.heap.size rfl (.tmp 45) (.tmp 49) 22 72 (.agg #[.slice none 0 0, .slice none 0 0]) 48 rfl Try.underlying22 info72 rfl (by show 0 < 2; omega) (by omega) _ _ (⟨n, v⟩ : S72) [.slice An n.length cn, .slice Av v.length cv] (fun _ => True) (fun _ => False) rfl rfl ?hp (fun _ h => h.elim) ?hf HO.out HB.out (below_size HB.out) ?hl ?_; (case hp => exact HNV.out); (case hf => exact fun _ _ => trivial); (case hl => (try simp only [List.length_append, List.length_cons, List.length_nil]); omega); intro u6 w6 ho hb hgr hat; have HO1 := Aside0.mk ho; have HB1 := Aside0.mk hb; clear ho hb hgr hat)
        go_ret
        exact ⟨_, rfl, by unfold withL; rw [HFF.out]; exact Kd.R_mono HO1.out (fun _ _ => trivial), HB1.out⟩

theorem withF_lo {l : List S72} {n v : List Int} (h : ∀ j : Nat, j < l.length → lessB (l.getD j z72).f0 n = true) : withF l n v = (l, false) := by
  have key : ∀ (m : Nat), m ≤ l.length → withF (l.take m) n v = (l.take m, false) := by
    intro m
    induction m with
    | zero => intro _; rfl
    | succ m ih =>
      intro hm
      have hx := h m (by omega)
      have e := take_more z72 (xs := l) (x := (m : Int)) (by omega) (by omega)
      rw [Int.toNat_natCast, show ((m : Int) + 1).toNat = m + 1 by omega] at e
      rw [← e, withF_snoc, ih (by omega)]
      unfold stepW
      rw [if_neg (by rw [less_ne hx]; simp), if_neg (fun h => by have := h.2; rw [less_asym hx] at this; cases this)]
  have := key l.length (Nat.le_refl _)
  rwa [List.take_length] at this
theorem foldW_hi (n v : List Int) : ∀ (l : List S72) (acc : List S72), (∀ j : Nat, j < l.length → sameB (l.getD j z72).f0 n = false) → l.foldl (stepW n v) (acc, true) = (acc ++ l, true)
  | [], acc, _ => by simp
  | x :: l, acc, h => by
    rw [List.foldl_cons]
    have h0 := h 0 (by simp)
    have e : stepW n v (acc, true) x = (acc ++ [x], true) := by
      unfold stepW
      rw [if_neg (by rw [show sameB x.f0 n = false from h0]; simp), if_neg (fun h => by cases h.1)]
    rw [e, foldW_hi n v l _ (fun j hj => by have := h (j + 1) (by simpa using hj); simpa using this), List.append_assoc]
    rfl
theorem drop_cons_getD {α : Type} (z : α) {l : List α} {i : Nat} (h : i < l.length) : l.drop i = l.getD i z :: l.drop (i + 1) := by
  rw [List.drop_eq_getElem_cons h, List.getD_eq_getElem?_getD, List.getElem?_eq_getElem h]
  rfl
theorem set_split {α : Type} {l : List α} {i : Nat} (h : i < l.length) (q : α) : l.set i q = l.take i ++ q :: l.drop (i + 1) := List.set_eq_take_append_cons_drop .. |>.trans (if_pos h)
theorem getD_drop' {α : Type} (z : α) (l : List α) (a j : Nat) : (l.drop a).getD j z = l.getD (a + j) z := by
  rw [List.getD_eq_getElem?_getD, List.getD_eq_getElem?_getD, List.getElem?_drop]
theorem getD_take' {α : Type} (z : α) (l : List α) {a j : Nat} (h : j < a) : (l.take a).getD j z = l.getD j z := by
  rw [List.getD_eq_getElem?_getD, List.getD_eq_getElem?_getD, List.getElem?_take, if_pos h]
/-- With, among names that go up. -/
theorem withL_eq {l : List S72} {n : List Int} (hs : SortN (nm l)) (v : List Int) : withL l n v = if fdN (nm l) n = true then l.set (lbN (nm l) n) ⟨(l.getD (lbN (nm l) n) z72).f0, v⟩ else l.take (lbN (nm l) n) ++ ⟨n, v⟩ :: l.drop (lbN (nm l) n) := by
  have hl := lbN_spec hs n
  obtain ⟨I, hI⟩ : ∃ I, lbN (nm l) n = I := ⟨_, rfl⟩
  obtain ⟨F, hF⟩ : ∃ F, fdN (nm l) n = F := ⟨_, rfl⟩
  rw [hI] at hl ⊢
  rw [hF]
  have hle : I ≤ l.length := by have := hl.le; rwa [nm_len] at this
  have hlo : withF (l.take I) n v = (l.take I, false) := withF_lo (fun j hj => by
    rw [List.length_take] at hj
    rw [getD_take' z72 l (show j < I by omega)]
    have := hl.lo j (by omega)
    rwa [nm_at] at this)
  have hsplit : withF l n v = (l.drop I).foldl (stepW n v) (l.take I, false) := by
    have e : withF l n v = withF (l.take I ++ l.drop I) n v := by rw [List.take_append_drop]
    rw [e]
    unfold withF at hlo ⊢
    rw [List.foldl_append, hlo]
  unfold withL
  unfold fdN at hF
  rw [hI, nm_len] at hF
  by_cases hlt : I < l.length
  · rw [decide_eq_true hlt, Bool.true_and, nm_at] at hF
    have hrest : ∀ j : Nat, j < (l.drop (I + 1)).length → sameB ((l.drop (I + 1)).getD j z72).f0 n = false := fun j hj => by
      rw [List.length_drop] at hj
      rw [getD_drop']
      have a := hs I (I + 1 + j) (by omega) (by rw [nm_len]; omega)
      rw [nm_at, nm_at] at a
      have b := hl.hi I (Nat.le_refl _) (by rw [nm_len]; exact hlt)
      rw [nm_at] at b
      rcases less_tri (l.getD I z72).f0 n with h | h | h
      · rw [h] at b; cases b
      · rw [less_same h] at a
        rw [same_comm]
        exact less_ne a
      · rw [same_comm]
        exact less_ne (less_trans h a)
    rw [hsplit, drop_cons_getD z72 hlt, List.foldl_cons]
    cases F with
    | true =>
      have e : stepW n v (l.take I, false) (l.getD I z72) = (l.take I ++ [⟨(l.getD I z72).f0, v⟩], true) := by
        unfold stepW
        rw [if_pos hF, if_neg (fun h => by have := h.2; rw [same_irr (same_symm hF)] at this; cases this)]
      rw [e, foldW_hi n v _ _ hrest, if_pos rfl, if_pos rfl, set_split hlt, List.append_assoc]
      rfl
    | false =>
      have hne : lessB n (l.getD I z72).f0 = true := by
        have b := hl.hi I (Nat.le_refl _) (by rw [nm_len]; exact hlt)
        rw [nm_at] at b
        rcases less_tri (l.getD I z72).f0 n with h | h | h
        · rw [h] at b; cases b
        · rw [h] at hF; cases hF
        · exact h
      have e : stepW n v (l.take I, false) (l.getD I z72) = (l.take I ++ [⟨n, v⟩] ++ [l.getD I z72], true) := by
        unfold stepW
        rw [if_neg (by rw [hF]; simp), if_pos ⟨rfl, hne⟩]
      rw [e, foldW_hi n v _ _ hrest, if_pos rfl, if_neg (by simp), List.append_assoc, List.append_assoc]
      rfl
  · have hI2 : I = l.length := by omega
    rw [decide_eq_false hlt, Bool.false_and] at hF
    subst hF
    rw [hsplit, List.drop_eq_nil_of_le (by omega)]
    simp

end Go.Proofs.Ytophfoenaekfjaa

namespace Go.Proofs.Ytophfoenaekfjaa
open Go.RowKit Go.Proofs.YtophfoenaekfjaaW.PrintWords Go.Proofs.YtophfoenaekfjaaW.PrintLast Go.Proofs.YtophfoenaekfjaaW.PrintMore Go.Proofs.Ytophfoenaekfjaa.PSnapEncodes
set_option linter.unusedVariables false
set_option linter.unusedSimpArgs false

structure PostRk (w : World) (r : List S72 × S45) (e : Ending) (w' : World) : Prop where
  mk ::
  out : ∃ A c RA rc, e = .returned (.tuple #[.slice A r.1.length c, .agg #[.int .i64 r.2.f0, .slice RA r.2.f1.length rc]]) ∧ r.1.length ≤ c ∧ Kd.C k72 w' A r.1.length r.1 ∧ CB w' RA r.2.f1 ∧ Below w.heap.size w w'
theorem rk_fin {w W : World} {g5 : Nat} {A RA : Option Addr} {c rc : Nat} {code : Int} {xs : List S72} {l : List Int} {r : List S72 × S45} (HZ : W.heap[g5]? = some (.cells #[.int .i64 0, .slice none 0 0] 45 (0, 0))) (hg : w.heap.size ≤ g5)
    (hc : xs.length ≤ c) (hS : ∀ W', Below g5 W W' → Kd.C k72 W' A xs.length xs) (hO : ∀ W', Below g5 W W' → CB W' RA l) (hB : Below w.heap.size w W) (hr : r = (xs, ⟨code, l⟩)) :
    ((W.setCell ⟨g5, 0, none⟩ (.int .i64 code)).setCell ⟨g5, 1, none⟩ (.slice RA l.length rc)).heap[g5]? = some (.cells #[.int .i64 code, .slice RA l.length rc] 45 (0, 0)) ∧ PostRk w r (.returned (.tuple #[.slice A xs.length c, .agg #[.int .i64 code, .slice RA l.length rc]])) ((W.setCell ⟨g5, 0, none⟩ (.int .i64 code)).setCell ⟨g5, 1, none⟩ (.slice RA l.length rc)) := by
  subst hr
  have hb2 : Below g5 W ((W.setCell ⟨g5, 0, none⟩ (.int .i64 code)).setCell ⟨g5, 1, none⟩ (.slice RA l.length rc)) := ((Below.refl g5 W).setCell (p := ⟨g5, 0, none⟩) (Nat.le_refl _) _).setCell (p := ⟨g5, 1, none⟩) (Nat.le_refl _) _
  exact ⟨put2c HZ _ _, ⟨A, c, RA, rc, rfl, hc, hS _ hb2, hO _ hb2, below_set (below_set hB hg) hg⟩⟩
theorem PostRk.drew {w W : World} {r : List S72 × S45} {e : Ending} (h : PostRk w r e W) : PostRk w r e W.drew := by
  obtain ⟨A, c, RA, rc, he, hc, hC, hO, hb⟩ := h.out
  exact ⟨A, c, RA, rc, he, hc, Kd.C_below hC (below_drew (Below.refl _ _)), Kd.C_below hO (below_drew (Below.refl _ _)), below_drew hb⟩
theorem C_subI {α : Type} {d : Kd α} {w : World} {A : Option Addr} {l : List α} {c : Nat} (h : d.C w A l.length l) (hc : l.length ≤ c) (a k : Nat) (hk : a + k ≤ l.length) :
    d.C w (if c = a then A else A.map (·.add (a * d.sz))) ((l.drop a).take k).length ((l.drop a).take k) := by
  have hlen : ((l.drop a).take k).length = k := by simp; omega
  refine ⟨rfl, by have := h.2.1; omega, fun hp => ?_⟩
  obtain ⟨ad, rfl, hcell⟩ := h.2.2 (by omega)
  rw [if_neg (by omega)]
  refine ⟨ad.add (a * d.sz), rfl, fun j p hj => ?_⟩
  have hj2 : l[a + j]? = some p := by
    rw [List.getElem?_take] at hj
    split at hj
    · rw [List.getElem?_drop] at hj; exact hj
    · cases hj
  obtain ⟨c1, h1, h2, h3⟩ := hcell (a + j) p hj2
  refine ⟨c1, h1, h2, fun i u hu => ?_⟩
  have ha : (ad.add (a * d.sz)).add (j * d.sz + i) = ad.add ((a + j) * d.sz + i) := by
    have : (a + j) * d.sz + i = a * d.sz + (j * d.sz + i) := by rw [Nat.add_mul]; omega
    rw [this]
    generalize a * d.sz = x
    generalize j * d.sz + i = y
    unfold Addr.add
    by_cases h1 : x = 0 <;> by_cases h2 : y = 0 <;> simp [h1, h2, Nat.add_assoc]
  rw [ha]
  exact h3 i u hu
theorem sub_rows {w W : World} {A : Option Addr} {l : List S72} {c : Nat} (h : Kd.C k72 w A l.length l) (hc : l.length ≤ c) (hb : Below w.heap.size w W) (a m : Nat) (hm : a + m ≤ l.length) :
    ReadsRow (k72.K w) 2 W (if c = a then A else A.map (·.add (a * 2))) m ((l.drop a).take m) := by
  have h1 := C_subI h hc a m hm
  have e : ((l.drop a).take m).length = m := by rw [List.length_take, List.length_drop]; omega
  rw [e] at h1
  exact ReadsRow.imp_ h1 hb (fun _ _ hp => hp)
theorem cut_l72 (A : Option Addr) (l : List S72) (c : Nat) (a : Int) (h0 : 0 ≤ a) (h1 : a ≤ l.length) (hc : l.length ≤ c) :
    ∃ A', (∀ W : World, (Instr.slice 22 (.slice A l.length c) (some (.int .i64 a)) none none).run Try.prog W = .ok (.slice A' (l.length - a.toNat) (c - a.toNat)) W) ∧ ∀ w W : World, Below w.heap.size w W → Kd.C k72 w A l.length l → ReadsRow (k72.K w) 2 W A' (l.length - a.toNat) (l.drop a.toNat) := by
  refine ⟨if c = a.toNat then A else A.map (·.add (a.toNat * 2)), fun W => ?_, fun w W hb h => ?_⟩
  · obtain ⟨i, hi, hz⟩ := Option.map_eq_some_iff.1 info72
    simp only [Prod.mk.injEq] at hz
    have hel : Try.prog.elem 22 = 72 := by kernel_rfl
    have hu : Try.prog.underlying 22 = some (.slice (Try.prog.elem 22)) := by rw [hel]; exact Try.underlying22
    rw [run_slice_l W 22 A l.length c hu .i64 a h0 (by omega), hel]
    simp [sizeOf, typeInfo, hi, hz.2.1, sliced, Result.andThen]
  · have h2 := sub_rows h hc hb a.toNat (l.length - a.toNat) (by omega)
    rwa [List.take_of_length_le (by rw [List.length_drop]; omega)] at h2
theorem first_rows {w W : World} {A : Option Addr} {l : List S72} (h : Kd.C k72 w A l.length l) (hb : Below w.heap.size w W) {m : Nat} (hm : m ≤ l.length) : ReadsRow (k72.K w) 2 W A m (l.take m) := by
  refine ReadsRow.imp_ (w := w) ⟨by rw [List.length_take]; omega, by have := h.2.1; omega, fun hp => ?_⟩ hb (fun _ _ hp => hp)
  obtain ⟨ad, e, hc⟩ := h.2.2 (by omega)
  refine ⟨ad, e, fun j p hj => hc j p ?_⟩
  rw [List.getElem?_take] at hj
  split at hj
  · exact hj
  · cases hj
theorem C_of_old {α : Type} {d : Kd α} {w W' : World} {A : Option Addr} {n : Nat} {xs : List α} (h : d.C w A n xs) (hb : Below w.heap.size w W') : d.C W' A n xs := Kd.C_below h hb
theorem below_cut {B B' : Nat} {w W W' : World} (h : Below B w W) (hB : B ≤ B') (k : Below B' W W') : Below B w W' := h.trans (k.mono hB)
/-- A made row whose elements lie in elder memory, read. -/
theorem C_fixed {w W : World} {base : Nat} {ok : Nat → Prop} {v : Value} {xs : List S72} (h : (Kd.fixed k72 w).R 72 W base ok v xs) (hb : Below w.heap.size w W) : ∃ A c, v = .slice A xs.length c ∧ xs.length ≤ c ∧ Kd.C k72 W A xs.length xs := by
  obtain ⟨A, c, e, hl, hc⟩ := Kd.R_reads h
  exact ⟨A, c, e, hl, Kd.C_read (d := k72) (dm := Kd.fixed k72 w) rfl (fun x cs hk => k72.K_below hb hk) hc⟩
theorem rk_fin2 {w W : World} {g5 : Nat} {A : Option Addr} {c base : Nat} {code : Int} {ok : Nat → Prop} {xs : List S72} {r : List S72 × S45} (HZ : W.heap[g5]? = some (.cells #[.int .i64 0, .slice none 0 0] 45 (0, 0))) (hg : w.heap.size ≤ g5)
    (hr : (Kd.fixed k72 w).R 72 W base ok (.slice A xs.length c) xs) (hc : xs.length ≤ c) (hB : Below w.heap.size w W) (he : r = (xs, ⟨code, []⟩)) :
    ((W.setCell ⟨g5, 0, none⟩ (.int .i64 code)).setCell ⟨g5, 1, none⟩ (.slice none 0 0)).heap[g5]? = some (.cells #[.int .i64 code, .slice none 0 0] 45 (0, 0)) ∧ PostRk w r (.returned (.tuple #[.slice A xs.length c, .agg #[.int .i64 code, .slice none 0 0]])) ((W.setCell ⟨g5, 0, none⟩ (.int .i64 code)).setCell ⟨g5, 1, none⟩ (.slice none 0 0)) := by
  subst he
  have h1 := blk_set HZ 0 (.int .i64 code)
  have hR := Kd.R_set (Kd.R_set hr HZ (by intro q hq; rw [List.mem_singleton.1 hq]; decide) 0 (.int .i64 code)) h1 (by intro q hq; rw [List.mem_singleton.1 hq]; decide) 1 (.slice none 0 0)
  have hB2 := below_set (j := 1) (v := .slice none 0 0) (below_set (j := 0) (v := .int .i64 code) hB hg) hg
  obtain ⟨A', c', e, hl, hC⟩ := C_fixed hR hB2
  injection e with e1 e2 e3
  subst e1
  exact ⟨put2c HZ _ _, ⟨A, c, none, 0, rfl, hc, hC, Kd.C_nil _ _, hB2⟩⟩
set_option maxHeartbeats 4000000 in
set_option maxRecDepth 100000 in
theorem ref07_Do (A0 A1 A2 A3 : Option Addr) (c0 c1 c2 c3 : Nat) (l : List S72) (k : Int) (n a b : List Int) (num : Int) (w : World) (hr0 : Kd.C k72 w A0 l.length l) (hc0 : l.length ≤ c0) (hn : CB w A1 n) (hnc : n.length ≤ c1) (ha : CB w A2 a) (hac : a.length ≤ c2) (hb : CB w A3 b) (hbc : b.length ≤ c3) (hs : l.length ≤ 1048576) (hk : -9223372036854775808 ≤ k ∧ k ≤ 9223372036854775807) :
    Calls Try.prog 40 #[.slice A0 l.length c0, .agg #[.int .i64 k, .slice A1 n.length c1, .slice A2 a.length c2, .slice A3 b.length c3, .int .i64 num]] w (PostRk w (kvDo l k n a b num)) := by
  have HR0 := Aside0.mk hr0
  have HN := Aside0.mk hn
  have HA := Aside0.mk ha
  have HBb := Aside0.mk hb
  clear hr0 hn ha hb
  obtain ⟨g3, hg3⟩ : ∃ g, g = w.heap.size := ⟨_, rfl⟩
  obtain ⟨g5, hg5⟩ : ∃ g, g = w.heap.size + 1 := ⟨_, rfl⟩
  obtain ⟨W0, hW0⟩ : ∃ W, W = (w.alloc (.cells #[.int .i64 k, .slice A1 n.length c1, .slice A2 a.length c2, .slice A3 b.length c3, .int .i64 num] 63)).alloc (.cells #[.int .i64 0, .slice none 0 0] 45) := ⟨_, rfl⟩
  have HB := Aside0.mk (show Below w.heap.size w W0 from by rw [hW0]; exact below_alloc (below_alloc (Below.refl _ _) _) _)
  have HK := Aside0.mk (show W0.heap[g3]? = some (.cells #[.int .i64 k, .slice A1 n.length c1, .slice A2 a.length c2, .slice A3 b.length c3, .int .i64 num] 63 (0, 0)) from by rw [hW0, hg3]; exact blk_below (blk_new _ _) (below_alloc (Below.refl _ _) _))
  have HZ := Aside0.mk (show W0.heap[g5]? = some (.cells #[.int .i64 0, .slice none 0 0] 45 (0, 0)) by rw [hW0, hg5, show w.heap.size + 1 = (w.alloc (.cells #[.int .i64 k, .slice A1 n.length c1, .slice A2 a.length c2, .slice A3 b.length c3, .int .i64 num] 63)).heap.size by simp]; exact blk_new _ _)
  have HG5 := Aside0.mk (show w.heap.size ≤ g5 by omega)
  go_enter Try.func40, Try.ntmps40
  go_wp2_with fail
  try rw [← hg5]
  try rw [← hg3]
  rw [← hW0]
  clear hg3 hg5 hW0
  refine (ref07_Right A0 c0 l W0 (Kd.C_below HR0.out HB.out) hc0).mono ?_
  rintro e w2 ⟨r1, rfl, hb, hi1⟩
  have HI1 := Aside0.mk hi1
  clear hi1
  replace HB := Aside0.mk (below_step HB.out hb)
  replace HK := Aside0.mk (blk_below HK.out hb)
  replace HZ := Aside0.mk (blk_below HZ.out hb)
  clear hb
  have hq0 : w2.cell? ⟨g3, 0, none⟩ = some (.int .i64 k) := (blk_cell HK.out 0).trans rfl
  have hq1 : w2.cell? ⟨g3, 1, none⟩ = some (.slice A1 n.length c1) := (blk_cell HK.out 1).trans rfl
  have hq2 : w2.cell? ⟨g3, 2, none⟩ = some (.slice A2 a.length c2) := (blk_cell HK.out 2).trans rfl
  have hq3 : w2.cell? ⟨g3, 3, none⟩ = some (.slice A3 b.length c3) := (blk_cell HK.out 3).trans rfl
  have hq4 : w2.cell? ⟨g3, 4, none⟩ = some (.int .i64 num) := (blk_cell HK.out 4).trans rfl
  cases r1 with
  | false =>
    have hz0 : w2.cell? ⟨g5, 0, none⟩ = some (.int .i64 0) := (blk_cell HZ.out 0).trans rfl
    have hz1 : w2.cell? ⟨g5, 1, none⟩ = some (.slice none 0 0) := (blk_cell HZ.out 1).trans rfl
    have hzf0 := blk_frozen HZ.out 0
    have hzf1 := blk_frozen HZ.out 1
    go_wp2_with fail
    have HF := rk_fin (l := []) (rc := 0) (RA := none) HZ.out HG5.out hc0 (fun W' hb => Kd.C_below HR0.out (below_cut HB.out HG5.out hb)) (fun W' hb => Kd.C_nil _ _) HB.out (code := 5) (show kvDo l k n a b num = _ from kvDo_bad (fun h => by have := HI1.out.2 h.1; cases this))
    refine bodyPost_ret (results_tc rfl _ _ g5 45 #[.int .i64 5, .slice none 0 0] (0, 0) _ rfl HF.1 Try.underlying45 rfl (by kernel_rfl)) rfl ?_
    exact HF.2
  | true =>
    go_wp2_with fail
    refine (ref07_RightOp k A1 A2 A3 c1 c2 c3 n a b num w2).mono ?_
    rintro e w3 ⟨r2, rfl, hb, hi2⟩
    have HI2 := Aside0.mk hi2
    clear hi2
    clear hq0 hq1 hq2 hq3 hq4
    replace HB := Aside0.mk (below_step HB.out hb)
    replace HK := Aside0.mk (blk_below HK.out hb)
    replace HZ := Aside0.mk (blk_below HZ.out hb)
    clear hb
    have hq0 : w3.cell? ⟨g3, 0, none⟩ = some (.int .i64 k) := (blk_cell HK.out 0).trans rfl
    have hq1 : w3.cell? ⟨g3, 1, none⟩ = some (.slice A1 n.length c1) := (blk_cell HK.out 1).trans rfl
    have hq2 : w3.cell? ⟨g3, 2, none⟩ = some (.slice A2 a.length c2) := (blk_cell HK.out 2).trans rfl
    have hq3 : w3.cell? ⟨g3, 3, none⟩ = some (.slice A3 b.length c3) := (blk_cell HK.out 3).trans rfl
    have hq4 : w3.cell? ⟨g3, 4, none⟩ = some (.int .i64 num) := (blk_cell HK.out 4).trans rfl
    cases r2 with
    | false =>
      have hz0 : w3.cell? ⟨g5, 0, none⟩ = some (.int .i64 0) := (blk_cell HZ.out 0).trans rfl
      have hz1 : w3.cell? ⟨g5, 1, none⟩ = some (.slice none 0 0) := (blk_cell HZ.out 1).trans rfl
      have hzf0 := blk_frozen HZ.out 0
      have hzf1 := blk_frozen HZ.out 1
      go_wp2_with fail
      have HF := rk_fin (l := []) (rc := 0) (RA := none) HZ.out HG5.out hc0 (fun W' hb => Kd.C_below HR0.out (below_cut HB.out HG5.out hb)) (fun W' hb => Kd.C_nil _ _) HB.out (code := 5) (show kvDo l k n a b num = _ from kvDo_bad (fun h => by have := HI2.out.2 h.2.1; cases this))
      refine bodyPost_ret (results_tc rfl _ _ g5 45 #[.int .i64 5, .slice none 0 0] (0, 0) _ rfl HF.1 Try.underlying45 rfl (by kernel_rfl)) rfl ?_
      exact HF.2
    | true =>
      cases hk4 : decide (4 < k) with
      | true =>
        have hz0 : w3.cell? ⟨g5, 0, none⟩ = some (.int .i64 0) := (blk_cell HZ.out 0).trans rfl
        have hz1 : w3.cell? ⟨g5, 1, none⟩ = some (.slice none 0 0) := (blk_cell HZ.out 1).trans rfl
        have hzf0 := blk_frozen HZ.out 0
        have hzf1 := blk_frozen HZ.out 1
        go_wp2_with fail
        have HF := rk_fin (l := []) (rc := 0) (RA := none) HZ.out HG5.out hc0 (fun W' hb => Kd.C_below HR0.out (below_cut HB.out HG5.out hb)) (fun W' hb => Kd.C_nil _ _) HB.out (code := 5) (show kvDo l k n a b num = _ from kvDo_bad (fun h => absurd h.2.2 (by have := of_decide_eq_true hk4; omega)))
        refine bodyPost_ret (results_tc rfl _ _ g5 45 #[.int .i64 5, .slice none 0 0] (0, 0) _ rfl HF.1 Try.underlying45 rfl (by kernel_rfl)) rfl ?_
        exact HF.2
      | false =>
        have HGE := Aside0.mk (HI1.out.1 (by simp))
        have HGO := Aside0.mk (HI2.out.1 (by simp))
        have hk4' := of_decide_eq_false hk4
        have HGD := Aside0.mk (show kvDo l k n a b num = kvOp l k n a b (lbN (nm l) n) (fdN (nm l) n) from kvDo_good ⟨HGE.out, HGO.out, by omega⟩)
        clear HI1 HI2
        have hk0 := HGO.out.kind.1
        have hnl := HGO.out.name
        have hl64 := HGE.out.1
        have HSO := Aside0.mk (sortN_of_goodE HGE.out)
        have HLB := Aside0.mk (lbN_spec HSO.out n)
        go_wp2_with fail
        refine (ref07_Find A0 A1 c0 c1 l n w3 (Kd.C_below HR0.out HB.out) hc0 (Kd.C_below HN.out HB.out) hs).mono ?_
        rintro e w4 ⟨r, rfl, hf, hb⟩
        have hf2 := hf.sorted HSO.out
        have HWE := Aside0.mk (fun v => withL_eq (l := l) (n := n) HSO.out v)
        obtain ⟨I, hI⟩ : ∃ I, lbN (nm l) n = I := ⟨_, rfl⟩
        obtain ⟨F, hF⟩ : ∃ F, fdN (nm l) n = F := ⟨_, rfl⟩
        rw [hI, hF] at hf2 HWE
        rw [hI, hF] at HGD
        rw [hI] at HLB
        have HFD := Aside0.mk hF
        have HII := Aside0.mk hI
        have hIl : I ≤ l.length := by have := HLB.out.le; rw [nm_len] at this; exact this
        clear hF hI hf
        clear hq0 hq1 hq2 hq3 hq4
        replace HB := Aside0.mk (below_step HB.out hb)
        replace HK := Aside0.mk (blk_below HK.out hb)
        replace HZ := Aside0.mk (blk_below HZ.out hb)
        clear hb
        have hq0 : w4.cell? ⟨g3, 0, none⟩ = some (.int .i64 k) := (blk_cell HK.out 0).trans rfl
        have hq1 : w4.cell? ⟨g3, 1, none⟩ = some (.slice A1 n.length c1) := (blk_cell HK.out 1).trans rfl
        have hq2 : w4.cell? ⟨g3, 2, none⟩ = some (.slice A2 a.length c2) := (blk_cell HK.out 2).trans rfl
        have hq3 : w4.cell? ⟨g3, 3, none⟩ = some (.slice A3 b.length c3) := (blk_cell HK.out 3).trans rfl
        have hq4 : w4.cell? ⟨g3, 4, none⟩ = some (.int .i64 num) := (blk_cell HK.out 4).trans rfl
        cases F with
        | false =>
          rw [if_neg (by simp)] at hf2
          subst hf2
          cases hk2 : (k == 2) with
          | false =>
            have hz0 : w4.cell? ⟨g5, 0, none⟩ = some (.int .i64 0) := (blk_cell HZ.out 0).trans rfl
            have hz1 : w4.cell? ⟨g5, 1, none⟩ = some (.slice none 0 0) := (blk_cell HZ.out 1).trans rfl
            have hzf0 := blk_frozen HZ.out 0
            have hzf1 := blk_frozen HZ.out 1
            go_wp2_with fail
            have HF := rk_fin (l := []) (rc := 0) (RA := none) HZ.out HG5.out hc0 (fun W' hb => Kd.C_below HR0.out (below_cut HB.out HG5.out hb)) (fun W' hb => Kd.C_nil _ _) HB.out (code := 1) (show kvDo l k n a b num = _ from (by rw [HGD.out]; unfold kvOp; rw [if_pos ⟨rfl, ne_of_beq_false hk2⟩]))
            refine bodyPost_ret (results_tc rfl _ _ g5 45 #[.int .i64 1, .slice none 0 0] (0, 0) _ rfl HF.1 Try.underlying45 rfl (by kernel_rfl)) rfl ?_
            exact HF.2
          | true =>
            cases hl6 : ((l.length : Int) == 64) with
            | true =>
              have hz0 : w4.cell? ⟨g5, 0, none⟩ = some (.int .i64 0) := (blk_cell HZ.out 0).trans rfl
              have hz1 : w4.cell? ⟨g5, 1, none⟩ = some (.slice none 0 0) := (blk_cell HZ.out 1).trans rfl
              have hzf0 := blk_frozen HZ.out 0
              have hzf1 := blk_frozen HZ.out 1
              go_wp2_with fail
              have HF := rk_fin (l := []) (rc := 0) (RA := none) HZ.out HG5.out hc0 (fun W' hb => Kd.C_below HR0.out (below_cut HB.out HG5.out hb)) (fun W' hb => Kd.C_nil _ _) HB.out (code := 3) (show kvDo l k n a b num = _ from (by rw [HGD.out]; unfold kvOp; rw [if_neg (fun h => h.2 (eq_of_beq hk2)), if_neg (by have := eq_of_beq hk2; omega), if_pos (eq_of_beq hk2), if_pos rfl, if_pos (by have := eq_of_beq hl6; omega)]))
              refine bodyPost_ret (results_tc rfl _ _ g5 45 #[.int .i64 3, .slice none 0 0] (0, 0) _ rfl HF.1 Try.underlying45 rfl (by kernel_rfl)) rfl ?_
              exact HF.2
            | false =>
              go_wp2_with fail
              refine (ref07_With _ A1 A2 c0 c1 c2 l n a w w4 HB.out HR0.out hc0 HN.out hnc HA.out hac hl64).mono ?_
              rintro e w5 ⟨u, rfl, hr, hb⟩
              have hbX := hb
              obtain ⟨Ax, cx, hux, hlx, hcx⟩ := C_fixed hr (below_step HB.out hb)
              subst hux
              obtain ⟨xs, hxs⟩ : ∃ xs, withL l n a = xs := ⟨_, rfl⟩
              have HXS := Aside0.mk hxs
              rw [hxs] at hlx hcx hr ⊢
              have HLX := Aside0.mk hlx
              have HROW := Aside0.mk hr
              clear hxs hr hcx hlx
              replace HB := Aside0.mk (below_step HB.out hb)
              replace HK := Aside0.mk (blk_below HK.out hb)
              replace HZ := Aside0.mk (blk_below HZ.out hb)
              clear hb
              clear hq0 hq1 hq2 hq3 hq4
              have hz0 : w5.cell? ⟨g5, 0, none⟩ = some (.int .i64 0) := (blk_cell HZ.out 0).trans rfl
              have hz1 : w5.cell? ⟨g5, 1, none⟩ = some (.slice none 0 0) := (blk_cell HZ.out 1).trans rfl
              have hzf0 := blk_frozen HZ.out 0
              have hzf1 := blk_frozen HZ.out 1
              go_wp2_with fail
              have HF := rk_fin2 HZ.out HG5.out HROW.out HLX.out HB.out (code := 0) (show kvDo l k n a b num = _ from (by rw [HGD.out]; unfold kvOp; rw [if_neg (fun h => h.2 (eq_of_beq hk2)), if_neg (by have := eq_of_beq hk2; omega), if_pos (eq_of_beq hk2), if_pos rfl, if_neg (by have := ne_of_beq_false hl6; omega), ← HXS.out, HWE.out, if_neg (by simp)]))
              refine bodyPost_ret (results_tc rfl _ _ g5 45 #[.int .i64 0, .slice none 0 0] (0, 0) _ rfl HF.1 Try.underlying45 rfl (by kernel_rfl)) rfl ?_
              exact HF.2
        | true =>
          rw [if_pos rfl] at hf2
          subst hf2
          cases hk1 : (k == 1) with
          | true =>
            have hfd := HFD.out
            unfold fdN at hfd
            rw [Bool.and_eq_true, decide_eq_true_eq, HII.out, nm_len] at hfd
            have hIlt : I < l.length := hfd.1
            clear hfd
            have hI0 : (0 : Int) ≤ I := by omega
            have hI1 : (I : Int) < l.length := by omega
            have hI2 : ¬ ((I : Int) < 0) := by omega
            obtain ⟨ad, A', c', A2', c2', e1, hx0, hx1, hl', hn', hl2', hn2'⟩ := at_T72 HR0.out (I : Int) hI0 hI1
            subst e1
            replace hx0 := pw_cell_below HB.out hx0
            replace hx1 := pw_cell_below HB.out hx1
            have HX2 := Aside0.mk hn2'
            obtain ⟨VL, hVL⟩ : ∃ VL, (rd_T72 l (I : Int)).f1 = VL := ⟨_, rfl⟩
            rw [hVL] at hx1 HX2 hl2'
            have HVL := Aside0.mk (show (l.getD I z72).f1 = VL from hVL)
            rw [Int.toNat_natCast] at hx0 hx1
            clear hn' hn2' hVL
            have hz0 : w4.cell? ⟨g5, 0, none⟩ = some (.int .i64 0) := (blk_cell HZ.out 0).trans rfl
            have hz1 : w4.cell? ⟨g5, 1, none⟩ = some (.slice none 0 0) := (blk_cell HZ.out 1).trans rfl
            have hzf0 := blk_frozen HZ.out 0
            have hzf1 := blk_frozen HZ.out 1
            go_wp2_with fail
            go_region_law fail
            all_goals
              have HF := rk_fin (l := VL) (rc := c2') (RA := A2') HZ.out HG5.out hc0 (fun W' hb => Kd.C_below HR0.out (below_cut HB.out HG5.out hb)) (fun W' hb => Kd.C_below HX2.out (below_cut HB.out HG5.out hb)) HB.out (code := 0) (show kvDo l k n a b num = _ from (by rw [HGD.out]; unfold kvOp; rw [if_neg (fun h => by cases h.1), if_pos (eq_of_beq hk1), HVL.out]))
              go_wp2_with fail
              refine bodyPost_ret (results_tc rfl _ _ g5 45 #[.int .i64 0, .slice A2' VL.length c2'] (0, 0) _ rfl HF.1 Try.underlying45 rfl (by kernel_rfl)) rfl ?_
              exact HF.2.drew
          | false =>
            cases hk2 : (k == 2) with
            | true =>
              have hI2 : ¬ ((I : Int) < 0) := by omega
              go_wp2_with fail
              refine (ref07_With _ A1 A2 c0 c1 c2 l n a w w4 HB.out HR0.out hc0 HN.out hnc HA.out hac hl64).mono ?_
              rintro e w5 ⟨u, rfl, hr, hb⟩
              have hbX := hb
              obtain ⟨Ax, cx, hux, hlx, hcx⟩ := C_fixed hr (below_step HB.out hb)
              subst hux
              obtain ⟨xs, hxs⟩ : ∃ xs, withL l n a = xs := ⟨_, rfl⟩
              have HXS := Aside0.mk hxs
              rw [hxs] at hlx hcx hr ⊢
              have HLX := Aside0.mk hlx
              have HROW := Aside0.mk hr
              clear hxs hr hcx hlx
              replace HB := Aside0.mk (below_step HB.out hb)
              replace HK := Aside0.mk (blk_below HK.out hb)
              replace HZ := Aside0.mk (blk_below HZ.out hb)
              clear hb
              clear hq0 hq1 hq2 hq3 hq4
              have hz0 : w5.cell? ⟨g5, 0, none⟩ = some (.int .i64 0) := (blk_cell HZ.out 0).trans rfl
              have hz1 : w5.cell? ⟨g5, 1, none⟩ = some (.slice none 0 0) := (blk_cell HZ.out 1).trans rfl
              have hzf0 := blk_frozen HZ.out 0
              have hzf1 := blk_frozen HZ.out 1
              go_wp2_with fail
              have HF := rk_fin2 HZ.out HG5.out HROW.out HLX.out HB.out (code := 0) (show kvDo l k n a b num = _ from (by rw [HGD.out]; unfold kvOp; rw [if_neg (fun h => by cases h.1), if_neg (by have := eq_of_beq hk2; omega), if_pos (eq_of_beq hk2), if_neg (by simp), ← HXS.out, HWE.out, if_pos trivial]))
              refine bodyPost_ret (results_tc rfl _ _ g5 45 #[.int .i64 0, .slice none 0 0] (0, 0) _ rfl HF.1 Try.underlying45 rfl (by kernel_rfl)) rfl ?_
              exact HF.2
            | false =>
              cases hk3 : (k == 3) with
              | true =>
                have hfd := HFD.out
                unfold fdN at hfd
                rw [Bool.and_eq_true, decide_eq_true_eq, HII.out, nm_len] at hfd
                have hIlt : I < l.length := hfd.1
                clear hfd
                have hI0 : (0 : Int) ≤ I := by omega
                have hI1 : (I : Int) < l.length := by omega
                have hI2 : ¬ ((I : Int) < 0) := by omega
                obtain ⟨ad, A', c', A2', c2', e1, hx0, hx1, hl', hn', hl2', hn2'⟩ := at_T72 HR0.out (I : Int) hI0 hI1
                subst e1
                replace hx0 := pw_cell_below HB.out hx0
                replace hx1 := pw_cell_below HB.out hx1
                have HX2 := Aside0.mk hn2'
                obtain ⟨VL, hVL⟩ : ∃ VL, (rd_T72 l (I : Int)).f1 = VL := ⟨_, rfl⟩
                rw [hVL] at hx1 HX2 hl2'
                have HVL := Aside0.mk (show (l.getD I z72).f1 = VL from hVL)
                rw [Int.toNat_natCast] at hx0 hx1
                clear hn' hn2' hVL
                cases hsm : sameB VL a with
                | false =>
                  go_wp2_with fail
                  go_quiet (first | (go_at_call 22; exact quiet_of_drawn (ref01_Same A2' A2 c2' c2 VL a _ (Kd.C_drewN (Kd.C_below HX2.out HB.out) _) (Kd.C_drewN (Kd.C_below HA.out HB.out) _))))
                  obtain ⟨wq, hwq⟩ : ∃ W, W = w4.drewN nq := ⟨_, rfl⟩
                  rw [← hwq]
                  have hb : Below w4.heap.size w4 wq := by rw [hwq]; exact pw_below_drewN (Below.refl _ _) nq
                  replace hx0 : wq.cell? (ad.add (I * 2)) = some (.slice A' (rd_T72 l (I : Int)).f0.length c') := by rw [hwq]; exact hx0
                  replace hx1 : wq.cell? ⟨(ad.add (I * 2)).block, (ad.add (I * 2)).off + 1, none⟩ = some (.slice A2' VL.length c2') := by rw [hwq]; exact hx1
                  clear hwq hq0 hq1 hq2 hq3 hq4
                  replace HB := Aside0.mk (below_step HB.out hb)
                  replace HK := Aside0.mk (blk_below HK.out hb)
                  replace HZ := Aside0.mk (blk_below HZ.out hb)
                  clear hb
                  have hq0 : wq.cell? ⟨g3, 0, none⟩ = some (.int .i64 k) := (blk_cell HK.out 0).trans rfl
                  have hq1 : wq.cell? ⟨g3, 1, none⟩ = some (.slice A1 n.length c1) := (blk_cell HK.out 1).trans rfl
                  have hq2 : wq.cell? ⟨g3, 2, none⟩ = some (.slice A2 a.length c2) := (blk_cell HK.out 2).trans rfl
                  have hq3 : wq.cell? ⟨g3, 3, none⟩ = some (.slice A3 b.length c3) := (blk_cell HK.out 3).trans rfl
                  have hq4 : wq.cell? ⟨g3, 4, none⟩ = some (.int .i64 num) := (blk_cell HK.out 4).trans rfl
                  have hz0 : wq.cell? ⟨g5, 0, none⟩ = some (.int .i64 0) := (blk_cell HZ.out 0).trans rfl
                  have hz1 : wq.cell? ⟨g5, 1, none⟩ = some (.slice none 0 0) := (blk_cell HZ.out 1).trans rfl
                  have hzf0 := blk_frozen HZ.out 0
                  have hzf1 := blk_frozen HZ.out 1
                  go_wp2_with fail
                  go_region_law fail
                  all_goals
                    have HF := rk_fin (l := VL) (rc := c2') (RA := A2') HZ.out HG5.out hc0 (fun W' hb => Kd.C_below HR0.out (below_cut HB.out HG5.out hb)) (fun W' hb => Kd.C_below HX2.out (below_cut HB.out HG5.out hb)) HB.out (code := 2) (show kvDo l k n a b num = _ from (by rw [HGD.out]; unfold kvOp; rw [if_neg (fun h => by cases h.1), if_neg (by have := eq_of_beq hk3; omega), if_neg (by have := eq_of_beq hk3; omega), if_pos (eq_of_beq hk3), HVL.out, if_pos hsm]))
                    go_wp2_with fail
                    refine bodyPost_ret (results_tc rfl _ _ g5 45 #[.int .i64 2, .slice A2' VL.length c2'] (0, 0) _ rfl HF.1 Try.underlying45 rfl (by kernel_rfl)) rfl ?_
                    exact HF.2.drew
                | true =>
                  go_wp2_with fail
                  go_quiet (first | (go_at_call 22; exact quiet_of_drawn (ref01_Same A2' A2 c2' c2 VL a _ (Kd.C_drewN (Kd.C_below HX2.out HB.out) _) (Kd.C_drewN (Kd.C_below HA.out HB.out) _))))
                  obtain ⟨wq, hwq⟩ : ∃ W, W = w4.drewN nq := ⟨_, rfl⟩
                  rw [← hwq]
                  have hb : Below w4.heap.size w4 wq := by rw [hwq]; exact pw_below_drewN (Below.refl _ _) nq
                  replace hx0 : wq.cell? (ad.add (I * 2)) = some (.slice A' (rd_T72 l (I : Int)).f0.length c') := by rw [hwq]; exact hx0
                  replace hx1 : wq.cell? ⟨(ad.add (I * 2)).block, (ad.add (I * 2)).off + 1, none⟩ = some (.slice A2' VL.length c2') := by rw [hwq]; exact hx1
                  clear hwq hq0 hq1 hq2 hq3 hq4
                  replace HB := Aside0.mk (below_step HB.out hb)
                  replace HK := Aside0.mk (blk_below HK.out hb)
                  replace HZ := Aside0.mk (blk_below HZ.out hb)
                  clear hb
                  have hq0 : wq.cell? ⟨g3, 0, none⟩ = some (.int .i64 k) := (blk_cell HK.out 0).trans rfl
                  have hq1 : wq.cell? ⟨g3, 1, none⟩ = some (.slice A1 n.length c1) := (blk_cell HK.out 1).trans rfl
                  have hq2 : wq.cell? ⟨g3, 2, none⟩ = some (.slice A2 a.length c2) := (blk_cell HK.out 2).trans rfl
                  have hq3 : wq.cell? ⟨g3, 3, none⟩ = some (.slice A3 b.length c3) := (blk_cell HK.out 3).trans rfl
                  have hq4 : wq.cell? ⟨g3, 4, none⟩ = some (.int .i64 num) := (blk_cell HK.out 4).trans rfl
                  go_wp2_with fail
                  refine (ref07_With _ A1 A3 c0 c1 c3 l n b w wq HB.out HR0.out hc0 HN.out hnc HBb.out hbc hl64).mono ?_
                  rintro e w5 ⟨u, rfl, hr, hb⟩
                  have hbX := hb
                  obtain ⟨Ax, cx, hux, hlx, hcx⟩ := C_fixed hr (below_step HB.out hb)
                  subst hux
                  obtain ⟨xs, hxs⟩ : ∃ xs, withL l n b = xs := ⟨_, rfl⟩
                  have HXS := Aside0.mk hxs
                  rw [hxs] at hlx hcx hr ⊢
                  have HLX := Aside0.mk hlx
                  have HROW := Aside0.mk hr
                  clear hxs hr hcx hlx
                  replace HB := Aside0.mk (below_step HB.out hb)
                  replace HK := Aside0.mk (blk_below HK.out hb)
                  replace HZ := Aside0.mk (blk_below HZ.out hb)
                  clear hb
                  clear hq0 hq1 hq2 hq3 hq4
                  have hz0 : w5.cell? ⟨g5, 0, none⟩ = some (.int .i64 0) := (blk_cell HZ.out 0).trans rfl
                  have hz1 : w5.cell? ⟨g5, 1, none⟩ = some (.slice none 0 0) := (blk_cell HZ.out 1).trans rfl
                  have hzf0 := blk_frozen HZ.out 0
                  have hzf1 := blk_frozen HZ.out 1
                  go_wp2_with fail
                  have HF := rk_fin2 HZ.out HG5.out HROW.out HLX.out HB.out (code := 0) (show kvDo l k n a b num = _ from (by rw [HGD.out]; unfold kvOp; rw [if_neg (fun h => by cases h.1), if_neg (by have := eq_of_beq hk3; omega), if_neg (by have := eq_of_beq hk3; omega), if_pos (eq_of_beq hk3), if_neg (by rw [HVL.out, hsm]; simp), ← HXS.out, HWE.out, if_pos trivial]))
                  refine bodyPost_ret (results_tc rfl _ _ g5 45 #[.int .i64 0, .slice none 0 0] (0, 0) _ rfl HF.1 Try.underlying45 rfl (by kernel_rfl)) rfl ?_
                  exact HF.2
              | false =>
                have hfd := HFD.out
                unfold fdN at hfd
                rw [Bool.and_eq_true, decide_eq_true_eq, HII.out, nm_len] at hfd
                have hIlt : I < l.length := hfd.1
                clear hfd
                have hI0 : (0 : Int) ≤ I := by omega
                have hI1 : (I : Int) < l.length := by omega
                have hI2 : ¬ ((I : Int) < 0) := by omega
                obtain ⟨ad, A', c', A2', c2', e1, hx0, hx1, hl', hn', hl2', hn2'⟩ := at_T72 HR0.out (I : Int) hI0 hI1
                subst e1
                replace hx0 := pw_cell_below HB.out hx0
                replace hx1 := pw_cell_below HB.out hx1
                have HX2 := Aside0.mk hn2'
                obtain ⟨VL, hVL⟩ : ∃ VL, (rd_T72 l (I : Int)).f1 = VL := ⟨_, rfl⟩
                rw [hVL] at hx1 HX2 hl2'
                have HVL := Aside0.mk (show (l.getD I z72).f1 = VL from hVL)
                rw [Int.toNat_natCast] at hx0 hx1
                clear hn' hn2' hVL
                obtain ⟨A9, hcut, hcr⟩ := cut_l72 (some ad) l c0 ((I : Int) + 1) (by omega) (by omega) hc0
                rw [show ((I : Int) + 1).toNat = I + 1 by omega] at hcut hcr
                have HCR := Aside0.mk hcr
                clear hcr
                have hI3 : (I : Int) + 1 ≤ l.length := by omega
                have hI4 : (I : Int) ≤ l.length := by omega
                clear hx0 hx1
                go_wp2_with (first | ((with_reducible refine gate_dst (N := 90) rfl ?_); refine Kd.R_lit (Kd.fixed k72 w) w.heap.size 72 ?hg (N := 90) ?hd (xs := ([] : List S72)) (inner := []) (ok := fun _ => True) (okp := fun _ => True) ?hr ?hp (fun _ hk => hk) trivial HB.out (below_size HB.out) (by simp) ?_; (case hd => rfl); (case hg => rfl); (case hr => first | (go_simp; done) | (go_simp; rfl)); (case hp => exact (Reps.none _ _)); intro u5 w5 ho hb hgr hnew_; have HO5 := Aside0.mk ho; have HB5 := Aside0.mk hb; have HZ5 := Aside0.mk (blk_grown HZ.out hgr (by simp)); clear ho hb hgr hnew_) | ((with_reducible refine gate_builtin (b := .append) (xs := #[.tmp 90, .tmp 93]) rfl ?_); at_builtin; refine Kd.R_append_rows (Kd.fixed k72 w) (Rr := k72.K w) (w0 := w) w.heap.size rfl (.tmp 90) (.tmp 93) 22 72 (.agg #[.slice none 0 0, .slice none 0 0]) 48 rfl Try.underlying22 info72 rfl (by show 0 < 2; omega) (by omega) _ ([]) (l.take I) (some ad) (I) (c0) (fun _ => True) (fun _ => False) rfl rfl HO5.out (first_rows HR0.out HB5.out hIl) (fun _ _ h => h) (fun _ h => h.elim) (fun _ _ => trivial) HB5.out (below_size HB5.out) ?hl ?_; (case hl => (try simp only [List.length_append, List.length_take, List.length_drop, List.length_nil]); omega); intro u6 w6 ho hb hgr hat; have HO6 := Aside0.mk ho; have HB6 := Aside0.mk hb; have HZ6 := Aside0.mk (blk_grown HZ5.out hgr (fun e => by have := Kd.R_ne HO5.out HZ5.out (by decide); exact this e)); clear ho hb hgr hat) | ((with_reducible refine gate_builtin (b := .append) (xs := #[.tmp 95, .tmp 99]) rfl ?_); at_builtin; refine Kd.R_append_rows (Kd.fixed k72 w) (Rr := k72.K w) (w0 := w) w.heap.size rfl (.tmp 95) (.tmp 99) 22 72 (.agg #[.slice none 0 0, .slice none 0 0]) 48 rfl Try.underlying22 info72 rfl (by show 0 < 2; omega) (by omega) _ ([] ++ l.take I) (l.drop (I + 1)) (A9) (l.length - (I + 1)) (c0 - (I + 1)) (fun _ => True) (fun _ => False) rfl rfl HO6.out (HCR.out _ _ HB6.out HR0.out) (fun _ _ h => h) (fun _ h => h.elim) (fun _ _ => trivial) HB6.out (below_size HB6.out) ?hl ?_; (case hl => (try simp only [List.length_append, List.length_take, List.length_drop, List.length_nil]); omega); intro u7 w7 ho hb hgr hat; have HO7 := Aside0.mk ho; have HB7 := Aside0.mk hb; have HZ7 := Aside0.mk (blk_grown HZ6.out hgr (fun e => by have := Kd.R_ne HO6.out HZ6.out (by decide); exact this e)); clear ho hb hgr hat; have hz0 : w7.cell? ⟨g5, 0, none⟩ = some (.int .i64 0) := (blk_cell HZ7.out 0).trans rfl; have hz1 : w7.cell? ⟨g5, 1, none⟩ = some (.slice none 0 0) := (blk_cell HZ7.out 1).trans rfl; have hzf0 := blk_frozen HZ7.out 0; have hzf1 := blk_frozen HZ7.out 1))
                obtain ⟨Ax, cx, hux, hlx, hcx⟩ := C_fixed HO7.out HB7.out
                subst hux
                obtain ⟨xs, hxs⟩ : ∃ xs, [] ++ l.take I ++ l.drop (I + 1) = xs := ⟨_, rfl⟩
                have HXS := Aside0.mk hxs
                rw [hxs] at hlx
                rw [hxs] at HO7
                rw [hxs]
                have HF := rk_fin2 HZ7.out HG5.out HO7.out hlx HB7.out (code := 0) (show kvDo l k n a b num = _ from (by rw [HGD.out]; unfold kvOp; have y1 := ne_of_beq_false hk1; have y2 := ne_of_beq_false hk2; have y3 := ne_of_beq_false hk3; rw [if_neg (fun h => by cases h.1), if_neg y1, if_neg y2, if_neg y3, ← HXS.out, List.nil_append, List.eraseIdx_eq_take_drop_succ]))
                refine bodyPost_ret (results_tc rfl _ _ g5 45 #[.int .i64 0, .slice none 0 0] (0, 0) _ rfl HF.1 Try.underlying45 rfl (by kernel_rfl)) rfl ?_
                exact HF.2

end Go.Proofs.Ytophfoenaekfjaa

