/- Parts of the proof of KvKeeps: Rows of entries: slices.Insert, slices.Delete. Rows whose elements have memory of their own: an element put in, an element taken out. -/
import Derived.Test.YtophfoenaekfjaaKvKeepsm3
import Derived.Outline
import Derived.Lib.Overlaps
import Derived.Lib.AppendZerosOnto
import Derived.Laws.CopyRow
import Derived.Laws.CopyOwn
import Derived.Laws.Externs
import Derived.Deep.RegionLaw
namespace Go.Proofs.Ytophfoenaekfjaa
open Go.RowKit Go.Proofs.YtophfoenaekfjaaW.PrintWords Go.Proofs.YtophfoenaekfjaaW.PrintLast Go.Proofs.YtophfoenaekfjaaW.PrintMore Go.Proofs.Ytophfoenaekfjaa.PSnapEncodes
set_option linter.unusedVariables false
set_option linter.unusedSimpArgs false

section
variable {P : Program}
/-- copy(d, s) between rows of elements of K cells: all is read before anything is written. -/
theorem run_copy_rowK (w : World) (dT sT ty elem : TypeId) (g o dLen dCap : Nat) (a : Addr) (sLen sCap : Nat) (cur : Array Value) (t : TypeId) (cs : List Value) (K : Nat)
    (hu : P.underlying dT = some (.slice elem)) (hs : (P.info? elem).map (·.size) = some K)
    (hg : w.heap[g]? = some (.cells cur t (0, 0))) (hn : cs.length = Nat.min sLen dLen * K)
    (hsrc : ∀ j v, cs[j]? = some v → w.cell? (a.add j) = some v) (hfit : o + cs.length ≤ cur.size) (h1 : ∀ v ∈ cs, v.oneCell' = true) :
    (Builtin.copy_ #[dT, sT] ty #[.slice (some ⟨g, o, none⟩) dLen dCap, .slice (some a) sLen sCap]).run P w =
      .ok (goInt (Nat.min sLen dLen)) (w.setRow g (cur.toList.take o ++ cs ++ cur.toList.drop (o + cs.length)).toArray) := by
  have hl := run_loadCells_list (P := P) w a cs hsrc
  have hst := run_storeCells_at P g o t cs 0 cur w hg (by simpa using hfit) h1
  cases hq : P.info? elem with
  | none => simp [hq] at hs
  | some i =>
    have hi : i.size = K := by simpa [hq] using hs
    simp [Builtin.copy_, run_underlying hu, Builtin.lenOf, Builtin.firstCells, sizeOf, typeInfo, hq, hi, ← hn, hl, hst]
/-- copy(d, s), its run known, as one operation of a list. -/
theorem wpList_copy_known (w : World) {ops : Array Oper} {rest : List Oper} {o : Oper} {a : Act} {Q : Exit → Act → World → Prop} (hgd : o.guard = none) (d s : Operand) (t t' : TypeId)
    (ho : o.op = .call { callee := .builtin .copy, args := #[d, s], argTypes := #[t, t'] }) (v u : Value) (hd : a.eval d = v) (hs : a.eval s = u) {v' : Value} {w' : World}
    (hr : (Builtin.copy_ #[t, t'] o.type #[v, u]).run P w = .ok v' w') (h : wpList P ops Q rest (a.put o.dst v') w') : wpList P ops Q (o :: rest) a w := by
  refine wpList_plain hgd fun K hK => ?_
  unfold Oper.wp execOp
  simp only [ho, resolve, invoke, builtin, Sem.run_bind, Sem.run_pure, Result.andThen_ok, List.map_toArray, List.map_cons, List.map_nil, hd, hs, hr]
  exact hK _ _ h
/-- .. and as one step of a region that draws. -/
theorem step_copy_known {ops : Array Oper} {o : Oper} {a : Act} {w : World} {K : Act → World → Prop} {Q : Exit → Act → World → Prop} {E : Prop}
    (hg : o.guard = none) (d x : Operand) (dT sT : TypeId) (hop : o.op = Op.call { callee := Callee.builtin Builtin.copy, args := #[d, x], argTypes := #[dT, sT] })
    (v u : Value) (hd : a.eval d = v) (hx : a.eval x = u) {v' : Value} {w' : World} (hr : (Builtin.copy_ #[dT, sT] o.type #[v, u]).run P w = .ok v' w') (hK : K (a.put o.dst v') w') :
    if Region.wanted o (yielded ops a.tmps) = true then Oper.wp P o a w K Q else E := by
  have hw : Region.wanted o (yielded ops a.tmps) = true := by simp [Region.wanted, hg]
  rw [if_pos hw]
  unfold Oper.wp
  simp [execOp, hop, resolve, invoke, builtin, hd, hx, hr, Result.andThen]
  exact hK
/-- append, its run known, as one step of a region that draws. -/
theorem step_append_known {P : Program} {ops : Array Oper} {o : Oper} {a : Act} {w : World} {K : Act → World → Prop} {Q : Exit → Act → World → Prop} {E : Prop}
    (hg : o.guard = none) (d x : Operand) (dT sT : TypeId) (hop : o.op = Op.call { callee := Callee.builtin Builtin.append, args := #[d, x], argTypes := #[dT, sT] })
    (v u : Value) (hd : a.eval d = v) (hx : a.eval x = u) {v' : Value} {w' : World} (hr : (Builtin.append_ #[dT, sT] o.type #[v, u]).run P w = .ok v' w') (hK : K (a.put o.dst v') w') :
    if Region.wanted o (yielded ops a.tmps) = true then Oper.wp P o a w K Q else E := by
  have hw : Region.wanted o (yielded ops a.tmps) = true := by simp [Region.wanted, hg]
  rw [if_pos hw]
  unfold Oper.wp
  simp [execOp, hop, resolve, invoke, builtin, hd, hx, hr, Result.andThen]
  exact hK
end
theorem grown_setRow {w : World} {g : Nat} (cs : Array Value) : w.grownBy (w.setRow g cs) (some g) :=
  ⟨rfl, rfl, rfl, by simp [World.setRow], fun k _ hk => setRow_other w g k cs (fun e => hk (by rw [e]))⟩

theorem splice_move {α : Type} (L D : List α) (cs : List α) (a K e : Nat) (hD : D.length + a = e) (hcs : cs.length = K) (hfit : e + K ≤ L.length) :
    (L.take (a + K) ++ D ++ L.drop (a + K + D.length)).take a ++ cs ++ (L.take (a + K) ++ D ++ L.drop (a + K + D.length)).drop (a + cs.length) = L.take a ++ cs ++ (D ++ L.drop (e + K)) := by
  have h1 : (L.take (a + K)).length = a + K := by rw [List.length_take]; omega
  rw [List.append_assoc (L.take (a + K)), List.take_append_of_le_length (by omega), List.take_take, Nat.min_eq_left (by omega), hcs, List.drop_left' h1]
  rw [show a + K + D.length = e + K by omega]
theorem take_three {α : Type} (A B C : List α) (n : Nat) (h : A.length + B.length = n) : (A ++ B ++ C).take n = A ++ B := by
  rw [← h, ← List.length_append, List.take_left]
theorem splice_new {α : Type} (O D cs Z : List α) (a K e : Nat) (hO : O.length = a) (hD : D.length + a = e) (hcs : cs.length = K) (hfit : e + K ≤ (O ++ Z).length) :
    ((((O ++ Z).take a ++ cs ++ (O ++ Z).drop (a + cs.length))).take (a + K) ++ D ++ ((O ++ Z).take a ++ cs ++ (O ++ Z).drop (a + cs.length)).drop (a + K + D.length)).take (e + K) = O ++ cs ++ D := by
  have h1 : (O ++ Z).take a = O := by rw [← hO, List.take_left]
  rw [h1]
  have h2 : (O ++ cs ++ (O ++ Z).drop (a + cs.length)).take (a + K) = O ++ cs := take_three _ _ _ _ (by omega)
  rw [h2, take_three]
  rw [List.length_append]
  omega
theorem sizeK_72 (w : World) : (Go.sizeOf 72).run Try.prog w = .ok 2 w := by
  have h : (Try.prog.info? 72).map (·.size) = some 2 := by kernel_rfl
  cases hq : Try.prog.info? 72 with
  | none => rw [hq] at h; cases h
  | some i =>
    have hi : i.size = 2 := by rw [hq] at h; exact Option.some.inj h
    simp [sizeOf, typeInfo, hq, hi]
set_option maxHeartbeats 4000000 in
set_option maxRecDepth 100000 in
theorem insert72_room (g n c i gb : Nat) (cur : List Value) (cs : List Value) (w : World) (hi : i < n) (hroom : n + 1 ≤ c) (hc63 : c ≤ 9223372036854775807)
    (hg : w.heap[g]? = some (.cells cur.toArray 72 (0, 0))) (hcur : cur.length = c * 2) (hb : w.heap[gb]? = some (.cells cs.toArray 72 (0, 0))) (hcs : cs.length = 2) (h1 : ∀ u ∈ cs, u.oneCell' = true) (h2 : ∀ u ∈ cur.take (n * 2), u.oneCell' = true) (hne : gb ≠ g) :
    Calls Try.prog 98 #[.slice (some ⟨g, 0, none⟩) n c, .int .i64 i, .slice (some ⟨gb, 0, none⟩) 1 1] w fun e w' =>
      e = .returned (.slice (some ⟨g, 0, none⟩) (n + 1) c) ∧ ∃ cur' : List Value, w'.heap[g]? = some (.cells cur'.toArray 72 (0, 0)) ∧ cur'.length = c * 2 ∧ cur'.take ((n + 1) * 2) = cur.take (i * 2) ++ cs ++ (cur.take (n * 2)).drop (i * 2) ∧ w.grownBy w' (some g) := by
  have hz2 : ¬ ((i : Int) = (n : Int)) := by omega
  have hb4 : ¬ (c = i) := by omega
  have hb2 : ¬ (c = i + 1) := by omega
  have hb3 : (i : Int) ≤ (n : Int) + 1 := by omega
  have hin : (i : Int) ≤ n := by omega
  have hov : ∀ lb cb, (callFunc 127 #[.slice (some ⟨gb, 0, none⟩) 1 1, .slice (some ⟨g, (i + 1) * 2, none⟩) lb cb]).run Try.prog w = .ok (.value (.bool false)) w := fun lb cb => by
    rw [run_callFunc_extern Try.func127 (by kernel_rfl) (by kernel_rfl) (by kernel_rfl) (e := Extern.SlicesOverlaps.overlaps #[22, 22] #[4]) (by kernel_rfl),
      Lib.run_overlaps_apart w 22 4 72 Try.underlying22 2 (fun w => by have := sizeK_72 w; exact this) ⟨gb, 0, none⟩ ⟨g, (i + 1) * 2, none⟩ 1 1 lb cb hne 72 72 cs.toArray.size cur.toArray.size (by simp [World.shape?, hb]) (by simp [World.shape?, hg]) (by rw [List.size_toArray, hcur]; omega) (blk_frozen hb 0) (blk_frozen hb _)]
    rfl
  obtain ⟨D, hD⟩ : ∃ D, D = (cur.take (n * 2)).drop (i * 2) := ⟨_, rfl⟩
  have hDl : D.length = (n - i) * 2 := by rw [hD, List.length_drop, List.length_take]; omega
  obtain ⟨cur1, hcur1⟩ : ∃ cur1, cur1 = cur.take ((i + 1) * 2) ++ D ++ cur.drop ((i + 1) * 2 + D.length) := ⟨_, rfl⟩
  have hc1l : cur1.length = c * 2 := by rw [hcur1, List.length_append, List.length_append, List.length_take, List.length_drop]; omega
  obtain ⟨cur2, hcur2⟩ : ∃ cur2, cur2 = cur1.take (i * 2) ++ cs ++ cur1.drop (i * 2 + cs.length) := ⟨_, rfl⟩
  have hc2l : cur2.length = c * 2 := by rw [hcur2, List.length_append, List.length_append, List.length_take, List.length_drop]; omega
  have hcp1 : ∀ ty dc sc, (Builtin.copy_ #[22, 22] ty #[.slice (some ⟨g, (i + 1) * 2, none⟩) (n - i) dc, .slice (some ⟨g, i * 2, none⟩) (n + 1 - i) sc]).run Try.prog w.drew = .ok (goInt (Nat.min (n + 1 - i) (n - i))) (w.drew.setRow g cur1.toArray) := fun ty dc sc => by
    rw [run_copy_rowK w.drew 22 22 ty 72 g ((i + 1) * 2) (n - i) dc ⟨g, i * 2, none⟩ (n + 1 - i) sc cur.toArray 72 D 2 Try.underlying22 (by kernel_rfl) hg (by rw [hDl]; show _ = min (n + 1 - i) (n - i) * 2; rw [Nat.min_eq_right (by omega)]) (fun j v hj => ?_) (by simp; omega) (fun u hu => h2 u (by rw [hD] at hu; exact List.mem_of_mem_drop hu))]
    · rw [hcur1]
    · rw [Addr.add_lit]
      have hj2 : cur[i * 2 + j]? = some v := by
        rw [hD, List.getElem?_drop, List.getElem?_take] at hj
        split at hj
        · exact hj
        · cases hj
      exact (blk_cell (w := w) hg _).trans (by rw [List.getElem?_toArray]; exact hj2)
  have hg1 : (w.drew.setRow g cur1.toArray).heap[g]? = some (.cells cur1.toArray 72 (0, 0)) := setRow_heap w.drew g _ _ _ _ hg
  obtain ⟨W1, hW1⟩ : ∃ W1, W1 = w.drew.setRow g cur1.toArray := ⟨_, rfl⟩
  have hb1 : W1.heap[gb]? = some (.cells cs.toArray 72 (0, 0)) := by rw [hW1]; exact (setRow_other w.drew g gb cur1.toArray hne).trans hb
  have hG1 : w.grownBy W1 (some g) := by rw [hW1]; have h := grown_setRow (w := w.drew) (g := g) cur1.toArray; exact ⟨h.os, h.tape, h.output, h.size, h.block⟩
  rw [← hW1] at hcp1 hg1
  have hcp2 : ∀ ty dc, (Builtin.copy_ #[22, 22] ty #[.slice (some ⟨g, i * 2, none⟩) (n + 1 - i) dc, .slice (some ⟨gb, 0, none⟩) 1 1]).run Try.prog W1 = .ok (goInt (Nat.min 1 (n + 1 - i))) (W1.setRow g cur2.toArray) := fun ty dc => by
    rw [run_copy_rowK W1 22 22 ty 72 g (i * 2) (n + 1 - i) dc ⟨gb, 0, none⟩ 1 1 cur1.toArray 72 cs 2 Try.underlying22 (by kernel_rfl) hg1 (by rw [hcs]; show _ = min 1 (n + 1 - i) * 2; rw [Nat.min_eq_left (by omega)]) (fun j v hj => ?_) (by simp; omega) h1]
    · rw [hcur2]
    · rw [Addr.add_lit, Nat.zero_add]
      exact (blk_cell hb1 j).trans (by rw [List.getElem?_toArray]; exact hj)
  have HFIN : Aside0 ((W1.setRow g cur2.toArray).heap[g]? = some (.cells cur2.toArray 72 (0, 0)) ∧ cur2.length = c * 2 ∧ cur2.take ((n + 1) * 2) = cur.take (i * 2) ++ cs ++ D ∧ w.grownBy (W1.setRow g cur2.toArray) (some g)) := by
    refine ⟨setRow_heap W1 g _ _ _ _ hg1, hc2l, ?_, ⟨hG1.os, hG1.tape, hG1.output, by simp only [World.setRow, Array.size_modify]; exact hG1.size, fun k hk hne' => (setRow_other W1 g k cur2.toArray (fun e => hne' (by rw [e]))).trans (hG1.block k hk hne')⟩⟩
    have e1 : (i + 1) * 2 = i * 2 + 2 := by omega
    rw [hcur2, hcur1, e1, splice_move cur D cs (i * 2) 2 (n * 2) (by omega) hcs (by omega), ← List.append_assoc]
    refine take_three _ _ _ _ ?_
    rw [List.length_append, List.length_take]
    omega
  rw [← hD]
  have hw1 : IntKind.i64.wrap ((i : Int) + 1) = (i : Int) + 1 := by rw [IntKind.wrap_i64]; omega
  have hb1' : (0 : Int) ≤ (i : Int) + 1 := by omega
  have htn : ((i : Int) + 1).toNat = i + 1 := by omega
  have hb5 : (i : Int) + 1 ≤ (n : Int) + 1 := by omega
  clear hcur1 hc1l hcur2 hc2l hDl hD hb1 hg1 hG1 h1 h2 hb hg hcur hcs hW1
  go_enter Try.func98, Try.ntmps98
  go_wp2_with (simp only [hov])
  go_region_law (refine step_copy_known rfl _ _ 22 22 rfl _ _ (by simp [Act.eval, Act.put]) (by simp [Act.eval, Act.put]) (hcp1 _ _ _) ?_)
  go_wp2_with (at_builtin; refine wpList_copy_known _ rfl _ _ 22 22 rfl _ _ rfl rfl (hcp2 _ _) ?_)
  go_ret
  exact ⟨rfl, cur2, HFIN.out⟩
set_option maxHeartbeats 4000000 in
set_option maxRecDepth 100000 in
theorem insert72_grow (g n c i gb : Nat) (cur : List Value) (cs : List Value) (w : World) (hi : i < n) (hnc : n ≤ c) (hroom : c < n + 1) (hc63 : c ≤ 9223372036854775807) (hbig : (n + 1) * 48 ≤ 140737488355328)
    (hg : w.heap[g]? = some (.cells cur.toArray 72 (0, 0))) (hcur : cur.length = c * 2) (hb : w.heap[gb]? = some (.cells cs.toArray 72 (0, 0))) (hcs : cs.length = 2) (h1 : ∀ u ∈ cs, u.oneCell' = true) (h2 : ∀ u ∈ cur.take (n * 2), u.oneCell' = true) :
    Calls Try.prog 98 #[.slice (some ⟨g, 0, none⟩) n c, .int .i64 i, .slice (some ⟨gb, 0, none⟩) 1 1] w fun e w' =>
      ∃ G, e = .returned (.slice (some ⟨w.heap.size, 0, none⟩) (n + 1) G) ∧ n + 1 ≤ G ∧ G ≤ maxLen ∧ ∃ cur' : List Value, w'.heap[w.heap.size]? = some (.cells cur'.toArray 72 (0, 0)) ∧ cur'.length = G * 2 ∧ cur'.take ((n + 1) * 2) = cur.take (i * 2) ++ cs ++ (cur.take (n * 2)).drop (i * 2) ∧ w.grownBy w' (some g) := by
  have hz2 : ¬ ((i : Int) = (n : Int)) := by omega
  have hz3 : (c : Int) < (n : Int) + 1 := by omega
  have hin : (i : Int) ≤ n := by omega
  have hinc : (i : Int) ≤ c := by omega
  have hgl : g < w.heap.size := blk_lt hg
  have hbl : gb < w.heap.size := blk_lt hb
  obtain ⟨i0, hi0, hzz⟩ := Option.map_eq_some_iff.1 info72
  simp only [Prod.mk.injEq] at hzz
  obtain ⟨hz0, hzs, hzb⟩ := hzz
  obtain ⟨O, hO⟩ : ∃ O, O = cur.take (i * 2) := ⟨_, rfl⟩
  have hOl : O.length = i * 2 := by rw [hO, List.length_take]; omega
  have hik : i + (n + 1 - i) = n + 1 := by omega
  have hkk : (n : Int) + 1 - (i : Int) = ((n + 1 - i : Nat) : Int) := by omega
  have hold : (Builtin.firstCells i0.size i (.slice (some ⟨g, 0, none⟩) i c)).run Try.prog w.drew = .ok O.toArray w.drew := by
    rw [hzs]
    refine run_firstCells_some w.drew 2 i ⟨g, 0, none⟩ i c O (by rw [hOl]) (fun j v hj => ?_)
    rw [Addr.add_lit, Nat.zero_add]
    have hj2 : cur[j]? = some v := by
      rw [hO, List.getElem?_take] at hj
      split at hj
      · exact hj
      · cases hj
    exact (blk_cell (w := w) hg _).trans (by rw [List.getElem?_toArray]; exact hj2)
  obtain ⟨G, hG⟩ : ∃ G, G = grownCap w (n + 1) c 72 := ⟨_, rfl⟩
  have hGn : n + 1 ≤ G := by rw [hG]; exact grownCap_ge w _ _ _
  have hGm : G ≤ maxLen := by rw [hG]; exact grownCap_le_maxLen w (n + 1) c 72 (by unfold maxLen; omega)
  obtain ⟨Z, hZ⟩ : ∃ Z : List Value, Z = (Builtin.zeroCells (Value.agg #[.slice none 0 0, .slice none 0 0]).cells (n + 1 - i) ++ Builtin.zeroCells (Value.agg #[.slice none 0 0, .slice none 0 0]).cells (G - (n + 1))).toList := ⟨_, rfl⟩
  have hZl : Z.length = (G - i) * 2 := by rw [hZ]; simp [Builtin.zeroCells, Value.cells]; omega
  have hrz : ∀ ty, (Builtin.append_ #[22, 3] ty #[.slice (some ⟨g, 0, none⟩) i c, .int .i64 ((n : Int) + 1 - (i : Int))]).run Try.prog w = .ok (.slice (some ⟨w.heap.size, 0, none⟩) (n + 1) G) (w.drew.alloc (.cells (O ++ Z).toArray 72)) := fun ty => by
    have h := Lib.run_append_grow_zeros w 22 3 ty 72 i0 _ .i64 .i64 Try.underlying22 Try.underlying3 hi0 hz0 (some ⟨g, 0, none⟩) i c O hold (n + 1 - i) (by omega) (by omega) (by omega) (by omega) (by rw [hzb]; omega) (by rw [hzb, hik]; exact growslice_fits hroom hbig)
    rw [hik, ← hG] at h
    rw [hkk, h, hZ]
    congr 3
    simp [Array.append_assoc]
  obtain ⟨D, hD⟩ : ∃ D, D = (cur.take (n * 2)).drop (i * 2) := ⟨_, rfl⟩
  have hDl : D.length = (n - i) * 2 := by rw [hD, List.length_drop, List.length_take]; omega
  obtain ⟨cur1, hcur1⟩ : ∃ cur1, cur1 = (O ++ Z).take (i * 2) ++ cs ++ (O ++ Z).drop (i * 2 + cs.length) := ⟨_, rfl⟩
  have hOZ : (O ++ Z).length = G * 2 := by rw [List.length_append, hOl, hZl, ← Nat.add_mul]; congr 1; omega
  have hGK : (n + 1) * 2 ≤ G * 2 := Nat.mul_le_mul_right _ hGn
  have hc1l : cur1.length = G * 2 := by rw [hcur1, List.length_append, List.length_append, List.length_take, List.length_drop]; omega
  obtain ⟨cur2, hcur2⟩ : ∃ cur2, cur2 = cur1.take ((i + 1) * 2) ++ D ++ cur1.drop ((i + 1) * 2 + D.length) := ⟨_, rfl⟩
  have hc2l : cur2.length = G * 2 := by rw [hcur2, List.length_append, List.length_append, List.length_take, List.length_drop]; omega
  obtain ⟨N, hN⟩ : ∃ N, N = w.heap.size := ⟨_, rfl⟩
  obtain ⟨W1, hW1⟩ : ∃ W1, W1 = w.drew.alloc (.cells (O ++ Z).toArray 72) := ⟨_, rfl⟩
  have hg1 : W1.heap[N]? = some (.cells (O ++ Z).toArray 72 (0, 0)) := by rw [hW1, hN]; exact blk_new w.drew _
  have hold1 : ∀ k, k < w.heap.size → W1.heap[k]? = w.heap[k]? := fun k hk => by rw [hW1]; exact (below_alloc (Below.refl _ w.drew) (.cells (O ++ Z).toArray 72)).block k hk
  have hb1 := (hold1 gb hbl).trans hb
  have hgg1 := (hold1 g hgl).trans hg
  have hcpA : ∀ W : World, W.heap = W1.heap → ∀ ty dc, (Builtin.copy_ #[22, 22] ty #[.slice (some ⟨w.heap.size, i * 2, none⟩) (n + 1 - i) dc, .slice (some ⟨gb, 0, none⟩) 1 1]).run Try.prog W = .ok (goInt (Nat.min 1 (n + 1 - i))) (W.setRow w.heap.size cur1.toArray) := fun W hW ty dc => by
    rw [← hN, run_copy_rowK W 22 22 ty 72 N (i * 2) (n + 1 - i) dc ⟨gb, 0, none⟩ 1 1 (O ++ Z).toArray 72 cs 2 Try.underlying22 (by kernel_rfl) (by rw [hW]; exact hg1) (by rw [hcs]; show _ = min 1 (n + 1 - i) * 2; rw [Nat.min_eq_left (by omega)]) (fun j v hj => ?_) (by rw [List.size_toArray]; omega) h1]
    · rw [hcur1]
    · rw [Addr.add_lit, Nat.zero_add]
      exact (blk_cell (w := W) (by rw [hW]; exact hb1) j).trans (by rw [List.getElem?_toArray]; exact hj)
  have hg2 : (W1.setRow N cur1.toArray).heap[N]? = some (.cells cur1.toArray 72 (0, 0)) := setRow_heap W1 N _ _ _ _ hg1
  have hgg2 : (W1.setRow N cur1.toArray).heap[g]? = some (.cells cur.toArray 72 (0, 0)) := (setRow_other W1 N g cur1.toArray (by omega)).trans hgg1
  have hcpB : ∀ W : World, W.heap = (W1.setRow N cur1.toArray).heap → ∀ ty dc sc, (Builtin.copy_ #[22, 22] ty #[.slice (some ⟨w.heap.size, (i + 1) * 2, none⟩) (n - i) dc, .slice (some ⟨g, i * 2, none⟩) (n - i) sc]).run Try.prog W = .ok (goInt (Nat.min (n - i) (n - i))) (W.setRow w.heap.size cur2.toArray) := fun W hW ty dc sc => by
    rw [← hN, run_copy_rowK W 22 22 ty 72 N ((i + 1) * 2) (n - i) dc ⟨g, i * 2, none⟩ (n - i) sc cur1.toArray 72 D 2 Try.underlying22 (by kernel_rfl) (by rw [hW]; exact hg2) (by rw [hDl]; show _ = min (n - i) (n - i) * 2; rw [Nat.min_self]) (fun j v hj => ?_) (by rw [List.size_toArray]; omega) (fun u hu => h2 u (by rw [hD] at hu; exact List.mem_of_mem_drop hu))]
    · rw [hcur2]
    · rw [Addr.add_lit]
      have hj2 : cur[i * 2 + j]? = some v := by
        rw [hD, List.getElem?_drop, List.getElem?_take] at hj
        split at hj
        · exact hj
        · cases hj
      exact (blk_cell (w := W) (by rw [hW]; exact hgg2) _).trans (by rw [List.getElem?_toArray]; exact hj2)
  have HFIN : Aside0 (∀ W : World, W.heap = (W1.setRow N cur1.toArray).heap → W.os = w.os → W.tape = w.tape → W.output = w.output → (W.setRow w.heap.size cur2.toArray).heap[w.heap.size]? = some (.cells cur2.toArray 72 (0, 0)) ∧ cur2.length = G * 2 ∧ cur2.take ((n + 1) * 2) = O ++ cs ++ D ∧ w.grownBy (W.setRow w.heap.size cur2.toArray) (some g)) := by
    refine ⟨fun W hW ho ht hu => ⟨by rw [← hN]; exact setRow_heap W N _ _ _ _ (by rw [hW]; exact hg2), hc2l, ?_, ho, ht, hu, ?_, fun k hk _ => ?_⟩⟩
    · have e1 : (i + 1) * 2 = i * 2 + 2 := by omega
      have e2 : (n + 1) * 2 = n * 2 + 2 := by omega
      rw [hcur2, hcur1, e1, e2]
      exact splice_new O D cs Z (i * 2) 2 (n * 2) hOl (by omega) hcs (by omega)
    · simp only [World.setRow, Array.size_modify, hW]
      have : N < W1.heap.size := blk_lt hg1
      omega
    · rw [setRow_other W w.heap.size k cur2.toArray (by omega), hW, setRow_other W1 N k cur1.toArray (by omega)]
      exact hold1 k hk
  have HA : ((w.alloc (.cells (O ++ Z).toArray 72)).drew).heap = W1.heap := by rw [hW1]; rfl
  have hGi : ¬ (G = i) := by omega
  have hGim : ¬ (G = i + 1) := by omega
  have hci : ¬ (c = i) := by omega
  have hG63 : G ≤ 9223372036854775807 := by unfold maxLen at hGm; exact hGm
  have HGM := Aside0.mk (And.intro hGn hGm)
  have hw1 : IntKind.i64.wrap ((i : Int) + 1) = (i : Int) + 1 := by rw [IntKind.wrap_i64]; omega
  have hb1' : (0 : Int) ≤ (i : Int) + 1 := by omega
  have htn : ((i : Int) + 1).toNat = i + 1 := by omega
  have hb5 : (i : Int) + 1 ≤ (n : Int) + 1 := by omega
  rw [← hD, ← hO]
  have HB2 := Aside0.mk hcpB
  have HF : (((w.alloc (.cells (O ++ Z).toArray 72)).drew.setRow w.heap.size cur1.toArray).drew).heap = (W1.setRow N cur1.toArray).heap := by rw [hW1, hN]; rfl
  subst hW1
  clear hcur1 hc1l hcur2 hc2l hDl hD hb1 hg1 h1 h2 hb hg hcur hcs hg2 hgg2 hgg1 hold1 hOZ hGK hZ hZl hold hO hOl hkk hik hG hz0 hzs hzb hi0 hcpB hgl hbl hbig hGm
  go_enter Try.func98, Try.ntmps98
  go_wp2_with (first | (at_builtin; refine Lib.wpList_append_run _ rfl _ _ _ _ rfl _ _ rfl rfl _ _ (hrz _) ?_) | (at_builtin; refine wpList_copy_known _ rfl _ _ 22 22 rfl _ _ rfl rfl (hcpA _ HA _ _) ?_))
  go_region_law (refine step_copy_known rfl _ _ 22 22 rfl (.slice (some ⟨w.heap.size, (i + 1) * 2, none⟩) (n - i) (G - (i + 1))) (.slice (some ⟨g, i * 2, none⟩) (n - i) (c - i)) (by simp [Act.eval, Act.put]) (by simp [Act.eval, Act.put]) (HB2.out _ HF 3 (G - (i + 1)) (c - i)) ?_)
  go_wp2
  go_ret
  exact ⟨G, rfl, HGM.out.1, HGM.out.2, cur2, HFIN.out _ HF rfl rfl rfl⟩

/-- What slices.Insert and slices.Delete leave: a row of the call's own of so many elements, its cells known. -/
structure PostRow (w : World) (base : Nat) (E K : Nat) (v : Value) (m : Nat) (inner : List Value) (e : Ending) (w' : World) : Prop where
  mk ::
  out : ∃ v1, e = .returned v1 ∧ w'.ownsRow base E K v1 m inner ∧ w.grownBy w' v.ownBlock ∧ (v1.ownBlock = v.ownBlock ∨ ∃ b, v1.ownBlock = some b ∧ w.heap.size ≤ b)
set_option maxHeartbeats 4000000 in
set_option maxRecDepth 100000 in
theorem insert72_end (v : Value) (n gb base : Nat) (inner cs : List Value) (w : World) (ho : w.ownsRow base 72 2 v n inner) (hn : n ≤ 1000000)
    (hb : w.heap[gb]? = some (.cells cs.toArray 72 (0, 0))) (hcs : cs.length = 2) (h1 : ∀ u ∈ cs, u.oneCell' = true) (hbase : base ≤ w.heap.size) :
    Calls Try.prog 98 #[v, .int .i64 n, .slice (some ⟨gb, 0, none⟩) 1 1] w (PostRow w base 72 2 v (n + 1) (inner ++ cs)) := by
  obtain ⟨i0, hi0, hzz⟩ := Option.map_eq_some_iff.1 info72
  simp only [Prod.mk.injEq] at hzz
  obtain ⟨hz0, hzs, hzb⟩ := hzz
  obtain ⟨v', w', hrun, hown, hgr, _, hat⟩ := run_append_own_at (P := Try.prog) w base 22 22 72 i0 _ 2 48 Try.underlying22 hi0 hz0 hzs hzb rfl (by omega) v n inner ho ⟨gb, 0, none⟩ 1 1 cs (by rw [hcs]) (fun j u hj => by rw [Addr.add_lit, Nat.zero_add]; exact (blk_cell hb j).trans (by rw [List.getElem?_toArray]; exact hj)) h1 (by unfold maxLen; omega) (by omega) hbase
  have HP := Aside0.mk (show PostRow w base 72 2 v (n + 1) (inner ++ cs) (.returned v') w' from ⟨v', rfl, hown, hgr, hat.imp id (fun h => ⟨_, h, Nat.le_refl _⟩)⟩)
  clear hz0 hzs hzb hi0 hown hgr hat
  rcases ho.2 with ⟨rfl, rfl⟩ | ⟨g, cap, cur, rfl, _, hg, hnc, hcm, _, _⟩
  · go_enter Try.func98, Try.ntmps98
    go_wp2_with (at_builtin; refine Lib.wpList_append_run _ rfl _ _ _ _ rfl _ _ rfl rfl _ _ hrun ?_)
    go_ret
    exact HP.out
  · have hc63 : cap ≤ 9223372036854775807 := by unfold maxLen at hcm; exact hcm
    clear hg ho hcm
    by_cases hcn : cap = n
    · go_enter Try.func98, Try.ntmps98
      go_wp2_with (at_builtin; refine Lib.wpList_append_run _ rfl _ _ _ _ rfl _ _ rfl rfl _ _ hrun ?_)
      go_ret
      exact HP.out
    · go_enter Try.func98, Try.ntmps98
      go_wp2_with (at_builtin; refine Lib.wpList_append_run _ rfl _ _ _ _ rfl _ _ rfl rfl _ _ hrun ?_)
      go_ret
      exact HP.out
theorem insert72 (v : Value) (n i gb base : Nat) (inner cs : List Value) (w : World) (ho : w.ownsRow base 72 2 v n inner) (hi : i ≤ n) (hn : n ≤ 1000000)
    (hb : w.heap[gb]? = some (.cells cs.toArray 72 (0, 0))) (hcs : cs.length = 2) (h1 : ∀ u ∈ cs, u.oneCell' = true) (h2 : ∀ u ∈ inner, u.oneCell' = true) (hne : some gb ≠ v.ownBlock) (hbase : base ≤ w.heap.size) :
    Calls Try.prog 98 #[v, .int .i64 i, .slice (some ⟨gb, 0, none⟩) 1 1] w (PostRow w base 72 2 v (n + 1) (inner.take (i * 2) ++ cs ++ inner.drop (i * 2))) := by
  by_cases hin : i = n
  · subst hin
    rw [List.take_of_length_le (by rw [ho.1]; omega), List.drop_eq_nil_of_le (by rw [ho.1]; omega), List.append_nil]
    exact insert72_end v i gb base inner cs w ho hn hb hcs h1 hbase
  · rcases ho.2 with ⟨rfl, rfl⟩ | ⟨g, cap, cur, rfl, hbg, hg, hnc, hcm, hcs2, htk⟩
    · omega
    · have hc63 : cap ≤ 9223372036854775807 := by unfold maxLen at hcm; exact hcm
      have hg' : w.heap[g]? = some (.cells cur.toList.toArray 72 (0, 0)) := by rw [Array.toArray_toList]; exact hg
      have hl : cur.toList.length = cap * 2 := by rw [Array.length_toList]; exact hcs2
      have hgb : gb ≠ g := fun e => hne (by rw [e]; rfl)
      have ht : inner.take (i * 2) = cur.toList.take (i * 2) := by rw [← htk, List.take_take, Nat.min_eq_left (Nat.mul_le_mul_right _ hi)]
      by_cases hroom : n + 1 ≤ cap
      · refine (insert72_room g n cap i gb cur.toList cs w (by omega) hroom hc63 hg' hl hb hcs h1 (by rw [htk]; exact h2) hgb).mono ?_
        rintro e w' ⟨rfl, cur', h3, h4, h5, h6⟩
        refine ⟨_, rfl, ⟨?_, .inr ⟨g, cap, cur'.toArray, rfl, hbg, h3, hroom, hcm, by rw [List.size_toArray, h4], ?_⟩⟩, h6, .inl rfl⟩
        · rw [List.length_append, List.length_append, List.length_take, List.length_drop, ho.1, hcs]; omega
        · rw [List.toList_toArray, h5, ht, htk]
      · refine (insert72_grow g n cap i gb cur.toList cs w (by omega) hnc (by omega) hc63 (by omega) hg' hl hb hcs h1 (by rw [htk]; exact h2)).mono ?_
        rintro e w' ⟨G, rfl, hG1, hG2, cur', h3, h4, h5, h6⟩
        refine ⟨_, rfl, ⟨?_, .inr ⟨w.heap.size, G, cur'.toArray, rfl, hbase, h3, hG1, hG2, by rw [List.size_toArray, h4], ?_⟩⟩, h6, .inr ⟨_, rfl, Nat.le_refl _⟩⟩
        · rw [List.length_append, List.length_append, List.length_take, List.length_drop, ho.1, hcs]; omega
        · rw [List.toList_toArray, h5, ht, htk]

section
variable {P : Program}
/-- clear(s), its run known. -/
theorem wpList_clear_known (w : World) {ops : Array Oper} {rest : List Oper} {o : Oper} {a : Act} {Q : Exit → Act → World → Prop} (hgd : o.guard = none) (d : Operand) (t : TypeId)
    (ho : o.op = .call { callee := .builtin .clear, args := #[d], argTypes := #[t] }) (v : Value) (hd : a.eval d = v) {v' : Value} {w' : World}
    (hr : (Builtin.clear_ #[t] o.type #[v]).run P w = .ok v' w') (h : wpList P ops Q rest (a.put o.dst v') w') : wpList P ops Q (o :: rest) a w := by
  refine wpList_plain hgd fun K hK => ?_
  unfold Oper.wp execOp
  simp only [ho, resolve, invoke, builtin, Sem.run_bind, Sem.run_pure, Result.andThen_ok, List.map_toArray, List.map_cons, List.map_nil, hd, hr]
  exact hK _ _ h
/-- append(s, xs...) where there is room: the row is written. -/
theorem run_append_roomK (w : World) (t ty e : TypeId) (K : Nat) (ht : P.underlying t = some (.slice e)) (hs : (P.info? e).map (·.size) = some K) (g sLen sCap : Nat) (A : Option Addr) (m c : Nat) (news : List Value) (cur : Array Value)
    (hg : w.heap[g]? = some (.cells cur e (0, 0))) (hl : news.length = m * K) (hnews : 0 < m → ∃ a, A = some a ∧ ∀ j u, news[j]? = some u → w.cell? (a.add j) = some u) (h1 : ∀ u ∈ news, u.oneCell' = true) (hroom : sLen + m ≤ sCap) (hfit : sLen * K + news.length ≤ cur.size) :
    (Builtin.append_ #[t, t] ty #[.slice (some ⟨g, 0, none⟩) sLen sCap, .slice A m c]).run P w = .ok (.slice (some ⟨g, 0, none⟩) (sLen + m) sCap) (w.setRow g (cur.toList.take (sLen * K) ++ news ++ cur.toList.drop (sLen * K + news.length)).toArray) := by
  have hst := run_storeCells_at P g (sLen * K) e news 0 cur w hg (by simpa using hfit) h1
  cases hq : P.info? e with
  | none => simp [hq] at hs
  | some i =>
    have hi : i.size = K := by simpa [hq] using hs
    have hfc : (Builtin.firstCells K m (.slice A m c)).run P w = .ok news.toArray w := by
      cases A with
      | none =>
        have h0 : m = 0 := by
          rcases Nat.eq_zero_or_pos m with h0 | h0
          · exact h0
          · obtain ⟨a, e, _⟩ := hnews h0; cases e
        subst h0
        have : news = [] := List.eq_nil_of_length_eq_zero (by rw [hl]; omega)
        subst this
        exact run_firstCells_none w K 0 0 c
      | some a =>
        refine run_firstCells_some w K m a m c news hl (fun j u hj => ?_)
        rcases Nat.eq_zero_or_pos m with h0 | h0
        · subst h0
          have : news = [] := List.eq_nil_of_length_eq_zero (by rw [hl]; omega)
          subst this
          simp at hj
        · obtain ⟨a', e, h⟩ := hnews h0
          cases e
          exact h j u hj
    simp [Builtin.append_, run_underlying ht, sizeOf, typeInfo, hq, hi, Builtin.lenOf, hroom, hfc, Addr.add_lit, hst]
end
set_option maxHeartbeats 4000000 in
set_option maxRecDepth 100000 in
theorem delete72 (v : Value) (n i base : Nat) (inner : List Value) (w : World) (ho : w.ownsRow base 72 2 v n inner) (hi : i < n) (hn : n ≤ 1000000) (h2 : ∀ u ∈ inner, u.oneCell' = true) :
    Calls Try.prog 99 #[v, .int .i64 i, .int .i64 ((i : Int) + 1)] w (PostRow w base 72 2 v (n - 1) (inner.take (i * 2) ++ inner.drop ((i + 1) * 2))) := by
  rcases ho.2 with ⟨rfl, rfl⟩ | ⟨g, c, cur, rfl, hbg, hg, hnc, hcm, hcs2, htk⟩
  · omega
  have hc63 : c ≤ 9223372036854775807 := by unfold maxLen at hcm; exact hcm
  have hgl := blk_lt hg
  obtain ⟨D, hD⟩ : ∃ D, D = inner.drop ((i + 1) * 2) := ⟨_, rfl⟩
  have hil := ho.1
  have hDl : D.length = (n - (i + 1)) * 2 := by rw [hD, List.length_drop, hil]; omega
  have hcn : n * 2 ≤ c * 2 := Nat.mul_le_mul_right _ hnc
  have hcl : cur.toList.length = c * 2 := by rw [Array.length_toList]; exact hcs2
  obtain ⟨cur1, hcur1⟩ : ∃ cur1, cur1 = cur.toList.take (i * 2) ++ D ++ cur.toList.drop (i * 2 + D.length) := ⟨_, rfl⟩
  have hc1l : cur1.length = c * 2 := by rw [hcur1, List.length_append, List.length_append, List.length_take, List.length_drop]; omega
  have h1D : ∀ u ∈ D, u.oneCell' = true := fun u hu => h2 u (by rw [hD] at hu; exact List.mem_of_mem_drop hu)
  have hap : ∀ ty A cc, (0 < n - (i + 1) → A = some ⟨g, (i + 1) * 2, none⟩) → (Builtin.append_ #[22, 22] ty #[.slice (some ⟨g, 0, none⟩) i c, .slice A (n - (i + 1)) cc]).run Try.prog w.drew = .ok (.slice (some ⟨g, 0, none⟩) (n - 1) c) (w.drew.setRow g cur1.toArray) := fun ty A cc hA => by
    rw [run_append_roomK w.drew 22 ty 72 2 Try.underlying22 (by kernel_rfl) g i c A (n - (i + 1)) cc D cur hg hDl (fun hp => ⟨_, hA hp, fun j u hj => ?_⟩) h1D (by omega) (by rw [hDl]; omega), ← hcur1, show i + (n - (i + 1)) = n - 1 by omega]
    rw [Addr.add_lit]
    have hj2 : cur.toList[(i + 1) * 2 + j]? = some u := by
      rw [hD, List.getElem?_drop, ← htk, List.getElem?_take] at hj
      split at hj
      · exact hj
      · cases hj
    exact (blk_cell (w := w) hg _).trans (by rw [← Array.getElem?_toList]; exact hj2)
  have hg1 : (w.drew.setRow g cur1.toArray).heap[g]? = some (.cells cur1.toArray 72 (0, 0)) := setRow_heap w.drew g _ _ _ _ hg
  obtain ⟨Zs, hZs⟩ : ∃ Zs, Zs = (Builtin.zeroCells (Value.agg #[.slice none 0 0, .slice none 0 0]).cells 1).toList := ⟨_, rfl⟩
  have hZe : Zs = [.slice none 0 0, .slice none 0 0] := by rw [hZs]; first | rfl | kernel_rfl | simp [Builtin.zeroCells, Value.cells]
  have hZl : Zs.length = 2 := by rw [hZe]; rfl
  obtain ⟨cur2, hcur2⟩ : ∃ cur2, cur2 = cur1.take ((n - 1) * 2) ++ Zs ++ cur1.drop ((n - 1) * 2 + Zs.length) := ⟨_, rfl⟩
  have hc2l : cur2.length = c * 2 := by rw [hcur2, List.length_append, List.length_append, List.length_take, List.length_drop]; omega
  have hzv : ∀ W : World, (zeroValue 72).run Try.prog W = .ok (Value.agg #[.slice none 0 0, .slice none 0 0]) W := fun W => by
    obtain ⟨i0, hi0, hzz⟩ := Option.map_eq_some_iff.1 info72
    simp only [Prod.mk.injEq] at hzz
    simp [zeroValue, typeInfo, hi0, hzz.1]
  have hcr : ∀ ty cc, (Builtin.clear_ #[22] ty #[.slice (some ⟨g, (n - 1) * 2, none⟩) 1 cc]).run Try.prog (w.drew.setRow g cur1.toArray) = .ok (.tuple #[]) ((w.drew.setRow g cur1.toArray).setRow g cur2.toArray) := fun ty cc => by
    have hst := run_storeCells_at Try.prog g ((n - 1) * 2) 72 Zs 0 cur1.toArray _ hg1 (by rw [List.size_toArray, hZl]; omega) (fun u hu => by rw [hZe] at hu; simp only [List.mem_cons, List.not_mem_nil, or_false] at hu; (rcases hu with rfl | rfl <;> rfl))
    rw [hZs] at hst
    simp only [Nat.add_zero, List.toList_toArray] at hst
    rw [← hZs, ← hcur2] at hst
    rw [hZs] at hst
    simp [Builtin.clear_, run_underlying Try.underlying22, hzv, hst]
  have HFIN : Aside0 (PostRow w base 72 2 (.slice (some ⟨g, 0, none⟩) n c) (n - 1) (inner.take (i * 2) ++ D) (.returned (.slice (some ⟨g, 0, none⟩) (n - 1) c)) ((w.drew.setRow g cur1.toArray).setRow g cur2.toArray)) := by
    refine ⟨⟨_, rfl, ⟨?_, .inr ⟨g, c, cur2.toArray, rfl, hbg, setRow_heap _ g _ _ _ _ hg1, by omega, hcm, by rw [List.size_toArray, hc2l], ?_⟩⟩, ⟨rfl, rfl, rfl, by simp [World.setRow], fun k hk hne => ?_⟩, .inl rfl⟩⟩
    · rw [List.length_append, List.length_take, hDl, hil]; omega
    · rw [List.toList_toArray, hcur2, List.append_assoc, List.take_append_of_le_length (by rw [List.length_take]; omega), List.take_take, Nat.min_self, hcur1, take_three _ _ _ _ (by rw [List.length_take]; omega), ← htk, List.take_take, Nat.min_eq_left (by omega)]
    · have hkg : k ≠ g := fun e => hne (by rw [e]; rfl)
      rw [setRow_other _ g k _ hkg, setRow_other w.drew g k _ hkg]
      rfl
  rw [← hD]
  have hin : (i : Int) ≤ n := by omega
  have hin2 : (i : Int) + 1 ≤ n := by omega
  have hw1 : IntKind.i64.wrap ((i : Int) + 1) = (i : Int) + 1 := by rw [IntKind.wrap_i64]; omega
  have hb1' : (0 : Int) ≤ (i : Int) + 1 := by omega
  have htn : ((i : Int) + 1).toNat = i + 1 := by omega
  have hne1 : ¬ ((i : Int) = (i : Int) + 1) := by omega
  have hnn : ((n - 1 : Nat) : Int) ≤ n := by omega
  have hsub : n - (n - 1) = 1 := by omega
  have hcne : ¬ (c = n - 1) := by omega
  have hinc : (i : Int) ≤ c := by omega
  have hncI : (n : Int) ≤ c := by omega
  by_cases hcI : c = i + 1
  · obtain rfl : n = i + 1 := by omega
    subst hcI
    have hapX : ∀ ty A cc, (Builtin.append_ #[22, 22] ty #[.slice (some ⟨g, 0, none⟩) i (i + 1), .slice A 0 cc]).run Try.prog w.drew = .ok (.slice (some ⟨g, 0, none⟩) i (i + 1)) (w.drew.setRow g cur1.toArray) := fun ty A cc => by
      have h := hap ty A cc (by omega)
      rw [show i + 1 - (i + 1) = 0 by omega, show i + 1 - 1 = i by omega] at h
      exact h
    rw [show i + 1 - 1 = i by omega] at hcr HFIN ⊢
    have hb6 : (i : Int) ≤ (i : Int) + 1 := by omega
    have hb7 : ¬ ((i : Int) + 1 = (i : Int)) := by omega
    have hb8 : i + 1 - i = 1 := by omega
    clear hcur1 hc1l hDl hD h1D hap hg1 hcur2 hc2l hzv hZs hZe hZl hil hcl hcs2 htk ho hg h2 hgl hcm hcn hsub hcne hnn
    go_enter Try.func99, Try.ntmps99
    go_wp2_with fail
    go_region_law (refine step_append_known rfl _ _ 22 22 rfl (.slice (some ⟨g, 0, none⟩) i (i + 1)) (.slice (some ⟨g, 0, none⟩) 0 0) (by simp [Act.eval, Act.put]) (by simp [Act.eval, Act.put]) (hapX 22 (some ⟨g, 0, none⟩) 0) ?_)
    go_wp2_with (at_builtin; refine wpList_clear_known _ rfl _ 22 rfl _ rfl (hcr _ _) ?_)
    go_ret
    exact HFIN.out
  · have hapX := fun ty cc => hap ty (some ⟨g, (i + 1) * 2, none⟩) cc (fun _ => rfl)
    clear hcur1 hc1l hDl hD h1D hap hg1 hcur2 hc2l hzv hZs hZe hZl hil hcl hcs2 htk ho hg h2 hgl hcm hcn
    go_enter Try.func99, Try.ntmps99
    go_wp2_with fail
    go_region_law (refine step_append_known rfl _ _ 22 22 rfl (.slice (some ⟨g, 0, none⟩) i c) (.slice (some ⟨g, (i + 1) * 2, none⟩) (n - (i + 1)) (c - (i + 1))) (by simp [Act.eval, Act.put]) (by simp [Act.eval, Act.put]) (hapX 22 (c - (i + 1))) ?_)
    go_wp2_with (at_builtin; refine wpList_clear_known _ rfl _ 22 rfl _ rfl (hcr _ _) ?_)
    go_ret
    exact HFIN.out

end Go.Proofs.Ytophfoenaekfjaa

namespace Go.Proofs.Ytophfoenaekfjaa
open Go.RowKit Go.Proofs.YtophfoenaekfjaaW.PrintWords Go.Proofs.YtophfoenaekfjaaW.PrintLast Go.Proofs.YtophfoenaekfjaaW.PrintMore Go.Proofs.Ytophfoenaekfjaa.PSnapEncodes
set_option linter.unusedVariables false
set_option linter.unusedSimpArgs false

section
variable {α : Type} {d : Kd α} {e base : Nat} {ok okp okx oky : Nat → Prop} {w w1 : World} {v v1 : Value} {xs : List α} {x p : α} {c cs inner : List Value}
theorem M_carry (h : d.M w base okx x c) (hm : ∀ k, okx k → k < w.heap.size → w1.heap[k]? = w.heap[k]?) (hok : ∀ k, okx k → k < w.heap.size → oky k) : d.M w1 base oky x c :=
  d.M_mono (fun k hk => hok k hk.1 hk.2.2.1) (d.M_move (fun k hk => hm k hk.1 hk.2.2.1) (d.M_bound h))
theorem own_uniq {K n : Nat} {a b : List Value} (h : w.ownsRow base e K v n a) (k : w.ownsRow base e K v n b) : a = b := by
  rcases h.2 with ⟨rfl, hn⟩ | ⟨g, cap, cur, rfl, _, hg, _, _, _, ht⟩
  · have ha : a = [] := List.eq_nil_of_length_eq_zero (by rw [h.1, hn, Nat.zero_mul])
    have hb : b = [] := List.eq_nil_of_length_eq_zero (by rw [k.1, hn, Nat.zero_mul])
    rw [ha, hb]
  · rcases k.2 with ⟨hv, _⟩ | ⟨g2, cap2, cur2, hv, _, hg2, _, _, _, ht2⟩
    · cases hv
    · injection hv with h1 h2 h3
      injection h1 with h1
      injection h1 with h1
      subst h1
      rw [hg] at hg2
      injection hg2 with hg2
      injection hg2 with hg2
      subst hg2
      exact ht.symm.trans ht2
theorem seg_lo {β : Type} {L X : List β} {a b s : Nat} (h : b + s ≤ a) (ha : a ≤ L.length) : ((L.take a ++ X).drop b).take s = (L.drop b).take s := by
  have hl : (L.take a).length = a := by rw [List.length_take]; omega
  rw [List.drop_append_of_le_length (by omega), List.take_append_of_le_length (by rw [List.length_drop]; omega), List.drop_take, List.take_take, Nat.min_eq_left (by omega)]
theorem seg_mid {β : Type} {L C R : List β} {a s : Nat} (ha : a ≤ L.length) (hc : C.length = s) : ((L.take a ++ C ++ R).drop a).take s = C := by
  have hl : (L.take a).length = a := by rw [List.length_take]; omega
  rw [List.append_assoc, List.drop_left' hl, List.take_left' hc]
theorem seg_hi {β : Type} {L C : List β} {a b s : Nat} (ha : a ≤ L.length) (hc : C.length = s) (h : a + s ≤ b) : ((L.take a ++ C ++ L.drop a).drop b).take s = (L.drop (b - s)).take s := by
  have hl : (L.take a ++ C).length = a + s := by rw [List.length_append, List.length_take, hc]; omega
  have e1 : b = (a + s) + (b - (a + s)) := by omega
  rw [e1, ← List.drop_drop, List.drop_left' hl, List.drop_drop]
  congr 2
  omega
theorem S_cells (h : Kd.S d e w base ok v xs) (hs : 0 < d.sz) : ∃ inner, w.ownsRow base e d.sz v xs.length inner ∧ ∀ u ∈ inner, u.oneCell' = true := by
  obtain ⟨f, h0, inner, hown, hr⟩ := h
  rw [List.length_zipIdx] at hown
  refine ⟨inner, hown, fun u hu => ?_⟩
  obtain ⟨q, hq, rfl⟩ := List.mem_iff_getElem.1 hu
  have hql : q / d.sz < xs.zipIdx.length := by
    rw [Nat.div_lt_iff_lt_mul hs, ← (show inner.length = xs.zipIdx.length * d.sz from hr.1)]
    exact hq
  have hc := hr.2 (q / d.sz) _ (List.getElem?_eq_getElem hql)
  refine d.K_one (d.K_of_M hc) _ ?_
  rw [List.mem_iff_getElem?]
  refine ⟨q % d.sz, ?_⟩
  show ((inner.drop (q / d.sz * d.sz)).take d.sz)[q % d.sz]? = _
  rw [List.getElem?_take, if_pos (Nat.mod_lt _ hs), List.getElem?_drop, Nat.mul_comm, Nat.div_add_mod, List.getElem?_eq_getElem hq]
open Classical in
/-- An element put in: its blocks are none of the others'. -/
theorem S_insert {i : Nat} (h : Kd.S d e w base (fun k => ok k ∧ ¬ okp k) v xs) (hown : w.ownsRow base e d.sz v xs.length inner) (hi : i ≤ xs.length) (hp : d.M w base okp p cs) (hokp : ∀ k, okp k → ok k ∧ some k ≠ v.ownBlock) (hfresh : ∀ k, w.heap.size ≤ k → ok k)
    (ho1 : w1.ownsRow base e d.sz v1 (xs.length + 1) (inner.take (i * d.sz) ++ cs ++ inner.drop (i * d.sz))) (hg : w.grownBy w1 v.ownBlock) (hat : v1.ownBlock = v.ownBlock ∨ ∃ b, v1.ownBlock = some b ∧ w.heap.size ≤ b) :
    Kd.S d e w1 base ok v1 (xs.take i ++ p :: xs.drop i) := by
  obtain ⟨f, h0, inner', hown', hr⟩ := h
  rw [List.length_zipIdx] at hown'
  have hin : inner' = inner := own_uniq hown' hown
  subst hin
  have hle : i * d.sz ≤ inner'.length := by rw [hown'.1]; exact Nat.mul_le_mul_right _ hi
  have hcl : cs.length = d.sz := d.K_len (d.K_of_M hp)
  have hne : ∀ k, k < w.heap.size → some k ≠ v.ownBlock → some k ≠ v1.ownBlock := fun k hk hkv => by
    rcases hat with hat | ⟨b, hb, hle⟩
    · rw [hat]; exact hkv
    · rw [hb]; intro e; injection e with e; omega
  refine ⟨fun k => if okp k then i else if f k < i then f k else f k + 1, fun k hk => ?_, _, by rw [List.length_zipIdx, List.length_append, List.length_take, List.length_cons, List.length_drop, Nat.min_eq_left hi, show i + (xs.length - i + 1) = xs.length + 1 by omega]; exact ho1, ?_, fun j q hj => ?_⟩
  · rcases hat with hat | ⟨b, hb, hle⟩
    · exact (h0 k (hat ▸ hk)).1
    · rw [hb] at hk; cases hk; exact hfresh _ hle
  · rw [ho1.1, List.length_zipIdx, List.length_append, List.length_take, List.length_cons, List.length_drop, Nat.min_eq_left hi, show i + (xs.length - i + 1) = xs.length + 1 by omega]; rfl
  · rw [List.getElem?_zipIdx, Nat.zero_add] at hj
    obtain ⟨y, hy, rfl⟩ := Option.map_eq_some_iff.1 hj
    show d.M w1 base (fun k => (ok k ∧ some k ≠ v1.ownBlock) ∧ (if okp k then i else if f k < i then f k else f k + 1) = j) y (((inner'.take (i * d.sz) ++ cs ++ inner'.drop (i * d.sz)).drop (j * d.sz)).take d.sz)
    rcases Nat.lt_trichotomy j i with hlt | rfl | hgt
    · have hy' : xs[j]? = some y := by
        rw [List.getElem?_append_left (by rw [List.length_take]; omega), List.getElem?_take, if_pos hlt] at hy
        exact hy
      have hb : j * d.sz + d.sz ≤ i * d.sz := by rw [← Nat.succ_mul]; exact Nat.mul_le_mul_right _ hlt
      rw [List.append_assoc, seg_lo hb hle]
      refine M_carry (hr.2 j (y, j) (Kd.zip_at hy')) (fun k hk hkl => hg.block k hkl hk.1.2) (fun k hk hkl => ⟨⟨hk.1.1.1, hne k hkl hk.1.2⟩, ?_⟩)
      have h2 : f k = j := hk.2
      rw [if_neg hk.1.1.2, if_pos (by omega)]
      exact h2
    · have hy' : p = y := by
        rw [List.getElem?_append_right (by rw [List.length_take]; omega), List.length_take, Nat.min_eq_left hi, Nat.sub_self] at hy
        simpa using hy
      subst hy'
      rw [seg_mid hle hcl]
      exact M_carry hp (fun k hk hkl => hg.block k hkl (hokp k hk).2) (fun k hk hkl => ⟨⟨(hokp k hk).1, hne k hkl (hokp k hk).2⟩, if_pos hk⟩)
    · have hy' : xs[j - 1]? = some y := by
        rw [List.getElem?_append_right (by rw [List.length_take]; omega), List.length_take, Nat.min_eq_left hi, show j - i = (j - 1 - i) + 1 by omega, List.getElem?_cons_succ, List.getElem?_drop, show i + (j - 1 - i) = j - 1 by omega] at hy
        exact hy
      have hb : i * d.sz + d.sz ≤ j * d.sz := by rw [← Nat.succ_mul]; exact Nat.mul_le_mul_right _ hgt
      rw [seg_hi hle hcl hb]
      have e1 : j * d.sz - d.sz = (j - 1) * d.sz := by rw [Nat.sub_mul, Nat.one_mul]
      rw [e1]
      refine M_carry (hr.2 (j - 1) (y, j - 1) (Kd.zip_at hy')) (fun k hk hkl => hg.block k hkl hk.1.2) (fun k hk hkl => ⟨⟨hk.1.1.1, hne k hkl hk.1.2⟩, ?_⟩)
      have h2 : f k = j - 1 := hk.2
      rw [if_neg hk.1.1.2, if_neg (by omega)]
      omega
/-- An element taken out. -/
theorem S_delete {i : Nat} (h : Kd.S d e w base ok v xs) (hown : w.ownsRow base e d.sz v xs.length inner) (hi : i < xs.length) (hfresh : ∀ k, w.heap.size ≤ k → ok k)
    (ho1 : w1.ownsRow base e d.sz v1 (xs.length - 1) (inner.take (i * d.sz) ++ inner.drop ((i + 1) * d.sz))) (hg : w.grownBy w1 v.ownBlock) (hat : v1.ownBlock = v.ownBlock ∨ ∃ b, v1.ownBlock = some b ∧ w.heap.size ≤ b) :
    Kd.S d e w1 base ok v1 (xs.eraseIdx i) := by
  obtain ⟨f, h0, inner', hown', hr⟩ := h
  rw [List.length_zipIdx] at hown'
  have hin : inner' = inner := own_uniq hown' hown
  subst hin
  have hle : i * d.sz ≤ inner'.length := by rw [hown'.1]; exact Nat.mul_le_mul_right _ (by omega)
  have hne : ∀ k, k < w.heap.size → some k ≠ v.ownBlock → some k ≠ v1.ownBlock := fun k hk hkv => by
    rcases hat with hat | ⟨b, hb, hle⟩
    · rw [hat]; exact hkv
    · rw [hb]; intro e; injection e with e; omega
  refine Kd.S_erase (f := f) ⟨fun k hk => ?_, _, by rw [List.length_eraseIdx_of_lt (by rw [List.length_zipIdx]; exact hi), List.length_zipIdx]; exact ho1, ?_, fun j q hj => ?_⟩
  · rcases hat with hat | ⟨b, hb, hle⟩
    · exact h0 k (hat ▸ hk)
    · rw [hb] at hk; cases hk; exact hfresh _ hle
  · rw [ho1.1, List.length_eraseIdx_of_lt (by rw [List.length_zipIdx]; exact hi), List.length_zipIdx]; rfl
  · rw [List.getElem?_eraseIdx] at hj
    show d.M w1 base (fun k => (ok k ∧ some k ≠ v1.ownBlock) ∧ f k = q.2) q.1 (((inner'.take (i * d.sz) ++ inner'.drop ((i + 1) * d.sz)).drop (j * d.sz)).take d.sz)
    split at hj
    · rename_i hlt
      have hb : j * d.sz + d.sz ≤ i * d.sz := by rw [← Nat.succ_mul]; exact Nat.mul_le_mul_right _ hlt
      rw [seg_lo hb hle]
      exact M_carry (hr.2 j q hj) (fun k hk hkl => hg.block k hkl hk.1.2) (fun k hk hkl => ⟨⟨hk.1.1, hne k hkl hk.1.2⟩, hk.2⟩)
    · rename_i hge
      have hl : (inner'.take (i * d.sz)).length = i * d.sz := by rw [List.length_take]; omega
      have hb : i * d.sz ≤ j * d.sz := Nat.mul_le_mul_right _ (by omega)
      have e1 : j * d.sz = i * d.sz + (j * d.sz - i * d.sz) := by omega
      have e2 : (i + 1) * d.sz + (j * d.sz - i * d.sz) = (j + 1) * d.sz := by rw [Nat.succ_mul, Nat.succ_mul]; omega
      rw [e1, ← List.drop_drop, List.drop_left' hl, List.drop_drop, e2]
      exact M_carry (hr.2 (j + 1) q hj) (fun k hk hkl => hg.block k hkl hk.1.2) (fun k hk hkl => ⟨⟨hk.1.1, hne k hkl hk.1.2⟩, hk.2⟩)
end

end Go.Proofs.Ytophfoenaekfjaa

