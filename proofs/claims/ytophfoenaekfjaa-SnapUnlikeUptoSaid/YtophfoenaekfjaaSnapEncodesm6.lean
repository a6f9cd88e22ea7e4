/- Parts of the proof of SnapEncodes: What lies in the blocks while the document's Decode reads. The program and the document read the same. Copies are what they are copies of. -/
import Derived.Test.YtophfoenaekfjaaSnapEncodesm5
import Derived.Test.YtophfoenaekfjaaPSnapEncodesx3
namespace Go.Proofs.Ytophfoenaekfjaa
open Go.RowKit Go.Proofs.YtophfoenaekfjaaW.PrintWords Go.Proofs.YtophfoenaekfjaaW.PrintLast Go.Proofs.YtophfoenaekfjaaW.PrintMore Go.Proofs.Ytophfoenaekfjaa.PSnapEncodes
set_option linter.unusedVariables false
set_option linter.unusedSimpArgs false

/-- What lies in the blocks while catenaryref10.Decode reads. -/
structure InvD (w : World) (g5 ga : Nat) (A : Option Addr) (c : Nat) (l : List Int) (m : Int) (s : Int × Bool) (v1 v2 v3 : Value) (es : List S72) (ls : List S87) (ss : List S97) (W : World) : Prop where
  sb : W.heap[g5]? = some (.cells #[.slice A l.length c, .int .i64 s.1, .bool s.2] 118 (0, 0))
  ab : W.heap[ga]? = some (.cells #[.int .i64 m, v1, v2, v3] 26 (0, 0))
  r1 : Kd.S k72 72 W w.heap.size (fun _ => True) v1 es
  r2 : Kd.S k87 87 W w.heap.size (fun _ => True) v2 ls
  r3 : Kd.S k97 97 W w.heap.size (fun _ => True) v3 ss
  below : Below w.heap.size w W
  h5 : w.heap.size ≤ g5
  ha : w.heap.size ≤ ga
  pl : 0 ≤ s.1 ∧ s.1 ≤ l.length
section
variable {w W W' : World} {g5 ga : Nat} {A : Option Addr} {c : Nat} {l : List Int} {m : Int} {s s' : Int × Bool} {v1 v2 v3 : Value} {es : List S72} {ls : List S87} {ss : List S97}
theorem InvD.size (h : InvD w g5 ga A c l m s v1 v2 v3 es ls ss W) : w.heap.size ≤ W.heap.size := h.below.size
theorem InvD.later (h : InvD w g5 ga A c l m s v1 v2 v3 es ls ss W) (hb : Below W.heap.size W W') : InvD w g5 ga A c l m s v1 v2 v3 es ls ss W' where
  sb := blk_below h.sb hb
  ab := blk_below h.ab hb
  r1 := Kd.S_below h.r1 hb
  r2 := Kd.S_below h.r2 hb
  r3 := Kd.S_below h.r3 hb
  below := below_step h.below hb
  h5 := h.h5
  ha := h.ha
  pl := h.pl
/-- The reader's place is moved. -/
theorem InvD.move (h : InvD w g5 ga A c l m s v1 v2 v3 es ls ss W) (hp : 0 ≤ s'.1 ∧ s'.1 ≤ l.length) : InvD w g5 ga A c l m s' v1 v2 v3 es ls ss (((W.setCell ⟨g5, 0, none⟩ (.slice A l.length c)).setCell ⟨g5, 1, none⟩ (.int .i64 s'.1)).setCell ⟨g5, 2, none⟩ (.bool s'.2)) where
  sb := put3 h.sb
  ab := blk_far (p := ⟨g5, 2, none⟩) (blk_far (p := ⟨g5, 1, none⟩) (blk_far (p := ⟨g5, 0, none⟩) h.ab (blk_ne h.ab h.sb (by decide)) _) (blk_ne h.ab h.sb (by decide)) _) (blk_ne h.ab h.sb (by decide)) _
  r1 := Kd.S_set (Kd.S_set (Kd.S_set h.r1 h.sb (by decide) _ _) (blk_set h.sb _ _) (by decide) _ _) (blk_set (blk_set h.sb _ _) _ _) (by decide) _ _
  r2 := Kd.S_set (Kd.S_set (Kd.S_set h.r2 h.sb (by decide) _ _) (blk_set h.sb _ _) (by decide) _ _) (blk_set (blk_set h.sb _ _) _ _) (by decide) _ _
  r3 := Kd.S_set (Kd.S_set (Kd.S_set h.r3 h.sb (by decide) _ _) (blk_set h.sb _ _) (by decide) _ _) (blk_set (blk_set h.sb _ _) _ _) (by decide) _ _
  below := below_put3 h.below h.h5
  h5 := h.h5
  ha := h.ha
  pl := hp
theorem InvD.put1 {v' : Value} {es' : List S72} (h : InvD w g5 ga A c l m s v1 v2 v3 es ls ss W) (hg : W.grownBy W' v1.ownBlock) (hr : Kd.S k72 72 W' w.heap.size (fun _ => True) v' es') : InvD w g5 ga A c l m s v' v2 v3 es' ls ss (W'.setCell ⟨ga, 1, none⟩ v') where
  sb := blk_far (blk_grown h.sb hg (Kd.S_ne h.r1 h.sb (by decide))) (p := ⟨ga, 1, none⟩) (blk_ne h.sb h.ab (by decide)) v'
  ab := (blk_set (blk_grown h.ab hg (Kd.S_ne h.r1 h.ab (by decide))) 1 v').trans rfl
  r1 := Kd.S_set hr (blk_grown h.ab hg (Kd.S_ne h.r1 h.ab (by decide))) (by decide) _ _
  r2 := Kd.S_set (Kd.S_over' h.r2 (Kd.S_typed h.r1) (by decide) hg) (blk_grown h.ab hg (Kd.S_ne h.r1 h.ab (by decide))) (by decide) _ _
  r3 := Kd.S_set (Kd.S_over' h.r3 (Kd.S_typed h.r1) (by decide) hg) (blk_grown h.ab hg (Kd.S_ne h.r1 h.ab (by decide))) (by decide) _ _
  below := below_set (pw_below_grown h.below _ h.size hg (Kd.S_base h.r1)) h.ha
  h5 := h.h5
  ha := h.ha
  pl := h.pl
/-- Another reader's block stays, too. -/
theorem InvD.other1 {v' : Value} {g : Nat} {cs : Array Value} (h : InvD w g5 ga A c l m s v1 v2 v3 es ls ss W) (hg : W.grownBy W' v1.ownBlock) (hb : W.heap[g]? = some (.cells cs 118 (0, 0))) : (W'.setCell ⟨ga, 1, none⟩ v').heap[g]? = some (.cells cs 118 (0, 0)) :=
  blk_far (blk_grown hb hg (Kd.S_ne h.r1 hb (by decide))) (p := ⟨ga, 1, none⟩) (blk_ne hb h.ab (by decide)) v'
theorem InvD.put2 {v' : Value} {ls' : List S87} (h : InvD w g5 ga A c l m s v1 v2 v3 es ls ss W) (hg : W.grownBy W' v2.ownBlock) (hr : Kd.S k87 87 W' w.heap.size (fun _ => True) v' ls') : InvD w g5 ga A c l m s v1 v' v3 es ls' ss (W'.setCell ⟨ga, 2, none⟩ v') where
  sb := blk_far (blk_grown h.sb hg (Kd.S_ne h.r2 h.sb (by decide))) (p := ⟨ga, 2, none⟩) (blk_ne h.sb h.ab (by decide)) v'
  ab := (blk_set (blk_grown h.ab hg (Kd.S_ne h.r2 h.ab (by decide))) 2 v').trans rfl
  r1 := Kd.S_set (Kd.S_over' h.r1 (Kd.S_typed h.r2) (by decide) hg) (blk_grown h.ab hg (Kd.S_ne h.r2 h.ab (by decide))) (by decide) _ _
  r2 := Kd.S_set hr (blk_grown h.ab hg (Kd.S_ne h.r2 h.ab (by decide))) (by decide) _ _
  r3 := Kd.S_set (Kd.S_over' h.r3 (Kd.S_typed h.r2) (by decide) hg) (blk_grown h.ab hg (Kd.S_ne h.r2 h.ab (by decide))) (by decide) _ _
  below := below_set (pw_below_grown h.below _ h.size hg (Kd.S_base h.r2)) h.ha
  h5 := h.h5
  ha := h.ha
  pl := h.pl
/-- Another reader's block stays, too. -/
theorem InvD.other2 {v' : Value} {g : Nat} {cs : Array Value} (h : InvD w g5 ga A c l m s v1 v2 v3 es ls ss W) (hg : W.grownBy W' v2.ownBlock) (hb : W.heap[g]? = some (.cells cs 118 (0, 0))) : (W'.setCell ⟨ga, 2, none⟩ v').heap[g]? = some (.cells cs 118 (0, 0)) :=
  blk_far (blk_grown hb hg (Kd.S_ne h.r2 hb (by decide))) (p := ⟨ga, 2, none⟩) (blk_ne hb h.ab (by decide)) v'
theorem InvD.put3 {v' : Value} {ss' : List S97} (h : InvD w g5 ga A c l m s v1 v2 v3 es ls ss W) (hg : W.grownBy W' v3.ownBlock) (hr : Kd.S k97 97 W' w.heap.size (fun _ => True) v' ss') : InvD w g5 ga A c l m s v1 v2 v' es ls ss' (W'.setCell ⟨ga, 3, none⟩ v') where
  sb := blk_far (blk_grown h.sb hg (Kd.S_ne h.r3 h.sb (by decide))) (p := ⟨ga, 3, none⟩) (blk_ne h.sb h.ab (by decide)) v'
  ab := (blk_set (blk_grown h.ab hg (Kd.S_ne h.r3 h.ab (by decide))) 3 v').trans rfl
  r1 := Kd.S_set (Kd.S_over' h.r1 (Kd.S_typed h.r3) (by decide) hg) (blk_grown h.ab hg (Kd.S_ne h.r3 h.ab (by decide))) (by decide) _ _
  r2 := Kd.S_set (Kd.S_over' h.r2 (Kd.S_typed h.r3) (by decide) hg) (blk_grown h.ab hg (Kd.S_ne h.r3 h.ab (by decide))) (by decide) _ _
  r3 := Kd.S_set hr (blk_grown h.ab hg (Kd.S_ne h.r3 h.ab (by decide))) (by decide) _ _
  below := below_set (pw_below_grown h.below _ h.size hg (Kd.S_base h.r3)) h.ha
  h5 := h.h5
  ha := h.ha
  pl := h.pl
/-- Another reader's block stays, too. -/
theorem InvD.other3 {v' : Value} {g : Nat} {cs : Array Value} (h : InvD w g5 ga A c l m s v1 v2 v3 es ls ss W) (hg : W.grownBy W' v3.ownBlock) (hb : W.heap[g]? = some (.cells cs 118 (0, 0))) : (W'.setCell ⟨ga, 3, none⟩ v').heap[g]? = some (.cells cs 118 (0, 0)) :=
  blk_far (blk_grown hb hg (Kd.S_ne h.r3 hb (by decide))) (p := ⟨ga, 3, none⟩) (blk_ne hb h.ab (by decide)) v'
end
def dstep1 (l : List Int) (x : (Int × Bool) × List S72) : (Int × Bool) × List S72 := ((dget l (dget l x.1).2).2, x.2 ++ [⟨(dget l x.1).1, (dget l (dget l x.1).2).1⟩])
def dstep2 (l : List Int) (x : (Int × Bool) × List S87) : (Int × Bool) × List S87 := ((dnum l (dnum l (dget l x.1).2).2).2, x.2 ++ [⟨(dget l x.1).1, (dnum l (dget l x.1).2).1, (dnum l (dnum l (dget l x.1).2).2).1⟩])
def dstep3 (l : List Int) (x : (Int × Bool) × List S97) : (Int × Bool) × List S97 := ((dget l (dnum l (dnum l (dnum l x.1).2).2).2).2, x.2 ++ [⟨(dnum l x.1).1, (dnum l (dnum l x.1).2).1, ⟨(dnum l (dnum l (dnum l x.1).2).2).1, (dget l (dnum l (dnum l (dnum l x.1).2).2).2).1⟩⟩])
def dmany {σ : Type} (l : List Int) (step : (Int × Bool) × σ → (Int × Bool) × σ) (s : Int × Bool) (x : σ) : (Int × Bool) × σ := rep step (dnum l s).1.toNat ((dnum l s).2, x)
theorem dnum_n {l : List Int} {s : Int × Bool} (hw : wfB l) : 0 ≤ (dnum l s).1 ∧ (dnum l s).1 ≤ 2147483647 := by
  unfold dnum
  split
  · exact ⟨by show (0 : Int) ≤ 0; omega, by show (0 : Int) ≤ 2147483647; omega⟩
  · rcases getI_cases (a := s.1) hw with ⟨n, nx, h, h0, h1, h2, h3, h4⟩ | h
    · rw [h]; exact ⟨h1, h2⟩
    · rw [h]; exact ⟨by show (0 : Int) ≤ 0; omega, by show (0 : Int) ≤ 2147483647; omega⟩
/-- What the document reads. -/
def dparse (l : List Int) : Parsed :=
  { m := (dnum l (0, false)).1
    es := (dmany l (dstep1 l) (dnum l (0, false)).2 []).2
    ls := (dmany l (dstep2 l) (dmany l (dstep1 l) (dnum l (0, false)).2 []).1 []).2
    ss := (dmany l (dstep3 l) (dmany l (dstep2 l) (dmany l (dstep1 l) (dnum l (0, false)).2 []).1 []).1 []).2
    s := (dmany l (dstep3 l) (dmany l (dstep2 l) (dmany l (dstep1 l) (dnum l (0, false)).2 []).1 []).1 []).1 }
def Parsed.ok' (p : Parsed) (l : List Int) : Prop := p.s.2 = false ∧ p.s.1 = l.length ∧ goodA p.m p.es p.ls p.ss
theorem dmany_len {σ : Type} {f : List Int → (Int × Bool) × List σ → (Int × Bool) × List σ} {l : List Int} (hf : ∀ x, (f l x).2.length = x.2.length + 1) (hw : wfB l) (s : Int × Bool) : (dmany l (f l) s []).2.length ≤ 2147483647 := by
  have h1 := rep_len1 f l hf (dnum l s).1.toNat ((dnum l s).2, [])
  have h2 := dnum_n (s := s) hw
  simp only [List.length_nil] at h1
  unfold dmany
  omega

end Go.Proofs.Ytophfoenaekfjaa

namespace Go.Proofs.Ytophfoenaekfjaa
open Go.RowKit Go.Proofs.YtophfoenaekfjaaW.PrintWords Go.Proofs.YtophfoenaekfjaaW.PrintLast Go.Proofs.YtophfoenaekfjaaW.PrintMore Go.Proofs.Ytophfoenaekfjaa.PSnapEncodes
set_option linter.unusedVariables false
set_option linter.unusedSimpArgs false

theorem gi_vint : ∀ (t : List Int) (i : Nat) (n m : Int) (k : Nat), gi t i n = some (m, k) → wfB t → ∃ q : Nat, m = n + (q : Int) * 128 ^ i ∧ vint q = t.take (k - i) ∧ (0 < i → 0 < q) ∧ i < k
  | [], _, _, _, _, h, _ => by simp [gi] at h
  | c :: t, i, n, m, k, h, hw => by
    have hc := hw c (by simp)
    simp only [gi] at h
    split at h
    · cases h
    · split at h
      · rename_i hlt
        split at h
        · cases h
        · rename_i hno
          injection h with h
          injection h with h1 h2
          subst h1; subst h2
          refine ⟨c.toNat, ?_, ?_, ?_, by omega⟩
          · rw [Int.emod_eq_of_lt hc.1 hlt, Int.toNat_of_nonneg hc.1]
          · rw [vint_small (by omega), show i + 1 - i = 1 by omega, Int.toNat_of_nonneg hc.1]
            rfl
          · intro hi
            rcases Int.lt_or_eq_of_le hc.1 with hp | hp
            · omega
            · exact absurd (.inr ⟨hp.symm, hi⟩) hno
      · rename_i hge
        obtain ⟨q, hm, hv, hq, hk⟩ := gi_vint t (i + 1) _ m k h (fun x hx => hw x (by simp [hx]))
        have hq0 := hq (by omega)
        refine ⟨(c % 128).toNat + 128 * q, ?_, ?_, fun _ => by omega, by omega⟩
        · rw [hm]
          have e : (((c % 128).toNat + 128 * q : Nat) : Int) = c % 128 + 128 * q := by omega
          rw [e, Int.add_mul, Int.add_assoc, Int.pow_succ]
          congr 2
          rw [Int.mul_comm (128 : Int) (q : Int), Int.mul_assoc, Int.mul_comm (128 : Int) (128 ^ i)]
        · rw [vint_big (by omega), show k - i = (k - (i + 1)) + 1 by omega, List.take_succ_cons]
          have e1 : ((c % 128).toNat + 128 * q) / 128 = q := by omega
          have e2 : ((((c % 128).toNat + 128 * q) % 128 + 128 : Nat) : Int) = c := by omega
          rw [e1, e2, hv]
/-- The bytes from a up to b are e. -/
structure To (l : List Int) (a b : Int) (e : List Int) : Prop where
  out : l.take b.toNat = l.take a.toNat ++ e
theorem To.trans {l : List Int} {a b c : Int} {e f : List Int} (h : To l a b e) (k : To l b c f) : To l a c (e ++ f) := ⟨by rw [k.out, h.out, List.append_assoc]⟩
theorem To.nil (l : List Int) (a : Int) : To l a a [] := ⟨by simp⟩
theorem to_of_drop {l : List Int} {a k : Nat} {e : List Int} (h : (l.drop a).take k = e) : l.take (a + k) = l.take a ++ e := by
  rw [← h, List.take_add]
theorem getI_to {l : List Int} {a n nx : Int} (hw : wfB l) (h : getI l a = (n, nx, 0)) : To l a nx (vint n.toNat) ∧ 0 ≤ n := by
  have hc := getI_cases (a := a) hw
  rcases hc with ⟨n', nx', h', h0, h1, h2, h3, h4⟩ | h'
  · rw [h] at h'
    have e1 : n = n' := congrArg Prod.fst h'
    have e2 : nx = nx' := congrArg (fun p => p.2.1) h'
    subst e1; subst e2
    rw [getI_in h0 (by omega)] at h
    cases hg : gi (l.drop a.toNat) 0 0 with
    | none => rw [hg] at h; have := congrArg (fun p : Int × Int × Int => p.2.2) h; simp [gres] at this
    | some p =>
      obtain ⟨m, k⟩ := p
      rw [hg] at h
      have e3 : m = n := congrArg Prod.fst h
      have e4 : a + k = nx := congrArg (fun p : Int × Int × Int => p.2.1) h
      obtain ⟨q, hm, hv, _, hk⟩ := gi_vint _ _ _ _ _ hg (fun c hc => hw c (List.mem_of_mem_drop hc))
      have hq : n.toNat = q := by rw [← e3, hm]; simp
      refine ⟨⟨?_⟩, h1⟩
      rw [hq, hv, show nx.toNat = a.toNat + (k - 0) by omega]
      exact to_of_drop rfl
  · rw [h] at h'
    have := congrArg (fun p : Int × Int × Int => p.2.2) h'
    simp at this
theorem getB_to {l : List Int} {a most nx : Int} {p : List Int} (hw : wfB l) (h : getB l a most = (p, nx, 0)) : To l a nx (txt p) := by
  unfold getB at h
  split at h
  · rename_i hc
    obtain ⟨n, x, er, hg⟩ : ∃ n x er, getI l a = (n, x, er) := ⟨_, _, _, rfl⟩
    rw [hg] at h hc
    obtain ⟨h1, h2, h3⟩ := hc
    simp only at h1 h2 h3
    subst h1
    have e1 : (l.drop x.toNat).take n.toNat = p := congrArg Prod.fst h
    have e2 : x + n = nx := congrArg (fun p : List Int × Int × Int => p.2.1) h
    obtain ⟨ht, hn⟩ := getI_to hw hg
    have hx := getI_cases (a := a) hw
    rcases hx with ⟨n', nx', h', h0', h1', h2', h3', h4'⟩ | h'
    · rw [hg] at h'
      have e3 : n = n' := congrArg Prod.fst h'
      have e4 : x = nx' := congrArg (fun p : Int × Int × Int => p.2.1) h'
      subst e3; subst e4
      have hl : p.length = n.toNat := by rw [← e1, List.length_take, List.length_drop]; omega
      unfold txt
      rw [hl]
      refine ht.trans ⟨?_⟩
      rw [← e2, show (x + n).toNat = x.toNat + n.toNat by omega]
      exact to_of_drop e1
    · rw [hg] at h'
      have := congrArg (fun p : Int × Int × Int => p.2.2) h'
      simp at this
  · have := congrArg (fun p : List Int × Int × Int => p.2.2) h
    simp at this
/-- The two readers agree: both bad, or the same. -/
def Agree {σ : Type} (x y : (Int × Bool) × σ) : Prop := (x.1.2 = true ∧ y.1.2 = true) ∨ (x = y ∧ x.1.2 = false)
theorem num_agree {l : List Int} {s : Int × Bool} (hw : wfB l) (hs : s.2 = false) : ((rnum l s).2.2 = true ∧ (dnum l s).2.2 = true) ∨ (rnum l s = dnum l s ∧ (rnum l s).2.2 = false ∧ To l s.1 (rnum l s).2.1 (vint (rnum l s).1.toNat) ∧ 0 ≤ (rnum l s).1) := by
  obtain ⟨a, b⟩ := s
  simp only at hs
  subst hs
  rcases getI_cases (a := a) hw with ⟨n, nx, h, _⟩ | h
  · refine .inr ⟨by unfold rnum dnum; simp [h], by unfold rnum; simp [h], ?_, ?_⟩
    · unfold rnum; simp only [h]; exact (getI_to hw h).1
    · unfold rnum; simp only [h]; exact (getI_to hw h).2
  · exact .inl ⟨by unfold rnum; simp [h], by unfold dnum; simp [h]⟩
theorem text_agree {l : List Int} {s : Int × Bool} (hw : wfB l) (hs : s.2 = false) : ((rtext l s).2.2 = true ∧ (dget l s).2.2 = true) ∨ (rtext l s = dget l s ∧ (rtext l s).2.2 = false ∧ To l s.1 (rtext l s).2.1 (txt (rtext l s).1)) := by
  obtain ⟨a, b⟩ := s
  simp only at hs
  subst hs
  rcases getB_cases (a := a) (most := 64) hw with ⟨p, nx, h, _⟩ | h
  · refine .inr ⟨by unfold rtext dget; simp [h], by unfold rtext; simp [h], ?_⟩
    unfold rtext; simp only [h]; exact getB_to hw h
  · exact .inl ⟨by unfold rtext; simp [h], by unfold dget; simp [h]⟩
theorem rnum_bad {l : List Int} {s : Int × Bool} (h : s.2 = true) : (rnum l s).2.2 = true := by unfold rnum; simp [h]
theorem dnum_bad {l : List Int} {s : Int × Bool} (h : s.2 = true) : (dnum l s).2.2 = true := by unfold dnum; simp [h]
theorem rtext_bad {l : List Int} {s : Int × Bool} (h : s.2 = true) : (rtext l s).2.2 = true := by unfold rtext; simp [h]
theorem dget_bad {l : List Int} {s : Int × Bool} (h : s.2 = true) : (dget l s).2.2 = true := by unfold dget; simp [h]
/-- One step of both: both bad behind it, or the same, one more thing, its bytes read. -/
def StepOk {σ : Type} (l : List Int) (f g : (Int × Bool) × List σ → (Int × Bool) × List σ) (enc : σ → List Int) : Prop :=
  ∀ x : (Int × Bool) × List σ, x.1.2 = false → ((f x).1.2 = true ∧ (g x).1.2 = true) ∨ (f x = g x ∧ (f x).1.2 = false ∧ ∃ z, (f x).2 = x.2 ++ [z] ∧ To l x.1.1 (f x).1.1 (enc z))
theorem step1_ok {l : List Int} (hw : wfB l) : StepOk l (step1 l) (dstep1 l) itemE := by
  intro x hx
  obtain ⟨s, zs⟩ := x
  simp only at hx
  rcases text_agree hw hx with ⟨h1, h2⟩ | ⟨e1, h1, t1⟩
  · exact .inl ⟨rtext_bad h1, dget_bad h2⟩
  · rcases text_agree hw h1 with ⟨h3, h4⟩ | ⟨e2, h3, t2⟩
    · exact .inl ⟨h3, by show (dget l (dget l s).2).2.2 = true; rw [← e1]; exact h4⟩
    · refine .inr ⟨?_, h3, _, rfl, t1.trans t2⟩
      show ((rtext l (rtext l s).2).2, zs ++ [_]) = ((dget l (dget l s).2).2, zs ++ [_])
      rw [← e1, ← e2]
theorem step2_ok {l : List Int} (hw : wfB l) : StepOk l (step2 l) (dstep2 l) itemL := by
  intro x hx
  obtain ⟨s, zs⟩ := x
  simp only at hx
  rcases text_agree hw hx with ⟨h1, h2⟩ | ⟨e1, h1, t1⟩
  · exact .inl ⟨rnum_bad (rnum_bad h1), dnum_bad (dnum_bad h2)⟩
  · rcases num_agree hw h1 with ⟨h3, h4⟩ | ⟨e2, h3, t2, _⟩
    · exact .inl ⟨rnum_bad h3, by show (dnum l (dnum l (dget l s).2).2).2.2 = true; rw [← e1]; exact dnum_bad h4⟩
    · rcases num_agree hw h3 with ⟨h5, h6⟩ | ⟨e3, h5, t3, _⟩
      · exact .inl ⟨h5, by show (dnum l (dnum l (dget l s).2).2).2.2 = true; rw [← e1, ← e2]; exact h6⟩
      · refine .inr ⟨?_, h5, _, rfl, ?_⟩
        · show ((rnum l (rnum l (rtext l s).2).2).2, zs ++ [_]) = ((dnum l (dnum l (dget l s).2).2).2, zs ++ [_])
          rw [← e1, ← e2, ← e3]
        · have := t1.trans (t2.trans t3)
          simpa [itemL, nat, step2] using this
theorem step3_ok {l : List Int} (hw : wfB l) : StepOk l (step3 l) (dstep3 l) itemS := by
  intro x hx
  obtain ⟨s, zs⟩ := x
  simp only at hx
  rcases num_agree hw hx with ⟨h1, h2⟩ | ⟨e1, h1, t1, _⟩
  · exact .inl ⟨rtext_bad (rnum_bad (rnum_bad h1)), dget_bad (dnum_bad (dnum_bad h2))⟩
  · rcases num_agree hw h1 with ⟨h3, h4⟩ | ⟨e2, h3, t2, _⟩
    · exact .inl ⟨rtext_bad (rnum_bad h3), by show (dget l (dnum l (dnum l (dnum l s).2).2).2).2.2 = true; rw [← e1]; exact dget_bad (dnum_bad h4)⟩
    · rcases num_agree hw h3 with ⟨h5, h6⟩ | ⟨e3, h5, t3, _⟩
      · exact .inl ⟨rtext_bad h5, by show (dget l (dnum l (dnum l (dnum l s).2).2).2).2.2 = true; rw [← e1, ← e2]; exact dget_bad h6⟩
      · rcases text_agree hw h5 with ⟨h7, h8⟩ | ⟨e4, h7, t4⟩
        · exact .inl ⟨h7, by show (dget l (dnum l (dnum l (dnum l s).2).2).2).2.2 = true; rw [← e1, ← e2, ← e3]; exact h8⟩
        · refine .inr ⟨?_, h7, _, rfl, ?_⟩
          · show ((rtext l (rnum l (rnum l (rnum l s).2).2).2).2, zs ++ [_]) = ((dget l (dnum l (dnum l (dnum l s).2).2).2).2, zs ++ [_])
            rw [← e1, ← e2, ← e3, ← e4]
          · have := t1.trans (t2.trans (t3.trans t4))
            simpa [itemS, nat, step3] using this
theorem rep_ok {σ : Type} {l : List Int} {f g : (Int × Bool) × List σ → (Int × Bool) × List σ} {enc : σ → List Int} (h : StepOk l f g enc) : ∀ (k : Nat) (x : (Int × Bool) × List σ), x.1.2 = false →
    ((rep f k x).1.2 = true ∧ (rep g k x).1.2 = true) ∨ (rep f k x = rep g k x ∧ (rep f k x).1.2 = false ∧ ∃ zs, (rep f k x).2 = x.2 ++ zs ∧ zs.length = k ∧ To l x.1.1 (rep f k x).1.1 (zs.flatMap enc))
  | 0, x, hx => .inr ⟨rfl, hx, [], by simp [rep], rfl, by simpa [rep] using To.nil _ _⟩
  | k + 1, x, hx => by
    rw [rep_go _ _ _ hx, rep_go _ _ _ hx]
    rcases h x hx with ⟨h1, h2⟩ | ⟨e1, h1, z, hz, t1⟩
    · rw [rep_bad _ _ _ h1, rep_bad _ _ _ h2]
      exact .inl ⟨h1, h2⟩
    · rw [← e1]
      rcases rep_ok h k (f x) h1 with ⟨h3, h4⟩ | ⟨e2, h3, zs, hzs, hl, t2⟩
      · exact .inl ⟨h3, h4⟩
      · refine .inr ⟨e2, h3, z :: zs, by rw [hzs, hz, List.append_assoc]; rfl, by simp [hl], ?_⟩
        rw [List.flatMap_cons]
        exact t1.trans t2
theorem many_ok {σ : Type} {l : List Int} {f g : (Int × Bool) × List σ → (Int × Bool) × List σ} {enc : σ → List Int} (hw : wfB l) (h : StepOk l f g enc) {s : Int × Bool} (hs : s.2 = false) :
    ((many l f s []).1.2 = true ∧ (dmany l g s []).1.2 = true) ∨ (many l f s [] = dmany l g s [] ∧ (many l f s []).1.2 = false ∧ To l s.1 (many l f s []).1.1 (nat [((many l f s []).2.length : Int)] ++ (many l f s []).2.flatMap enc)) := by
  unfold many dmany
  rcases num_agree hw hs with ⟨h1, h2⟩ | ⟨e1, h1, t1, h0⟩
  · rw [rep_bad _ _ _ (by exact h1), rep_bad _ _ _ (by exact h2)]
    exact .inl ⟨h1, h2⟩
  · rw [← e1]
    rcases rep_ok h (rnum l s).1.toNat ((rnum l s).2, []) h1 with ⟨h3, h4⟩ | ⟨e2, h3, zs, hzs, hl, t2⟩
    · exact .inl ⟨h3, h4⟩
    · refine .inr ⟨e2, h3, ?_⟩
      rw [hzs, List.nil_append, hl]
      refine To.trans (b := (rnum l s).2.1) ?_ t2
      have : nat [(((rnum l s).1.toNat : Nat) : Int)] = vint (rnum l s).1.toNat := by show [(((rnum l s).1.toNat : Nat) : Int)].flatMap (fun n => vint n.toNat) = _; rw [List.flatMap_cons, Int.toNat_natCast]; exact List.append_nil _
      rw [this]
      exact t1
theorem many_bad {σ : Type} {l : List Int} {f : (Int × Bool) × List σ → (Int × Bool) × List σ} {s : Int × Bool} (hs : s.2 = true) : (many l f s []).1.2 = true := by
  unfold many
  rw [rep_bad _ _ _ (by exact rnum_bad hs)]
  exact rnum_bad hs
theorem dmany_bad {σ : Type} {l : List Int} {f : (Int × Bool) × List σ → (Int × Bool) × List σ} {s : Int × Bool} (hs : s.2 = true) : (dmany l f s []).1.2 = true := by
  unfold dmany
  rw [rep_bad _ _ _ (by exact dnum_bad hs)]
  exact dnum_bad hs
/-- The two states that are read: both bad, or the same, and what was read are the state's bytes. -/
theorem parse_agree {l : List Int} (hw : wfB l) : ((parse l).s.2 = true ∧ (dparse l).s.2 = true) ∨ (parse l = dparse l ∧ (parse l).s.2 = false ∧ To l 0 (parse l).s.1 (encA (parse l).m (parse l).es (parse l).ls (parse l).ss)) := by
  rcases num_agree (s := (0, false)) hw rfl with ⟨h1, h2⟩ | ⟨e1, h1, t1, h0⟩
  · exact .inl ⟨many_bad (many_bad (many_bad h1)), dmany_bad (dmany_bad (dmany_bad h2))⟩
  · rcases many_ok hw (step1_ok hw) h1 with ⟨h3, h4⟩ | ⟨e2, h3, t2⟩
    · exact .inl ⟨many_bad (many_bad h3), dmany_bad (dmany_bad (by rw [← e1]; exact h4))⟩
    · rcases many_ok hw (step2_ok hw) h3 with ⟨h5, h6⟩ | ⟨e3, h5, t3⟩
      · exact .inl ⟨many_bad h5, dmany_bad (by rw [← e1, ← e2]; exact h6)⟩
      · rcases many_ok hw (step3_ok hw) h5 with ⟨h7, h8⟩ | ⟨e4, h7, t4⟩
        · exact .inl ⟨h7, by show (dmany l (dstep3 l) _ []).1.2 = true; rw [← e1, ← e2, ← e3]; exact h8⟩
        · refine .inr ⟨?_, h7, ?_⟩
          · unfold parse dparse
            rw [← e1, ← e2, ← e3, ← e4]
          · have := t1.trans (t2.trans (t3.trans t4))
            simpa [encA, nat, encE, encL, encS, parse] using this
theorem sb_inj : ∀ {a b : List Int}, wfB a → wfB b → sb a = sb b → a = b
  | [], [], _, _, _ => rfl
  | [], _ :: _, _, _, h => by simp [sb] at h
  | _ :: _, [], _, _, h => by simp [sb] at h
  | x :: a, y :: b, ha, hb, h => by
    simp only [sb, List.map_cons, List.cons.injEq] at h
    have hx := ha x (by simp)
    have hy := hb y (by simp)
    have e : x = y := by
      have := congrArg UInt8.toNat h.1
      simp only [UInt8.toNat_ofNat'] at this
      omega
    rw [e, sb_inj (fun c hc => ha c (by simp [hc])) (fun c hc => hb c (by simp [hc])) h.2]
theorem sameB_eq {a b : List Int} (ha : wfB a) (hb : wfB b) : sameB a b = true ↔ a = b := by
  unfold sameB
  rw [beq_iff_eq]
  exact ⟨sb_inj ha hb, fun h => by rw [h]⟩
theorem rnum_pl' {l : List Int} {s : Int × Bool} (hw : wfB l) : 0 ≤ (rnum l s).2.1 ∧ (rnum l s).2.1 ≤ l.length := by
  rcases getI_cases (a := s.1) hw with ⟨n, nx, h, h0, h1, h2, h3, h4⟩ | h
  · unfold rnum; rw [h]; exact ⟨by show 0 ≤ nx; omega, h4⟩
  · unfold rnum; rw [h]; exact ⟨by show (0 : Int) ≤ 0; omega, by show (0 : Int) ≤ l.length; omega⟩
theorem rtext_pl' {l : List Int} {s : Int × Bool} (hw : wfB l) : 0 ≤ (rtext l s).2.1 ∧ (rtext l s).2.1 ≤ l.length := by
  rcases getB_cases (a := s.1) (most := 64) hw with ⟨p, nx, h, h0, h1, h2, h3, h4, h5⟩ | h
  · unfold rtext; rw [h]; exact ⟨by show 0 ≤ nx; omega, h5⟩
  · unfold rtext; rw [h]; exact ⟨by show (0 : Int) ≤ 0; omega, by show (0 : Int) ≤ l.length; omega⟩
theorem rep_pl {σ : Type} {l : List Int} {f : (Int × Bool) × List σ → (Int × Bool) × List σ} (hf : ∀ x, 0 ≤ (f x).1.1 ∧ (f x).1.1 ≤ l.length) : ∀ (k : Nat) (x : (Int × Bool) × List σ), (0 ≤ x.1.1 ∧ x.1.1 ≤ l.length) → 0 ≤ (rep f k x).1.1 ∧ (rep f k x).1.1 ≤ l.length
  | 0, x, h => h
  | k + 1, x, h => by
    by_cases hb : x.1.2 = true
    · rw [rep_bad _ _ _ hb]; exact h
    · rw [rep_go _ _ _ (by simpa using hb)]
      exact rep_pl hf k _ (hf x)
theorem parse_pl {l : List Int} (hw : wfB l) : 0 ≤ (parse l).s.1 ∧ (parse l).s.1 ≤ l.length :=
  rep_pl (fun x => rtext_pl' hw) _ _ (rnum_pl' hw)
/-- The program's answer and the document's are the same. -/
theorem parse_ok {l : List Int} (hw : wfB l) : (parse l).ok l ↔ (dparse l).ok' l := by
  rcases parse_agree hw with ⟨h1, h2⟩ | ⟨e, h, t⟩
  · constructor
    · intro hk
      have := hk.1
      rw [h1] at this
      cases this
    · intro hk
      have := hk.1
      rw [h2] at this
      cases this
  · unfold Parsed.ok Parsed.ok'
    rw [← e]
    have hp := parse_pl hw
    have he : encA (parse l).m (parse l).es (parse l).ls (parse l).ss = l.take (parse l).s.1.toNat := by have := t.out; simpa using this.symm
    have hwe : wfB (encA (parse l).m (parse l).es (parse l).ls (parse l).ss) := by rw [he]; exact fun c hc => hw c (List.mem_of_mem_take hc)
    have hiff : sameB (encA (parse l).m (parse l).es (parse l).ls (parse l).ss) l = true ↔ (parse l).s.1 = l.length := by
      rw [sameB_eq hwe hw, he]
      constructor
      · intro h
        have := congrArg List.length h
        rw [List.length_take] at this
        omega
      · intro h
        rw [h, Int.toNat_natCast, List.take_length]
    rw [hiff]
    exact ⟨fun ⟨a, b, c⟩ => ⟨a, c, b⟩, fun ⟨a, b, c⟩ => ⟨a, c, b⟩⟩
theorem parse_eq {l : List Int} (hw : wfB l) (h : (parse l).ok l) : parse l = dparse l := by
  rcases parse_agree hw with ⟨h1, _⟩ | ⟨e, _⟩
  · have := h.1; rw [h1] at this; cases this
  · exact e
theorem parse_enc {l : List Int} (hw : wfB l) (h : (parse l).ok l) : encA (parse l).m (parse l).es (parse l).ls (parse l).ss = l := by
  rcases parse_agree hw with ⟨h1, _⟩ | ⟨e, h2, t⟩
  · have := h.1; rw [h1] at this; cases this
  · have he : encA (parse l).m (parse l).es (parse l).ls (parse l).ss = l.take (parse l).s.1.toNat := by have := t.out; simpa using this.symm
    exact (sameB_eq (by rw [he]; exact fun c hc => hw c (List.mem_of_mem_take hc)) hw).1 h.2.2

end Go.Proofs.Ytophfoenaekfjaa

namespace Go.Proofs.Ytophfoenaekfjaa
open Go.RowKit Go.Proofs.YtophfoenaekfjaaW.PrintWords Go.Proofs.YtophfoenaekfjaaW.PrintLast Go.Proofs.YtophfoenaekfjaaW.PrintMore Go.Proofs.Ytophfoenaekfjaa.PSnapEncodes
set_option linter.unusedVariables false
set_option linter.unusedSimpArgs false

theorem take_snoc' {α : Type} (z : α) {xs : List α} {i : Nat} (h : i < xs.length) : xs.take i ++ [xs.getD i z] = xs.take (i + 1) := by
  rw [List.take_add_one, List.getElem?_eq_getElem h, List.getD_eq_getElem?_getD, List.getElem?_eq_getElem h]
  rfl
theorem w64 {i : Nat} (h : i < 140737488355328) : wrap64 ((i : Int) + 1) = ((i + 1 : Nat) : Int) := by unfold wrap64; omega
def smallE (l : List S72) : Prop := l.length ≤ 1048576 ∧ ∀ x ∈ l, x.f0.length ≤ 1048576 ∧ x.f1.length ≤ 1048576
def smallL (l : List S87) : Prop := l.length ≤ 1048576 ∧ ∀ x ∈ l, x.f0.length ≤ 1048576
def smallS (l : List S97) : Prop := l.length ≤ 1048576 ∧ ∀ x ∈ l, x.f2.f1.length ≤ 1048576
theorem getD_mem' {α : Type} (z : α) {xs : List α} {i : Nat} (h : i < xs.length) : xs.getD i z ∈ xs := by
  rw [List.getD_eq_getElem?_getD, List.getElem?_eq_getElem h]
  exact List.getElem_mem h
theorem copy7_l {xs : List S72} (hs : smallE xs) : ∀ (n i : Nat), i + n = xs.length → catenaryref07_Copy.l0 (n + 1) (xs.take i) xs xs.length i = some xs
  | 0, i, h => by
    have : i = xs.length := by omega
    subst this
    unfold catenaryref07_Copy.l0
    rw [if_neg (by omega), List.take_length]
  | n + 1, i, h => by
    have hi : i < xs.length := by omega
    have hl := hs.1
    have hx := hs.2 _ (getD_mem' z72 hi)
    unfold catenaryref07_Copy.l0
    have e : rd_T72 xs (i : Int) = xs.getD i z72 := by unfold rd_T72; rw [Int.toNat_natCast]
    rw [if_pos (by omega), if_pos (by omega), if_pos (by omega), e]
    simp only [Option.bind_some, List.nil_append, List.length_nil, Nat.zero_add]
    rw [if_pos (by omega), if_pos (by omega), if_pos (by rw [List.length_take]; omega), w64 (by omega)]
    have := copy7_l hs n (i + 1) (by omega)
    rw [← take_snoc' z72 hi] at this
    exact this
theorem copy8_l {xs : List S87} (hs : smallL xs) : ∀ (n i : Nat), i + n = xs.length → catenaryref08_Copy.l0 (n + 1) (xs.take i) xs xs.length i = some xs
  | 0, i, h => by
    have : i = xs.length := by omega
    subst this
    unfold catenaryref08_Copy.l0
    rw [if_neg (by omega), List.take_length]
  | n + 1, i, h => by
    have hi : i < xs.length := by omega
    have hl := hs.1
    have hx := hs.2 _ (getD_mem' z87 hi)
    unfold catenaryref08_Copy.l0
    have e : rd_T87 xs (i : Int) = xs.getD i z87 := by unfold rd_T87; rw [Int.toNat_natCast]
    rw [if_pos (by omega), if_pos (by omega), if_pos (by omega), e]
    simp only [Option.bind_some, List.nil_append, List.length_nil, Nat.zero_add]
    rw [if_pos (by omega), if_pos (by rw [List.length_take]; omega), w64 (by omega)]
    have := copy8_l hs n (i + 1) (by omega)
    rw [← take_snoc' z87 hi] at this
    exact this
theorem copy9_l {xs : List S97} (hs : smallS xs) (a : Int) (l1 : List S72) (l2 : List S87) : ∀ (n i : Nat), i + n = xs.length → catenaryref09_Copy.l0 (n + 1) xs xs.length i a l1 l2 (xs.take i) = some (a, l1, l2, xs)
  | 0, i, h => by
    have : i = xs.length := by omega
    subst this
    unfold catenaryref09_Copy.l0
    rw [if_neg (by omega), List.take_length]
  | n + 1, i, h => by
    have hi : i < xs.length := by omega
    have hl := hs.1
    have hx := hs.2 _ (getD_mem' z97 hi)
    unfold catenaryref09_Copy.l0
    have e : rd_T97 xs (i : Int) = xs.getD i z97 := by unfold rd_T97; rw [Int.toNat_natCast]
    rw [if_pos (by omega), if_pos (by omega), if_pos (by omega), e]
    simp only [Option.bind_some, List.nil_append, List.length_nil, Nat.zero_add]
    rw [if_pos (by omega), if_pos (by rw [List.length_take]; omega), w64 (by omega)]
    have := copy9_l hs a l1 l2 n (i + 1) (by omega)
    rw [← take_snoc' z97 hi] at this
    exact this
theorem copy7 {xs : List S72} (hs : smallE xs) : catenaryref07_Copy.f (xs.length + 1) xs = some xs := copy7_l hs xs.length 0 (by omega)
theorem copy8 {xs : List S87} (hs : smallL xs) : catenaryref08_Copy.f (xs.length + 1) xs = some xs := copy8_l hs xs.length 0 (by omega)
theorem copy9 {a : Int} {l1 : List S72} {l2 : List S87} {l3 : List S97} (h1 : smallE l1) (h2 : smallL l2) (h3 : smallS l3) : ∃ k, catenaryref09_Copy.f k a l1 l2 l3 = some (a, l1, l2, l3) := by
  refine ⟨l1.length + 1 + (l2.length + 1 + (l3.length + 1)), ?_⟩
  unfold catenaryref09_Copy.f
  rw [at_rounds (g := fun k => catenaryref07_Copy.f k l1) (fun k => catenaryref07_Copy.mono l1 k) (k := l1.length + 1) (by omega) (copy7 h1)]
  simp only [Option.bind_some]
  rw [at_rounds (g := fun k => catenaryref08_Copy.f k l2) (fun k => catenaryref08_Copy.mono l2 k) (k := l2.length + 1) (by omega) (copy8 h2)]
  simp only [Option.bind_some]
  exact at_rounds (g := fun k => catenaryref09_Copy.l0 k l3 l3.length 0 a l1 l2 []) (fun k => catenaryref09_Copy.mono_l k _ _ _ _ _ _ _) (k := l3.length + 1) (by omega) (copy9_l h3 a l1 l2 l3.length 0 (by omega))
structure PostCp (w : World) (a : Int) (l1 : List S72) (l2 : List S87) (l3 : List S97) (e : Ending) (w' : World) : Prop where
  mk ::
  out : ∃ v1 v2 v3 : Value, e = .returned (.agg #[.int .i64 a, v1, v2, v3]) ∧ Kd.S k72 72 w' w.heap.size (fun _ => True) v1 l1 ∧ Kd.S k87 87 w' w.heap.size (fun _ => True) v2 l2 ∧ Kd.S k97 97 w' w.heap.size (fun _ => True) v3 l3 ∧ Below w.heap.size w w'
theorem ref09_Copy (a0 : Int) (A1 A2 A3 : Option Addr) (c1 c2 c3 : Nat) (l1 : List S72) (l2 : List S87) (l3 : List S97) (w : World) (h1 : Kd.C k72 w A1 l1.length l1) (m1 : l1.length ≤ c1) (h2 : Kd.C k87 w A2 l2.length l2) (m2 : l2.length ≤ c2) (h3 : Kd.C k97 w A3 l3.length l3) (m3 : l3.length ≤ c3) (s1 : smallE l1) (s2 : smallL l2) (s3 : smallS l3) :
    Calls Try.prog 19 #[.agg #[.int .i64 a0, .slice A1 l1.length c1, .slice A2 l2.length c2, .slice A3 l3.length c3]] w (PostCp w a0 l1 l2 l3) := by
  obtain ⟨k, hk⟩ := copy9 (a := a0) s1 s2 s3
  exact (catenaryref09_Copy.calls k a0 A1 c1 l1 A2 c2 l2 A3 c3 l3 a0 l1 l2 l3 w h1 m1 h2 m2 h3 m3 hk).mono fun _ _ h => ⟨h⟩

end Go.Proofs.Ytophfoenaekfjaa

