/- Parts of the proof of KvKeeps: What the proofs of this seat stand on: the printed kinds of values, requests beside them, and the words' namespaces; no condition. bytes.Compare compares texts by their bytes; no condition. Small tests of one or two values: clients, stamps, texts by their bytes; no condition. kv.Right and the reference's Right tell right entries; no condition. lease.Right and the reference's Right tell right leases; no condition. session.Right tells a right state; no condition. -/
import Derived.Test.YtophfoenaekfjaaPSnapEncodesx0
import Derived.Lib.Bytealg
import Derived.Lib.Walk
import Derived.Lib.BytesEntry
import Derived.Laws.Externs
import Derived.IntWalk
namespace Go.Proofs.Ytophfoenaekfjaa
open Go.RowKit Go.Proofs.YtophfoenaekfjaaW.PrintWords Go.Proofs.YtophfoenaekfjaaW.PrintLast Go.Proofs.YtophfoenaekfjaaW.PrintMore Go.Proofs.Ytophfoenaekfjaa.PSnapEncodes
set_option linter.unusedVariables false
set_option linter.unusedSimpArgs false
theorem info3 : (Try.prog.info? 3).map (fun i => (i.zero, i.size, i.bytes)) = some (some (.int .i64 0), 1, 8) := by kernel_rfl
structure S49 where
  f0 : Int
  f1 : Int
  f2 : (List Int)
  f3 : (List Int)
def z49 : S49 := ⟨(0 : Int), (0 : Int), ([] : List Int), ([] : List Int)⟩
def k49 : Kd S49 := Kd.iso (Kd.pair (Kd.int .i64) (Kd.pair (Kd.int .i64) (Kd.pair (Kd.slice 5 (Kd.int .u8)) (Kd.slice 5 (Kd.int .u8))))) (fun x : S49 => (x.f0, x.f1, x.f2, x.f3))
theorem k49_heap : Kd.Heap k49 := Kd.heap_iso _ (Kd.heap_pair (Kd.heap_int .i64) (Kd.heap_pair (Kd.heap_int .i64) (Kd.heap_pair (Kd.heap_slice 5 (Kd.heap_int .u8)) (Kd.heap_slice 5 (Kd.heap_int .u8)))))
theorem k49_open {w : World} {x : S49} {cs : List Value} (h : k49.K w x cs) : ∃ A2 c2 A3 c3, cs = [.int .i64 x.f0, .int .i64 x.f1, .slice A2 x.f2.length c2, .slice A3 x.f3.length c3] ∧ x.f2.length ≤ c2 ∧ (Kd.int .u8).C w A2 x.f2.length x.f2 ∧ x.f3.length ≤ c3 ∧ (Kd.int .u8).C w A3 x.f3.length x.f3 := by
  obtain ⟨_, _, rfl, rfl, ⟨_, _, rfl, rfl, ⟨_, _, rfl, ⟨A2, c2, rfl, l2, g2⟩, ⟨A3, c3, rfl, l3, g3⟩⟩⟩⟩ := h
  exact ⟨A2, c2, A3, c3, rfl, l2, g2, l3, g3⟩
theorem k49_openM {w : World} {base : Nat} {ok : Nat → Prop} {x : S49} {cs : List Value} (h : k49.M w base ok x cs) : ∃ v2 v3, cs = [.int .i64 x.f0, .int .i64 x.f1, v2, v3] ∧ (Kd.int .u8).R 5 w base ok v2 x.f2 ∧ (Kd.int .u8).R 5 w base ok v3 x.f3 := by
  obtain ⟨_, _, rfl, rfl, ⟨_, _, rfl, rfl, ⟨_, _, rfl, ⟨v2, rfl, g2⟩, ⟨v3, rfl, g3⟩⟩⟩⟩ := h
  exact ⟨v2, v3, rfl, g2, g3⟩
theorem k49_mk (w : World) (x : S49) {A2 : Option Addr} {c2 : Nat} (l2 : x.f2.length ≤ c2) (g2 : (Kd.int .u8).C w A2 x.f2.length x.f2) {A3 : Option Addr} {c3 : Nat} (l3 : x.f3.length ≤ c3) (g3 : (Kd.int .u8).C w A3 x.f3.length x.f3) : k49.K w x [.int .i64 x.f0, .int .i64 x.f1, .slice A2 x.f2.length c2, .slice A3 x.f3.length c3] := ⟨[.int .i64 x.f0], [.int .i64 x.f1, .slice A2 x.f2.length c2, .slice A3 x.f3.length c3], rfl, rfl, ⟨[.int .i64 x.f1], [.slice A2 x.f2.length c2, .slice A3 x.f3.length c3], rfl, rfl, ⟨[.slice A2 x.f2.length c2], [.slice A3 x.f3.length c3], rfl, ⟨A2, c2, rfl, l2, g2⟩, ⟨A3, c3, rfl, l3, g3⟩⟩⟩⟩
theorem k49_mkM (w : World) (base : Nat) (ok : Nat → Prop) (x : S49) {v2 : Value} (g2 : (Kd.int .u8).R 5 w base ok v2 x.f2) {v3 : Value} (g3 : (Kd.int .u8).R 5 w base ok v3 x.f3) : k49.M w base ok x [.int .i64 x.f0, .int .i64 x.f1, v2, v3] := ⟨[.int .i64 x.f0], [.int .i64 x.f1, v2, v3], rfl, rfl, ⟨[.int .i64 x.f1], [v2, v3], rfl, rfl, ⟨[v2], [v3], rfl, ⟨v2, rfl, g2⟩, ⟨v3, rfl, g3⟩⟩⟩⟩
theorem k49_openF {W : World} {ok : Nat → Prop} {x : S49} {cs : List Value} (h : Kd.FK k49 W ok x cs) : ∃ A2 c2 A3 c3, cs = [.int .i64 x.f0, .int .i64 x.f1, .slice A2 x.f2.length c2, .slice A3 x.f3.length c3] ∧ x.f2.length ≤ c2 ∧ Kd.F (Kd.int .u8) W ok A2 x.f2.length x.f2 ∧ x.f3.length ≤ c3 ∧ Kd.F (Kd.int .u8) W ok A3 x.f3.length x.f3 := by
  obtain ⟨A2, c2, A3, c3, rfl, l2, _, l3, _⟩ := k49_open (Kd.FK_now h)
  exact ⟨A2, c2, A3, c3, rfl, l2, (fun W' hW => by obtain ⟨A2_, c2_, A3_, c3_, he, l2_, g2_, l3_, g3_⟩ := k49_open (h W' hW); injection (Option.some.inj (show some (Value.slice A2 x.f2.length c2) = some (Value.slice A2_ x.f2.length c2_) from congrArg (fun l => l[2]?) he)) with ha_ _ _; rw [ha_]; exact g2_), l3, (fun W' hW => by obtain ⟨A2_, c2_, A3_, c3_, he, l2_, g2_, l3_, g3_⟩ := k49_open (h W' hW); injection (Option.some.inj (show some (Value.slice A3 x.f3.length c3) = some (Value.slice A3_ x.f3.length c3_) from congrArg (fun l => l[3]?) he)) with ha_ _ _; rw [ha_]; exact g3_)⟩
theorem k49_mkF (W : World) (ok : Nat → Prop) (x : S49) {A2 : Option Addr} {c2 : Nat} (l2 : x.f2.length ≤ c2) (g2 : Kd.F (Kd.int .u8) W ok A2 x.f2.length x.f2) {A3 : Option Addr} {c3 : Nat} (l3 : x.f3.length ≤ c3) (g3 : Kd.F (Kd.int .u8) W ok A3 x.f3.length x.f3) : Kd.FK k49 W ok x [.int .i64 x.f0, .int .i64 x.f1, .slice A2 x.f2.length c2, .slice A3 x.f3.length c3] := fun W2 hW => k49_mk W2 x l2 (g2 W2 hW) l3 (g3 W2 hW)
def rd_T49 (xs : List S49) (i : Int) : S49 := xs.getD i.toNat z49
theorem at_T49 {w : World} {A : Option Addr} {n : Nat} {xs : List S49} (h : Kd.C k49 w A n xs) (i : Int) (h0 : 0 ≤ i) (h1 : i < n) : ∃ ad A2 c2 A3 c3, A = some ad ∧ w.cell? (ad.add (i.toNat * 4)) = some (.int .i64 (rd_T49 xs i).f0) ∧ w.cell? ⟨(ad.add (i.toNat * 4)).block, (ad.add (i.toNat * 4)).off + 1, none⟩ = some (.int .i64 (rd_T49 xs i).f1) ∧ w.cell? ⟨(ad.add (i.toNat * 4)).block, (ad.add (i.toNat * 4)).off + 2, none⟩ = some (.slice A2 (rd_T49 xs i).f2.length c2) ∧ w.cell? ⟨(ad.add (i.toNat * 4)).block, (ad.add (i.toNat * 4)).off + 3, none⟩ = some (.slice A3 (rd_T49 xs i).f3.length c3) ∧ (rd_T49 xs i).f2.length ≤ c2 ∧ (Kd.int .u8).C w A2 (rd_T49 xs i).f2.length (rd_T49 xs i).f2 ∧ (rd_T49 xs i).f3.length ≤ c3 ∧ (Kd.int .u8).C w A3 (rd_T49 xs i).f3.length (rd_T49 xs i).f3 := by
  obtain ⟨ad, c, e, _, hK, hc0⟩ := Kd.C_get h z49 i h0 h1
  have hc : ∀ j u, c[j]? = some u → w.cell? (ad.add (i.toNat * 4 + j)) = some u := hc0
  obtain ⟨A2, c2, A3, c3, rfl, l2, g2, l3, g3⟩ := k49_open hK
  exact ⟨ad, A2, c2, A3, c3, e, hc 0 _ rfl, by rw [← add_field _ _ 1 (by omega)]; exact hc 1 _ rfl, by rw [← add_field _ _ 2 (by omega)]; exact hc 2 _ rfl, by rw [← add_field _ _ 3 (by omega)]; exact hc 3 _ rfl, l2, g2, l3, g3⟩


end Go.Proofs.Ytophfoenaekfjaa

namespace Go.Proofs.Ytophfoenaekfjaa
open Go.RowKit Go.Proofs.YtophfoenaekfjaaW.PrintWords Go.Proofs.YtophfoenaekfjaaW.PrintLast Go.Proofs.YtophfoenaekfjaaW.PrintMore Go.Proofs.Ytophfoenaekfjaa.PSnapEncodes
set_option linter.unusedVariables false
set_option linter.unusedSimpArgs false
/-- A slice of bytes as it reads. -/
abbrev By := List Int
def sb (l : List Int) : List UInt8 := l.map fun n => UInt8.ofNat n.toNat
def cmpB (a b : List Int) : Int := Lib.compareBytes (sb a) (sb b)
theorem bytesOf_C {w : World} {A : Option Addr} {c : Nat} {l : List Int} (h : Kd.C (Kd.int .u8) w A l.length l) :
    (Extern.Bytes.bytesOf (.slice A l.length c)).run Try.prog w = .ok ⟨(sb l).toArray⟩ w := by
  cases A with
  | none =>
    have : l = [] := by
      rcases Nat.eq_zero_or_pos l.length with h0 | h0
      · exact List.eq_nil_of_length_eq_zero h0
      · obtain ⟨ad, e, _⟩ := h.2.2 h0
        cases e
    subst this
    rfl
  | some a =>
    have hl := Lib.run_loadBytesX (P := Try.prog) w l a .empty (fun j x hj => by
      have hjl : j < l.length := (List.getElem?_eq_some_iff.1 hj).1
      obtain ⟨ad, e, hc⟩ := h.2.2 (by omega)
      cases e
      obtain ⟨c, hlen, hk, hcell⟩ := hc j x hj
      have := hcell 0 (.int .u8 x) (by rw [show c = [.int .u8 x] from hk]; rfl)
      simpa [Kd.int, Kd.scalar] using this)
    show (Extern.Bytes.loadBytes a l.length .empty).run Try.prog w = _
    rw [hl]
    congr 1
    apply ByteArray.ext
    show (#[] : Array UInt8) ++ _ = _
    simp [sb, Lib.bytesOf]
theorem run_cmp {w : World} {A0 A1 : Option Addr} {c0 c1 : Nat} {l0 l1 : List Int} (h0 : Kd.C (Kd.int .u8) w A0 l0.length l0) (h1 : Kd.C (Kd.int .u8) w A1 l1.length l1) :
    (Extern.BytealgCompare.compare #[.slice A0 l0.length c0, .slice A1 l1.length c1]).run Try.prog w = .ok (.int .i64 (cmpB l0 l1)) w := by
  change Sem.run Try.prog (do pure (goInt (Extern.BytealgCompare.cmp (← Extern.Bytes.bytesOf (.slice A0 l0.length c0)) (← Extern.Bytes.bytesOf (.slice A1 l1.length c1))))) w = _
  simp only [Sem.run_bind, bytesOf_C h0, bytesOf_C h1, Sem.run_pure, Result.andThen]
  rw [Lib.cmp_eq]
  rfl
set_option maxHeartbeats 1000000 in
set_option maxRecDepth 100000 in
theorem bytes_Compare (A0 A1 : Option Addr) (c0 c1 : Nat) (l0 l1 : List Int) (w : World) (h0 : Kd.C (Kd.int .u8) w A0 l0.length l0) (h1 : Kd.C (Kd.int .u8) w A1 l1.length l1) :
    Calls Try.prog 96 #[.slice A0 l0.length c0, .slice A1 l1.length c1] w fun e w' => e = .returned (.int .i64 (cmpB l0 l1)) ∧ Drawn0 w w' := by
  have hc := run_cmp (c0 := c0) (c1 := c1) h0 h1
  go_enter Try.func96, Try.ntmps96
  go_wp2
  rw [run_callFunc_extern Try.func126 (by kernel_rfl) (by kernel_rfl) (by kernel_rfl) (e := Extern.BytealgCompare.compare) (by kernel_rfl), hc]
  simp only [Result.andThen]
  rw [Oper.upon_value]
  go_wp2
  go_ret
  exact ⟨rfl, Drawn0.refl _⟩
end Go.Proofs.Ytophfoenaekfjaa

namespace Go.Proofs.Ytophfoenaekfjaa
open Go.RowKit Go.Proofs.YtophfoenaekfjaaW.PrintWords Go.Proofs.YtophfoenaekfjaaW.PrintLast Go.Proofs.YtophfoenaekfjaaW.PrintMore Go.Proofs.Ytophfoenaekfjaa.PSnapEncodes
set_option linter.unusedVariables false
set_option linter.unusedSimpArgs false

theorem quiet_of_drawn {P : Program} {f : FuncId} {args : Array Value} {w : World} {n : Nat} {v : Value} (h : Calls P f args (w.drewN n) fun e w' => e = .returned v ∧ Drawn0 (w.drewN n) w') :
    Calls P f args (w.drewN n) fun e w'' => e = .returned v ∧ ∃ m, w'' = w.drewN m :=
  h.mono fun _ _ ⟨he, ⟨m, hm⟩⟩ => ⟨he, n + m, by rw [hm, World.drewN_drewN]⟩
/-- A call that answers a bool and makes new memory at most. -/
def PostB (w : World) (Q : Bool → Prop) (e : Ending) (w' : World) : Prop := ∃ b, e = .returned (.bool b) ∧ Below w.heap.size w w' ∧ Q b
def clientB (n : Int) : Bool := decide (1 ≤ n) && decide (n ≤ 4)
theorem clientB_iff {n : Int} : clientB n = true ↔ 1 ≤ n ∧ n ≤ 4 := by simp [clientB]
def stampB (n : Int) : Bool := decide (1 ≤ n) && decide (n ≤ 2147483647)
theorem stampB_iff {n : Int} : stampB n = true ↔ 1 ≤ n ∧ n ≤ 2147483647 := by simp [stampB]
set_option maxHeartbeats 4000000 in
set_option maxRecDepth 100000 in
theorem lease_client (n : Int) (w : World) :
    Calls Try.prog 103 #[.int .i64 n] w fun e w' => e = .returned (.bool (clientB n)) ∧ Drawn0 w w' := by
  by_cases h1 : 1 ≤ n
  · by_cases h2 : n ≤ 4
    · have H := Aside0.mk (show clientB n = true from clientB_iff.2 ⟨h1, h2⟩)
      go_enter Try.func103, Try.ntmps103
      go_wp2
      go_ret
      exact ⟨by rw [H.out]; rfl, Drawn0.refl _⟩
    · have H := Aside0.mk (show clientB n = false by rw [← Bool.not_eq_true, clientB_iff]; omega)
      go_enter Try.func103, Try.ntmps103
      go_wp2
      go_ret
      exact ⟨by rw [H.out]; rfl, Drawn0.refl _⟩
  · have H := Aside0.mk (show clientB n = false by rw [← Bool.not_eq_true, clientB_iff]; omega)
    go_enter Try.func103, Try.ntmps103
    go_wp2
    go_ret
    exact ⟨by rw [H.out]; rfl, Drawn0.refl _⟩
set_option maxHeartbeats 4000000 in
set_option maxRecDepth 100000 in
theorem session_client (n : Int) (w : World) :
    Calls Try.prog 83 #[.int .i64 n] w fun e w' => e = .returned (.bool (clientB n)) ∧ Drawn0 w w' := by
  by_cases h1 : 1 ≤ n
  · by_cases h2 : n ≤ 4
    · have H := Aside0.mk (show clientB n = true from clientB_iff.2 ⟨h1, h2⟩)
      go_enter Try.func83, Try.ntmps83
      go_wp2
      go_ret
      exact ⟨by rw [H.out]; rfl, Drawn0.refl _⟩
    · have H := Aside0.mk (show clientB n = false by rw [← Bool.not_eq_true, clientB_iff]; omega)
      go_enter Try.func83, Try.ntmps83
      go_wp2
      go_ret
      exact ⟨by rw [H.out]; rfl, Drawn0.refl _⟩
  · have H := Aside0.mk (show clientB n = false by rw [← Bool.not_eq_true, clientB_iff]; omega)
    go_enter Try.func83, Try.ntmps83
    go_wp2
    go_ret
    exact ⟨by rw [H.out]; rfl, Drawn0.refl _⟩
set_option maxHeartbeats 4000000 in
set_option maxRecDepth 100000 in
theorem session_stamp (n : Int) (w : World) :
    Calls Try.prog 84 #[.int .i64 n] w fun e w' => e = .returned (.bool (stampB n)) ∧ Drawn0 w w' := by
  by_cases h1 : 1 ≤ n
  · by_cases h2 : n ≤ 2147483647
    · have H := Aside0.mk (show stampB n = true from stampB_iff.2 ⟨h1, h2⟩)
      go_enter Try.func84, Try.ntmps84
      go_wp2
      go_ret
      exact ⟨by rw [H.out]; rfl, Drawn0.refl _⟩
    · have H := Aside0.mk (show stampB n = false by rw [← Bool.not_eq_true, stampB_iff]; omega)
      go_enter Try.func84, Try.ntmps84
      go_wp2
      go_ret
      exact ⟨by rw [H.out]; rfl, Drawn0.refl _⟩
  · have H := Aside0.mk (show stampB n = false by rw [← Bool.not_eq_true, stampB_iff]; omega)
    go_enter Try.func84, Try.ntmps84
    go_wp2
    go_ret
    exact ⟨by rw [H.out]; rfl, Drawn0.refl _⟩

/-- Is a text ahead of another, by their bytes? -/
def lessB (a b : List Int) : Bool := Op.bytesLess (sb a) (sb b)
theorem cmpL_less : ∀ a b : List UInt8, (Lib.compareBytes a b ≤ 0) ↔ Op.bytesLess b a = false
  | [], [] => by simp [Lib.compareBytes, Op.bytesLess]
  | [], _ :: _ => by simp [Lib.compareBytes, Op.bytesLess]
  | _ :: _, [] => by simp [Lib.compareBytes, Op.bytesLess]
  | a :: l1, b :: l2 => by
    have ih := cmpL_less l1 l2
    simp only [Lib.compareBytes, Op.bytesLess]
    by_cases h1 : a < b
    · have h3 : ¬ b = a := fun e => by rw [e] at h1; exact UInt8.lt_irrefl _ h1
      simp [h1, UInt8.lt_asymm h1, h3]
    · by_cases h2 : b < a
      · simp [h1, h2]
      · have h3 : b = a := UInt8.le_antisymm (UInt8.not_lt.1 h1) (UInt8.not_lt.1 h2)
        simp only [h1, h2, if_false]
        simp [h3, ih]
theorem cmp_less {a b : List Int} : (cmpB a b ≤ 0) ↔ lessB b a = false := cmpL_less _ _
theorem strOf_less (a b : List Int) : Op.bytesLess (strOfNums a).toList (strOfNums b).toList = lessB a b := by
  simp [lessB, sb, strOfNums]
theorem strOf_eq (a b : List Int) : ((strOfNums a).toList == (strOfNums b).toList) = (sb a == sb b) := by
  simp [sb, strOfNums]
set_option maxHeartbeats 4000000 in
set_option maxRecDepth 100000 in
theorem ref07_Less (A0 A1 : Option Addr) (c0 c1 : Nat) (l0 l1 : List Int) (w : World) (h0 : Kd.C (Kd.int .u8) w A0 l0.length l0) (h1 : Kd.C (Kd.int .u8) w A1 l1.length l1) :
    Calls Try.prog 102 #[.slice A0 l0.length c0, .slice A1 l1.length c1] w fun e w' => e = .returned (.bool (lessB l0 l1)) ∧ Drawn0 w w' := by
  have hcv3 := Kd.C_string (P := Try.prog) (A := A0) (c := c0) Try.underlying29 Try.underlying5 Try.underlying9 h0
  have hcv4 := Kd.C_string (P := Try.prog) (A := A1) (c := c1) Try.underlying29 Try.underlying5 Try.underlying9 h1
  clear h0 h1
  have H := Aside0.mk (strOf_less l0 l1)
  go_enter Try.func102, Try.ntmps102
  go_wp2
  go_ret
  exact ⟨by rw [← H.out]; rfl, Drawn0.refl _⟩
def sameB (a b : List Int) : Bool := sb a == sb b
set_option maxHeartbeats 4000000 in
set_option maxRecDepth 100000 in
theorem ref01_Same (A0 A1 : Option Addr) (c0 c1 : Nat) (l0 l1 : List Int) (w : World) (h0 : Kd.C (Kd.int .u8) w A0 l0.length l0) (h1 : Kd.C (Kd.int .u8) w A1 l1.length l1) :
    Calls Try.prog 22 #[.slice A0 l0.length c0, .slice A1 l1.length c1] w fun e w' => e = .returned (.bool (sameB l0 l1)) ∧ Drawn0 w w' := by
  have hcv3 := Kd.C_string (P := Try.prog) (A := A0) (c := c0) Try.underlying29 Try.underlying5 Try.underlying9 h0
  have hcv4 := Kd.C_string (P := Try.prog) (A := A1) (c := c1) Try.underlying29 Try.underlying5 Try.underlying9 h1
  clear h0 h1
  have H := Aside0.mk (strOf_eq l0 l1)
  go_enter Try.func22, Try.ntmps22
  go_wp2
  go_ret
  exact ⟨by rw [sameB, ← H.out]; rfl, Drawn0.refl _⟩
set_option maxHeartbeats 4000000 in
set_option maxRecDepth 100000 in
theorem bytes_Equal (A0 A1 : Option Addr) (c0 c1 : Nat) (l0 l1 : List Int) (w : World) (h0 : Kd.C (Kd.int .u8) w A0 l0.length l0) (h1 : Kd.C (Kd.int .u8) w A1 l1.length l1) :
    Calls Try.prog 78 #[.slice A0 l0.length c0, .slice A1 l1.length c1] w fun e w' => e = .returned (.bool (sameB l0 l1)) ∧ Drawn0 w w' := by
  have hcv3 := Kd.C_string (P := Try.prog) (A := A0) (c := c0) Try.underlying29 Try.underlying5 Try.underlying9 h0
  have hcv4 := Kd.C_string (P := Try.prog) (A := A1) (c := c1) Try.underlying29 Try.underlying5 Try.underlying9 h1
  clear h0 h1
  have H := Aside0.mk (strOf_eq l0 l1)
  go_enter Try.func78, Try.ntmps78
  go_wp2
  go_ret
  exact ⟨by rw [sameB, ← H.out]; rfl, Drawn0.refl _⟩

structure goodE1 (l : List S72) (x : Int) : Prop where
  num : 1 ≤ (rd_T72 l x).f0.length ∧ (rd_T72 l x).f0.length ≤ 16 ∧ (rd_T72 l x).f1.length ≤ 64
  prev : 0 < x → lessB (rd_T72 l (x - 1)).f0 (rd_T72 l x).f0 = true
/-- Right entries. -/
def goodE (l : List S72) : Prop := l.length ≤ 64 ∧ ∀ x : Int, 0 ≤ x → x < l.length → goodE1 l x
structure goodL1 (l : List S87) (x : Int) : Prop where
  num : (1 ≤ (rd_T87 l x).f0.length ∧ (rd_T87 l x).f0.length ≤ 16) ∧ (1 ≤ (rd_T87 l x).f1 ∧ (rd_T87 l x).f1 ≤ 4) ∧ 1 ≤ (rd_T87 l x).f2 ∧ (rd_T87 l x).f2 ≤ 2147483647
  prev : 0 < x → lessB (rd_T87 l (x - 1)).f0 (rd_T87 l x).f0 = true
/-- Right leases. -/
def goodL (l : List S87) : Prop := l.length ≤ 16 ∧ ∀ x : Int, 0 ≤ x → x < l.length → goodL1 l x

end Go.Proofs.Ytophfoenaekfjaa

namespace Go.Proofs.Ytophfoenaekfjaa
open Go.RowKit Go.Proofs.YtophfoenaekfjaaW.PrintWords Go.Proofs.YtophfoenaekfjaaW.PrintLast Go.Proofs.YtophfoenaekfjaaW.PrintMore Go.Proofs.Ytophfoenaekfjaa.PSnapEncodes
set_option linter.unusedVariables false
set_option linter.unusedSimpArgs false
set_option maxHeartbeats 4000000 in
set_option maxRecDepth 100000 in
theorem kv_Right (A0 : Option Addr) (c0 : Nat) (l : List S72) (w : World) (hr0 : Kd.C k72 w A0 l.length l) (hc0 : l.length ≤ c0) :
    Calls Try.prog 41 #[.slice A0 l.length c0] w (PostB w fun b => (b = true ↔ goodE l)) := by
  have hlen := hr0.2.1
  have HR0 := Aside0.mk hr0
  clear hr0
  go_enter Try.func41, Try.ntmps41
  go_wp2
  go_loopw [7] (fun v wr => ∃ x : Int, v = .int .i64 x ∧ 0 ≤ x ∧ x ≤ l.length ∧ Aside0 (Below w.heap.size w wr) ∧ Aside0 (∀ j, 0 ≤ j → j < x → goodE1 l j)) (fun v _ => l.length - (intOf v).toNat)
  case atStart => exact ⟨0, rfl, by omega, by omega, ⟨Below.refl _ _⟩, ⟨fun j h1 => by omega⟩⟩
  case round =>
    obtain ⟨x, rfl, h0, hi, HB, HA⟩ := hrel
    by_cases hlt : x < l.length
    · obtain ⟨ad, A, c, A2, c2, e1, hx0, hx1, hl, hn, hl2, hn2⟩ := at_T72 (Kd.C_below HR0.out HB.out) x (by omega) (by omega)
      subst e1
      have HN := Aside0.mk hn
      clear hn
      have HN2 := Aside0.mk hn2
      clear hn2
      cases hq0 : decide (((rd_T72 l x).f0.length : Int) < 1) with
      | true =>
        go_wp2_with fail
        go_quiet (first | (go_at_call 96; exact quiet_of_drawn (bytes_Compare _ _ _ _ _ _ _ (Kd.C_drewN (Kd.C_alloc HN.out _) _) (Kd.C_drewN (Kd.C_alloc HN'.out _) _))))
        go_wp2
        go_ret
        exact ⟨false, rfl, (by repeat (first | exact HB.out | apply below_alloc | apply pw_below_drewN)), iff_of_false (by simp) (fun h => by have e := h.2 x h0 hlt; exact absurd (of_decide_eq_true hq0) (by have := e.num; omega))⟩
      | false =>
        cases hq1 : decide ((16 : Int) < ((rd_T72 l x).f0.length : Int)) with
        | true =>
          go_wp2_with fail
          go_quiet (first | (go_at_call 96; exact quiet_of_drawn (bytes_Compare _ _ _ _ _ _ _ (Kd.C_drewN (Kd.C_alloc HN.out _) _) (Kd.C_drewN (Kd.C_alloc HN'.out _) _))))
          go_wp2
          go_ret
          exact ⟨false, rfl, (by repeat (first | exact HB.out | apply below_alloc | apply pw_below_drewN)), iff_of_false (by simp) (fun h => by have e := h.2 x h0 hlt; exact absurd (of_decide_eq_true hq1) (by have := e.num; omega))⟩
        | false =>
          cases hq2 : decide ((64 : Int) < ((rd_T72 l x).f1.length : Int)) with
          | true =>
            go_wp2_with fail
            go_quiet (first | (go_at_call 96; exact quiet_of_drawn (bytes_Compare _ _ _ _ _ _ _ (Kd.C_drewN (Kd.C_alloc HN.out _) _) (Kd.C_drewN (Kd.C_alloc HN'.out _) _))))
            go_wp2
            go_ret
            exact ⟨false, rfl, (by repeat (first | exact HB.out | apply below_alloc | apply pw_below_drewN)), iff_of_false (by simp) (fun h => by have e := h.2 x h0 hlt; exact absurd (of_decide_eq_true hq2) (by have := e.num; omega))⟩
          | false =>
            cases hq3 : decide (0 < x) with
            | true =>
              obtain ⟨j, hj⟩ : ∃ j : Int, IntKind.i64.wrap (x - 1) = j := ⟨_, rfl⟩
              have HJ := Aside0.mk (show j = x - 1 by rw [← hj]; exact IntWalk.i64_in _ (by omega))
              have hx1' : 0 < x := of_decide_eq_true hq3
              have hx3 : 0 ≤ j := by rw [HJ.out]; omega
              have hx2' : j < l.length := by rw [HJ.out]; omega
              obtain ⟨ad', A', c', A2', c2', e2, hy0, hy1, hl', hn', hl2', hn2'⟩ := at_T72 (Kd.C_below HR0.out HB.out) j hx3 hx2'
              cases e2
              have HN' := Aside0.mk hn'
              replace hy0 := pw_cell_below (below_alloc (Below.refl _ wr) (.cells #[.slice A (rd_T72 l x).f0.length c, .slice A2 (rd_T72 l x).f1.length c2] 72)) hy0
              clear hn' hy1 hn2'
              clear hx1'
              cases hq4 : decide (cmpB (rd_T72 l x).f0 (rd_T72 l j).f0 ≤ 0) with
              | true =>
                go_wp2_with fail
                go_quiet (first | (go_at_call 96; exact quiet_of_drawn (bytes_Compare _ _ _ _ _ _ _ (Kd.C_drewN (Kd.C_alloc HN.out _) _) (Kd.C_drewN (Kd.C_alloc HN'.out _) _))))
                go_wp2
                go_ret
                exact ⟨false, rfl, (by repeat (first | exact HB.out | apply below_alloc | apply pw_below_drewN)), iff_of_false (by simp) (fun h => by have e := (h.2 x h0 hlt).prev (of_decide_eq_true hq3); rw [← HJ.out] at e; rw [cmp_less.1 (of_decide_eq_true hq4)] at e; cases e)⟩
              | false =>
                go_wp2_with fail
                go_quiet (first | (go_at_call 96; exact quiet_of_drawn (bytes_Compare _ _ _ _ _ _ _ (Kd.C_drewN (Kd.C_alloc HN.out _) _) (Kd.C_drewN (Kd.C_alloc HN'.out _) _))))
                go_wp2
                go_roundw
                case rel =>
                  have hg : goodE1 l x := by
                    have z0 := of_decide_eq_false hq0
                    have z1 := of_decide_eq_false hq1
                    have z2 := of_decide_eq_false hq2
                    exact ⟨by omega, fun e => by rw [← HJ.out]; rw [← Bool.not_eq_false]; exact fun h => of_decide_eq_false hq4 (cmp_less.2 h)⟩
                  exact ⟨x + 1, by go_num, by omega, by omega, ⟨by repeat (first | exact HB.out | apply below_alloc | apply pw_below_drewN)⟩, ⟨fun j h1 h2 => if e : j = x then by rw [e]; exact hg else HA.out j h1 (by omega)⟩⟩
                case measure => simp [intOf]; omega
            | false =>
              go_wp2_with fail
              go_quiet (first | (go_at_call 96; exact quiet_of_drawn (bytes_Compare _ _ _ _ _ _ _ (Kd.C_drewN (Kd.C_alloc HN.out _) _) (Kd.C_drewN (Kd.C_alloc HN'.out _) _))))
              go_wp2
              go_roundw
              case rel =>
                have hg : goodE1 l x := by
                  have z0 := of_decide_eq_false hq0
                  have z1 := of_decide_eq_false hq1
                  have z2 := of_decide_eq_false hq2
                  exact ⟨by omega, fun e => absurd e (of_decide_eq_false hq3)⟩
                exact ⟨x + 1, by go_num, by omega, by omega, ⟨by repeat (first | exact HB.out | apply below_alloc | apply pw_below_drewN)⟩, ⟨fun j h1 h2 => if e : j = x then by rw [e]; exact hg else HA.out j h1 (by omega)⟩⟩
              case measure => simp [intOf]; omega
    · go_wp2
      go_ret
      exact ⟨decide ((l.length : Int) ≤ 64), rfl, HB.out, by show decide _ = true ↔ _; rw [decide_eq_true_eq]; exact ⟨fun h => ⟨by omega, fun y h1 h2 => HA.out y h1 (by omega)⟩, fun h => by have := h.1; omega⟩⟩
set_option maxHeartbeats 4000000 in
set_option maxRecDepth 100000 in
theorem ref07_Right (A0 : Option Addr) (c0 : Nat) (l : List S72) (w : World) (hr0 : Kd.C k72 w A0 l.length l) (hc0 : l.length ≤ c0) :
    Calls Try.prog 42 #[.slice A0 l.length c0] w (PostB w fun b => (b = true ↔ goodE l)) := by
  have hlen := hr0.2.1
  have HR0 := Aside0.mk hr0
  clear hr0
  cases hh : decide ((64 : Int) < (l.length : Int)) with
  | true =>
    go_enter Try.func42, Try.ntmps42
    go_wp2
    go_ret
    exact ⟨false, rfl, Below.refl _ _, iff_of_false (by simp) (fun h => by have := of_decide_eq_true hh; have := h.1; omega)⟩
  | false =>
    have hle : l.length ≤ 64 := by have := of_decide_eq_false hh; omega
    go_enter Try.func42, Try.ntmps42
    go_wp2
    go_loopw [10] (fun v wr => ∃ x : Int, v = .int .i64 x ∧ 0 ≤ x ∧ x ≤ l.length ∧ Aside0 (Below w.heap.size w wr) ∧ Aside0 (∀ j, 0 ≤ j → j < x → goodE1 l j)) (fun v _ => l.length - (intOf v).toNat)
    case atStart => exact ⟨0, rfl, by omega, by omega, ⟨Below.refl _ _⟩, ⟨fun j h1 => by omega⟩⟩
    case round =>
      obtain ⟨x, rfl, h0, hi, HB, HA⟩ := hrel
      by_cases hlt : x < l.length
      · obtain ⟨ad, A, c, A2, c2, e1, hx0, hx1, hl, hn, hl2, hn2⟩ := at_T72 (Kd.C_below HR0.out HB.out) x (by omega) (by omega)
        subst e1
        have HN := Aside0.mk hn
        clear hn
        have HN2 := Aside0.mk hn2
        clear hn2
        cases hq0 : (((rd_T72 l x).f0.length : Int)) == 0 with
        | true =>
          go_wp2_with fail
          go_quiet (first | (go_at_call 102; exact quiet_of_drawn (ref07_Less _ _ _ _ _ _ _ (Kd.C_drewN (Kd.C_alloc HN'.out _) _) (Kd.C_drewN (Kd.C_alloc HN.out _) _))))
          go_wp2
          go_ret
          exact ⟨false, rfl, (by repeat (first | exact HB.out | apply below_alloc | apply pw_below_drewN)), iff_of_false (by simp) (fun h => by have e := h.2 x h0 hlt; exact absurd (eq_of_beq hq0) (by have := e.num; omega))⟩
        | false =>
          cases hq1 : decide ((16 : Int) < ((rd_T72 l x).f0.length : Int)) with
          | true =>
            go_wp2_with fail
            go_quiet (first | (go_at_call 102; exact quiet_of_drawn (ref07_Less _ _ _ _ _ _ _ (Kd.C_drewN (Kd.C_alloc HN'.out _) _) (Kd.C_drewN (Kd.C_alloc HN.out _) _))))
            go_wp2
            go_ret
            exact ⟨false, rfl, (by repeat (first | exact HB.out | apply below_alloc | apply pw_below_drewN)), iff_of_false (by simp) (fun h => by have e := h.2 x h0 hlt; exact absurd (of_decide_eq_true hq1) (by have := e.num; omega))⟩
          | false =>
            cases hq2 : decide ((64 : Int) < ((rd_T72 l x).f1.length : Int)) with
            | true =>
              go_wp2_with fail
              go_quiet (first | (go_at_call 102; exact quiet_of_drawn (ref07_Less _ _ _ _ _ _ _ (Kd.C_drewN (Kd.C_alloc HN'.out _) _) (Kd.C_drewN (Kd.C_alloc HN.out _) _))))
              go_wp2
              go_ret
              exact ⟨false, rfl, (by repeat (first | exact HB.out | apply below_alloc | apply pw_below_drewN)), iff_of_false (by simp) (fun h => by have e := h.2 x h0 hlt; exact absurd (of_decide_eq_true hq2) (by have := e.num; omega))⟩
            | false =>
              cases hq3 : decide (0 < x) with
              | true =>
                obtain ⟨j, hj⟩ : ∃ j : Int, IntKind.i64.wrap (x - 1) = j := ⟨_, rfl⟩
                have HJ := Aside0.mk (show j = x - 1 by rw [← hj]; exact IntWalk.i64_in _ (by omega))
                have hx1' : 0 < x := of_decide_eq_true hq3
                have hx3 : 0 ≤ j := by rw [HJ.out]; omega
                have hx2' : j < l.length := by rw [HJ.out]; omega
                obtain ⟨ad', A', c', A2', c2', e2, hy0, hy1, hl', hn', hl2', hn2'⟩ := at_T72 (Kd.C_below HR0.out HB.out) j hx3 hx2'
                cases e2
                have HN' := Aside0.mk hn'
                replace hy0 := pw_cell_below (below_alloc (Below.refl _ wr) (.cells #[.slice A (rd_T72 l x).f0.length c, .slice A2 (rd_T72 l x).f1.length c2] 72)) hy0
                clear hn' hy1 hn2'
                clear hx1'
                cases hq4 : lessB (rd_T72 l j).f0 (rd_T72 l x).f0 with
                | false =>
                  go_wp2_with fail
                  go_quiet (first | (go_at_call 102; exact quiet_of_drawn (ref07_Less _ _ _ _ _ _ _ (Kd.C_drewN (Kd.C_alloc HN'.out _) _) (Kd.C_drewN (Kd.C_alloc HN.out _) _))))
                  go_wp2
                  go_ret
                  exact ⟨false, rfl, (by repeat (first | exact HB.out | apply below_alloc | apply pw_below_drewN)), iff_of_false (by simp) (fun h => by have e := (h.2 x h0 hlt).prev (of_decide_eq_true hq3); rw [← HJ.out] at e; rw [hq4] at e; cases e)⟩
                | true =>
                  go_wp2_with fail
                  go_quiet (first | (go_at_call 102; exact quiet_of_drawn (ref07_Less _ _ _ _ _ _ _ (Kd.C_drewN (Kd.C_alloc HN'.out _) _) (Kd.C_drewN (Kd.C_alloc HN.out _) _))))
                  go_wp2
                  go_roundw
                  case rel =>
                    have hg : goodE1 l x := by
                      have z0 := ne_of_beq_false hq0
                      have z1 := of_decide_eq_false hq1
                      have z2 := of_decide_eq_false hq2
                      exact ⟨by omega, fun e => by rw [← HJ.out]; exact hq4⟩
                    exact ⟨x + 1, by go_num, by omega, by omega, ⟨by repeat (first | exact HB.out | apply below_alloc | apply pw_below_drewN)⟩, ⟨fun j h1 h2 => if e : j = x then by rw [e]; exact hg else HA.out j h1 (by omega)⟩⟩
                  case measure => simp [intOf]; omega
              | false =>
                go_wp2_with fail
                go_quiet (first | (go_at_call 102; exact quiet_of_drawn (ref07_Less _ _ _ _ _ _ _ (Kd.C_drewN (Kd.C_alloc HN'.out _) _) (Kd.C_drewN (Kd.C_alloc HN.out _) _))))
                go_wp2
                go_roundw
                case rel =>
                  have hg : goodE1 l x := by
                    have z0 := ne_of_beq_false hq0
                    have z1 := of_decide_eq_false hq1
                    have z2 := of_decide_eq_false hq2
                    exact ⟨by omega, fun e => absurd e (of_decide_eq_false hq3)⟩
                  exact ⟨x + 1, by go_num, by omega, by omega, ⟨by repeat (first | exact HB.out | apply below_alloc | apply pw_below_drewN)⟩, ⟨fun j h1 h2 => if e : j = x then by rw [e]; exact hg else HA.out j h1 (by omega)⟩⟩
                case measure => simp [intOf]; omega
      · go_wp2
        go_ret
        exact ⟨true, rfl, HB.out, iff_of_true rfl ⟨by omega, fun y h1 h2 => HA.out y h1 (by omega)⟩⟩

end Go.Proofs.Ytophfoenaekfjaa

namespace Go.Proofs.Ytophfoenaekfjaa
open Go.RowKit Go.Proofs.YtophfoenaekfjaaW.PrintWords Go.Proofs.YtophfoenaekfjaaW.PrintLast Go.Proofs.YtophfoenaekfjaaW.PrintMore Go.Proofs.Ytophfoenaekfjaa.PSnapEncodes
set_option linter.unusedVariables false
set_option linter.unusedSimpArgs false
set_option maxHeartbeats 4000000 in
set_option maxRecDepth 100000 in
theorem lease_Right (A0 : Option Addr) (c0 : Nat) (l : List S87) (w : World) (hr0 : Kd.C k87 w A0 l.length l) (hc0 : l.length ≤ c0) :
    Calls Try.prog 53 #[.slice A0 l.length c0] w (PostB w fun b => (b = true ↔ goodL l)) := by
  have hlen := hr0.2.1
  have HR0 := Aside0.mk hr0
  clear hr0
  go_enter Try.func53, Try.ntmps53
  go_wp2
  go_loopw [7] (fun v wr => ∃ x : Int, v = .int .i64 x ∧ 0 ≤ x ∧ x ≤ l.length ∧ Aside0 (Below w.heap.size w wr) ∧ Aside0 (∀ j, 0 ≤ j → j < x → goodL1 l j)) (fun v _ => l.length - (intOf v).toNat)
  case atStart => exact ⟨0, rfl, by omega, by omega, ⟨Below.refl _ _⟩, ⟨fun j h1 => by omega⟩⟩
  case round =>
    obtain ⟨x, rfl, h0, hi, HB, HA⟩ := hrel
    by_cases hlt : x < l.length
    · obtain ⟨ad, A, c, e1, hx0, hx1, hx2, hl, hn⟩ := at_T87 (Kd.C_below HR0.out HB.out) x (by omega) (by omega)
      subst e1
      have HN := Aside0.mk hn
      clear hn
      cases hq0 : decide (((rd_T87 l x).f0.length : Int) < 1) with
      | true =>
        go_wp2_with fail
        go_quiet (first | (go_at_call 103; exact quiet_of_drawn (lease_client _ _)) | (first | (go_at_call 96; exact quiet_of_drawn (bytes_Compare _ _ _ _ _ _ _ (Kd.C_drewN (Kd.C_alloc HN.out _) _) (Kd.C_drewN (Kd.C_alloc HN'.out _) _)))))
        go_wp2
        go_ret
        exact ⟨false, rfl, (by repeat (first | exact HB.out | apply below_alloc | apply pw_below_drewN)), iff_of_false (by simp) (fun h => by have e := h.2 x h0 hlt; exact absurd (of_decide_eq_true hq0) (by have := e.num; omega))⟩
      | false =>
        cases hq1 : decide ((16 : Int) < ((rd_T87 l x).f0.length : Int)) with
        | true =>
          go_wp2_with fail
          go_quiet (first | (go_at_call 103; exact quiet_of_drawn (lease_client _ _)) | (first | (go_at_call 96; exact quiet_of_drawn (bytes_Compare _ _ _ _ _ _ _ (Kd.C_drewN (Kd.C_alloc HN.out _) _) (Kd.C_drewN (Kd.C_alloc HN'.out _) _)))))
          go_wp2
          go_ret
          exact ⟨false, rfl, (by repeat (first | exact HB.out | apply below_alloc | apply pw_below_drewN)), iff_of_false (by simp) (fun h => by have e := h.2 x h0 hlt; exact absurd (of_decide_eq_true hq1) (by have := e.num; omega))⟩
        | false =>
          cases hq2 : clientB (rd_T87 l x).f1 with
          | false =>
            go_wp2_with fail
            go_quiet (first | (go_at_call 103; exact quiet_of_drawn (lease_client _ _)) | (first | (go_at_call 96; exact quiet_of_drawn (bytes_Compare _ _ _ _ _ _ _ (Kd.C_drewN (Kd.C_alloc HN.out _) _) (Kd.C_drewN (Kd.C_alloc HN'.out _) _)))))
            go_wp2
            go_ret
            exact ⟨false, rfl, (by repeat (first | exact HB.out | apply below_alloc | apply pw_below_drewN)), iff_of_false (by simp) (fun h => by have e := h.2 x h0 hlt; exact absurd (clientB_iff.2 e.num.2.1) (by rw [hq2]; simp))⟩
          | true =>
            cases hq3 : decide ((rd_T87 l x).f2 < 1) with
            | true =>
              go_wp2_with fail
              go_quiet (first | (go_at_call 103; exact quiet_of_drawn (lease_client _ _)) | (first | (go_at_call 96; exact quiet_of_drawn (bytes_Compare _ _ _ _ _ _ _ (Kd.C_drewN (Kd.C_alloc HN.out _) _) (Kd.C_drewN (Kd.C_alloc HN'.out _) _)))))
              go_wp2
              go_ret
              exact ⟨false, rfl, (by repeat (first | exact HB.out | apply below_alloc | apply pw_below_drewN)), iff_of_false (by simp) (fun h => by have e := h.2 x h0 hlt; exact absurd (of_decide_eq_true hq3) (by have := e.num; omega))⟩
            | false =>
              cases hq4 : decide (2147483647 < (rd_T87 l x).f2) with
              | true =>
                go_wp2_with fail
                go_quiet (first | (go_at_call 103; exact quiet_of_drawn (lease_client _ _)) | (first | (go_at_call 96; exact quiet_of_drawn (bytes_Compare _ _ _ _ _ _ _ (Kd.C_drewN (Kd.C_alloc HN.out _) _) (Kd.C_drewN (Kd.C_alloc HN'.out _) _)))))
                go_wp2
                go_ret
                exact ⟨false, rfl, (by repeat (first | exact HB.out | apply below_alloc | apply pw_below_drewN)), iff_of_false (by simp) (fun h => by have e := h.2 x h0 hlt; exact absurd (of_decide_eq_true hq4) (by have := e.num; omega))⟩
              | false =>
                cases hq5 : decide (0 < x) with
                | true =>
                  obtain ⟨j, hj⟩ : ∃ j : Int, IntKind.i64.wrap (x - 1) = j := ⟨_, rfl⟩
                  have HJ := Aside0.mk (show j = x - 1 by rw [← hj]; exact IntWalk.i64_in _ (by omega))
                  have hx1' : 0 < x := of_decide_eq_true hq5
                  have hx3 : 0 ≤ j := by rw [HJ.out]; omega
                  have hx2' : j < l.length := by rw [HJ.out]; omega
                  obtain ⟨ad', A', c', e2, hy0, hy1, hy2, hl', hn'⟩ := at_T87 (Kd.C_below HR0.out HB.out) j hx3 hx2'
                  cases e2
                  have HN' := Aside0.mk hn'
                  replace hy0 := pw_cell_below (below_alloc (Below.refl _ wr) (.cells #[.slice A (rd_T87 l x).f0.length c, .int .i64 (rd_T87 l x).f1, .int .i64 (rd_T87 l x).f2] 87)) hy0
                  clear hn' hy1 hy2
                  clear hx1'
                  cases hq6 : decide (cmpB (rd_T87 l x).f0 (rd_T87 l j).f0 ≤ 0) with
                  | true =>
                    go_wp2_with fail
                    go_quiet (first | (go_at_call 103; exact quiet_of_drawn (lease_client _ _)) | (first | (go_at_call 96; exact quiet_of_drawn (bytes_Compare _ _ _ _ _ _ _ (Kd.C_drewN (Kd.C_alloc HN.out _) _) (Kd.C_drewN (Kd.C_alloc HN'.out _) _)))))
                    go_wp2
                    go_ret
                    exact ⟨false, rfl, (by repeat (first | exact HB.out | apply below_alloc | apply pw_below_drewN)), iff_of_false (by simp) (fun h => by have e := (h.2 x h0 hlt).prev (of_decide_eq_true hq5); rw [← HJ.out] at e; rw [cmp_less.1 (of_decide_eq_true hq6)] at e; cases e)⟩
                  | false =>
                    go_wp2_with fail
                    go_quiet (first | (go_at_call 103; exact quiet_of_drawn (lease_client _ _)) | (first | (go_at_call 96; exact quiet_of_drawn (bytes_Compare _ _ _ _ _ _ _ (Kd.C_drewN (Kd.C_alloc HN.out _) _) (Kd.C_drewN (Kd.C_alloc HN'.out _) _)))))
                    go_wp2
                    go_roundw
                    case rel =>
                      have hg : goodL1 l x := by
                        have z0 := of_decide_eq_false hq0
                        have z1 := of_decide_eq_false hq1
                        have z2 := clientB_iff.1 hq2
                        have z3 := of_decide_eq_false hq3
                        have z4 := of_decide_eq_false hq4
                        exact ⟨by omega, fun e => by rw [← HJ.out]; rw [← Bool.not_eq_false]; exact fun h => of_decide_eq_false hq6 (cmp_less.2 h)⟩
                      exact ⟨x + 1, by go_num, by omega, by omega, ⟨by repeat (first | exact HB.out | apply below_alloc | apply pw_below_drewN)⟩, ⟨fun j h1 h2 => if e : j = x then by rw [e]; exact hg else HA.out j h1 (by omega)⟩⟩
                    case measure => simp [intOf]; omega
                | false =>
                  go_wp2_with fail
                  go_quiet (first | (go_at_call 103; exact quiet_of_drawn (lease_client _ _)) | (first | (go_at_call 96; exact quiet_of_drawn (bytes_Compare _ _ _ _ _ _ _ (Kd.C_drewN (Kd.C_alloc HN.out _) _) (Kd.C_drewN (Kd.C_alloc HN'.out _) _)))))
                  go_wp2
                  go_roundw
                  case rel =>
                    have hg : goodL1 l x := by
                      have z0 := of_decide_eq_false hq0
                      have z1 := of_decide_eq_false hq1
                      have z2 := clientB_iff.1 hq2
                      have z3 := of_decide_eq_false hq3
                      have z4 := of_decide_eq_false hq4
                      exact ⟨by omega, fun e => absurd e (of_decide_eq_false hq5)⟩
                    exact ⟨x + 1, by go_num, by omega, by omega, ⟨by repeat (first | exact HB.out | apply below_alloc | apply pw_below_drewN)⟩, ⟨fun j h1 h2 => if e : j = x then by rw [e]; exact hg else HA.out j h1 (by omega)⟩⟩
                  case measure => simp [intOf]; omega
    · go_wp2
      go_ret
      exact ⟨decide ((l.length : Int) ≤ 16), rfl, HB.out, by show decide _ = true ↔ _; rw [decide_eq_true_eq]; exact ⟨fun h => ⟨by omega, fun y h1 h2 => HA.out y h1 (by omega)⟩, fun h => by have := h.1; omega⟩⟩
set_option maxHeartbeats 4000000 in
set_option maxRecDepth 100000 in
theorem ref08_Right (A0 : Option Addr) (c0 : Nat) (l : List S87) (w : World) (hr0 : Kd.C k87 w A0 l.length l) (hc0 : l.length ≤ c0) :
    Calls Try.prog 54 #[.slice A0 l.length c0] w (PostB w fun b => (b = true ↔ goodL l)) := by
  have hlen := hr0.2.1
  have HR0 := Aside0.mk hr0
  clear hr0
  cases hh : decide ((16 : Int) < (l.length : Int)) with
  | true =>
    go_enter Try.func54, Try.ntmps54
    go_wp2
    go_ret
    exact ⟨false, rfl, Below.refl _ _, iff_of_false (by simp) (fun h => by have := of_decide_eq_true hh; have := h.1; omega)⟩
  | false =>
    have hle : l.length ≤ 16 := by have := of_decide_eq_false hh; omega
    go_enter Try.func54, Try.ntmps54
    go_wp2
    go_loopw [10] (fun v wr => ∃ x : Int, v = .int .i64 x ∧ 0 ≤ x ∧ x ≤ l.length ∧ Aside0 (Below w.heap.size w wr) ∧ Aside0 (∀ j, 0 ≤ j → j < x → goodL1 l j)) (fun v _ => l.length - (intOf v).toNat)
    case atStart => exact ⟨0, rfl, by omega, by omega, ⟨Below.refl _ _⟩, ⟨fun j h1 => by omega⟩⟩
    case round =>
      obtain ⟨x, rfl, h0, hi, HB, HA⟩ := hrel
      by_cases hlt : x < l.length
      · obtain ⟨ad, A, c, e1, hx0, hx1, hx2, hl, hn⟩ := at_T87 (Kd.C_below HR0.out HB.out) x (by omega) (by omega)
        subst e1
        have HN := Aside0.mk hn
        clear hn
        cases hq0 : (((rd_T87 l x).f0.length : Int)) == 0 with
        | true =>
          go_wp2_with fail
          go_quiet (first | (go_at_call 102; exact quiet_of_drawn (ref07_Less _ _ _ _ _ _ _ (Kd.C_drewN (Kd.C_alloc HN'.out _) _) (Kd.C_drewN (Kd.C_alloc HN.out _) _))))
          go_wp2
          go_ret
          exact ⟨false, rfl, (by repeat (first | exact HB.out | apply below_alloc | apply pw_below_drewN)), iff_of_false (by simp) (fun h => by have e := h.2 x h0 hlt; exact absurd (eq_of_beq hq0) (by have := e.num; omega))⟩
        | false =>
          cases hq1 : decide ((16 : Int) < ((rd_T87 l x).f0.length : Int)) with
          | true =>
            go_wp2_with fail
            go_quiet (first | (go_at_call 102; exact quiet_of_drawn (ref07_Less _ _ _ _ _ _ _ (Kd.C_drewN (Kd.C_alloc HN'.out _) _) (Kd.C_drewN (Kd.C_alloc HN.out _) _))))
            go_wp2
            go_ret
            exact ⟨false, rfl, (by repeat (first | exact HB.out | apply below_alloc | apply pw_below_drewN)), iff_of_false (by simp) (fun h => by have e := h.2 x h0 hlt; exact absurd (of_decide_eq_true hq1) (by have := e.num; omega))⟩
          | false =>
            cases hq2 : decide ((rd_T87 l x).f1 < 1) with
            | true =>
              go_wp2_with fail
              go_quiet (first | (go_at_call 102; exact quiet_of_drawn (ref07_Less _ _ _ _ _ _ _ (Kd.C_drewN (Kd.C_alloc HN'.out _) _) (Kd.C_drewN (Kd.C_alloc HN.out _) _))))
              go_wp2
              go_ret
              exact ⟨false, rfl, (by repeat (first | exact HB.out | apply below_alloc | apply pw_below_drewN)), iff_of_false (by simp) (fun h => by have e := h.2 x h0 hlt; exact absurd (of_decide_eq_true hq2) (by have := e.num; omega))⟩
            | false =>
              cases hq3 : decide (4 < (rd_T87 l x).f1) with
              | true =>
                go_wp2_with fail
                go_quiet (first | (go_at_call 102; exact quiet_of_drawn (ref07_Less _ _ _ _ _ _ _ (Kd.C_drewN (Kd.C_alloc HN'.out _) _) (Kd.C_drewN (Kd.C_alloc HN.out _) _))))
                go_wp2
                go_ret
                exact ⟨false, rfl, (by repeat (first | exact HB.out | apply below_alloc | apply pw_below_drewN)), iff_of_false (by simp) (fun h => by have e := h.2 x h0 hlt; exact absurd (of_decide_eq_true hq3) (by have := e.num; omega))⟩
              | false =>
                cases hq4 : decide ((rd_T87 l x).f2 < 1) with
                | true =>
                  go_wp2_with fail
                  go_quiet (first | (go_at_call 102; exact quiet_of_drawn (ref07_Less _ _ _ _ _ _ _ (Kd.C_drewN (Kd.C_alloc HN'.out _) _) (Kd.C_drewN (Kd.C_alloc HN.out _) _))))
                  go_wp2
                  go_ret
                  exact ⟨false, rfl, (by repeat (first | exact HB.out | apply below_alloc | apply pw_below_drewN)), iff_of_false (by simp) (fun h => by have e := h.2 x h0 hlt; exact absurd (of_decide_eq_true hq4) (by have := e.num; omega))⟩
                | false =>
                  cases hq5 : decide (2147483647 < (rd_T87 l x).f2) with
                  | true =>
                    go_wp2_with fail
                    go_quiet (first | (go_at_call 102; exact quiet_of_drawn (ref07_Less _ _ _ _ _ _ _ (Kd.C_drewN (Kd.C_alloc HN'.out _) _) (Kd.C_drewN (Kd.C_alloc HN.out _) _))))
                    go_wp2
                    go_ret
                    exact ⟨false, rfl, (by repeat (first | exact HB.out | apply below_alloc | apply pw_below_drewN)), iff_of_false (by simp) (fun h => by have e := h.2 x h0 hlt; exact absurd (of_decide_eq_true hq5) (by have := e.num; omega))⟩
                  | false =>
                    cases hq6 : decide (0 < x) with
                    | true =>
                      obtain ⟨j, hj⟩ : ∃ j : Int, IntKind.i64.wrap (x - 1) = j := ⟨_, rfl⟩
                      have HJ := Aside0.mk (show j = x - 1 by rw [← hj]; exact IntWalk.i64_in _ (by omega))
                      have hx1' : 0 < x := of_decide_eq_true hq6
                      have hx3 : 0 ≤ j := by rw [HJ.out]; omega
                      have hx2' : j < l.length := by rw [HJ.out]; omega
                      obtain ⟨ad', A', c', e2, hy0, hy1, hy2, hl', hn'⟩ := at_T87 (Kd.C_below HR0.out HB.out) j hx3 hx2'
                      cases e2
                      have HN' := Aside0.mk hn'
                      replace hy0 := pw_cell_below (below_alloc (Below.refl _ wr) (.cells #[.slice A (rd_T87 l x).f0.length c, .int .i64 (rd_T87 l x).f1, .int .i64 (rd_T87 l x).f2] 87)) hy0
                      clear hn' hy1 hy2
                      clear hx1'
                      cases hq7 : lessB (rd_T87 l j).f0 (rd_T87 l x).f0 with
                      | false =>
                        go_wp2_with fail
                        go_quiet (first | (go_at_call 102; exact quiet_of_drawn (ref07_Less _ _ _ _ _ _ _ (Kd.C_drewN (Kd.C_alloc HN'.out _) _) (Kd.C_drewN (Kd.C_alloc HN.out _) _))))
                        go_wp2
                        go_ret
                        exact ⟨false, rfl, (by repeat (first | exact HB.out | apply below_alloc | apply pw_below_drewN)), iff_of_false (by simp) (fun h => by have e := (h.2 x h0 hlt).prev (of_decide_eq_true hq6); rw [← HJ.out] at e; rw [hq7] at e; cases e)⟩
                      | true =>
                        go_wp2_with fail
                        go_quiet (first | (go_at_call 102; exact quiet_of_drawn (ref07_Less _ _ _ _ _ _ _ (Kd.C_drewN (Kd.C_alloc HN'.out _) _) (Kd.C_drewN (Kd.C_alloc HN.out _) _))))
                        go_wp2
                        go_roundw
                        case rel =>
                          have hg : goodL1 l x := by
                            have z0 := ne_of_beq_false hq0
                            have z1 := of_decide_eq_false hq1
                            have z2 := of_decide_eq_false hq2
                            have z3 := of_decide_eq_false hq3
                            have z4 := of_decide_eq_false hq4
                            have z5 := of_decide_eq_false hq5
                            exact ⟨by omega, fun e => by rw [← HJ.out]; exact hq7⟩
                          exact ⟨x + 1, by go_num, by omega, by omega, ⟨by repeat (first | exact HB.out | apply below_alloc | apply pw_below_drewN)⟩, ⟨fun j h1 h2 => if e : j = x then by rw [e]; exact hg else HA.out j h1 (by omega)⟩⟩
                        case measure => simp [intOf]; omega
                    | false =>
                      go_wp2_with fail
                      go_quiet (first | (go_at_call 102; exact quiet_of_drawn (ref07_Less _ _ _ _ _ _ _ (Kd.C_drewN (Kd.C_alloc HN'.out _) _) (Kd.C_drewN (Kd.C_alloc HN.out _) _))))
                      go_wp2
                      go_roundw
                      case rel =>
                        have hg : goodL1 l x := by
                          have z0 := ne_of_beq_false hq0
                          have z1 := of_decide_eq_false hq1
                          have z2 := of_decide_eq_false hq2
                          have z3 := of_decide_eq_false hq3
                          have z4 := of_decide_eq_false hq4
                          have z5 := of_decide_eq_false hq5
                          exact ⟨by omega, fun e => absurd e (of_decide_eq_false hq6)⟩
                        exact ⟨x + 1, by go_num, by omega, by omega, ⟨by repeat (first | exact HB.out | apply below_alloc | apply pw_below_drewN)⟩, ⟨fun j h1 h2 => if e : j = x then by rw [e]; exact hg else HA.out j h1 (by omega)⟩⟩
                      case measure => simp [intOf]; omega
      · go_wp2
        go_ret
        exact ⟨true, rfl, HB.out, iff_of_true rfl ⟨by omega, fun y h1 h2 => HA.out y h1 (by omega)⟩⟩

end Go.Proofs.Ytophfoenaekfjaa

namespace Go.Proofs.Ytophfoenaekfjaa
open Go.RowKit Go.Proofs.YtophfoenaekfjaaW.PrintWords Go.Proofs.YtophfoenaekfjaaW.PrintLast Go.Proofs.YtophfoenaekfjaaW.PrintMore Go.Proofs.Ytophfoenaekfjaa.PSnapEncodes
set_option linter.unusedVariables false
set_option linter.unusedSimpArgs false

structure goodS1 (l : List S97) (x : Int) : Prop where
  num : (1 ≤ (rd_T97 l x).f0 ∧ (rd_T97 l x).f0 ≤ 4) ∧ (1 ≤ (rd_T97 l x).f1 ∧ (rd_T97 l x).f1 ≤ 2147483647) ∧ 0 ≤ (rd_T97 l x).f2.f0 ∧ (rd_T97 l x).f2.f0 ≤ 6 ∧ (rd_T97 l x).f2.f1.length ≤ 64
  prev : 0 < x → (rd_T97 l (x - 1)).f0 < (rd_T97 l x).f0
/-- Right sessions; a right state. -/
def goodS (l : List S97) : Prop := ∀ x : Int, 0 ≤ x → x < l.length → goodS1 l x
structure goodA (a0 : Int) (l1 : List S72) (l2 : List S87) (l3 : List S97) : Prop where
  slot : 0 ≤ a0 ∧ a0 ≤ 1000000
  ent : goodE l1
  lea : goodL l2
  ses : goodS l3

theorem below1_alloc {B : Nat} {w W : World} (h : Below B w W) (o : Obj) (hB : B ≤ W.heap.size := by omega) : Below B w (W.alloc o) := h.alloc hB o
theorem below1_drewN {B : Nat} {w W : World} (h : Below B w W) (n : Nat) : Below B w (W.drewN n) := ⟨h.os, h.tape, h.output, h.size, h.block⟩
/-- Behind the making of one block the callers' memory is as it was. -/
theorem below_of_alloc {w W : World} {o : Obj} (h : Below (w.heap.size + 1) (w.alloc o) W) : Below w.heap.size w W := (below_alloc (Below.refl _ w) o).trans (h.mono (by omega))
theorem C_old {α : Type} {d : Kd α} {w W : World} {A : Option Addr} {n : Nat} {xs : List α} {o : Obj} (h : d.C w A n xs) (hb : Below (w.heap.size + 1) (w.alloc o) W) : d.C W A n xs := Kd.C_below h (below_of_alloc hb)
theorem box_cell {w W : World} {cs : Array Value} {t : TypeId} (h : Below (w.heap.size + 1) (w.alloc (.cells cs t)) W) (j : Nat) (v : Value) (hv : cs[j]? = some v) : W.cell? ⟨w.heap.size, j, none⟩ = some v :=
  (h.cell (p := ⟨w.heap.size, j, none⟩) (by show w.heap.size < w.heap.size + 1; omega)).trans ((blk_cell (heap_alloc_new w _) j).trans hv)
set_option maxHeartbeats 4000000 in
set_option maxRecDepth 100000 in
theorem session_Right (a0 : Int) (A1 A2 A3 : Option Addr) (c1 c2 c3 : Nat) (l1 : List S72) (l2 : List S87) (l3 : List S97) (w : World) (h1 : Kd.C k72 w A1 l1.length l1) (m1 : l1.length ≤ c1) (h2 : Kd.C k87 w A2 l2.length l2) (m2 : l2.length ≤ c2) (h3 : Kd.C k97 w A3 l3.length l3) (m3 : l3.length ≤ c3) :
    Calls Try.prog 35 #[.agg #[.int .i64 a0, .slice A1 l1.length c1, .slice A2 l2.length c2, .slice A3 l3.length c3]] w (PostB w fun b => (b = true ↔ goodA a0 l1 l2 l3)) := by
  have hlen := h3.2.1
  have H1 := Aside0.mk h1
  have H2 := Aside0.mk h2
  have H3 := Aside0.mk h3
  clear h1 h2 h3
  go_enter Try.func35, Try.ntmps35
  go_wp2
  go_loopw [8] (fun v wr => ∃ x : Int, v = .int .i64 x ∧ 0 ≤ x ∧ x ≤ l3.length ∧ Aside0 (Below (w.heap.size + 1) (w.alloc (.cells #[.int .i64 a0, .slice A1 l1.length c1, .slice A2 l2.length c2, .slice A3 l3.length c3] 26)) wr) ∧ Aside0 (∀ j, 0 ≤ j → j < x → goodS1 l3 j)) (fun v _ => l3.length - (intOf v).toNat)
  case atStart => exact ⟨0, rfl, by omega, by omega, ⟨Below.refl _ _⟩, ⟨fun j h1 => by omega⟩⟩
  case round =>
    obtain ⟨x, rfl, h0, hi, HB, HA⟩ := hrel
    have HS : w.heap.size + 1 ≤ wr.heap.size := by simpa using HB.out.size
    have hb0 := box_cell HB.out 0 _ rfl
    have hb1 := box_cell HB.out 1 _ rfl
    have hb2 := box_cell HB.out 2 _ rfl
    have hb3 := box_cell HB.out 3 _ rfl
    by_cases hlt : x < l3.length
    · obtain ⟨ad, A, c, e1, hx0, hx1, hx2, hx3, hl, hn⟩ := at_T97 (C_old H3.out HB.out) x (by omega) (by omega)
      subst e1
      clear hn
      cases hq0 : clientB (rd_T97 l3 x).f0 with
      | false =>
        go_wp2_with fail
        go_quiet (first | (go_at_call 83; exact quiet_of_drawn (session_client _ _)) | (go_at_call 84; exact quiet_of_drawn (session_stamp _ _)))
        go_wp2
        go_ret
        exact ⟨false, rfl, below_of_alloc (by repeat (first | exact HB.out | refine below1_alloc ?_ _ HS | apply below1_drewN)), iff_of_false (by simp) (fun h => by have e := (h.ses x h0 hlt).num; exact absurd (clientB_iff.2 e.1) (by rw [hq0]; simp))⟩
      | true =>
        cases hq1 : stampB (rd_T97 l3 x).f1 with
        | false =>
          go_wp2_with fail
          go_quiet (first | (go_at_call 83; exact quiet_of_drawn (session_client _ _)) | (go_at_call 84; exact quiet_of_drawn (session_stamp _ _)))
          go_wp2
          go_ret
          exact ⟨false, rfl, below_of_alloc (by repeat (first | exact HB.out | refine below1_alloc ?_ _ HS | apply below1_drewN)), iff_of_false (by simp) (fun h => by have e := (h.ses x h0 hlt).num; exact absurd (stampB_iff.2 e.2.1) (by rw [hq1]; simp))⟩
        | true =>
          cases hq2 : decide ((rd_T97 l3 x).f2.f0 < 0) with
          | true =>
            go_wp2_with fail
            go_quiet (first | (go_at_call 83; exact quiet_of_drawn (session_client _ _)) | (go_at_call 84; exact quiet_of_drawn (session_stamp _ _)))
            go_wp2
            go_ret
            exact ⟨false, rfl, below_of_alloc (by repeat (first | exact HB.out | refine below1_alloc ?_ _ HS | apply below1_drewN)), iff_of_false (by simp) (fun h => by have e := (h.ses x h0 hlt).num; exact absurd (of_decide_eq_true hq2) (by omega))⟩
          | false =>
            cases hq3 : decide (6 < (rd_T97 l3 x).f2.f0) with
            | true =>
              go_wp2_with fail
              go_quiet (first | (go_at_call 83; exact quiet_of_drawn (session_client _ _)) | (go_at_call 84; exact quiet_of_drawn (session_stamp _ _)))
              go_wp2
              go_ret
              exact ⟨false, rfl, below_of_alloc (by repeat (first | exact HB.out | refine below1_alloc ?_ _ HS | apply below1_drewN)), iff_of_false (by simp) (fun h => by have e := (h.ses x h0 hlt).num; exact absurd (of_decide_eq_true hq3) (by omega))⟩
            | false =>
              cases hq4 : decide ((64 : Int) < ((rd_T97 l3 x).f2.f1.length : Int)) with
              | true =>
                go_wp2_with fail
                go_quiet (first | (go_at_call 83; exact quiet_of_drawn (session_client _ _)) | (go_at_call 84; exact quiet_of_drawn (session_stamp _ _)))
                go_wp2
                go_ret
                exact ⟨false, rfl, below_of_alloc (by repeat (first | exact HB.out | refine below1_alloc ?_ _ HS | apply below1_drewN)), iff_of_false (by simp) (fun h => by have e := (h.ses x h0 hlt).num; exact absurd (of_decide_eq_true hq4) (by omega))⟩
              | false =>
                cases hq5 : decide (0 < x) with
                | true =>
                  obtain ⟨j, hj⟩ : ∃ j : Int, IntKind.i64.wrap (x - 1) = j := ⟨_, rfl⟩
                  have HJ := Aside0.mk (show j = x - 1 by rw [← hj]; exact IntWalk.i64_in _ (by omega))
                  have hx1' : 0 < x := of_decide_eq_true hq5
                  have hx3 : 0 ≤ j := by rw [HJ.out]; omega
                  have hx2' : j < l3.length := by rw [HJ.out]; omega
                  obtain ⟨ad', A', c', e2, hy0, hy1, hy2, hy3, hl', hn'⟩ := at_T97 (C_old H3.out HB.out) j hx3 hx2'
                  cases e2
                  replace hy0 := pw_cell_below (below_alloc (Below.refl _ wr) (.cells #[.int .i64 (rd_T97 l3 x).f0, .int .i64 (rd_T97 l3 x).f1, .int .i64 (rd_T97 l3 x).f2.f0, .slice A (rd_T97 l3 x).f2.f1.length c] 97)) hy0
                  replace hb3 := pw_cell_below (below_alloc (Below.refl _ wr) (.cells #[.int .i64 (rd_T97 l3 x).f0, .int .i64 (rd_T97 l3 x).f1, .int .i64 (rd_T97 l3 x).f2.f0, .slice A (rd_T97 l3 x).f2.f1.length c] 97)) hb3
                  clear hn' hy1 hy2 hy3 hl' hx1'
                  cases hq6 : decide ((rd_T97 l3 x).f0 ≤ (rd_T97 l3 j).f0) with
                  | true =>
                    go_wp2_with fail
                    go_quiet (first | (go_at_call 83; exact quiet_of_drawn (session_client _ _)) | (go_at_call 84; exact quiet_of_drawn (session_stamp _ _)))
                    go_wp2
                    go_ret
                    exact ⟨false, rfl, below_of_alloc (by repeat (first | exact HB.out | refine below1_alloc ?_ _ HS | apply below1_drewN)), iff_of_false (by simp) (fun h => by have e := (h.ses x h0 hlt).prev (of_decide_eq_true hq5); rw [← HJ.out] at e; exact absurd (of_decide_eq_true hq6) (by omega))⟩
                  | false =>
                    go_wp2_with fail
                    go_quiet (first | (go_at_call 83; exact quiet_of_drawn (session_client _ _)) | (go_at_call 84; exact quiet_of_drawn (session_stamp _ _)))
                    go_wp2
                    go_roundw
                    case rel =>
                      have hg : goodS1 l3 x := by
                        have z0 := clientB_iff.1 hq0
                        have z1 := stampB_iff.1 hq1
                        have z2 := of_decide_eq_false hq2
                        have z3 := of_decide_eq_false hq3
                        have z4 := of_decide_eq_false hq4
                        exact ⟨by omega, fun e => by rw [← HJ.out]; have z6 := of_decide_eq_false hq6; omega⟩
                      exact ⟨x + 1, by go_num, by omega, by omega, ⟨by repeat (first | exact HB.out | refine below1_alloc ?_ _ HS | apply below1_drewN)⟩, ⟨fun j h1 h2 => if e : j = x then by rw [e]; exact hg else HA.out j h1 (by omega)⟩⟩
                    case measure => simp [intOf]; omega
                | false =>
                  go_wp2_with fail
                  go_quiet (first | (go_at_call 83; exact quiet_of_drawn (session_client _ _)) | (go_at_call 84; exact quiet_of_drawn (session_stamp _ _)))
                  go_wp2
                  go_roundw
                  case rel =>
                    have hg : goodS1 l3 x := by
                      have z0 := clientB_iff.1 hq0
                      have z1 := stampB_iff.1 hq1
                      have z2 := of_decide_eq_false hq2
                      have z3 := of_decide_eq_false hq3
                      have z4 := of_decide_eq_false hq4
                      exact ⟨by omega, fun e => absurd e (of_decide_eq_false hq5)⟩
                    exact ⟨x + 1, by go_num, by omega, by omega, ⟨by repeat (first | exact HB.out | refine below1_alloc ?_ _ HS | apply below1_drewN)⟩, ⟨fun j h1 h2 => if e : j = x then by rw [e]; exact hg else HA.out j h1 (by omega)⟩⟩
                  case measure => simp [intOf]; omega
    · have HG : Aside0 (goodS l3) := ⟨fun y h1 h2 => HA.out y h1 (by omega)⟩
      clear HA
      cases hp0 : decide (0 ≤ a0) with
      | false =>
        go_wp2
        go_ret
        exact ⟨false, rfl, below_of_alloc HB.out, iff_of_false (by simp) (fun h => of_decide_eq_false hp0 h.slot.1)⟩
      | true =>
        cases hp1 : decide (a0 ≤ 1000000) with
        | false =>
          go_wp2
          go_ret
          exact ⟨false, rfl, below_of_alloc HB.out, iff_of_false (by simp) (fun h => of_decide_eq_false hp1 h.slot.2)⟩
        | true =>
          go_wp2_with fail
          refine (kv_Right _ _ _ _ (C_old H1.out HB.out) m1).mono ?_
          rintro e w1 ⟨b, rfl, hb, hiff⟩
          have HB1 := Aside0.mk (HB.out.trans (hb.mono HS))
          have HS1 : w.heap.size + 1 ≤ w1.heap.size := by simpa using HB1.out.size
          clear hb HB HS hb0 hb1 hb2 hb3
          have hb2 := box_cell HB1.out 2 _ rfl
          have HI := Aside0.mk hiff
          clear hiff
          cases b with
          | false =>
            go_wp2
            go_ret
            exact ⟨false, rfl, below_of_alloc HB1.out, iff_of_false (by simp) (fun h => by have := HI.out.2 h.ent; cases this)⟩
          | true =>
            go_wp2_with fail
            refine (lease_Right _ _ _ _ (C_old H2.out HB1.out) m2).mono ?_
            rintro e w2 ⟨b, rfl, hb, hiff⟩
            have HI2 := Aside0.mk hiff
            have HB2 := Aside0.mk (HB1.out.trans (hb.mono HS1))
            clear hiff hb
            go_wp2
            go_ret
            exact ⟨b, rfl, below_of_alloc HB2.out, ⟨fun h => ⟨⟨of_decide_eq_true hp0, of_decide_eq_true hp1⟩, HI.out.1 (by simp), HI2.out.1 h, HG.out⟩, fun h => HI2.out.2 h.lea⟩⟩

end Go.Proofs.Ytophfoenaekfjaa

