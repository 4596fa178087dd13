/- An argument that is a row of outs, opened to its cells: each out's fields are numbers within their types. -/
import Derived.Test.YtjcjibghnpjegaaDoorRep2
import Derived.Deep.Slices
import Derived.OpenShut
import Derived.ChangeArms
import Derived.ChangeSame
import Derived.ProofKit
namespace Go.Proofs.YtjcjibghnpjegaaDoor.Outs
open Go.ChangeShapes Go.WideShapes Go.Deep Go.RowKit Go.Proofs.YtjcjibghnpjegaaDoor.Pd Go.Proofs.YtjcjibghnpjegaaDoorW.PrintWords
open Go.Proofs.YtjcjibghnpjegaaDoor.Rep (InI Ok)
section
variable {H : Type} {enc : TypeId × Value → H} {w : World} {base : Nat} {spare : Nat → Bool} {held : Bool}
theorem inI {n : Int} (h : (Lit.int .i64 n).wf = true) : InI n := by
  have e1 : IntKind.i64.min = -9223372036854775808 := rfl
  have e2 : IntKind.i64.max = 9223372036854775807 := rfl
  simp [Lit.wf, e1, e2] at h
  exact h
theorem int_at {fuel : Nat} {t : TypeId} (ht : Tryd.prog.underlying t = some (.int .i64)) (hc : Tryd.prog.cellsOf t = 1) {cs : List Value} {j : Nat} {y : Option (DataW H × List MemPlace)} {q : DataW H × List MemPlace}
    (h : DataW.trod enc Tryd.prog w base spare held fuel t ((cs.drop j).take (Tryd.prog.cellsOf t)) = y) (hy : y = some q) : ∃ n, cs[j]? = some (.int .i64 n) ∧ InI n := by
  rw [hc, hy] at h
  obtain ⟨n, e, _, hw⟩ := DataW.trod_int ht h
  refine ⟨n, ?_, inI hw⟩
  have := congrArg (fun l : List Value => l[0]?) e
  simpa using this
theorem bool_at {fuel : Nat} {t : TypeId} (ht : Tryd.prog.underlying t = some .bool) (hc : Tryd.prog.cellsOf t = 1) {cs : List Value} {j : Nat} {y : Option (DataW H × List MemPlace)} {q : DataW H × List MemPlace}
    (h : DataW.trod enc Tryd.prog w base spare held fuel t ((cs.drop j).take (Tryd.prog.cellsOf t)) = y) (hy : y = some q) : ∃ b, cs[j]? = some (.bool b) := by
  rw [hc, hy] at h
  obtain ⟨n, e, _⟩ := DataW.trod_bool ht h
  refine ⟨n, ?_⟩
  have := congrArg (fun l : List Value => l[0]?) e
  simpa using this
theorem c29 : Tryd.prog.cellsOf 29 = 10 := by kernel_rfl
theorem c27 : Tryd.prog.cellsOf 27 = 8 := by kernel_rfl
theorem c25 : Tryd.prog.cellsOf 25 = 4 := by kernel_rfl
theorem c2 : Tryd.prog.cellsOf 2 = 1 := by kernel_rfl
theorem c3 : Tryd.prog.cellsOf 3 = 1 := by kernel_rfl
theorem c4 : Tryd.prog.cellsOf 4 = 1 := by kernel_rfl
theorem some_at {α : Type} {l : List α} {n : Nat} (h : l.length = n) {j : Nat} (hj : j < n) : ∃ q, l[j]? = some q := ⟨l[j]'(by omega), List.getElem?_eq_getElem (by omega)⟩
theorem drop_at {cs : List Value} {a b j : Nat} (h : j < b) : (((cs.drop a).take b))[j]? = cs[a + j]? := by
  rw [List.getElem?_take, if_pos h, List.getElem?_drop]
theorem open_out {fuel : Nat} {cs : List Value} {x : DataW H × List MemPlace} (h : DataW.trod enc Tryd.prog w base spare held fuel 29 cs = some x) :
    ∃ o : S29, Ok o ∧ cs = [.int .i64 o.f0, .int .i64 o.f1, .int .i64 o.f2.f0, .int .i64 o.f2.f1, .int .i64 o.f2.f2, .bool o.f2.f3, .int .i64 o.f2.f4.f0, .int .i64 o.f2.f4.f1, .int .i64 o.f2.f4.f2, .int .i64 o.f2.f4.f3] := by
  obtain ⟨xs, n, _, _, hl, hxl, hf⟩ := DataW.trod_struct Tryd.underlying29 h
  rw [c29] at hl
  obtain ⟨q0, k0⟩ := some_at (j := 0) hxl (by decide)
  obtain ⟨q1, k1⟩ := some_at (j := 1) hxl (by decide)
  obtain ⟨q2, k2⟩ := some_at (j := 2) hxl (by decide)
  obtain ⟨n0, e0, _⟩ := int_at Tryd.underlying3 c3 (hf 0 _ rfl) k0
  obtain ⟨n1, e1, _⟩ := int_at Tryd.underlying3 c3 (hf 1 _ rfl) k1
  have hd : DataW.trod enc Tryd.prog w base spare held n 27 ((cs.drop 2).take (Tryd.prog.cellsOf 27)) = some q2 := (hf 2 _ rfl).trans k2
  rw [c27] at hd
  obtain ⟨ys, m, _, _, hl2, hyl, hg⟩ := DataW.trod_struct Tryd.underlying27 hd
  obtain ⟨r0, l0⟩ := some_at (j := 0) hyl (by decide)
  obtain ⟨r1, l1⟩ := some_at (j := 1) hyl (by decide)
  obtain ⟨r2, l2⟩ := some_at (j := 2) hyl (by decide)
  obtain ⟨r3, l3⟩ := some_at (j := 3) hyl (by decide)
  obtain ⟨r4, l4⟩ := some_at (j := 4) hyl (by decide)
  obtain ⟨m0, f0, w0⟩ := int_at Tryd.underlying2 c2 (hg 0 _ rfl) l0
  obtain ⟨m1, f1, w1⟩ := int_at Tryd.underlying3 c3 (hg 1 _ rfl) l1
  obtain ⟨m2, f2, w2⟩ := int_at Tryd.underlying3 c3 (hg 2 _ rfl) l2
  obtain ⟨m3, f3⟩ := bool_at Tryd.underlying4 c4 (hg 3 _ rfl) l3
  have hv : DataW.trod enc Tryd.prog w base spare held m 25 ((((cs.drop 2).take 8).drop 4).take (Tryd.prog.cellsOf 25)) = some r4 := (hg 4 _ rfl).trans l4
  rw [c25] at hv
  obtain ⟨zs, p, _, _, hl3, hzl, hh⟩ := DataW.trod_array Tryd.underlying25 hv
  obtain ⟨s0, j0⟩ := some_at (j := 0) hzl (by decide)
  obtain ⟨s1, j1⟩ := some_at (j := 1) hzl (by decide)
  obtain ⟨s2, j2⟩ := some_at (j := 2) hzl (by decide)
  obtain ⟨s3, j3⟩ := some_at (j := 3) hzl (by decide)
  obtain ⟨a0, g0, _⟩ := int_at Tryd.underlying2 c2 (hh 0 (by decide)) j0
  obtain ⟨a1, g1, _⟩ := int_at Tryd.underlying2 c2 (hh 1 (by decide)) j1
  obtain ⟨a2, g2, _⟩ := int_at Tryd.underlying2 c2 (hh 2 (by decide)) j2
  obtain ⟨a3, g3, _⟩ := int_at Tryd.underlying2 c2 (hh 3 (by decide)) j3
  rw [c2] at g0 g1 g2 g3
  rw [drop_at (by decide)] at f0 f1 f2 f3
  rw [drop_at (by decide), drop_at (by decide)] at g0 g1 g2 g3
  refine ⟨⟨n0, n1, ⟨m0, m1, m2, m3, ⟨a0, a1, a2, a3⟩⟩⟩, ⟨w0, w1, w2⟩, ?_⟩
  match cs, hl with
  | [b0, b1, b2, b3, b4, b5, b6, b7, b8, b9], _ =>
    simp at e0 e1 f0 f1 f2 f3 g0 g1 g2 g3
    subst e0 e1 f0 f1 f2 f3 g0 g1 g2 g3
    rfl
theorem choose_list {n : Nat} {P : Nat → S29 → Prop} (h : ∀ i, i < n → ∃ o, P i o) : ∃ l : List S29, l.length = n ∧ ∀ i o, l[i]? = some o → P i o := by
  induction n with
  | zero => exact ⟨[], rfl, fun i o h => by simp at h⟩
  | succ n ih =>
    obtain ⟨l, hl, hP⟩ := ih (fun i hi => h i (by omega))
    obtain ⟨o, ho⟩ := h n (by omega)
    refine ⟨l ++ [o], by simp [hl], fun i x hx => ?_⟩
    by_cases hi : i < n
    · rw [List.getElem?_append_left (by omega)] at hx
      exact hP i x hx
    · rw [List.getElem?_append_right (by omega)] at hx
      have : i = n := by
        rcases Nat.lt_or_ge (i - l.length) 1 with q | q
        · omega
        · rw [List.getElem?_eq_none (by simpa using q)] at hx; cases hx
      subst this
      simp [hl] at hx
      subst hx
      exact ho
/-- The argument: nil, or a row; its outs within their types. -/
theorem open_outs {a : Option Addr} {len cap : Nat} {d : DataW H} {p : List MemPlace} (h : DataW.Trod enc Tryd.prog w base spare held 32 (.slice a len cap) d p) :
    ∃ l : List S29, l.length = len ∧ len ≤ cap ∧ (∀ o ∈ l, Ok o) ∧ Kd.C k29 w a l.length l := by
  obtain ⟨fuel, hf⟩ := h
  rcases open_slice Tryd.underlying32 hf with ⟨hcs, _⟩ | ⟨x, ln, cp, m, n, D, Pl, hcs, _, hle, hmax, hm, _, hi⟩
  · simp [Value.cells] at hcs
    obtain ⟨rfl, rfl, rfl⟩ := hcs
    exact ⟨[], rfl, Nat.le_refl _, (fun o ho => absurd ho (by simp)), Kd.C_nil _ _⟩
  · simp [Value.cells] at hcs
    obtain ⟨rfl, rfl, rfl⟩ := hcs
    have hlm : len ≤ m := by rw [hm]; split <;> omega
    obtain ⟨l, hl, hP⟩ := choose_list (n := len) (P := fun i o => Ok o ∧ w.cells? base (x.add (i * Tryd.prog.cellsOf 29)) (Tryd.prog.cellsOf 29) = some [.int .i64 o.f0, .int .i64 o.f1, .int .i64 o.f2.f0, .int .i64 o.f2.f1, .int .i64 o.f2.f2, .bool o.f2.f3, .int .i64 o.f2.f4.f0, .int .i64 o.f2.f4.f1, .int .i64 o.f2.f4.f2, .int .i64 o.f2.f4.f3]) (fun i hi' => by
      obtain ⟨cs', h1, h2⟩ := hi i (by omega)
      obtain ⟨o, ho, rfl⟩ := open_out h2
      exact ⟨o, ho, h1⟩)
    refine ⟨l, hl, hle, fun o ho => ?_, rfl, ?_, fun _ => ⟨x, rfl, fun j o ho => ?_⟩⟩
    · obtain ⟨i, hi'⟩ := List.mem_iff_getElem?.1 ho
      exact (hP i o hi').1
    · have : maxLen ≤ 9223372036854775807 := by decide
      omega
    · obtain ⟨_, hc⟩ := hP j o ho
      obtain ⟨_, hcl, hat⟩ := World.cells?_some hc
      rw [c29] at hat hcl
      refine ⟨_, rfl, k29_mk w o, fun i u hu => ?_⟩
      have hi10 : i < 10 := by
        rcases Nat.lt_or_ge i 10 with q | q
        · exact q
        · rw [List.getElem?_eq_none (by simpa using q)] at hu; cases hu
      have := hat i hi10
      rw [Go.Deep.add_add] at this
      rw [hu] at this
      exact this
end
end Go.Proofs.YtjcjibghnpjegaaDoor.Outs
