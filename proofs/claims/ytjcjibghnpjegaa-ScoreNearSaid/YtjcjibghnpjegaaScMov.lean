/- ScoreMetrics: what the walk carries: the metrics' rows beside the row of slices that grows. -/
import Derived.Test.YtjcjibghnpjegaaScTold
import Derived.Test.YtjcjibghnpjegaaScPureM
namespace Go.Proofs.Ytjcjibghnpjegaa.Sc
open Go.RowKit Go.Proofs.Ytjcjibghnpjegaa.Pr Go.Proofs.YtjcjibghnpjegaaW.PrintWords Go.Proofs.YtjcjibghnpjegaaW.PrintLast Go.Proofs.YtjcjibghnpjegaaW.PrintMore
set_option linter.unusedVariables false
set_option linter.unusedSimpArgs false
def T49 (w : World) (g : Nat) : Prop := ∃ cs, w.heap[g]? = some (.cells cs 49 (0, 0))
theorem own49t {w : World} {base : Nat} {ok : Nat → Prop} {v : Value} {xs : List S49} (h : Kd.R k49 49 w base ok v xs) (hne : xs ≠ []) : ∃ g c, v = .slice (some ⟨g, 0, none⟩) xs.length c ∧ xs.length ≤ c ∧ base ≤ g ∧ g < w.heap.size ∧ SW w g xs ∧ T49 w g := by
  obtain ⟨g, c, rfl, h1, h2, h3, h4⟩ := own49 h hne
  obtain ⟨inner, hi⟩ := Kd.R_own h
  obtain ⟨cs, hcs⟩ := own_typed hi g rfl
  exact ⟨g, c, rfl, h1, h2, h3, h4, cs, hcs⟩
theorem of_att (k m : Nat) (A : Option Addr) (c n : Nat) (vs : List Int) (xs : List S49) (hn : n = vs.length) (hm : m = xs.length) (w : World) (hr : Aside0 (Kd.C (Kd.int .i64) w A vs.length vs)) (hc : vs.length ≤ c) (hf : quorumitelaw12_of.f k vs = some xs) (hne : xs ≠ []) :
    Calls Try.prog 39 #[.slice A n c] w fun e w' => ∃ g c', e = .returned (.slice (some ⟨g, 0, none⟩) m c') ∧ xs.length ≤ c' ∧ w.heap.size ≤ g ∧ g < w'.heap.size ∧ SW w' g xs ∧ T49 w' g ∧ Below w.heap.size w w' := by
  subst hn hm
  refine (quorumitelaw12_of.calls k A c vs xs w hr.out hc hf).mono ?_
  rintro e w' ⟨v, rfl, h1, h2⟩
  obtain ⟨g, c', rfl, h3, h4, h5, h6, h7⟩ := own49t h1 hne
  exact ⟨g, c', rfl, h3, h4, h5, h6, h7, h2⟩
theorem C49_block {w w' : World} {ad : Addr} {n : Nat} {xs : List S49} (h : Kd.C k49 w (some ad) n xs) (hb : w'.heap[ad.block]? = w.heap[ad.block]?) : Kd.C k49 w' (some ad) n xs := by
  obtain ⟨h1, h2, h3⟩ := h
  refine ⟨h1, h2, fun hn => ?_⟩
  obtain ⟨ad', e, h⟩ := h3 hn
  injection e with e
  subst e
  refine ⟨ad, rfl, fun j p hp => ?_⟩
  obtain ⟨c, hc, hk, hcell⟩ := h j p hp
  have hk' := k49_open hk
  refine ⟨c, hc, by rw [hk']; exact k49_mk w' p, fun i u hu => ?_⟩
  have hbl : (ad.add (j * k49.sz + i)).block = ad.block := by
    unfold Addr.add
    split <;> rfl
  exact (World.cell?_of_block (by rw [hbl]; exact hb)).trans (hcell i u hu)
/-- The metrics' rows, each in a block of samples. -/
def MT (w : World) (ms : List Met) : Prop := ∀ m ∈ ms, T49 w m.ad.block ∧ Kd.C k49 w (some m.ad) m.xs.length m.xs ∧ m.xs.length ≤ m.c ∧ okX m.xs
theorem MT.mg {w : World} {ms : List Met} (h : MT w ms) : MG w ms := fun m hm => (h m hm).2
theorem MT.below {w w' : World} {ms : List Met} (h : MT w ms) (hb : Below w.heap.size w w') : MT w' ms := fun m hm => by
  obtain ⟨⟨cs, h1⟩, h2, h3⟩ := h m hm
  exact ⟨⟨cs, (hb.block _ (lt_of_block h1)).trans h1⟩, Kd.C_below h2 hb, h3⟩
theorem MT.grown {w w' : World} {ms : List Met} {base : Nat} {ok : Nat → Prop} {v : Value} {ks : List Met} (h : MT w ms) (hR : Kd.R KM 47 w base ok v ks) (hg : w.grownBy w' v.ownBlock) : MT w' ms := fun m hm => by
  obtain ⟨⟨cs, h1⟩, h2, h3⟩ := h m hm
  have e := hg.block _ (lt_of_block h1) (Kd.R_ne hR h1 (by decide))
  exact ⟨⟨cs, e.trans h1⟩, C49_block h2 e, h3⟩
theorem MT.snoc {w : World} {ms : List Met} {m : Met} (h : MT w ms) (hm : T49 w m.ad.block ∧ Kd.C k49 w (some m.ad) m.xs.length m.xs ∧ m.xs.length ≤ m.c ∧ okX m.xs) : MT w (ms ++ [m]) := by
  intro x hx
  rcases List.mem_append.1 hx with hx | hx
  · exact h x hx
  · rw [List.mem_singleton.1 hx]; exact hm
theorem close_mt {w : World} {b r lb cl : Nat} {ms : List Met} {S : Bool} (hl : ms.length ≤ 100) (hG : Aside0 (∀ f j, struckM 10 ss0 3 (ms.map (·.xs)) f j = ((decide (j = 3) && S) || f j))) (h : Aside0 (Sc w b r 50 3 10 ss0)) (hm : Aside0 (MT w ms)) (hc : Aside0 (∀ (j : Nat) (m : Met), ms[j]? = some m → w.cell? ⟨lb, j, none⟩ = some (metV m))) :
    Calls Try.prog 36 #[.pointer (some ⟨b, 0, none⟩), .slice (some ⟨lb, 0, none⟩) ms.length cl, .int .i64 3] w fun e w' => ∃ A c, e = .returned (.slice A 0 c) ∧ Sc w' b r 50 3 10 [o0, o0, o0, ⟨if S = true then 1 else 0, 0, false⟩] ∧ Ft (fun k => k = b ∨ k = r) w w' := by
  refine (close_calls (A := some ⟨lb, 0, none⟩) (lb := lb) (c := cl) ms 3 hl ⟨fun _ => rfl⟩ h ⟨hm.out.mg.MR hc.out⟩).mono ?_
  rintro e w' ⟨v, rfl, h1, h2, h3⟩
  rw [close_metrics hG.out] at h1 h2
  obtain ⟨A, c, rfl⟩ := no_int h1
  exact ⟨A, c, rfl, h2, h3⟩
theorem reps4 (w : World) (base : Nat) (ok : Nat → Prop) (a b c d : S54) : Reps (k54.M w base ok) k54.sz [a, b, c, d] [.int .i64 a.f0, .int .i64 a.f1, .bool a.f2, .int .i64 b.f0, .int .i64 b.f1, .bool b.f2, .int .i64 c.f0, .int .i64 c.f1, .bool c.f2, .int .i64 d.f0, .int .i64 d.f1, .bool d.f2] := by
  refine ⟨rfl, fun j p hp => ?_⟩
  match j, hp with
  | 0, hp => simp only [List.getElem?_cons_zero, Option.some.injEq] at hp; rw [← hp]; exact k54_mkM w base ok a
  | 1, hp => simp only [List.getElem?_cons_succ, List.getElem?_cons_zero, Option.some.injEq] at hp; rw [← hp]; exact k54_mkM w base ok b
  | 2, hp => simp only [List.getElem?_cons_succ, List.getElem?_cons_zero, Option.some.injEq] at hp; rw [← hp]; exact k54_mkM w base ok c
  | 3, hp => simp only [List.getElem?_cons_succ, List.getElem?_cons_zero, Option.some.injEq] at hp; rw [← hp]; exact k54_mkM w base ok d
  | j + 4, hp => simp at hp
theorem C54_block {w : World} {g : Nat} {ss : List Std} (h3 : w.heap[g]? = some (.cells (row ss).toArray 54 (0, 0))) (hl : ss.length ≤ 16) : Kd.C k54 w (some ⟨g, 0, none⟩) ss.length (ss.map s54) := by
  refine ⟨List.length_map _, by omega, fun _ => ⟨_, rfl, fun j p hp => ?_⟩⟩
  rw [List.getElem?_map] at hp
  obtain ⟨s, hs, rfl⟩ := Option.map_eq_some_iff.1 hp
  obtain ⟨h0, h1, h2⟩ := row_at ss j s hs
  have ha : ∀ i, (⟨g, 0, none⟩ : Addr).add (j * 3 + i) = ⟨g, j * 3 + i, none⟩ := fun i => by
    unfold Addr.add
    split
    · next h => rw [h]
    · simp
  refine ⟨[.int .i64 s.k, .int .i64 s.c, .bool s.o], rfl, k54_mk w (s54 s), fun i u hi => ?_⟩
  have e3 : k54.sz = 3 := rfl
  rw [e3, ha, cell_of h3, List.getElem?_toArray]
  match i, hi with
  | 0, hi => simp only [List.getElem?_cons_zero, Option.some.injEq] at hi; rw [← hi]; exact h0
  | 1, hi => simp only [List.getElem?_cons_succ, List.getElem?_cons_zero, Option.some.injEq] at hi; rw [← hi]; exact h1
  | 2, hi => simp only [List.getElem?_cons_succ, List.getElem?_cons_zero, Option.some.injEq] at hi; rw [← hi]; exact h2
  | i + 3, hi => simp at hi
theorem lit54C (w : World) (k : Int) : Kd.C k54 (w.alloc (.cells #[.int .i64 0, .int .i64 0, .bool false, .int .i64 0, .int .i64 0, .bool false, .int .i64 0, .int .i64 0, .bool false, .int .i64 k, .int .i64 0, .bool false] 54)) (some ⟨w.heap.size, 0, none⟩) 4 [⟨0, 0, false⟩, ⟨0, 0, false⟩, ⟨0, 0, false⟩, ⟨k, 0, false⟩] :=
  C54_block (ss := [⟨0, 0, false⟩, ⟨0, 0, false⟩, ⟨0, 0, false⟩, ⟨k, 0, false⟩]) (blk_new w _) (by simp)
theorem same_at (k n0 n1 c0 c1 : Nat) (A0 A1 : Option Addr) (l0 l1 : List S54) (e0 : n0 = l0.length) (e1 : n1 = l1.length) (w : World) (h0 : Aside0 (Kd.C k54 w A0 n0 l0)) (hc0 : n0 ≤ c0) (h1 : Aside0 (Kd.C k54 w A1 n1 l1)) (hc1 : n1 ≤ c1) (h : quorumiteref9_SameStandings.f k l0 l1 = some true) :
    Calls Try.prog 42 #[.slice A0 n0 c0, .slice A1 n1 c1] w fun e w' => e = .returned (.bool true) ∧ Below w.heap.size w w' := by
  subst e0 e1
  refine (quorumiteref9_SameStandings.calls k A0 c0 l0 A1 c1 l1 true w h0.out hc0 h1.out hc1 h).mono ?_
  rintro e w' ⟨rfl, hb⟩
  exact ⟨rfl, hb.below⟩
end Go.Proofs.Ytjcjibghnpjegaa.Sc
