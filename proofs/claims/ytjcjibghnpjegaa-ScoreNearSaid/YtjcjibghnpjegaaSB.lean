/- The score: judge and Close, and the contracts in the words that the laws' walks use (merged texts). -/
import Derived.Test.YtjcjibghnpjegaaSA
import Derived.Test.YtjcjibghnpjegaaTri
import Derived.Deep.RegionHeld3
import Derived.Test.YtjcjibghnpjegaaPr48
import Derived.Test.YtjcjibghnpjegaaPr57
/- What a judgement of one metric's samples tells, in plain words; movers for the walk. -/
namespace Go.Proofs.Ytjcjibghnpjegaa.Sc
open Go.RowKit Go.Proofs.Ytjcjibghnpjegaa.Pr Go.Proofs.YtjcjibghnpjegaaW.PrintWords Go.Proofs.YtjcjibghnpjegaaW.PrintLast Go.Proofs.YtjcjibghnpjegaaW.PrintMore
set_option linter.unusedVariables false
set_option linter.unusedSimpArgs false
def kept (ss : List Std) (xs : List S49) : List S49 := xs.filter (keep ss)
def vals (ss : List Std) (xs : List S49) : List Int := (kept ss xs).map (·.f3)
def med (ss : List Std) (xs : List S49) : Int := (Tri.medOf (vals ss xs)).1
def judged (ss : List Std) (q : Int) (xs : List S49) : Bool := (Tri.medOf (vals ss xs)).2 && decide ((kept ss xs).length ≥ q ∧ ((kept ss xs).length : Int) > 0)
def farS (fa m : Int) (s : S49) : Bool := decide (fa < wrap64 (s.f3 - m)) || decide (fa < wrap64 (m - s.f3))
def sentF (l : List S49) (f : Int → Bool) : Int → Bool := fun i => l.any (fun s => decide (i = s.f0)) || f i
def struckF (fa m : Int) (l : List S49) (f : Int → Bool) : Int → Bool := fun i => l.any (fun s => decide (i = s.f0) && farS fa m s) || f i
def sentJ (ss : List Std) (q : Int) (xs : List S49) (f : Int → Bool) : Int → Bool := if judged ss q xs = true then sentF (kept ss xs) f else f
def struckJ (fa : Int) (ss : List Std) (q : Int) (xs : List S49) (f : Int → Bool) : Int → Bool := if judged ss q xs = true then struckF fa (med ss xs) (kept ss xs) f else f
theorem sentF_snoc (l : List S49) (s : S49) (f : Int → Bool) : (fun j => decide (j = s.f0) || sentF l f j) = sentF (l ++ [s]) f := by
  funext j
  simp only [sentF, List.any_append, List.any_cons, List.any_nil, Bool.or_false]
  cases l.any (fun s => decide (j = s.f0)) <;> cases decide (j = s.f0) <;> simp
theorem struckF_snoc (fa m : Int) (l : List S49) (s : S49) (f : Int → Bool) (h : farS fa m s = true) : (fun j => decide (j = s.f0) || struckF fa m l f j) = struckF fa m (l ++ [s]) f := by
  funext j
  simp only [struckF, List.any_append, List.any_cons, List.any_nil, Bool.or_false, h, Bool.and_true]
  cases l.any (fun s => decide (j = s.f0) && farS fa m s) <;> cases decide (j = s.f0) <;> simp
theorem struckF_skip (fa m : Int) (l : List S49) (s : S49) (f : Int → Bool) (h : farS fa m s = false) : struckF fa m l f = struckF fa m (l ++ [s]) f := by
  funext j
  simp only [struckF, List.any_append, List.any_cons, List.any_nil, Bool.or_false, h, Bool.and_false]
theorem Ft.grown {S : Nat → Prop} {a b c : World} {k : Nat} (h : Ft S a b) (hg : b.grownBy c (some k)) (hk : S k) : Ft S a c := by
  refine ⟨h.1.grown hg (Nat.zero_le _) (fun _ _ => Nat.zero_le _), fun i hi hs => ?_⟩
  exact (hg.block i (Nat.lt_of_lt_of_le hi h.1.size) (fun e => hs (by injection e with e; rw [e]; exact hk))).trans (h.2 i hi hs)
theorem SR.ft {S : Nat → Prop} {w w' : World} {g : Nat} {xs : List S49} (h : SR w g xs) (hf : Ft S w w') (hg : g < w.heap.size) (hs : ¬ S g) : SR w' g xs := by
  have e := hf.2 g hg hs
  intro i s hi
  obtain ⟨h0, h1, h2, h3⟩ := h i s hi
  exact ⟨(World.cell?_of_block (a := ⟨g, i * 4, none⟩) e).trans h0, (World.cell?_of_block (a := ⟨g, i * 4 + 1, none⟩) e).trans h1, (World.cell?_of_block (a := ⟨g, i * 4 + 2, none⟩) e).trans h2, (World.cell?_of_block (a := ⟨g, i * 4 + 3, none⟩) e).trans h3⟩
theorem Sc.ft {S : Nat → Prop} {w w' : World} {b r : Nat} {st pr fa : Int} {ss : List Std} (h : Sc w b r st pr fa ss) (hf : Ft S w w') (hb : ¬ S b) (hr : ¬ S r) : Sc w' b r st pr fa ss := h.kept (hf.2 b h.lt.1 hb) (hf.2 r h.lt.2 hr)
theorem SetIs.ft {S : Nat → Prop} {w w' : World} {b n : Nat} {f : Int → Bool} (h : SetIs w b n f) (hf : Ft S w w') (hb : ¬ S b) : SetIs w' b n f := h.kept (hf.2 b h.lt hb)
theorem SetIs.below {w w' : World} {b n : Nat} {f : Int → Bool} (h : SetIs w b n f) (hb : Below w.heap.size w w') : SetIs w' b n f := h.kept (hb.block b h.lt)
/-- A row of samples of the call's own, opened. -/
theorem own49 {w : World} {base : Nat} {ok : Nat → Prop} {v : Value} {xs : List S49} (h : Kd.R k49 49 w base ok v xs) (hne : xs ≠ []) : ∃ g c, v = .slice (some ⟨g, 0, none⟩) xs.length c ∧ xs.length ≤ c ∧ base ≤ g ∧ g < w.heap.size ∧ SW w g xs := by
  obtain ⟨inner, hi⟩ := Kd.R_own h
  obtain ⟨A, c', hv, hcc, hC⟩ := Kd.R_reads h
  have hl : 0 < xs.length := by cases xs with | nil => exact absurd rfl hne | cons a t => simp
  rcases hi.2 with ⟨_, h0⟩ | ⟨g, cap, cur, e, hg, hh, hcap, r⟩
  · omega
  · refine ⟨g, cap, e, hcap, hg, lt_of_block hh, ?_, fun j => by simp [World.frozen?, hh]⟩
    rw [e] at hv
    injection hv with h1 h2 h3
    subst h1
    intro i s hs
    have hi : i < xs.length := by
      rcases Nat.lt_or_ge i xs.length with q | q
      · exact q
      · rw [List.getElem?_eq_none q] at hs; cases hs
    obtain ⟨ad, ea, h0, h1, h2, h3⟩ := at_T49 hC (i : Int) (by omega) (by omega)
    injection ea with ea
    subst ea
    have er : rd_T49 xs (i : Int) = s := by simp [rd_T49, hs]
    rw [er] at h0 h1 h2 h3
    have ead : (⟨g, 0, none⟩ : Addr).add ((i : Int).toNat * 4) = ⟨g, i * 4, none⟩ := by
      rw [Int.toNat_natCast]
      unfold Addr.add
      split
      · next h => rw [h]
      · simp
    rw [ead] at h0 h1 h2 h3
    exact ⟨h0, h1, h2, h3⟩
end Go.Proofs.Ytjcjibghnpjegaa.Sc

/- The walk of judge: which of a metric's samples are believed, their median, who sent any, who is far off. -/
namespace Go.Proofs.Ytjcjibghnpjegaa.Sc
open Go.RowKit Go.Proofs.Ytjcjibghnpjegaa.Pr Go.Proofs.YtjcjibghnpjegaaW.PrintWords Go.Proofs.YtjcjibghnpjegaaW.PrintLast Go.Proofs.YtjcjibghnpjegaaW.PrintMore
set_option linter.unusedVariables false
set_option linter.unusedSimpArgs false
theorem wr64 (x : Int) : IntKind.i64.wrap x = wrap64 x := by simp [wrap64, IntKind.wrap_i64]
set_option maxHeartbeats 2000000 in
set_option maxRecDepth 100000 in
theorem judge_calls {w : World} {b r gs gt n1 n2 c : Nat} {st pr fa : Int} {ss : List Std} {ad : Addr} (xs : List S49) (q : Int) (f1 f2 : Int → Bool) (hne : xs ≠ []) (hl : xs.length ≤ 1000) (hc : xs.length ≤ c) (h : Aside0 (Sc w b r st pr fa ss)) (hx : Aside0 (Kd.C k49 w (some ad) xs.length xs)) (hi : Aside0 (∀ s ∈ xs, InI s.f0))
    (h1 : Aside0 (SetIs w gs n1 f1)) (h2 : Aside0 (SetIs w gt n2 f2)) (hd : Aside0 (gs ≠ gt ∧ gs ≠ b ∧ gs ≠ r ∧ gt ≠ b ∧ gt ≠ r)) (hn1 : n1 ≤ 1000000) (hn2 : n2 ≤ 1000000) :
    Calls Try.prog 50 #[.pointer (some ⟨b, 0, none⟩), .slice (some ad) xs.length c, .int .i64 q, .map (some gs), .map (some gt)] w fun e w' => e = .returned (.tuple #[]) ∧ SetIs w' gs (n1 + xs.length) (struckJ fa ss q xs f1) ∧ SetIs w' gt (n2 + xs.length) (sentJ ss q xs f2) ∧ Ft (fun k => k = gs ∨ k = gt) w w' := by
  have HB := Aside0.mk (Below.refl w.heap.size w)
  have hA := Aside0.mk hne
  clear hne
  go_enter Try.func50, Try.ntmps50
  go_upto_region 2 with (first | ((with_reducible refine gate_dst (N := 5) rfl ?_); refine box_event ?hg (N := 5) ?hd (cs := #[.pointer (some ⟨b, 0, none⟩)]) (t := 45) ?hr ?_; (case hd => rfl); (case hg => rfl); (case hr => first | (go_simp; done) | (go_simp; rfl)); intro p hg w2 hbox hb; have BP := Aside0.mk hbox; have HG := Aside0.mk hg; have n0_ := Aside0.mk (below_step HB.out hb); clear HB; have HB := n0_; clear n0_ hb hbox hg) | (go_at_call 56; (with_reducible refine (clone49 (some ad) c xs _ (Kd.C_below hx.out HB.out) hc (by omega)).mono ?_); rintro e w3 ⟨v3, rfl, hr3, hb⟩; obtain ⟨g, c3, rfl, hc3, hg3, hlt3, hsw3⟩ := own49 hr3 hA.out; have hgp := Aside0.mk (Nat.lt_of_lt_of_le (blk_lt BP.out) hg3); have n1_ := Aside0.mk (blk_below BP.out hb); clear BP; have BP := n1_; have n0_ := Aside0.mk (below_step HB.out hb); have hgw := Aside0.mk (Nat.le_trans (below_size HB.out) hg3); clear HB; have HB := n0_; clear n0_ n1_ hb hr3 hg3; have HW3 := Aside0.mk hsw3; clear hsw3; have hp3 : Aside0 (w3.cell? ⟨p, 0, none⟩ = some (.pointer (some ⟨b, 0, none⟩))) := ⟨(blk_cell BP.out 0).trans rfl⟩; have hgb3 : Aside0 (g ≠ b ∧ g ≠ r ∧ g ≠ p) := ⟨by have := hgw.out; have := h.out.lt; omega, by have := hgw.out; have := h.out.lt; omega, by have := hgp.out; omega⟩) | (go_at_call 55; go_loud ((with_reducible refine (del_calls (w := _) (b := b) (r := r) (p := p) (g := g) (c := c3) (st := st) (pr := pr) (fa := fa) (ss := ss) xs hl hc3 ⟨h.out.below HB.out⟩ hp3 HW3 hgb3 hlt3).mono ?_); rintro e w4 ⟨rfl, hsr, hft⟩; have HR4 := Aside0.mk hsr; have HF4 := Aside0.mk hft; clear hsr hft)))
  have hks0 : kept ss xs = xs.filter (keep ss) := rfl
  obtain ⟨ks, hks⟩ : ∃ ks, ks = kept ss xs := ⟨_, rfl⟩
  rw [← hks0, ← hks] at HR4
  rw [← hks0, ← hks]
  have hkl : ks.length ≤ xs.length := by rw [hks]; exact List.length_filter_le _ _
  have hik : Aside0 (∀ s ∈ ks, InI s.f0) := ⟨fun s hs => hi.out s (by rw [hks] at hs; exact (List.mem_filter.1 hs).1)⟩
  have HKS := Aside0.mk hks
  clear hks hks0
  have HB4 : Aside0 (Below w.heap.size w w4) := ⟨HB.out.trans (HF4.out.below (below_size HB.out) (fun k e => by have := hgw.out; omega))⟩
  have hg4 : g < w4.heap.size := Nat.lt_of_lt_of_le hlt3 HF4.out.1.size
  have hp4 : Aside0 (w4.cell? ⟨p, 0, none⟩ = some (.pointer (some ⟨b, 0, none⟩))) := ⟨(World.cell?_of_block (a := ⟨p, 0, none⟩) (HF4.out.2 p (World.block_lt_of_cell? w3 _ hp3.out) (by have := hgp.out; omega))).trans hp3.out⟩
  have hpw : w.heap.size ≤ p := by have := HG.out; omega
  clear hp3 hgb3 HF4 HW3 BP hgp HB
  have HS4 : Aside0 (Sc w4 b r st pr fa ss) := ⟨h.out.below HB4.out⟩
  have HR0 := Aside0.mk (Below.refl w4.heap.size w4)
  go_wp2
  go_loopg [10, 23] ks.length (fun kq v10 v23 wr => ∃ i : Nat, v23 = .int .i64 (i : Int) ∧ Aside0 (kq + i = ks.length) ∧ Aside0 (Kd.R (Kd.int .i64) 2 wr w4.heap.size (fun _ => True) v10 ((ks.take i).map (·.f3))) ∧ Aside0 (Below w4.heap.size w4 wr))
  case atStart => exact ⟨0, rfl, ⟨by omega⟩, ⟨by rw [List.take_zero]; exact Kd.R_nil _ _ _ _ _⟩, HR0⟩
  case round =>
    rename_i wr _ _ _ _
    obtain ⟨i, rfl, HK, HO, HBw⟩ := hrel
    clear HR0
    by_cases hlt : (i : Int) < (ks.length : Int)
    · have dlt : decide ((i : Int) < (ks.length : Int)) = true := decide_eq_true hlt
      have hil : i < ks.length := by omega
      obtain ⟨s, hs⟩ : ∃ s, ks[i]? = some s := ⟨ks[i], List.getElem?_eq_getElem hil⟩
      obtain ⟨q0, q1, q2, q3⟩ := (HR4.out.below HBw.out) i s hs
      go_upto_region 6 with (first | ((with_reducible refine gate_dst (N := 12) rfl ?_); refine box_event ?hg (N := 12) ?hd (cs := #[.int .i64 0, .int .i64 0, .int .i64 0, .int .i64 0]) (t := 49) ?hr ?_; (case hd => rfl); (case hg => rfl); (case hr => first | (go_simp; done) | (go_simp; rfl)); intro gb hg w5 hbox hb; have BK := Aside0.mk hbox; have HB5 := Aside0.mk hb; have hcz_0 : w5.cell? ⟨gb, 0, none⟩ = some (.int .i64 0) := (blk_cell hbox 0).trans rfl; have hfz_0 := blk_frozen hbox 0; have hcz_1 : w5.cell? ⟨gb, 1, none⟩ = some (.int .i64 0) := (blk_cell hbox 1).trans rfl; have hfz_1 := blk_frozen hbox 1; have hcz_2 : w5.cell? ⟨gb, 2, none⟩ = some (.int .i64 0) := (blk_cell hbox 2).trans rfl; have hfz_2 := blk_frozen hbox 2; have hcz_3 : w5.cell? ⟨gb, 3, none⟩ = some (.int .i64 0) := (blk_cell hbox 3).trans rfl; have hfz_3 := blk_frozen hbox 3; have HG := Aside0.mk hg; clear hb hbox hg))
      have hb1 := box49_put BK.out HB5.out HG.out (.int .i64 s.f0) (.int .i64 s.f1) (.int .i64 s.f2) (.int .i64 s.f3)
      clear q0 q1 q2 q3 hcz_0 hfz_0 hcz_1 hfz_1 hcz_2 hfz_2 hcz_3 hfz_3
      generalize ((((w5.setCell ⟨gb, 0, none⟩ (.int .i64 s.f0)).setCell ⟨gb, 1, none⟩ (.int .i64 s.f1)).setCell ⟨gb, 2, none⟩ (.int .i64 s.f2)).setCell ⟨gb, 3, none⟩ (.int .i64 s.f3)) = W1 at *
      have HB1 := Aside0.mk hb1.1
      have BK1 := Aside0.mk hb1.2
      clear hb1 BK HB5
      have x0 : W1.cell? ⟨gb, 0, none⟩ = some (.int .i64 s.f0) := (blk_cell BK1.out 0).trans rfl
      have x1 : W1.cell? ⟨gb, 1, none⟩ = some (.int .i64 s.f1) := (blk_cell BK1.out 1).trans rfl
      have x2 : W1.cell? ⟨gb, 2, none⟩ = some (.int .i64 s.f2) := (blk_cell BK1.out 2).trans rfl
      have x3 : W1.cell? ⟨gb, 3, none⟩ = some (.int .i64 s.f3) := (blk_cell BK1.out 3).trans rfl
      have HBW : Aside0 (Below w4.heap.size w4 W1) := ⟨below_step HBw.out HB1.out⟩
      have HO1 := Aside0.mk (Kd.R_below HO.out HB1.out)
      have htk : (ks.take i).map (·.f3) ++ [s.f3] = (ks.take (i + 1)).map (·.f3) := by rw [List.take_add_one, hs, List.map_append]; rfl
      have HTK := Aside0.mk htk
      have LM : Aside0 (((ks.take i).map (·.f3)).length < 100000) := ⟨by rw [List.length_map, List.length_take]; omega⟩
      clear htk HO
      go_wp2_with (first | ((with_reducible refine gate_builtin (b := .append) (xs := #[.tmp 27, .tmp 30]) rfl ?_); at_builtin; refine Kd.R_append (Kd.int .i64) (w0 := w4) w4.heap.size rfl (.tmp 27) (.tmp 30) 22 2 (.int .i64 0) 8 rfl Try.underlying22 info2 rfl (by decide) (by omega) _ ((ks.take i).map (·.f3)) s.f3 [.int .i64 s.f3] (fun _ => True) (fun _ => False) rfl rfl ?aP (fun _ hk => hk.elim) ?aF ?aO ?aB ?aS ?aL ?_; (case aP => exact rfl); (case aB => exact (by repeat (first | (with_reducible first | exact HBW.out | apply below_alloc | apply pw_below_drewN | apply below_drew1) | exact HBW.out))); (case aF => exact (fun _ _ => trivial)); (case aO => exact (by (with_reducible repeat (first | apply Kd.R_alloc | apply Kd.R_drewN | apply Kd.R_drew)); exact HO1.out)); (case aS => exact (below_size (by repeat (first | (with_reducible first | exact HBW.out | apply below_alloc | apply pw_below_drewN | apply below_drew1) | exact HBW.out)))); (case aL => have := LM.out; omega); intro v542 w7 ho hb hg hat; rw [HTK.out] at ho; have HB7 := Aside0.mk (hb); have HO7 := Aside0.mk (ho); clear ho hb hg hat))
      go_roundg (gk - 1)
      case measure => have := HK.out; omega
      case rel => exact ⟨i + 1, (by first | rfl | (simp; done) | (congr 1; unfold wrap64; omega)), ⟨by have := HK.out; omega⟩, HO7, HB7⟩
    · have dlt : decide ((i : Int) < (ks.length : Int)) = false := decide_eq_false hlt
      have hO := HO.out
      rw [List.take_of_length_le (by have := HK.out; omega)] at hO
      obtain ⟨vs, hvs⟩ : ∃ vs, vs = ks.map (·.f3) := ⟨_, rfl⟩
      rw [← hvs] at hO
      have hvln : vs.length = ks.length := by rw [hvs, List.length_map]
      have HVL := Aside0.mk hvln
      have HVS := Aside0.mk hvs
      clear hvs hvln
      obtain ⟨A, cv, hv, hcv, hC⟩ := Kd.R_reads hO
      subst hv
      clear hO HO
      have hvlt : vs.length < 17592186044416 := by rw [HVL.out]; omega
      obtain ⟨K0, hK0⟩ := Tri.median_ev vs hvlt
      have hM := hK0 K0 (Nat.le_refl _)
      clear hK0
      have hvals : vals ss xs = vs := by rw [HVS.out, HKS.out]; rfl
      have HV := Aside0.mk hvals
      have hkeq : kept ss xs = ks := HKS.out.symm
      clear hvals
      obtain ⟨m, is, hmed⟩ : ∃ m is, Tri.medOf vs = (m, is) := ⟨_, _, rfl⟩
      rw [hmed] at hM
      have HKQ := Aside0.mk hkeq
      clear hkeq
      have HSGw := Aside0.mk (((h1.out.below HB4.out).below HBw.out))
      have HSTw := Aside0.mk (((h2.out.below HB4.out).below HBw.out))
      have HBW : Aside0 (Below w.heap.size w wr) := ⟨below_step HB4.out HBw.out⟩
      have HCv := Aside0.mk hC
      have HMv := Aside0.mk hM
      have HME := Aside0.mk hmed
      clear hC hM hmed
      cases his : is with
      | false =>
        subst his
        have hJ : judged ss q xs = false := by unfold judged; rw [HV.out, HME.out]; rfl
        have e1 : struckJ fa ss q xs f1 = f1 := by unfold struckJ; rw [hJ]; rfl
        have e2 : sentJ ss q xs f2 = f2 := by unfold sentJ; rw [hJ]; rfl
        have E1 := Aside0.mk e1
        have E2 := Aside0.mk e2
        clear hJ e1 e2
        go_wp2_with (first | (go_at_call 27; go_loud ((with_reducible refine (trim_Median.calls K0 A cv vs m false wr HCv.out hcv HMv.out).mono ?_); rintro e w6 ⟨rfl, hb⟩; have HB6 := Aside0.mk hb; clear hb)))
        refine bodyPost_ret (results_none rfl _ _ _) rfl ?_
        exact ⟨rfl, by rw [E1.out]; exact (HSGw.out.below HB6.out).mono (by omega), by rw [E2.out]; exact (HSTw.out.below HB6.out).mono (by omega), Ft.of_below (below_step HBW.out HB6.out)⟩
      | true =>
        subst his
        obtain ⟨jd, hjd⟩ : ∃ jd : Bool, jd = decide (((vs.length : Int)) ≥ q ∧ ((vs.length : Int)) > 0) := ⟨_, rfl⟩
        have hQ := Tri.quorum_eq ((vs.length : Int)) q
        rw [← hjd] at hQ
        have hJ : judged ss q xs = jd := by
          unfold judged
          rw [HV.out, HME.out, hjd, HKQ.out, HVL.out]
          rfl
        have HQ := Aside0.mk hQ
        clear hQ
        cases jd with
        | false =>
          have e1 : struckJ fa ss q xs f1 = f1 := by unfold struckJ; rw [hJ]; rfl
          have e2 : sentJ ss q xs f2 = f2 := by unfold sentJ; rw [hJ]; rfl
          have E1 := Aside0.mk e1
          have E2 := Aside0.mk e2
          clear hJ e1 e2 hjd
          go_wp2_with (first | (go_at_call 27; (with_reducible refine (trim_Median.calls K0 A cv vs m true wr HCv.out hcv HMv.out).mono ?_); rintro e w6 ⟨rfl, hb⟩; have HB6 := Aside0.mk hb; clear hb) | (go_at_call 33; (with_reducible refine (trim_Quorum.calls _ _ false _ HQ.out).mono ?_); rintro e w7 ⟨rfl, hb⟩; have HB7 := Aside0.mk (hb.below); clear hb))
          refine bodyPost_ret (results_none rfl _ _ _) rfl ?_
          exact ⟨rfl, by rw [E1.out]; exact ((HSGw.out.below HB6.out).below HB7.out).mono (by omega), by rw [E2.out]; exact ((HSTw.out.below HB6.out).below HB7.out).mono (by omega), Ft.of_below (below_step (below_step HBW.out HB6.out) HB7.out)⟩
        | true =>
          have hmd : med ss xs = m := by unfold med; rw [HV.out, HME.out]
          have e1 : struckJ fa ss q xs f1 = struckF fa m ks f1 := by unfold struckJ; rw [hJ, if_pos rfl, hmd, HKQ.out]
          have e2 : sentJ ss q xs f2 = sentF ks f2 := by unfold sentJ; rw [hJ, if_pos rfl, HKQ.out]
          have E1 := Aside0.mk e1
          have E2 := Aside0.mk e2
          clear hJ e1 e2 hjd hmd
          go_wp2_with (first | (go_at_call 27; (with_reducible refine (trim_Median.calls K0 A cv vs m true wr HCv.out hcv HMv.out).mono ?_); rintro e w6 ⟨rfl, hb⟩; have HB6 := Aside0.mk hb; clear hb) | (go_at_call 33; (with_reducible refine (trim_Quorum.calls _ _ true _ HQ.out).mono ?_); rintro e w7 ⟨rfl, hb⟩; have HB7 := Aside0.mk (hb.below); clear hb))
          have HBX : Aside0 (Below w4.heap.size w4 w7) := ⟨below_step (below_step HBw.out HB6.out) HB7.out⟩
          have HBY : Aside0 (Below w.heap.size w w7) := ⟨below_step (below_step HBW.out HB6.out) HB7.out⟩
          have HSG7 := Aside0.mk ((HSGw.out.below HB6.out).below HB7.out)
          have HST7 := Aside0.mk ((HSTw.out.below HB6.out).below HB7.out)
          have HR7 := Aside0.mk (HR4.out.below HBX.out)
          have hp7 : Aside0 (w7.cell? ⟨p, 0, none⟩ = some (.pointer (some ⟨b, 0, none⟩))) := ⟨(HBX.out.cell (World.block_lt_of_cell? w4 _ hp4.out)).trans hp4.out⟩
          have HS7 := Aside0.mk (HS4.out.below HBX.out)
          have hg7 : g < w7.heap.size := Nat.lt_of_lt_of_le hg4 HBX.out.size
          have hgs : gs < w.heap.size := h1.out.lt
          have hgt : gt < w.heap.size := h2.out.lt
          clear HBX HSGw HSTw HBW HCv HMv HR4 HS4 hp4 HB4 HBw HB6 HB7 HQ HV HME hlt HK
          go_loopg [49] ks.length (fun kq v49 wr => ∃ i : Nat, v49 = .int .i64 (i : Int) ∧ Aside0 (kq + i = ks.length) ∧ Aside0 (Ft (fun k => k = gs ∨ k = gt) w7 wr) ∧ Aside0 (SetIs wr gs (n1 + i) (struckF fa m (ks.take i) f1)) ∧ Aside0 (SetIs wr gt (n2 + i) (sentF (ks.take i) f2)))
          case atStart => exact ⟨0, rfl, ⟨by omega⟩, ⟨Ft.refl _ _⟩, HSG7, HST7⟩
          case round =>
            rename_i wr _ _ _ _
            obtain ⟨i, rfl, HK, HF, HSG, HST⟩ := hrel
            clear HSG7 HST7
            by_cases hlt : (i : Int) < (ks.length : Int)
            · have dlt : decide ((i : Int) < (ks.length : Int)) = true := decide_eq_true hlt
              have hil : i < ks.length := by omega
              obtain ⟨s, hs⟩ : ∃ s, ks[i]? = some s := ⟨ks[i], List.getElem?_eq_getElem hil⟩
              have hsi : InI s.f0 := hik.out s (List.mem_of_getElem? hs)
              have htk : ks.take (i + 1) = ks.take i ++ [s] := by rw [List.take_add_one, hs]; rfl
              have HTK := Aside0.mk htk
              clear htk
              obtain ⟨q0, q1, q2, q3⟩ := (HR7.out.ft HF.out hg7 (by have := hgw.out; omega)) i s hs
              go_upto_region 13 with (first | ((with_reducible refine gate_dst (N := 16) rfl ?_); refine box_event ?hg (N := 16) ?hd (cs := #[.int .i64 0, .int .i64 0, .int .i64 0, .int .i64 0]) (t := 49) ?hr ?_; (case hd => rfl); (case hg => rfl); (case hr => first | (go_simp; done) | (go_simp; rfl)); intro gb hg w5 hbox hb; have BK := Aside0.mk hbox; have HB5 := Aside0.mk hb; have hcz_0 : w5.cell? ⟨gb, 0, none⟩ = some (.int .i64 0) := (blk_cell hbox 0).trans rfl; have hfz_0 := blk_frozen hbox 0; have hcz_1 : w5.cell? ⟨gb, 1, none⟩ = some (.int .i64 0) := (blk_cell hbox 1).trans rfl; have hfz_1 := blk_frozen hbox 1; have hcz_2 : w5.cell? ⟨gb, 2, none⟩ = some (.int .i64 0) := (blk_cell hbox 2).trans rfl; have hfz_2 := blk_frozen hbox 2; have hcz_3 : w5.cell? ⟨gb, 3, none⟩ = some (.int .i64 0) := (blk_cell hbox 3).trans rfl; have hfz_3 := blk_frozen hbox 3; have HG := Aside0.mk hg; clear hb hbox hg))
              have hb1 := box49_put BK.out HB5.out HG.out (.int .i64 s.f0) (.int .i64 s.f1) (.int .i64 s.f2) (.int .i64 s.f3)
              clear q0 q1 q2 q3 hcz_0 hfz_0 hcz_1 hfz_1 hcz_2 hfz_2 hcz_3 hfz_3
              generalize ((((w5.setCell ⟨gb, 0, none⟩ (.int .i64 s.f0)).setCell ⟨gb, 1, none⟩ (.int .i64 s.f1)).setCell ⟨gb, 2, none⟩ (.int .i64 s.f2)).setCell ⟨gb, 3, none⟩ (.int .i64 s.f3)) = W1 at *
              have HB1 := Aside0.mk hb1.1
              have BK1 := Aside0.mk hb1.2
              clear hb1 BK HB5
              have x0 : W1.cell? ⟨gb, 0, none⟩ = some (.int .i64 s.f0) := (blk_cell BK1.out 0).trans rfl
              have x1 : W1.cell? ⟨gb, 1, none⟩ = some (.int .i64 s.f1) := (blk_cell BK1.out 1).trans rfl
              have x2 : W1.cell? ⟨gb, 2, none⟩ = some (.int .i64 s.f2) := (blk_cell BK1.out 2).trans rfl
              have x3 : W1.cell? ⟨gb, 3, none⟩ = some (.int .i64 s.f3) := (blk_cell BK1.out 3).trans rfl
              have HSG1 := Aside0.mk (HSG.out.below HB1.out)
              have HST1 := Aside0.mk (HST.out.below HB1.out)
              have HF1 : Aside0 (Ft (fun k => k = gs ∨ k = gt) w7 W1) := ⟨HF.out.trans (Ft.of_below HB1.out)⟩
              have hgbw : w7.heap.size ≤ gb := by rw [HG.out]; exact HF.out.1.size
              have hww : w.heap.size ≤ w7.heap.size := below_size HBY.out
              clear HF HSG HST HB1 HG
              obtain ⟨D1, hD1⟩ : ∃ D1, IntKind.i64.wrap (s.f3 - m) = D1 := ⟨_, rfl⟩
              obtain ⟨D2, hD2⟩ : ∃ D2, IntKind.i64.wrap (m - s.f3) = D2 := ⟨_, rfl⟩
              have hfs : Aside0 (farS fa m s = (decide (fa < D1) || decide (fa < D2))) := ⟨by unfold farS; rw [← hD1, ← hD2, wr64, wr64]⟩
              by_cases a1 : fa < D1
              · have d1 : decide (fa < D1) = true := decide_eq_true a1
                have hfar : farS fa m s = true := by rw [hfs.out]; simp [a1]
                go_upto_region 14 with (first | (at_mapUpdate; refine wpList_store_set _ rfl _ _ _ rfl gt (n2 + i) _ rfl HST1.out (by simp only [maxLen]; omega) s.f0 rfl hsi rfl ?_; intro w8 hs8 hg8; have HST8 := Aside0.mk hs8; have HF8 := Aside0.mk (HF1.out.grown hg8 (Or.inr rfl)); have HSG8 : Aside0 (SetIs w8 gs (n1 + i) (struckF fa m (ks.take i) f1)) := ⟨HSG1.out.kept (hg8.block gs HSG1.out.lt (fun e => hd.out.1 (by injection e)))⟩; have BK8 := Aside0.mk (blk_grown BK1.out hg8 (fun e => by injection e with e; omega)); clear hs8 hg8 x0 x1 x2 x3 HST1 HSG1 HF1 BK1))
                have x0 : w8.cell? ⟨gb, 0, none⟩ = some (.int .i64 s.f0) := (blk_cell BK8.out 0).trans rfl
                have x3 : w8.cell? ⟨gb, 3, none⟩ = some (.int .i64 s.f3) := (blk_cell BK8.out 3).trans rfl
                have hp8 : w8.cell? ⟨p, 0, none⟩ = some (.pointer (some ⟨b, 0, none⟩)) := (World.cell?_of_block (a := ⟨p, 0, none⟩) (HF8.out.2 p (World.block_lt_of_cell? w7 _ hp7.out) (by omega))).trans hp7.out
                have c3_ := (HS7.out.ft HF8.out (by have := hd.out; omega) (by have := hd.out; omega)).c3
                dsimp only [Act.put]
                go_big_quiet (fail)
                have HST9 := Aside0.mk (HST8.out.below (pw_below_drewN (Below.refl _ _) nq))
                have HSG9 := Aside0.mk (HSG8.out.below (pw_below_drewN (Below.refl _ _) nq))
                have HF9 : Aside0 (Ft (fun k => k = gs ∨ k = gt) w7 (w8.drewN nq)) := ⟨HF8.out.trans (Ft.of_below (pw_below_drewN (Below.refl _ _) nq))⟩
                have y0 : (w8.drewN nq).cell? ⟨gb, 0, none⟩ = some (.int .i64 s.f0) := x0
                clear x0 x3 hp8 c3_
                generalize w8.drewN nq = W9 at *
                go_wp2_with (first | (at_mapUpdate; refine wpList_store_set _ rfl _ _ _ rfl gs (n1 + i) _ rfl HSG9.out (by simp only [maxLen]; omega) s.f0 rfl hsi rfl ?_; intro w10 hs10 hg10; have HSG10 := Aside0.mk hs10; have HF10 := Aside0.mk (HF9.out.grown hg10 (Or.inl rfl)); have HST10 := Aside0.mk (HST9.out.kept (hg10.block gt HST9.out.lt (fun e => hd.out.1 (by injection e with e; exact e.symm)))); clear hs10 hg10))
                go_roundg (gk - 1)
                case measure => have := HK.out; omega
                case rel => exact ⟨i + 1, (by first | rfl | (simp; done) | (congr 1; unfold wrap64; omega)), ⟨by have := HK.out; omega⟩, HF10, ⟨by rw [HTK.out, ← struckF_snoc fa m _ s f1 hfar]; exact HSG10.out⟩, ⟨by rw [HTK.out, ← sentF_snoc]; exact HST10.out⟩⟩
              · have d1 : decide (fa < D1) = false := decide_eq_false a1
                by_cases a2 : fa < D2
                · have d2 : decide (fa < D2) = true := decide_eq_true a2
                  have hfar : farS fa m s = true := by rw [hfs.out]; simp [a2]
                  go_upto_region 14 with (first | (at_mapUpdate; refine wpList_store_set _ rfl _ _ _ rfl gt (n2 + i) _ rfl HST1.out (by simp only [maxLen]; omega) s.f0 rfl hsi rfl ?_; intro w8 hs8 hg8; have HST8 := Aside0.mk hs8; have HF8 := Aside0.mk (HF1.out.grown hg8 (Or.inr rfl)); have HSG8 : Aside0 (SetIs w8 gs (n1 + i) (struckF fa m (ks.take i) f1)) := ⟨HSG1.out.kept (hg8.block gs HSG1.out.lt (fun e => hd.out.1 (by injection e)))⟩; have BK8 := Aside0.mk (blk_grown BK1.out hg8 (fun e => by injection e with e; omega)); clear hs8 hg8 x0 x1 x2 x3 HST1 HSG1 HF1 BK1))
                  have x0 : w8.cell? ⟨gb, 0, none⟩ = some (.int .i64 s.f0) := (blk_cell BK8.out 0).trans rfl
                  have x3 : w8.cell? ⟨gb, 3, none⟩ = some (.int .i64 s.f3) := (blk_cell BK8.out 3).trans rfl
                  have hp8 : w8.cell? ⟨p, 0, none⟩ = some (.pointer (some ⟨b, 0, none⟩)) := (World.cell?_of_block (a := ⟨p, 0, none⟩) (HF8.out.2 p (World.block_lt_of_cell? w7 _ hp7.out) (by omega))).trans hp7.out
                  have c3_ := (HS7.out.ft HF8.out (by have := hd.out; omega) (by have := hd.out; omega)).c3
                  dsimp only [Act.put]
                  go_big_quiet (fail)
                  have HST9 := Aside0.mk (HST8.out.below (pw_below_drewN (Below.refl _ _) nq))
                  have HSG9 := Aside0.mk (HSG8.out.below (pw_below_drewN (Below.refl _ _) nq))
                  have HF9 : Aside0 (Ft (fun k => k = gs ∨ k = gt) w7 (w8.drewN nq)) := ⟨HF8.out.trans (Ft.of_below (pw_below_drewN (Below.refl _ _) nq))⟩
                  have y0 : (w8.drewN nq).cell? ⟨gb, 0, none⟩ = some (.int .i64 s.f0) := x0
                  clear x0 x3 hp8 c3_
                  generalize w8.drewN nq = W9 at *
                  go_wp2_with (first | (at_mapUpdate; refine wpList_store_set _ rfl _ _ _ rfl gs (n1 + i) _ rfl HSG9.out (by simp only [maxLen]; omega) s.f0 rfl hsi rfl ?_; intro w10 hs10 hg10; have HSG10 := Aside0.mk hs10; have HF10 := Aside0.mk (HF9.out.grown hg10 (Or.inl rfl)); have HST10 := Aside0.mk (HST9.out.kept (hg10.block gt HST9.out.lt (fun e => hd.out.1 (by injection e with e; exact e.symm)))); clear hs10 hg10))
                  go_roundg (gk - 1)
                  case measure => have := HK.out; omega
                  case rel => exact ⟨i + 1, (by first | rfl | (simp; done) | (congr 1; unfold wrap64; omega)), ⟨by have := HK.out; omega⟩, HF10, ⟨by rw [HTK.out, ← struckF_snoc fa m _ s f1 hfar]; exact HSG10.out⟩, ⟨by rw [HTK.out, ← sentF_snoc]; exact HST10.out⟩⟩
                · have d2 : decide (fa < D2) = false := decide_eq_false a2
                  have hfar : farS fa m s = false := by rw [hfs.out]; simp [a1, a2]
                  go_upto_region 14 with (first | (at_mapUpdate; refine wpList_store_set _ rfl _ _ _ rfl gt (n2 + i) _ rfl HST1.out (by simp only [maxLen]; omega) s.f0 rfl hsi rfl ?_; intro w8 hs8 hg8; have HST8 := Aside0.mk hs8; have HF8 := Aside0.mk (HF1.out.grown hg8 (Or.inr rfl)); have HSG8 : Aside0 (SetIs w8 gs (n1 + i) (struckF fa m (ks.take i) f1)) := ⟨HSG1.out.kept (hg8.block gs HSG1.out.lt (fun e => hd.out.1 (by injection e)))⟩; have BK8 := Aside0.mk (blk_grown BK1.out hg8 (fun e => by injection e with e; omega)); clear hs8 hg8 x0 x1 x2 x3 HST1 HSG1 HF1 BK1))
                  have x0 : w8.cell? ⟨gb, 0, none⟩ = some (.int .i64 s.f0) := (blk_cell BK8.out 0).trans rfl
                  have x3 : w8.cell? ⟨gb, 3, none⟩ = some (.int .i64 s.f3) := (blk_cell BK8.out 3).trans rfl
                  have hp8 : w8.cell? ⟨p, 0, none⟩ = some (.pointer (some ⟨b, 0, none⟩)) := (World.cell?_of_block (a := ⟨p, 0, none⟩) (HF8.out.2 p (World.block_lt_of_cell? w7 _ hp7.out) (by omega))).trans hp7.out
                  have c3_ := (HS7.out.ft HF8.out (by have := hd.out; omega) (by have := hd.out; omega)).c3
                  dsimp only [Act.put]
                  go_big_quiet (fail)
                  have HST9 := Aside0.mk (HST8.out.below (pw_below_drewN (Below.refl _ _) nq))
                  have HSG9 := Aside0.mk (HSG8.out.below (pw_below_drewN (Below.refl _ _) nq))
                  have HF9 : Aside0 (Ft (fun k => k = gs ∨ k = gt) w7 (w8.drewN nq)) := ⟨HF8.out.trans (Ft.of_below (pw_below_drewN (Below.refl _ _) nq))⟩
                  clear x0 x3 hp8 c3_
                  generalize w8.drewN nq = W9 at *
                  go_wp2
                  go_roundg (gk - 1)
                  case measure => have := HK.out; omega
                  case rel => exact ⟨i + 1, (by first | rfl | (simp; done) | (congr 1; unfold wrap64; omega)), ⟨by have := HK.out; omega⟩, HF9, ⟨by rw [HTK.out, ← struckF_skip fa m _ s f1 hfar]; exact HSG9.out.mono (by omega)⟩, ⟨by rw [HTK.out, ← sentF_snoc]; exact HST9.out⟩⟩
            · have dlt : decide ((i : Int) < (ks.length : Int)) = false := decide_eq_false hlt
              have hi' : ks.take i = ks := List.take_of_length_le (by have := HK.out; omega)
              have HI := Aside0.mk hi'
              clear hi'
              go_wp2
              go_end0
              refine ⟨rfl, ?_, ?_, ?_⟩
              · rw [E1.out]
                have := HSG.out
                rw [HI.out] at this
                exact this.mono (by have := HK.out; omega)
              · rw [E2.out]
                have := HST.out
                rw [HI.out] at this
                exact this.mono (by have := HK.out; omega)
              · exact (Ft.of_below HBY.out).trans (HF.out)
end Go.Proofs.Ytjcjibghnpjegaa.Sc

/- What closing an epoch comes to, in plain words; movers for the walk. -/
namespace Go.Proofs.Ytjcjibghnpjegaa.Sc
open Go.Maps Go.RowKit Go.Proofs.Ytjcjibghnpjegaa.Pr Go.Proofs.YtjcjibghnpjegaaW.PrintWords Go.Proofs.YtjcjibghnpjegaaW.PrintLast Go.Proofs.YtjcjibghnpjegaaW.PrintMore
set_option linter.unusedVariables false
set_option linter.unusedSimpArgs false
theorem info3 : (Try.prog.info? 3).map (fun i => (i.zero, i.size, i.bytes)) = some (some (.int .i64 0), 1, 8) := by kernel_rfl
theorem SetIs.run {w : World} {b n : Nat} {f : Int → Bool} (h : SetIs w b n f) {i : Int} (hi : InI i) : (Instr.lookup 71 (.map (some b)) (.int .i64 i) false).run Try.prog w = .ok (.bool (f i)) w := by
  obtain ⟨D, hown, hf⟩ := h
  obtain ⟨v, ps, hrun, hv⟩ := hown.lookup key3 Try.underlying71 (zero4 w) (plainElem_bool Try.underlying4 false) (keyOf_int_mk Try.underlying3 (wf_of hi))
  obtain ⟨c, rfl, hc⟩ := plainElem_bool_inv hv
  have hc' : D.atKey (.int .i64 i) (.lit (.bool false)) = .lit (.bool c) := congrArg Prod.fst hc
  rw [hf i hi] at hc'
  injection hc' with hc'
  injection hc' with hc'
  rw [hc']
  exact hrun
def endL (st pr : Int) (fs ft : Int → Bool) : Nat → List Std → List Std × List Int
  | _, [] => ([], [])
  | i, s :: l => ((endS st pr s (fs i) (ft i)).1 :: (endL st pr fs ft (i + 1) l).1, if (endS st pr s (fs i) (ft i)).2 = true then (i : Int) :: (endL st pr fs ft (i + 1) l).2 else (endL st pr fs ft (i + 1) l).2)
theorem endL_length (st pr : Int) (fs ft : Int → Bool) : ∀ (l : List Std) (i : Nat), (endL st pr fs ft i l).1.length = l.length
  | [], _ => rfl
  | s :: l, i => by simp only [endL, List.length_cons, endL_length st pr fs ft l (i + 1)]
theorem endL_outs (st pr : Int) (fs ft : Int → Bool) : ∀ (l : List Std) (i : Nat), (endL st pr fs ft i l).2.length ≤ l.length
  | [], _ => Nat.le_refl _
  | s :: l, i => by
    have := endL_outs st pr fs ft l (i + 1)
    simp only [endL]
    split <;> simp only [List.length_cons] <;> omega
def struckM (fa : Int) (ss : List Std) (q : Int) (ms : List (List S49)) (f : Int → Bool) : Int → Bool := ms.foldl (fun f xs => struckJ fa ss q xs f) f
def sentM (ss : List Std) (q : Int) (ms : List (List S49)) (f : Int → Bool) : Int → Bool := ms.foldl (fun f xs => sentJ ss q xs f) f
/-- A closed epoch: what is known of each behind it, and who was put out. -/
def closeS (st pr fa : Int) (q : Int) (ms : List (List S49)) (ss : List Std) : List Std × List Int :=
  endL st pr (struckM fa ss q ms (fun _ => false)) (sentM ss q ms (fun _ => false)) 0 ss
/-- A metric's samples as a slice. -/
structure Met where
  ad : Addr
  c : Nat
  xs : List S49
def MR (w : World) (lb : Nat) (ms : List Met) : Prop :=
  ∀ (j : Nat) (m : Met), ms[j]? = some m → w.cell? ⟨lb, j, none⟩ = some (.slice (some m.ad) m.xs.length m.c) ∧ Kd.C k49 w (some m.ad) m.xs.length m.xs ∧ m.xs ≠ [] ∧ m.xs.length ≤ m.c ∧ m.xs.length ≤ 1000 ∧ ∀ s ∈ m.xs, InI s.f0
theorem MR.nil (w : World) (lb : Nat) : MR w lb [] := fun j m h => by simp at h
theorem MR.below {w w' : World} {lb : Nat} {ms : List Met} (h : MR w lb ms) (hb : Below w.heap.size w w') : MR w' lb ms := by
  intro j m hm
  obtain ⟨h0, h1, h2⟩ := h j m hm
  exact ⟨(hb.cell (p := ⟨lb, j, none⟩) (World.block_lt_of_cell? w _ h0)).trans h0, Kd.C_below h1 hb, h2⟩
theorem Ft.then_below {S : Nat → Prop} {a b c : World} (h : Ft S a b) (hb : Below a.heap.size b c) : Ft S a c :=
  ⟨h.1.trans (hb.mono (Nat.zero_le _)), fun k hk hs => (hb.block k hk).trans (h.2 k hk hs)⟩
theorem struckM_snoc (fa : Int) (ss : List Std) (q : Int) (ms : List (List S49)) (xs : List S49) (f : Int → Bool) : struckJ fa ss q xs (struckM fa ss q ms f) = struckM fa ss q (ms ++ [xs]) f := by
  simp [struckM, List.foldl_append]
theorem sentM_snoc (ss : List Std) (q : Int) (ms : List (List S49)) (xs : List S49) (f : Int → Bool) : sentJ ss q xs (sentM ss q ms f) = sentM ss q (ms ++ [xs]) f := by
  simp [sentM, List.foldl_append]
theorem end_step {st pr : Int} {fs ft : Int → Bool} {ss cs : List Std} {out : List Int} {i : Nat} {s : Std} {E : List Std × List Int} (hl : cs.length = ss.length) (hi : i < ss.length) (hs : cs[i]? = some s) (hd : cs.drop i = ss.drop i)
    (h1 : cs.take i ++ (endL st pr fs ft i (ss.drop i)).1 = E.1) (h2 : out ++ (endL st pr fs ft i (ss.drop i)).2 = E.2) :
    (cs.set i (endS st pr s (fs i) (ft i)).1).drop (i + 1) = ss.drop (i + 1) ∧ (cs.set i (endS st pr s (fs i) (ft i)).1).take (i + 1) ++ (endL st pr fs ft (i + 1) (ss.drop (i + 1))).1 = E.1 ∧
      (if (endS st pr s (fs i) (ft i)).2 = true then out ++ [(i : Int)] else out) ++ (endL st pr fs ft (i + 1) (ss.drop (i + 1))).2 = E.2 := by
  have e1 : ss[i]? = some s := by
    have : (cs.drop i)[0]? = (ss.drop i)[0]? := by rw [hd]
    simpa [hs] using this.symm
  have e2 : ss.drop i = s :: ss.drop (i + 1) := by
    rw [List.drop_eq_getElem_cons hi]
    congr 1
    rw [List.getElem?_eq_getElem hi] at e1
    exact Option.some.inj e1
  have e3 : cs.drop (i + 1) = ss.drop (i + 1) := by
    have := congrArg List.tail hd
    simpa using this
  rw [e2] at h1 h2
  simp only [endL] at h1 h2
  refine ⟨by rw [List.drop_set_of_lt (by omega), e3], ?_, ?_⟩
  · rw [List.take_add_one, List.take_set_of_le (Nat.le_refl _), List.getElem?_set_self (by omega), ← h1]
    simp
  · rw [← h2]
    split <;> simp
end Go.Proofs.Ytjcjibghnpjegaa.Sc

/- The walk of Close: the samples of each metric judged, then the epoch ended for each collector. -/
namespace Go.Proofs.Ytjcjibghnpjegaa.Sc
open Go.RowKit Go.Proofs.Ytjcjibghnpjegaa.Pr Go.Proofs.YtjcjibghnpjegaaW.PrintWords Go.Proofs.YtjcjibghnpjegaaW.PrintLast Go.Proofs.YtjcjibghnpjegaaW.PrintMore
set_option linter.unusedVariables false
set_option linter.unusedSimpArgs false
set_option maxHeartbeats 2000000 in
set_option maxRecDepth 100000 in
theorem close_calls {w : World} {b r c lb : Nat} {st pr fa : Int} {ss : List Std} {A : Option Addr} (ms : List Met) (q : Int) (hl : ms.length ≤ 100) (hA : Aside0 (ms ≠ [] → A = some ⟨lb, 0, none⟩)) (h : Aside0 (Sc w b r st pr fa ss)) (hx : Aside0 (MR w lb ms)) :
    Calls Try.prog 36 #[.pointer (some ⟨b, 0, none⟩), .slice A ms.length c, .int .i64 q] w fun e w' => ∃ v : Value, e = .returned v ∧ Kd.R (Kd.int .i64) 3 w' w.heap.size (fun _ => True) v (closeS st pr fa q (ms.map (·.xs)) ss).2 ∧ Sc w' b r st pr fa (closeS st pr fa q (ms.map (·.xs)) ss).1 ∧ Ft (fun k => k = b ∨ k = r) w w' := by
  have HB := Aside0.mk (Below.refl w.heap.size w)
  have hss := h.out.2.1
  have hne := Aside0.mk h.out.1
  have hmm := @run_makeMap Try.prog
  go_enter Try.func36, Try.ntmps36
  go_wp2
  have hG : Aside0 (w.heap.size < ((w.alloc (.map #[] 0)).alloc (.map #[] 0)).heap.size ∧ w.heap.size + 1 < ((w.alloc (.map #[] 0)).alloc (.map #[] 0)).heap.size) := ⟨by simp; omega⟩
  have HB0 : Aside0 (Below w.heap.size w ((w.alloc (.map #[] 0)).alloc (.map #[] 0))) := ⟨below_alloc (below_alloc HB.out _) _⟩
  have G1 : Aside0 (SetIs ((w.alloc (.map #[] 0)).alloc (.map #[] 0)) w.heap.size 0 (fun _ => false)) := ⟨(SetIs.made w).below (below_alloc (Below.refl _ _) _)⟩
  have G2 : Aside0 (SetIs ((w.alloc (.map #[] 0)).alloc (.map #[] 0)) (w.heap.size + 1) 0 (fun _ => false)) := ⟨by
    have := SetIs.made (w.alloc (.map #[] 0))
    simpa using this⟩
  generalize (w.alloc (.map #[] 0)).alloc (.map #[] 0) = W0 at *
  have hbr : Aside0 (b < w.heap.size ∧ r < w.heap.size) := ⟨h.out.lt⟩
  obtain ⟨gt, hgt⟩ : ∃ gt, w.heap.size + 1 = gt := ⟨_, rfl⟩
  obtain ⟨gs, hgs⟩ : ∃ gs, w.heap.size = gs := ⟨_, rfl⟩
  rw [hgt] at G2 ⊢
  rw [hgs] at G1 ⊢
  have hgst : Aside0 (w.heap.size ≤ gs ∧ w.heap.size ≤ gt ∧ gs ≠ gt ∧ gs ≠ b ∧ gs ≠ r ∧ gt ≠ b ∧ gt ≠ r) := ⟨by have := hbr.out; omega⟩
  clear HB hmm hgs hgt hG
  go_loopg [19] ms.length (fun kq v19 wr => ∃ i : Nat, v19 = .int .i64 (i : Int) ∧ Aside0 (kq + i = ms.length) ∧ Aside0 (Ft (fun k => k = gs ∨ k = gt) W0 wr) ∧ Aside0 (SetIs wr gs (i * 1000) (struckM fa ss q ((ms.take i).map (·.xs)) (fun _ => false))) ∧ Aside0 (SetIs wr gt (i * 1000) (sentM ss q ((ms.take i).map (·.xs)) (fun _ => false))))
  case atStart => exact ⟨0, rfl, ⟨by omega⟩, ⟨Ft.refl _ _⟩, ⟨by simpa [struckM] using G1.out⟩, ⟨by simpa [sentM] using G2.out⟩⟩
  case round =>
    obtain ⟨i, rfl, HK, HF, HSG, HST⟩ := hrel
    clear G1 G2
    have HBw : Aside0 (Below w.heap.size w wr) := ⟨HB0.out.trans (HF.out.below (below_size HB0.out) (fun k e => by have := hgst.out; omega))⟩
    by_cases hlt : (i : Int) < (ms.length : Int)
    · have dlt : decide ((i : Int) < (ms.length : Int)) = true := decide_eq_true hlt
      have hil : i < ms.length := by omega
      obtain ⟨m, hm⟩ : ∃ m, ms[i]? = some m := ⟨ms[i], List.getElem?_eq_getElem hil⟩
      have e := hA.out (fun q => by rw [q] at hil; simp at hil)
      subst e
      obtain ⟨q0, q1, q2, q3, q4, q5⟩ := (hx.out.below HBw.out) i m hm
      have Q1 := Aside0.mk q1
      have Q2 := Aside0.mk q2
      have Q5 := Aside0.mk q5
      have htk : (ms.take (i + 1)).map (·.xs) = (ms.take i).map (·.xs) ++ [m.xs] := by rw [List.take_add_one, hm, List.map_append]; rfl
      have HTK := Aside0.mk htk
      clear q1 q2 q5 htk
      have HS1 : Aside0 (Sc wr b r st pr fa ss) := ⟨h.out.below HBw.out⟩
      have hdd : Aside0 (gs ≠ gt ∧ gs ≠ b ∧ gs ≠ r ∧ gt ≠ b ∧ gt ≠ r) := ⟨hgst.out.2.2⟩
      go_wp2_with (first | (go_at_call 50; go_loud ((with_reducible refine (judge_calls (n1 := i * 1000) (n2 := i * 1000) m.xs q _ _ Q2.out q4 q3 HS1 Q1 Q5 HSG HST hdd (by omega) (by omega)).mono ?_); rintro e w6 ⟨rfl, hs1, hs2, hft⟩; have HSG6 := Aside0.mk hs1; have HST6 := Aside0.mk hs2; have HF6 := Aside0.mk (HF.out.trans hft); clear hs1 hs2 hft)))
      go_roundg (gk - 1)
      case measure => have := HK.out; omega
      case rel => exact ⟨i + 1, (by first | rfl | (simp; done) | (congr 1; unfold wrap64; omega)), ⟨by have := HK.out; omega⟩, HF6, ⟨by rw [HTK.out, ← struckM_snoc]; exact HSG6.out.mono (by omega)⟩, ⟨by rw [HTK.out, ← sentM_snoc]; exact HST6.out.mono (by omega)⟩⟩
    · obtain ⟨wp, hwp⟩ : ∃ wp, wp = wr := ⟨_, rfl⟩
      subst hwp
      have dlt : decide ((i : Int) < (ms.length : Int)) = false := decide_eq_false hlt
      have hg1 := HSG.out
      have hg2 := HST.out
      rw [List.take_of_length_le (by have := HK.out; omega)] at hg1 hg2
      obtain ⟨F1, hF1⟩ : ∃ F1, F1 = struckM fa ss q (ms.map (·.xs)) (fun _ => false) := ⟨_, rfl⟩
      obtain ⟨F2, hF2⟩ : ∃ F2, F2 = sentM ss q (ms.map (·.xs)) (fun _ => false) := ⟨_, rfl⟩
      rw [← hF1] at hg1
      rw [← hF2] at hg2
      have hE : closeS st pr fa q (ms.map (·.xs)) ss = endL st pr F1 F2 0 ss := by rw [hF1, hF2]; rfl
      have HE := Aside0.mk hE
      have HG1 := Aside0.mk hg1
      have HG2 := Aside0.mk hg2
      clear hg1 hg2 hF1 hF2 hE HSG HST HF
      have HS1 : Aside0 (Sc wp b r st pr fa ss) := ⟨h.out.below HBw.out⟩
      have c0_ := HS1.out.c0
      have HFr : Aside0 (Ft (fun k => k = b ∨ k = r) wp wp) := ⟨Ft.refl _ _⟩
      have hwp : w.heap.size ≤ wp.heap.size := below_size HBw.out
      have hbw : b < wp.heap.size ∧ r < wp.heap.size := HS1.out.lt
      clear HK hA hx HB0
      go_wp2
      go_loopg [11, 35] ss.length (fun kq v11 v35 wr => ∃ (i : Nat) (cs : List Std) (out : List Int), v35 = .int .i64 (i : Int) ∧ Aside0 (kq + i = ss.length ∧ i ≤ ss.length ∧ cs.length = ss.length) ∧ Aside0 (cs.drop i = ss.drop i ∧ cs.take i ++ (endL st pr F1 F2 i (ss.drop i)).1 = (closeS st pr fa q (ms.map (·.xs)) ss).1 ∧ out ++ (endL st pr F1 F2 i (ss.drop i)).2 = (closeS st pr fa q (ms.map (·.xs)) ss).2) ∧ Aside0 (Sc wr b r st pr fa cs) ∧ Aside0 (Kd.R (Kd.int .i64) 3 wr wp.heap.size (fun k => k ≠ b ∧ k ≠ r) v11 out) ∧ Aside0 (Ft (fun k => k = b ∨ k = r) wp wr))
      case atStart => exact ⟨0, ss, [], rfl, ⟨by omega⟩, ⟨by rw [List.drop_zero, List.take_zero, HE.out]; exact ⟨rfl, rfl, rfl⟩⟩, HS1, ⟨Kd.R_nil _ _ _ _ _⟩, HFr⟩
      case round =>
        obtain ⟨i, cs, out, rfl, HK, HD, HS, HO, HF⟩ := hrel
        clear HS1 HFr c0_
        by_cases hlt : (i : Int) < (ss.length : Int)
        · have dlt : decide ((i : Int) < (ss.length : Int)) = true := decide_eq_true hlt
          have hil : i < ss.length := by omega
          have hil0 : (0 : Int) ≤ (i : Int) := by omega
          obtain ⟨s, hs⟩ : ∃ s, cs[i]? = some s := ⟨cs[i]'(by have := HK.out; omega), List.getElem?_eq_getElem (by have := HK.out; omega)⟩
          have hst := Aside0.mk (end_step (st := st) (pr := pr) (fs := F1) (ft := F2) HK.out.2.2 hil hs HD.out.1 HD.out.2.1 HD.out.2.2)
          have hII : InI (i : Int) := ⟨by omega, by omega⟩
          have c0_ := HS.out.c0
          rw [HK.out.2.2] at c0_
          have HSGq := (HG1.out.ft HF.out (by have := hgst.out; omega)).below (below_drew (Below.refl wr.heap.size wr))
          have HSTq := (HG2.out.ft HF.out (by have := hgst.out; omega)).below (below_drew (Below.refl wr.heap.size wr))
          have l1 := HSGq.run hII
          have l2 := HSTq.run hII
          have HSd : Aside0 (Sc wr.drew b r st pr fa cs) := ⟨HS.out.below (below_drew (Below.refl wr.heap.size wr))⟩
          clear HSGq HSTq
          have HDn := hst
          clear hst
          have HO5 := Aside0.mk (Kd.R_below HO.out (below_drew (Below.refl wr.heap.size wr)))
          have HOL : Aside0 (out.length < 100000) := ⟨by
            have h2 := congrArg List.length HD.out.2.2
            have h3 : (closeS st pr fa q (ms.map (·.xs)) ss).2.length ≤ ss.length := by rw [HE.out]; exact endL_outs st pr F1 F2 ss 0
            rw [List.length_append] at h2
            omega⟩
          cases he : (endS st pr s (F1 i) (F2 i)).2 with
          | true =>
            rw [he, if_pos rfl] at HDn
            go_upto_region 13 with (fail)
            go_region_held3 (fun w' => w'.cell? ⟨b, 0, none⟩ = some (.slice (some ⟨r, 0, none⟩) ss.length ss.length)) (go_keep) (first | (go_at_call 51; (with_reducible refine (end_calls (w := _) i s hs (F1 i) (F2 i) HSd).mono ?_); rintro e w6 ⟨rfl, hsc, hft⟩; have HS6 := Aside0.mk hsc; have HF6 : Aside0 (Ft (fun k => k = b ∨ k = r) wp w6) := ⟨(HF.out.trans (Ft.of_below (below_drew (Below.refl wr.heap.size wr)))).trans hft⟩; have c0_6 := hsc.c0; rw [List.length_set, HK.out.2.2] at c0_6; have FT6 := Aside0.mk hft; clear hsc hft))
            all_goals have HO6 := Aside0.mk (Kd.R_step HO5.out (fun k hk hlk => FT6.out.2 k hlk (fun e => by have := hk; omega)))
            all_goals go_wp2_with (first | ((with_reducible refine gate_builtin (b := .append) (xs := #[.tmp 52, .tmp 54]) rfl ?_); at_builtin; (refine Kd.R_append (Kd.int .i64) (w0 := w6) wp.heap.size rfl (.tmp 52) (.tmp 54) 50 3 (.int .i64 0) 8 rfl Try.underlying50 info3 rfl (by decide) (by omega) _ out (i : Int) [.int .i64 i] (fun k => k ≠ b ∧ k ≠ r) (fun _ => False) rfl rfl ?aP (fun _ hk => hk.elim) ?aF ?aO ?aB ?aS ?aL ?_; (case aP => exact rfl); (case aB => exact (Below.refl _ _)); (case aF => exact (fun k hk => by have h1_ := hbw; have h2_ := HF6.out.1.size; omega)); (case aO => exact (by (with_reducible repeat (first | apply Kd.R_alloc | apply Kd.R_drewN | apply Kd.R_drew)); exact HO6.out)); (case aS => (have h2_ := HF6.out.1.size; exact h2_)); (case aL => have := HOL.out; omega); intro v542 w7 ho hb hg hat; have HB7 := Aside0.mk hb; have HO7 := Aside0.mk ho; clear ho hb hg hat)))
            all_goals go_roundg (gk - 1)
            all_goals first | (have := HK.out; omega) | exact ⟨i + 1, _, _, (by first | rfl | (simp; done) | (congr 1; unfold wrap64; omega)), ⟨by have := HK.out; rw [List.length_set]; omega⟩, HDn, ⟨HS6.out.kept (HB7.out.block b (by have := hbw; have := HF6.out.1.size; omega)) (HB7.out.block r (by have := hbw; have := HF6.out.1.size; omega))⟩, HO7, ⟨HF6.out.then_below HB7.out⟩⟩
          | false =>
            rw [he, if_neg (by decide)] at HDn
            go_upto_region 13 with (fail)
            go_region_held3 (fun w' => w'.cell? ⟨b, 0, none⟩ = some (.slice (some ⟨r, 0, none⟩) ss.length ss.length)) (go_keep) (first | (go_at_call 51; (with_reducible refine (end_calls (w := _) i s hs (F1 i) (F2 i) HSd).mono ?_); rintro e w6 ⟨rfl, hsc, hft⟩; have HS6 := Aside0.mk hsc; have HF6 : Aside0 (Ft (fun k => k = b ∨ k = r) wp w6) := ⟨(HF.out.trans (Ft.of_below (below_drew (Below.refl wr.heap.size wr)))).trans hft⟩; have c0_6 := hsc.c0; rw [List.length_set, HK.out.2.2] at c0_6; have FT6 := Aside0.mk hft; clear hsc hft))
            all_goals have HO6 := Aside0.mk (Kd.R_step HO5.out (fun k hk hlk => FT6.out.2 k hlk (fun e => by have := hk; omega)))
            all_goals go_wp2
            all_goals go_roundg (gk - 1)
            all_goals first | (have := HK.out; omega) | exact ⟨i + 1, _, _, (by first | rfl | (simp; done) | (congr 1; unfold wrap64; omega)), ⟨by have := HK.out; rw [List.length_set]; omega⟩, HDn, HS6, HO6, HF6⟩
        · have dlt : decide ((i : Int) < (ss.length : Int)) = false := decide_eq_false hlt
          have hi : i = ss.length := by have := HK.out; omega
          have hd1 := HD.out.2.1
          have hd2 := HD.out.2.2
          rw [List.take_of_length_le (by have := HK.out; omega), List.drop_eq_nil_of_le (by omega)] at hd1
          rw [List.drop_eq_nil_of_le (by omega)] at hd2
          simp only [endL, List.append_nil] at hd1 hd2
          have H1 := Aside0.mk hd1
          have H2 := Aside0.mk hd2
          clear hd1 hd2
          go_wp2
          go_ret
          exact ⟨_, rfl, by rw [← H2.out]; exact Kd.R_mono (Kd.R_lower HO.out hwp) (fun _ _ => trivial), by rw [← H1.out]; exact HS.out, (Ft.of_below HBw.out).trans HF.out⟩
end Go.Proofs.Ytjcjibghnpjegaa.Sc

/- Rows of samples that lie in memory, as Close reads them; what a closed epoch comes to in plain cases. -/
namespace Go.Proofs.Ytjcjibghnpjegaa.Sc
open Go.RowKit Go.Proofs.Ytjcjibghnpjegaa.Pr Go.Proofs.YtjcjibghnpjegaaW.PrintWords Go.Proofs.YtjcjibghnpjegaaW.PrintLast Go.Proofs.YtjcjibghnpjegaaW.PrintMore
set_option linter.unusedVariables false
set_option linter.unusedSimpArgs false
theorem SR.C {w : World} {g : Nat} {xs : List S49} (h : SR w g xs) (i : Nat) (hl : xs.length ≤ 1000) : Kd.C k49 w (some ⟨g, i * 4, none⟩) (xs.drop i).length (xs.drop i) := by
  refine ⟨rfl, by rw [List.length_drop]; omega, fun _ => ⟨_, rfl, fun j p hp => ?_⟩⟩
  rw [List.getElem?_drop] at hp
  obtain ⟨h0, h1, h2, h3⟩ := h (i + j) p hp
  have ha : ∀ t, (⟨g, i * 4, none⟩ : Addr).add (j * 4 + t) = ⟨g, (i + j) * 4 + t, none⟩ := fun t => by
    have e : i * 4 + (j * 4 + t) = (i + j) * 4 + t := by omega
    unfold Addr.add
    split
    · next h => rw [← e, h]; rfl
    · simp [e]
  refine ⟨[.int .i64 p.f0, .int .i64 p.f1, .int .i64 p.f2, .int .i64 p.f3], rfl, k49_mk w p, fun t u hu => ?_⟩
  have e4 : k49.sz = 4 := rfl
  rw [e4, ha]
  match t, hu with
  | 0, hu => simp only [List.getElem?_cons_zero, Option.some.injEq] at hu; rw [← hu]; exact h0
  | 1, hu => simp only [List.getElem?_cons_succ, List.getElem?_cons_zero, Option.some.injEq] at hu; rw [← hu]; exact h1
  | 2, hu => simp only [List.getElem?_cons_succ, List.getElem?_cons_zero, Option.some.injEq] at hu; rw [← hu]; exact h2
  | 3, hu => simp only [List.getElem?_cons_succ, List.getElem?_cons_zero, Option.some.injEq] at hu; rw [← hu]; exact h3
  | t + 4, hu => simp at hu
theorem SR.take {w : World} {g : Nat} {xs : List S49} (h : SR w g xs) (n : Nat) : SR w g (xs.take n) := by
  intro k s hs
  rw [List.getElem?_take] at hs
  split at hs
  · exact h k s hs
  · cases hs
instance (a : Int) : Decidable (InI a) := inferInstanceAs (Decidable (_ ∧ _))
def okX (xs : List S49) : Prop := xs ≠ [] ∧ xs.length ≤ 1000 ∧ ∀ s ∈ xs, InI s.f0
/-- One metric's samples in a row of rows. -/
def ML (w : World) (b r lb g c : Nat) (xs : List S49) : Prop :=
  (lb ≠ b ∧ lb ≠ r ∧ g ≠ b ∧ g ≠ r) ∧ (lb < w.heap.size ∧ g < w.heap.size) ∧ w.cell? ⟨lb, 0, none⟩ = some (.slice (some ⟨g, 0, none⟩) xs.length c) ∧ SR w g xs ∧ xs.length ≤ c ∧ okX xs
theorem ML.ft {w w' : World} {b r lb g c : Nat} {xs : List S49} (h : ML w b r lb g c xs) (hf : Ft (fun k => k = b ∨ k = r) w w') : ML w' b r lb g c xs := by
  obtain ⟨h0, h1, h2, h3, h4⟩ := h
  exact ⟨h0, ⟨Nat.lt_of_lt_of_le h1.1 hf.1.size, Nat.lt_of_lt_of_le h1.2 hf.1.size⟩, (World.cell?_of_block (a := ⟨lb, 0, none⟩) (hf.2 lb h1.1 (by omega))).trans h2, h3.ft hf h1.2 (by omega), h4⟩
theorem ML.below {w w' : World} {b r lb g c : Nat} {xs : List S49} (h : ML w b r lb g c xs) (hb : Below w.heap.size w w') : ML w' b r lb g c xs := h.ft (Ft.of_below hb)
theorem ML.MR {w : World} {b r lb g c : Nat} {xs : List S49} (h : ML w b r lb g c xs) : MR w lb [⟨⟨g, 0, none⟩, c, xs⟩] := by
  obtain ⟨h0, h1, h2, h3, h4, h5, h6, h7⟩ := h
  intro j m hm
  match j, hm with
  | 0, hm =>
    simp only [List.getElem?_cons_zero, Option.some.injEq] at hm
    subst hm
    have := h3.C 0 h6
    rw [List.drop_zero] at this
    exact ⟨h2, by simpa using this, h5, h4, h6, h7⟩
  | j + 1, hm => simp at hm
theorem kept_all {ss : List Std} {xs : List S49} (h : ∀ s ∈ xs, outOf ss s.f0 = false) : kept ss xs = xs := by
  unfold kept
  rw [List.filter_eq_self]
  intro s hs
  simp [keep, h s hs]
theorem close_one {st pr fa q m : Int} {xs ks : List S49} {ss : List Std} (hk : kept ss xs = ks) (hm : Tri.medOf (ks.map (·.f3)) = (m, true)) (hq : q ≤ ks.length) (h0 : 0 < ks.length) :
    closeS st pr fa q [xs] ss = endL st pr (struckF fa m ks (fun _ => false)) (sentF ks (fun _ => false)) 0 ss := by
  have hv : vals ss xs = ks.map (·.f3) := by rw [vals, hk]
  have hJ : judged ss q xs = true := by
    unfold judged
    rw [hv, hm, hk]
    have : ((ks.length : Int)) ≥ q ∧ ((ks.length : Int)) > 0 := by omega
    simp [this]; omega
  have hmd : med ss xs = m := by unfold med; rw [hv, hm]
  unfold closeS struckM sentM
  simp only [List.foldl_cons, List.foldl_nil, struckJ, sentJ, hJ, if_true, hmd, hk]
theorem few_struck {fa q : Int} {xs : List S49} {ss : List Std} (f : Int → Bool) (hq : ((kept ss xs).length : Int) < q) : struckJ fa ss q xs f = f := by
  have hJ : judged ss q xs = false := by
    unfold judged
    rw [decide_eq_false (by omega), Bool.and_false]
  unfold struckJ
  rw [hJ]; rfl
theorem few_sent {q : Int} {xs : List S49} {ss : List Std} (f : Int → Bool) (hq : ((kept ss xs).length : Int) < q) : sentJ ss q xs f = f := by
  have hJ : judged ss q xs = false := by
    unfold judged
    rw [decide_eq_false (by omega), Bool.and_false]
  unfold sentJ
  rw [hJ]; rfl
theorem close_few {st pr fa q : Int} {xs : List S49} {ss : List Std} (hq : ((kept ss xs).length : Int) < q) :
    closeS st pr fa q [xs] ss = endL st pr (fun _ => false) (fun _ => false) 0 ss := by
  unfold closeS struckM sentM
  simp only [List.foldl_cons, List.foldl_nil, few_struck _ hq, few_sent _ hq]
theorem close_no {st pr fa q : Int} {ss : List Std} : closeS st pr fa q [] ss = endL st pr (fun _ => false) (fun _ => false) 0 ss := rfl
def smp (i : Nat) (v : Int) : S49 := ⟨(i : Int), 0, 0, v⟩
theorem med_sorted {l : List Int} {x : Int} (h : ∀ x ∈ l, 0 ≤ x ∧ x ≤ 1099511627776) (h0 : l ≠ []) (hl : l.length ≤ 1000) (hs : l.Pairwise (· ≤ ·)) (hx : l.getD ((l.length - 1) / 2) 0 = x) : Tri.medOf l = (x, true) := by
  rw [Tri.medOf_good ((Tri.mayb_iff l).2 ⟨hl, h⟩) h0, Srt.S_idem hs, hx]
theorem med_perm {l r : List Int} {x : Int} (hp : r.Perm l) (h : ∀ x ∈ l, 0 ≤ x ∧ x ≤ 1099511627776) (h0 : l ≠ []) (hl : l.length ≤ 1000) (hs : r.Pairwise (· ≤ ·)) (hx : r.getD ((l.length - 1) / 2) 0 = x) : Tri.medOf l = (x, true) := by
  rw [Tri.medOf_good ((Tri.mayb_iff l).2 ⟨hl, h⟩) h0, ← Srt.S_unique hp hs, hx]
-- told's epochs
def o0 : Std := ⟨0, 0, false⟩
def xsT : List S49 := [smp 0 100, smp 1 101, smp 2 99, smp 3 200]
theorem medT : Tri.medOf (xsT.map (·.f3)) = (100, true) := by
  refine med_perm (r := [99, 100, 101, 200]) ?_ ?_ (by decide) (by decide) (by decide) (by decide)
  · decide
  · decide
theorem told1 : closeS 2 2 10 3 [xsT] [o0, o0, o0, o0] = ([o0, o0, o0, ⟨1, 0, false⟩], []) := by
  rw [close_one (kept_all (by decide)) medT (by decide) (by decide)]
  kernel_rfl
theorem told2 : closeS 2 2 10 3 [xsT] [o0, o0, o0, ⟨1, 0, false⟩] = ([o0, o0, o0, ⟨0, 0, true⟩], [3]) := by
  rw [close_one (kept_all (by decide)) medT (by decide) (by decide)]
  kernel_rfl
theorem told3 : closeS 2 2 10 3 [] [o0, o0, o0, ⟨0, 0, true⟩] = ([o0, o0, o0, ⟨0, 1, true⟩], []) := by kernel_rfl
theorem told4 : closeS 2 2 10 3 [] [o0, o0, o0, ⟨0, 1, true⟩] = ([o0, o0, o0, o0], []) := by kernel_rfl
theorem ofT : quorumitelaw12_of.f 5 [100, 101, 99, 200] = some xsT := by kernel_rfl
end Go.Proofs.Ytjcjibghnpjegaa.Sc

/- The score's contracts in the words that the laws' walks use; movers for what lies in memory beside a score. -/
namespace Go.Proofs.Ytjcjibghnpjegaa.Sc
open Go.RowKit Go.Proofs.Ytjcjibghnpjegaa.Pr Go.Proofs.YtjcjibghnpjegaaW.PrintWords Go.Proofs.YtjcjibghnpjegaaW.PrintLast Go.Proofs.YtjcjibghnpjegaaW.PrintMore
set_option linter.unusedVariables false
set_option linter.unusedSimpArgs false
theorem close_ml {w : World} {b r lb g c n : Nat} {st pr fa q : Int} {ss ss' : List Std} {xs : List S49} {out : List Int} (hc : closeS st pr fa q [xs] ss = (ss', out)) (h : Aside0 (Sc w b r st pr fa ss)) (hm : Aside0 (ML w b r lb g c xs)) :
    Calls Try.prog 36 #[.pointer (some ⟨b, 0, none⟩), .slice (some ⟨lb, 0, none⟩) 1 n, .int .i64 q] w fun e w' => ∃ v : Value, e = .returned v ∧ Kd.R (Kd.int .i64) 3 w' w.heap.size (fun _ => True) v out ∧ Sc w' b r st pr fa ss' ∧ ML w' b r lb g c xs ∧ Ft (fun k => k = b ∨ k = r) w w' := by
  refine (close_calls (A := some ⟨lb, 0, none⟩) (lb := lb) (c := n) [⟨⟨g, 0, none⟩, c, xs⟩] q (by simp) ⟨fun _ => rfl⟩ h ⟨hm.out.MR⟩).mono ?_
  rintro e w' ⟨v, rfl, h1, h2, h3⟩
  simp only [List.map_cons, List.map_nil, hc] at h1 h2
  exact ⟨v, rfl, h1, h2, hm.out.ft h3, h3⟩
theorem close_nil {w : World} {b r : Nat} {st pr fa q : Int} {ss ss' : List Std} {out : List Int} (hc : closeS st pr fa q [] ss = (ss', out)) (h : Aside0 (Sc w b r st pr fa ss)) :
    Calls Try.prog 36 #[.pointer (some ⟨b, 0, none⟩), .slice none 0 0, .int .i64 q] w fun e w' => ∃ v : Value, e = .returned v ∧ Kd.R (Kd.int .i64) 3 w' w.heap.size (fun _ => True) v out ∧ Sc w' b r st pr fa ss' ∧ Ft (fun k => k = b ∨ k = r) w w' := by
  refine (close_calls (A := none) (lb := 0) (c := 0) [] q (by simp) ⟨fun h => absurd rfl h⟩ h ⟨MR.nil _ _⟩).mono ?_
  rintro e w' ⟨v, rfl, h1, h2, h3⟩
  simp only [List.map_nil, hc] at h1 h2
  exact ⟨v, rfl, h1, h2, h3⟩
theorem Below.ft {w a b : World} {p r : Nat} (h : Below w.heap.size w a) (hf : Ft (fun k => k = p ∨ k = r) a b) (hp : w.heap.size ≤ p) (hr : w.heap.size ≤ r) : Below w.heap.size w b :=
  h.trans (hf.below (below_size h) (fun k e => by omega))
/-- The row of rows with one row of samples, just built. -/
theorem ML.made {w : World} {b r g c m : Nat} {xs : List S49} (hm : m = xs.length) (hs : SW w g xs) (hg : g < w.heap.size) (hn : g ≠ b ∧ g ≠ r) (hbr : b < w.heap.size ∧ r < w.heap.size) (hc : xs.length ≤ c) (hx : okX xs) :
    ML (w.alloc (.cells #[.slice (some ⟨g, 0, none⟩) m c] 47)) b r w.heap.size g c xs := by
  subst hm
  exact ⟨by omega, ⟨by simp, by simp; omega⟩, (blk_cell (blk_new w _) 0).trans rfl, hs.1.below (below_alloc (Below.refl _ _) _), hc, hx⟩
theorem of_at (k m : Nat) (A : Option Addr) (c n : Nat) (vs : List Int) (xs : List S49) (hn : n = vs.length) (hm : m = xs.length) (w : World) (hr : Aside0 (Kd.C (Kd.int .i64) w A vs.length vs)) (hc : vs.length ≤ c) (hf : quorumitelaw12_of.f k vs = some xs) (hne : xs ≠ []) :
    Calls Try.prog 39 #[.slice A n c] w fun e w' => ∃ g c', e = .returned (.slice (some ⟨g, 0, none⟩) m c') ∧ xs.length ≤ c' ∧ w.heap.size ≤ g ∧ g < w'.heap.size ∧ SW w' g xs ∧ Below w.heap.size w w' := by
  subst hn hm
  refine (quorumitelaw12_of.calls k A c vs xs w hr.out hc hf).mono ?_
  rintro e w' ⟨v, rfl, h1, h2⟩
  obtain ⟨g, c', rfl, h3, h4, h5, h6⟩ := own49 h1 hne
  exact ⟨g, c', rfl, h3, h4, h5, h6, h2⟩
theorem all_at {w : World} {b r : Nat} {st pr fa : Int} {ss : List Std} (n : Nat) (hn : n = ss.length) (h : Aside0 (Sc w b r st pr fa ss)) :
    Calls Try.prog 41 #[.pointer (some ⟨b, 0, none⟩)] w fun e w' => ∃ A c, e = .returned (.slice A n c) ∧ n ≤ c ∧ Kd.C k54 w' A n (ss.map s54) ∧ Below w.heap.size w w' := by
  subst hn
  refine (all_calls h).mono ?_
  rintro e w' ⟨v, rfl, h1, h2⟩
  obtain ⟨A, c, hv, hc, hC⟩ := Kd.R_reads h1
  rw [List.length_map] at hv hc hC
  exact ⟨A, c, by rw [hv], hc, hC, h2⟩
def C1 (w : World) (b r g : Nat) (x : Int) : Prop := (g ≠ b ∧ g ≠ r ∧ g < w.heap.size) ∧ w.cell? ⟨g, 0, none⟩ = some (.int .i64 x)
theorem C1.ft {w w' : World} {b r g : Nat} {x : Int} (h : C1 w b r g x) (hf : Ft (fun k => k = b ∨ k = r) w w') : C1 w' b r g x :=
  ⟨⟨h.1.1, h.1.2.1, Nat.lt_of_lt_of_le h.1.2.2 hf.1.size⟩, (World.cell?_of_block (a := ⟨g, 0, none⟩) (hf.2 g h.1.2.2 (by have := h.1; omega))).trans h.2⟩
theorem C1.below {w w' : World} {b r g : Nat} {x : Int} (h : C1 w b r g x) (hb : Below w.heap.size w w') : C1 w' b r g x := h.ft (Ft.of_below hb)
theorem one_int {w w0 : World} {b r : Nat} {ok : Nat → Prop} {v : Value} {x : Int} (h : Kd.R (Kd.int .i64) 3 w w0.heap.size ok v [x]) (hb : b < w0.heap.size ∧ r < w0.heap.size) : ∃ g c, v = .slice (some ⟨g, 0, none⟩) 1 c ∧ C1 w b r g x := by
  obtain ⟨inner, hi⟩ := Kd.R_own h
  obtain ⟨A, c', hv, hcc, hC⟩ := Kd.R_reads h
  rcases hi.2 with ⟨_, h0⟩ | ⟨g, cap, cur, e, hg, hh, hcap, r⟩
  · simp at h0
  · refine ⟨g, cap, e, ⟨by omega, by omega, lt_of_block hh⟩, ?_⟩
    rw [e] at hv
    injection hv with h1 h2 h3
    subst h1
    obtain ⟨ad, ea, hc⟩ := Kd.at_int hC 0 (by omega) (by simp)
    injection ea with ea
    subst ea
    simpa [Addr.add, rd] using hc
theorem no_int {w : World} {base : Nat} {ok : Nat → Prop} {v : Value} (h : Kd.R (Kd.int .i64) 3 w base ok v []) : ∃ A c, v = .slice A 0 c := by
  obtain ⟨A, c, hv, _⟩ := Kd.R_reads h
  exact ⟨A, c, hv⟩
def C3 (w : World) (b r g : Nat) (s : Std) : Prop := (g ≠ b ∧ g ≠ r) ∧ w.heap[g]? = some (.cells #[.int .i64 s.k, .int .i64 s.c, .bool s.o] 54 (0, 0))
theorem C3.ft {w w' : World} {b r g : Nat} {s : Std} (h : C3 w b r g s) (hf : Ft (fun k => k = b ∨ k = r) w w') : C3 w' b r g s := ⟨h.1, (hf.2 g (lt_of_block h.2) (by have := h.1; omega)).trans h.2⟩
theorem C3.below {w w' : World} {b r g : Nat} {s : Std} (h : C3 w b r g s) (hb : Below w.heap.size w w') : C3 w' b r g s := h.ft (Ft.of_below hb)
theorem C3.cells {w : World} {b r g : Nat} {s : Std} (h : C3 w b r g s) : w.cell? ⟨g, 0, none⟩ = some (.int .i64 s.k) ∧ w.cell? ⟨g, 1, none⟩ = some (.int .i64 s.c) ∧ w.cell? ⟨g, 2, none⟩ = some (.bool s.o) := ⟨(blk_cell h.2 0).trans rfl, (blk_cell h.2 1).trans rfl, (blk_cell h.2 2).trans rfl⟩
/-- A variable that holds a standing: a new block, then the three cells written. -/
theorem box54_put {w w5 : World} {gb b r : Nat} (BK : w5.heap[gb]? = some (.cells #[.int .i64 0, .int .i64 0, .bool false] 54 (0, 0))) (hb : Below w.heap.size w w5) (hg : gb = w.heap.size) (hbr : b < w.heap.size ∧ r < w.heap.size) (s : Std) :
    Below w.heap.size w (((w5.setCell ⟨gb, 0, none⟩ (.int .i64 s.k)).setCell ⟨gb, 1, none⟩ (.int .i64 s.c)).setCell ⟨gb, 2, none⟩ (.bool s.o)) ∧
      C3 (((w5.setCell ⟨gb, 0, none⟩ (.int .i64 s.k)).setCell ⟨gb, 1, none⟩ (.int .i64 s.c)).setCell ⟨gb, 2, none⟩ (.bool s.o)) b r gb s := by
  have GE : w.heap.size ≤ gb := by omega
  exact ⟨below_set (below_set (below_set hb GE) GE) GE, ⟨by omega, blk_put (blk_put (blk_put BK 0 _ rfl) 1 _ rfl) 2 _ rfl⟩⟩
theorem okT : okX xsT := ⟨by decide, by decide, by decide⟩
theorem new_at (n' : Int) (n : Nat) (en : n' = (n : Int)) (st pr fa : Int) (w : World) (hn : 1 ≤ n ∧ n ≤ 16) (hs : 1 ≤ st ∧ st ≤ 100) (hp : 1 ≤ pr ∧ pr ≤ 100) (hf : 0 ≤ fa ∧ fa ≤ 1099511627776) :
    Calls Try.prog 35 #[.int .i64 n', .int .i64 st, .int .i64 pr, .int .i64 fa] w fun e w' => ∃ b r, e = .returned (.pointer (some ⟨b, 0, none⟩)) ∧ Sc w' b r st pr fa (List.replicate n ⟨0, 0, false⟩) ∧ w.heap.size ≤ b ∧ w.heap.size ≤ r ∧ Below w.heap.size w w' := by
  subst en
  exact new_calls n st pr fa w hn hs hp hf
theorem get_at {w : World} {b r : Nat} {st pr fa : Int} {ss : List Std} (who : Int) (i : Nat) (ew : who = (i : Int)) (s : Std) (hs : ss[i]? = some s) (h : Aside0 (Sc w b r st pr fa ss)) :
    Calls Try.prog 37 #[.pointer (some ⟨b, 0, none⟩), .int .i64 who] w fun e w' => e = .returned (.tuple #[.agg #[.int .i64 s.k, .int .i64 s.c, .bool s.o], .int .i64 0]) ∧ Below w.heap.size w w' := by
  subst ew
  exact get_calls i s hs h
theorem out_at {w : World} {b r : Nat} {st pr fa : Int} {ss : List Std} (who : Int) (o : Bool) (ho : outOf ss who = o) (h : Aside0 (Sc w b r st pr fa ss)) :
    Calls Try.prog 40 #[.pointer (some ⟨b, 0, none⟩), .int .i64 who] w fun e w' => e = .returned (.bool o) ∧ Below w.heap.size w w' := by
  subst ho
  exact out_calls who h
theorem set_high_at {w : World} {b r : Nat} {st pr fa : Int} {ss : List Std} (who : Int) (i : Nat) (ew : who = (i : Int)) (hi : i < ss.length) (k : Int) (h : Aside0 (Sc w b r st pr fa ss)) (hk : 0 ≤ k) (hst : st ≤ k) :
    Calls Try.prog 53 #[.pointer (some ⟨b, 0, none⟩), .int .i64 who, .agg #[.int .i64 k, .int .i64 0, .bool false]] w fun e w' => e = .returned (.int .i64 1) ∧ Below w.heap.size w w' := by
  subst ew
  exact set_high i hi k h hk hst
theorem set_odd_at {w : World} {b r : Nat} {st pr fa : Int} {ss : List Std} (who : Int) (i : Nat) (ew : who = (i : Int)) (hi : i < ss.length) (k : Int) (h : Aside0 (Sc w b r st pr fa ss)) (hk : 0 < k) (hst : k < st) (hpr : 0 < pr) :
    Calls Try.prog 53 #[.pointer (some ⟨b, 0, none⟩), .int .i64 who, .agg #[.int .i64 k, .int .i64 0, .bool true]] w fun e w' => e = .returned (.int .i64 1) ∧ Below w.heap.size w w' := by
  subst ew
  exact set_odd i hi k h hk hst hpr
theorem set_ok_at {w : World} {b r : Nat} {st pr fa : Int} {ss : List Std} (who : Int) (i : Nat) (ew : who = (i : Int)) (hi : i < ss.length) (k : Int) (h : Aside0 (Sc w b r st pr fa ss)) (hk : 0 ≤ k) (hst : k < st) (hpr : 0 < pr) :
    Calls Try.prog 53 #[.pointer (some ⟨b, 0, none⟩), .int .i64 who, .agg #[.int .i64 k, .int .i64 0, .bool false]] w fun e w' => e = .returned (.int .i64 0) ∧ Sc w' b r st pr fa (ss.set i ⟨k, 0, false⟩) ∧ Ft (fun k => k = b ∨ k = r) w w' := by
  subst ew
  exact set_ok i hi k h hk hst hpr
end Go.Proofs.Ytjcjibghnpjegaa.Sc
