/- The row of FnExactViewSame, proved: whatever the input, it answers true, and the input reads as it did. No condition. -/
import Derived.Test.YtldnkinaedgnpaaRows
import Derived.Test.YtldnkinaedgnpaaVE5
namespace Go.Proofs.Ytldnkinaedgnpaa
open Go.ChangeShapes Go.WideShapes Go.ChangeAt Go.RowKit Go.Dw
set_option maxRecDepth 100000
set_option linter.unusedSimpArgs false
set_option linter.unusedVariables false
theorem rtty_142 : RtTy Try.prog 142 3 4 := ⟨by kernel_rfl, by kernel_rfl, by kernel_rfl, by kernel_rfl, by kernel_rfl, by kernel_rfl, by kernel_rfl, by kernel_rfl, by kernel_rfl, by kernel_rfl⟩
theorem labty_50 : LabTy Try.prog 50 3 := ⟨by kernel_rfl, by kernel_rfl, by kernel_rfl, by kernel_rfl, by kernel_rfl⟩
theorem thty_92 : ThTy Try.prog 92 3 50 90 33 142 4 := ⟨by kernel_rfl, by kernel_rfl, by kernel_rfl, by kernel_rfl, by kernel_rfl, by kernel_rfl, by kernel_rfl, by kernel_rfl, by kernel_rfl, by kernel_rfl, by kernel_rfl, by kernel_rfl, by kernel_rfl, by kernel_rfl, labty_50, rtty_142⟩
theorem own_FnExactViewSame : ownKnob Try.prog.godebug = none := by kernel_rfl
theorem out_FnExactViewSame : laidOutB Try.prog = true := by kernel_rfl
theorem lifted_FnExactViewSame (os : Os) (started : os.Started) (H : Type) (enc : TypeId × Value → H) :
    ReturnsInLeavingWide {} Try.checked os 9 .any (Rows.fnExactViewSameSpec.pre6 enc Try.prog Try.f9 Rows.fnExactViewSameRow.domain false) (Rows.fnExactViewSameSpec.post enc Try.prog Try.f9 false true false false) := by
  refine returnsInLeavingWide_of_change_sized (C := Try.checked) own_FnExactViewSame started Try.func9
    (ChangeSpec.witness6 (enc := enc) (C := Try.checked) false ⟨#[], #[.slice none 0 0, .slice none 0 0, .agg #[.int .i64 0, .int .i64 0]], []⟩ 8 (by kernel_rfl) (by kernel_rfl) (by kernel_rfl) (by kernel_rfl)) ?_
  intro W base args ds gs before hval0 hW hcnd _ _
  have hval : ∀ (j : Nat) t v, Try.f9.params[j]? = some t → args[j]? = some v → Value.okWide Try.prog W .any base t v := hval0
  have hW' := hW
  obtain ⟨p, q, hA0, hV, rfl, hfz, hnd⟩ := hW
  have hA : DataW.TrodAll enc Try.prog W 0 (fun _ => true) true Try.f9.params.toList args.toList ds p := hA0
  have hlt : ∀ y ∈ p, y.block < W.heap.size := fun y hy => by simpa using hW'.lt y (List.mem_append_left _ hy)
  have hAll := hA
  rw [Try.params9] at hA hval
  obtain ⟨args⟩ := args
  obtain ⟨v0, vs0, d0, ds0, p0, q0, hvs0, hds0, hps0, h0, hA0⟩ := trodAll_cons hA
  obtain ⟨v1, vs1, d1, ds1, p1, q1, hvs1, hds1, hps1, h1, hA1⟩ := trodAll_cons hA0
  obtain ⟨v2, vs2, d2, ds2, p2, q2, hvs2, hds2, hps2, h2, hA2⟩ := trodAll_cons hA1
  obtain ⟨hvn, hdn, hpn⟩ := trodAll_nil hA2
  subst hvn; subst hdn; subst hpn
  subst hvs2; subst hds2; subst hps2
  subst hvs1; subst hds1; subst hps1
  simp only at hvs0; subst hvs0; subst hds0; subst hps0
  obtain ⟨rfl, rfl⟩ := trodVars_none hV
  obtain ⟨a0, ms0, c0, rfl, hl0, hc0, hs0, hm0⟩ := Mf (g := MTh.cells) (ok := MTh.inn W) (sz := 8) (t := 49) (e := 92) (by kernel_rfl) (by kernel_rfl) (by omega) Y6 (fun n cs x hx => Mh thty_92 hx) (hval 0 49 v0 rfl rfl) h0
  obtain ⟨a1, ms1, c1, rfl, hl1, hc1, hs1, hm1⟩ := Mf (g := MTh.cells) (ok := MTh.inn W) (sz := 8) (t := 49) (e := 92) (by kernel_rfl) (by kernel_rfl) (by omega) Y6 (fun n cs x hx => Mh thty_92 hx) (hval 1 49 v1 rfl rfl) h1
  obtain ⟨l2, rfl, wl2⟩ := Ft (g := Lab.cells) (ok := Lab.wf) (by kernel_rfl) (fun n cs x hx => Ru labty_50 hx) (hval 2 50 v2 rfl rfl) h2
  obtain ⟨M, last, o, w', t', h1, h2, h3, h4⟩ := Go.Dw.J.law_good (W := W) Try.func9 rfl Try.ntmps9 (by kernel_rfl) (by kernel_rfl) (fun hKB => Go.Dw.J.law_FnExactViewSame l2 _ ms0 ms1 a0 a1 c0 c1 (Go.Dw.J.seeAll_tab ⟨hs0, fun m h => (hm0 m h).1⟩) (Go.Dw.J.seeAll_tab ⟨hs1, fun m h => (hm1 m h).1⟩) (fun m h => (hm0 m h).2.1) (fun m h => (hm1 m h).2.1) hl0 hl1 hKB)
  refine ⟨M, last, o, w', t', h1, h2, h3, h4.mono fun v hp => ?_⟩
  obtain ⟨rfl, hbelow⟩ := hp
  exact Bd (Be (tb := 4) out_FnExactViewSame (by kernel_rfl) hW' hAll hlt rfl rfl rfl (by kernel_rfl) hbelow)
theorem holds_FnExactViewSame : Rows.FnExactViewSameSaid :=
  OpenClaim.holds_of_wide_leaving 9 Try.f9 rfl rfl rfl rfl rfl rfl rfl ⟨rfl, rfl, rfl, rfl, rfl⟩ rfl rfl rfl rfl rfl (by kernel_rfl) Try.func9 (by kernel_rfl)
    (of_decide_eq_true (by kernel_rfl)) (by unfold Func.isWrapper; first | (rw [if_pos (by decide +kernel)]; kernel_rfl) | (rw [if_neg (by decide +kernel)]; exact ⟨rfl, rfl⟩))
    (fun os started H enc _ => lifted_FnExactViewSame os started H enc)
end Go.Proofs.Ytldnkinaedgnpaa
