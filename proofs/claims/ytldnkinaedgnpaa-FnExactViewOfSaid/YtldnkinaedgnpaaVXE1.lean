/- The row of FnExactViewOf, proved: whatever the input, it answers true, and the input reads as it did. No condition. -/
import Derived.Test.YtldnkinaedgnpaaRows
import Derived.Test.YtldnkinaedgnpaaVX5
namespace Go.Proofs.Ytldnkinaedgnpaa
open Go.ChangeShapes Go.WideShapes Go.ChangeAt Go.RowKit Go.Dw
set_option maxRecDepth 100000
set_option linter.unusedSimpArgs false
set_option linter.unusedVariables false
theorem rtty_142 : RtTy Try.prog 142 3 4 := ⟨by kernel_rfl, by kernel_rfl, by kernel_rfl, by kernel_rfl, by kernel_rfl, by kernel_rfl, by kernel_rfl, by kernel_rfl, by kernel_rfl, by kernel_rfl⟩
theorem labty_50 : LabTy Try.prog 50 3 := ⟨by kernel_rfl, by kernel_rfl, by kernel_rfl, by kernel_rfl, by kernel_rfl⟩
theorem thty_92 : ThTy Try.prog 92 3 50 90 33 142 4 := ⟨by kernel_rfl, by kernel_rfl, by kernel_rfl, by kernel_rfl, by kernel_rfl, by kernel_rfl, by kernel_rfl, by kernel_rfl, by kernel_rfl, by kernel_rfl, by kernel_rfl, by kernel_rfl, by kernel_rfl, by kernel_rfl, labty_50, rtty_142⟩
theorem own_FnExactViewOf : ownKnob Try.prog.godebug = none := by kernel_rfl
theorem out_FnExactViewOf : laidOutB Try.prog = true := by kernel_rfl
theorem lifted_FnExactViewOf (os : Os) (started : os.Started) (H : Type) (enc : TypeId × Value → H) :
    ReturnsInLeavingWide {} Try.checked os 10 .any (Rows.fnExactViewOfSpec.pre6 enc Try.prog Try.f10 Rows.fnExactViewOfRow.domain false) (Rows.fnExactViewOfSpec.post enc Try.prog Try.f10 false true false false) := by
  refine returnsInLeavingWide_of_change_sized (C := Try.checked) own_FnExactViewOf started Try.func10
    (ChangeSpec.witness6 (enc := enc) (C := Try.checked) false ⟨#[], #[.slice none 0 0, .agg #[.int .i64 0, .int .i64 0]], []⟩ 8 (by kernel_rfl) (by kernel_rfl) (by kernel_rfl) (by kernel_rfl)) ?_
  intro W base args ds gs before hval0 hW hcnd _ _
  have hval : ∀ (j : Nat) t v, Try.f10.params[j]? = some t → args[j]? = some v → Value.okWide Try.prog W .any base t v := hval0
  have hW' := hW
  obtain ⟨p, q, hA0, hV, rfl, hfz, hnd⟩ := hW
  have hA : DataW.TrodAll enc Try.prog W 0 (fun _ => true) true Try.f10.params.toList args.toList ds p := hA0
  have hlt : ∀ y ∈ p, y.block < W.heap.size := fun y hy => by simpa using hW'.lt y (List.mem_append_left _ hy)
  have hAll := hA
  rw [Try.params10] at hA hval
  obtain ⟨args⟩ := args
  obtain ⟨v0, vs0, d0, ds0, p0, q0, hvs0, hds0, hps0, h0, hA0⟩ := trodAll_cons hA
  obtain ⟨v1, vs1, d1, ds1, p1, q1, hvs1, hds1, hps1, h1, hA1⟩ := trodAll_cons hA0
  obtain ⟨hvn, hdn, hpn⟩ := trodAll_nil hA1
  subst hvn; subst hdn; subst hpn
  subst hvs1; subst hds1; subst hps1
  simp only at hvs0; subst hvs0; subst hds0; subst hps0
  obtain ⟨rfl, rfl⟩ := trodVars_none hV
  obtain ⟨a0, ms0, c0, rfl, hl0, hc0, hs0, hm0⟩ := open_sl (g := MTh.cells) (ok := MTh.inn W) (sz := 8) (t := 49) (e := 92) (by kernel_rfl) (by kernel_rfl) (by omega) wide_mth (fun n cs x hx => read_th thty_92 hx) (hval 0 49 v0 rfl rfl) h0
  obtain ⟨l1, rfl, wl1⟩ := open_st (g := Lab.cells) (ok := Lab.wf) (by kernel_rfl) (fun n cs x hx => read_lab labty_50 hx) (hval 1 50 v1 rfl rfl) h1
  obtain ⟨M, last, o, w', t', h1, h2, h3, h4⟩ := Go.Dw.J.law_good (W := W) Try.func10 rfl Try.ntmps10 (by kernel_rfl) (by kernel_rfl) (fun hKB => Go.Dw.J.law_FnExactViewOf l1 _ ms0 a0 c0 (Go.Dw.J.seeAll_tab ⟨hs0, fun m h => (hm0 m h).1⟩) (fun m h => (hm0 m h).2.1) hl0 hKB)
  refine ⟨M, last, o, w', t', h1, h2, h3, h4.mono fun v hp => ?_⟩
  obtain ⟨rfl, hbelow⟩ := hp
  exact post_tape (post_true (tb := 4) out_FnExactViewOf (by kernel_rfl) hW' hAll hlt rfl rfl rfl (by kernel_rfl) hbelow)
theorem holds_FnExactViewOf : Rows.FnExactViewOfSaid :=
  OpenClaim.holds_of_wide_leaving 10 Try.f10 rfl rfl rfl rfl rfl rfl rfl ⟨rfl, rfl, rfl, rfl, rfl⟩ rfl rfl rfl rfl rfl (by kernel_rfl) Try.func10 (by kernel_rfl)
    (of_decide_eq_true (by kernel_rfl)) (by unfold Func.isWrapper; first | (rw [if_pos (by decide +kernel)]; kernel_rfl) | (rw [if_neg (by decide +kernel)]; exact ⟨rfl, rfl⟩))
    (fun os started H enc _ => lifted_FnExactViewOf os started H enc)
end Go.Proofs.Ytldnkinaedgnpaa
