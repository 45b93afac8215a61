/- The row of FnExactRunLow, proved: whatever the input, it answers true, and the input reads as it did. No condition. -/
import Derived.Test.YtlkmdoebmklbbaaRows
import Derived.Test.YtlkmdoebmklbbaaL
import Derived.Test.YtlkmdoebmklbbaaRL2
namespace Go.Proofs.Ytlkmdoebmklbbaa
open Go.ChangeShapes Go.WideShapes Go.ChangeAt Go.RowKit Go.Dw
set_option maxRecDepth 100000
set_option linter.unusedSimpArgs false
set_option linter.unusedVariables false
theorem rtty_24 : RtTy Try.prog 24 3 4 := ⟨by kernel_rfl, by kernel_rfl, by kernel_rfl, by kernel_rfl, by kernel_rfl, by kernel_rfl, by kernel_rfl, by kernel_rfl, by kernel_rfl, by kernel_rfl⟩
theorem labty_50 : LabTy Try.prog 50 3 := ⟨by kernel_rfl, by kernel_rfl, by kernel_rfl, by kernel_rfl, by kernel_rfl⟩
theorem thty_111 : ThTy Try.prog 111 3 50 22 43 24 4 := ⟨by kernel_rfl, by kernel_rfl, by kernel_rfl, by kernel_rfl, by kernel_rfl, by kernel_rfl, by kernel_rfl, by kernel_rfl, by kernel_rfl, by kernel_rfl, by kernel_rfl, by kernel_rfl, by kernel_rfl, by kernel_rfl, labty_50, rtty_24⟩
theorem clty_115 : ClTy Try.prog 115 3 := ⟨by kernel_rfl, by kernel_rfl, by kernel_rfl, by kernel_rfl, by kernel_rfl, by kernel_rfl, by kernel_rfl, by kernel_rfl⟩
theorem own_FnExactRunLow : ownKnob Try.prog.godebug = none := by kernel_rfl
theorem out_FnExactRunLow : laidOutB Try.prog = true := by kernel_rfl
theorem lifted_FnExactRunLow (os : Os) (started : os.Started) (H : Type) (enc : TypeId × Value → H) :
    ReturnsInHanded {} Try.checked os 11 .any (Rows.fnExactRunLowSpec.pre6 enc Try.prog Try.f11 Rows.fnExactRunLowRow.domain false) (Rows.fnExactRunLowSpec.post enc Try.prog Try.f11 false true false false) := by
  refine returnsInHanded_of_change (C := Try.checked) own_FnExactRunLow started (by kernel_rfl) Try.func11
    (ChangeSpec.witness6 (enc := enc) (C := Try.checked) false ⟨#[], #[.slice none 0 0, .slice none 0 0, .agg #[.int .i64 0, .int .i64 0]], []⟩ 8 (by kernel_rfl) (by kernel_rfl) (by kernel_rfl) (by kernel_rfl)) ?_
  intro W base args ds gs before hval0 hW hcnd _
  have hval : ∀ (j : Nat) t v, Try.f11.params[j]? = some t → args[j]? = some v → Value.okWide Try.prog W .any base t v := hval0
  have hW' := hW
  obtain ⟨p, q, hA0, hV, rfl, hfz, hnd⟩ := hW
  have hA : DataW.TrodAll enc Try.prog W 0 (fun _ => true) true Try.f11.params.toList args.toList ds p := hA0
  have hlt : ∀ y ∈ p, y.block < W.heap.size := fun y hy => by simpa using hW'.lt y (List.mem_append_left _ hy)
  have hAll := hA
  rw [Try.params11] at hA hval
  obtain ⟨args⟩ := args
  obtain ⟨v0, vs0, d0, ds0, p0, q0, hvs0, hds0, hps0, h0, hA0⟩ := trodAll_cons hA
  obtain ⟨v1, vs1, d1, ds1, p1, q1, hvs1, hds1, hps1, h1, hA1⟩ := trodAll_cons hA0
  obtain ⟨v2, vs2, d2, ds2, p2, q2, hvs2, hds2, hps2, h2, hA2⟩ := trodAll_cons hA1
  obtain ⟨hvn, hdn, hpn⟩ := trodAll_nil hA2
  subst hvn; subst hdn; subst hpn
  subst hvs2; subst hds2; subst hps2
  subst hvs1; subst hds1; subst hps1
  simp only at hvs0; subst hvs0; subst hds0; subst hps0
  obtain ⟨rfl, rfl⟩ := trodVars_none hV
  obtain ⟨a0, ms0, c0, rfl, hl0, hc0, hs0, hm0⟩ := open_sl (g := MTh.cells) (ok := MTh.inn W) (sz := 8) (t := 61) (e := 111) (by kernel_rfl) (by kernel_rfl) (by omega) wide_mth (fun n cs x hx => read_th thty_111 hx) (hval 0 61 v0 rfl rfl) h0
  obtain ⟨a1, cs1, c1, rfl, hl1, hc1, hs1, hq1⟩ := open_sl (g := Cl.cells) (ok := Cl.wf) (sz := 5) (t := 66) (e := 115) (by kernel_rfl) (by kernel_rfl) (by omega) wide_cl (fun n cs x hx => read_cl clty_115 hx) (hval 1 66 v1 rfl rfl) h1
  obtain ⟨l2, rfl, wl2⟩ := open_st (g := Lab.cells) (ok := Lab.wf) (by kernel_rfl) (fun n cs x hx => read_lab labty_50 hx) (hval 2 50 v2 rfl rfl) h2
  refine Calls.mono (law_FnExactRunLow l2 W ms0 a0 c0 ⟨hs0, fun m h => (hm0 m h).1⟩ (fun m h => (hm0 m h).2.1) hl0 cs1 a1 c1 hs1 hl1) fun e Wn hw => ?_
  obtain ⟨_, rfl, rfl, hg⟩ := hw
  exact ⟨_, rfl, post_true (tb := 4) out_FnExactRunLow (by kernel_rfl) hW' hAll hlt rfl rfl rfl (by kernel_rfl) (below_none hg (Nat.le_refl _))⟩
theorem holds_FnExactRunLow : Rows.FnExactRunLowSaid :=
  OpenClaim.holds_of_wide 11 Try.f11 rfl rfl rfl rfl rfl rfl rfl ⟨rfl, rfl, rfl, rfl, rfl⟩ rfl rfl rfl rfl rfl (by kernel_rfl) Try.func11 (by kernel_rfl)
    (of_decide_eq_true (by kernel_rfl)) (by unfold Func.isWrapper; first | (rw [if_pos (by decide +kernel)]; kernel_rfl) | (rw [if_neg (by decide +kernel)]; exact ⟨rfl, rfl⟩))
    (fun os started H enc _ => lifted_FnExactRunLow os started H enc)
end Go.Proofs.Ytlkmdoebmklbbaa
