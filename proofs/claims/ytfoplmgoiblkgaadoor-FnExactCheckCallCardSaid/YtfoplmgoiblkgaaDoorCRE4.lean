/- The tied card of %s: whatever the input, it answers true, and the input reads as it did. Condition: errors.errorType starts as the program's text lays it, and the card ties that to the text. -/
import Derived.Test.YtfoplmgoiblkgaaDoorRows
import Derived.Test.YtfoplmgoiblkgaaDoorTie
import Derived.Test.YtfoplmgoiblkgaaDoorCards
import Derived.Test.YtfoplmgoiblkgaaDoorCR5
namespace Go.Proofs.YtfoplmgoiblkgaaDoor
open Go.ChangeShapes Go.WideShapes Go.ChangeAt Go.RowKit Go.Dw
set_option maxRecDepth 100000
set_option linter.unusedSimpArgs false
set_option linter.unusedVariables false
theorem rtty_120 : RtTy Tryd.prog 120 3 4 := ⟨by kernel_rfl, by kernel_rfl, by kernel_rfl, by kernel_rfl, by kernel_rfl, by kernel_rfl, by kernel_rfl, by kernel_rfl, by kernel_rfl, by kernel_rfl⟩
theorem labty_52 : LabTy Tryd.prog 52 3 := ⟨by kernel_rfl, by kernel_rfl, by kernel_rfl, by kernel_rfl, by kernel_rfl⟩
theorem thty_55 : ThTy Tryd.prog 55 3 52 53 41 120 4 := ⟨by kernel_rfl, by kernel_rfl, by kernel_rfl, by kernel_rfl, by kernel_rfl, by kernel_rfl, by kernel_rfl, by kernel_rfl, by kernel_rfl, by kernel_rfl, by kernel_rfl, by kernel_rfl, by kernel_rfl, by kernel_rfl, labty_52, rtty_120⟩
theorem clty_24 : ClTy Tryd.prog 24 3 := ⟨by kernel_rfl, by kernel_rfl, by kernel_rfl, by kernel_rfl, by kernel_rfl, by kernel_rfl, by kernel_rfl, by kernel_rfl⟩
theorem own_FnExactCheckCall : ownKnob Tryd.prog.godebug = none := by kernel_rfl
theorem out_FnExactCheckCall : laidOutB Tryd.prog = true := by kernel_rfl
theorem lifted_FnExactCheckCall (os : Os) (started : os.Started) (H : Type) (enc : TypeId × Value → H) :
    ReturnsInHanded {} Tryd.checked os 3 .any (fun w args => (Rows.fnExactCheckCallSpec.pre enc Tryd.prog Tryd.f3 Rows.fnExactCheckCallRow.domain false w args ∧ laidMetH Tryd.prog laidE w) ∧ sizedMet enc Tryd.prog Tryd.f3 (OpenSpec.ofChange Rows.fnExactCheckCallSpec) false w args) (Rows.fnExactCheckCallSpec.post enc Tryd.prog Tryd.f3 false true false false) := by
  refine returnsInHanded_of_change_and (C := Tryd.checked) (X := fun w _ => laidMetH Tryd.prog laidE w) (fun _ _ _ hh h => h.of_heap hh) own_FnExactCheckCall started (by kernel_rfl) Tryd.func3
    (ChangeSpec.witness_at (enc := enc) (C := Tryd.checked) (os := os) (X := fun w _ => laidMetH Tryd.prog laidE w) false (laidWorld os) #[.slice none 0 0, .agg #[.int .i64 0, .int .i64 0, .int .i64 0, .int .i64 0, .int .i64 0]] 8 rfl (by kernel_rfl) (by kernel_rfl) (by kernel_rfl) (by kernel_rfl) (by kernel_rfl) (Ji os _)) ?_
  intro W base args ds gs before hval0 hW _ _ hL _
  have hE := Jy hL
  have hval : ∀ (j : Nat) t v, Tryd.f3.params[j]? = some t → args[j]? = some v → Value.okWide Tryd.prog W .any base t v := hval0
  have hW' := hW
  obtain ⟨p, q, hA0, hV, rfl, hfz, hnd⟩ := hW
  have hA : DataW.TrodAll enc Tryd.prog W 0 (fun _ => true) true Tryd.f3.params.toList args.toList ds p := hA0
  have hlt : ∀ y ∈ p, y.block < W.heap.size := fun y hy => by simpa using hW'.lt y (List.mem_append_left _ hy)
  have hAll := hA
  rw [Tryd.params3] at hA hval
  obtain ⟨args⟩ := args
  obtain ⟨v0, vs0, d0, ds0, p0, q0, hvs0, hds0, hps0, h0, hA0⟩ := trodAll_cons hA
  obtain ⟨v1, vs1, d1, ds1, p1, q1, hvs1, hds1, hps1, h1, hA1⟩ := trodAll_cons hA0
  obtain ⟨hvn, hdn, hpn⟩ := trodAll_nil hA1
  subst hvn; subst hdn; subst hpn
  subst hvs1; subst hds1; subst hps1
  simp only at hvs0; subst hvs0; subst hds0; subst hps0
  obtain ⟨rfl, rfl⟩ := trodVars_none hV
  obtain ⟨a0, ms0, c0, rfl, hl0, hc0, hs0, hm0⟩ := Ub (g := MTh.cells) (ok := MTh.inn W) (sz := 8) (t := 22) (e := 55) (by kernel_rfl) (by kernel_rfl) (by omega) Zy (fun n cs x hx => R5 thty_55 hx) (hval 0 22 v0 rfl rfl) h0
  obtain ⟨q1, rfl, wq1⟩ := Sq (g := Cl.cells) (ok := Cl.wf) (by kernel_rfl) (fun n cs x hx => R2 clty_24 hx) (hval 1 24 v1 rfl rfl) h1
  refine Calls.mono (law_FnExactCheckCall q1 W ms0 a0 c0 ⟨hs0, fun m h => (hm0 m h).1⟩ (fun m h => (hm0 m h).2.1) hl0 hE) fun e Wn hw => ?_
  obtain ⟨_, rfl, rfl, hg⟩ := hw
  exact ⟨_, rfl, K6 (tb := 4) out_FnExactCheckCall (by kernel_rfl) hW' hAll hlt rfl rfl rfl (by kernel_rfl) (Jb hg (Nat.le_refl _))⟩
theorem holds_FnExactCheckCall : Rows.FnExactCheckCallSaid :=
  OpenClaim.holds_of_wide 3 Tryd.f3 rfl rfl rfl rfl rfl rfl rfl ⟨rfl, rfl, rfl, rfl, rfl⟩ rfl rfl rfl rfl rfl (by kernel_rfl) Tryd.func3 (by kernel_rfl)
    (of_decide_eq_true (by kernel_rfl)) (by unfold Func.isWrapper; first | (rw [if_pos (by decide +kernel)]; kernel_rfl) | (rw [if_neg (by decide +kernel)]; exact ⟨rfl, rfl⟩))
    (fun os started H enc _ => lifted_FnExactCheckCall os started H enc)
theorem card_FnExactCheckCall : Rows.FnExactCheckCallCardSaid :=
  Claim7.holds_tied_plain_at .later [] [.handle] true (true, "068818c9df14be91abffa50f553e89669c2dcd6ceb82c64ce0380746fbe4ef75") true
    holds_FnExactCheckCall (fun _ h => by cases h) (by kernel_rfl) (fun _ h => by cases h) fnExactCheckCall_row_tie rfl ⟨rfl, rfl⟩ (by kernel_rfl) rfl
    (fun f fn hf hfn => by
      obtain rfl : f = 3 := Option.some.inj ((show Tryd.prog.funcNamed "loop.example/drawbar/laws.FnExactCheckCall" = some 3 by kernel_rfl).symm.trans hf) |>.symm
      obtain rfl : fn = Tryd.f3 := (Option.some.inj (Tryd.func3.symm.trans hfn)).symm
      exact ⟨by kernel_rfl, fun j t ht => by
        rw [Tryd.params3] at ht
        rcases j with _ | _ | j
        · obtain rfl : t = 22 := by simpa using ht.symm
          exact (show Tryd.prog.wantsStandIn 22 = false by kernel_rfl)
        · obtain rfl : t = 24 := by simpa using ht.symm
          exact (show Tryd.prog.wantsStandIn 24 = false by kernel_rfl)
        · simp at ht⟩)
    (by kernel_rfl)
end Go.Proofs.YtfoplmgoiblkgaaDoor
