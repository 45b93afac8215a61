/- Laws and walks: my templates, and what a program of mine (gen.py) printed out of the functions; only what the row reaches. -/
import Derived.Test.YtldnkinaedgnpaaVA4
section
namespace Go.Dw.J
open Go.RowKit Go.Dw Go.Proofs
set_option linter.unusedSectionVars false
set_option maxRecDepth 100000
set_option maxHeartbeats 4000000
set_option linter.unusedSimpArgs false
set_option linter.unusedVariables false
theorem law_FnViewOf [Comp] [ViewRule] (bs : List Int) (a : Option Addr) (c : Nat) (w : World) (hs0 : SlAt w a 1 (bs.map bcell)) (hb : ∀ b ∈ bs, 0 ≤ b ∧ b ≤ 255) (hn : bs.length ≤ 9223372036854775807) (hc : bs.length ≤ c) (hKB : ViewRule.base ≤ w.heap.size) : Wpf Try.prog 109 (endQ Try.prog Try.f3 (fun v w' => v = .bool true ∧ w.grownBy w' none)) (Try.f3.body.getD .skip) (f0 #[.slice a bs.length c]) w := by
 have gj := World.grownBy.refl w none
 have hs := SlAt.lt R9 (by omega) hs0
 refine Xa (wpo_assign (v := vb false) Z Z (wpo_nil (Xi (Xa (wpo_move (v := .slice a bs.length c) Z Z (wpo_len (by kernel_rfl) Z Z (wpo_gtr (q := decide (1048576 < (bs.length : Int))) Z Z Z Z (wpo_nil (Xs Z (fun bp => ?_) (fun bp => ?_))))))))))
 have pe := of_decide_eq_true bp
 refine Xa (wpo_assign (v := vb true) Z Z (wpo_nil (Xk (X9 (⟨vb true, res1 Z Z, ?_, gj⟩)))))
 rfl
 have pf := of_decide_eq_false bp
 refine Xl (Xr (Xa (wpo_move (v := .slice a bs.length c) Z Z (Xg Fz (Xb Z Xf) Z (Lq bs a c _ (SlAt.low hs0 gj) hb (by omega) (by omega)) ?_))))
 rintro _ pn ⟨ai, ae, E, ab, rfl, bg, d6, nj, oe, gl⟩
 have dr := low0 gj gl
 have a9 := d6.len
 refine wpo_move (v := .tuple #[.slice (pa ai) E.length ae, .agg #[vi ab.s, vi ab.v]]) Z Z (wpo_extract (v := .slice (pa ai) E.length ae) Z Z Z (wpo_extract (v := .agg #[vi ab.s, vi ab.v]) Z Z Z (wpo_alloc (cs := #[vi 0, vi 0]) Sq Z Z ?_)))
 intro cc po as
 have nk := Xy as dr
 refine wpo_assign (v := .slice (pa ai) E.length ae) Z Z (wpo_storen (vs := [vi ab.s, vi ab.v]) (cs' := #[vi ab.s, vi ab.v]) Yu Z Z Z (by simp [Value.oneCell']) as.blk (Nat.le_of_ble_eq_true Z) Z ?_)
 intro pp az
 have dt := low1 (low0 dr as.grw) az.grw (by omega)
 refine wpo_nil (Xa (wpo_move (v := .slice (pa ai) E.length ae) Z Z (wpo_loadn (vs := [vi ab.s, vi ab.v]) Yu Z Z (az.blk.rangeL 0 2 Z) Z (Xg F1 (Xb Z (Xb Z Xf)) Z (ViewRule.rule _ E _ _ ab (nt hKB dt.size) (TabG.at (TabG.low bg (low1 as.grw az.grw (nt ((World.grownBy.refl _ none)).size as.ge)))) a9 (by omega)) ?_))))
 rintro _ mt ⟨V, a8, aq, rfl, bm, bi, nz, bc⟩
 have bk := Vl bm a9
 have nw := U3 bm
 refine wpo_assign (v := .slice a8 V.length aq) Z Z (wpo_nil (Xi (Xt (fun f' w' => (f' 2 = vb false ∧ f' 3 = .slice (pa ai) E.length ae ∧ f' 4 = pt cc 0 ∧ f' 5 = .slice a8 V.length aq ∧ f' 35 = vb ((false || (!tableOk (tabT E))) || (!labelOk ab))) ∧ mt.grownBy w' none) ?_ ?_)))
 refine wpo_move (v := .slice a8 V.length aq) Z Z (wpo_move (v := .slice (pa ai) E.length ae) Z Z ?_)
 have fv := (az.blk.grown0 bc)
 refine wpo_loadn (vs := [vi ab.s, vi ab.v]) Yu Z Z (fv.rangeL 0 2 Z) Z (Xg Dx (Xb Z (Xb Z Xf)) Z (Li ab _ E _ _ (TabG.at (TabG.low bg (low0 (low1 as.grw az.grw (nt ((World.grownBy.refl _ none)).size as.ge)) bc))) a9 (by omega)) ?_)
 rintro _ pq ⟨i7, oz, nh, rfl, da, gf, n5, bt⟩
 have d7 := Vl da a9
 have nx := U3 da
 refine Xg Dv (Xb Z (Xb Z Xf)) Z (H4 _ V i7 _ _ _ _ (TabAt.low bi bt) gf bk d7 (by omega) (by omega)) ?_
 rintro _ pu ⟨rfl, cl⟩
 refine wpo_not (b' := false) (cB (decide_eq_true (bm.trans da.symm))) Z Z (wpo_move (v := vb false) Z Z (Xc Z Z Z Z (wpo_move (v := .slice (pa ai) E.length ae) Z Z (Xc Z Z Z Z (Xg Dy (Xb Z Xf) Z (Uz  _ E _ _ (TabG.at (TabG.low bg (low0 (low0 (low0 (low1 as.grw az.grw (nt ((World.grownBy.refl _ none)).size as.ge)) bc) bt) cl))) a9 (by omega)) ?_)))))
 rintro _ pw ⟨rfl, dc⟩
 refine Xc Z Z Z Z (wpo_not (b' := !tableOk (tabT E)) Z Z Z (wpo_pickf (v := vb (!tableOk (tabT E))) Z Z Z Z (wpo_move (v := vb (!tableOk (tabT E))) Z Z ?_)))
 rcases X1 (!tableOk (tabT E)) with bh | bh
 have ml := Jd bh
 iterate 3 refine Xd rfl rfl rfl bh rfl ?_
 exact wpo_pickt (v := vb true) Z bh Z Z (wpo_nil ⟨⟨Z, Z, Z, Z, (cB (by simp [bp, bh, ml]))⟩, (Xe (Xe bt cl) dc)⟩)
 have mn := Qn bh
 refine Xc Z Z Z bh (wpo_loadn (vs := [vi ab.s, vi ab.v]) Yu Z Z ((((fv.grown0 bt).grown0 cl).grown0 dc).rangeL 0 2 Z) Z (Xc Z Z Z bh (Xg Dz (Xb Z Xf) Z (Uy ab _) ?_)))
 rintro _ px ⟨rfl, gm⟩
 exact Xc Z Z Z bh (wpo_not (b' := !labelOk ab) Z Z Z (wpo_pickf (v := vb (!labelOk ab)) Z bh Z Z (wpo_nil ⟨⟨Z, Z, Z, Z, (cB (by simp [bp, bh, mn]))⟩, (Xe (Xe (Xe bt cl) dc) gm)⟩)))
 rintro pb mu ⟨⟨o1, fd, fe, ff, jc⟩, au⟩
 have du := low0 (low0 dt bc) au
 refine Xs jc (fun ce => ?_) (fun ce => ?_)
 refine Xa (wpo_move (v := .slice a8 V.length aq) ff Z (wpo_move (v := .slice (pa ai) E.length ae) fd Z (wpo_loadn (vs := [vi ab.s, vi ab.v]) Yu fe Z (((az.blk.grown0 bc).grown0 au).rangeL 0 2 Z) Z (Xg Dx (Xb Z (Xb Z Xf)) Z (Li ab _ E _ _ (TabG.at (TabG.low bg (low0 (low0 (low1 as.grw az.grw (nt ((World.grownBy.refl _ none)).size as.ge)) bc) au))) a9 (by omega)) ?_))))
 rintro _ py ⟨i8, o0, ni, rfl, db, gg, n7, dv⟩
 have d8 := Vl db a9
 have ny := U3 db
 refine Xg Dv (Xb Z (Xb Z Xf)) Z (H4 _ V i8 _ _ _ _ (TabAt.low bi (Xe au dv)) gg bk d8 (by omega) (by omega)) ?_
 rintro _ p0 ⟨rfl, gp⟩
 refine wpo_assign (v := vb true) (cB (decide_eq_true (bm.trans db.symm))) Z (wpo_nil (Xk (X9 (⟨vb true, res1 Z Z, ?_, (low0 (low0 du dv) gp)⟩))))
 rfl
 have co := J6 ce
 have dq := J6 co
 have dk := J7 co
 have cw := Qn dk
 have dl := J7 ce
 have cx := Qn dl
 refine Xl (Xr (Xi (Xa (wpo_assign (v := vi 0) Z Z (wpo_nil (Xu (Yf (fun mm f' w' => ∃ (i : Nat), mm = E.length - i ∧ i ≤ E.length ∧ mu.grownBy w' none ∧ f' 6 = vi (i : Int) ∧ f' 3 = .slice (pa ai) E.length ae ∧ f' 4 = pt cc 0 ∧ f' 5 = .slice a8 V.length aq ∧ w.grownBy w' none ∧ Blk w' cc 25 #[vi ab.s, vi ab.v]) (E.length - 0) ⟨0, Z, (Nat.zero_le _), (World.grownBy.refl _ none), Z, fd, fe, ff, du, ((az.blk.grown0 bc).grown0 au)⟩ ?_)))))))
 rintro mm pc fw ⟨i, oh, hi, aw, fg, dp, jd, fh, cz, bv⟩
 have heq := Hz bm cw cx
 refine Xi (Xa (wpo_move (v := vi (i : Int)) fg Z (wpo_move (v := .slice (pa ai) E.length ae) dp Z (wpo_len (by kernel_rfl) Z Z (wpo_lss (q := decide ((i : Int) < (E.length : Int))) Z Z Z Z (wpo_nil (Xs Z (fun cg => ?_) (fun cg => ?_))))))))
 have pg := of_decide_eq_true cg
 refine Xl (Xr (Xi (Xu (Xi ?_))))
 obtain ⟨av, pk, ao, ba, bd, be⟩ := SlAt.at (TabG.at (TabG.low bg (low0 (low0 (low0 (low1 as.grw az.grw (nt ((World.grownBy.refl _ none)).size as.ge)) bc) au) aw))).1 (Yk (xg E i))
 have np := TabLen.at a9 (xg E i)
 refine J1 (m := 21) [[], [], [0, 1], [0, 1, 2], [0, 1, 2, 3], [], [], [5, 6], [5, 6, 7], [5, 6, 7, 8], [], [], [10, 11], [10, 11, 12], [10, 11, 12, 13], [0, 1, 2, 3, 4, 5, 6, 7, 8, 9, 10, 11, 12, 13, 14], [0, 1, 2, 3, 4, 5, 6, 7, 8, 9, 10, 11, 12, 13, 14, 15], [0, 1, 2, 3, 4, 5, 6, 7, 8, 9, 10, 11, 12, 13, 14, 15, 16], [0, 1, 2, 3, 4, 5, 6, 7, 8, 9, 10, 11, 12, 13, 14, 15, 16], [], [0, 1, 2, 3, 4, 5, 6, 7, 8, 9, 10, 11, 12, 13, 14, 15, 16, 17, 19], [0, 1, 2, 3, 4, 5, 6, 7, 8, 9, 10, 11, 12, 13, 14, 15, 16, 17, 18, 19, 20]] (fun S F w' => ∃ (O : MTh) (ac : Bool) (ag : Nat), fw.grownBy w' none ∧ F 3 = .slice (pa ai) E.length ae ∧ F 4 = pt cc 0 ∧ F 5 = .slice a8 V.length aq ∧ F 6 = vi (i : Int) ∧ (S 15 = true → F 63 = .tuple #[.agg #[vi O.t.kind, vi O.t.lab.s, vi O.t.lab.v, vi O.t.ve, vi O.t.num, .slice O.sa O.t.slots.length O.sc, .slice O.qa O.t.queue.length O.qc, vi O.t.to], vb ac] ∧ O.t = thingNew (mAt E i).t.kind (mAt E i).t.lab (mAt E i).t.to ∧ (O.t.slots.length ≤ 1048576 ∧ O.t.queue.length ≤ 1048576) ∧ RowO 74 3 0 w' O) ∧ (S 16 = true → F 47 = .tuple #[.agg #[vi O.t.kind, vi O.t.lab.s, vi O.t.lab.v, vi O.t.ve, vi O.t.num, .slice O.sa O.t.slots.length O.sc, .slice O.qa O.t.queue.length O.qc, vi O.t.to], vb ac]) ∧ (S 17 = true → F 64 = .agg #[vi O.t.kind, vi O.t.lab.s, vi O.t.lab.v, vi O.t.ve, vi O.t.num, .slice O.sa O.t.slots.length O.sc, .slice O.qa O.t.queue.length O.qc, vi O.t.to]) ∧ (S 18 = true → F 65 = vb ac) ∧ (S 19 = true → F 7 = pt ag 0 ∧ w.heap.size ≤ ag ∧ (S 20 = false → Blk w' ag 35 #[vi 0, vi 0, vi 0, vi 0, vi 0, .slice none 0 0, .slice none 0 0, vi 0]) ∧ cc < ag ∧ fw.heap.size ≤ ag) ∧ (S 20 = true → Blk w' ag 35 #[vi O.t.kind, vi O.t.lab.s, vi O.t.lab.v, vi O.t.ve, vi O.t.num, .slice O.sa O.t.slots.length O.sc, .slice O.qa O.t.queue.length O.qc, vi O.t.to]) ∧ Vals S F [(0, 48, .slice (pa ai) E.length ae), (1, 49, vi (i : Int)), (2, 50, pt av ao), (3, 51, pt av ao), (4, 52, vi (mAt E i).t.kind), (5, 53, .slice (pa ai) E.length ae), (6, 54, vi (i : Int)), (7, 55, pt av ao), (8, 56, pt av (ao + 1)), (9, 57, .agg #[vi (mAt E i).t.lab.s, vi (mAt E i).t.lab.v]), (10, 58, .slice (pa ai) E.length ae), (11, 59, vi (i : Int)), (12, 60, pt av ao), (13, 61, pt av (ao + 7)), (14, 62, vi (mAt E i).t.to)]) Q4 (by kernel_rfl) ⟨MTh.zero, false, 0, X5 _, dp, jd, fh, fg, X6, X6, X6, X6, X6, X6, U2 _⟩ ?_ ?_
 refine Xp (fun S F p8 hS hbef hcl hI => ?_) ?_
 obtain ⟨O, ac, ag, gw, fi, je, jf, jg, aj, al, an, ap, ah, ar, hvs⟩ := hI
 exact wpo_move (v := .slice (pa ai) E.length ae) fi Z (wpo_nil ⟨O, ac, ag, gw, fi, je, jf, jg, Xh 15 hS hcl Z, Xh 16 hS hcl Z, Xh 17 hS hcl Z, Xh 18 hS hcl Z, ah, Xh 20 hS hcl Z, Vals.up 0 hvs Z Z Z⟩)
 refine Xp (fun S F p9 hS hbef hcl hI => ?_) ?_
 obtain ⟨O, ac, ag, gx, jh, ji, jj, fj, aj, al, an, ap, ah, ar, hvs⟩ := hI
 exact wpo_move (v := vi (i : Int)) fj Z (wpo_nil ⟨O, ac, ag, gx, jh, ji, jj, fj, Xh 15 hS hcl Z, Xh 16 hS hcl Z, Xh 17 hS hcl Z, Xh 18 hS hcl Z, ah, Xh 20 hS hcl Z, Vals.up 1 hvs Z Z Z⟩)
 refine Xp (fun S F qd hS hbef hcl hI => ?_) ?_
 obtain ⟨O, ac, ag, gy, jk, jl, jm, jo, aj, al, an, ap, ah, ar, hvs⟩ := hI
 exact Xx Qc (Vals.at 0 hvs Z (Xj 0 hbef Z)) (Vals.at 1 hvs Z (Xj 1 hbef Z)) ba bd (by omega) (by omega) Z (wpo_nil ⟨O, ac, ag, gy, jk, jl, jm, jo, Xh 15 hS hcl Z, Xh 16 hS hcl Z, Xh 17 hS hcl Z, Xh 18 hS hcl Z, ah, Xh 20 hS hcl Z, Vals.up 2 hvs Z Z Z⟩)
 refine Xp (fun S F qe hS hbef hcl hI => ?_) ?_
 obtain ⟨O, ac, ag, gz, jp, jq, jr, js, aj, al, an, ap, ah, ar, hvs⟩ := hI
 exact wpo_fieldAddr (o' := ao) X8 (Vals.at 2 hvs Z (Xj 2 hbef Z)) Z Z (wpo_nil ⟨O, ac, ag, gz, jp, jq, jr, js, Xh 15 hS hcl Z, Xh 16 hS hcl Z, Xh 17 hS hcl Z, Xh 18 hS hcl Z, ah, Xh 20 hS hcl Z, Vals.up 3 hvs Z Z Z⟩)
 refine Xp (fun S F qf hS hbef hcl hI => ?_) ?_
 obtain ⟨O, ac, ag, dx, jt, ju, jv, jw, aj, al, an, ap, ah, ar, hvs⟩ := hI
 exact wpo_load1 (v := vi (mAt E i).t.kind) X0 (Vals.at 3 hvs Z (Xj 3 hbef Z)) ((Yb be dx) 0 _ Z) Z (wpo_nil ⟨O, ac, ag, dx, jt, ju, jv, jw, Xh 15 hS hcl Z, Xh 16 hS hcl Z, Xh 17 hS hcl Z, Xh 18 hS hcl Z, ah, Xh 20 hS hcl Z, Vals.up 4 hvs Z Z Z⟩)
 refine Xp (fun S F qg hS hbef hcl hI => ?_) ?_
 obtain ⟨O, ac, ag, g4, fk, jy, jz, j1, aj, al, an, ap, ah, ar, hvs⟩ := hI
 exact wpo_move (v := .slice (pa ai) E.length ae) fk Z (wpo_nil ⟨O, ac, ag, g4, fk, jy, jz, j1, Xh 15 hS hcl Z, Xh 16 hS hcl Z, Xh 17 hS hcl Z, Xh 18 hS hcl Z, ah, Xh 20 hS hcl Z, Vals.up 5 hvs Z Z Z⟩)
 refine Xp (fun S F qi hS hbef hcl hI => ?_) ?_
 obtain ⟨O, ac, ag, g7, j2, j3, j4, fm, aj, al, an, ap, ah, ar, hvs⟩ := hI
 exact wpo_move (v := vi (i : Int)) fm Z (wpo_nil ⟨O, ac, ag, g7, j2, j3, j4, fm, Xh 15 hS hcl Z, Xh 16 hS hcl Z, Xh 17 hS hcl Z, Xh 18 hS hcl Z, ah, Xh 20 hS hcl Z, Vals.up 6 hvs Z Z Z⟩)
 refine Xp (fun S F qj hS hbef hcl hI => ?_) ?_
 obtain ⟨O, ac, ag, g8, j5, j6, j7, j8, aj, al, an, ap, ah, ar, hvs⟩ := hI
 exact Xx Qc (Vals.at 5 hvs Z (Xj 5 hbef Z)) (Vals.at 6 hvs Z (Xj 6 hbef Z)) ba bd (by omega) (by omega) Z (wpo_nil ⟨O, ac, ag, g8, j5, j6, j7, j8, Xh 15 hS hcl Z, Xh 16 hS hcl Z, Xh 17 hS hcl Z, Xh 18 hS hcl Z, ah, Xh 20 hS hcl Z, Vals.up 7 hvs Z Z Z⟩)
 refine Xp (fun S F qk hS hbef hcl hI => ?_) ?_
 obtain ⟨O, ac, ag, g9, j9, ka, kb, kc, aj, al, an, ap, ah, ar, hvs⟩ := hI
 exact wpo_fieldAddr (o' := ao + 1) Jl (Vals.at 7 hvs Z (Xj 7 hbef Z)) Z Z (wpo_nil ⟨O, ac, ag, g9, j9, ka, kb, kc, Xh 15 hS hcl Z, Xh 16 hS hcl Z, Xh 17 hS hcl Z, Xh 18 hS hcl Z, ah, Xh 20 hS hcl Z, Vals.up 8 hvs Z Z Z⟩)
 refine Xp (fun S F qn hS hbef hcl hI => ?_) ?_
 obtain ⟨O, ac, ag, dz, ke, kf, kg, kh, aj, al, an, ap, ah, ar, hvs⟩ := hI
 exact wpo_loadn (vs := [vi (mAt E i).t.lab.s, vi (mAt E i).t.lab.v]) Yu (Vals.at 8 hvs Z (Xj 8 hbef Z)) Z (Yl (Yb be dz) 1 2 Z) Z (wpo_nil ⟨O, ac, ag, dz, ke, kf, kg, kh, Xh 15 hS hcl Z, Xh 16 hS hcl Z, Xh 17 hS hcl Z, Xh 18 hS hcl Z, ah, Xh 20 hS hcl Z, Vals.up 9 hvs Z Z Z⟩)
 refine Xp (fun S F qo hS hbef hcl hI => ?_) ?_
 obtain ⟨O, ac, ag, ia, fp, ki, kl, km, aj, al, an, ap, ah, ar, hvs⟩ := hI
 exact wpo_move (v := .slice (pa ai) E.length ae) fp Z (wpo_nil ⟨O, ac, ag, ia, fp, ki, kl, km, Xh 15 hS hcl Z, Xh 16 hS hcl Z, Xh 17 hS hcl Z, Xh 18 hS hcl Z, ah, Xh 20 hS hcl Z, Vals.up 10 hvs Z Z Z⟩)
 refine Xp (fun S F qq hS hbef hcl hI => ?_) ?_
 obtain ⟨O, ac, ag, ib, ko, kp, kq, fq, aj, al, an, ap, ah, ar, hvs⟩ := hI
 exact wpo_move (v := vi (i : Int)) fq Z (wpo_nil ⟨O, ac, ag, ib, ko, kp, kq, fq, Xh 15 hS hcl Z, Xh 16 hS hcl Z, Xh 17 hS hcl Z, Xh 18 hS hcl Z, ah, Xh 20 hS hcl Z, Vals.up 11 hvs Z Z Z⟩)
 refine Xp (fun S F qr hS hbef hcl hI => ?_) ?_
 obtain ⟨O, ac, ag, ic, kr, ks, kt, ku, aj, al, an, ap, ah, ar, hvs⟩ := hI
 exact Xx Qc (Vals.at 10 hvs Z (Xj 10 hbef Z)) (Vals.at 11 hvs Z (Xj 11 hbef Z)) ba bd (by omega) (by omega) Z (wpo_nil ⟨O, ac, ag, ic, kr, ks, kt, ku, Xh 15 hS hcl Z, Xh 16 hS hcl Z, Xh 17 hS hcl Z, Xh 18 hS hcl Z, ah, Xh 20 hS hcl Z, Vals.up 12 hvs Z Z Z⟩)
 refine Xp (fun S F qw hS hbef hcl hI => ?_) ?_
 obtain ⟨O, ac, ag, ie, kv, kw, kx, ky, aj, al, an, ap, ah, ar, hvs⟩ := hI
 exact wpo_fieldAddr (o' := ao + 7) Jm (Vals.at 12 hvs Z (Xj 12 hbef Z)) Z Z (wpo_nil ⟨O, ac, ag, ie, kv, kw, kx, ky, Xh 15 hS hcl Z, Xh 16 hS hcl Z, Xh 17 hS hcl Z, Xh 18 hS hcl Z, ah, Xh 20 hS hcl Z, Vals.up 13 hvs Z Z Z⟩)
 refine Xp (fun S F qx hS hbef hcl hI => ?_) ?_
 obtain ⟨O, ac, ag, d0, kz, k0, la, lc, aj, al, an, ap, ah, ar, hvs⟩ := hI
 exact wpo_load1 (v := vi (mAt E i).t.to) X0 (Vals.at 13 hvs Z (Xj 13 hbef Z)) ((Yb be d0) 7 _ Z) Z (wpo_nil ⟨O, ac, ag, d0, kz, k0, la, lc, Xh 15 hS hcl Z, Xh 16 hS hcl Z, Xh 17 hS hcl Z, Xh 18 hS hcl Z, ah, Xh 20 hS hcl Z, Vals.up 14 hvs Z Z Z⟩)
 refine Xp (fun S F qy hS hbef hcl hI => ?_) ?_
 obtain ⟨O, ac, ag, ig, ld, lf, lg, lh, aj, al, an, ap, ah, ar, hvs⟩ := hI
 refine Xg Nz (Xb (Vals.at 4 hvs Z (Xj 4 hbef Z)) (Xb (Vals.at 9 hvs Z (Xj 9 hbef Z)) (Xb (Vals.at 14 hvs Z (Xj 14 hbef Z)) Xf))) Z (P0 (mAt E i).t.kind (mAt E i).t.to (mAt E i).t.lab _) ?_
 rintro _ qz ⟨mr, fy, rfl, i3, gc, fa, dw⟩
 exact wpo_nil ⟨mr, fy, ag, (low0 ig dw), ld, lf, lg, lh, fun _ => ⟨Z, i3, fa, gc⟩, Xh 16 hS hcl Z, Xh 17 hS hcl Z, Xh 18 hS hcl Z, fun h => let ⟨mv, mw, my, mz, m3⟩ := ah h; ⟨mv, mw, fun hn => (my hn).grown0 dw, mz, m3⟩, Xh 20 hS hcl Z, Vals.keep hvs Z⟩
 refine Xp (fun S F q1 hS hbef hcl hI => ?_) ?_
 obtain ⟨O, ac, ag, ii, li, lj, lk, ll, aj, al, an, ap, ah, ar, hvs⟩ := hI
 obtain ⟨lm, bu, bq, br⟩ := aj (Xj 15 hbef rfl)
 exact wpo_move (v := .tuple #[.agg #[vi O.t.kind, vi O.t.lab.s, vi O.t.lab.v, vi O.t.ve, vi O.t.num, .slice O.sa O.t.slots.length O.sc, .slice O.qa O.t.queue.length O.qc, vi O.t.to], vb ac]) lm Z (wpo_nil ⟨O, ac, ag, ii, li, lj, lk, ll, aj, fun _ => Z, Xh 17 hS hcl Z, Xh 18 hS hcl Z, ah, Xh 20 hS hcl Z, Vals.keep hvs Z⟩)
 refine Xp (fun S F q2 hS hbef hcl hI => ?_) ?_
 obtain ⟨O, ac, ag, ij, ln, lu, lv, lw, aj, al, an, ap, ah, ar, hvs⟩ := hI
 obtain ⟨o3, bu, bq, br⟩ := aj (Xj 15 hbef rfl)
 obtain lx := al (Xj 16 hbef rfl)
 exact wpo_extract (v := .agg #[vi O.t.kind, vi O.t.lab.s, vi O.t.lab.v, vi O.t.ve, vi O.t.num, .slice O.sa O.t.slots.length O.sc, .slice O.qa O.t.queue.length O.qc, vi O.t.to]) lx Z Z (wpo_nil ⟨O, ac, ag, ij, ln, lu, lv, lw, aj, al, fun _ => Z, ap, ah, Xh 20 hS hcl Z, Vals.keep hvs Z⟩)
 refine Xp (fun S F q3 hS hbef hcl hI => ?_) ?_
 obtain ⟨O, ac, ag, ik, ly, lz, l0, l3, aj, al, an, ap, ah, ar, hvs⟩ := hI
 obtain ⟨o4, bu, bq, br⟩ := aj (Xj 15 hbef rfl)
 obtain l4 := al (Xj 16 hbef rfl)
 exact wpo_extract (v := vb ac) l4 Z Z (wpo_nil ⟨O, ac, ag, ik, ly, lz, l0, l3, aj, al, an, fun _ => Z, ah, ar, Vals.keep hvs Z⟩)
 refine Xp (fun S F q4 hS hbef hcl hI => ?_) ?_
 obtain ⟨O, ac, ag, cn, l5, l6, l7, l8, aj, al, an, ap, ah, ar, hvs⟩ := hI
 refine wpo_alloc (cs := #[vi 0, vi 0, vi 0, vi 0, vi 0, .slice none 0 0, .slice none 0 0, vi 0]) Q1 Z Z ?_
 intro i9 q5 bl
 have ez := Xy bl (low0 cz cn)
 have ca := Xn bl ((bv.grown0 cn)).lt
 exact wpo_nil ⟨O, ac, i9, (low0 cn bl.grw), l5, l6, l7, l8, fun h => let ⟨m4, m5, m6, m7⟩ := aj h; ⟨m4, m5, m6, (m7).low bl.grw⟩, al, an, ap, fun _ => ⟨Z, ez, fun _ => bl.blk, ca, (nt cn.size bl.ge)⟩, Xh 20 hS hcl Z, Vals.keep hvs Z⟩
 refine Xp (fun S F q6 hS hbef hcl hI => ?_) ?_
 obtain ⟨O, ac, ag, il, l9, ma, mb, mc, aj, al, an, ap, ah, ar, hvs⟩ := hI
 obtain ⟨o5, bu, bq, br⟩ := aj (Xj 15 hbef rfl)
 obtain o6 := al (Xj 16 hbef rfl)
 obtain me := an (Xj 17 hbef rfl)
 obtain ⟨mf, ey, bw, bz, d5⟩ := ah (Xj 19 hbef rfl)
 refine wpo_storen (vs := [vi O.t.kind, vi O.t.lab.s, vi O.t.lab.v, vi O.t.ve, vi O.t.num, .slice O.sa O.t.slots.length O.sc, .slice O.qa O.t.queue.length O.qc, vi O.t.to]) (cs' := #[vi O.t.kind, vi O.t.lab.s, vi O.t.lab.v, vi O.t.ve, vi O.t.num, .slice O.sa O.t.slots.length O.sc, .slice O.qa O.t.queue.length O.qc, vi O.t.to]) Xw mf me Z (by simp [Value.oneCell']) (bw hS) (Nat.le_of_ble_eq_true Z) Z ?_
 intro q7 cy
 exact wpo_nil ⟨O, ac, ag, (low1 il cy.grw (by omega)), l9, ma, mb, mc, fun h => let ⟨m8, m9, na, nb⟩ := aj h; ⟨m8, m9, na, (RowO.typB nb cy.grw (bw hS) (by decide) (by decide))⟩, al, an, ap, fun h => let ⟨nc, nd, rn, nf, ng⟩ := ah h; ⟨nc, nd, fun h => Q0 h, nf, ng⟩, fun _ => cy.blk, Vals.keep0 hvs Z⟩
 exact Ka
 intro S F dn hall hI
 obtain ⟨O, ac, ag, ak, bj, bn, cd, bf, aj, al, an, ap, ah, ar, hvs⟩ := hI
 obtain ⟨o7, bu, bq, br⟩ := aj (hall 15 (by decide))
 obtain o8 := al (hall 16 (by decide))
 obtain o9 := an (hall 17 (by decide))
 obtain mg := ap (hall 18 (by decide))
 obtain ⟨mh, ey, bw, bz, d5⟩ := ah (hall 19 (by decide))
 obtain di := ar (hall 20 (by decide))
 refine wpo_assign (v := vb ac) mg Z (wpo_nil (Xr (Kc (fun f' w' => (f' 3 = .slice (pa ai) E.length ae ∧ f' 4 = pt cc 0 ∧ f' 5 = .slice a8 V.length aq ∧ f' 6 = vi (i : Int) ∧ f' 103 = vb ((labelFlow (mAt E i).t.lab ab && (!(decide ((mAt V i).t = (mAt E i).t)))) || ((!labelFlow (mAt E i).t.lab ab) && (!(decide ((mAt V i).t = O.t)))))) ∧ dn.grownBy w' none) ?_ ?_)))
 rcases X1 (labelFlow (mAt E i).t.lab ab) with af | af
 rcases X1 (!(decide ((mAt V i).t = (mAt E i).t))) with am | am
 have ft := Jd am
 have pi := of_decide_eq_false ft
 obtain ⟨ja, pl, mp, gh, i1, i4⟩ := SlAt.at (TabAt.low bi (Xe (Xe au aw) ak)).1 (Yk (xg V i))
 have nq := TabLen.at bk (xg V i)
 refine Qx (m := 34) (vals := [(66, .slice (pa ai) E.length ae), (67, vi (i : Int)), (68, pt av ao), (69, pt av (ao + 1)), (70, .agg #[vi (mAt E i).t.lab.s, vi (mAt E i).t.lab.v]), (71, .agg #[vi ab.s, vi ab.v]), (72, vb (labelFlow (mAt E i).t.lab ab)), (73, vb (labelFlow (mAt E i).t.lab ab)), (74, .slice a8 V.length aq), (75, vi (i : Int)), (76, pt ja mp), (77, .agg #[vi (mAt V i).t.kind, vi (mAt V i).t.lab.s, vi (mAt V i).t.lab.v, vi (mAt V i).t.ve, vi (mAt V i).t.num, .slice (mAt V i).sa (mAt V i).t.slots.length (mAt V i).sc, .slice (mAt V i).qa (mAt V i).t.queue.length (mAt V i).qc, vi (mAt V i).t.to]), (78, .slice (pa ai) E.length ae), (79, vi (i : Int)), (80, pt av ao), (81, .agg #[vi (mAt E i).t.kind, vi (mAt E i).t.lab.s, vi (mAt E i).t.lab.v, vi (mAt E i).t.ve, vi (mAt E i).t.num, .slice (mAt E i).sa (mAt E i).t.slots.length (mAt E i).sc, .slice (mAt E i).qa (mAt E i).t.queue.length (mAt E i).qc, vi (mAt E i).t.to]), (82, vb (decide ((mAt V i).t = (mAt E i).t))), (83, vb (!(decide ((mAt V i).t = (mAt E i).t)))), (84, vb (!(decide ((mAt V i).t = (mAt E i).t)))), (85, vb (!(decide ((mAt V i).t = (mAt E i).t)))), (86, undef), (87, undef), (88, undef), (89, undef), (90, undef), (91, undef), (92, undef), (93, undef), (94, undef), (95, undef), (96, undef), (97, undef), (98, undef), (99, undef)]) (fun w' => dn.grownBy w' none) Q4 (by kernel_rfl) (X5 _) ?_ ?_
 refine yl Z (fun _ _ k => wpo_move (v := .slice (pa ai) E.length ae) bj Z k) (yl Z (fun _ _ k => wpo_move (v := vi (i : Int)) bf Z k) (yl Z (fun _ _ k => Xx Qc Z Z ba bd (by omega) (by omega) Z k) (yl Z (fun _ _ k => wpo_fieldAddr (o' := ao + 1) Jl Z Z Z k) (yl Z (fun _ im k => wpo_loadn (vs := [vi (mAt E i).t.lab.s, vi (mAt E i).t.lab.v]) Yu Z Z (Yl (Yb be (Xe ak im)) 1 2 Z) Z k) (yl Z (fun _ io k => wpo_loadn (vs := [vi ab.s, vi ab.v]) Yu bn Z (((bv.grown0 ak).grown0 io).rangeL 0 2 Z) Z k) ?_)))))
 refine Qg Z (fun q8 ip => ?_) ?_
 refine Xg H2 (Xb Z (Xb Z Xf)) Z (Jw (mAt E i).t.lab ab _) ?_
 rintro _ q9 ⟨rfl, gq⟩
 exact wpo_nil ⟨Z, (Xe ip gq)⟩
 refine yl Z (fun _ _ k => wpo_move (v := vb (labelFlow (mAt E i).t.lab ab)) Z Z k) (yl Z (fun _ _ k => Xc Z Z Z af (wpo_move (v := .slice a8 V.length aq) cd Z k)) (yl Z (fun _ _ k => Xc Z Z Z af (wpo_move (v := vi (i : Int)) bf Z k)) (yl Z (fun _ _ k => Xc Z Z Z af (Xx Qc Z Z gh i1 (by omega) (by omega) Z k)) (yl Z (fun _ iq k => Xc Z Z Z af (wpo_loadn (vs := [vi (mAt V i).t.kind, vi (mAt V i).t.lab.s, vi (mAt V i).t.lab.v, vi (mAt V i).t.ve, vi (mAt V i).t.num, .slice (mAt V i).sa (mAt V i).t.slots.length (mAt V i).sc, .slice (mAt V i).qa (mAt V i).t.queue.length (mAt V i).qc, vi (mAt V i).t.to]) Xw Z Z (Yl (Yb i4 iq) 0 8 Z) Z k)) (yl Z (fun _ _ k => Xc Z Z Z af (wpo_move (v := .slice (pa ai) E.length ae) bj Z k)) (yl Z (fun _ _ k => Xc Z Z Z af (wpo_move (v := vi (i : Int)) bf Z k)) (yl Z (fun _ _ k => Xc Z Z Z af (Xx Qc Z Z ba bd (by omega) (by omega) Z k)) (yl Z (fun _ ir k => Xc Z Z Z af (wpo_loadn (vs := [vi (mAt E i).t.kind, vi (mAt E i).t.lab.s, vi (mAt E i).t.lab.v, vi (mAt E i).t.ve, vi (mAt E i).t.num, .slice (mAt E i).sa (mAt E i).t.slots.length (mAt E i).sc, .slice (mAt E i).qa (mAt E i).t.queue.length (mAt E i).qc, vi (mAt E i).t.to]) Xw Z Z (Yl (Yb be (Xe ak ir)) 0 8 Z) Z k)) ?_))))))))
 refine Qg Z (fun ra de => ?_) ?_
 refine Xc Z Z Z af (Xg Sc (Xb Z (Xb Z Xf)) Z (Ud (mAt V i) (mAt E i) _ (TabAt.th (TabAt.low bi (Xe (Xe (Xe au aw) ak) de)) (xg V i)) (TabAt.th (TabG.at (TabG.low bg (low0 (low0 (low0 (low0 (low0 (low1 as.grw az.grw (nt ((World.grownBy.refl _ none)).size as.ge)) bc) au) aw) ak) de))) (xg E i)) ⟨by first | omega | exact Nat.le_of_ble_eq_true Z | (simp only [List.length_nil, List.length_cons, List.length_append, List.length_replicate]; omega), by first | omega | exact Nat.le_of_ble_eq_true Z | (simp only [List.length_nil, List.length_cons, List.length_append, List.length_replicate]; omega)⟩ ⟨by first | omega | exact Nat.le_of_ble_eq_true Z | (simp only [List.length_nil, List.length_cons, List.length_append, List.length_replicate]; omega), by first | omega | exact Nat.le_of_ble_eq_true Z | (simp only [List.length_nil, List.length_cons, List.length_append, List.length_replicate]; omega)⟩) ?_)
 rintro _ rf ⟨rfl, gr⟩
 exact wpo_nil ⟨Z, (Xe de gr)⟩
 refine yl Z (fun _ _ k => Xc Z Z Z af (wpo_not (b' := !(decide ((mAt V i).t = (mAt E i).t))) Z Z Z k)) (yl Z (fun _ _ k => wpo_pickt (v := vb (!(decide ((mAt V i).t = (mAt E i).t)))) Z af Z Z k) (yl Z (fun _ _ k => wpo_move (v := vb (!(decide ((mAt V i).t = (mAt E i).t)))) Z Z k) (yl Z (fun _ _ k => Xd Z Z Z am Z k) (yl Z (fun _ _ k => Xd Z Z Z am Z k) (yl Z (fun _ _ k => Xd Z Z Z am Z k) (yl Z (fun _ _ k => Xd Z Z Z am Z k) (yl Z (fun _ _ k => Xd Z Z Z am Z k) (yl Z (fun _ _ k => Xd Z Z Z am Z k) (yl Z (fun _ _ k => Xd Z Z Z am Z k) (yl Z (fun _ _ k => Xd Z Z Z am Z k) ?_))))))))))
 exact yl Z (fun _ _ k => Xd Z Z Z am Z k) (yl Z (fun _ _ k => Xz Z Z Z Z k) (yl Z (fun _ _ k => Xz Z Z Z Z k) (yl Z (fun _ _ k => Xz Z Z Z Z k) (yl Z (fun _ _ k => Xz Z Z Z Z k) (yl Z (fun _ _ k => Xz Z Z Z Z k) Ja)))))
 intro rg is
 exact Xz Z Z Z Z (Xz Z Z Z Z (Xd Z Z Z am Z (wpo_pickt (v := vb true) Z am Z Z (wpo_nil (Xr ⟨⟨bj, bn, cd, bf, (cB (by simp [bp, ce, co, dq, dk, cw, dl, cx, cg, af, am, ft]))⟩, is⟩)))))
 have fu := Qn am
 have pj := of_decide_eq_true fu
 obtain ⟨jb, pm, mq, gi, i2, i5⟩ := SlAt.at (TabAt.low bi (Xe (Xe au aw) ak)).1 (Yk (xg V i))
 have nu := TabLen.at bk (xg V i)
 refine Qx (m := 34) (vals := [(66, .slice (pa ai) E.length ae), (67, vi (i : Int)), (68, pt av ao), (69, pt av (ao + 1)), (70, .agg #[vi (mAt E i).t.lab.s, vi (mAt E i).t.lab.v]), (71, .agg #[vi ab.s, vi ab.v]), (72, vb (labelFlow (mAt E i).t.lab ab)), (73, vb (labelFlow (mAt E i).t.lab ab)), (74, .slice a8 V.length aq), (75, vi (i : Int)), (76, pt jb mq), (77, .agg #[vi (mAt V i).t.kind, vi (mAt V i).t.lab.s, vi (mAt V i).t.lab.v, vi (mAt V i).t.ve, vi (mAt V i).t.num, .slice (mAt V i).sa (mAt V i).t.slots.length (mAt V i).sc, .slice (mAt V i).qa (mAt V i).t.queue.length (mAt V i).qc, vi (mAt V i).t.to]), (78, .slice (pa ai) E.length ae), (79, vi (i : Int)), (80, pt av ao), (81, .agg #[vi (mAt E i).t.kind, vi (mAt E i).t.lab.s, vi (mAt E i).t.lab.v, vi (mAt E i).t.ve, vi (mAt E i).t.num, .slice (mAt E i).sa (mAt E i).t.slots.length (mAt E i).sc, .slice (mAt E i).qa (mAt E i).t.queue.length (mAt E i).qc, vi (mAt E i).t.to]), (82, vb (decide ((mAt V i).t = (mAt E i).t))), (83, vb (!(decide ((mAt V i).t = (mAt E i).t)))), (84, vb (!(decide ((mAt V i).t = (mAt E i).t)))), (85, vb (!(decide ((mAt V i).t = (mAt E i).t)))), (86, .slice (pa ai) E.length ae), (87, vi (i : Int)), (88, pt av ao), (89, pt av (ao + 1)), (90, .agg #[vi (mAt E i).t.lab.s, vi (mAt E i).t.lab.v]), (91, .agg #[vi ab.s, vi ab.v]), (92, vb (labelFlow (mAt E i).t.lab ab)), (93, vb (!labelFlow (mAt E i).t.lab ab)), (94, vb (!labelFlow (mAt E i).t.lab ab)), (95, undef), (96, undef), (97, undef), (98, undef), (99, undef)]) (fun w' => dn.grownBy w' none) Q4 (by kernel_rfl) (X5 _) ?_ ?_
 refine yl Z (fun _ _ k => wpo_move (v := .slice (pa ai) E.length ae) bj Z k) (yl Z (fun _ _ k => wpo_move (v := vi (i : Int)) bf Z k) (yl Z (fun _ _ k => Xx Qc Z Z ba bd (by omega) (by omega) Z k) (yl Z (fun _ _ k => wpo_fieldAddr (o' := ao + 1) Jl Z Z Z k) (yl Z (fun _ it k => wpo_loadn (vs := [vi (mAt E i).t.lab.s, vi (mAt E i).t.lab.v]) Yu Z Z (Yl (Yb be (Xe ak it)) 1 2 Z) Z k) (yl Z (fun _ iu k => wpo_loadn (vs := [vi ab.s, vi ab.v]) Yu bn Z (((bv.grown0 ak).grown0 iu).rangeL 0 2 Z) Z k) ?_)))))
 refine Qg Z (fun rh iv => ?_) ?_
 refine Xg H2 (Xb Z (Xb Z Xf)) Z (Jw (mAt E i).t.lab ab _) ?_
 rintro _ ri ⟨rfl, gt⟩
 exact wpo_nil ⟨Z, (Xe iv gt)⟩
 refine yl Z (fun _ _ k => wpo_move (v := vb (labelFlow (mAt E i).t.lab ab)) Z Z k) (yl Z (fun _ _ k => Xc Z Z Z af (wpo_move (v := .slice a8 V.length aq) cd Z k)) (yl Z (fun _ _ k => Xc Z Z Z af (wpo_move (v := vi (i : Int)) bf Z k)) (yl Z (fun _ _ k => Xc Z Z Z af (Xx Qc Z Z gi i2 (by omega) (by omega) Z k)) (yl Z (fun _ iw k => Xc Z Z Z af (wpo_loadn (vs := [vi (mAt V i).t.kind, vi (mAt V i).t.lab.s, vi (mAt V i).t.lab.v, vi (mAt V i).t.ve, vi (mAt V i).t.num, .slice (mAt V i).sa (mAt V i).t.slots.length (mAt V i).sc, .slice (mAt V i).qa (mAt V i).t.queue.length (mAt V i).qc, vi (mAt V i).t.to]) Xw Z Z (Yl (Yb i5 iw) 0 8 Z) Z k)) (yl Z (fun _ _ k => Xc Z Z Z af (wpo_move (v := .slice (pa ai) E.length ae) bj Z k)) (yl Z (fun _ _ k => Xc Z Z Z af (wpo_move (v := vi (i : Int)) bf Z k)) (yl Z (fun _ _ k => Xc Z Z Z af (Xx Qc Z Z ba bd (by omega) (by omega) Z k)) (yl Z (fun _ ix k => Xc Z Z Z af (wpo_loadn (vs := [vi (mAt E i).t.kind, vi (mAt E i).t.lab.s, vi (mAt E i).t.lab.v, vi (mAt E i).t.ve, vi (mAt E i).t.num, .slice (mAt E i).sa (mAt E i).t.slots.length (mAt E i).sc, .slice (mAt E i).qa (mAt E i).t.queue.length (mAt E i).qc, vi (mAt E i).t.to]) Xw Z Z (Yl (Yb be (Xe ak ix)) 0 8 Z) Z k)) ?_))))))))
 refine Qg Z (fun rj dh => ?_) ?_
 refine Xc Z Z Z af (Xg Sc (Xb Z (Xb Z Xf)) Z (Ud (mAt V i) (mAt E i) _ (TabAt.th (TabAt.low bi (Xe (Xe (Xe au aw) ak) dh)) (xg V i)) (TabAt.th (TabG.at (TabG.low bg (low0 (low0 (low0 (low0 (low0 (low1 as.grw az.grw (nt ((World.grownBy.refl _ none)).size as.ge)) bc) au) aw) ak) dh))) (xg E i)) ⟨by first | omega | exact Nat.le_of_ble_eq_true Z | (simp only [List.length_nil, List.length_cons, List.length_append, List.length_replicate]; omega), by first | omega | exact Nat.le_of_ble_eq_true Z | (simp only [List.length_nil, List.length_cons, List.length_append, List.length_replicate]; omega)⟩ ⟨by first | omega | exact Nat.le_of_ble_eq_true Z | (simp only [List.length_nil, List.length_cons, List.length_append, List.length_replicate]; omega), by first | omega | exact Nat.le_of_ble_eq_true Z | (simp only [List.length_nil, List.length_cons, List.length_append, List.length_replicate]; omega)⟩) ?_)
 rintro _ rk ⟨rfl, gu⟩
 exact wpo_nil ⟨Z, (Xe dh gu)⟩
 refine yl Z (fun _ _ k => Xc Z Z Z af (wpo_not (b' := !(decide ((mAt V i).t = (mAt E i).t))) Z Z Z k)) (yl Z (fun _ _ k => wpo_pickt (v := vb (!(decide ((mAt V i).t = (mAt E i).t)))) Z af Z Z k) (yl Z (fun _ _ k => wpo_move (v := vb (!(decide ((mAt V i).t = (mAt E i).t)))) Z Z k) (yl Z (fun _ _ k => Xc Z Z Z am (wpo_move (v := .slice (pa ai) E.length ae) bj Z k)) (yl Z (fun _ _ k => Xc Z Z Z am (wpo_move (v := vi (i : Int)) bf Z k)) (yl Z (fun _ _ k => Xc Z Z Z am (Xx Qc Z Z ba bd (by omega) (by omega) Z k)) (yl Z (fun _ _ k => Xc Z Z Z am (wpo_fieldAddr (o' := ao + 1) Jl Z Z Z k)) (yl Z (fun _ iy k => Xc Z Z Z am (wpo_loadn (vs := [vi (mAt E i).t.lab.s, vi (mAt E i).t.lab.v]) Yu Z Z (Yl (Yb be (Xe ak iy)) 1 2 Z) Z k)) (yl Z (fun _ iz k => Xc Z Z Z am (wpo_loadn (vs := [vi ab.s, vi ab.v]) Yu bn Z (((bv.grown0 ak).grown0 iz).rangeL 0 2 Z) Z k)) ?_))))))))
 refine Qg Z (fun rl i0 => ?_) ?_
 refine Xc Z Z Z am (Xg H2 (Xb Z (Xb Z Xf)) Z (Jw (mAt E i).t.lab ab _) ?_)
 rintro _ rm ⟨rfl, gv⟩
 exact wpo_nil ⟨Z, (Xe i0 gv)⟩
 exact yl Z (fun _ _ k => Xc Z Z Z am (wpo_not (b' := !labelFlow (mAt E i).t.lab ab) Z Z Z k)) (yl Z (fun _ _ k => Xc Z Z Z am (wpo_move (v := vb (!labelFlow (mAt E i).t.lab ab)) Z Z k)) (yl Z (fun _ _ k => Xd Z Z Z (Qi af) Z k) (yl Z (fun _ _ k => Xd Z Z Z (Qi af) Z k) (yl Z (fun _ _ k => Xd Z Z Z (Qi af) Z k) (yl Z (fun _ _ k => Xd Z Z Z (Qi af) Z k) (yl Z (fun _ _ k => Xd Z Z Z (Qi af) Z k) Ja))))))
 intro om ef
 exact Xd Z Z Z (Qi af) Z (Xd Z Z Z (Qi af) Z (Xc Z Z Z am (wpo_pickf (v := vb false) Z (Qi af) Z Z (wpo_pickf (v := vb false) Z am Z Z (wpo_nil (Xr ⟨⟨bj, bn, cd, bf, (cB (by simp [bp, ce, co, dq, dk, cw, dl, cx, cg, af, am, fu]))⟩, ef⟩))))))
 obtain ⟨fx, ol, i6, d9, fb, fc⟩ := SlAt.at (TabAt.low bi (Xe (Xe au aw) ak)).1 (Yk (xg V i))
 have mo := TabLen.at bk (xg V i)
 refine Qx (m := 34) (vals := [(66, .slice (pa ai) E.length ae), (67, vi (i : Int)), (68, pt av ao), (69, pt av (ao + 1)), (70, .agg #[vi (mAt E i).t.lab.s, vi (mAt E i).t.lab.v]), (71, .agg #[vi ab.s, vi ab.v]), (72, vb (labelFlow (mAt E i).t.lab ab)), (73, vb (labelFlow (mAt E i).t.lab ab)), (74, undef), (75, undef), (76, undef), (77, undef), (78, undef), (79, undef), (80, undef), (81, undef), (82, undef), (83, undef), (84, vb false), (85, vb false), (86, .slice (pa ai) E.length ae), (87, vi (i : Int)), (88, pt av ao), (89, pt av (ao + 1)), (90, .agg #[vi (mAt E i).t.lab.s, vi (mAt E i).t.lab.v]), (91, .agg #[vi ab.s, vi ab.v]), (92, vb (labelFlow (mAt E i).t.lab ab)), (93, vb (!labelFlow (mAt E i).t.lab ab)), (94, vb (!labelFlow (mAt E i).t.lab ab)), (95, .slice a8 V.length aq), (96, vi (i : Int)), (97, pt fx i6), (98, .agg #[vi (mAt V i).t.kind, vi (mAt V i).t.lab.s, vi (mAt V i).t.lab.v, vi (mAt V i).t.ve, vi (mAt V i).t.num, .slice (mAt V i).sa (mAt V i).t.slots.length (mAt V i).sc, .slice (mAt V i).qa (mAt V i).t.queue.length (mAt V i).qc, vi (mAt V i).t.to]), (99, .agg #[vi O.t.kind, vi O.t.lab.s, vi O.t.lab.v, vi O.t.ve, vi O.t.num, .slice O.sa O.t.slots.length O.sc, .slice O.qa O.t.queue.length O.qc, vi O.t.to])]) (fun w' => dn.grownBy w' none) Q4 (by kernel_rfl) (X5 _) ?_ ?_
 refine yl Z (fun _ _ k => wpo_move (v := .slice (pa ai) E.length ae) bj Z k) (yl Z (fun _ _ k => wpo_move (v := vi (i : Int)) bf Z k) (yl Z (fun _ _ k => Xx Qc Z Z ba bd (by omega) (by omega) Z k) (yl Z (fun _ _ k => wpo_fieldAddr (o' := ao + 1) Jl Z Z Z k) (yl Z (fun _ eg k => wpo_loadn (vs := [vi (mAt E i).t.lab.s, vi (mAt E i).t.lab.v]) Yu Z Z (Yl (Yb be (Xe ak eg)) 1 2 Z) Z k) (yl Z (fun _ eh k => wpo_loadn (vs := [vi ab.s, vi ab.v]) Yu bn Z (((bv.grown0 ak).grown0 eh).rangeL 0 2 Z) Z k) ?_)))))
 refine Qg Z (fun oq ei => ?_) ?_
 refine Xg H2 (Xb Z (Xb Z Xf)) Z (Jw (mAt E i).t.lab ab _) ?_
 rintro _ ot ⟨rfl, ea⟩
 exact wpo_nil ⟨Z, (Xe ei ea)⟩
 refine yl Z (fun _ _ k => wpo_move (v := vb (labelFlow (mAt E i).t.lab ab)) Z Z k) (yl Z (fun _ _ k => Xd Z Z Z af Z k) (yl Z (fun _ _ k => Xd Z Z Z af Z k) (yl Z (fun _ _ k => Xd Z Z Z af Z k) (yl Z (fun _ _ k => Xd Z Z Z af Z k) (yl Z (fun _ _ k => Xd Z Z Z af Z k) (yl Z (fun _ _ k => Xd Z Z Z af Z k) (yl Z (fun _ _ k => Xd Z Z Z af Z k) (yl Z (fun _ _ k => Xd Z Z Z af Z k) (yl Z (fun _ _ k => Xd Z Z Z af Z k) (yl Z (fun _ _ k => Xd Z Z Z af Z k) ?_))))))))))
 refine yl Z (fun _ _ k => wpo_pickf (v := vb false) Z af Z Z k) (yl Z (fun _ _ k => wpo_move (v := vb false) Z Z k) (yl Z (fun _ _ k => Xc Z Z Z Z (wpo_move (v := .slice (pa ai) E.length ae) bj Z k)) (yl Z (fun _ _ k => Xc Z Z Z Z (wpo_move (v := vi (i : Int)) bf Z k)) (yl Z (fun _ _ k => Xc Z Z Z Z (Xx Qc Z Z ba bd (by omega) (by omega) Z k)) (yl Z (fun _ _ k => Xc Z Z Z Z (wpo_fieldAddr (o' := ao + 1) Jl Z Z Z k)) (yl Z (fun _ ej k => Xc Z Z Z Z (wpo_loadn (vs := [vi (mAt E i).t.lab.s, vi (mAt E i).t.lab.v]) Yu Z Z (Yl (Yb be (Xe ak ej)) 1 2 Z) Z k)) (yl Z (fun _ ek k => Xc Z Z Z Z (wpo_loadn (vs := [vi ab.s, vi ab.v]) Yu bn Z (((bv.grown0 ak).grown0 ek).rangeL 0 2 Z) Z k)) ?_)))))))
 refine Qg Z (fun ou eu => ?_) ?_
 refine Xc Z Z Z Z (Xg H2 (Xb Z (Xb Z Xf)) Z (Jw (mAt E i).t.lab ab _) ?_)
 rintro _ ov ⟨rfl, ed⟩
 exact wpo_nil ⟨Z, (Xe eu ed)⟩
 exact yl Z (fun _ _ k => Xc Z Z Z Z (wpo_not (b' := !labelFlow (mAt E i).t.lab ab) Z Z Z k)) (yl Z (fun _ _ k => Xc Z Z Z Z (wpo_move (v := vb (!labelFlow (mAt E i).t.lab ab)) Z Z k)) (yl Z (fun _ _ k => Xc Z Z Z (Ys af) (wpo_move (v := .slice a8 V.length aq) cd Z k)) (yl Z (fun _ _ k => Xc Z Z Z (Ys af) (wpo_move (v := vi (i : Int)) bf Z k)) (yl Z (fun _ _ k => Xc Z Z Z (Ys af) (Xx Qc Z Z d9 fb (by omega) (by omega) Z k)) (yl Z (fun _ ew k => Xc Z Z Z (Ys af) (wpo_loadn (vs := [vi (mAt V i).t.kind, vi (mAt V i).t.lab.s, vi (mAt V i).t.lab.v, vi (mAt V i).t.ve, vi (mAt V i).t.num, .slice (mAt V i).sa (mAt V i).t.slots.length (mAt V i).sc, .slice (mAt V i).qa (mAt V i).t.queue.length (mAt V i).qc, vi (mAt V i).t.to]) Xw Z Z (Yl (Yb fc ew) 0 8 Z) Z k)) (yl Z (fun _ ex k => Xc Z Z Z (Ys af) (wpo_loadn (vs := [vi O.t.kind, vi O.t.lab.s, vi O.t.lab.v, vi O.t.ve, vi O.t.num, .slice O.sa O.t.slots.length O.sc, .slice O.qa O.t.queue.length O.qc, vi O.t.to]) Xw mh Z ((di.grown0 ex).rangeL 0 8 Z) Z k)) Ja))))))
 intro ow cm
 refine Xc Z Z Z (Ys af) (Xg Sc (Xb Z (Xb Z Xf)) Z (Ud (mAt V i) O _ (TabAt.th (TabAt.low bi (Xe (Xe (Xe au aw) ak) cm)) (xg V i)) (ThAt.low (br).th cm) ⟨by first | omega | exact Nat.le_of_ble_eq_true Z | (simp only [List.length_nil, List.length_cons, List.length_append, List.length_replicate]; omega), by first | omega | exact Nat.le_of_ble_eq_true Z | (simp only [List.length_nil, List.length_cons, List.length_append, List.length_replicate]; omega)⟩ ⟨by first | omega | exact Nat.le_of_ble_eq_true Z | (simp only [List.length_nil, List.length_cons, List.length_append, List.length_replicate]; omega), by first | omega | exact Nat.le_of_ble_eq_true Z | (simp only [List.length_nil, List.length_cons, List.length_append, List.length_replicate]; omega)⟩) ?_)
 rintro _ ox ⟨rfl, ee⟩
 exact Xc Z Z Z (Ys af) (wpo_not (b' := !(decide ((mAt V i).t = O.t))) Z Z Z (Xc Z Z Z Z (wpo_pickt (v := vb (!(decide ((mAt V i).t = O.t)))) Z (Ys af) Z Z (wpo_pickf (v := vb (!(decide ((mAt V i).t = O.t)))) Z Z Z Z (wpo_nil (Xr ⟨⟨bj, bn, cd, bf, (cB (by simp [bp, ce, co, dq, dk, cw, dl, cx, cg, af]))⟩, (Xe cm ee)⟩))))))
 rintro n8 oy ⟨⟨fz, f7, f8, f9, gb⟩, ck⟩
 have dm := low0 (low0 cz ak) ck
 refine Xs gb (fun cj => ?_) (fun cj => ?_)
 refine Xa (wpo_assign (v := vb false) Z Z (wpo_nil (Xk (Qh (X9 (X9 (Qh (X9 (⟨vb false, res1 Z Z, ?_, dm⟩)))))))))
 exact (T6 bm cw cx (lq i E.length) bu.symm cj).elim
 have n9 := J6 cj
 have oa := J7 cj
 exact Xl (Y1 (Xr (Xo (wpo_move (v := vi (i : Int)) f9 Z (wpo_add (c := (i : Int) + 1) Z Z (by omega) (by omega) (by omega) Z (wpo_assign (v := vi ((i : Int) + 1)) Z Z (wpo_nil (Xr (⟨E.length - (i + 1), by omega, (i + 1), Z, (by omega), (low0 (low0 aw ak) ck), Z, fz, f7, f8, dm, ((bv.grown0 ak).grown0 ck)⟩)))))))))
 have oc := of_decide_eq_false cg
 refine Yn (Yx (Yx (Jk (Xr (Xa (wpo_move (v := .slice a8 V.length aq) fh Z (wpo_len (by kernel_rfl) Z Z (wpo_move (v := .slice (pa ai) E.length ae) dp Z (wpo_len (by kernel_rfl) Z Z (wpo_eql (q := decide ((V.length : Int) = (E.length : Int))) Z Z Z Z (wpo_assign (v := vb (decide ((V.length : Int) = (E.length : Int)))) Z Z (wpo_nil ?_))))))))))))
 refine Xk (⟨vb (decide ((V.length : Int) = (E.length : Int))), res1 Z Z, ?_, cz⟩)
 exact cB (decide_eq_true (by omega))
end Go.Dw.J
end
section
namespace Go.Dw
open Go.ChangeShapes Go.WideShapes Go.ChangeAt Go.RowKit Go.Deep
section
variable {H : Type} {enc : TypeId × Value → H} {P : Program} {w : World} {base : Nat} {spare : Nat → Bool} {held : Bool} {fuel : Nat} {cs : List Value} {x : DataW H × List MemPlace}
theorem Rw {α : Type} {g : α → List Value} {ok : α → Prop} {t e : TypeId} {sz : Nat} (ht : P.underlying t = some (.slice e)) (hc : P.cellsOf e = sz) (hz : 0 < sz) (hg : Wide g sz) (hrd : ∀ n cs x, DataW.trod enc P w base spare held n e cs = some x → ∃ a, cs = g a ∧ ok a)
    (h : DataW.trod enc P w base spare held fuel t cs = some x) :
    ∃ (a : Option Addr) (xs : List α) (c : Nat), cs = [.slice a xs.length c] ∧ xs.length ≤ c ∧ c ≤ maxLen ∧ SlAt w a sz (xs.map g) ∧ (∀ y ∈ xs, ok y) ∧ (a = none → c = 0) := by
  rcases open_slice ht h with ⟨rfl, _⟩ | ⟨a, len, cap, m, n, D, Pl, rfl, _, hl, hm, hmm, _, hi⟩
  · exact ⟨none, [], 0, rfl, Nat.le_refl _, Nat.zero_le _, fun k x hk => by simp at hk, fun y hy => by simp at hy, fun _ => rfl⟩
  · have hlm : len ≤ m := by
      rw [hmm]; split <;> omega
    have hex : ∀ i : Fin len, ∃ y : α, ok y ∧ ∀ j, j < sz → w.cell? (a.add (i.val * sz + j)) = (g y)[j]? := fun i => by
      obtain ⟨cs', hcs, htr⟩ := hi i.val (by omega)
      obtain ⟨y, rfl, hy⟩ := hrd _ _ _ htr
      rw [hc] at hcs
      obtain ⟨_, _, hat⟩ := World.cells?_some hcs
      refine ⟨y, hy, fun j hj => ?_⟩
      rw [← hat j hj, add_add]
    refine ⟨some a, List.ofFn fun i : Fin len => Classical.choose (hex i), cap, by simp, by simpa using hl, hm, fun k x hk => ?_, fun y hy => ?_, fun hn => by cases hn⟩
    · rw [List.getElem?_map] at hk
      cases hy : (List.ofFn fun i : Fin len => Classical.choose (hex i))[k]? with
      | none => rw [hy] at hk; simp at hk
      | some y =>
        rw [hy] at hk
        obtain rfl : g y = x := by simpa using hk
        have hkl : k < len := by
          have := (List.getElem?_eq_some_iff.1 hy).1
          simpa using this
        have hye : Classical.choose (hex ⟨k, hkl⟩) = y := by
          rw [List.getElem?_ofFn] at hy
          simpa [hkl] using hy
        have hat := (Classical.choose_spec (hex ⟨k, hkl⟩)).2
        rw [hye] at hat
        obtain ⟨b, o, spot⟩ := a
        have hspot : spot = none := by
          obtain ⟨y0, _, hy0⟩ := hex ⟨0, by omega⟩
          have h0 := hy0 0 hz
          obtain ⟨v, hv⟩ : ∃ v, (g y0)[0]? = some v := ⟨_, List.getElem?_eq_getElem (by rw [hg]; exact hz)⟩
          rw [hv] at h0
          have := World.cell?_spot h0
          simpa [Addr.add] using this
        subst hspot
        refine ⟨b, o, rfl, fun j v hj => ?_⟩
        have hjl : j < sz := by rw [← hg y]; exact (List.getElem?_eq_some_iff.1 hj).1
        rw [← hj, ← hat j hjl]
        simp only [Addr.add]
        split
        · rename_i he
          rw [show o + k * sz + j = o by omega]
        · rw [show o + (k * sz + j) = o + k * sz + j by omega]
    · obtain ⟨i, rfl⟩ := List.mem_ofFn.1 hy
      exact (Classical.choose_spec (hex i)).1
theorem C0 {α : Type} {g : α → List Value} {ok : α → Prop} {r : Reach} {b0 : Nat} {t e sz : Nat} {v : Value} {d : DataW H} {p : List MemPlace} (hs : P.underlying t = some (.slice e)) (hc : P.cellsOf e = sz) (hz : 0 < sz) (hg : Wide g sz)
    (hrd : ∀ n cs x, DataW.trod enc P w base spare held n e cs = some x → ∃ a, cs = g a ∧ ok a) (hv : Value.okWide P w r b0 t v) (h : DataW.Trod enc P w base spare held t v d p) :
    ∃ (a : Option Addr) (xs : List α) (c : Nat), v = .slice a xs.length c ∧ xs.length ≤ 9223372036854775807 ∧ xs.length ≤ c ∧ SlAt w a sz (xs.map g) ∧ ∀ y ∈ xs, ok y := by
  obtain ⟨a, len, cap, rfl⟩ := okWide_slice hs hv
  obtain ⟨fuel, hf⟩ := h
  obtain ⟨a', xs, c, h1, h2, h3, h4, h5, h7⟩ := Rw hs hc hz hg hrd hf
  have h6 : Value.slice a len cap = .slice a' xs.length c := by simpa [Value.cells] using h1
  refine ⟨a', xs, c, h6, ?_, h2, h4, h5⟩
  have : maxLen = 9223372036854775807 := by decide
  omega
theorem Ew {t : TypeId} (ht : P.underlying t = some (.int .u8)) (h : DataW.trod enc P w base spare held fuel t cs = some x) : ∃ n : Int, cs = bcell n ∧ (0 ≤ n ∧ n ≤ 255) := by
  obtain ⟨n, hn, _, hw⟩ := DataW.trod_int ht h
  refine ⟨n, hn, ?_⟩
  have h2 := Bool.and_eq_true_iff.1 hw
  have h3 := of_decide_eq_true h2.1
  have h4 := of_decide_eq_true h2.2
  exact ⟨h3, h4⟩
def Lab.wf (l : Lab) : Prop := (Lit.int .i64 l.s).wf = true ∧ (Lit.int .i64 l.v).wf = true
def Cl.wf (q : Cl) : Prop := (Lit.int .i64 q.kind).wf = true ∧ (Lit.int .i64 q.run).wf = true ∧ (Lit.int .i64 q.a).wf = true ∧ (Lit.int .i64 q.b).wf = true ∧ (Lit.int .i64 q.n).wf = true
theorem Ur (hl : laidOutB P = true) {W W' : World} (hb : Below W.heap.size W W') : ∀ (ts : List TypeId) (vs : List Value) (ds : List (DataW H)) (ps : List MemPlace), ts.all (fun t => P.readableRec t && decide (t < P.types.size)) = true →
    DataW.TrodAll enc P W 0 (fun _ => true) true ts vs ds ps → (∀ y ∈ ps, y.block < W.heap.size) → DataW.TrodAll enc P W' 0 (fun b => decide (b < W.heap.size)) true ts vs ds ps
  | [], _, _, _, _, h, _ => by
    obtain ⟨rfl, rfl, rfl⟩ := trodAll_nil h
    exact rfl
  | t :: ts, _, _, _, ht, h, hlt => by
    obtain ⟨v, vs, d, ds, p, q, rfl, rfl, rfl, h1, h2⟩ := trodAll_cons h
    simp only [List.all_cons, Bool.and_eq_true, decide_eq_true_eq] at ht
    exact ⟨p, q, Below.trod hl ht.1.1 ht.1.2 h1 hb fun y hy => hlt y (List.mem_append_left _ hy), Ur hl hb ts vs ds q ht.2 h2 fun y hy => hlt y (List.mem_append_right _ hy), rfl⟩
theorem Td {f : Func} {s : ChangeSpec} {apart handsOn : Bool} {W W' : World} {args : Array Value} {ds gs : List (DataW H)} {before pa : List MemPlace} {tb : TypeId} (hl : laidOutB P = true)
    (hr : f.params.toList.all (fun t => P.readableRec t && decide (t < P.types.size)) = true) (hW : DataW.Whole enc P f.params.toList s.vars apart W args.toList ds gs before)
    (hA : DataW.TrodAll enc P W 0 (fun _ => true) true f.params.toList args.toList ds pa) (hlt : ∀ y ∈ pa, y.block < W.heap.size) (hs : s.fn H (ds ++ gs) = { results := [.lit (.bool true)], args := ds }) (hv : s.vars = [])
    (hres : f.resultTypes = #[tb]) (htb : P.underlying tb = some .bool) (hb : Below W.heap.size W W') : s.post enc P f apart true handsOn false W args (.bool true) W' := by
  refine ⟨ds, gs, before, [], pa, [], hW, ?_, ?_, ?_, hb.frame _, fun h => by cases h⟩
  · rw [hs, hres]
    exact trodAll_mk1 (shut_bool htb _)
  · rw [hs]
    exact Ur hl hb _ _ _ _ hr hA hlt
  · rw [hs, hv]
    rfl
end
end Go.Dw
end
section
namespace Go.Dw.J
open Go.RowKit Go.Dw Go.Proofs
open Go.Conc (G solo)
set_option linter.unusedSectionVars false
set_option linter.unusedSimpArgs false
set_option linter.unusedVariables false
theorem Pr {o : Obj} (h : seeO o ≠ pz) : seeO o = o := by cases o <;> first | rfl | exact absurd rfl h
theorem Pp {W : World} : @Keep ⟨W.heap.size, W⟩ (seeAll W) W := by
  refine ⟨Nat.le_refl _, fun b hb => ?_⟩
  have hb' : b < W.heap.size := hb
  have e : W.heap[b]? = some W.heap[b] := Array.getElem?_eq_getElem hb'
  by_cases h : seeO W.heap[b] = pz
  · refine .inr ⟨fun hs => hs.2 ?_, rfl⟩
    rw [Ju, e, Option.map_some, h]
  · refine .inl ⟨⟨by simpa [seeAll] using hb', fun e2 => h ?_⟩, ?_⟩
    · rw [Ju, e, Option.map_some] at e2
      exact Option.some.inj e2
    · rw [Ju, e, Option.map_some, Pr h]
theorem seeAll_sl {W : World} {a : Option Addr} {sz : Nat} {xs : List (List Value)} (h : SlAt W a sz xs) : SlAt (seeAll W) a sz xs := fun k x hk => by
  obtain ⟨b, o, ha, hr⟩ := h k x hk
  exact ⟨b, o, ha, fun j v hj => Po (hr j v hj)⟩
theorem law_good {k : FuncId} {fn : Func} {c : Code} {n : Nat} {args : Array Value} {W : World} (hf : Try.prog.funcs[k]? = some fn) (hb : fn.body = some c) (hn : fn.ntmps = n) (hs : Nat.ble args.size n = true) (hin : Try.prog.inits.idxOf? k = none)
    (law : ∀ [Comp] [ViewRule], ViewRule.base ≤ (seeAll W).heap.size → Wpf Try.prog n (endQ Try.prog fn (fun v w' => v = .bool true ∧ (seeAll W).grownBy w' none)) c (f0 args) (seeAll W)) :
    Runs Try.prog (fun v W' => v = .bool true ∧ Below W.heap.size W { W' with tape := W.tape }) (solo (G (Frame.enter Try.prog k args .normal) []) W) #[] := by
  letI : KeepD := ⟨W.heap.size, W⟩
  have hsz : (seeAll W).heap.size = W.heap.size := by simp [seeAll]
  refine Rz Pp (Cn OKV okv hf hb hn hs hin (R := fun v w' => v = .bool true ∧ (seeAll W).grownBy w' none) (fun v A' w ⟨hv, hg⟩ hsee hk => ⟨hv, ?_⟩) (@law (comp0 OKV) viewRule (Nat.le_of_eq hsz.symm)))
  refine ⟨hsee.os.symm.trans hg.os, rfl, hsee.output.symm.trans hg.output, hk.1, fun b hb' => ?_⟩
  show w.heap[b]? = W.heap[b]?
  have e : W.heap[b]? = some W.heap[b] := Array.getElem?_eq_getElem hb'
  rcases hk.2 b hb' with ⟨h1, h2⟩ | ⟨_, h2⟩
  · have h3 := hg.block b (by rw [hsz]; exact hb') (by simp)
    rw [Ju, e, Option.map_some] at h3
    have h4 : seeO W.heap[b] ≠ pz := fun h => h1.2 (by rw [h3, h])
    rw [← h2, h3, Pr h4, e]
  · exact h2
end Go.Dw.J
namespace Go.Dw
theorem Tc {H : Type} {enc : TypeId × Value → H} {P : Program} {f : Func} {s : ChangeSpec} {apart fresh handsOn : Bool} {W W' : World} {args : Array Value} {v : Value} {tp : Tape} (h : s.post enc P f apart fresh handsOn false W args v { W' with tape := tp }) : s.post enc P f apart fresh handsOn false W args v W' := by
  obtain ⟨ds, gs, before, pr, pa, pv, h1, h2, h3, h4, h5, h6⟩ := h
  exact ⟨ds, gs, before, pr, pa, pv, h1, DataW.TrodAll.of_heap (w' := W') (by rfl) h2, DataW.TrodAll.of_heap (w' := W') (by rfl) h3, DataW.TrodVars.of_heap (w' := W') (by rfl) h4, h5, fun h => by cases h⟩
end Go.Dw
end
