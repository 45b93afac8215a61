/- Laws and walks: my templates, and what a program of mine (gen.py) printed out of the functions; only what the row reaches. -/
import Derived.Test.YtldnkinaedgnpaaVG4
section
namespace Go.Dw.J
open Go.RowKit Go.Dw Go.Proofs
set_option linter.unusedSectionVars false
set_option maxRecDepth 100000
set_option maxHeartbeats 4000000
set_option linter.unusedSimpArgs false
set_option linter.unusedVariables false
theorem Hv [Comp] (bs : List Int) (a : Option Addr) (c : Nat) (w : World) (hs0 : SlAt w a 1 (bs.map bcell)) (hb : ∀ b ∈ bs, 0 ≤ b ∧ b ≤ 255) (hn : bs.length ≤ 1048576) (hc : bs.length ≤ c) : CallsR Try.prog 25 #[.slice a bs.length c] w (fun v w' => ∃ (ms ps : List MTh) (a b : Option Addr) (c e : Nat) (l : Lab), v = .tuple #[.slice a ms.length c, .slice b ps.length e, .agg #[vi l.s, vi l.v]] ∧ TabAt w' a ms ∧ TabAt w' b ps ∧ TabLen ms ∧ TabLen ps ∧ ms.length ≤ 8 ∧ ps.length ≤ 8 ∧ w.grownBy w' none) := by
 refine Xq (n := 84) Try.func25 Z Try.ntmps25 Z ?_
 have wy := World.grownBy.refl w none
 have hs := SlAt.lt Pt (by omega) hs0
 refine Xa (wpo_assign (v := .slice none 0 0) Z Z (wpo_assign (v := .slice none 0 0) Z Z (wpo_alloc (cs := #[vi 0, vi 0]) Hc Z Z ?_)))
 intro d8 Dk d0
 have xv := Xy d0 wy
 have ij := low0 wy d0.grw
 refine wpo_nil (Xa (wpo_move (v := .slice a bs.length c) Z Z (Xi Xem (Xb Z Xg) Z (Zh bs a c _ (by omega) (by omega)) ?_)))
 rintro _ xj ⟨ap, rfl, fj, ja, ip⟩
 have ik := low0 ij ip
 have xy := nt ij.size fj
 have jl := nl (d0.blk).lt fj
 refine wpo_assign (v := pt ap 0) Z Z (wpo_nil (Xa (wpo_move (v := pt ap 0) Z Z ?_)))
 have mz := (d0.blk.grown0 ip)
 have xz := (mz).lt
 have x0 := (ja).lt
 refine Xi Xcg (Xb Z Xg) Z (L5 0 (by omega) _ ap (bs.take 2000) _ _ _ ja (by omega) (SlLt.low0 (SlLt.take hs 2000) ik) (by first | exact hb | exact fun b h => hb b (List.mem_of_mem_take h)) (by first | omega | (rw [List.length_take]; omega))) ?_
 rintro _ xk ⟨bi, ao, ai, xi, rfl, fg, jv, xm, yq, yr, rz, iq⟩
 have il := low1 ik iq (by omega)
 have di := jv.len
 obtain ⟨hi, hhi⟩ : ∃ n, n = xk.heap.size := ⟨_, rfl⟩
 have hTH := TabG.hi fg
 rw [← hhi] at hTH
 refine wpo_assign (v := .slice (pa bi) ai.length ao) Z Z (wpo_nil (Xa (wpo_move (v := pt ap 0) Z Z (Xi Xch (Xb Z Xg) Z (Lb xi (by omega) _ ap (bs.take 2000) _ _ _ rz (by omega) (SlLt.low0 (SlLt.take hs 2000) il) (by first | exact hb | exact fun b h => hb b (List.mem_of_mem_take h)) (by first | omega | (rw [List.length_take]; omega))) ?_))))
 rintro _ Dl ⟨ac, jg, rfl, yw, yx, yy, yz, yu, yv, jb, cw⟩
 have im := low1 il cw (by omega)
 refine wpo_alloc (cs := #[vi 0, vi 0]) Hc Z Z ?_
 intro dv Dm bl
 have xw := Xy bl im
 have wz : hi ≤ dv := nt (nt (Nat.le_of_eq hhi) cw.size) bl.ge
 have m3 := ((mz.gn iq).gn cw)
 have jj := Xs bl (m3).lt
 have jo := Xs bl (jb).lt
 refine wpo_storen (vs := [vi ac.s, vi ac.v]) (cs' := #[vi ac.s, vi ac.v]) Yd Z Z Z (by simp [Value.oneCell']) bl.blk (Nat.le_of_ble_eq_true Z) Z ?_
 intro Dn bq
 have ez := low1 (low0 im bl.grw) bq.grw (by omega)
 refine wpo_nil (Xa (wpo_move (v := .slice (pa bi) ai.length ao) Z Z ?_))
 have fh := (TabG.ge (TabG.low (TabG.lt fg cw (by omega)) bl.grw) bq.grw hTH (by omega))
 have m4 := ((m3.grown0 bl.grw).gn bq.grw)
 have m5 := ((jb.grown0 bl.grw).gn bq.grw)
 refine Xi Xeu (Xb Z Xg) Z (Rk _ ai _ _ (TabG.at fh) di (by omega)) ?_
 rintro _ Do ⟨ab, V, ae, rfl, io, ck, oy, jr, cx⟩
 have xx := nt ez.size ck
 have jk := nl (m4).lt ck
 have jp := nl (m5).lt ck
 have jm := nl (bq.blk).lt ck
 have ju := TabLen.of io di
 have ku := Uq io
 have xn : hi ≤ ab := nt (nt (nt (nt (Nat.le_of_eq hhi) cw.size) bl.grw.size) bq.grw.size) ck
 refine wpo_assign (v := .slice (pa ab) ae.length V) Z Z (wpo_nil (Xk (Xa (wpo_assign (v := vi 0) Z Z (wpo_nil (Xv (Yg (fun mm f' w' => ∃ (i : Nat) (p1 : Int) (ys : List MTh), mm = ai.length - i ∧ ys.length = ai.length ∧ i ≤ ys.length ∧ (jg ≤ p1 ∧ p1 ≤ jg + 8 * (i : Int)) ∧ TabG xj.heap.size w' (pa bi) ai ∧ hi ≤ w'.heap.size ∧ RowsO 74 3 w.heap.size w' ys ∧ Dw.Own w' ab 35 8 V ys.length (ys.flatMap MTh.cells) ∧ TabLen ys ∧ f' 9 = vi (i : Int) ∧ f' 2 = .slice none 0 0 ∧ f' 3 = .slice none 0 0 ∧ f' 4 = pt d8 0 ∧ f' 5 = pt ap 0 ∧ f' 6 = .slice (pa bi) ai.length ao ∧ f' 7 = pt dv 0 ∧ f' 8 = .slice (pa ab) ae.length V ∧ w.grownBy w' none ∧ Blk w' d8 25 #[vi 0, vi 0] ∧ Blk w' dv 25 #[vi ac.s, vi ac.v] ∧ Blk w' ap 97 #[.slice a (bs.take 2000).length c, vi p1]) (ai.length - 0) ⟨0, jg, ae, Z, ku, (Nat.zero_le _), (by omega), (TabG.low fh cx), (nt (nt (nt (nt (Nat.le_of_eq hhi) cw.size) bl.grw.size) bq.grw.size) cx.size), (RowsO.mono jr ez.size), oy, ju, Z, Z, Z, Z, Z, Z, Z, Z, (low0 ez cx), (m4.grown0 cx), (bq.blk.grown0 cx), (m5.grown0 cx)⟩ ?_)))))))
 rintro mm Cz jh ⟨i, p1, ys, yp, hyl, hiy, hpp, hGl, hhs, hRO, hOx, hTLy, cy, gl, gm, dw, ea, ed, dx, bz, dq, dt, cn, de⟩
 refine Xk (Xa (wpo_move (v := vi (i : Int)) cy Z (wpo_move (v := .slice (pa ab) ae.length V) bz Z (wpo_len (by kernel_rfl) Z Z (wpo_lss (q := decide ((i : Int) < (ae.length : Int))) Z Z Z Z (wpo_nil (Xt Z (fun ef => ?_) (fun ef => ?_))))))))
 have C0 := of_decide_eq_true ef
 refine Xn (Xo (Xk (Xv (Xk (Xk ?_)))))
 rcases Xz (decide ((mAt ys i).t.kind = 1)) with bh | bh
 have af : (decide ((mAt ys i).t.kind = 4)) = false := decide_eq_false (fun h4 => absurd ((of_decide_eq_true bh).symm.trans h4) (by decide))
 have C1 := of_decide_eq_true bh
 have y3 : hi ≤ jh.heap.size := hhs
 refine Q8 (m := 17) [[], [], [0, 1], [0, 1, 2], [0, 1, 2, 3], [0, 1, 2, 3, 4], [0, 1, 2, 3, 4, 5], [0, 1, 2, 3, 4, 5, 6], [0, 1, 2, 3, 4, 5, 6, 7], [0, 1, 2, 3, 4, 5, 6, 7, 8], [0, 1, 2, 3, 4, 5, 6, 7, 8, 9], [0, 1, 2, 3, 4, 5, 6, 7, 8, 9, 10], [0, 1, 2, 3, 4, 5, 6, 7, 8, 9, 10], [0, 1, 2, 3, 4, 5, 6, 7, 8, 9, 10, 11, 12], [0, 1, 2, 3, 4, 5, 6, 7, 8, 9, 10, 11, 12, 13], [0, 1, 2, 3, 4, 5, 6, 7, 8, 9, 10, 11, 12, 13, 14], [0, 1, 2, 3, 4, 5, 6, 7, 8, 9, 10], [0, 1, 2, 3, 4, 5, 6, 7, 8, 9, 10, 11, 12, 13, 14, 15, 16], [0, 1, 2, 3, 4, 5, 6, 7, 8, 9, 10, 11, 12, 13, 14, 15, 16, 17], [0, 1, 2, 3, 4, 5, 6, 7, 8, 9, 10, 11, 12, 13, 14, 15, 16, 17, 18], [0, 1, 2, 3, 4, 5, 6, 7, 8, 9, 10, 11, 12, 13, 14, 15, 16, 17, 18, 19]] (fun S F w' => ∃ (O : Int), jh.grownBy w' (some ap) ∧ F 2 = .slice none 0 0 ∧ F 3 = .slice none 0 0 ∧ F 4 = pt d8 0 ∧ F 5 = pt ap 0 ∧ F 6 = .slice (pa bi) ai.length ao ∧ F 7 = pt dv 0 ∧ F 8 = .slice (pa ab) ae.length V ∧ F 9 = vi (i : Int) ∧ (S 8 = false → Blk w' ap 97 #[.slice a (bs.take 2000).length c, vi p1]) ∧ (S 8 = true → F 32 = vi O ∧ 0 ≤ O ∧ (O < 8 ∨ O = 0) ∧ Blk w' ap 97 #[.slice a (bs.take 2000).length c, vi (p1 + 1)]) ∧ (S 9 = true → F 33 = vb (decide (O = 0))) ∧ (S 10 = true → F 34 = vb (decide (O = 0))) ∧ (S 11 = true → (decide (O = 0) = false → F 35 = .slice (pa ab) ae.length V) ∧ (decide (O = 0) = true → F 35 = undef)) ∧ (S 12 = true → (decide (O = 0) = false → F 36 = vi (i : Int)) ∧ (decide (O = 0) = true → F 36 = undef)) ∧ (S 13 = true → (decide (O = 0) = false → F 37 = pt ab (i * 8)) ∧ (decide (O = 0) = true → F 37 = undef)) ∧ (S 14 = true → (decide (O = 0) = false → F 38 = pt ab (i * 8 + 1)) ∧ (decide (O = 0) = true → F 38 = undef)) ∧ (S 15 = true → (decide (O = 0) = false → F 39 = .agg #[vi (mAt ys i).t.lab.s, vi (mAt ys i).t.lab.v]) ∧ (decide (O = 0) = true → F 39 = undef)) ∧ (S 16 = true → (decide (O = 0) = false → F 40 = .agg #[vi ac.s, vi ac.v]) ∧ (decide (O = 0) = true → F 40 = undef)) ∧ Vals S F [(0, 24, .slice (pa ab) ae.length V), (1, 25, vi (i : Int)), (2, 26, pt ab (i * 8)), (3, 27, pt ab (i * 8)), (4, 28, vi (mAt ys i).t.kind), (5, 29, vb (decide ((mAt ys i).t.kind = 1))), (6, 30, vb (decide ((mAt ys i).t.kind = 1))), (7, 31, pt ap 0)]) Yu (by kernel_rfl) ⟨0, Xx _, gl, gm, dw, ea, ed, dx, bz, cy, fun _ => (de).grown0 (Xx _), X4, X4, X4, X4, X4, X4, X4, X4, X4, Kn _⟩ ?_ ?_
 refine Xl (fun S F Dp hS hbef hcl hI => ?_) ?_
 obtain ⟨O, o0, r8, r9, sb, sd, se, sf, kw, sg, E, an, aq, ah, ak, al, ar, a9, be, au, hvs⟩ := hI
 exact wpo_move (v := .slice (pa ab) ae.length V) kw Z (wpo_nil ⟨O, o0, r8, r9, sb, sd, se, sf, kw, sg, fun h => E h, Xj 8 hS hcl Z, Xj 9 hS hcl Z, Xj 10 hS hcl Z, Xj 11 hS hcl Z, Xj 12 hS hcl Z, Xj 13 hS hcl Z, Xj 14 hS hcl Z, Xj 15 hS hcl Z, Xj 16 hS hcl Z, Vals.up 0 hvs Z Z Z⟩)
 refine Xl (fun S F Dq hS hbef hcl hI => ?_) ?_
 obtain ⟨O, o1, si, sk, sn, so, sq, sr, su, kx, E, an, aq, ah, ak, al, ar, a9, be, au, hvs⟩ := hI
 exact wpo_move (v := vi (i : Int)) kx Z (wpo_nil ⟨O, o1, si, sk, sn, so, sq, sr, su, kx, fun h => E h, Xj 8 hS hcl Z, Xj 9 hS hcl Z, Xj 10 hS hcl Z, Xj 11 hS hcl Z, Xj 12 hS hcl Z, Xj 13 hS hcl Z, Xj 14 hS hcl Z, Xj 15 hS hcl Z, Xj 16 hS hcl Z, Vals.up 1 hvs Z Z Z⟩)
 refine Xl (fun S F Dr hS hbef hcl hI => ?_) ?_
 obtain ⟨O, o3, sw, sx, sy, s3, s4, s5, s6, s7, E, an, aq, ah, ak, al, ar, a9, be, au, hvs⟩ := hI
 exact wpo_indexAddr (o' := i * 8) Qj (Vals.at 0 hvs Z (Xf 0 hbef Z)) (Vals.at 1 hvs Z (Xf 1 hbef Z)) (by omega) (by omega) (by omega) Z (wpo_nil ⟨O, o3, sw, sx, sy, s3, s4, s5, s6, s7, fun h => E h, Xj 8 hS hcl Z, Xj 9 hS hcl Z, Xj 10 hS hcl Z, Xj 11 hS hcl Z, Xj 12 hS hcl Z, Xj 13 hS hcl Z, Xj 14 hS hcl Z, Xj 15 hS hcl Z, Xj 16 hS hcl Z, Vals.up 2 hvs Z Z Z⟩)
 refine Xl (fun S F Ds hS hbef hcl hI => ?_) ?_
 obtain ⟨O, o4, s8, s9, ta, tc, td, te, tf, tg, E, an, aq, ah, ak, al, ar, a9, be, au, hvs⟩ := hI
 exact wpo_fieldAddr (o' := i * 8) X7 (Vals.at 2 hvs Z (Xf 2 hbef Z)) Z Z (wpo_nil ⟨O, o4, s8, s9, ta, tc, td, te, tf, tg, fun h => E h, Xj 8 hS hcl Z, Xj 9 hS hcl Z, Xj 10 hS hcl Z, Xj 11 hS hcl Z, Xj 12 hS hcl Z, Xj 13 hS hcl Z, Xj 14 hS hcl Z, Xj 15 hS hcl Z, Xj 16 hS hcl Z, Vals.up 3 hvs Z Z Z⟩)
 refine Xl (fun S F Dt hS hbef hcl hI => ?_) ?_
 obtain ⟨O, ir, ti, tj, tk, tn, tu, tv, tw, tx, E, an, aq, ah, ak, al, ar, a9, be, au, hvs⟩ := hI
 exact wpo_load1 (v := vi (mAt ys i).t.kind) X1 (Vals.at 3 hvs Z (Xf 3 hbef Z)) ((Own.range Yf (hOx.gn ir) (xg ys i)) 0 _ Z) Z (wpo_nil ⟨O, ir, ti, tj, tk, tn, tu, tv, tw, tx, fun h => E h, Xj 8 hS hcl Z, Xj 9 hS hcl Z, Xj 10 hS hcl Z, Xj 11 hS hcl Z, Xj 12 hS hcl Z, Xj 13 hS hcl Z, Xj 14 hS hcl Z, Xj 15 hS hcl Z, Xj 16 hS hcl Z, Vals.up 4 hvs Z Z Z⟩)
 refine Xl (fun S F Du hS hbef hcl hI => ?_) ?_
 obtain ⟨O, o5, tz, ua, uc, ud, ue, uf, ug, uh, E, an, aq, ah, ak, al, ar, a9, be, au, hvs⟩ := hI
 exact wpo_eql (q := decide ((mAt ys i).t.kind = 1)) (Vals.at 4 hvs Z (Xf 4 hbef Z)) Z Z Z (wpo_nil ⟨O, o5, tz, ua, uc, ud, ue, uf, ug, uh, fun h => E h, Xj 8 hS hcl Z, Xj 9 hS hcl Z, Xj 10 hS hcl Z, Xj 11 hS hcl Z, Xj 12 hS hcl Z, Xj 13 hS hcl Z, Xj 14 hS hcl Z, Xj 15 hS hcl Z, Xj 16 hS hcl Z, Vals.up 5 hvs Z Z Z⟩)
 refine Xl (fun S F Dv hS hbef hcl hI => ?_) ?_
 obtain ⟨O, o6, uj, uk, um, un, uo, uu, uv, uw, E, an, aq, ah, ak, al, ar, a9, be, au, hvs⟩ := hI
 exact wpo_move (v := vb (decide ((mAt ys i).t.kind = 1))) (Vals.at 5 hvs Z (Xf 5 hbef Z)) Z (wpo_nil ⟨O, o6, uj, uk, um, un, uo, uu, uv, uw, fun h => E h, Xj 8 hS hcl Z, Xj 9 hS hcl Z, Xj 10 hS hcl Z, Xj 11 hS hcl Z, Xj 12 hS hcl Z, Xj 13 hS hcl Z, Xj 14 hS hcl Z, Xj 15 hS hcl Z, Xj 16 hS hcl Z, Vals.up 6 hvs Z Z Z⟩)
 refine Xl (fun S F Dx hS hbef hcl hI => ?_) ?_
 obtain ⟨O, o7, ux, uy, uz, ky, u0, u9, va, vc, E, an, aq, ah, ak, al, ar, a9, be, au, hvs⟩ := hI
 exact Xd Z Z (Vals.at 6 hvs Z (Xf 6 hbef Z)) bh (wpo_move (v := pt ap 0) ky Z (wpo_nil ⟨O, o7, ux, uy, uz, ky, u0, u9, va, vc, fun h => E h, Xj 8 hS hcl Z, Xj 9 hS hcl Z, Xj 10 hS hcl Z, Xj 11 hS hcl Z, Xj 12 hS hcl Z, Xj 13 hS hcl Z, Xj 14 hS hcl Z, Xj 15 hS hcl Z, Xj 16 hS hcl Z, Vals.up 7 hvs Z Z Z⟩))
 refine Xl (fun S F Dy hS hbef hcl hI => ?_) ?_
 obtain ⟨O, is, vd, vf, vg, vh, vj, vk, vl, vm, E, an, aq, ah, ak, al, ar, a9, be, au, hvs⟩ := hI
 refine Xd Z Z (Vals.at 6 hvs Z (Xf 6 hbef Z)) bh (Xi Y7 (Xb (Vals.at 7 hvs Z (Xf 7 hbef Z)) (Xb Z Xg)) Z (Yj p1 8 (by omega) _ ap (bs.take 2000) _ _ _ (E hS) (by omega) (SlLt.low0 (SlLt.take hs 2000) (low1 dq is (by omega))) (by first | exact hb | exact fun b h => hb b (List.mem_of_mem_take h)) (by first | omega | (rw [List.length_take]; omega))) ?_)
 rintro _ Dz ⟨xh, rfl, ru, rx, r1, oz⟩
 exact wpo_nil ⟨xh, (Xh is oz), vd, vf, vg, vh, vj, vk, vl, vm, fun h => Yi h, fun _ => ⟨Z, ru, rx, r1⟩, Xj 9 hS hcl Z, Xj 10 hS hcl Z, Xj 11 hS hcl Z, Xj 12 hS hcl Z, Xj 13 hS hcl Z, Xj 14 hS hcl Z, Xj 15 hS hcl Z, Xj 16 hS hcl Z, Vals.keep hvs Z⟩
 refine Xl (fun S F D0 hS hbef hcl hI => ?_) ?_
 obtain ⟨O, o8, vn, vo, vp, vq, vr, vt, vu, vv, E, an, aq, ah, ak, al, ar, a9, be, au, hvs⟩ := hI
 obtain ⟨vw, bf, bg, ag⟩ := an (Xf 8 hbef rfl)
 exact Xd Z Z (Vals.at 6 hvs Z (Xf 6 hbef Z)) bh (wpo_eql (q := decide (O = 0)) vw Z Z Z (wpo_nil ⟨O, o8, vn, vo, vp, vq, vr, vt, vu, vv, fun hn => Yi ((Xf 8 hbef Z).symm.trans hn), an, fun _ => Z, Xj 10 hS hcl Z, Xj 11 hS hcl Z, Xj 12 hS hcl Z, Xj 13 hS hcl Z, Xj 14 hS hcl Z, Xj 15 hS hcl Z, Xj 16 hS hcl Z, Vals.keep hvs Z⟩))
 refine Xl (fun S F D1 hS hbef hcl hI => ?_) ?_
 obtain ⟨O, o9, vx, vy, vz, v1, v2, v3, v4, v5, E, an, aq, ah, ak, al, ar, a9, be, au, hvs⟩ := hI
 obtain ⟨Ae, bf, bg, ag⟩ := an (Xf 8 hbef rfl)
 obtain v6 := aq (Xf 9 hbef rfl)
 exact Xd Z Z (Vals.at 6 hvs Z (Xf 6 hbef Z)) bh (wpo_move (v := vb (decide (O = 0))) v6 Z (wpo_nil ⟨O, o9, vx, vy, vz, v1, v2, v3, v4, v5, fun hn => Yi ((Xf 8 hbef Z).symm.trans hn), an, aq, fun _ => Z, Xj 11 hS hcl Z, Xj 12 hS hcl Z, Xj 13 hS hcl Z, Xj 14 hS hcl Z, Xj 15 hS hcl Z, Xj 16 hS hcl Z, Vals.keep hvs Z⟩))
 refine Xl (fun S F D2 hS hbef hcl hI => ?_) ?_
 obtain ⟨O, it, kz, k0, la, lc, ld, lf, gp, lg, E, an, aq, ah, ak, al, ar, a9, be, au, hvs⟩ := hI
 rcases Xz (decide (O = 0)) with dl | dl
 have C2 := of_decide_eq_true dl
 obtain ⟨Af, bf, bg, ag⟩ := an (Xf 8 hbef rfl)
 obtain Ag := aq (Xf 9 hbef rfl)
 obtain v7 := ah (Xf 10 hbef rfl)
 exact Xe Z Z v7 dl Z (wpo_nil ⟨O, it, kz, k0, la, lc, ld, lf, gp, lg, fun hn => Yi ((Xf 8 hbef Z).symm.trans hn), an, aq, ah, fun _ => ⟨fun hx => bno dl hx, fun _ => Z⟩, al, Xj 13 hS hcl Z, Xj 14 hS hcl Z, Xj 15 hS hcl Z, au, Vals.keep hvs Z⟩)
 have C3 := of_decide_eq_false dl
 obtain ⟨Ah, bf, bg, ag⟩ := an (Xf 8 hbef rfl)
 obtain Ai := aq (Xf 9 hbef rfl)
 obtain v8 := ah (Xf 10 hbef rfl)
 exact Xd Z Z v8 dl (wpo_move (v := .slice (pa ab) ae.length V) gp Z (wpo_nil ⟨O, it, kz, k0, la, lc, ld, lf, gp, lg, fun hn => Yi ((Xf 8 hbef Z).symm.trans hn), an, aq, ah, fun _ => ⟨fun _ => Z, fun hx => bno hx dl⟩, al, Xj 13 hS hcl Z, Xj 14 hS hcl Z, Xj 15 hS hcl Z, au, Vals.keep hvs Z⟩))
 refine Xl (fun S F D3 hS hbef hcl hI => ?_) ?_
 obtain ⟨O, iu, lh, li, lj, lk, ll, lm, ln, gq, E, an, aq, ah, ak, al, ar, a9, be, au, hvs⟩ := hI
 rcases Xz (decide (O = 0)) with dm | dm
 have C4 := of_decide_eq_true dm
 obtain ⟨Aj, bf, bg, ag⟩ := an (Xf 8 hbef rfl)
 obtain Ak := aq (Xf 9 hbef rfl)
 obtain v9 := ah (Xf 10 hbef rfl)
 exact Xe Z Z v9 dm Z (wpo_nil ⟨O, iu, lh, li, lj, lk, ll, lm, ln, gq, fun hn => Yi ((Xf 8 hbef Z).symm.trans hn), an, aq, ah, ak, fun _ => ⟨fun hx => bno dm hx, fun _ => Z⟩, Xj 13 hS hcl Z, Xj 14 hS hcl Z, Xj 15 hS hcl Z, au, Vals.keep hvs Z⟩)
 have C5 := of_decide_eq_false dm
 obtain ⟨Al, bf, bg, ag⟩ := an (Xf 8 hbef rfl)
 obtain Am := aq (Xf 9 hbef rfl)
 obtain wa := ah (Xf 10 hbef rfl)
 exact Xd Z Z wa dm (wpo_move (v := vi (i : Int)) gq Z (wpo_nil ⟨O, iu, lh, li, lj, lk, ll, lm, ln, gq, fun hn => Yi ((Xf 8 hbef Z).symm.trans hn), an, aq, ah, ak, fun _ => ⟨fun _ => Z, fun hx => bno hx dm⟩, Xj 13 hS hcl Z, Xj 14 hS hcl Z, Xj 15 hS hcl Z, au, Vals.keep hvs Z⟩))
 refine Xl (fun S F D4 hS hbef hcl hI => ?_) ?_
 obtain ⟨O, iv, lu, lv, lw, lx, ly, lz, l0, l3, E, an, aq, ah, ak, al, ar, a9, be, au, hvs⟩ := hI
 rcases Xz (decide (O = 0)) with cg | cg
 have C6 := of_decide_eq_true cg
 obtain ⟨An, bf, bg, ag⟩ := an (Xf 8 hbef rfl)
 obtain Ao := aq (Xf 9 hbef rfl)
 obtain wb := ah (Xf 10 hbef rfl)
 obtain ⟨Ap, Aq⟩ := ak (Xf 11 hbef rfl)
 obtain ⟨Ar, As⟩ := al (Xf 12 hbef rfl)
 exact Xe Z Z wb cg Z (wpo_nil ⟨O, iv, lu, lv, lw, lx, ly, lz, l0, l3, fun hn => Yi ((Xf 8 hbef Z).symm.trans hn), an, aq, ah, ak, al, fun _ => ⟨fun hx => bno cg hx, fun _ => Z⟩, Xj 14 hS hcl Z, Xj 15 hS hcl Z, au, Vals.keep hvs Z⟩)
 have C7 := of_decide_eq_false cg
 obtain ⟨At, bf, bg, ag⟩ := an (Xf 8 hbef rfl)
 obtain Au := aq (Xf 9 hbef rfl)
 obtain wc := ah (Xf 10 hbef rfl)
 obtain ⟨wd, Av⟩ := ak (Xf 11 hbef rfl)
 obtain ⟨we, Aw⟩ := al (Xf 12 hbef rfl)
 exact Xd Z Z wc cg (wpo_indexAddr (o' := i * 8) Qj (wd cg) (we cg) (by omega) (by omega) (by omega) Z (wpo_nil ⟨O, iv, lu, lv, lw, lx, ly, lz, l0, l3, fun hn => Yi ((Xf 8 hbef Z).symm.trans hn), an, aq, ah, ak, al, fun _ => ⟨fun _ => Z, fun hx => bno hx cg⟩, Xj 14 hS hcl Z, Xj 15 hS hcl Z, au, Vals.keep hvs Z⟩))
 refine Xl (fun S F D5 hS hbef hcl hI => ?_) ?_
 obtain ⟨O, iw, l4, l5, l6, l7, l8, l9, ma, mb, E, an, aq, ah, ak, al, ar, a9, be, au, hvs⟩ := hI
 rcases Xz (decide (O = 0)) with db | db
 have C8 := of_decide_eq_true db
 obtain ⟨Ax, bf, bg, ag⟩ := an (Xf 8 hbef rfl)
 obtain Ay := aq (Xf 9 hbef rfl)
 obtain wg := ah (Xf 10 hbef rfl)
 obtain ⟨Az, A4⟩ := ak (Xf 11 hbef rfl)
 obtain ⟨A5, A6⟩ := al (Xf 12 hbef rfl)
 obtain ⟨A7, A8⟩ := ar (Xf 13 hbef rfl)
 exact Xe Z Z wg db Z (wpo_nil ⟨O, iw, l4, l5, l6, l7, l8, l9, ma, mb, fun hn => Yi ((Xf 8 hbef Z).symm.trans hn), an, aq, ah, ak, al, ar, fun _ => ⟨fun hx => bno db hx, fun _ => Z⟩, Xj 15 hS hcl Z, au, Vals.keep hvs Z⟩)
 have C9 := of_decide_eq_false db
 obtain ⟨A9, bf, bg, ag⟩ := an (Xf 8 hbef rfl)
 obtain Ba := aq (Xf 9 hbef rfl)
 obtain wh := ah (Xf 10 hbef rfl)
 obtain ⟨Bb, Bc⟩ := ak (Xf 11 hbef rfl)
 obtain ⟨Bd, Be⟩ := al (Xf 12 hbef rfl)
 obtain ⟨wi, Bf⟩ := ar (Xf 13 hbef rfl)
 exact Xd Z Z wh db (wpo_fieldAddr (o' := i * 8 + 1) Ke (wi db) Z Z (wpo_nil ⟨O, iw, l4, l5, l6, l7, l8, l9, ma, mb, fun hn => Yi ((Xf 8 hbef Z).symm.trans hn), an, aq, ah, ak, al, ar, fun _ => ⟨fun _ => Z, fun hx => bno hx db⟩, Xj 15 hS hcl Z, au, Vals.keep hvs Z⟩))
 refine Xl (fun S F D6 hS hbef hcl hI => ?_) ?_
 obtain ⟨O, fc, mc, me, mf, mg, mh, ml, mn, mo, E, an, aq, ah, ak, al, ar, a9, be, au, hvs⟩ := hI
 rcases Xz (decide (O = 0)) with dc | dc
 have Da := of_decide_eq_true dc
 obtain ⟨Bg, bf, bg, ag⟩ := an (Xf 8 hbef rfl)
 obtain Bh := aq (Xf 9 hbef rfl)
 obtain wj := ah (Xf 10 hbef rfl)
 obtain ⟨Bi, Bj⟩ := ak (Xf 11 hbef rfl)
 obtain ⟨Bl, Bm⟩ := al (Xf 12 hbef rfl)
 obtain ⟨Bn, Bo⟩ := ar (Xf 13 hbef rfl)
 obtain ⟨Bp, Bq⟩ := a9 (Xf 14 hbef rfl)
 exact Xe Z Z wj dc Z (wpo_nil ⟨O, fc, mc, me, mf, mg, mh, ml, mn, mo, fun hn => Yi ((Xf 8 hbef Z).symm.trans hn), an, aq, ah, ak, al, ar, a9, fun _ => ⟨fun hx => bno dc hx, fun _ => Z⟩, au, Vals.keep hvs Z⟩)
 have Db := of_decide_eq_false dc
 obtain ⟨Br, bf, bg, ag⟩ := an (Xf 8 hbef rfl)
 obtain Bs := aq (Xf 9 hbef rfl)
 obtain wl := ah (Xf 10 hbef rfl)
 obtain ⟨Bt, Bu⟩ := ak (Xf 11 hbef rfl)
 obtain ⟨Bv, Bw⟩ := al (Xf 12 hbef rfl)
 obtain ⟨Bx, By⟩ := ar (Xf 13 hbef rfl)
 obtain ⟨wm, Bz⟩ := a9 (Xf 14 hbef rfl)
 exact Xd Z Z wl dc (wpo_loadn (vs := [vi (mAt ys i).t.lab.s, vi (mAt ys i).t.lab.v]) Yd (wm dc) Z (Qh (Own.range Yf (hOx.gn fc) (xg ys i)) 1 2 Z) Z (wpo_nil ⟨O, fc, mc, me, mf, mg, mh, ml, mn, mo, fun hn => Yi ((Xf 8 hbef Z).symm.trans hn), an, aq, ah, ak, al, ar, a9, fun _ => ⟨fun _ => Z, fun hx => bno hx dc⟩, au, Vals.keep hvs Z⟩))
 refine Xl (fun S F D7 hS hbef hcl hI => ?_) ?_
 obtain ⟨O, fd, mp, mq, mr, mu, mv, gr, mw, my, E, an, aq, ah, ak, al, ar, a9, be, au, hvs⟩ := hI
 rcases Xz (decide (O = 0)) with dn | dn
 have Dc := of_decide_eq_true dn
 obtain ⟨B4, bf, bg, ag⟩ := an (Xf 8 hbef rfl)
 obtain B5 := aq (Xf 9 hbef rfl)
 obtain wn := ah (Xf 10 hbef rfl)
 exact Xe Z Z wn dn Z (wpo_nil ⟨O, fd, mp, mq, mr, mu, mv, gr, mw, my, fun hn => Yi ((Xf 8 hbef Z).symm.trans hn), an, aq, ah, ak, al, ar, a9, be, fun _ => ⟨fun hx => bno dn hx, fun _ => Z⟩, Vals.keep hvs Z⟩)
 have Dd := of_decide_eq_false dn
 obtain ⟨B6, bf, bg, ag⟩ := an (Xf 8 hbef rfl)
 obtain B7 := aq (Xf 9 hbef rfl)
 obtain wo := ah (Xf 10 hbef rfl)
 exact Xd Z Z wo dn (wpo_loadn (vs := [vi ac.s, vi ac.v]) Yd gr Z ((cn.gn fd).rangeL 0 2 Z) Z (wpo_nil ⟨O, fd, mp, mq, mr, mu, mv, gr, mw, my, fun hn => Yi ((Xf 8 hbef Z).symm.trans hn), an, aq, ah, ak, al, ar, a9, be, fun _ => ⟨fun _ => Z, fun hx => bno hx dn⟩, Vals.keep hvs Z⟩))
 exact Jp
 intro S F D8 hall hI
 obtain ⟨O, aw, gt, gu, gv, ee, gw, gx, cz, da, E, an, aq, ah, ak, al, ar, a9, be, au, hvs⟩ := hI
 have fa := low1 dq aw (by omega)
 rcases Xz (decide (O = 0)) with bp | bp
 have De := of_decide_eq_true bp
 have g4 := Vals.at 6 hvs rfl (hall 6 (by decide))
 obtain ⟨B8, bf, bg, ag⟩ := an (hall 8 (by decide))
 obtain B9 := aq (hall 9 (by decide))
 obtain gy := ah (hall 10 (by decide))
 obtain ⟨Ca, Cb⟩ := ak (hall 11 (by decide))
 obtain ⟨Cc, Cd⟩ := al (hall 12 (by decide))
 obtain ⟨Ce, Cf⟩ := ar (hall 13 (by decide))
 obtain ⟨Cg, Ch⟩ := a9 (hall 14 (by decide))
 obtain ⟨Ci, Cj⟩ := be (hall 15 (by decide))
 obtain ⟨Ck, Cm⟩ := au (hall 16 (by decide))
 refine Xe Z Z gy bp Z (Xe Z Z gy bp Z (Xd Z Z g4 bh (wpo_pickt (v := vb true) gy bp Z Z (wpo_pickt (v := vb true) g4 bh Z Z (wpo_nil (Xo (X8 Z Z (Xr (wpo_move (v := .slice (pa ab) ae.length V) cz Z (wpo_move (v := vi (i : Int)) da Z (wpo_move (v := pt ap 0) ee Z (Xi Y7 (Xb Z (Xb Z Xg)) Z (Yj (p1 + 1) 30 (by omega) _ ap (bs.take 2000) _ _ _ ag (by omega) (SlLt.low0 (SlLt.take hs 2000) fa) (by first | exact hb | exact fun b h => hb b (List.mem_of_mem_take h)) (by first | omega | (rw [List.length_take]; omega))) ?_))))))))))))
 rintro _ D9 ⟨fu, rfl, yj, ym, r2, ca⟩
 refine wpo_indexAddr (o' := i * 8) Qj Z Z (by omega) (by omega) (by omega) Z (wpo_fieldAddr (o' := i * 8 + 4) Q9 Z Z Z ?_)
 have m6 := ((hOx.gn aw).gn ca)
 refine wpo_store1O (g := MTh.cells) (j := 4) (z := (mAt ys i)) (z' := (⟨⟨(mAt ys i).t.kind, (mAt ys i).t.lab, (mAt ys i).t.ve, fu, (mAt ys i).t.slots, (mAt ys i).t.queue, (mAt ys i).t.to⟩, (mAt ys i).sa, (mAt ys i).sc, (mAt ys i).qa, (mAt ys i).qc⟩ : MTh)) (v := vi fu) X1 Z Z Z Yf m6 (xg ys i) (by omega) Z Z ?_
 intro m9 g9 cc
 have js : RowsO 74 3 w.heap.size m9 (ys.set i (⟨⟨(mAt ys i).t.kind, (mAt ys i).t.lab, (mAt ys i).t.ve, fu, (mAt ys i).t.slots, (mAt ys i).t.queue, (mAt ys i).t.to⟩, (mAt ys i).sa, (mAt ys i).sc, (mAt ys i).qa, (mAt ys i).qc⟩ : MTh)) := RowsO.set (RowsO.own (RowsO.typB (RowsO.typB hRO aw de (by decide) (by decide)) ca ag (by decide) (by decide)) cc m6 (by decide) (by decide)) (lq i ys.length) ⟨rfl, rfl, rfl⟩ ⟨rfl, rfl, rfl⟩
 refine wpo_nil (Xo (Xk (Yl (m := 13) (vals := [(51, .slice (pa ab) ae.length V), (52, vi (i : Int)), (53, pt ab (i * 8)), (54, pt ab (i * 8)), (55, vi (mAt ys i).t.kind), (56, vb (decide ((mAt ys i).t.kind = 4))), (57, vb (decide ((mAt ys i).t.kind = 4))), (58, undef), (59, undef), (60, undef), (61, undef), (62, undef), (63, undef)]) (fun w' => m9.grownBy w' none) Yu (by kernel_rfl) (Xx _) ?_ ?_)))
 refine Xc Z (fun Ea pb => ?_) ?_
 exact wpo_move (v := .slice (pa ab) ae.length V) cz Z (wpo_nil ⟨Z, pb⟩)
 refine Xc Z (fun Eb pc => ?_) ?_
 exact wpo_move (v := vi (i : Int)) da Z (wpo_nil ⟨Z, pc⟩)
 refine Xc Z (fun Ec pe => ?_) ?_
 exact wpo_indexAddr (o' := i * 8) Qj Z Z (by omega) (by omega) (by omega) Z (wpo_nil ⟨Z, pe⟩)
 refine Xc Z (fun Ed pf => ?_) ?_
 exact wpo_fieldAddr (o' := i * 8) X7 Z Z Z (wpo_nil ⟨Z, pf⟩)
 refine Xc Z (fun Ee ix => ?_) ?_
 exact wpo_load1 (v := vi (mAt ys i).t.kind) X1 Z ((Own.range Yf (g9.grown0 ix) (Me (xg ys i))) 0 _ Z) Z (wpo_nil ⟨Z, ix⟩)
 refine Xc Z (fun Ef pg => ?_) ?_
 exact wpo_eql (q := decide ((mAt ys i).t.kind = 4)) Z Z Z Z (wpo_nil ⟨Z, pg⟩)
 refine Xc Z (fun Eg pi => ?_) ?_
 exact wpo_move (v := vb (decide ((mAt ys i).t.kind = 4))) Z Z (wpo_nil ⟨Z, pi⟩)
 refine Xc Z (fun Eh pj => ?_) ?_
 exact Xe Z Z Z af Z (wpo_nil ⟨Z, pj⟩)
 refine Xc Z (fun Ei pk => ?_) ?_
 exact Xe Z Z Z af Z (wpo_nil ⟨Z, pk⟩)
 refine Xc Z (fun Ej pl => ?_) ?_
 exact Xe Z Z Z af Z (wpo_nil ⟨Z, pl⟩)
 refine Xc Z (fun Ek pm => ?_) ?_
 exact Xe Z Z Z af Z (wpo_nil ⟨Z, pm⟩)
 refine Xc Z (fun El pn => ?_) ?_
 exact Xe Z Z Z af Z (wpo_nil ⟨Z, pn⟩)
 refine Xc Z (fun Em po => ?_) ?_
 exact Xe Z Z Z af Z (wpo_nil ⟨Z, po⟩)
 exact Y2
 intro En bt
 refine Xe Z Z Z af Z (Xe Z Z Z af Z (wpo_pickf (v := vb false) Z af Z Z (wpo_nil (Xo (X5 Z Z (Xn (Y3 (Xo (Xr (wpo_move (v := vi (i : Int)) da Z (wpo_add (c := (i : Int) + 1) Z Z (by omega) (by omega) (by omega) Z (wpo_assign (v := vi ((i : Int) + 1)) Z Z ?_))))))))))))
 exact wpo_nil (Xo (⟨ai.length - (i + 1), by omega, (i + 1), (p1 + 1 + 1), (ys.set i (⟨⟨(mAt ys i).t.kind, (mAt ys i).t.lab, (mAt ys i).t.ve, fu, (mAt ys i).t.slots, (mAt ys i).t.queue, (mAt ys i).t.to⟩, (mAt ys i).sa, (mAt ys i).sc, (mAt ys i).qa, (mAt ys i).qc⟩ : MTh)), rfl, (by first | exact hyl | (simp only [List.length_set]; exact hyl)), (by first | omega | (simp only [List.length_set]; omega)), (by omega), (TabG.low (TabG.ge (TabG.lt (TabG.lt hGl aw (by omega)) ca (by omega)) cc hTH (by omega)) bt), (nt (nt (nt (nt hhs aw.size) ca.size) cc.size) bt.size), (RowsO.low js bt), (g9.grown0 bt), (by first | exact hTLy | exact Jh hTLy (by omega) rfl (.inl rfl) | exact Jh hTLy (by omega) rfl (.inr (by simp))), rfl, gt, gu, gv, ee, gw, gx, cz, (low0 (low1 (low1 fa ca (by omega)) cc (by omega)) bt), ((((dt.gn aw).gn ca).gn cc).grown0 bt), ((((cn.gn aw).gn ca).gn cc).grown0 bt), ((r2.gn cc).grown0 bt)⟩))
 have Df := of_decide_eq_false bp
 have g7 := Vals.at 6 hvs rfl (hall 6 (by decide))
 obtain ⟨Cn, bf, bg, ag⟩ := an (hall 8 (by decide))
 obtain Co := aq (hall 9 (by decide))
 obtain gz := ah (hall 10 (by decide))
 obtain ⟨Cp, Cq⟩ := ak (hall 11 (by decide))
 obtain ⟨Cr, Cs⟩ := al (hall 12 (by decide))
 obtain ⟨Ct, Cu⟩ := ar (hall 13 (by decide))
 obtain ⟨Cv, Cw⟩ := a9 (hall 14 (by decide))
 obtain ⟨wq, Cx⟩ := be (hall 15 (by decide))
 obtain ⟨wu, Cy⟩ := au (hall 16 (by decide))
 refine Xd Z Z gz bp (Xi Xcm (Xb (wq bp) (Xb (wu bp) Xg)) Z (Gb (mAt ys i).t.lab ac _) ?_)
 rintro _ xl ⟨rfl, bd⟩
 have fb := low0 fa bd
 refine Xd Z Z gz bp (wpo_not (b' := !labelFlow (mAt ys i).t.lab ac) Z Z Z (Xd Z Z g7 bh (wpo_pickf (v := vb (!labelFlow (mAt ys i).t.lab ac)) gz bp Z Z (wpo_pickt (v := vb (!labelFlow (mAt ys i).t.lab ac)) g7 bh Z Z (wpo_nil (Xo (Xt Z (fun g8 => ?_) (fun g8 => ?_))))))))
 have Dg := Je g8
 refine Xr (wpo_move (v := .slice (pa ab) ae.length V) cz Z (wpo_move (v := vi (i : Int)) da Z (wpo_move (v := pt ap 0) ee Z ?_)))
 have m7 := (ag.grown0 bd)
 refine Xi Y7 (Xb Z (Xb Z Xg)) Z (Yj (p1 + 1) 30 (by omega) _ ap (bs.take 2000) _ _ _ m7 (by omega) (SlLt.low0 (SlLt.take hs 2000) fb) (by first | exact hb | exact fun b h => hb b (List.mem_of_mem_take h)) (by first | omega | (rw [List.length_take]; omega))) ?_
 rintro _ Eo ⟨fv, rfl, yn, yo, r3, cd⟩
 refine wpo_indexAddr (o' := i * 8) Qj Z Z (by omega) (by omega) (by omega) Z (wpo_fieldAddr (o' := i * 8 + 4) Q9 Z Z Z ?_)
 have m8 := (((hOx.gn aw).grown0 bd).gn cd)
 refine wpo_store1O (g := MTh.cells) (j := 4) (z := (mAt ys i)) (z' := (⟨⟨(mAt ys i).t.kind, (mAt ys i).t.lab, (mAt ys i).t.ve, fv, (mAt ys i).t.slots, (mAt ys i).t.queue, (mAt ys i).t.to⟩, (mAt ys i).sa, (mAt ys i).sc, (mAt ys i).qa, (mAt ys i).qc⟩ : MTh)) (v := vi fv) X1 Z Z Z Yf m8 (xg ys i) (by omega) Z Z ?_
 intro na ia ce
 have jt : RowsO 74 3 w.heap.size na (ys.set i (⟨⟨(mAt ys i).t.kind, (mAt ys i).t.lab, (mAt ys i).t.ve, fv, (mAt ys i).t.slots, (mAt ys i).t.queue, (mAt ys i).t.to⟩, (mAt ys i).sa, (mAt ys i).sc, (mAt ys i).qa, (mAt ys i).qc⟩ : MTh)) := RowsO.set (RowsO.own (RowsO.typB (RowsO.low (RowsO.typB hRO aw de (by decide) (by decide)) bd) cd m7 (by decide) (by decide)) ce m8 (by decide) (by decide)) (lq i ys.length) ⟨rfl, rfl, rfl⟩ ⟨rfl, rfl, rfl⟩
 refine wpo_nil (Xo (Xk (Yl (m := 13) (vals := [(51, .slice (pa ab) ae.length V), (52, vi (i : Int)), (53, pt ab (i * 8)), (54, pt ab (i * 8)), (55, vi (mAt ys i).t.kind), (56, vb (decide ((mAt ys i).t.kind = 4))), (57, vb (decide ((mAt ys i).t.kind = 4))), (58, undef), (59, undef), (60, undef), (61, undef), (62, undef), (63, undef)]) (fun w' => na.grownBy w' none) Yu (by kernel_rfl) (Xx _) ?_ ?_)))
 refine Xc Z (fun Ep pp => ?_) ?_
 exact wpo_move (v := .slice (pa ab) ae.length V) cz Z (wpo_nil ⟨Z, pp⟩)
 refine Xc Z (fun Er pq => ?_) ?_
 exact wpo_move (v := vi (i : Int)) da Z (wpo_nil ⟨Z, pq⟩)
 refine Xc Z (fun Es pu => ?_) ?_
 exact wpo_indexAddr (o' := i * 8) Qj Z Z (by omega) (by omega) (by omega) Z (wpo_nil ⟨Z, pu⟩)
 refine Xc Z (fun Et pw => ?_) ?_
 exact wpo_fieldAddr (o' := i * 8) X7 Z Z Z (wpo_nil ⟨Z, pw⟩)
 refine Xc Z (fun Eu iy => ?_) ?_
 exact wpo_load1 (v := vi (mAt ys i).t.kind) X1 Z ((Own.range Yf (ia.grown0 iy) (Me (xg ys i))) 0 _ Z) Z (wpo_nil ⟨Z, iy⟩)
 refine Xc Z (fun Ev px => ?_) ?_
 exact wpo_eql (q := decide ((mAt ys i).t.kind = 4)) Z Z Z Z (wpo_nil ⟨Z, px⟩)
 refine Xc Z (fun Ew py => ?_) ?_
 exact wpo_move (v := vb (decide ((mAt ys i).t.kind = 4))) Z Z (wpo_nil ⟨Z, py⟩)
 refine Xc Z (fun Ex p0 => ?_) ?_
 exact Xe Z Z Z af Z (wpo_nil ⟨Z, p0⟩)
 refine Xc Z (fun Ey p8 => ?_) ?_
 exact Xe Z Z Z af Z (wpo_nil ⟨Z, p8⟩)
 refine Xc Z (fun Ez p9 => ?_) ?_
 exact Xe Z Z Z af Z (wpo_nil ⟨Z, p9⟩)
 refine Xc Z (fun E0 qd => ?_) ?_
 exact Xe Z Z Z af Z (wpo_nil ⟨Z, qd⟩)
 refine Xc Z (fun E1 qe => ?_) ?_
 exact Xe Z Z Z af Z (wpo_nil ⟨Z, qe⟩)
 refine Xc Z (fun E2 qf => ?_) ?_
 exact Xe Z Z Z af Z (wpo_nil ⟨Z, qf⟩)
 exact Y2
 intro E3 bu
 refine Xe Z Z Z af Z (Xe Z Z Z af Z (wpo_pickf (v := vb false) Z af Z Z (wpo_nil (Xo (X5 Z Z (Xn (Y3 (Xo (Xr (wpo_move (v := vi (i : Int)) da Z (wpo_add (c := (i : Int) + 1) Z Z (by omega) (by omega) (by omega) Z (wpo_assign (v := vi ((i : Int) + 1)) Z Z ?_))))))))))))
 exact wpo_nil (Xo (⟨ai.length - (i + 1), by omega, (i + 1), (p1 + 1 + 1), (ys.set i (⟨⟨(mAt ys i).t.kind, (mAt ys i).t.lab, (mAt ys i).t.ve, fv, (mAt ys i).t.slots, (mAt ys i).t.queue, (mAt ys i).t.to⟩, (mAt ys i).sa, (mAt ys i).sc, (mAt ys i).qa, (mAt ys i).qc⟩ : MTh)), rfl, (by first | exact hyl | (simp only [List.length_set]; exact hyl)), (by first | omega | (simp only [List.length_set]; omega)), (by omega), (TabG.low (TabG.ge (TabG.lt (TabG.low (TabG.lt hGl aw (by omega)) bd) cd (by omega)) ce hTH (by omega)) bu), (nt (nt (nt (nt (nt hhs aw.size) bd.size) cd.size) ce.size) bu.size), (RowsO.low jt bu), (ia.grown0 bu), (by first | exact hTLy | exact Jh hTLy (by omega) rfl (.inl rfl) | exact Jh hTLy (by omega) rfl (.inr (by simp))), rfl, gt, gu, gv, ee, gw, gx, cz, (low0 (low1 (low1 fb cd (by omega)) ce (by omega)) bu), (((((dt.gn aw).grown0 bd).gn cd).gn ce).grown0 bu), (((((cn.gn aw).grown0 bd).gn cd).gn ce).grown0 bu), ((r3.gn ce).grown0 bu)⟩))
 have Dh := Qx g8
 refine Xn (Xo (Xk (Yl (m := 13) (vals := [(51, .slice (pa ab) ae.length V), (52, vi (i : Int)), (53, pt ab (i * 8)), (54, pt ab (i * 8)), (55, vi (mAt ys i).t.kind), (56, vb (decide ((mAt ys i).t.kind = 4))), (57, vb (decide ((mAt ys i).t.kind = 4))), (58, undef), (59, undef), (60, undef), (61, undef), (62, undef), (63, undef)]) (fun w' => xl.grownBy w' none) Yu (by kernel_rfl) (Xx _) ?_ ?_)))
 refine Xc Z (fun E4 qg => ?_) ?_
 exact wpo_move (v := .slice (pa ab) ae.length V) cz Z (wpo_nil ⟨Z, qg⟩)
 refine Xc Z (fun E5 qi => ?_) ?_
 exact wpo_move (v := vi (i : Int)) da Z (wpo_nil ⟨Z, qi⟩)
 refine Xc Z (fun E6 qj => ?_) ?_
 exact wpo_indexAddr (o' := i * 8) Qj Z Z (by omega) (by omega) (by omega) Z (wpo_nil ⟨Z, qj⟩)
 refine Xc Z (fun E7 qk => ?_) ?_
 exact wpo_fieldAddr (o' := i * 8) X7 Z Z Z (wpo_nil ⟨Z, qk⟩)
 refine Xc Z (fun E8 iz => ?_) ?_
 exact wpo_load1 (v := vi (mAt ys i).t.kind) X1 Z ((Own.range Yf (((hOx.gn aw).grown0 bd).grown0 iz) (xg ys i)) 0 _ Z) Z (wpo_nil ⟨Z, iz⟩)
 refine Xc Z (fun E9 qn => ?_) ?_
 exact wpo_eql (q := decide ((mAt ys i).t.kind = 4)) Z Z Z Z (wpo_nil ⟨Z, qn⟩)
 refine Xc Z (fun Fa qo => ?_) ?_
 exact wpo_move (v := vb (decide ((mAt ys i).t.kind = 4))) Z Z (wpo_nil ⟨Z, qo⟩)
 refine Xc Z (fun Fb qq => ?_) ?_
 exact Xe Z Z Z af Z (wpo_nil ⟨Z, qq⟩)
 refine Xc Z (fun Fc qr => ?_) ?_
 exact Xe Z Z Z af Z (wpo_nil ⟨Z, qr⟩)
 refine Xc Z (fun Fd qw => ?_) ?_
 exact Xe Z Z Z af Z (wpo_nil ⟨Z, qw⟩)
 refine Xc Z (fun Fe qx => ?_) ?_
 exact Xe Z Z Z af Z (wpo_nil ⟨Z, qx⟩)
 refine Xc Z (fun Ff qy => ?_) ?_
 exact Xe Z Z Z af Z (wpo_nil ⟨Z, qy⟩)
 refine Xc Z (fun Fg qz => ?_) ?_
 exact Xe Z Z Z af Z (wpo_nil ⟨Z, qz⟩)
 exact Y2
 intro Fh bv
 refine Xe Z Z Z af Z (Xe Z Z Z af Z (wpo_pickf (v := vb false) Z af Z Z (wpo_nil (Xo (X5 Z Z (Xn (Y3 (Xo (Xr (wpo_move (v := vi (i : Int)) da Z (wpo_add (c := (i : Int) + 1) Z Z (by omega) (by omega) (by omega) Z (wpo_assign (v := vi ((i : Int) + 1)) Z Z ?_))))))))))))
 exact wpo_nil (Xo (⟨ai.length - (i + 1), by omega, (i + 1), (p1 + 1), ys, rfl, (by first | exact hyl | (simp only [List.length_set]; exact hyl)), (by first | omega | (simp only [List.length_set]; omega)), (by omega), (TabG.low (TabG.low (TabG.lt hGl aw (by omega)) bd) bv), (nt (nt (nt hhs aw.size) bd.size) bv.size), (RowsO.low (RowsO.low (RowsO.typB hRO aw de (by decide) (by decide)) bd) bv), (((hOx.gn aw).grown0 bd).grown0 bv), (by first | exact hTLy | exact Jh hTLy (by omega) rfl (.inl rfl) | exact Jh hTLy (by omega) rfl (.inr (by simp))), rfl, gt, gu, gv, ee, gw, gx, cz, (low0 fb bv), (((dt.gn aw).grown0 bd).grown0 bv), (((cn.gn aw).grown0 bd).grown0 bv), ((ag.grown0 bd).grown0 bv)⟩))
 have Di := of_decide_eq_false bh
 refine Yl (m := 17) (vals := [(24, .slice (pa ab) ae.length V), (25, vi (i : Int)), (26, pt ab (i * 8)), (27, pt ab (i * 8)), (28, vi (mAt ys i).t.kind), (29, vb (decide ((mAt ys i).t.kind = 1))), (30, vb (decide ((mAt ys i).t.kind = 1))), (31, undef), (32, undef), (33, undef), (34, undef), (35, undef), (36, undef), (37, undef), (38, undef), (39, undef), (40, undef)]) (fun w' => jh.grownBy w' none) Yu (by kernel_rfl) (Xx _) ?_ ?_
 refine Xc Z (fun Fi q1 => ?_) ?_
 exact wpo_move (v := .slice (pa ab) ae.length V) bz Z (wpo_nil ⟨Z, q1⟩)
 refine Xc Z (fun Fj q2 => ?_) ?_
 exact wpo_move (v := vi (i : Int)) cy Z (wpo_nil ⟨Z, q2⟩)
 refine Xc Z (fun Fk q3 => ?_) ?_
 exact wpo_indexAddr (o' := i * 8) Qj Z Z (by omega) (by omega) (by omega) Z (wpo_nil ⟨Z, q3⟩)
 refine Xc Z (fun Fl q4 => ?_) ?_
 exact wpo_fieldAddr (o' := i * 8) X7 Z Z Z (wpo_nil ⟨Z, q4⟩)
 refine Xc Z (fun Fm i0 => ?_) ?_
 exact wpo_load1 (v := vi (mAt ys i).t.kind) X1 Z ((Own.range Yf (hOx.grown0 i0) (xg ys i)) 0 _ Z) Z (wpo_nil ⟨Z, i0⟩)
 refine Xc Z (fun Fo q5 => ?_) ?_
 exact wpo_eql (q := decide ((mAt ys i).t.kind = 1)) Z Z Z Z (wpo_nil ⟨Z, q5⟩)
 refine Xc Z (fun Fp q6 => ?_) ?_
 exact wpo_move (v := vb (decide ((mAt ys i).t.kind = 1))) Z Z (wpo_nil ⟨Z, q6⟩)
 refine Xc Z (fun Fq q7 => ?_) ?_
 exact Xe Z Z Z bh Z (wpo_nil ⟨Z, q7⟩)
 refine Xc Z (fun Fs q8 => ?_) ?_
 exact Xe Z Z Z bh Z (wpo_nil ⟨Z, q8⟩)
 refine Xc Z (fun Ft q9 => ?_) ?_
 exact Xe Z Z Z bh Z (wpo_nil ⟨Z, q9⟩)
 refine Xc Z (fun Fu ra => ?_) ?_
 exact Xe Z Z Z bh Z (wpo_nil ⟨Z, ra⟩)
 refine Xc Z (fun Fv rf => ?_) ?_
 exact X2 Z Z Z Z (wpo_nil ⟨Z, rf⟩)
 refine Xc Z (fun Fw rg => ?_) ?_
 exact X2 Z Z Z Z (wpo_nil ⟨Z, rg⟩)
 refine Xc Z (fun Fx rh => ?_) ?_
 exact X2 Z Z Z Z (wpo_nil ⟨Z, rh⟩)
 refine Xc Z (fun Fy ri => ?_) ?_
 exact X2 Z Z Z Z (wpo_nil ⟨Z, ri⟩)
 refine Xc Z (fun Fz rj => ?_) ?_
 exact X2 Z Z Z Z (wpo_nil ⟨Z, rj⟩)
 refine Xc Z (fun F1 rk => ?_) ?_
 exact X2 Z Z Z Z (wpo_nil ⟨Z, rk⟩)
 exact Y2
 intro ji az
 refine X2 Z Z Z Z (X2 Z Z Z Z (Xe Z Z Z bh Z (wpo_pickf (v := vb false) Z bh Z Z (wpo_nil (Xo (X5 Z Z (Xn (Xo (Km (fun f' w' => (f' 2 = .slice none 0 0 ∧ f' 3 = .slice none 0 0 ∧ f' 4 = pt d8 0 ∧ f' 5 = pt ap 0 ∧ f' 6 = .slice (pa bi) ai.length ao ∧ f' 7 = pt dv 0 ∧ f' 8 = .slice (pa ab) ae.length V ∧ f' 9 = vi (i : Int) ∧ f' 66 = vb ((decide ((mAt ys i).t.kind = 4)) && (!labelFlow (mAt ys i).t.lab ac))) ∧ ji.grownBy w' none) ?_ ?_)))))))))
 rcases Xz (decide ((mAt ys i).t.kind = 4)) with bc | bc
 have Dj := of_decide_eq_true bc
 refine Yl (m := 13) (vals := [(51, .slice (pa ab) ae.length V), (52, vi (i : Int)), (53, pt ab (i * 8)), (54, pt ab (i * 8)), (55, vi (mAt ys i).t.kind), (56, vb (decide ((mAt ys i).t.kind = 4))), (57, vb (decide ((mAt ys i).t.kind = 4))), (58, .slice (pa ab) ae.length V), (59, vi (i : Int)), (60, pt ab (i * 8)), (61, pt ab (i * 8 + 1)), (62, .agg #[vi (mAt ys i).t.lab.s, vi (mAt ys i).t.lab.v]), (63, .agg #[vi ac.s, vi ac.v])]) (fun w' => ji.grownBy w' none) Yu (by kernel_rfl) (Xx _) ?_ ?_
 refine Xc Z (fun F2 rl => ?_) ?_
 exact wpo_move (v := .slice (pa ab) ae.length V) bz Z (wpo_nil ⟨Z, rl⟩)
 refine Xc Z (fun F3 rm => ?_) ?_
 exact wpo_move (v := vi (i : Int)) cy Z (wpo_nil ⟨Z, rm⟩)
 refine Xc Z (fun F4 rn => ?_) ?_
 exact wpo_indexAddr (o' := i * 8) Qj Z Z (by omega) (by omega) (by omega) Z (wpo_nil ⟨Z, rn⟩)
 refine Xc Z (fun F5 rp => ?_) ?_
 exact wpo_fieldAddr (o' := i * 8) X7 Z Z Z (wpo_nil ⟨Z, rp⟩)
 refine Xc Z (fun F6 i1 => ?_) ?_
 exact wpo_load1 (v := vi (mAt ys i).t.kind) X1 Z ((Own.range Yf ((hOx.grown0 az).grown0 i1) (xg ys i)) 0 _ Z) Z (wpo_nil ⟨Z, i1⟩)
 refine Xc Z (fun F7 rq => ?_) ?_
 exact wpo_eql (q := decide ((mAt ys i).t.kind = 4)) Z Z Z Z (wpo_nil ⟨Z, rq⟩)
 refine Xc Z (fun F8 rr => ?_) ?_
 exact wpo_move (v := vb (decide ((mAt ys i).t.kind = 4))) Z Z (wpo_nil ⟨Z, rr⟩)
 refine Xc Z (fun y6 jz => ?_) ?_
 exact Xd Z Z Z bc (wpo_move (v := .slice (pa ab) ae.length V) bz Z (wpo_nil ⟨Z, jz⟩))
 refine Xc Z (fun y7 j1 => ?_) ?_
 exact Xd Z Z Z bc (wpo_move (v := vi (i : Int)) cy Z (wpo_nil ⟨Z, j1⟩))
 refine Xc Z (fun y8 j2 => ?_) ?_
 exact Xd Z Z Z bc (wpo_indexAddr (o' := i * 8) Qj Z Z (by omega) (by omega) (by omega) Z (wpo_nil ⟨Z, j2⟩))
 refine Xc Z (fun y9 j3 => ?_) ?_
 exact Xd Z Z Z bc (wpo_fieldAddr (o' := i * 8 + 1) Ke Z Z Z (wpo_nil ⟨Z, j3⟩))
 refine Xc Z (fun za fk => ?_) ?_
 exact Xd Z Z Z bc (wpo_loadn (vs := [vi (mAt ys i).t.lab.s, vi (mAt ys i).t.lab.v]) Yd Z Z (Qh (Own.range Yf ((hOx.grown0 az).grown0 fk) (xg ys i)) 1 2 Z) Z (wpo_nil ⟨Z, fk⟩))
 refine Xc Z (fun zb fm => ?_) ?_
 exact Xd Z Z Z bc (wpo_loadn (vs := [vi ac.s, vi ac.v]) Yd dx Z (((cn.grown0 az).grown0 fm).rangeL 0 2 Z) Z (wpo_nil ⟨Z, fm⟩))
 exact Y2
 intro zc j4
 refine Xd Z Z Z bc (Xi Xcm (Xb Z (Xb Z Xg)) Z (Gb (mAt ys i).t.lab ac _) ?_)
 rintro _ zd ⟨rfl, jw⟩
 exact Xd Z Z Z bc (wpo_not (b' := !labelFlow (mAt ys i).t.lab ac) Z Z Z (wpo_pickt (v := vb (!labelFlow (mAt ys i).t.lab ac)) Z bc Z Z (wpo_nil (Xo ⟨⟨gl, gm, dw, ea, ed, dx, bz, cy, (cB (by simp [ef, bh, bc]))⟩, (Xh j4 jw)⟩))))
 have yd := of_decide_eq_false bc
 refine Yl (m := 13) (vals := [(51, .slice (pa ab) ae.length V), (52, vi (i : Int)), (53, pt ab (i * 8)), (54, pt ab (i * 8)), (55, vi (mAt ys i).t.kind), (56, vb (decide ((mAt ys i).t.kind = 4))), (57, vb (decide ((mAt ys i).t.kind = 4))), (58, undef), (59, undef), (60, undef), (61, undef), (62, undef), (63, undef)]) (fun w' => ji.grownBy w' none) Yu (by kernel_rfl) (Xx _) ?_ ?_
 refine Xc Z (fun ze j5 => ?_) ?_
 exact wpo_move (v := .slice (pa ab) ae.length V) bz Z (wpo_nil ⟨Z, j5⟩)
 refine Xc Z (fun zf j6 => ?_) ?_
 exact wpo_move (v := vi (i : Int)) cy Z (wpo_nil ⟨Z, j6⟩)
 refine Xc Z (fun zg j7 => ?_) ?_
 exact wpo_indexAddr (o' := i * 8) Qj Z Z (by omega) (by omega) (by omega) Z (wpo_nil ⟨Z, j7⟩)
 refine Xc Z (fun zh j8 => ?_) ?_
 exact wpo_fieldAddr (o' := i * 8) X7 Z Z Z (wpo_nil ⟨Z, j8⟩)
 refine Xc Z (fun zi fp => ?_) ?_
 exact wpo_load1 (v := vi (mAt ys i).t.kind) X1 Z ((Own.range Yf ((hOx.grown0 az).grown0 fp) (xg ys i)) 0 _ Z) Z (wpo_nil ⟨Z, fp⟩)
 refine Xc Z (fun zj j9 => ?_) ?_
 exact wpo_eql (q := decide ((mAt ys i).t.kind = 4)) Z Z Z Z (wpo_nil ⟨Z, j9⟩)
 refine Xc Z (fun zk ka => ?_) ?_
 exact wpo_move (v := vb (decide ((mAt ys i).t.kind = 4))) Z Z (wpo_nil ⟨Z, ka⟩)
 refine Xc Z (fun zl kb => ?_) ?_
 exact Xe Z Z Z bc Z (wpo_nil ⟨Z, kb⟩)
 refine Xc Z (fun zm kc => ?_) ?_
 exact Xe Z Z Z bc Z (wpo_nil ⟨Z, kc⟩)
 refine Xc Z (fun zn ke => ?_) ?_
 exact Xe Z Z Z bc Z (wpo_nil ⟨Z, ke⟩)
 refine Xc Z (fun zo kf => ?_) ?_
 exact Xe Z Z Z bc Z (wpo_nil ⟨Z, kf⟩)
 refine Xc Z (fun zp kg => ?_) ?_
 exact Xe Z Z Z bc Z (wpo_nil ⟨Z, kg⟩)
 refine Xc Z (fun zq kh => ?_) ?_
 exact Xe Z Z Z bc Z (wpo_nil ⟨Z, kh⟩)
 exact Y2
 intro zr ki
 exact Xe Z Z Z bc Z (Xe Z Z Z bc Z (wpo_pickf (v := vb false) Z bc Z Z (wpo_nil (Xo ⟨⟨gl, gm, dw, ea, ed, dx, bz, cy, (cB (by simp [ef, bh, bc]))⟩, ki⟩))))
 rintro yc zt ⟨⟨f8, f9, gb, ej, gc, gf, eu, ew, nb⟩, av⟩
 have d5 := low0 (low0 dq az) av
 refine Xt nb (fun ex => ?_) (fun ex => ?_)
 have ow := Oo ex
 have ye := of_decide_eq_true ow
 have ox := Oq ex
 have yf := Je ox
 refine Xr (wpo_move (v := .slice (pa ab) ae.length V) eu Z (wpo_move (v := vi (i : Int)) ew Z (wpo_move (v := pt ap 0) ej Z ?_)))
 have i3 := ((de.grown0 az).grown0 av)
 refine Xi Y7 (Xb Z (Xb Z Xg)) Z (Yj p1 9 (by omega) _ ap (bs.take 2000) _ _ _ i3 (by omega) (SlLt.low0 (SlLt.take hs 2000) d5) (by first | exact hb | exact fun b h => hb b (List.mem_of_mem_take h)) (by first | omega | (rw [List.length_take]; omega))) ?_
 rintro _ zu ⟨dr, rfl, xo, xp, fw, bm⟩
 have fi := low1 d5 bm (by omega)
 refine wpo_buildSlice (ps := [(0, vi dr)]) (e := 3) (cs := (([dr] : List Int).flatMap icell).toArray) (Xp Z Xw) (fun _ => by kernel_rfl) Z ?_
 intro dk zv a8
 have i2 := Xy a8 fi
 have r7 : hi ≤ dk := nt (nt (nt (nt hhs az.size) av.size) bm.size) a8.ge
 have i4 := (((dt.grown0 az).grown0 av).gn bm)
 have jc := Xs a8 (i4).lt
 have i5 := (((cn.grown0 az).grown0 av).gn bm)
 have jd := Xs a8 (i5).lt
 have jf := Xs a8 (fw).lt
 have i6 := (((hOx.grown0 az).grown0 av).gn bm)
 have je := Xs a8 (i6).lt
 refine wpo_indexAddr (o' := i * 8) Qj Z Z (by omega) (by omega) (by omega) Z (wpo_fieldAddr (o' := i * 8 + 6) Q2 Z Z Z ?_)
 have i7 := (i6.grown0 a8.grw)
 refine wpo_store1O (g := MTh.cells) (j := 6) (z := (mAt ys i)) (z' := (⟨⟨(mAt ys i).t.kind, (mAt ys i).t.lab, (mAt ys i).t.ve, (mAt ys i).t.num, (mAt ys i).t.slots, ([dr] : List Int), (mAt ys i).t.to⟩, (mAt ys i).sa, (mAt ys i).sc, some ⟨dk, 0, none⟩, 1⟩ : MTh)) (v := .slice (pa dk) 1 1) Kc Z Z Z Yf i7 (xg ys i) (by omega) Z Z ?_
 intro r5 jq bn
 have ib : RowsO 74 3 w.heap.size r5 (ys.set i (⟨⟨(mAt ys i).t.kind, (mAt ys i).t.lab, (mAt ys i).t.ve, (mAt ys i).t.num, (mAt ys i).t.slots, ([dr] : List Int), (mAt ys i).t.to⟩, (mAt ys i).sa, (mAt ys i).sc, some ⟨dk, 0, none⟩, 1⟩ : MTh)) := RowsO.setq (RowsO.own (RowsO.low (RowsO.typB (RowsO.low (RowsO.low hRO az) av) bm i3 (by decide) (by decide)) a8.grw) bn i7 (by decide) (by decide)) (lq i ys.length) (OwnN.mono (OwnN.of (Own.rows Ye (a8.blk.gn bn) (by simp)) i2) (Nat.le_refl _)) ⟨rfl, rfl, rfl⟩
 exact wpo_nil (Y3 (Xo (Xr (wpo_move (v := vi (i : Int)) ew Z (wpo_add (c := (i : Int) + 1) Z Z (by omega) (by omega) (by omega) Z (wpo_assign (v := vi ((i : Int) + 1)) Z Z (wpo_nil (Xo (⟨ai.length - (i + 1), by omega, (i + 1), (p1 + 1), (ys.set i (⟨⟨(mAt ys i).t.kind, (mAt ys i).t.lab, (mAt ys i).t.ve, (mAt ys i).t.num, (mAt ys i).t.slots, ([dr] : List Int), (mAt ys i).t.to⟩, (mAt ys i).sa, (mAt ys i).sc, some ⟨dk, 0, none⟩, 1⟩ : MTh)), rfl, (by first | exact hyl | (simp only [List.length_set]; exact hyl)), (by first | omega | (simp only [List.length_set]; omega)), (by omega), (TabG.ge (TabG.low (TabG.lt (TabG.low (TabG.low hGl az) av) bm (by omega)) a8.grw) bn hTH (by omega)), (nt (nt (nt (nt (nt hhs az.size) av.size) bm.size) a8.grw.size) bn.size), ib, jq, (by first | exact hTLy | exact Jh hTLy (by omega) rfl (.inl rfl) | exact Jh hTLy (by omega) rfl (.inr (by simp))), rfl, f8, f9, gb, ej, gc, gf, eu, (low1 (low0 fi a8.grw) bn (by omega)), ((i4.grown0 a8.grw).gn bn), ((i5.grown0 a8.grw).gn bn), ((fw.grown0 a8.grw).gn bn)⟩)))))))))
 exact Xn (Y3 (Xo (Xr (wpo_move (v := vi (i : Int)) ew Z (wpo_add (c := (i : Int) + 1) Z Z (by omega) (by omega) (by omega) Z (wpo_assign (v := vi ((i : Int) + 1)) Z Z (wpo_nil (Xo (⟨ai.length - (i + 1), by omega, (i + 1), p1, ys, rfl, (by first | exact hyl | (simp only [List.length_set]; exact hyl)), (by first | omega | (simp only [List.length_set]; omega)), (by omega), (TabG.low (TabG.low hGl az) av), (nt (nt hhs az.size) av.size), (RowsO.low (RowsO.low hRO az) av), ((hOx.grown0 az).grown0 av), (by first | exact hTLy | exact Jh hTLy (by omega) rfl (.inl rfl) | exact Jh hTLy (by omega) rfl (.inr (by simp))), rfl, f8, f9, gb, ej, gc, gf, eu, d5, ((dt.grown0 az).grown0 av), ((cn.grown0 az).grown0 av), ((de.grown0 az).grown0 av)⟩)))))))))
 have yg := of_decide_eq_false ef
 refine Yo (Yx (Yx (Jm (Xo (Xk (Xa (wpo_move (v := pt ap 0) ea Z (Xi Y7 (Xb Z (Xb Z Xg)) Z (Yj p1 8 (by omega) _ ap (bs.take 2000) _ _ _ de (by omega) (SlLt.low0 (SlLt.take hs 2000) dq) (by first | exact hb | exact fun b h => hb b (List.mem_of_mem_take h)) (by first | omega | (rw [List.length_take]; omega))) ?_))))))))
 rintro _ du ⟨ry, rfl, xq, xu, fx, bj⟩
 have d6 := low1 dq bj (by omega)
 refine wpo_eql (q := decide (ry = 0)) Z Z Z Z (wpo_nil (Xt Z (fun ey => ?_) (fun ey => ?_)))
 have yh := of_decide_eq_true ey
 refine Xk ?_
 have x5 : hi ≤ du.heap.size := (nt hhs bj.size)
 have fe := (dt.gn bj)
 have w8 := (fe).lt
 have ff := (cn.gn bj)
 have w9 := (ff).lt
 have xa := (fx).lt
 have i8 := (hOx.gn bj)
 have xb := (i8).lt
 refine Q8 (m := 6) [[], [], [1], [], [0, 1, 2], [0, 1, 2, 4], [0, 1, 2, 3, 4, 5]] (fun S F w' => ∃ (ba : Nat) (am : Nat) (aj : List MTh) (bk : Int), du.grownBy w' (some ap) ∧ F 4 = pt d8 0 ∧ F 5 = pt ap 0 ∧ F 6 = .slice (pa bi) ai.length ao ∧ F 7 = pt dv 0 ∧ F 8 = .slice (pa ab) ae.length V ∧ (S 2 = false → Blk w' ap 97 #[.slice a (bs.take 2000).length c, vi (p1 + 1)]) ∧ (S 2 = true → F 79 = .slice (pa ba) aj.length am ∧ Small aj ∧ (3 ≤ aj.length ∧ aj.length ≤ 8) ∧ TabG du.heap.size w' (pa ba) aj ∧ Blk w' ap 97 #[.slice a (bs.take 2000).length c, vi bk]) ∧ (S 5 = true → F 3 = .slice (pa ba) aj.length am) ∧ Vals S F [(0, 77, .slice (pa bi) ai.length ao), (1, 78, pt ap 0), (3, 80, .agg #[vi ac.s, vi ac.v]), (4, 2, .slice (pa bi) ai.length ao)]) Yu (by kernel_rfl) ⟨0, 0, [], 0, Xx _, dw, ea, ed, dx, bz, fun _ => (fx).grown0 (Xx _), X4, X4, Kn _⟩ ?_ ?_
 refine Xl (fun S F zw hS hbef hcl hI => ?_) ?_
 obtain ⟨ba, am, aj, bk, kl, nc, nd, gg, nf, ng, E, co, d9, hvs⟩ := hI
 exact wpo_move (v := .slice (pa bi) ai.length ao) gg Z (wpo_nil ⟨ba, am, aj, bk, kl, nc, nd, gg, nf, ng, fun h => E h, co, Xj 5 hS hcl Z, Vals.up 0 hvs Z Z Z⟩)
 refine Xl (fun S F zx hS hbef hcl hI => ?_) ?_
 obtain ⟨ba, am, aj, bk, km, nh, gh, ni, nj, nk, E, co, d9, hvs⟩ := hI
 exact wpo_move (v := pt ap 0) gh Z (wpo_nil ⟨ba, am, aj, bk, km, nh, gh, ni, nj, nk, fun h => E h, Xj 2 hS hcl Z, Xj 5 hS hcl Z, Vals.up 1 hvs Z Z Z⟩)
 refine Xl (fun S F zy hS hbef hcl hI => ?_) ?_
 obtain ⟨ba, am, aj, bk, bw, np, nq, nu, nw, nx, E, co, d9, hvs⟩ := hI
 have xc := ((fe.gn bw)).lt
 have xd := ((ff.gn bw)).lt
 have xe := ((i8.gn bw)).lt
 have xf := ((E hS)).lt
 refine Xi Xcg (Xb (Vals.at 1 hvs Z (Xf 1 hbef Z)) Xg) Z (L5 (p1 + 1) (by omega) _ ap (bs.take 2000) _ _ _ (E hS) (by omega) (SlLt.low0 (SlLt.take hs 2000) (low1 d6 bw (by omega))) (by first | exact hb | exact fun b h => hb b (List.mem_of_mem_take h)) (by first | omega | (rw [List.length_take]; omega))) ?_
 rintro _ r6 ⟨fz, f7, fy, r4, rfl, ic, eh, ii, x3, x4, kv, jy⟩
 have ie : TabG du.heap.size r6 (pa fz) fy := TabG.mono ic bw.size
 have wv := eh.len
 exact wpo_nil ⟨fz, f7, fy, r4, (Xh bw jy), np, nq, nu, nw, nx, fun h => Yi h, fun _ => ⟨Z, eh, ii, ie, kv⟩, Xj 5 hS hcl Z, Vals.keep hvs Z⟩
 refine Xl (fun S F zz hS hbef hcl hI => ?_) ?_
 obtain ⟨ba, am, aj, bk, fq, ny, nz, n5, gi, n7, E, co, d9, hvs⟩ := hI
 exact wpo_loadn (vs := [vi ac.s, vi ac.v]) Yd gi Z ((ff.gn fq).rangeL 0 2 Z) Z (wpo_nil ⟨ba, am, aj, bk, fq, ny, nz, n5, gi, n7, fun h => E h, co, d9, Vals.up 2 hvs Z Z Z⟩)
 refine Xl (fun S F z0 hS hbef hcl hI => ?_) ?_
 obtain ⟨ba, am, aj, bk, ko, n8, n9, oa, oc, oe, E, co, d9, hvs⟩ := hI
 obtain ⟨x6, br, ei, dp, dz⟩ := co (Xf 2 hbef rfl)
 have ww := br.len
 exact wpo_assign (v := .slice (pa bi) ai.length ao) (Vals.at 0 hvs Z (Xf 0 hbef Z)) Z (wpo_nil ⟨ba, am, aj, bk, ko, n8, n9, oa, oc, oe, fun hn => Yi ((Xf 2 hbef Z).symm.trans hn), co, Xj 5 hS hcl Z, Vals.up 3 hvs Z Z Z⟩)
 refine Xl (fun S F z2 hS hbef hcl hI => ?_) ?_
 obtain ⟨ba, am, aj, bk, kp, oh, ol, om, oq, ot, E, co, d9, hvs⟩ := hI
 obtain ⟨ou, br, ei, dp, dz⟩ := co (Xf 2 hbef rfl)
 have wx := br.len
 exact wpo_assign (v := .slice (pa ba) aj.length am) ou Z (wpo_nil ⟨ba, am, aj, bk, kp, oh, ol, om, oq, ot, fun hn => Yi ((Xf 2 hbef Z).symm.trans hn), co, fun _ => Z, Vals.keep hvs Z⟩)
 exact Jp
 intro S F z3 hall hI
 obtain ⟨ba, am, aj, bk, d7, gj, x7, x8, x9, ya, E, co, d9, hvs⟩ := hI
 obtain ⟨yb, br, ei, dp, dz⟩ := co (hall 2 (by decide))
 have ig := br.len
 obtain ov := d9 (hall 5 (by decide))
 refine wpo_storen (vs := [vi ac.s, vi ac.v]) (cs' := #[vi ac.s, vi ac.v]) Yd gj (Vals.at 2 hvs Z (hall 3 (by decide))) Z (by simp [Value.oneCell']) (fe.gn d7) (Nat.le_of_ble_eq_true Z) Z ?_
 intro z6 dh
 exact wpo_nil (Xo (Xm (Ya (⟨.tuple #[.slice (pa bi) ai.length ao, .slice (pa ba) aj.length am, .agg #[vi ac.s, vi ac.v]], resTTC Z (Vals.at 3 hvs Z (hall 4 (by decide))) ov (resCell_mk (vs := [vi ac.s, vi ac.v]) Yd gj Z (dh.blk.rangeL 0 2 Z)), ai, aj, (pa bi), (pa ba), ao, am, ac, Z, (TabG.at (TabG.lt (TabG.lt (TabG.lt hGl bj (by omega)) d7 (by omega)) dh.grw (by omega))), (TabG.at (TabG.lt dp dh.grw (by omega))), di, ig, by omega, by omega, (low1 (low1 d6 d7 (by omega)) dh.grw (by omega))⟩))))
 have yi := of_decide_eq_false ey
 refine Xn (Xo (Xk (Yl (m := 5) (vals := [(81, .slice (pa bi) ai.length ao), (82, .slice (pa ab) ae.length V), (83, .agg #[vi ac.s, vi ac.v]), (2, .slice (pa bi) ai.length ao), (3, .slice (pa ab) ae.length V)]) (fun w' => du.grownBy w' none) Yu (by kernel_rfl) (Xx _) ?_ ?_)))
 refine Xc Z (fun z7 kq => ?_) ?_
 exact wpo_move (v := .slice (pa bi) ai.length ao) ed Z (wpo_nil ⟨Z, kq⟩)
 refine Xc Z (fun z8 kr => ?_) ?_
 exact wpo_move (v := .slice (pa ab) ae.length V) bz Z (wpo_nil ⟨Z, kr⟩)
 refine Xc Z (fun z9 ft => ?_) ?_
 exact wpo_loadn (vs := [vi ac.s, vi ac.v]) Yd dx Z (((cn.gn bj).grown0 ft).rangeL 0 2 Z) Z (wpo_nil ⟨Z, ft⟩)
 refine Xc Z (fun Aa ks => ?_) ?_
 exact wpo_assign (v := .slice (pa bi) ai.length ao) Z Z (wpo_nil ⟨Z, ks⟩)
 refine Xc Z (fun Ab kt => ?_) ?_
 exact wpo_assign (v := .slice (pa ab) ae.length V) Z Z (wpo_nil ⟨Z, kt⟩)
 exact Y2
 intro Ac cm
 have i9 := ((dt.gn bj).grown0 cm)
 refine wpo_storen (vs := [vi ac.s, vi ac.v]) (cs' := #[vi ac.s, vi ac.v]) Yd dw Z Z (by simp [Value.oneCell']) i9 (Nat.le_of_ble_eq_true Z) Z ?_
 intro Ad cj
 exact wpo_nil (Xo (Xm (⟨.tuple #[.slice (pa bi) ai.length ao, .slice (pa ab) ae.length V, .agg #[vi ac.s, vi ac.v]], resTTC Z Z Z (resCell_mk (vs := [vi ac.s, vi ac.v]) Yd dw Z (cj.blk.rangeL 0 2 Z)), ai, ys, (pa bi), (pa ab), ao, V, ac, (by rw [show ys.length = ae.length by omega]), (TabG.at (TabG.lt (TabG.low (TabG.lt hGl bj (by omega)) cm) cj.grw (by omega))), (RowsO.tab (RowsO.typB (RowsO.low (RowsO.typB hRO bj de (by decide) (by decide)) cm) cj.grw i9 (by decide) (by decide)) (((hOx.gn bj).grown0 cm).gn cj.grw)), di, hTLy, by omega, by omega, (low1 (low0 d6 cm) cj.grw (by omega))⟩)))
end Go.Dw.J
end
section
namespace Go.Dw.J
open Go.RowKit Go.Dw Go.Proofs
set_option linter.unusedSectionVars false
set_option linter.unusedSimpArgs false
set_option linter.unusedVariables false
theorem Hd {P : Program} (a : Addr) (l c : Nat) : Quiet P (Conv.bytesToString (.slice (some a) l c)) := by
  unfold Conv.bytesToString
  refine qb (Ym _ _) fun cs => qb (Ga (fun v b => ?_) _ _) fun _ => qp _
  split
  · exact qp _
  · exact qb (Qc _) fun _ => qp _
theorem R1 {P : Program} {s t e : TypeId} {a : Addr} {l c : Nat} (hs : P.underlying s = some (.slice e)) (he : P.underlying e = some (.int .u8)) (ht : P.underlying t = some .string) : Quiet P (convert s t (.slice (some a) l c)) := by
  unfold convert
  refine qby (X3 _) (Jd hs) fun u hu => qby (X3 _) (Jd ht) fun u2 hu2 => ?_
  subst hu
  subst hu2
  refine qby (X3 _) (Jd he) fun u3 hu3 => ?_
  subst hu3
  exact Hd _ _ _
def LoadsAs (w : World) (b len : Nat) (ns : List Int) : Prop := ∃ (T : TypeId) (cs : Array Value), Blk w b T cs ∧ cs = (ns.map (Value.int .u8)).toArray ∧ ns.length = len
theorem load_blk {w : World} {b T len : Nat} {cs : Array Value} {ns : List Int} (h : Blk w b T cs) (hn : cs = (ns.map (Value.int .u8)).toArray) (hl : ns.length = len) : LoadsAs w b len ns := ⟨T, cs, h, hn, hl⟩
section
variable [Comp] {P : Program} {n : Nat} {ops : Array Oper} {K : Fr → World → Prop} {l : List Oper} {f : Fr} {w w' : World} {d : Nat} {ty : TypeId} {pos : String} {aft : Array Edge}
theorem wpo_bstr {s t e : TypeId} {x : Operand} {b len cap : Nat} {ns : List Int} (hx : ev f x = .slice (some ⟨b, 0, none⟩) len cap) (hs : P.underlying s = some (.slice e)) (he : P.underlying e = some (.int .u8)) (ht : P.underlying t = some .string)
    (hr : LoadsAs w b len ns) (hd : Nat.blt d n = true) (h : WpO P n ops K l (up f d (.string ⟨(ub ns).toArray⟩)) w) :
    WpO P n ops K (⟨some d, .convert s t x, ty, pos, aft, none⟩ :: l) f w :=
  jop rfl (by simp only [execOp, hx]; exact qv (R1 hs he ht)) (Yk _) fun A1 hE => Go.Dw.wpo_bstr hx hs he ht (let ⟨_, _, hb, hn, hl⟩ := hr; Go.Dw.load_blk (hE.blk hb) hn hl) hd (Go.Dw.wpo_nil (keep hE h))
end
end Go.Dw.J
end
section
namespace Go.Dw.J
open Go.RowKit Go.Dw Go.Proofs
set_option linter.unusedSectionVars false
set_option linter.unusedSimpArgs false
set_option linter.unusedVariables false
theorem S2 {c : UInt8} : ∀ {a b x y : List UInt8}, c ∉ a → c ∉ b → a ++ c :: x = b ++ c :: y → a = b ∧ x = y
  | [], [], x, y, _, _, h => ⟨rfl, by simpa using h⟩
  | [], d :: b, x, y, _, hb, h => by
    simp only [List.nil_append, List.cons_append, List.cons.injEq] at h
    exact absurd (h.1 ▸ List.mem_cons_self) hb
  | d :: a, [], x, y, ha, _, h => by
    simp only [List.nil_append, List.cons_append, List.cons.injEq] at h
    exact absurd (h.1 ▸ List.mem_cons_self) ha
  | d :: a, e :: b, x, y, ha, hb, h => by
    simp only [List.cons_append, List.cons.injEq] at h
    obtain ⟨rfl, h⟩ := h
    obtain ⟨rfl, rfl⟩ := S2 (fun hm => ha (List.mem_cons_of_mem _ hm)) (fun hm => hb (List.mem_cons_of_mem _ hm)) h
    exact ⟨rfl, rfl⟩
theorem L6 : ∀ {xs ys : List (List UInt8)}, (∀ x ∈ xs, (10 : UInt8) ∉ x) → (∀ y ∈ ys, (10 : UInt8) ∉ y) → xs.flatMap (· ++ [10]) = ys.flatMap (· ++ [10]) → xs = ys
  | [], [], _, _, _ => rfl
  | [], y :: ys, _, _, h => by simp at h
  | x :: xs, [], _, _, h => by simp at h
  | x :: xs, y :: ys, hx, hy, h => by
    simp only [List.flatMap_cons, List.append_assoc, List.cons_append, List.nil_append] at h
    obtain ⟨rfl, h2⟩ := S2 (hx x List.mem_cons_self) (hy y List.mem_cons_self) h
    rw [L6 (fun z hz => hx z (List.mem_cons_of_mem _ hz)) (fun z hz => hy z (List.mem_cons_of_mem _ hz)) h2]
theorem H7 (xs : List (List UInt8)) : ∃ t, xs.flatMap (32 :: ·) ++ [32] = (32 : UInt8) :: t := by
  cases xs with
  | nil => exact ⟨[], rfl⟩
  | cons x xs => exact ⟨_, rfl⟩
theorem G3 : ∀ {xs ys : List (List UInt8)}, (∀ x ∈ xs, (32 : UInt8) ∉ x) → (∀ y ∈ ys, (32 : UInt8) ∉ y) → xs.flatMap (32 :: ·) ++ [32] = ys.flatMap (32 :: ·) ++ [32] → xs = ys
  | [], [], _, _, _ => rfl
  | [], y :: ys, _, _, h => by
    have := congrArg List.length h
    simp at this
  | x :: xs, [], _, _, h => by
    have := congrArg List.length h
    simp at this
  | x :: xs, y :: ys, hx, hy, h => by
    obtain ⟨t, e1⟩ := H7 xs
    obtain ⟨u, e2⟩ := H7 ys
    simp only [List.flatMap_cons, List.append_assoc, List.cons_append, List.cons.injEq, true_and] at h
    rw [e1, e2] at h
    obtain ⟨rfl, h2⟩ := S2 (hx x List.mem_cons_self) (hy y List.mem_cons_self) h
    rw [G3 (xs := xs) (ys := ys) (fun z hz => hx z (List.mem_cons_of_mem _ hz)) (fun z hz => hy z (List.mem_cons_of_mem _ hz)) (by rw [e1, e2, h2])]
theorem S7 {xs ys : List (List UInt8)} (hx : ∀ x ∈ xs, (32 : UInt8) ∉ x) (hy : ∀ y ∈ ys, (32 : UInt8) ∉ y) (h : xs.flatMap (32 :: ·) = ys.flatMap (32 :: ·)) : xs = ys := G3 hx hy (by rw [h])
def undec : List UInt8 → Int
  | [a] => (a.toNat : Int) - 48
  | [45, a] => -((a.toNat : Int) - 48)
  | [a, b] => ((a.toNat : Int) - 48) * 10 + ((b.toNat : Int) - 48)
  | _ => 0
theorem Xax : ∀ k : _root_.Fin 109, undec (dec ((k.val : Int) - 9)) = (k.val : Int) - 9 ∧ (dec ((k.val : Int) - 9)).all (fun c => c == 45 || (48 ≤ c && c ≤ 57)) = true := by decide
theorem Kd {n : Int} (h : -9 ≤ n ∧ n ≤ 99) : undec (dec n) = n ∧ ∀ c ∈ dec n, c = 45 ∨ (48 ≤ c ∧ c ≤ 57) := by
  have h1 := Xax ⟨(n + 9).toNat, by omega⟩
  have e : ((n + 9).toNat : Int) - 9 = n := by omega
  simp only [e] at h1
  refine ⟨h1.1, fun c hc => ?_⟩
  have := List.all_eq_true.1 h1.2 c hc
  simpa using this
theorem Wt {n : Int} (h : -9 ≤ n ∧ n ≤ 99) {c : UInt8} (hc : c ≠ 45) (h2 : ¬ (48 ≤ c ∧ c ≤ 57)) : c ∉ dec n := fun hm => by
  rcases (Kd h).2 c hm with h3 | h3
  · exact hc h3
  · exact h2 h3
theorem Hf {n : Int} (h : 0 ≤ n ∧ n ≤ 9) : dec n = [dg n] := by
  rw [Xcc h.1]
  unfold dec2
  rw [if_pos (by omega)]
theorem Hg {n : Int} (h : 0 ≤ n ∧ n ≤ 9) : ((dg n).toNat : Int) - 48 = n := by
  have h1 : n = 0 ∨ n = 1 ∨ n = 2 ∨ n = 3 ∨ n = 4 ∨ n = 5 ∨ n = 6 ∨ n = 7 ∨ n = 8 ∨ n = 9 := by omega
  rcases h1 with rfl | rfl | rfl | rfl | rfl | rfl | rfl | rfl | rfl | rfl <;> decide
theorem Xc2 {n : Int} (h : 0 ≤ n ∧ n ≤ 9) : 48 ≤ dg n ∧ dg n ≤ 57 := by
  have h1 : n = 0 ∨ n = 1 ∨ n = 2 ∨ n = 3 ∨ n = 4 ∨ n = 5 ∨ n = 6 ∨ n = 7 ∨ n = 8 ∨ n = 9 := by omega
  rcases h1 with rfl | rfl | rfl | rfl | rfl | rfl | rfl | rfl | rfl | rfl <;> decide
def unl : List UInt8 → Lab
  | [a, _, b] => ⟨(a.toNat : Int) - 48, (b.toNat : Int) - 48⟩
  | _ => ⟨0, 0⟩
theorem Rp {l : Lab} (h : labelOk l = true) : labtx l = [dg l.s, 47, dg l.v] := by
  obtain ⟨h1, h2⟩ := (Yq l).1 h
  unfold labtx
  rw [if_pos h, Hf (by omega), Hf (by omega)]; rfl
theorem Rm {l : Lab} (h : labelOk l = true) : unl (labtx l) = l := by
  obtain ⟨h1, h2⟩ := (Yq l).1 h
  rw [Rp h]
  show (⟨((dg l.s).toNat : Int) - 48, ((dg l.v).toNat : Int) - 48⟩ : Lab) = l
  rw [Hg (by omega), Hg (by omega)]
theorem Nv {n : Int} (h : 0 ≤ n ∧ n ≤ 9) {c : UInt8} (h2 : ¬ (48 ≤ c ∧ c ≤ 57)) : c ≠ dg n := fun e => h2 (e ▸ Xc2 h)
theorem Ie {l : Lab} (h : labelOk l = true) {c : UInt8} (h1 : c ≠ 47) (h2 : ¬ (48 ≤ c ∧ c ≤ 57)) : c ∉ labtx l := by
  obtain ⟨h3, h4⟩ := (Yq l).1 h
  rw [Rp h]
  simp only [List.mem_cons, List.not_mem_nil, or_false, not_or]
  exact ⟨Nv (by omega) h2, h1, Nv (by omega) h2⟩
def unr : List UInt8 → Rt
  | [a, _, b, x, y, z] => ⟨(a.toNat : Int) - 48, (b.toNat : Int) - 48, x == 114, y == 119, z == 107⟩
  | _ => Rt.zero
theorem Z1 {r : Rt} (h : rightOk r = true) (hz : r.th ≠ 0) : rtx r = [dg r.th, 46, dg r.ve, if r.rd = true then 114 else 45, if r.wr = true then 119 else 45, if r.wk = true then 107 else 45] := by
  have h1 := U3 h
  unfold rtx flg
  rw [if_pos h, if_neg hz, Hf (by omega), Hf (by omega)]
  cases r.rd <;> cases r.wr <;> cases r.wk <;> rfl
theorem Ms {r : Rt} (h : rightOk r = true) : unr (rtx r) = r := by
  by_cases hz : r.th = 0
  · unfold rtx
    rw [if_pos h, if_pos hz]
    unfold rightOk at h
    rw [Bool.or_eq_true] at h
    rcases h with h | h
    · exact (of_decide_eq_true h).symm
    · simp only [Bool.and_eq_true] at h
      have := (Jj.1 h.1.1).1
      omega
  · have h1 := U3 h
    rw [Z1 h hz]
    show (⟨((dg r.th).toNat : Int) - 48, ((dg r.ve).toNat : Int) - 48, _, _, _⟩ : Rt) = r
    rw [Hg (by omega), Hg (by omega)]
    obtain ⟨a, b, x, y, z⟩ := r
    cases x <;> cases y <;> cases z <;> rfl
theorem Xbr {r : Rt} (h : rightOk r = true) {c : UInt8} (hc : c ≠ 45 ∧ c ≠ 46 ∧ c ≠ 114 ∧ c ≠ 119 ∧ c ≠ 107) (h2 : ¬ (48 ≤ c ∧ c ≤ 57)) : c ∉ rtx r := by
  by_cases hz : r.th = 0
  · unfold rtx
    rw [if_pos h, if_pos hz]
    simp [hc.1]
  · have h1 := U3 h
    rw [Z1 h hz]
    simp only [List.mem_cons, List.not_mem_nil, or_false, not_or]
    refine ⟨Nv (by omega) h2, hc.2.1, Nv (by omega) h2, ?_, ?_, ?_⟩
    · split; exact hc.2.2.1; exact hc.1
    · split; exact hc.2.2.2.1; exact hc.1
    · split; exact hc.2.2.2.2; exact hc.1
def unk : List UInt8 → Int
  | [112, 97, 103, 101] => 1
  | [110, 111, 100, 101] => 2
  | [114, 117, 110] => 3
  | [112, 105, 112, 101] => 4
  | [103, 97, 116, 101] => 5
  | _ => 0
theorem Hi {k : Int} (h : 1 ≤ k ∧ k ≤ 5) : unk (kname k) = k ∧ (10 : UInt8) ∉ kname k ∧ (32 : UInt8) ∉ kname k := by
  have h1 : k = 1 ∨ k = 2 ∨ k = 3 ∨ k = 4 ∨ k = 5 := by omega
  rcases h1 with rfl | rfl | rfl | rfl | rfl <;> decide
def fl (t : Th) : List (List UInt8) := kname t.kind :: labtx t.lab :: dec t.ve :: dec t.num :: (t.slots.map rtx ++ (t.queue.map (fun n => 60 :: dec n) ++ (if t.kind = 5 then [62 :: dec t.to] else [])))
theorem Xbx (t : Th) : (32 : UInt8) :: thtx t = (fl t).flatMap (32 :: ·) ++ [10] := by
  unfold thtx bh3 ah3 hd3 fl
  split
  · simp [List.flatMap_map, Function.comp_def]
  · simp [List.flatMap_map, Function.comp_def]
theorem Ln {t : Th} (h : thingOk t = true) : ∀ r ∈ t.slots, rightOk r = true := by
  have h5 := (Ql h).2.2.2.2.1
  unfold slotsOk at h5
  split at h5
  · rw [Bool.and_eq_true] at h5
    exact List.all_eq_true.1 h5.2
  · have := of_decide_eq_true h5
    rw [List.eq_nil_of_length_eq_zero this]
    exact fun r hr => by cases hr
theorem H8 {t : Th} (h : thingOk t = true) {c : UInt8} (hc : c = 10 ∨ c = 32) : ∀ x ∈ fl t, c ∉ x := by
  obtain ⟨h1, h2, h3, h4, h5, h6, h7⟩ := Ls h
  have hl := (Ql h).2.1
  have hs := Ln h
  have hd : ¬ ((48 : UInt8) ≤ c ∧ c ≤ 57) := by rcases hc with rfl | rfl <;> decide
  have h45 : c ≠ 45 := by rcases hc with rfl | rfl <;> decide
  intro x hx
  unfold fl at hx
  simp only [List.mem_cons, List.mem_append, List.mem_map] at hx
  rcases hx with rfl | rfl | rfl | rfl | ⟨r, hr, rfl⟩ | ⟨n, hn, rfl⟩ | hx
  · rcases hc with rfl | rfl
    · exact (Hi h1).2.1
    · exact (Hi h1).2.2
  · exact Ie hl (by rcases hc with rfl | rfl <;> decide) hd
  · exact Wt (by omega) h45 hd
  · exact Wt (by omega) h45 hd
  · exact Xbr (hs r hr) (by rcases hc with rfl | rfl <;> decide) hd
  · have := h7 n hn
    simp only [List.mem_cons, not_or]
    exact ⟨by rcases hc with rfl | rfl <;> decide, Wt (by omega) h45 hd⟩
  · split at hx
    · simp only [List.mem_cons, List.not_mem_nil, or_false] at hx
      subst hx
      simp only [List.mem_cons, not_or]
      exact ⟨by rcases hc with rfl | rfl <;> decide, Wt (by omega) h45 hd⟩
    · cases hx
theorem Xda {t u : Th} (ht : thingOk t = true) (hu : thingOk u = true) (h : fl t = fl u) : t = u := by
  obtain ⟨t1, t2, t3, t4, t5, t6, t7⟩ := Ls ht
  obtain ⟨u1, u2, u3, u4, u5, u6, u7⟩ := Ls hu
  obtain ⟨_, tl, _, _, ts, tq, tt⟩ := Ql ht
  obtain ⟨_, ul, _, _, us, uq, ut⟩ := Ql hu
  unfold fl at h
  simp only [List.cons.injEq] at h
  obtain ⟨hk, hl, hv, hn, hr⟩ := h
  have ek : t.kind = u.kind := by have := congrArg unk hk; rwa [(Hi t1).1, (Hi u1).1] at this
  have el : t.lab = u.lab := by have := congrArg unl hl; rwa [Rm tl, Rm ul] at this
  have ev : t.ve = u.ve := by have := congrArg undec hv; rwa [(Kd (by omega)).1, (Kd (by omega)).1] at this
  have en : t.num = u.num := by have := congrArg undec hn; rwa [(Kd (by omega)).1, (Kd (by omega)).1] at this
  have es : t.slots.length = u.slots.length := by
    unfold slotsOk at ts us
    rw [ek] at ts
    split at ts
    · rename_i h5
      rw [if_pos h5, Bool.and_eq_true] at us
      rw [Bool.and_eq_true] at ts
      rw [of_decide_eq_true ts.1, of_decide_eq_true us.1]
    · rename_i h5
      rw [if_neg h5] at us
      rw [of_decide_eq_true ts, of_decide_eq_true us]
  obtain ⟨e1, e2⟩ := List.append_inj hr (by rw [List.length_map, List.length_map, es])
  have eg : (if t.kind = 5 then [62 :: dec t.to] else []).length = (if u.kind = 5 then [62 :: dec u.to] else []).length := by rw [ek]; split <;> rfl
  obtain ⟨e3, e4⟩ := List.append_inj' e2 eg
  have esl : t.slots = u.slots := by
    have h6 := congrArg (List.map unr) e1
    rw [List.map_map, List.map_map] at h6
    have f1 : t.slots.map (unr ∘ rtx) = t.slots := (List.map_congr_left fun r hr => Ms (Ln ht r hr)).trans (List.map_id _)
    have f2 : u.slots.map (unr ∘ rtx) = u.slots := (List.map_congr_left fun r hr => Ms (Ln hu r hr)).trans (List.map_id _)
    rwa [f1, f2] at h6
  have eq : t.queue = u.queue := by
    have h6 := congrArg (List.map fun l : List UInt8 => undec l.tail) e3
    rw [List.map_map, List.map_map] at h6
    have f1 : t.queue.map ((fun l : List UInt8 => undec l.tail) ∘ fun n => 60 :: dec n) = t.queue := (List.map_congr_left fun n hn => (Kd (n := n) (by have := t7 n hn; omega)).1).trans (List.map_id _)
    have f2 : u.queue.map ((fun l : List UInt8 => undec l.tail) ∘ fun n => 60 :: dec n) = u.queue := (List.map_congr_left fun n hn => (Kd (n := n) (by have := u7 n hn; omega)).1).trans (List.map_id _)
    rwa [f1, f2] at h6
  have et : t.to = u.to := by
    by_cases h5 : t.kind = 5
    · rw [if_pos h5, if_pos (ek ▸ h5)] at e4
      simp only [List.cons.injEq, true_and, and_true] at e4
      have := congrArg undec e4
      rwa [(Kd (by omega)).1, (Kd (by omega)).1] at this
    · unfold targetOk at tt ut
      rw [if_neg h5] at tt
      rw [if_neg (ek ▸ h5)] at ut
      rw [of_decide_eq_true tt, of_decide_eq_true ut]
  exact Xaa ek el ev en esl eq et
def lnx (ts : List Th) (i : Nat) : List UInt8 := dec ((i : Int) + 1) ++ (fl (ts.getD i Th.zero)).flatMap (32 :: ·)
theorem Gy (ts : List Th) : ∀ k, ttx ts k = ((List.range k).map (lnx ts)).flatMap (· ++ [10])
  | 0 => rfl
  | k + 1 => by
    rw [List.range_succ, List.map_append, List.flatMap_append, ← Gy ts k]
    show ((ttx ts k ++ dec ((k : Int) + 1)) ++ [32]) ++ thtx (ts.getD k Th.zero) = _
    have h := Xbx (ts.getD k Th.zero)
    simp only [List.map_cons, List.map_nil, List.flatMap_cons, List.flatMap_nil, List.append_nil, lnx, List.append_assoc, List.cons_append, List.nil_append]
    rw [h]
theorem Xby {ts us : List Th} (ht : ∀ t ∈ ts, thingOk t = true) (hu : ∀ t ∈ us, thingOk t = true) (h1 : ts.length ≤ 8) (h2 : us.length ≤ 8) (h : ttx ts ts.length = ttx us us.length) : ts = us := by
  rw [Gy, Gy] at h
  have okd : ∀ {ts : List Th} {i : Nat}, (∀ t ∈ ts, thingOk t = true) → i < ts.length → thingOk (ts.getD i Th.zero) = true := fun {ts i} ho hi => by
    rw [List.getD_eq_getElem?_getD, List.getElem?_eq_getElem hi]
    exact ho _ (List.getElem_mem hi)
  have cl : ∀ {ts : List Th}, (∀ t ∈ ts, thingOk t = true) → ts.length ≤ 8 → ∀ x ∈ (List.range ts.length).map (lnx ts), (10 : UInt8) ∉ x := fun {ts} ho hl x hx => by
    obtain ⟨i, hi, rfl⟩ := List.mem_map.1 hx
    have hi := List.mem_range.1 hi
    unfold lnx
    rw [List.mem_append, not_or]
    refine ⟨Wt (by omega) (by decide) (by decide), fun hm => ?_⟩
    obtain ⟨y, hy, hm⟩ := List.mem_flatMap.1 hm
    rcases List.mem_cons.1 hm with h9 | h9
    · exact absurd h9 (by decide)
    · exact H8 (okd ho hi) (.inl rfl) y hy h9
  have h3 := L6 (cl ht h1) (cl hu h2) h
  have hl : ts.length = us.length := by have := congrArg List.length h3; simpa using this
  refine List.ext_getElem hl fun i hi hj => ?_
  have h4 := congrArg (fun L : List (List UInt8) => L[i]?) h3
  simp only [List.getElem?_map, List.getElem?_range hi, List.getElem?_range hj, Option.map_some, Option.some.injEq] at h4
  unfold lnx at h4
  have h5 := Xda (okd ht hi) (okd hu hj) (S7 (H8 (okd ht hi) (.inr rfl)) (H8 (okd hu hj) (.inr rfl)) (List.append_cancel_left h4))
  rwa [List.getD_eq_getElem?_getD, List.getElem?_eq_getElem hi, List.getD_eq_getElem?_getD, List.getElem?_eq_getElem hj] at h5
theorem Pm {ms : List MTh} (hT : ∀ i, i < ms.length → thingOk (mAt ms i).t = true) (h8 : ms.length ≤ 8) {k : Nat} (h : k ≤ ms.length) : (ttx (tabT ms) k).length ≤ 752 := by
  have h1 : (ttx (tabT ms) k).length ≤ 94 * k := by
    induction k with
    | zero => exact Nat.zero_le _
    | succ k ih =>
      have h1 := ih (by omega)
      have h2 := Yz ((k : Int) + 1)
      have h3 := Sj (hT k (by omega))
      rw [← Xac (by omega)]
      simp only [List.length_append, List.length_cons, List.length_nil]
      omega
  omega
theorem Xcr {ms : List MTh} (hT : ∀ i, i < ms.length → thingOk (mAt ms i).t = true) : ∀ t ∈ tabT ms, thingOk t = true := fun t ht => by
  obtain ⟨i, hi, rfl⟩ := List.getElem_of_mem ht
  have hi' : i < ms.length := by rwa [Yb] at hi
  have := hT i hi'
  rwa [Ld, List.getD_eq_getElem?_getD, List.getElem?_eq_getElem hi] at this
theorem Xdq {us ps : List MTh} (h1 : ∀ i, i < us.length → thingOk (mAt us i).t = true) (h2 : ∀ i, i < ps.length → thingOk (mAt ps i).t = true) (h3 : us.length ≤ 8) (h4 : ps.length ≤ 8) :
    decide (ttx (tabT us) us.length = ttx (tabT ps) ps.length) = decide (tabT us = tabT ps) := by
  rw [decide_eq_decide]
  constructor
  · intro h
    rw [← Yb us, ← Yb ps] at h
    exact Xby (Xcr h1) (Xcr h2) (by rw [Yb]; exact h3) (by rw [Yb]; exact h4) h
  · intro h
    have hl : us.length = ps.length := by rw [← Yb us, h, Yb]
    rw [h, hl]
theorem Pp {ms ns us ps : List MTh} {l : Lab} (he : tabT us = viewTab (tabT ms) l) (he2 : tabT ps = viewTab (tabT ns) l) (h1 : tableOk (tabT ms) = true) (h2 : tableOk (tabT ns) = true) (h3 : labelOk l = true) :
    decide (ttx (tabT us) us.length = ttx (tabT ps) ps.length) = viewSame (tabT ms) (tabT ns) l := by
  have e1 := Ju he h1 h3
  have e2 := Ju he2 h2 h3
  have t1 := Hr h1
  have t2 := Hr h2
  rw [Xdq (fun i hi => Wo he h1 h3 (by omega)) (fun i hi => Wo he2 h2 h3 (by omega)) (by omega) (by omega)]
  unfold viewSame
  rw [h1, h2, h3, he, he2]
  simp only [Bool.true_and]
  cases hd : decide (viewTab (tabT ms) l = viewTab (tabT ns) l) with
  | false => rw [Bool.and_false]
  | true =>
    have hl := congrArg List.length (of_decide_eq_true hd)
    rw [← he, ← he2, Yb, Yb] at hl
    rw [Yb, Yb, decide_eq_true (by omega), Bool.and_true]
theorem Vk {ts us : List Th} {l : Lab} (h : tableOk ts = false) : viewSame ts us l = false := by unfold viewSame; rw [h]; rfl
theorem G9 {ts us : List Th} {l : Lab} (h : tableOk us = false) : viewSame ts us l = false := by unfold viewSame; rw [h]; simp
theorem Sl {ts us : List Th} {l : Lab} (h : labelOk l = false) : viewSame ts us l = false := by unfold viewSame; rw [h]; simp
end Go.Dw.J
end
section
namespace Go.Dw.J
open Go.RowKit Go.Dw Go.Proofs
set_option linter.unusedSectionVars false
set_option maxRecDepth 100000
set_option maxHeartbeats 4000000
set_option linter.unusedSimpArgs false
set_option linter.unusedVariables false
theorem Xc8 : elemSz Try.prog 138 = some 1 := by kernel_rfl
theorem K3 : goFn Try.prog 100 = true := by kernel_rfl
theorem Xdc : goFn Try.prog 101 = true := by kernel_rfl
theorem Xdh : goFn Try.prog 119 = true := by kernel_rfl
theorem Xdi : goFn Try.prog 120 = true := by kernel_rfl
theorem S9 : goFn Try.prog 123 = true := by kernel_rfl
theorem Xfj : oneTy Try.prog 9 = true := by kernel_rfl
theorem S3 [Comp] (n : Int) (hn : 0 ≤ n ∧ n ≤ 9) (w : World) : CallsR Try.prog 100 #[vi n] w (fun v w' => v = .string ⟨(dec2 n).toArray⟩ ∧ w.grownBy w' none) := by
 refine Xq (n := 28) Try.func100 Z Try.ntmps100 Z ?_
 have O := World.grownBy.refl w none
 refine Xa (wpo_assign (v := .string ⟨([] : List UInt8).toArray⟩) Z Z (wpo_nil (Xk (Xa (wpo_move (v := vi n) Z Z (wpo_lss (q := decide (n < (-9223372036854775807))) Z Z Z Z (wpo_nil (X5 Z (decide_eq_false (by omega)) (Xn (Xo (Xk (Xa ?_))))))))))))
 refine wpo_move (v := vi n) Z Z (wpo_lss (q := decide (n < 0)) Z Z Z Z (wpo_nil (X5 Z (decide_eq_false (by omega)) (Xn (Xo (Xk (Xa (wpo_move (v := vi n) Z Z (wpo_lss (q := decide (n < 10)) Z Z Z Z (wpo_nil (X8 Z (decide_eq_true (by omega)) (Xa ?_))))))))))))
 refine wpo_move (v := vi n) Z Z (wpo_add (c := 48 + n) Z Z (by omega) (by omega) (by omega) Z (wpo_conv (P := Try.prog) (k' := .u8) Z (by kernel_rfl) (by kernel_rfl) (Mb (by omega) (by omega)) Z (wpo_buildSlice (ps := [(0, .int .u8 (48 + n))]) (e := 5) (cs := #[.int .u8 (48 + n)]) (Xp Z Xw) (fun _ => by kernel_rfl) Z ?_)))
 intro ab ac E
 have V := Xy E O
 refine wpo_bstr (ns := [48 + n]) (e := 5) Z (by kernel_rfl) (by kernel_rfl) (by kernel_rfl) (load_blk E.blk Z Z) Z (wpo_assign (v := .string ⟨(ub [48 + n]).toArray⟩) Z Z (wpo_nil (Xm (Ya (⟨.string ⟨(ub [48 + n]).toArray⟩, res1 Z Z, ?_, (low0 O E.grw)⟩)))))
 exact congrArg (fun z : List UInt8 => Value.string ⟨z.toArray⟩) (Xcb hn.2).symm
theorem Xc0 [Comp] (n : Int) (hn : 10 ≤ n ∧ n ≤ 99) (w : World) : CallsR Try.prog 100 #[vi n] w (fun v w' => v = .string ⟨(dec2 n).toArray⟩ ∧ w.grownBy w' none) := by
 refine Xq (n := 28) Try.func100 Z Try.ntmps100 Z ?_
 have bp := World.grownBy.refl w none
 refine Xa (wpo_assign (v := .string ⟨([] : List UInt8).toArray⟩) Z Z (wpo_nil (Xk (Xa (wpo_move (v := vi n) Z Z (wpo_lss (q := decide (n < (-9223372036854775807))) Z Z Z Z (wpo_nil (X5 Z (decide_eq_false (by omega)) (Xn (Xo (Xk (Xa ?_))))))))))))
 refine wpo_move (v := vi n) Z Z (wpo_lss (q := decide (n < 0)) Z Z Z Z (wpo_nil (X5 Z (decide_eq_false (by omega)) (Xn (Xo (Xk (Xa (wpo_move (v := vi n) Z Z (wpo_lss (q := decide (n < 10)) Z Z Z Z (wpo_nil (X5 Z (decide_eq_false (by omega)) (Xn ?_))))))))))))
 refine Xo (Xk (Q8 (m := 9) [[], [0], [0, 1], [], [3], [3, 4], [3, 4, 5], [3, 4, 5, 6], [3, 4, 5, 6, 7], [0, 1, 2, 3, 4, 5, 6, 7, 8], [0, 1, 2, 3, 4, 5, 6, 7, 8, 9]] (fun S F w' => ∃ (E : Nat), w.grownBy w' none ∧ F 0 = vi n ∧ F 2 = .string ⟨([] : List UInt8).toArray⟩ ∧ (S 7 = true → F 25 = .slice (pa E) 1 1 ∧ w.heap.size ≤ E ∧ Blk w' E 5 #[.int .u8 (48 + (n % 10))] ∧ w.heap.size ≤ E) ∧ Vals S F [(0, 18, vi n), (1, 19, vi (n / 10)), (2, 20, .string ⟨(dec2 (n / 10)).toArray⟩), (3, 21, vi n), (4, 22, vi (n % 10)), (5, 23, vi (48 + (n % 10))), (6, 24, .int .u8 (48 + (n % 10))), (8, 26, .string ⟨(ub [48 + (n % 10)]).toArray⟩)]) Yu (by kernel_rfl) ⟨0, Xx _, Z, Z, X4, Kn _⟩ ?_ ?_))
 refine Xl (fun S F ca hS hbef hcl hI => ?_) ?_
 obtain ⟨E, ak, ai, aw, O, hvs⟩ := hI
 exact wpo_move (v := vi n) ai Z (wpo_nil ⟨E, ak, ai, aw, O, Vals.up 0 hvs Z Z Z⟩)
 refine Xl (fun S F cc hS hbef hcl hI => ?_) ?_
 obtain ⟨E, al, az, a8, O, hvs⟩ := hI
 exact wpo_quo (c := n / 10) (Vals.at 0 hvs Z (Xf 0 hbef Z)) Z (by omega) (by omega) (by omega) Z Z (wpo_nil ⟨E, al, az, a8, O, Vals.up 1 hvs Z Z Z⟩)
 refine Xl (fun S F cd hS hbef hcl hI => ?_) ?_
 obtain ⟨E, am, a9, ba, O, hvs⟩ := hI
 refine Xi K3 (Xb (Vals.at 1 hvs Z (Xf 1 hbef Z)) Xg) Z (S3 (n / 10) (by omega) _) ?_
 rintro _ ce ⟨rfl, ae⟩
 exact wpo_nil ⟨E, (low0 am ae), a9, ba, fun h => let ⟨bq, br, bt, bu⟩ := O h; ⟨bq, br, (bt).grown0 ae, bu⟩, Vals.up 2 hvs Z Z Z⟩
 refine Xl (fun S F cg hS hbef hcl hI => ?_) ?_
 obtain ⟨E, an, aj, bc, O, hvs⟩ := hI
 exact wpo_move (v := vi n) aj Z (wpo_nil ⟨E, an, aj, bc, Xj 7 hS hcl Z, Vals.up 3 hvs Z Z Z⟩)
 refine Xl (fun S F cj hS hbef hcl hI => ?_) ?_
 obtain ⟨E, ao, bd, be, O, hvs⟩ := hI
 exact wpo_rem (c := n % 10) (Vals.at 3 hvs Z (Xf 3 hbef Z)) Z (by omega) (by omega) (by omega) Z Z (wpo_nil ⟨E, ao, bd, be, Xj 7 hS hcl Z, Vals.up 4 hvs Z Z Z⟩)
 refine Xl (fun S F ck hS hbef hcl hI => ?_) ?_
 obtain ⟨E, ap, bf, bg, O, hvs⟩ := hI
 exact wpo_add (c := 48 + (n % 10)) Z (Vals.at 4 hvs Z (Xf 4 hbef Z)) (by omega) (by omega) (by omega) Z (wpo_nil ⟨E, ap, bf, bg, Xj 7 hS hcl Z, Vals.up 5 hvs Z Z Z⟩)
 refine Xl (fun S F cm hS hbef hcl hI => ?_) ?_
 obtain ⟨E, aq, bh, bi, O, hvs⟩ := hI
 exact wpo_conv (P := Try.prog) (k' := .u8) (Vals.at 5 hvs Z (Xf 5 hbef Z)) (by kernel_rfl) (by kernel_rfl) (Mb (by omega) (by omega)) Z (wpo_nil ⟨E, aq, bh, bi, Xj 7 hS hcl Z, Vals.up 6 hvs Z Z Z⟩)
 refine Xl (fun S F cn hS hbef hcl hI => ?_) ?_
 obtain ⟨E, ac, bj, bk, O, hvs⟩ := hI
 refine wpo_buildSlice (ps := [(0, .int .u8 (48 + (n % 10)))]) (e := 5) (cs := #[.int .u8 (48 + (n % 10))]) (Xp (Vals.at 6 hvs Z (Xf 6 hbef Z)) Xw) (fun _ => by kernel_rfl) Z ?_
 intro av co V
 have ah := Xy V (low0 bp ac)
 exact wpo_nil ⟨av, (low0 ac V.grw), bj, bk, fun _ => ⟨Z, ah, V.blk, (nt ac.size V.ge)⟩, Vals.keep hvs Z⟩
 refine Xl (fun S F cw hS hbef hcl hI => ?_) ?_
 obtain ⟨E, ar, bl, bm, O, hvs⟩ := hI
 obtain ⟨bn, ag, ab, af⟩ := O (Xf 7 hbef rfl)
 exact wpo_bstr (ns := [48 + (n % 10)]) (e := 5) bn (by kernel_rfl) (by kernel_rfl) (by kernel_rfl) (load_blk ab Z Z) Z (wpo_nil ⟨E, ar, bl, bm, O, Vals.up 7 hvs Z Z Z⟩)
 exact Jp
 intro S F cx hall hI
 obtain ⟨E, au, bv, bw, O, hvs⟩ := hI
 obtain ⟨bz, ag, ab, af⟩ := O (hall 7 (by decide))
 refine wpo_cat (a := dec2 (n / 10)) (b := ub [48 + (n % 10)]) (Vals.at 2 hvs Z (hall 2 (by decide))) (Vals.at 7 hvs Z (hall 8 (by decide))) (nt (Wr (n / 10)) (by decide)) (nt (show (ub [48 + (n % 10)]).length ≤ 1 from Nat.le_refl _) (by decide)) Z (wpo_assign (v := .string ⟨((dec2 (n / 10)) ++ (ub [48 + (n % 10)])).toArray⟩) Z Z (wpo_nil (Xo (Xm (⟨.string ⟨((dec2 (n / 10)) ++ (ub [48 + (n % 10)])).toArray⟩, res1 Z Z, ?_, (low0 bp au)⟩)))))
 exact congrArg (fun z : List UInt8 => Value.string ⟨z.toArray⟩) (Xee hn).symm
theorem Xc1 [Comp] (n : Int) (hn : -9 ≤ n ∧ n < 0) (w : World) : CallsR Try.prog 100 #[vi n] w (fun v w' => v = .string ⟨(dec n).toArray⟩ ∧ w.grownBy w' none) := by
 refine Xq (n := 28) Try.func100 Z Try.ntmps100 Z (Xa (wpo_assign (v := .string ⟨([] : List UInt8).toArray⟩) Z Z (wpo_nil (Xk (Xa (wpo_move (v := vi n) Z Z (wpo_lss (q := decide (n < (-9223372036854775807))) Z Z Z Z (wpo_nil (X5 Z (decide_eq_false (by omega)) (Xn (Xo (Xk ?_))))))))))))
 refine Xa (wpo_move (v := vi n) Z Z (wpo_lss (q := decide (n < 0)) Z Z Z Z (wpo_nil (X8 Z (decide_eq_true (by omega)) (Xa (wpo_move (v := vi n) Z Z (wpo_neg (c := -n) Z Z (by omega) (by omega) Z (Xi K3 (Xb Z Xg) Z (S3 (-n) (by omega) _) ?_))))))))
 rintro _ O ⟨rfl, E⟩
 refine wpo_cat (a := ([45] : List UInt8)) (b := dec2 (-n)) Z Z (nt (Nat.le_refl _) (by decide)) (nt (Wr (-n)) (by decide)) Z (wpo_assign (v := .string ⟨(([45] : List UInt8) ++ (dec2 (-n))).toArray⟩) Z Z (wpo_nil (Xm (Ya (⟨.string ⟨(([45] : List UInt8) ++ (dec2 (-n))).toArray⟩, res1 Z Z, ?_, (low0 (World.grownBy.refl w none) E)⟩)))))
 exact congrArg (fun z : List UInt8 => Value.string ⟨z.toArray⟩) (Xef hn.2).symm
theorem Ws [Comp] (n : Int) (hn : -9 ≤ n ∧ n ≤ 99) (w : World) : CallsR Try.prog 100 #[vi n] w (fun v w' => v = .string ⟨(dec n).toArray⟩ ∧ w.grownBy w' none) := by
 by_cases h1 : n < 0
 exact Xc1 n ⟨hn.1, h1⟩ w
 rw [Xcc (by omega)]
 by_cases h2 : n ≤ 9
 exact S3 n ⟨by omega, h2⟩ w
 exact Xc0 n ⟨by omega, hn.2⟩ w
theorem S8 [Comp] (b : Bool) (l : List UInt8) (w : World) : CallsR Try.prog 123 #[vb b, .string ⟨(l).toArray⟩] w (fun v w' => v = .string ⟨(flg b l).toArray⟩ ∧ w.grownBy w' none) := by
 refine Xq (n := 7) Try.func123 Z Try.ntmps123 Z ?_
 have O := World.grownBy.refl w none
 refine Xa (wpo_assign (v := .string ⟨([] : List UInt8).toArray⟩) Z Z (wpo_nil (Xk (Xa (wpo_move (v := vb b) Z Z (wpo_nil (Xt Z (fun E => ?_) (fun E => ?_))))))))
 refine Xa (wpo_move (v := .string ⟨(l).toArray⟩) Z Z (wpo_assign (v := .string ⟨(l).toArray⟩) Z Z (wpo_nil (Xm (Ya (⟨.string ⟨(l).toArray⟩, res1 Z Z, ?_, O⟩))))))
 exact congrArg (fun z : List UInt8 => Value.string ⟨z.toArray⟩) (if_pos E).symm
 refine Xn (Xo (Xa (wpo_assign (v := .string ⟨([45] : List UInt8).toArray⟩) Z Z (wpo_nil (Xm (⟨.string ⟨([45] : List UInt8).toArray⟩, res1 Z Z, ?_, O⟩))))))
 exact congrArg (fun z : List UInt8 => Value.string ⟨z.toArray⟩) (if_neg (by rw [E]; exact Bool.false_ne_true)).symm
theorem Xa8 [Comp] (l : Lab) (w : World) : CallsR Try.prog 119 #[.agg #[vi l.s, vi l.v]] w (fun v w' => v = .string ⟨(labtx l).toArray⟩ ∧ w.grownBy w' none) := by
 refine Xq (n := 14) Try.func119 Z Try.ntmps119 Z ?_
 have aq := World.grownBy.refl w none
 refine Xa (wpo_box (v := .agg #[vi l.s, vi l.v]) (cs := #[vi l.s, vi l.v]) Z Z Z ?_)
 intro af aw E
 have au := Xy E aq
 refine wpo_assign (v := .string ⟨([] : List UInt8).toArray⟩) Z Z (wpo_nil (Xk (Xa (wpo_loadn (vs := [vi l.s, vi l.v]) Yd Z Z (E.blk.rangeL 0 2 Z) Z (Xi L2 (Xb Z Xg) Z (Kk l _) ?_)))))
 rintro _ ar ⟨rfl, O⟩
 have ab := low0 (low0 aq E.grw) O
 refine wpo_not (b' := !labelOk l) Z Z Z (wpo_nil (Xt Z (fun V => ?_) (fun V => ?_)))
 have ap := Je V
 refine Xa (wpo_assign (v := .string ⟨([] : List UInt8).toArray⟩) Z Z (wpo_nil (Xm (Ya (⟨.string ⟨([] : List UInt8).toArray⟩, res1 Z Z, ?_, ab⟩)))))
 exact congrArg (fun z : List UInt8 => Value.string ⟨z.toArray⟩) (if_neg (by rw [ap]; exact Bool.false_ne_true)).symm
 have ag := Qx V
 have av := (Yq l).1 ag
 refine Xn (Xo (Xk (Yl (m := 7) (vals := [(6, pt af 0), (7, vi l.s), (8, .string ⟨(dec l.s).toArray⟩), (9, .string ⟨((dec l.s) ++ ([47] : List UInt8)).toArray⟩), (10, pt af 1), (11, vi l.v), (12, .string ⟨(dec l.v).toArray⟩)]) (fun w' => ar.grownBy w' none) Yu (by kernel_rfl) (Xx _) ?_ ?_)))
 refine Xc Z (fun az aj => ?_) ?_
 exact wpo_fieldAddr (o' := 0) Vg Z Z Z (wpo_nil ⟨Z, aj⟩)
 refine Xc Z (fun a8 ac => ?_) ?_
 exact wpo_load1 (v := vi l.s) X1 Z (((E.blk.grown0 O).grown0 ac).cell Z) Z (wpo_nil ⟨Z, ac⟩)
 refine Xc Z (fun a9 ak => ?_) ?_
 refine Xi K3 (Xb Z Xg) Z (Ws l.s (by omega) _) ?_
 rintro _ ba ⟨rfl, ah⟩
 exact wpo_nil ⟨Z, (Xh ak ah)⟩
 refine Xc Z (fun bc al => ?_) ?_
 exact wpo_cat (a := dec l.s) (b := ([47] : List UInt8)) Z Z (nt (Yz l.s) (by decide)) (nt (Nat.le_refl _) (by decide)) Z (wpo_nil ⟨Z, al⟩)
 refine Xc Z (fun bd am => ?_) ?_
 exact wpo_fieldAddr (o' := 1) Vw Z Z Z (wpo_nil ⟨Z, am⟩)
 refine Xc Z (fun be ae => ?_) ?_
 exact wpo_load1 (v := vi l.v) X1 Z (((E.blk.grown0 O).grown0 ae).cell Z) Z (wpo_nil ⟨Z, ae⟩)
 refine Xc Z (fun bf an => ?_) ?_
 refine Xi K3 (Xb Z Xg) Z (Ws l.v (by omega) _) ?_
 rintro _ bg ⟨rfl, ai⟩
 exact wpo_nil ⟨Z, (Xh an ai)⟩
 exact Y2
 intro bh ao
 refine wpo_cat (a := ((dec l.s) ++ ([47] : List UInt8))) (b := dec l.v) Z Z (nt (Yt (Yz l.s) (Nat.le_refl _)) (by decide)) (nt (Yz l.v) (by decide)) Z (wpo_assign (v := .string ⟨(((dec l.s) ++ ([47] : List UInt8)) ++ (dec l.v)).toArray⟩) Z Z (wpo_nil (Xo (Xm (⟨.string ⟨(((dec l.s) ++ ([47] : List UInt8)) ++ (dec l.v)).toArray⟩, res1 Z Z, ?_, (low0 ab ao)⟩)))))
 exact congrArg (fun z : List UInt8 => Value.string ⟨z.toArray⟩) (if_pos ag).symm
theorem Xe8 [Comp] (r : Rt) (w : World) : CallsR Try.prog 120 #[.agg #[vi r.th, vi r.ve, vb r.rd, vb r.wr, vb r.wk]] w (fun v w' => v = .string ⟨(rtx r).toArray⟩ ∧ w.grownBy w' none) := by
 refine Xq (n := 29) Try.func120 Z Try.ntmps120 Z ?_
 have bk := World.grownBy.refl w none
 refine Xa (wpo_box (v := .agg #[vi r.th, vi r.ve, vb r.rd, vb r.wr, vb r.wk]) (cs := #[vi r.th, vi r.ve, vb r.rd, vb r.wr, vb r.wk]) Z Z Z ?_)
 intro V br O
 have bm := Xy O bk
 refine wpo_assign (v := .string ⟨([] : List UInt8).toArray⟩) Z Z (wpo_nil (Xk (Xa (wpo_loadn (vs := [vi r.th, vi r.ve, vb r.rd, vb r.wr, vb r.wk]) Y9 Z Z (O.blk.rangeL 0 5 Z) Z (Xi Zb (Xb Z Xg) Z (Wh r _) ?_)))))
 rintro _ bl ⟨rfl, ag⟩
 have ac := low0 (low0 bk O.grw) ag
 refine wpo_not (b' := !rightOk r) Z Z Z (wpo_nil (Xt Z (fun ae => ?_) (fun ae => ?_)))
 have bj := Je ae
 refine Xa (wpo_assign (v := .string ⟨([] : List UInt8).toArray⟩) Z Z (wpo_nil (Xm (Ya (⟨.string ⟨([] : List UInt8).toArray⟩, res1 Z Z, ?_, ac⟩)))))
 exact congrArg (fun z : List UInt8 => Value.string ⟨z.toArray⟩) (if_neg (by rw [bj]; exact Bool.false_ne_true)).symm
 have af := Qx ae
 have bn := U3 af
 refine Xn (Xo (Xk (Xa (wpo_fieldAddr (o' := 0) Qp Z Z Z ?_))))
 have E := (O.blk.grown0 ag)
 refine wpo_load1 (v := vi r.th) X1 Z (E.cell Z) Z (wpo_eql (q := decide (r.th = 0)) Z Z Z Z (wpo_nil (Xt Z (fun ab => ?_) (fun ab => ?_))))
 have bp := of_decide_eq_true ab
 refine Xa (wpo_assign (v := .string ⟨([45] : List UInt8).toArray⟩) Z Z (wpo_nil (Xm (Ya (⟨.string ⟨([45] : List UInt8).toArray⟩, res1 Z Z, ?_, ac⟩)))))
 exact congrArg (fun z : List UInt8 => Value.string ⟨z.toArray⟩) ((if_pos af).trans (if_pos (of_decide_eq_true ab))).symm
 have bq := of_decide_eq_false ab
 refine Xn (Xo (Xk (Yl (m := 19) (vals := [(9, pt V 0), (10, vi r.th), (11, .string ⟨(dec r.th).toArray⟩), (12, .string ⟨((dec r.th) ++ ([46] : List UInt8)).toArray⟩), (13, pt V 1), (14, vi r.ve), (15, .string ⟨(dec r.ve).toArray⟩), (16, .string ⟨(((dec r.th) ++ ([46] : List UInt8)) ++ (dec r.ve)).toArray⟩), (17, pt V 2), (18, vb r.rd), (19, .string ⟨(flg r.rd [114]).toArray⟩), (20, .string ⟨((((dec r.th) ++ ([46] : List UInt8)) ++ (dec r.ve)) ++ (flg r.rd [114])).toArray⟩), (21, pt V 3), (22, vb r.wr), (23, .string ⟨(flg r.wr [119]).toArray⟩), (24, .string ⟨(((((dec r.th) ++ ([46] : List UInt8)) ++ (dec r.ve)) ++ (flg r.rd [114])) ++ (flg r.wr [119])).toArray⟩), (25, pt V 4), (26, vb r.wk), (27, .string ⟨(flg r.wk [107]).toArray⟩)]) (fun w' => bl.grownBy w' none) Yu (by kernel_rfl) (Xx _) ?_ ?_)))
 refine Xc Z (fun bt ar => ?_) ?_
 exact wpo_fieldAddr (o' := 0) Qp Z Z Z (wpo_nil ⟨Z, ar⟩)
 refine Xc Z (fun bu ah => ?_) ?_
 exact wpo_load1 (v := vi r.th) X1 Z ((E.grown0 ah).cell Z) Z (wpo_nil ⟨Z, ah⟩)
 refine Xc Z (fun bv au => ?_) ?_
 refine Xi K3 (Xb Z Xg) Z (Ws r.th (by omega) _) ?_
 rintro _ bw ⟨rfl, am⟩
 exact wpo_nil ⟨Z, (Xh au am)⟩
 refine Xc Z (fun bz av => ?_) ?_
 exact wpo_cat (a := dec r.th) (b := ([46] : List UInt8)) Z Z (nt (Yz r.th) (by decide)) (nt (Nat.le_refl _) (by decide)) Z (wpo_nil ⟨Z, av⟩)
 refine Xc Z (fun ca aw => ?_) ?_
 exact wpo_fieldAddr (o' := 1) J4 Z Z Z (wpo_nil ⟨Z, aw⟩)
 refine Xc Z (fun cc ai => ?_) ?_
 exact wpo_load1 (v := vi r.ve) X1 Z ((E.grown0 ai).cell Z) Z (wpo_nil ⟨Z, ai⟩)
 refine Xc Z (fun cd az => ?_) ?_
 refine Xi K3 (Xb Z Xg) Z (Ws r.ve (by omega) _) ?_
 rintro _ ce ⟨rfl, an⟩
 exact wpo_nil ⟨Z, (Xh az an)⟩
 refine Xc Z (fun cg a8 => ?_) ?_
 exact wpo_cat (a := ((dec r.th) ++ ([46] : List UInt8))) (b := dec r.ve) Z Z (nt (Yt (Yz r.th) (Nat.le_refl _)) (by decide)) (nt (Yz r.ve) (by decide)) Z (wpo_nil ⟨Z, a8⟩)
 refine Xc Z (fun cj a9 => ?_) ?_
 exact wpo_fieldAddr (o' := 2) Xa2 Z Z Z (wpo_nil ⟨Z, a9⟩)
 refine Xc Z (fun ck aj => ?_) ?_
 exact wpo_load1 (v := vb r.rd) Vl Z ((E.grown0 aj).cell Z) Z (wpo_nil ⟨Z, aj⟩)
 refine Xc Z (fun cm ba => ?_) ?_
 refine Xi S9 (Xb Z (Xb Z Xg)) Z (S8 r.rd [114] _) ?_
 rintro _ cn ⟨rfl, ao⟩
 exact wpo_nil ⟨Z, (Xh ba ao)⟩
 refine Xc Z (fun co bc => ?_) ?_
 exact wpo_cat (a := (((dec r.th) ++ ([46] : List UInt8)) ++ (dec r.ve))) (b := flg r.rd [114]) Z Z (nt (Yt (Yt (Yz r.th) (Nat.le_refl _)) (Yz r.ve)) (by decide)) (nt (Kq r.rd 114) (by decide)) Z (wpo_nil ⟨Z, bc⟩)
 refine Xc Z (fun cw bd => ?_) ?_
 exact wpo_fieldAddr (o' := 3) Hh Z Z Z (wpo_nil ⟨Z, bd⟩)
 refine Xc Z (fun cx ak => ?_) ?_
 exact wpo_load1 (v := vb r.wr) Vl Z ((E.grown0 ak).cell Z) Z (wpo_nil ⟨Z, ak⟩)
 refine Xc Z (fun cy be => ?_) ?_
 refine Xi S9 (Xb Z (Xb Z Xg)) Z (S8 r.wr [119] _) ?_
 rintro _ cz ⟨rfl, ap⟩
 exact wpo_nil ⟨Z, (Xh be ap)⟩
 refine Xc Z (fun da bf => ?_) ?_
 exact wpo_cat (a := ((((dec r.th) ++ ([46] : List UInt8)) ++ (dec r.ve)) ++ (flg r.rd [114]))) (b := flg r.wr [119]) Z Z (nt (Yt (Yt (Yt (Yz r.th) (Nat.le_refl _)) (Yz r.ve)) (Kq r.rd 114)) (by decide)) (nt (Kq r.wr 119) (by decide)) Z (wpo_nil ⟨Z, bf⟩)
 refine Xc Z (fun db bg => ?_) ?_
 exact wpo_fieldAddr (o' := 4) Uw Z Z Z (wpo_nil ⟨Z, bg⟩)
 refine Xc Z (fun dc al => ?_) ?_
 exact wpo_load1 (v := vb r.wk) Vl Z ((E.grown0 al).cell Z) Z (wpo_nil ⟨Z, al⟩)
 refine Xc Z (fun de bh => ?_) ?_
 refine Xi S9 (Xb Z (Xb Z Xg)) Z (S8 r.wk [107] _) ?_
 rintro _ dh ⟨rfl, aq⟩
 exact wpo_nil ⟨Z, (Xh bh aq)⟩
 exact Y2
 intro di bi
 refine wpo_cat (a := (((((dec r.th) ++ ([46] : List UInt8)) ++ (dec r.ve)) ++ (flg r.rd [114])) ++ (flg r.wr [119]))) (b := flg r.wk [107]) Z Z (nt (Yt (Yt (Yt (Yt (Yz r.th) (Nat.le_refl _)) (Yz r.ve)) (Kq r.rd 114)) (Kq r.wr 119)) (by decide)) (nt (Kq r.wk 107) (by decide)) Z (wpo_assign (v := .string ⟨((((((dec r.th) ++ ([46] : List UInt8)) ++ (dec r.ve)) ++ (flg r.rd [114])) ++ (flg r.wr [119])) ++ (flg r.wk [107])).toArray⟩) Z Z (wpo_nil (Xo (Xm (⟨.string ⟨((((((dec r.th) ++ ([46] : List UInt8)) ++ (dec r.ve)) ++ (flg r.rd [114])) ++ (flg r.wr [119])) ++ (flg r.wk [107])).toArray⟩, res1 Z Z, ?_, (low0 ac bi)⟩)))))
 exact congrArg (fun z : List UInt8 => Value.string ⟨z.toArray⟩) ((if_pos af).trans (if_neg (of_decide_eq_false ab))).symm
theorem Xdp [Comp] (m : MTh) (w : World) (hok : thingOk m.t = true) (hs : SlAt w m.sa 5 (m.t.slots.map Rt.cells)) (hq : SlAt w m.qa 1 (m.t.queue.map icell)) (hsl : m.t.slots.length ≤ 9223372036854775806) (hql : m.t.queue.length ≤ 9223372036854775806) : CallsR Try.prog 101 #[.agg #[vi m.t.kind, vi m.t.lab.s, vi m.t.lab.v, vi m.t.ve, vi m.t.num, .slice m.sa m.t.slots.length m.sc, .slice m.qa m.t.queue.length m.qc, vi m.t.to]] w (fun v w' => v = .string ⟨(thtx m.t).toArray⟩ ∧ w.grownBy w' none) := by
 refine Xq (n := 69) Try.func101 Z Try.ntmps101 Z ?_
 have fq := World.grownBy.refl w none
 have gm := Ls hok
 obtain ⟨hr1, jm, jo, jp, ap, az, gp⟩ := gm
 refine Xa (wpo_box (v := .agg #[vi m.t.kind, vi m.t.lab.s, vi m.t.lab.v, vi m.t.ve, vi m.t.num, .slice m.sa m.t.slots.length m.sc, .slice m.qa m.t.queue.length m.qc, vi m.t.to]) (cs := #[vi m.t.kind, vi m.t.lab.s, vi m.t.lab.v, vi m.t.ve, vi m.t.num, .slice m.sa m.t.slots.length m.sc, .slice m.qa m.t.queue.length m.qc, vi m.t.to]) Z Z Z ?_)
 intro ah cc ag
 have gi := Xy ag fq
 have be := low0 fq ag.grw
 refine wpo_assign (v := .string ⟨([] : List UInt8).toArray⟩) Z Z (wpo_nil (Xk (Q8 (m := 19) [[], [], [1], [0, 1, 2], [0, 1, 2, 3], [0, 1, 2, 3, 4], [], [6], [6, 7], [0, 1, 2, 3, 4, 5, 6, 7, 8], [0, 1, 2, 3, 4, 5, 6, 7, 8, 9], [], [11], [6, 7, 8, 11, 12], [0, 1, 2, 3, 4, 5, 6, 7, 8, 9, 10, 11, 12, 13], [0, 1, 2, 3, 4, 5, 6, 7, 8, 9, 10, 11, 12, 13, 14], [], [16], [6, 7, 8, 11, 12, 13, 16, 17], [0, 1, 2, 3, 4, 5, 6, 7, 8, 9, 10, 11, 12, 13, 14, 15, 16, 17, 18], [0, 1, 2, 3, 4, 5, 6, 7, 8, 9, 10, 11, 12, 13, 14, 15, 16, 17, 18, 19]] (fun S F w' => ∃ (E : Nat), cc.grownBy w' none ∧ F 1 = pt ah 0 ∧ F 2 = .string ⟨([] : List UInt8).toArray⟩ ∧ (S 0 = true → F 6 = .slice (pa E) 6 6 ∧ w.heap.size ≤ E ∧ Blk w' E 9 (names6.flatMap scell).toArray ∧ ah < E ∧ cc.heap.size ≤ E) ∧ (S 3 = true → F 9 = pt E ((m.t.kind).toNat * 1)) ∧ Vals S F [(1, 7, pt ah 0), (2, 8, vi m.t.kind), (4, 10, .string ⟨(kname m.t.kind).toArray⟩), (5, 11, .string ⟨((kname m.t.kind) ++ ([32] : List UInt8)).toArray⟩), (6, 12, pt ah 1), (7, 13, .agg #[vi m.t.lab.s, vi m.t.lab.v]), (8, 14, .string ⟨(labtx m.t.lab).toArray⟩), (9, 15, .string ⟨(((kname m.t.kind) ++ ([32] : List UInt8)) ++ (labtx m.t.lab)).toArray⟩), (10, 16, .string ⟨((((kname m.t.kind) ++ ([32] : List UInt8)) ++ (labtx m.t.lab)) ++ ([32] : List UInt8)).toArray⟩), (11, 17, pt ah 3), (12, 18, vi m.t.ve), (13, 19, .string ⟨(dec m.t.ve).toArray⟩), (14, 20, .string ⟨(((((kname m.t.kind) ++ ([32] : List UInt8)) ++ (labtx m.t.lab)) ++ ([32] : List UInt8)) ++ (dec m.t.ve)).toArray⟩), (15, 21, .string ⟨((((((kname m.t.kind) ++ ([32] : List UInt8)) ++ (labtx m.t.lab)) ++ ([32] : List UInt8)) ++ (dec m.t.ve)) ++ ([32] : List UInt8)).toArray⟩), (16, 22, pt ah 4), (17, 23, vi m.t.num), (18, 24, .string ⟨(dec m.t.num).toArray⟩)]) Yu (by kernel_rfl) ⟨0, Xx _, Z, Z, X4, X4, Kn _⟩ ?_ ?_)))
 refine Xl (fun S F is hS hbef hcl hI => ?_) ?_
 obtain ⟨E, am, dq, dr, O, ab, hvs⟩ := hI
 refine wpo_buildSlice (ps := [(0, .string ⟨([] : List UInt8).toArray⟩), (1, .string ⟨([112, 97, 103, 101] : List UInt8).toArray⟩), (2, .string ⟨([110, 111, 100, 101] : List UInt8).toArray⟩), (3, .string ⟨([114, 117, 110] : List UInt8).toArray⟩), (4, .string ⟨([112, 105, 112, 101] : List UInt8).toArray⟩), (5, .string ⟨([103, 97, 116, 101] : List UInt8).toArray⟩)]) (e := 9) (cs := (names6.flatMap scell).toArray) (Xp Z (Xp Z (Xp Z (Xp Z (Xp Z (Xp Z Xw)))))) (fun _ => by kernel_rfl) Z ?_
 intro dp it aj
 have br := Xy aj (low0 be am)
 have ak := Xs aj ((ag.blk.grown0 am)).lt
 exact wpo_nil ⟨dp, (low0 am aj.grw), dq, dr, fun _ => ⟨Z, br, aj.blk, ak, (nt am.size aj.ge)⟩, Xj 3 hS hcl Z, Vals.keep hvs Z⟩
 refine Xl (fun S F iu hS hbef hcl hI => ?_) ?_
 obtain ⟨E, cj, bt, dt, O, ab, hvs⟩ := hI
 exact wpo_fieldAddr (o' := 0) X7 bt Z Z (wpo_nil ⟨E, cj, bt, dt, O, Xj 3 hS hcl Z, Vals.up 0 hvs Z Z Z⟩)
 refine Xl (fun S F iv hS hbef hcl hI => ?_) ?_
 obtain ⟨E, bk, du, dv, O, ab, hvs⟩ := hI
 exact wpo_load1 (v := vi m.t.kind) X1 (Vals.at 0 hvs Z (Xf 1 hbef Z)) ((ag.blk.grown0 bk).cell Z) Z (wpo_nil ⟨E, bk, du, dv, O, Xj 3 hS hcl Z, Vals.up 1 hvs Z Z Z⟩)
 refine Xl (fun S F iw hS hbef hcl hI => ?_) ?_
 obtain ⟨E, ck, dw, dx, O, ab, hvs⟩ := hI
 obtain ⟨dz, af, ac, V, ae⟩ := O (Xf 0 hbef rfl)
 exact wpo_indexAddr (o' := (m.t.kind).toNat * 1) Xc8 dz (Vals.at 1 hvs Z (Xf 2 hbef Z)) (by omega) (by omega) (by omega) Z (wpo_nil ⟨E, ck, dw, dx, O, fun _ => Z, Vals.keep hvs Z⟩)
 refine Xl (fun S F ix hS hbef hcl hI => ?_) ?_
 obtain ⟨E, cm, d0, d5, O, ab, hvs⟩ := hI
 obtain ⟨gt, af, ac, V, ae⟩ := O (Xf 0 hbef rfl)
 obtain d6 := ab (Xf 3 hbef rfl)
 exact wpo_load1 (v := .string ⟨(kname m.t.kind).toArray⟩) Xfj d6 ((Jg Xam ac (Tj (k := m.t.kind) (by omega))) 0 _ Z) Z (wpo_nil ⟨E, cm, d0, d5, O, ab, Vals.up 2 hvs Z Z Z⟩)
 refine Xl (fun S F iy hS hbef hcl hI => ?_) ?_
 obtain ⟨E, cn, d7, d8, O, ab, hvs⟩ := hI
 obtain ⟨gu, af, ac, V, ae⟩ := O (Xf 0 hbef rfl)
 obtain gv := ab (Xf 3 hbef rfl)
 exact wpo_cat (a := kname m.t.kind) (b := ([32] : List UInt8)) (Vals.at 2 hvs Z (Xf 4 hbef Z)) Z (nt (Ki m.t.kind) (by decide)) (nt (Nat.le_refl _) (by decide)) Z (wpo_nil ⟨E, cn, d7, d8, O, ab, Vals.up 3 hvs Z Z Z⟩)
 refine Xl (fun S F iz hS hbef hcl hI => ?_) ?_
 obtain ⟨E, co, bu, d9, O, ab, hvs⟩ := hI
 exact wpo_fieldAddr (o' := 1) Ke bu Z Z (wpo_nil ⟨E, co, bu, d9, O, ab, Vals.up 4 hvs Z Z Z⟩)
 refine Xl (fun S F i0 hS hbef hcl hI => ?_) ?_
 obtain ⟨E, bl, ea, ed, O, ab, hvs⟩ := hI
 exact wpo_loadn (vs := [vi m.t.lab.s, vi m.t.lab.v]) Yd (Vals.at 4 hvs Z (Xf 6 hbef Z)) Z ((ag.blk.grown0 bl).rangeL 1 2 Z) Z (wpo_nil ⟨E, bl, ea, ed, O, ab, Vals.up 5 hvs Z Z Z⟩)
 refine Xl (fun S F i1 hS hbef hcl hI => ?_) ?_
 obtain ⟨E, cw, ee, ef, O, ab, hvs⟩ := hI
 refine Xi Xdh (Xb (Vals.at 5 hvs Z (Xf 7 hbef Z)) Xg) Z (Xa8 m.t.lab _) ?_
 rintro _ i2 ⟨rfl, bf⟩
 exact wpo_nil ⟨E, (low0 cw bf), ee, ef, fun h => let ⟨ft, fu, fv, fw, fx⟩ := O h; ⟨ft, fu, (fv).grown0 bf, fw, fx⟩, ab, Vals.up 6 hvs Z Z Z⟩
 refine Xl (fun S F i3 hS hbef hcl hI => ?_) ?_
 obtain ⟨E, cx, eh, ei, O, ab, hvs⟩ := hI
 obtain ⟨gw, af, ac, V, ae⟩ := O (Xf 0 hbef rfl)
 obtain gx := ab (Xf 3 hbef rfl)
 exact wpo_cat (a := ((kname m.t.kind) ++ ([32] : List UInt8))) (b := labtx m.t.lab) (Vals.at 3 hvs Z (Xf 5 hbef Z)) (Vals.at 6 hvs Z (Xf 8 hbef Z)) (nt (Yt (Ki m.t.kind) (Nat.le_refl _)) (by decide)) (nt (Kv m.t.lab) (by decide)) Z (wpo_nil ⟨E, cx, eh, ei, O, ab, Vals.up 7 hvs Z Z Z⟩)
 refine Xl (fun S F i4 hS hbef hcl hI => ?_) ?_
 obtain ⟨E, cy, ej, eu, O, ab, hvs⟩ := hI
 obtain ⟨gy, af, ac, V, ae⟩ := O (Xf 0 hbef rfl)
 obtain gz := ab (Xf 3 hbef rfl)
 exact wpo_cat (a := (((kname m.t.kind) ++ ([32] : List UInt8)) ++ (labtx m.t.lab))) (b := ([32] : List UInt8)) (Vals.at 7 hvs Z (Xf 9 hbef Z)) Z (nt (Yt (Yt (Ki m.t.kind) (Nat.le_refl _)) (Kv m.t.lab)) (by decide)) (nt (Nat.le_refl _) (by decide)) Z (wpo_nil ⟨E, cy, ej, eu, O, ab, Vals.up 8 hvs Z Z Z⟩)
 refine Xl (fun S F i5 hS hbef hcl hI => ?_) ?_
 obtain ⟨E, cz, bv, ew, O, ab, hvs⟩ := hI
 exact wpo_fieldAddr (o' := 3) Q5 bv Z Z (wpo_nil ⟨E, cz, bv, ew, O, ab, Vals.up 9 hvs Z Z Z⟩)
 refine Xl (fun S F i6 hS hbef hcl hI => ?_) ?_
 obtain ⟨E, bm, ex, ey, O, ab, hvs⟩ := hI
 exact wpo_load1 (v := vi m.t.ve) X1 (Vals.at 9 hvs Z (Xf 11 hbef Z)) ((ag.blk.grown0 bm).cell Z) Z (wpo_nil ⟨E, bm, ex, ey, O, ab, Vals.up 10 hvs Z Z Z⟩)
 refine Xl (fun S F i7 hS hbef hcl hI => ?_) ?_
 obtain ⟨E, da, ez, fa, O, ab, hvs⟩ := hI
 refine Xi K3 (Xb (Vals.at 10 hvs Z (Xf 12 hbef Z)) Xg) Z (Ws m.t.ve (by omega) _) ?_
 rintro _ i8 ⟨rfl, bg⟩
 exact wpo_nil ⟨E, (low0 da bg), ez, fa, fun h => let ⟨fy, fz, f7, f8, f9⟩ := O h; ⟨fy, fz, (f7).grown0 bg, f8, f9⟩, ab, Vals.up 11 hvs Z Z Z⟩
 refine Xl (fun S F i9 hS hbef hcl hI => ?_) ?_
 obtain ⟨E, db, fb, fc, O, ab, hvs⟩ := hI
 obtain ⟨g4, af, ac, V, ae⟩ := O (Xf 0 hbef rfl)
 obtain g7 := ab (Xf 3 hbef rfl)
 exact wpo_cat (a := ((((kname m.t.kind) ++ ([32] : List UInt8)) ++ (labtx m.t.lab)) ++ ([32] : List UInt8))) (b := dec m.t.ve) (Vals.at 8 hvs Z (Xf 10 hbef Z)) (Vals.at 11 hvs Z (Xf 13 hbef Z)) (nt (Yt (Yt (Yt (Ki m.t.kind) (Nat.le_refl _)) (Kv m.t.lab)) (Nat.le_refl _)) (by decide)) (nt (Yz m.t.ve) (by decide)) Z (wpo_nil ⟨E, db, fb, fc, O, ab, Vals.up 12 hvs Z Z Z⟩)
 refine Xl (fun S F ja hS hbef hcl hI => ?_) ?_
 obtain ⟨E, dc, fd, fe, O, ab, hvs⟩ := hI
 obtain ⟨g8, af, ac, V, ae⟩ := O (Xf 0 hbef rfl)
 obtain g9 := ab (Xf 3 hbef rfl)
 exact wpo_cat (a := (((((kname m.t.kind) ++ ([32] : List UInt8)) ++ (labtx m.t.lab)) ++ ([32] : List UInt8)) ++ (dec m.t.ve))) (b := ([32] : List UInt8)) (Vals.at 12 hvs Z (Xf 14 hbef Z)) Z (nt (Yt (Yt (Yt (Yt (Ki m.t.kind) (Nat.le_refl _)) (Kv m.t.lab)) (Nat.le_refl _)) (Yz m.t.ve)) (by decide)) (nt (Nat.le_refl _) (by decide)) Z (wpo_nil ⟨E, dc, fd, fe, O, ab, Vals.up 13 hvs Z Z Z⟩)
 refine Xl (fun S F jb hS hbef hcl hI => ?_) ?_
 obtain ⟨E, de, bw, ff, O, ab, hvs⟩ := hI
 exact wpo_fieldAddr (o' := 4) Q9 bw Z Z (wpo_nil ⟨E, de, bw, ff, O, ab, Vals.up 14 hvs Z Z Z⟩)
 refine Xl (fun S F jc hS hbef hcl hI => ?_) ?_
 obtain ⟨E, bn, fg, fh, O, ab, hvs⟩ := hI
 exact wpo_load1 (v := vi m.t.num) X1 (Vals.at 14 hvs Z (Xf 16 hbef Z)) ((ag.blk.grown0 bn).cell Z) Z (wpo_nil ⟨E, bn, fg, fh, O, ab, Vals.up 15 hvs Z Z Z⟩)
 refine Xl (fun S F jd hS hbef hcl hI => ?_) ?_
 obtain ⟨E, dh, fi, fj, O, ab, hvs⟩ := hI
 refine Xi K3 (Xb (Vals.at 15 hvs Z (Xf 17 hbef Z)) Xg) Z (Ws m.t.num (by omega) _) ?_
 rintro _ je ⟨rfl, bh⟩
 exact wpo_nil ⟨E, (low0 dh bh), fi, fj, fun h => let ⟨gb, gc, gf, gg, gh⟩ := O h; ⟨gb, gc, (gf).grown0 bh, gg, gh⟩, ab, Vals.up 16 hvs Z Z Z⟩
 exact Jp
 intro S F jf hall hI
 obtain ⟨E, bp, fk, fm, O, ab, hvs⟩ := hI
 obtain ⟨ia, af, ac, V, ae⟩ := O (hall 0 (by decide))
 obtain ib := ab (hall 3 (by decide))
 refine wpo_cat (a := ((((((kname m.t.kind) ++ ([32] : List UInt8)) ++ (labtx m.t.lab)) ++ ([32] : List UInt8)) ++ (dec m.t.ve)) ++ ([32] : List UInt8))) (b := dec m.t.num) (Vals.at 13 hvs Z (hall 15 (by decide))) (Vals.at 16 hvs Z (hall 18 (by decide))) (nt (Yt (Yt (Yt (Yt (Yt (Ki m.t.kind) (Nat.le_refl _)) (Kv m.t.lab)) (Nat.le_refl _)) (Yz m.t.ve)) (Nat.le_refl _)) (by decide)) (nt (Yz m.t.num) (by decide)) Z (wpo_assign (v := .string ⟨(((((((kname m.t.kind) ++ ([32] : List UInt8)) ++ (labtx m.t.lab)) ++ ([32] : List UInt8)) ++ (dec m.t.ve)) ++ ([32] : List UInt8)) ++ (dec m.t.num)).toArray⟩) Z Z (wpo_nil (Xo (Xk (Xa (wpo_assign (v := vi 0) Z Z (wpo_nil (Xv (Yg (fun mm f' w' => ∃ (k : Nat), mm = m.t.slots.length - k ∧ k ≤ m.t.slots.length ∧ f' 3 = .string ⟨(ah3 m.t k).toArray⟩ ∧ f' 4 = vi (k : Int) ∧ f' 1 = pt ah 0 ∧ f' 2 = .string ⟨([] : List UInt8).toArray⟩ ∧ w.grownBy w' none ∧ Blk w' ah 35 #[vi m.t.kind, vi m.t.lab.s, vi m.t.lab.v, vi m.t.ve, vi m.t.num, .slice m.sa m.t.slots.length m.sc, .slice m.qa m.t.queue.length m.qc, vi m.t.to]) (m.t.slots.length - 0) ⟨0, Z, (Nat.zero_le _), (congrArg sv (by first | exact Xb6 _ | exact Xb7 ‹_›)), Z, fk, fm, (low0 be bp), (ag.blk.grown0 bp)⟩ ?_)))))))))
 rintro mm ic jg ⟨k, gj, hk, bz, a8, av, ca, au, aw⟩
 refine Xk (Xa (wpo_move (v := vi (k : Int)) a8 Z (wpo_fieldAddr (o' := 5) Qe av Z Z (wpo_load1 (v := .slice m.sa m.t.slots.length m.sc) Jt Z (aw.cell Z) Z (wpo_len (by kernel_rfl) Z Z (wpo_lss (q := decide ((k : Int) < (m.t.slots.length : Int))) Z Z Z Z (wpo_nil (Xt Z (fun bc => ?_) (fun bc => ?_)))))))))
 have ig := of_decide_eq_true bc
 refine Xn (Xo (Xk (Xv (Xr (wpo_move (v := .string ⟨(ah3 m.t k).toArray⟩) bz Z (wpo_cat (a := ah3 m.t k) (b := ([32] : List UInt8)) Z Z (nt (Nt ap) (by decide)) (nt (Nat.le_refl _) (by decide)) Z (wpo_fieldAddr (o' := 5) Qe av Z Z (wpo_load1 (v := .slice m.sa m.t.slots.length m.sc) Jt Z (aw.cell Z) Z (wpo_move (v := vi (k : Int)) a8 Z ?_)))))))))
 obtain ⟨ai, dn⟩ := Qo (l := m.t.slots) (i := k) (by omega)
 obtain ⟨gq, iq, io, cd, di, dl⟩ := SlAt.at hs (Yw dn)
 refine X6 G2 Z Z cd di (by omega) (by omega) Z (wpo_loadn (vs := [vi ai.th, vi ai.ve, vb ai.rd, vb ai.wr, vb ai.wk]) Y9 Z Z (Qh (Y8 dl au) 0 5 Z) Z (Xi Xdi (Xb Z Xg) Z (Xe8 ai _) ?_))
 rintro _ jh ⟨rfl, bi⟩
 exact wpo_cat (a := ((ah3 m.t k) ++ ([32] : List UInt8))) (b := rtx ai) Z Z (nt (Yt (Nt ap) (Nat.le_refl _)) (by decide)) (nt (Mt ai) (by decide)) Z (wpo_assign (v := .string ⟨(((ah3 m.t k) ++ ([32] : List UInt8)) ++ (rtx ai)).toArray⟩) Z Z (wpo_nil (Y3 (Xo (Xr (wpo_move (v := vi (k : Int)) a8 Z (wpo_add (c := (k : Int) + 1) Z Z (by omega) (by omega) (by omega) Z (wpo_assign (v := vi ((k : Int) + 1)) Z Z (wpo_nil (Xo (⟨m.t.slots.length - (k + 1), by omega, (k + 1), rfl, (by omega), (congrArg sv (by first | exact Xb6 _ | exact Xb7 ‹_›)), rfl, av, ca, (low0 au bi), (aw.grown0 bi)⟩)))))))))))
 have ii := of_decide_eq_false bc
 refine Yo (Yx (Yx (Jm (Xo (Xk (Xa (wpo_assign (v := vi 0) Z Z (wpo_nil (Xv (Yg (fun mm f' w' => ∃ (j : Nat), mm = m.t.queue.length - j ∧ j ≤ m.t.queue.length ∧ f' 3 = .string ⟨(bh3 m.t j).toArray⟩ ∧ f' 5 = vi (j : Int) ∧ f' 1 = pt ah 0 ∧ f' 2 = .string ⟨([] : List UInt8).toArray⟩ ∧ w.grownBy w' none ∧ Blk w' ah 35 #[vi m.t.kind, vi m.t.lab.s, vi m.t.lab.v, vi m.t.ve, vi m.t.num, .slice m.sa m.t.slots.length m.sc, .slice m.qa m.t.queue.length m.qc, vi m.t.to]) (m.t.queue.length - 0) ⟨0, Z, (Nat.zero_le _), (bz.trans (congrArg sv (by first | exact Xb9 (by omega) (by omega) | exact Xca ‹_›))), Z, av, ca, au, aw⟩ ?_))))))))))
 rintro mm ie ji ⟨j, gl, hj, a9, ba, an, fp, al, aq⟩
 refine Xk (Xa (wpo_move (v := vi (j : Int)) ba Z (wpo_fieldAddr (o' := 6) Q2 an Z Z (wpo_load1 (v := .slice m.qa m.t.queue.length m.qc) Kc Z (aq.cell Z) Z (wpo_len (by kernel_rfl) Z Z (wpo_lss (q := decide ((j : Int) < (m.t.queue.length : Int))) Z Z Z Z (wpo_nil (Xt Z (fun bd => ?_) (fun bd => ?_)))))))))
 have ij := of_decide_eq_true bd
 refine Xn (Xo (Xk (Xv (Xr (wpo_move (v := .string ⟨(bh3 m.t j).toArray⟩) a9 Z (wpo_cat (a := bh3 m.t j) (b := ([32, 60] : List UInt8)) Z Z (nt (Vt ap az) (by decide)) (nt (Nat.le_refl _) (by decide)) Z (wpo_fieldAddr (o' := 6) Q2 an Z Z (wpo_load1 (v := .slice m.qa m.t.queue.length m.qc) Kc Z (aq.cell Z) Z (wpo_move (v := vi (j : Int)) ba Z ?_)))))))))
 obtain ⟨ar, bq⟩ := Qo (l := m.t.queue) (i := j) (by omega)
 obtain ⟨gr, ir, ip, ce, dk, dm⟩ := SlAt.at hq (Yw bq)
 refine X6 K0 Z Z ce dk (by omega) (by omega) Z (wpo_load1 (v := vi ar) X1 Z ((Y8 dm al) 0 _ Z) Z (Xi K3 (Xb Z Xg) Z (Ws ar (by have jl := gp _ (List.mem_of_getElem? bq); omega) _) ?_))
 rintro _ jj ⟨rfl, bj⟩
 exact wpo_cat (a := ((bh3 m.t j) ++ ([32, 60] : List UInt8))) (b := dec ar) Z Z (nt (Yt (Vt ap az) (Nat.le_refl _)) (by decide)) (nt (Yz ar) (by decide)) Z (wpo_assign (v := .string ⟨(((bh3 m.t j) ++ ([32, 60] : List UInt8)) ++ (dec ar)).toArray⟩) Z Z (wpo_nil (Y3 (Xo (Xr (wpo_move (v := vi (j : Int)) ba Z (wpo_add (c := (j : Int) + 1) Z Z (by omega) (by omega) (by omega) Z (wpo_assign (v := vi ((j : Int) + 1)) Z Z (wpo_nil (Xo (⟨m.t.queue.length - (j + 1), by omega, (j + 1), rfl, (by omega), (congrArg sv (by first | exact Xb9 (by omega) (by omega) | exact Xca ‹_›)), rfl, an, fp, (low0 al bj), (aq.grown0 bj)⟩)))))))))))
 have ik := of_decide_eq_false bd
 refine Yo (Yx (Yx (Jm (Xo (Xk (Xa (wpo_fieldAddr (o' := 0) X7 an Z Z (wpo_load1 (v := vi m.t.kind) X1 Z (aq.cell Z) Z (wpo_eql (q := decide (m.t.kind = 5)) Z Z Z Z (wpo_nil (Xt Z (fun ao => ?_) (fun ao => ?_))))))))))))
 have il := of_decide_eq_true ao
 refine Xr (wpo_move (v := .string ⟨(bh3 m.t j).toArray⟩) a9 Z (wpo_cat (a := bh3 m.t j) (b := ([32, 62] : List UInt8)) Z Z (nt (Vt ap az) (by decide)) (nt (Nat.le_refl _) (by decide)) Z (wpo_fieldAddr (o' := 7) Jv an Z Z (wpo_load1 (v := vi m.t.to) X1 Z (aq.cell Z) Z (Xi K3 (Xb Z Xg) Z (Ws m.t.to (by omega) _) ?_)))))
 rintro _ jk ⟨rfl, cg⟩
 refine wpo_cat (a := ((bh3 m.t j) ++ ([32, 62] : List UInt8))) (b := dec m.t.to) Z Z (nt (Yt (Vt ap az) (Nat.le_refl _)) (by decide)) (nt (Yz m.t.to) (by decide)) Z (wpo_assign (v := .string ⟨(((bh3 m.t j) ++ ([32, 62] : List UInt8)) ++ (dec m.t.to)).toArray⟩) Z Z (wpo_nil (Xo (Xa (wpo_move (v := .string ⟨(((bh3 m.t j) ++ ([32, 62] : List UInt8)) ++ (dec m.t.to)).toArray⟩) Z Z (wpo_cat (a := (((bh3 m.t j) ++ ([32, 62] : List UInt8)) ++ (dec m.t.to))) (b := ([10] : List UInt8)) Z Z (nt (Yt (Yt (Vt ap az) (Nat.le_refl _)) (Yz m.t.to)) (by decide)) (nt (Nat.le_refl _) (by decide)) Z (wpo_assign (v := .string ⟨((((bh3 m.t j) ++ ([32, 62] : List UInt8)) ++ (dec m.t.to)) ++ ([10] : List UInt8)).toArray⟩) Z Z (wpo_nil (Xm (⟨.string ⟨((((bh3 m.t j) ++ ([32, 62] : List UInt8)) ++ (dec m.t.to)) ++ ([10] : List UInt8)).toArray⟩, res1 Z Z, ?_, (low0 al cg)⟩))))))))))
 exact congrArg sv (by unfold thtx; rw [if_pos (of_decide_eq_true ao), T9 (by omega) (by omega)])
 have im := of_decide_eq_false ao
 refine Xn (Xo (Xa (wpo_move (v := .string ⟨(bh3 m.t j).toArray⟩) a9 Z (wpo_cat (a := bh3 m.t j) (b := ([10] : List UInt8)) Z Z (nt (Vt ap az) (by decide)) (nt (Nat.le_refl _) (by decide)) Z (wpo_assign (v := .string ⟨((bh3 m.t j) ++ ([10] : List UInt8)).toArray⟩) Z Z (wpo_nil (Xm (⟨.string ⟨((bh3 m.t j) ++ ([10] : List UInt8)).toArray⟩, res1 Z Z, ?_, al⟩))))))))
 exact congrArg sv (by unfold thtx; rw [if_neg (of_decide_eq_false ao), T9 (by omega) (by omega)])
theorem Rl [Comp] (w : World) (ms : List MTh) (hT : ∀ i, i < ms.length → thingOk (mAt ms i).t = true) (h8 : ms.length ≤ 8) (a : Option Addr) (c : Nat) (ht : TabAt w a ms) (hlen : TabLen ms) (hn : ms.length ≤ 1048576) : CallsR Try.prog 62 #[.slice a ms.length c] w (fun v w' => v = .string ⟨(ttx (tabT ms) ms.length).toArray⟩ ∧ w.grownBy w' none) := by
 refine Xq (n := 24) Try.func62 Z Try.ntmps62 Z (Xa (wpo_assign (v := .string ⟨([] : List UInt8).toArray⟩) Z Z (wpo_nil (Xa (wpo_assign (v := .string ⟨([] : List UInt8).toArray⟩) Z Z (wpo_nil (Xk (Xa (wpo_assign (v := vi 0) Z Z (wpo_nil (Xv (Yg (fun mm f' w' => ∃ (k : Nat), mm = ms.length - k ∧ k ≤ ms.length ∧ f' 3 = .string ⟨(ttx (tabT ms) k).toArray⟩ ∧ f' 4 = vi (k : Int) ∧ f' 0 = .slice a ms.length c ∧ f' 2 = .string ⟨([] : List UInt8).toArray⟩ ∧ w.grownBy w' none) (ms.length - 0) ⟨0, Z, (Nat.zero_le _), (congrArg sv (by first | rfl | exact Xac (by omega))), Z, Z, Z, (World.grownBy.refl w none)⟩ ?_))))))))))))
 rintro mm bf bc ⟨k, be, hk, ag, O, V, a9, E⟩
 refine Xk (Xa (wpo_move (v := vi (k : Int)) O Z (wpo_move (v := .slice a ms.length c) V Z (wpo_len (by kernel_rfl) Z Z (wpo_lss (q := decide ((k : Int) < (ms.length : Int))) Z Z Z Z (wpo_nil (Xt Z (fun ab => ?_) (fun ab => ?_))))))))
 have bg := of_decide_eq_true ab
 refine Xn (Xo (Xk (Xv ?_)))
 obtain ⟨a8, bi, ba, ah, aw, az⟩ := SlAt.at (TabAt.low ht E).1 (Yw (xg ms k))
 have bd := TabLen.at hlen (xg ms k)
 refine Yl (m := 11) (vals := [(11, .string ⟨(ttx (tabT ms) k).toArray⟩), (12, vi (k : Int)), (13, vi ((k : Int) + 1)), (14, .string ⟨(dec ((k : Int) + 1)).toArray⟩), (15, .string ⟨((ttx (tabT ms) k) ++ (dec ((k : Int) + 1))).toArray⟩), (16, .string ⟨(((ttx (tabT ms) k) ++ (dec ((k : Int) + 1))) ++ ([32] : List UInt8)).toArray⟩), (17, .slice a ms.length c), (18, vi (k : Int)), (19, pt a8 ba), (20, .agg #[vi (mAt ms k).t.kind, vi (mAt ms k).t.lab.s, vi (mAt ms k).t.lab.v, vi (mAt ms k).t.ve, vi (mAt ms k).t.num, .slice (mAt ms k).sa (mAt ms k).t.slots.length (mAt ms k).sc, .slice (mAt ms k).qa (mAt ms k).t.queue.length (mAt ms k).qc, vi (mAt ms k).t.to]), (21, .string ⟨(thtx (mAt ms k).t).toArray⟩)]) (fun w' => bc.grownBy w' none) Yu (by kernel_rfl) (Xx _) ?_ ?_
 refine Xc Z (fun bj ak => ?_) ?_
 exact wpo_move (v := .string ⟨(ttx (tabT ms) k).toArray⟩) ag Z (wpo_nil ⟨Z, ak⟩)
 refine Xc Z (fun bk al => ?_) ?_
 exact wpo_move (v := vi (k : Int)) O Z (wpo_nil ⟨Z, al⟩)
 refine Xc Z (fun bl am => ?_) ?_
 exact wpo_add (c := (k : Int) + 1) Z Z (by omega) (by omega) (by omega) Z (wpo_nil ⟨Z, am⟩)
 refine Xc Z (fun bm an => ?_) ?_
 refine Xi K3 (Xb Z Xg) Z (Ws ((k : Int) + 1) (by omega) _) ?_
 rintro _ bn ⟨rfl, ai⟩
 exact wpo_nil ⟨Z, (Xh an ai)⟩
 refine Xc Z (fun bp ao => ?_) ?_
 exact wpo_cat (a := ttx (tabT ms) k) (b := dec ((k : Int) + 1)) Z Z (nt (Pm hT h8 hk) (by decide)) (nt (Yz ((k : Int) + 1)) (by decide)) Z (wpo_nil ⟨Z, ao⟩)
 refine Xc Z (fun bq ap => ?_) ?_
 exact wpo_cat (a := (ttx (tabT ms) k) ++ (dec ((k : Int) + 1))) (b := ([32] : List UInt8)) Z Z (nt (Yt (Pm hT h8 hk) (Yz ((k : Int) + 1))) (by decide)) (nt (Nat.le_refl _) (by decide)) Z (wpo_nil ⟨Z, ap⟩)
 refine Xc Z (fun br aq => ?_) ?_
 exact wpo_move (v := .slice a ms.length c) V Z (wpo_nil ⟨Z, aq⟩)
 refine Xc Z (fun bt ar => ?_) ?_
 exact wpo_move (v := vi (k : Int)) O Z (wpo_nil ⟨Z, ar⟩)
 refine Xc Z (fun bu au => ?_) ?_
 exact X6 Qj Z Z ah aw (by omega) (by omega) Z (wpo_nil ⟨Z, au⟩)
 refine Xc Z (fun bv ae => ?_) ?_
 exact wpo_loadn (vs := [vi (mAt ms k).t.kind, vi (mAt ms k).t.lab.s, vi (mAt ms k).t.lab.v, vi (mAt ms k).t.ve, vi (mAt ms k).t.num, .slice (mAt ms k).sa (mAt ms k).t.slots.length (mAt ms k).sc, .slice (mAt ms k).qa (mAt ms k).t.queue.length (mAt ms k).qc, vi (mAt ms k).t.to]) X0 Z Z (Qh (Y8 az ae) 0 8 Z) Z (wpo_nil ⟨Z, ae⟩)
 refine Xc Z (fun bw af => ?_) ?_
 have ac := low0 E af
 refine Xi Xdc (Xb Z Xg) Z (Xdp (mAt ms k) _ (hT k (by omega)) (TabAt.th (TabAt.low ht ac) (xg ms k)).1 (TabAt.th (TabAt.low ht ac) (xg ms k)).2.1 (by first | omega | exact Nat.le_of_ble_eq_true rfl | (simp only [List.length_nil, List.length_cons, List.length_append, List.length_replicate]; omega)) (by first | omega | exact Nat.le_of_ble_eq_true rfl | (simp only [List.length_nil, List.length_cons, List.length_append, List.length_replicate]; omega))) ?_
 rintro _ bz ⟨rfl, aj⟩
 exact wpo_nil ⟨Z, (Xh af aj)⟩
 exact Y2
 intro ca av
 exact wpo_cat (a := (((ttx (tabT ms) k) ++ (dec ((k : Int) + 1))) ++ ([32] : List UInt8))) (b := thtx (mAt ms k).t) Z Z (nt (Yt (Yt (Pm hT h8 hk) (Yz ((k : Int) + 1))) (Nat.le_refl _)) (by decide)) (nt (Sj (hT k (by omega))) (by decide)) Z (wpo_assign (v := .string ⟨((((ttx (tabT ms) k) ++ (dec ((k : Int) + 1))) ++ ([32] : List UInt8)) ++ (thtx (mAt ms k).t)).toArray⟩) Z Z (wpo_nil (Y3 (Xo (Xr (wpo_move (v := vi (k : Int)) O Z (wpo_add (c := (k : Int) + 1) Z Z (by omega) (by omega) (by omega) Z (wpo_assign (v := vi ((k : Int) + 1)) Z Z (wpo_nil (Xo (⟨ms.length - (k + 1), by omega, (k + 1), rfl, (by omega), (congrArg sv (by first | rfl | exact Xac (by omega))), rfl, V, a9, (low0 E av)⟩)))))))))))
 have bh := of_decide_eq_false ab
 refine Yo (Yx (Yx (Jm (Xo (Xa (wpo_move (v := .string ⟨(ttx (tabT ms) k).toArray⟩) ag Z (wpo_assign (v := .string ⟨(ttx (tabT ms) k).toArray⟩) Z Z (wpo_nil (Xm (⟨.string ⟨(ttx (tabT ms) k).toArray⟩, res1 Z Z, ?_, E⟩))))))))))
 exact congrArg (fun z : List UInt8 => Value.string ⟨z.toArray⟩) ((congrArg (ttx (tabT ms)) (by omega)))
end Go.Dw.J
end
section
namespace Go.Dw.J
open Go.RowKit Go.Dw Go.Proofs
set_option linter.unusedSectionVars false
set_option maxRecDepth 100000
set_option maxHeartbeats 4000000
set_option linter.unusedSimpArgs false
set_option linter.unusedVariables false
theorem Xcj : goFn Try.prog 44 = true := by kernel_rfl
theorem Xcn : goFn Try.prog 62 = true := by kernel_rfl
theorem G7 [Comp] (l : Lab) (w : World) (ms ps : List MTh) (a b : Option Addr) (c e : Nat) (ht : TabAt w a ms) (hp : TabAt w b ps) (hlen : TabLen ms) (hlep : TabLen ps) (hn : ms.length ≤ 1048576) (hm : ps.length ≤ 1048576) : CallsR Try.prog 26 #[.slice a ms.length c, .slice b ps.length e, .agg #[vi l.s, vi l.v]] w (fun v w' => v = vb (viewSame (tabT ms) (tabT ps) l) ∧ w.grownBy w' none) := by
 refine Xq (n := 28) Try.func26 Z Try.ntmps26 Z ?_
 have ai := World.grownBy.refl w none
 rcases Xz (tableOk (tabT ms)) with ab | ab
 rcases Xz (tableOk (tabT ps)) with af | af
 rcases Xz (labelOk l) with ac | ac
 refine Xa (wpo_box (v := .agg #[vi l.s, vi l.v]) (cs := #[vi l.s, vi l.v]) Z Z Z ?_)
 intro ks np aj
 have ol := Xy aj ai
 have an := low0 ai aj.grw
 refine wpo_assign (v := vb false) Z Z (wpo_nil (Xk (Q8 (m := 17) [[], [0], [0, 1], [0, 1, 2], [0, 1, 2, 3], [0, 1, 2, 3, 4], [0, 1, 2, 3, 4, 5], [0, 1, 2, 3, 4, 5, 6], [0, 1, 2, 3, 4, 5, 6, 7], [0, 1, 2, 3, 4, 5, 6, 7, 8], [0, 1, 2, 3, 4, 5, 6, 7, 8, 9], [0, 1, 2, 3, 4, 5, 6, 7, 8, 9, 10], [0, 1, 2, 3, 4, 5, 6, 7, 8, 9, 10], [0, 1, 2, 3, 4, 5, 6, 7, 8, 9, 10, 11, 12], [0, 1, 2, 3, 4, 5, 6, 7, 8, 9, 10, 11, 12, 13], [0, 1, 2, 3, 4, 5, 6, 7, 8, 9, 10], [0, 1, 2, 3, 4, 5, 6, 7, 8, 9, 10], [0, 1, 2, 3, 4, 5, 6, 7, 8, 9, 10, 11, 12, 13, 14, 15, 16], [0, 1, 2, 3, 4, 5, 6, 7, 8, 9, 10, 11, 12, 13, 14, 15, 16, 17], [0, 1, 2, 3, 4, 5, 6, 7, 8, 9, 10, 11, 12, 13, 14, 15, 16, 17, 18], [0, 1, 2, 3, 4, 5, 6, 7, 8, 9, 10, 11, 12, 13, 14, 15, 16, 17, 18, 19], [0, 1, 2, 3, 4, 5, 6, 7, 8, 9, 10, 11, 12, 13, 14, 15, 16, 17, 18, 19, 20]] (fun S F w' => ∃ (E : List MTh) (V : Option Addr) (O : Nat), np.grownBy w' none ∧ F 0 = .slice a ms.length c ∧ F 1 = .slice b ps.length e ∧ F 5 = pt ks 0 ∧ F 6 = vb false ∧ (S 13 = true → F 20 = .slice V E.length O ∧ tabT E = viewTab (tabT ms) l ∧ TabLen E ∧ E.length ≤ ms.length ∧ (V = none → O = 0) ∧ (∀ i, i < E.length → thingOk (mAt E i).t = true) ∧ E.length ≤ 8 ∧ TabAt w' (V) E) ∧ (S 14 = true → F 21 = .string ⟨(ttx (tabT E) E.length).toArray⟩) ∧ Vals S F [(0, 7, .slice a ms.length c), (1, 8, vb (tableOk (tabT ms))), (2, 9, vb (tableOk (tabT ms))), (3, 10, .slice b ps.length e), (4, 11, vb (tableOk (tabT ps))), (5, 12, vb (tableOk (tabT ps))), (6, 13, vb (tableOk (tabT ps))), (7, 14, .agg #[vi l.s, vi l.v]), (8, 15, vb (labelOk l)), (9, 16, vb (labelOk l)), (10, 17, vb (labelOk l)), (11, 18, .slice a ms.length c), (12, 19, .agg #[vi l.s, vi l.v]), (15, 22, .slice b ps.length e), (16, 23, .agg #[vi l.s, vi l.v])]) Yu (by kernel_rfl) ⟨[], none, 0, Xx _, Z, Z, Z, Z, X4, X4, Kn _⟩ ?_ ?_)))
 refine Xl (fun S F rj hS hbef hcl hI => ?_) ?_
 obtain ⟨E, V, O, gy, fp, ku, kv, kw, ae, ag, hvs⟩ := hI
 exact wpo_move (v := .slice a ms.length c) fp Z (wpo_nil ⟨E, V, O, gy, fp, ku, kv, kw, Xj 13 hS hcl Z, Xj 14 hS hcl Z, Vals.up 0 hvs Z Z Z⟩)
 refine Xl (fun S F rk hS hbef hcl hI => ?_) ?_
 obtain ⟨E, V, O, bq, kx, ky, kz, k0, ae, ag, hvs⟩ := hI
 refine Xi Vp (Xb (Vals.at 0 hvs Z (Xf 0 hbef Z)) Xg) Z (Qu  _ ms _ _ (TabAt.low ht (low0 an bq)) hlen (by omega)) ?_
 rintro _ rl ⟨rfl, gf⟩
 exact wpo_nil ⟨E, V, O, (low0 bq gf), kx, ky, kz, k0, Xj 13 hS hcl Z, Xj 14 hS hcl Z, Vals.up 1 hvs Z Z Z⟩
 refine Xl (fun S F rm hS hbef hcl hI => ?_) ?_
 obtain ⟨E, V, O, gz, la, lc, ld, lf, ae, ag, hvs⟩ := hI
 exact wpo_move (v := vb (tableOk (tabT ms))) (Vals.at 1 hvs Z (Xf 1 hbef Z)) Z (wpo_nil ⟨E, V, O, gz, la, lc, ld, lf, Xj 13 hS hcl Z, Xj 14 hS hcl Z, Vals.up 2 hvs Z Z Z⟩)
 refine Xl (fun S F rn hS hbef hcl hI => ?_) ?_
 obtain ⟨E, V, O, g4, lg, fq, lh, li, ae, ag, hvs⟩ := hI
 exact Xd Z Z (Vals.at 2 hvs Z (Xf 2 hbef Z)) ab (wpo_move (v := .slice b ps.length e) fq Z (wpo_nil ⟨E, V, O, g4, lg, fq, lh, li, Xj 13 hS hcl Z, Xj 14 hS hcl Z, Vals.up 3 hvs Z Z Z⟩))
 refine Xl (fun S F rp hS hbef hcl hI => ?_) ?_
 obtain ⟨E, V, O, br, lj, lk, ll, lm, ae, ag, hvs⟩ := hI
 refine Xd Z Z (Vals.at 2 hvs Z (Xf 2 hbef Z)) ab (Xi Vp (Xb (Vals.at 3 hvs Z (Xf 3 hbef Z)) Xg) Z (Qu  _ ps _ _ (TabAt.low hp (low0 an br)) hlep (by omega)) ?_)
 rintro _ rq ⟨rfl, gg⟩
 exact wpo_nil ⟨E, V, O, (low0 br gg), lj, lk, ll, lm, Xj 13 hS hcl Z, Xj 14 hS hcl Z, Vals.up 4 hvs Z Z Z⟩
 refine Xl (fun S F rr hS hbef hcl hI => ?_) ?_
 obtain ⟨E, V, O, g7, ln, lu, lv, lw, ae, ag, hvs⟩ := hI
 exact wpo_pickt (v := vb (tableOk (tabT ps))) (Vals.at 2 hvs Z (Xf 2 hbef Z)) ab (Vals.at 4 hvs Z (Xf 4 hbef Z)) Z (wpo_nil ⟨E, V, O, g7, ln, lu, lv, lw, Xj 13 hS hcl Z, Xj 14 hS hcl Z, Vals.up 5 hvs Z Z Z⟩)
 refine Xl (fun S F ru hS hbef hcl hI => ?_) ?_
 obtain ⟨E, V, O, g8, lx, ly, lz, l0, ae, ag, hvs⟩ := hI
 exact wpo_move (v := vb (tableOk (tabT ps))) (Vals.at 5 hvs Z (Xf 5 hbef Z)) Z (wpo_nil ⟨E, V, O, g8, lx, ly, lz, l0, Xj 13 hS hcl Z, Xj 14 hS hcl Z, Vals.up 6 hvs Z Z Z⟩)
 refine Xl (fun S F rx hS hbef hcl hI => ?_) ?_
 obtain ⟨E, V, O, bt, l3, l4, ft, l5, ae, ag, hvs⟩ := hI
 exact Xd Z Z (Vals.at 6 hvs Z (Xf 6 hbef Z)) af (wpo_loadn (vs := [vi l.s, vi l.v]) Yd ft Z ((aj.blk.grown0 bt).rangeL 0 2 Z) Z (wpo_nil ⟨E, V, O, bt, l3, l4, ft, l5, Xj 13 hS hcl Z, Xj 14 hS hcl Z, Vals.up 7 hvs Z Z Z⟩))
 refine Xl (fun S F ry hS hbef hcl hI => ?_) ?_
 obtain ⟨E, V, O, g9, l6, l7, l8, l9, ae, ag, hvs⟩ := hI
 refine Xd Z Z (Vals.at 6 hvs Z (Xf 6 hbef Z)) af (Xi L2 (Xb (Vals.at 7 hvs Z (Xf 7 hbef Z)) Xg) Z (Kk l _) ?_)
 rintro _ rz ⟨rfl, gh⟩
 exact wpo_nil ⟨E, V, O, (low0 g9 gh), l6, l7, l8, l9, Xj 13 hS hcl Z, Xj 14 hS hcl Z, Vals.up 8 hvs Z Z Z⟩
 refine Xl (fun S F r1 hS hbef hcl hI => ?_) ?_
 obtain ⟨E, V, O, ia, ma, mb, mc, me, ae, ag, hvs⟩ := hI
 exact wpo_pickt (v := vb (labelOk l)) (Vals.at 6 hvs Z (Xf 6 hbef Z)) af (Vals.at 8 hvs Z (Xf 8 hbef Z)) Z (wpo_nil ⟨E, V, O, ia, ma, mb, mc, me, Xj 13 hS hcl Z, Xj 14 hS hcl Z, Vals.up 9 hvs Z Z Z⟩)
 refine Xl (fun S F r2 hS hbef hcl hI => ?_) ?_
 obtain ⟨E, V, O, ib, mf, mg, mh, ml, ae, ag, hvs⟩ := hI
 exact wpo_move (v := vb (labelOk l)) (Vals.at 9 hvs Z (Xf 9 hbef Z)) Z (wpo_nil ⟨E, V, O, ib, mf, mg, mh, ml, Xj 13 hS hcl Z, Xj 14 hS hcl Z, Vals.up 10 hvs Z Z Z⟩)
 refine Xl (fun S F r3 hS hbef hcl hI => ?_) ?_
 obtain ⟨E, V, O, ic, fu, mn, mo, mp, ae, ag, hvs⟩ := hI
 exact Xd Z Z (Vals.at 10 hvs Z (Xf 10 hbef Z)) ac (wpo_move (v := .slice a ms.length c) fu Z (wpo_nil ⟨E, V, O, ic, fu, mn, mo, mp, Xj 13 hS hcl Z, Xj 14 hS hcl Z, Vals.up 11 hvs Z Z Z⟩))
 refine Xl (fun S F r4 hS hbef hcl hI => ?_) ?_
 obtain ⟨E, V, O, bu, mq, mr, fv, mu, ae, ag, hvs⟩ := hI
 exact Xd Z Z (Vals.at 10 hvs Z (Xf 10 hbef Z)) ac (wpo_loadn (vs := [vi l.s, vi l.v]) Yd fv Z ((aj.blk.grown0 bu).rangeL 0 2 Z) Z (wpo_nil ⟨E, V, O, bu, mq, mr, fv, mu, Xj 13 hS hcl Z, Xj 14 hS hcl Z, Vals.up 12 hvs Z Z Z⟩))
 refine Xl (fun S F r5 hS hbef hcl hI => ?_) ?_
 obtain ⟨E, V, O, bv, mv, mw, my, mz, ae, ag, hvs⟩ := hI
 refine Xd Z Z (Vals.at 10 hvs Z (Xf 10 hbef Z)) ac (Xi Xcj (Xb (Vals.at 11 hvs Z (Xf 11 hbef Z)) (Xb (Vals.at 12 hvs Z (Xf 12 hbef Z)) Xg)) Z (Mh l _ ms _ _ (TabAt.low ht (low0 an bv)) hlen (by omega) ab ac) ?_)
 rintro _ r6 ⟨ao, kt, cn, rfl, gb, f8, fj, gi⟩
 have ak := gb.trans (J0 ab ac).symm
 have co := Ku ak hlen
 have fh := V5 ak
 have fk : ∀ i, i < ao.length → thingOk (mAt ao i).t = true := fun i hi => Wo ak ab ac (by have hq := Ju ak ab ac; omega)
 have fz : ao.length ≤ 8 := by have hq := Hr ab; omega
 exact wpo_nil ⟨ao, kt, cn, (low0 bv gi), mv, mw, my, mz, fun _ => ⟨Z, ak, co, fh, fj, fk, fz, f8⟩, Xj 14 hS hcl Z, Vals.keep hvs Z⟩
 refine Xl (fun S F r7 hS hbef hcl hI => ?_) ?_
 obtain ⟨E, V, O, ie, m3, m4, m5, m6, ae, ag, hvs⟩ := hI
 obtain ⟨m7, bn, az, fg, fi, bd, be, bj⟩ := ae (Xf 13 hbef rfl)
 refine Xd Z Z (Vals.at 10 hvs Z (Xf 10 hbef Z)) ac (Xi Xcn (Xb m7 Xg) Z (Rl _ E bd be _ _ bj az (by omega)) ?_)
 rintro _ r8 ⟨rfl, bp⟩
 exact wpo_nil ⟨E, V, O, (low0 ie bp), m3, m4, m5, m6, fun h => let ⟨nz, n5, n7, n8, n9, oa, oc, oe⟩ := ae h; ⟨nz, n5, n7, n8, n9, oa, oc, (oe).low bp⟩, fun _ => Z, Vals.keep hvs Z⟩
 refine Xl (fun S F r9 hS hbef hcl hI => ?_) ?_
 obtain ⟨E, V, O, ig, m8, fw, m9, na, ae, ag, hvs⟩ := hI
 exact Xd Z Z (Vals.at 10 hvs Z (Xf 10 hbef Z)) ac (wpo_move (v := .slice b ps.length e) fw Z (wpo_nil ⟨E, V, O, ig, m8, fw, m9, na, ae, ag, Vals.up 13 hvs Z Z Z⟩))
 refine Xl (fun S F sb hS hbef hcl hI => ?_) ?_
 obtain ⟨E, V, O, bw, nb, nc, fx, nd, ae, ag, hvs⟩ := hI
 exact Xd Z Z (Vals.at 10 hvs Z (Xf 10 hbef Z)) ac (wpo_loadn (vs := [vi l.s, vi l.v]) Yd fx Z ((aj.blk.grown0 bw).rangeL 0 2 Z) Z (wpo_nil ⟨E, V, O, bw, nb, nc, fx, nd, ae, ag, Vals.up 14 hvs Z Z Z⟩))
 exact Jp
 intro S F sd hall hI
 obtain ⟨E, V, O, ii, ra, rf, rg, rh, ae, ag, hvs⟩ := hI
 have bk := low0 an ii
 have am := Vals.at 10 hvs rfl (hall 10 (by decide))
 obtain ⟨ri, bn, az, fg, fi, bd, be, bj⟩ := ae (hall 13 (by decide))
 obtain nf := ag (hall 14 (by decide))
 refine Xd Z Z am ac (Xi Xcj (Xb (Vals.at 13 hvs Z (hall 15 (by decide))) (Xb (Vals.at 14 hvs Z (hall 16 (by decide))) Xg)) Z (Mh l _ ps _ _ (TabAt.low hp bk) hlep (by omega) af ac) ?_)
 rintro _ se ⟨ah, q9, oh, rfl, gc, f9, ox, gj⟩
 have al := gc.trans (J0 af ac).symm
 have cw := Ku al hlep
 have ow := V5 al
 have fm : ∀ i, i < ah.length → thingOk (mAt ah i).t = true := fun i hi => Wo al af ac (by have hq := Ju al af ac; omega)
 have f7 : ah.length ≤ 8 := by have hq := Hr af; omega
 refine Xd Z Z am ac (Xi Xcn (Xb Z Xg) Z (Rl _ ah fm f7 _ _ f9 cw (by omega)) ?_)
 rintro _ sf ⟨rfl, gl⟩
 refine Xd Z Z am ac (wpo_seql (q := decide ((ttx (tabT E) E.length) = (ttx (tabT ah) ah.length))) nf Z Z Z (wpo_pickt (v := vb (decide ((ttx (tabT E) E.length) = (ttx (tabT ah) ah.length)))) am ac Z Z (wpo_assign (v := vb (decide ((ttx (tabT E) E.length) = (ttx (tabT ah) ah.length)))) Z Z (wpo_nil (Xo (Xm (⟨vb (decide ((ttx (tabT E) E.length) = (ttx (tabT ah) ah.length))), res1 Z Z, ?_, (low0 (low0 bk gj) gl)⟩)))))))
 exact cB (Pp bn al ab af ac)
 refine Xa (wpo_box (v := .agg #[vi l.s, vi l.v]) (cs := #[vi l.s, vi l.v]) Z Z Z ?_)
 intro q4 nq ap
 have om := Xy ap ai
 have aq := low0 ai ap.grw
 refine wpo_assign (v := vb false) Z Z (wpo_nil (Xk (Yl (m := 17) (vals := [(7, .slice a ms.length c), (8, vb (tableOk (tabT ms))), (9, vb (tableOk (tabT ms))), (10, .slice b ps.length e), (11, vb (tableOk (tabT ps))), (12, vb (tableOk (tabT ps))), (13, vb (tableOk (tabT ps))), (14, .agg #[vi l.s, vi l.v]), (15, vb (labelOk l)), (16, vb (labelOk l)), (17, vb (labelOk l)), (18, undef), (19, undef), (20, undef), (21, undef), (22, undef), (23, undef)]) (fun w' => nq.grownBy w' none) Yu (by kernel_rfl) (Xx _) ?_ ?_)))
 refine Xc Z (fun sg ij => ?_) ?_
 exact wpo_move (v := .slice a ms.length c) Z Z (wpo_nil ⟨Z, ij⟩)
 refine Xc Z (fun si bz => ?_) ?_
 refine Xi Vp (Xb Z Xg) Z (Qu  _ ms _ _ (TabAt.low ht (low0 aq bz)) hlen (by omega)) ?_
 rintro _ sk ⟨rfl, gm⟩
 exact wpo_nil ⟨Z, (Xh bz gm)⟩
 refine Xc Z (fun sn ik => ?_) ?_
 exact wpo_move (v := vb (tableOk (tabT ms))) Z Z (wpo_nil ⟨Z, ik⟩)
 refine Xc Z (fun so il => ?_) ?_
 exact Xd Z Z Z ab (wpo_move (v := .slice b ps.length e) Z Z (wpo_nil ⟨Z, il⟩))
 refine Xc Z (fun sq ca => ?_) ?_
 refine Xd Z Z Z ab (Xi Vp (Xb Z Xg) Z (Qu  _ ps _ _ (TabAt.low hp (low0 aq ca)) hlep (by omega)) ?_)
 rintro _ sr ⟨rfl, gp⟩
 exact wpo_nil ⟨Z, (Xh ca gp)⟩
 refine Xc Z (fun su im => ?_) ?_
 exact wpo_pickt (v := vb (tableOk (tabT ps))) Z ab Z Z (wpo_nil ⟨Z, im⟩)
 refine Xc Z (fun sw io => ?_) ?_
 exact wpo_move (v := vb (tableOk (tabT ps))) Z Z (wpo_nil ⟨Z, io⟩)
 refine Xc Z (fun sx cc => ?_) ?_
 exact Xd Z Z Z af (wpo_loadn (vs := [vi l.s, vi l.v]) Yd Z Z ((ap.blk.grown0 cc).rangeL 0 2 Z) Z (wpo_nil ⟨Z, cc⟩))
 refine Xc Z (fun sy ip => ?_) ?_
 refine Xd Z Z Z af (Xi L2 (Xb Z Xg) Z (Kk l _) ?_)
 rintro _ s3 ⟨rfl, gq⟩
 exact wpo_nil ⟨Z, (Xh ip gq)⟩
 refine Xc Z (fun s4 iq => ?_) ?_
 exact wpo_pickt (v := vb (labelOk l)) Z af Z Z (wpo_nil ⟨Z, iq⟩)
 refine Xc Z (fun s5 ir => ?_) ?_
 exact wpo_move (v := vb (labelOk l)) Z Z (wpo_nil ⟨Z, ir⟩)
 refine Xc Z (fun s6 is => ?_) ?_
 exact Xe Z Z Z ac Z (wpo_nil ⟨Z, is⟩)
 refine Xc Z (fun s7 it => ?_) ?_
 exact Xe Z Z Z ac Z (wpo_nil ⟨Z, it⟩)
 refine Xc Z (fun s8 iu => ?_) ?_
 exact Xe Z Z Z ac Z (wpo_nil ⟨Z, iu⟩)
 refine Xc Z (fun s9 iv => ?_) ?_
 exact Xe Z Z Z ac Z (wpo_nil ⟨Z, iv⟩)
 refine Xc Z (fun ta iw => ?_) ?_
 exact Xe Z Z Z ac Z (wpo_nil ⟨Z, iw⟩)
 refine Xc Z (fun tc ix => ?_) ?_
 exact Xe Z Z Z ac Z (wpo_nil ⟨Z, ix⟩)
 exact Y2
 intro td iy
 iterate 3 refine Xe rfl rfl rfl ac rfl ?_
 refine wpo_pickf (v := vb false) Z ac Z Z (wpo_assign (v := vb false) Z Z (wpo_nil (Xo (Xm (⟨vb false, res1 Z Z, ?_, (low0 aq iy)⟩)))))
 exact cB (Sl ac).symm
 rcases Xz (labelOk l) with ng | ng
 refine Xa (wpo_box (v := .agg #[vi l.s, vi l.v]) (cs := #[vi l.s, vi l.v]) Z Z Z ?_)
 intro q5 nu bf
 have oq := Xy bf ai
 have ar := low0 ai bf.grw
 refine wpo_assign (v := vb false) Z Z (wpo_nil (Xk (Yl (m := 17) (vals := [(7, .slice a ms.length c), (8, vb (tableOk (tabT ms))), (9, vb (tableOk (tabT ms))), (10, .slice b ps.length e), (11, vb (tableOk (tabT ps))), (12, vb (tableOk (tabT ps))), (13, vb (tableOk (tabT ps))), (14, undef), (15, undef), (16, vb false), (17, vb false), (18, undef), (19, undef), (20, undef), (21, undef), (22, undef), (23, undef)]) (fun w' => nu.grownBy w' none) Yu (by kernel_rfl) (Xx _) ?_ ?_)))
 refine Xc Z (fun te iz => ?_) ?_
 exact wpo_move (v := .slice a ms.length c) Z Z (wpo_nil ⟨Z, iz⟩)
 refine Xc Z (fun tf cd => ?_) ?_
 refine Xi Vp (Xb Z Xg) Z (Qu  _ ms _ _ (TabAt.low ht (low0 ar cd)) hlen (by omega)) ?_
 rintro _ tg ⟨rfl, gr⟩
 exact wpo_nil ⟨Z, (Xh cd gr)⟩
 refine Xc Z (fun ti i0 => ?_) ?_
 exact wpo_move (v := vb (tableOk (tabT ms))) Z Z (wpo_nil ⟨Z, i0⟩)
 refine Xc Z (fun tj i1 => ?_) ?_
 exact Xd Z Z Z ab (wpo_move (v := .slice b ps.length e) Z Z (wpo_nil ⟨Z, i1⟩))
 refine Xc Z (fun tk ce => ?_) ?_
 refine Xd Z Z Z ab (Xi Vp (Xb Z Xg) Z (Qu  _ ps _ _ (TabAt.low hp (low0 ar ce)) hlep (by omega)) ?_)
 rintro _ tn ⟨rfl, gt⟩
 exact wpo_nil ⟨Z, (Xh ce gt)⟩
 refine Xc Z (fun tu i2 => ?_) ?_
 exact wpo_pickt (v := vb (tableOk (tabT ps))) Z ab Z Z (wpo_nil ⟨Z, i2⟩)
 refine Xc Z (fun tv i3 => ?_) ?_
 exact wpo_move (v := vb (tableOk (tabT ps))) Z Z (wpo_nil ⟨Z, i3⟩)
 refine Xc Z (fun tw i4 => ?_) ?_
 exact Xe Z Z Z af Z (wpo_nil ⟨Z, i4⟩)
 refine Xc Z (fun tx i5 => ?_) ?_
 exact Xe Z Z Z af Z (wpo_nil ⟨Z, i5⟩)
 refine Xc Z (fun tz i6 => ?_) ?_
 exact wpo_pickf (v := vb false) Z af Z Z (wpo_nil ⟨Z, i6⟩)
 refine Xc Z (fun ua i7 => ?_) ?_
 exact wpo_move (v := vb false) Z Z (wpo_nil ⟨Z, i7⟩)
 refine Xc Z (fun uc i8 => ?_) ?_
 exact Xe Z Z Z Z Z (wpo_nil ⟨Z, i8⟩)
 refine Xc Z (fun ud i9 => ?_) ?_
 exact Xe Z Z Z Z Z (wpo_nil ⟨Z, i9⟩)
 refine Xc Z (fun ue ja => ?_) ?_
 exact Xe Z Z Z Z Z (wpo_nil ⟨Z, ja⟩)
 refine Xc Z (fun uf jb => ?_) ?_
 exact Xe Z Z Z Z Z (wpo_nil ⟨Z, jb⟩)
 refine Xc Z (fun ug jc => ?_) ?_
 exact Xe Z Z Z Z Z (wpo_nil ⟨Z, jc⟩)
 refine Xc Z (fun uh jd => ?_) ?_
 exact Xe Z Z Z Z Z (wpo_nil ⟨Z, jd⟩)
 exact Y2
 intro uj je
 iterate 3 refine Xe rfl rfl rfl rfl rfl ?_
 refine wpo_pickf (v := vb false) Z Z Z Z (wpo_assign (v := vb false) Z Z (wpo_nil (Xo (Xm (⟨vb false, res1 Z Z, ?_, (low0 ar je)⟩)))))
 exact cB (G9 af).symm
 refine Xa (wpo_box (v := .agg #[vi l.s, vi l.v]) (cs := #[vi l.s, vi l.v]) Z Z Z ?_)
 intro q6 nw bg
 have ot := Xy bg ai
 have au := low0 ai bg.grw
 refine wpo_assign (v := vb false) Z Z (wpo_nil (Xk (Yl (m := 17) (vals := [(7, .slice a ms.length c), (8, vb (tableOk (tabT ms))), (9, vb (tableOk (tabT ms))), (10, .slice b ps.length e), (11, vb (tableOk (tabT ps))), (12, vb (tableOk (tabT ps))), (13, vb (tableOk (tabT ps))), (14, undef), (15, undef), (16, vb false), (17, vb false), (18, undef), (19, undef), (20, undef), (21, undef), (22, undef), (23, undef)]) (fun w' => nw.grownBy w' none) Yu (by kernel_rfl) (Xx _) ?_ ?_)))
 refine Xc Z (fun uk jf => ?_) ?_
 exact wpo_move (v := .slice a ms.length c) Z Z (wpo_nil ⟨Z, jf⟩)
 refine Xc Z (fun um cg => ?_) ?_
 refine Xi Vp (Xb Z Xg) Z (Qu  _ ms _ _ (TabAt.low ht (low0 au cg)) hlen (by omega)) ?_
 rintro _ un ⟨rfl, gu⟩
 exact wpo_nil ⟨Z, (Xh cg gu)⟩
 refine Xc Z (fun uo jg => ?_) ?_
 exact wpo_move (v := vb (tableOk (tabT ms))) Z Z (wpo_nil ⟨Z, jg⟩)
 refine Xc Z (fun uu jh => ?_) ?_
 exact Xd Z Z Z ab (wpo_move (v := .slice b ps.length e) Z Z (wpo_nil ⟨Z, jh⟩))
 refine Xc Z (fun uv cj => ?_) ?_
 refine Xd Z Z Z ab (Xi Vp (Xb Z Xg) Z (Qu  _ ps _ _ (TabAt.low hp (low0 au cj)) hlep (by omega)) ?_)
 rintro _ uw ⟨rfl, gv⟩
 exact wpo_nil ⟨Z, (Xh cj gv)⟩
 refine Xc Z (fun ux ji => ?_) ?_
 exact wpo_pickt (v := vb (tableOk (tabT ps))) Z ab Z Z (wpo_nil ⟨Z, ji⟩)
 refine Xc Z (fun uy jj => ?_) ?_
 exact wpo_move (v := vb (tableOk (tabT ps))) Z Z (wpo_nil ⟨Z, jj⟩)
 refine Xc Z (fun uz jk => ?_) ?_
 exact Xe Z Z Z af Z (wpo_nil ⟨Z, jk⟩)
 refine Xc Z (fun u0 jl => ?_) ?_
 exact Xe Z Z Z af Z (wpo_nil ⟨Z, jl⟩)
 refine Xc Z (fun u9 jm => ?_) ?_
 exact wpo_pickf (v := vb false) Z af Z Z (wpo_nil ⟨Z, jm⟩)
 refine Xc Z (fun va jo => ?_) ?_
 exact wpo_move (v := vb false) Z Z (wpo_nil ⟨Z, jo⟩)
 refine Xc Z (fun vc jp => ?_) ?_
 exact Xe Z Z Z Z Z (wpo_nil ⟨Z, jp⟩)
 refine Xc Z (fun vd jq => ?_) ?_
 exact Xe Z Z Z Z Z (wpo_nil ⟨Z, jq⟩)
 refine Xc Z (fun vf jr => ?_) ?_
 exact Xe Z Z Z Z Z (wpo_nil ⟨Z, jr⟩)
 refine Xc Z (fun vg js => ?_) ?_
 exact Xe Z Z Z Z Z (wpo_nil ⟨Z, js⟩)
 refine Xc Z (fun vh jt => ?_) ?_
 exact Xe Z Z Z Z Z (wpo_nil ⟨Z, jt⟩)
 refine Xc Z (fun vj ju => ?_) ?_
 exact Xe Z Z Z Z Z (wpo_nil ⟨Z, ju⟩)
 exact Y2
 intro vk jv
 iterate 3 refine Xe rfl rfl rfl rfl rfl ?_
 refine wpo_pickf (v := vb false) Z Z Z Z (wpo_assign (v := vb false) Z Z (wpo_nil (Xo (Xm (⟨vb false, res1 Z Z, ?_, (low0 au jv)⟩)))))
 exact cB (G9 af).symm
 rcases Xz (tableOk (tabT ps)) with nh | nh
 rcases Xz (labelOk l) with ni | ni
 refine Xa (wpo_box (v := .agg #[vi l.s, vi l.v]) (cs := #[vi l.s, vi l.v]) Z Z Z ?_)
 intro q7 nx bh
 have ou := Xy bh ai
 have bl := low0 ai bh.grw
 refine wpo_assign (v := vb false) Z Z (wpo_nil (Xk (Yl (m := 17) (vals := [(7, .slice a ms.length c), (8, vb (tableOk (tabT ms))), (9, vb (tableOk (tabT ms))), (10, undef), (11, undef), (12, vb false), (13, vb false), (14, undef), (15, undef), (16, vb false), (17, vb false), (18, undef), (19, undef), (20, undef), (21, undef), (22, undef), (23, undef)]) (fun w' => nx.grownBy w' none) Yu (by kernel_rfl) (Xx _) ?_ ?_)))
 refine Xc Z (fun vl jw => ?_) ?_
 exact wpo_move (v := .slice a ms.length c) Z Z (wpo_nil ⟨Z, jw⟩)
 refine Xc Z (fun vm ck => ?_) ?_
 refine Xi Vp (Xb Z Xg) Z (Qu  _ ms _ _ (TabAt.low ht (low0 bl ck)) hlen (by omega)) ?_
 rintro _ vn ⟨rfl, gw⟩
 exact wpo_nil ⟨Z, (Xh ck gw)⟩
 refine Xc Z (fun vo jy => ?_) ?_
 exact wpo_move (v := vb (tableOk (tabT ms))) Z Z (wpo_nil ⟨Z, jy⟩)
 refine Xc Z (fun vp jz => ?_) ?_
 exact Xe Z Z Z ab Z (wpo_nil ⟨Z, jz⟩)
 refine Xc Z (fun vq j1 => ?_) ?_
 exact Xe Z Z Z ab Z (wpo_nil ⟨Z, j1⟩)
 refine Xc Z (fun vr j2 => ?_) ?_
 exact wpo_pickf (v := vb false) Z ab Z Z (wpo_nil ⟨Z, j2⟩)
 refine Xc Z (fun vt j3 => ?_) ?_
 exact wpo_move (v := vb false) Z Z (wpo_nil ⟨Z, j3⟩)
 refine Xc Z (fun vu j4 => ?_) ?_
 exact Xe Z Z Z Z Z (wpo_nil ⟨Z, j4⟩)
 refine Xc Z (fun vv j5 => ?_) ?_
 exact Xe Z Z Z Z Z (wpo_nil ⟨Z, j5⟩)
 refine Xc Z (fun vw j6 => ?_) ?_
 exact wpo_pickf (v := vb false) Z Z Z Z (wpo_nil ⟨Z, j6⟩)
 refine Xc Z (fun vx j7 => ?_) ?_
 exact wpo_move (v := vb false) Z Z (wpo_nil ⟨Z, j7⟩)
 refine Xc Z (fun vy j8 => ?_) ?_
 exact Xe Z Z Z Z Z (wpo_nil ⟨Z, j8⟩)
 refine Xc Z (fun vz j9 => ?_) ?_
 exact Xe Z Z Z Z Z (wpo_nil ⟨Z, j9⟩)
 refine Xc Z (fun v1 ka => ?_) ?_
 exact Xe Z Z Z Z Z (wpo_nil ⟨Z, ka⟩)
 refine Xc Z (fun v2 kb => ?_) ?_
 exact Xe Z Z Z Z Z (wpo_nil ⟨Z, kb⟩)
 refine Xc Z (fun v3 kc => ?_) ?_
 exact Xe Z Z Z Z Z (wpo_nil ⟨Z, kc⟩)
 refine Xc Z (fun v4 ke => ?_) ?_
 exact Xe Z Z Z Z Z (wpo_nil ⟨Z, ke⟩)
 exact Y2
 intro v5 kf
 iterate 3 refine Xe rfl rfl rfl rfl rfl ?_
 refine wpo_pickf (v := vb false) Z Z Z Z (wpo_assign (v := vb false) Z Z (wpo_nil (Xo (Xm (⟨vb false, res1 Z Z, ?_, (low0 bl kf)⟩)))))
 exact cB (Vk ab).symm
 refine Xa (wpo_box (v := .agg #[vi l.s, vi l.v]) (cs := #[vi l.s, vi l.v]) Z Z Z ?_)
 intro q8 ny bi
 have ov := Xy bi ai
 have bm := low0 ai bi.grw
 refine wpo_assign (v := vb false) Z Z (wpo_nil (Xk (Yl (m := 17) (vals := [(7, .slice a ms.length c), (8, vb (tableOk (tabT ms))), (9, vb (tableOk (tabT ms))), (10, undef), (11, undef), (12, vb false), (13, vb false), (14, undef), (15, undef), (16, vb false), (17, vb false), (18, undef), (19, undef), (20, undef), (21, undef), (22, undef), (23, undef)]) (fun w' => ny.grownBy w' none) Yu (by kernel_rfl) (Xx _) ?_ ?_)))
 refine Xc Z (fun v6 kg => ?_) ?_
 exact wpo_move (v := .slice a ms.length c) Z Z (wpo_nil ⟨Z, kg⟩)
 refine Xc Z (fun v7 cm => ?_) ?_
 refine Xi Vp (Xb Z Xg) Z (Qu  _ ms _ _ (TabAt.low ht (low0 bm cm)) hlen (by omega)) ?_
 rintro _ v8 ⟨rfl, gx⟩
 exact wpo_nil ⟨Z, (Xh cm gx)⟩
 refine Xc Z (fun v9 kh => ?_) ?_
 exact wpo_move (v := vb (tableOk (tabT ms))) Z Z (wpo_nil ⟨Z, kh⟩)
 refine Xc Z (fun wa ki => ?_) ?_
 exact Xe Z Z Z ab Z (wpo_nil ⟨Z, ki⟩)
 refine Xc Z (fun wb kl => ?_) ?_
 exact Xe Z Z Z ab Z (wpo_nil ⟨Z, kl⟩)
 refine Xc Z (fun wc km => ?_) ?_
 exact wpo_pickf (v := vb false) Z ab Z Z (wpo_nil ⟨Z, km⟩)
 refine Xc Z (fun wd ko => ?_) ?_
 exact wpo_move (v := vb false) Z Z (wpo_nil ⟨Z, ko⟩)
 refine Xc Z (fun we kp => ?_) ?_
 exact Xe Z Z Z Z Z (wpo_nil ⟨Z, kp⟩)
 refine Xc Z (fun o0 cz => ?_) ?_
 exact Xe Z Z Z Z Z (wpo_nil ⟨Z, cz⟩)
 refine Xc Z (fun o1 da => ?_) ?_
 exact wpo_pickf (v := vb false) Z Z Z Z (wpo_nil ⟨Z, da⟩)
 refine Xc Z (fun o3 db => ?_) ?_
 exact wpo_move (v := vb false) Z Z (wpo_nil ⟨Z, db⟩)
 refine Xc Z (fun o4 dc => ?_) ?_
 exact Xe Z Z Z Z Z (wpo_nil ⟨Z, dc⟩)
 refine Xc Z (fun o5 de => ?_) ?_
 exact Xe Z Z Z Z Z (wpo_nil ⟨Z, de⟩)
 refine Xc Z (fun o6 dh => ?_) ?_
 exact Xe Z Z Z Z Z (wpo_nil ⟨Z, dh⟩)
 refine Xc Z (fun o7 di => ?_) ?_
 exact Xe Z Z Z Z Z (wpo_nil ⟨Z, di⟩)
 refine Xc Z (fun o8 dk => ?_) ?_
 exact Xe Z Z Z Z Z (wpo_nil ⟨Z, dk⟩)
 refine Xc Z (fun o9 dl => ?_) ?_
 exact Xe Z Z Z Z Z (wpo_nil ⟨Z, dl⟩)
 exact Y2
 intro pb dm
 iterate 3 refine Xe rfl rfl rfl rfl rfl ?_
 refine wpo_pickf (v := vb false) Z Z Z Z (wpo_assign (v := vb false) Z Z (wpo_nil (Xo (Xm (⟨vb false, res1 Z Z, ?_, (low0 bm dm)⟩)))))
 exact cB (Vk ab).symm
 rcases Xz (labelOk l) with fy | fy
 refine Xa (wpo_box (v := .agg #[vi l.s, vi l.v]) (cs := #[vi l.s, vi l.v]) Z Z Z ?_)
 intro oy kq av
 have nj := Xy av ai
 have a8 := low0 ai av.grw
 refine wpo_assign (v := vb false) Z Z (wpo_nil (Xk (Yl (m := 17) (vals := [(7, .slice a ms.length c), (8, vb (tableOk (tabT ms))), (9, vb (tableOk (tabT ms))), (10, undef), (11, undef), (12, vb false), (13, vb false), (14, undef), (15, undef), (16, vb false), (17, vb false), (18, undef), (19, undef), (20, undef), (21, undef), (22, undef), (23, undef)]) (fun w' => kq.grownBy w' none) Yu (by kernel_rfl) (Xx _) ?_ ?_)))
 refine Xc Z (fun pc dn => ?_) ?_
 exact wpo_move (v := .slice a ms.length c) Z Z (wpo_nil ⟨Z, dn⟩)
 refine Xc Z (fun pe ba => ?_) ?_
 refine Xi Vp (Xb Z Xg) Z (Qu  _ ms _ _ (TabAt.low ht (low0 a8 ba)) hlen (by omega)) ?_
 rintro _ pf ⟨rfl, cx⟩
 exact wpo_nil ⟨Z, (Xh ba cx)⟩
 refine Xc Z (fun pg dp => ?_) ?_
 exact wpo_move (v := vb (tableOk (tabT ms))) Z Z (wpo_nil ⟨Z, dp⟩)
 refine Xc Z (fun pi dq => ?_) ?_
 exact Xe Z Z Z ab Z (wpo_nil ⟨Z, dq⟩)
 refine Xc Z (fun pj dr => ?_) ?_
 exact Xe Z Z Z ab Z (wpo_nil ⟨Z, dr⟩)
 refine Xc Z (fun pk dt => ?_) ?_
 exact wpo_pickf (v := vb false) Z ab Z Z (wpo_nil ⟨Z, dt⟩)
 refine Xc Z (fun pl du => ?_) ?_
 exact wpo_move (v := vb false) Z Z (wpo_nil ⟨Z, du⟩)
 refine Xc Z (fun pm dv => ?_) ?_
 exact Xe Z Z Z Z Z (wpo_nil ⟨Z, dv⟩)
 refine Xc Z (fun pn dw => ?_) ?_
 exact Xe Z Z Z Z Z (wpo_nil ⟨Z, dw⟩)
 refine Xc Z (fun po dx => ?_) ?_
 exact wpo_pickf (v := vb false) Z Z Z Z (wpo_nil ⟨Z, dx⟩)
 refine Xc Z (fun pp dz => ?_) ?_
 exact wpo_move (v := vb false) Z Z (wpo_nil ⟨Z, dz⟩)
 refine Xc Z (fun pq d0 => ?_) ?_
 exact Xe Z Z Z Z Z (wpo_nil ⟨Z, d0⟩)
 refine Xc Z (fun pu d5 => ?_) ?_
 exact Xe Z Z Z Z Z (wpo_nil ⟨Z, d5⟩)
 refine Xc Z (fun pw d6 => ?_) ?_
 exact Xe Z Z Z Z Z (wpo_nil ⟨Z, d6⟩)
 refine Xc Z (fun px d7 => ?_) ?_
 exact Xe Z Z Z Z Z (wpo_nil ⟨Z, d7⟩)
 refine Xc Z (fun py d8 => ?_) ?_
 exact Xe Z Z Z Z Z (wpo_nil ⟨Z, d8⟩)
 refine Xc Z (fun p0 d9 => ?_) ?_
 exact Xe Z Z Z Z Z (wpo_nil ⟨Z, d9⟩)
 exact Y2
 intro p8 ea
 iterate 3 refine Xe rfl rfl rfl rfl rfl ?_
 refine wpo_pickf (v := vb false) Z Z Z Z (wpo_assign (v := vb false) Z Z (wpo_nil (Xo (Xm (⟨vb false, res1 Z Z, ?_, (low0 a8 ea)⟩)))))
 exact cB (Vk ab).symm
 refine Xa (wpo_box (v := .agg #[vi l.s, vi l.v]) (cs := #[vi l.s, vi l.v]) Z Z Z ?_)
 intro oz kr aw
 have nk := Xy aw ai
 have a9 := low0 ai aw.grw
 refine wpo_assign (v := vb false) Z Z (wpo_nil (Xk (Yl (m := 17) (vals := [(7, .slice a ms.length c), (8, vb (tableOk (tabT ms))), (9, vb (tableOk (tabT ms))), (10, undef), (11, undef), (12, vb false), (13, vb false), (14, undef), (15, undef), (16, vb false), (17, vb false), (18, undef), (19, undef), (20, undef), (21, undef), (22, undef), (23, undef)]) (fun w' => kr.grownBy w' none) Yu (by kernel_rfl) (Xx _) ?_ ?_)))
 refine Xc Z (fun p9 ed => ?_) ?_
 exact wpo_move (v := .slice a ms.length c) Z Z (wpo_nil ⟨Z, ed⟩)
 refine Xc Z (fun qd bc => ?_) ?_
 refine Xi Vp (Xb Z Xg) Z (Qu  _ ms _ _ (TabAt.low ht (low0 a9 bc)) hlen (by omega)) ?_
 rintro _ qe ⟨rfl, cy⟩
 exact wpo_nil ⟨Z, (Xh bc cy)⟩
 refine Xc Z (fun qf ee => ?_) ?_
 exact wpo_move (v := vb (tableOk (tabT ms))) Z Z (wpo_nil ⟨Z, ee⟩)
 refine Xc Z (fun qg ef => ?_) ?_
 exact Xe Z Z Z ab Z (wpo_nil ⟨Z, ef⟩)
 refine Xc Z (fun qi eh => ?_) ?_
 exact Xe Z Z Z ab Z (wpo_nil ⟨Z, eh⟩)
 refine Xc Z (fun qj ei => ?_) ?_
 exact wpo_pickf (v := vb false) Z ab Z Z (wpo_nil ⟨Z, ei⟩)
 refine Xc Z (fun qk ej => ?_) ?_
 exact wpo_move (v := vb false) Z Z (wpo_nil ⟨Z, ej⟩)
 refine Xc Z (fun qn eu => ?_) ?_
 exact Xe Z Z Z Z Z (wpo_nil ⟨Z, eu⟩)
 refine Xc Z (fun qo ew => ?_) ?_
 exact Xe Z Z Z Z Z (wpo_nil ⟨Z, ew⟩)
 refine Xc Z (fun qq ex => ?_) ?_
 exact wpo_pickf (v := vb false) Z Z Z Z (wpo_nil ⟨Z, ex⟩)
 refine Xc Z (fun qr ey => ?_) ?_
 exact wpo_move (v := vb false) Z Z (wpo_nil ⟨Z, ey⟩)
 refine Xc Z (fun qw ez => ?_) ?_
 exact Xe Z Z Z Z Z (wpo_nil ⟨Z, ez⟩)
 refine Xc Z (fun qx fa => ?_) ?_
 exact Xe Z Z Z Z Z (wpo_nil ⟨Z, fa⟩)
 refine Xc Z (fun qy fb => ?_) ?_
 exact Xe Z Z Z Z Z (wpo_nil ⟨Z, fb⟩)
 refine Xc Z (fun qz fc => ?_) ?_
 exact Xe Z Z Z Z Z (wpo_nil ⟨Z, fc⟩)
 refine Xc Z (fun q1 fd => ?_) ?_
 exact Xe Z Z Z Z Z (wpo_nil ⟨Z, fd⟩)
 refine Xc Z (fun q2 fe => ?_) ?_
 exact Xe Z Z Z Z Z (wpo_nil ⟨Z, fe⟩)
 exact Y2
 intro q3 ff
 iterate 3 refine Xe rfl rfl rfl rfl rfl ?_
 refine wpo_pickf (v := vb false) Z Z Z Z (wpo_assign (v := vb false) Z Z (wpo_nil (Xo (Xm (⟨vb false, res1 Z Z, ?_, (low0 a9 ff)⟩)))))
 exact cB (Vk ab).symm
end Go.Dw.J
end
section
namespace Go.Dw.J
open Go.RowKit Go.Dw Go.Proofs
set_option linter.unusedSectionVars false
set_option maxRecDepth 100000
set_option maxHeartbeats 4000000
set_option linter.unusedSimpArgs false
set_option linter.unusedVariables false
theorem Xcd : goFn Try.prog 12 = true := by kernel_rfl
theorem Xet : goFn Try.prog 58 = true := by kernel_rfl
theorem Xe0 : goFn Try.prog 98 = true := by kernel_rfl
theorem Xe1 : goFn Try.prog 99 = true := by kernel_rfl
theorem O2 [Comp] (w : World) (xs ys : List Rt) (a b : Option Addr) (c e : Nat) (hs : SlAt w a 5 (xs.map Rt.cells)) (ht : SlAt w b 5 (ys.map Rt.cells)) (hn : xs.length ≤ 1048576) (hm : ys.length ≤ 1048576) : CallsR Try.prog 98 #[.slice a xs.length c, .slice b ys.length e] w (fun v w' => v = vb (decide (xs = ys)) ∧ w.grownBy w' none) := by
 refine Xq (n := 26) Try.func98 Z Try.ntmps98 Z ?_
 have bk := World.grownBy.refl w none
 refine Xa (wpo_assign (v := vb false) Z Z (wpo_nil (Xk (Xa (wpo_move (v := .slice a xs.length c) Z Z (wpo_len (by kernel_rfl) Z Z (wpo_move (v := .slice b ys.length e) Z Z (wpo_len (by kernel_rfl) Z Z (wpo_neq (q := !(decide ((xs.length : Int) = (ys.length : Int)))) Z Z Z Z (wpo_nil (Xt Z (fun af => ?_) (fun af => ?_))))))))))))
 have bi := Je af
 have br := of_decide_eq_false bi
 refine Xa (wpo_assign (v := vb false) Z Z (wpo_nil (Xm (Ya (⟨vb false, res1 Z Z, ?_, bk⟩)))))
 exact cB (decide_eq_false (fun h => by have := congrArg List.length h; omega)).symm
 have bj := Qx af
 have bt := of_decide_eq_true bj
 refine Xn (Xo (Xk (Xa (wpo_move (v := .slice a xs.length c) Z Z (wpo_len (by kernel_rfl) Z Z (wpo_move (v := vi 0) Z Z (wpo_nil (Xv (Yg (fun mm f' w' => ∃ (k : Nat), mm = xs.length - k ∧ k ≤ xs.length ∧ xs.take k = ys.take k ∧ f' 13 = vi (k : Int) ∧ f' 0 = .slice a xs.length c ∧ f' 1 = .slice b ys.length e ∧ f' 12 = vi (xs.length : Int) ∧ w.grownBy w' none) (xs.length - 0) ⟨0, Z, (Nat.zero_le _), Z, Z, Z, Z, Z, bk⟩ ?_)))))))))
 rintro mm bq bn ⟨k, bp, hk, ha, ae, al, am, an, V⟩
 refine Xa (wpo_lss (q := decide ((k : Int) < (xs.length : Int))) ae an Z Z (wpo_nil (Xk (Xt Z (fun ag => ?_) (fun ag => ?_)))))
 have bu := of_decide_eq_true ag
 refine Xn (Xo (Xk (Xv (Xa (wpo_move (v := vi (k : Int)) ae Z (wpo_assign (v := vi (k : Int)) Z Z (wpo_nil (Xk ?_))))))))
 obtain ⟨E, ab⟩ := Qo (l := xs) (i := k) (by omega)
 obtain ⟨bg, ca, bl, aq, bc, be⟩ := SlAt.at hs (Yw ab)
 obtain ⟨O, ac⟩ := Qo (l := ys) (i := k) (by omega)
 obtain ⟨bh, cc, bm, ar, bd, bf⟩ := SlAt.at ht (Yw ac)
 refine Yl (m := 8) (vals := [(16, .slice a xs.length c), (17, vi (k : Int)), (18, pt bg bl), (19, .agg #[vi E.th, vi E.ve, vb E.rd, vb E.wr, vb E.wk]), (20, .slice b ys.length e), (21, vi (k : Int)), (22, pt bh bm), (23, .agg #[vi O.th, vi O.ve, vb O.rd, vb O.wr, vb O.wk])]) (fun w' => bn.grownBy w' none) Yu (by kernel_rfl) (Xx _) ?_ ?_
 refine Xc Z (fun cd au => ?_) ?_
 exact wpo_move (v := .slice a xs.length c) al Z (wpo_nil ⟨Z, au⟩)
 refine Xc Z (fun ce av => ?_) ?_
 exact wpo_move (v := vi (k : Int)) Z Z (wpo_nil ⟨Z, av⟩)
 refine Xc Z (fun cg aw => ?_) ?_
 exact X6 G2 Z Z aq bc (by omega) (by omega) Z (wpo_nil ⟨Z, aw⟩)
 refine Xc Z (fun cj aj => ?_) ?_
 exact wpo_loadn (vs := [vi E.th, vi E.ve, vb E.rd, vb E.wr, vb E.wk]) Y9 Z Z (Qh (Y8 be (low0 V aj)) 0 5 Z) Z (wpo_nil ⟨Z, aj⟩)
 refine Xc Z (fun ck az => ?_) ?_
 exact wpo_move (v := .slice b ys.length e) am Z (wpo_nil ⟨Z, az⟩)
 refine Xc Z (fun cm a8 => ?_) ?_
 exact wpo_move (v := vi (k : Int)) Z Z (wpo_nil ⟨Z, a8⟩)
 refine Xc Z (fun cn a9 => ?_) ?_
 exact X6 G2 Z Z ar bd (by omega) (by omega) Z (wpo_nil ⟨Z, a9⟩)
 refine Xc Z (fun co ak => ?_) ?_
 exact wpo_loadn (vs := [vi O.th, vi O.ve, vb O.rd, vb O.wr, vb O.wk]) Y9 Z Z (Qh (Y8 bf (low0 V ak)) 0 5 Z) Z (wpo_nil ⟨Z, ak⟩)
 exact Y2
 intro cw ba
 have ai := low0 V ba
 refine wpo_eqs (q := !(decide (E = O))) Z Z Z Z (fun _ => Xdk _ _ E O _) (fun _ => Xdl E O _) Z Z (wpo_nil (Xo (Xt Z (fun ah => ?_) (fun ah => ?_))))
 have ao := Je ah
 have bv := of_decide_eq_false ao
 refine Xa (wpo_assign (v := vb false) Z Z (wpo_nil (Xm (Qv (Ya (Ya (Qv (Ya (⟨vb false, res1 Z Z, ?_, ai⟩)))))))))
 exact cB (decide_eq_false (Ru ab ac (of_decide_eq_false ao))).symm
 have ap := Qx ah
 have bw := of_decide_eq_true ap
 exact Xn (Y3 (Xo (Xr (wpo_add (c := (k : Int) + 1) ae Z (by omega) (by omega) (by omega) Z (wpo_move (v := vi ((k : Int) + 1)) Z Z (wpo_nil (Xo (⟨xs.length - (k + 1), by omega, (k + 1), rfl, (by omega), (V4 ha ab ac (of_decide_eq_true ap)), rfl, al, am, an, ai⟩))))))))
 have bz := of_decide_eq_false ag
 refine Yo (Yx (Yx (Jm (Xo (Xa (wpo_assign (v := vb true) Z Z (wpo_nil (Xm (⟨vb true, res1 Z Z, ?_, V⟩)))))))))
 exact cB (decide_eq_true (H4 ha (by omega) (by omega))).symm
theorem O1 [Comp] (w : World) (xs ys : List Int) (a b : Option Addr) (c e : Nat) (hs : SlAt w a 1 (xs.map icell)) (ht : SlAt w b 1 (ys.map icell)) (hn : xs.length ≤ 1048576) (hm : ys.length ≤ 1048576) : CallsR Try.prog 99 #[.slice a xs.length c, .slice b ys.length e] w (fun v w' => v = vb (decide (xs = ys)) ∧ w.grownBy w' none) := by
 refine Xq (n := 26) Try.func99 Z Try.ntmps99 Z ?_
 have bk := World.grownBy.refl w none
 refine Xa (wpo_assign (v := vb false) Z Z (wpo_nil (Xk (Xa (wpo_move (v := .slice a xs.length c) Z Z (wpo_len (by kernel_rfl) Z Z (wpo_move (v := .slice b ys.length e) Z Z (wpo_len (by kernel_rfl) Z Z (wpo_neq (q := !(decide ((xs.length : Int) = (ys.length : Int)))) Z Z Z Z (wpo_nil (Xt Z (fun ac => ?_) (fun ac => ?_))))))))))))
 have bi := Je ac
 have br := of_decide_eq_false bi
 refine Xa (wpo_assign (v := vb false) Z Z (wpo_nil (Xm (Ya (⟨vb false, res1 Z Z, ?_, bk⟩)))))
 exact cB (decide_eq_false (fun h => by have := congrArg List.length h; omega)).symm
 have bj := Qx ac
 have bt := of_decide_eq_true bj
 refine Xn (Xo (Xk (Xa (wpo_move (v := .slice a xs.length c) Z Z (wpo_len (by kernel_rfl) Z Z (wpo_move (v := vi 0) Z Z (wpo_nil (Xv (Yg (fun mm f' w' => ∃ (k : Nat), mm = xs.length - k ∧ k ≤ xs.length ∧ xs.take k = ys.take k ∧ f' 13 = vi (k : Int) ∧ f' 0 = .slice a xs.length c ∧ f' 1 = .slice b ys.length e ∧ f' 12 = vi (xs.length : Int) ∧ w.grownBy w' none) (xs.length - 0) ⟨0, Z, (Nat.zero_le _), Z, Z, Z, Z, Z, bk⟩ ?_)))))))))
 rintro mm bq bn ⟨k, bp, hk, ha, ab, al, am, an, E⟩
 refine Xa (wpo_lss (q := decide ((k : Int) < (xs.length : Int))) ab an Z Z (wpo_nil (Xk (Xt Z (fun ae => ?_) (fun ae => ?_)))))
 have bu := of_decide_eq_true ae
 refine Xn (Xo (Xk (Xv (Xa (wpo_move (v := vi (k : Int)) ab Z (wpo_assign (v := vi (k : Int)) Z Z (wpo_nil (Xk ?_))))))))
 obtain ⟨aj, O⟩ := Qo (l := xs) (i := k) (by omega)
 obtain ⟨bg, ca, bl, aq, bc, be⟩ := SlAt.at hs (Yw O)
 obtain ⟨ak, V⟩ := Qo (l := ys) (i := k) (by omega)
 obtain ⟨bh, cc, bm, ar, bd, bf⟩ := SlAt.at ht (Yw V)
 refine Yl (m := 8) (vals := [(16, .slice a xs.length c), (17, vi (k : Int)), (18, pt bg bl), (19, vi aj), (20, .slice b ys.length e), (21, vi (k : Int)), (22, pt bh bm), (23, vi ak)]) (fun w' => bn.grownBy w' none) Yu (by kernel_rfl) (Xx _) ?_ ?_
 refine Xc Z (fun cd au => ?_) ?_
 exact wpo_move (v := .slice a xs.length c) al Z (wpo_nil ⟨Z, au⟩)
 refine Xc Z (fun ce av => ?_) ?_
 exact wpo_move (v := vi (k : Int)) Z Z (wpo_nil ⟨Z, av⟩)
 refine Xc Z (fun cg aw => ?_) ?_
 exact X6 K0 Z Z aq bc (by omega) (by omega) Z (wpo_nil ⟨Z, aw⟩)
 refine Xc Z (fun cj ah => ?_) ?_
 exact wpo_load1 (v := vi aj) X1 Z ((Y8 be (low0 E ah)) 0 _ Z) Z (wpo_nil ⟨Z, ah⟩)
 refine Xc Z (fun ck az => ?_) ?_
 exact wpo_move (v := .slice b ys.length e) am Z (wpo_nil ⟨Z, az⟩)
 refine Xc Z (fun cm a8 => ?_) ?_
 exact wpo_move (v := vi (k : Int)) Z Z (wpo_nil ⟨Z, a8⟩)
 refine Xc Z (fun cn a9 => ?_) ?_
 exact X6 K0 Z Z ar bd (by omega) (by omega) Z (wpo_nil ⟨Z, a9⟩)
 refine Xc Z (fun co ai => ?_) ?_
 exact wpo_load1 (v := vi ak) X1 Z ((Y8 bf (low0 E ai)) 0 _ Z) Z (wpo_nil ⟨Z, ai⟩)
 exact Y2
 intro cw ba
 have ag := low0 E ba
 refine wpo_neq (q := !(decide (aj = ak))) Z Z Z Z (wpo_nil (Xo (Xt Z (fun af => ?_) (fun af => ?_))))
 have ao := Je af
 have bv := of_decide_eq_false ao
 refine Xa (wpo_assign (v := vb false) Z Z (wpo_nil (Xm (Qv (Ya (Ya (Qv (Ya (⟨vb false, res1 Z Z, ?_, ag⟩)))))))))
 exact cB (decide_eq_false (Ru O V (of_decide_eq_false ao))).symm
 have ap := Qx af
 have bw := of_decide_eq_true ap
 exact Xn (Y3 (Xo (Xr (wpo_add (c := (k : Int) + 1) ab Z (by omega) (by omega) (by omega) Z (wpo_move (v := vi ((k : Int) + 1)) Z Z (wpo_nil (Xo (⟨xs.length - (k + 1), by omega, (k + 1), rfl, (by omega), (V4 ha O V (of_decide_eq_true ap)), rfl, al, am, an, ag⟩))))))))
 have bz := of_decide_eq_false ae
 refine Yo (Yx (Yx (Jm (Xo (Xa (wpo_assign (v := vb true) Z Z (wpo_nil (Xm (⟨vb true, res1 Z Z, ?_, E⟩)))))))))
 exact cB (decide_eq_true (H4 ha (by omega) (by omega))).symm
theorem Sa [Comp] (m p : MTh) (w : World) (ha : ThAt w m) (hb : ThAt w p) (hla : m.t.slots.length ≤ 1048576 ∧ m.t.queue.length ≤ 1048576) (hlb : p.t.slots.length ≤ 1048576 ∧ p.t.queue.length ≤ 1048576) : CallsR Try.prog 58 #[.agg #[vi m.t.kind, vi m.t.lab.s, vi m.t.lab.v, vi m.t.ve, vi m.t.num, .slice m.sa m.t.slots.length m.sc, .slice m.qa m.t.queue.length m.qc, vi m.t.to], .agg #[vi p.t.kind, vi p.t.lab.s, vi p.t.lab.v, vi p.t.ve, vi p.t.num, .slice p.sa p.t.slots.length p.sc, .slice p.qa p.t.queue.length p.qc, vi p.t.to]] w (fun v w' => v = vb (decide (m.t = p.t)) ∧ w.grownBy w' none) := by
 refine Xq (n := 52) Try.func58 Z Try.ntmps58 Z ?_
 have aq := World.grownBy.refl w none
 refine Xa (wpo_box (v := .agg #[vi m.t.kind, vi m.t.lab.s, vi m.t.lab.v, vi m.t.ve, vi m.t.num, .slice m.sa m.t.slots.length m.sc, .slice m.qa m.t.queue.length m.qc, vi m.t.to]) (cs := #[vi m.t.kind, vi m.t.lab.s, vi m.t.lab.v, vi m.t.ve, vi m.t.num, .slice m.sa m.t.slots.length m.sc, .slice m.qa m.t.queue.length m.qc, vi m.t.to]) Z Z Z ?_)
 intro aw bm ai
 have au := Xy ai aq
 have ak := low0 aq ai.grw
 refine wpo_box (v := .agg #[vi p.t.kind, vi p.t.lab.s, vi p.t.lab.v, vi p.t.ve, vi p.t.num, .slice p.sa p.t.slots.length p.sc, .slice p.qa p.t.queue.length p.qc, vi p.t.to]) (cs := #[vi p.t.kind, vi p.t.lab.s, vi p.t.lab.v, vi p.t.ve, vi p.t.num, .slice p.sa p.t.slots.length p.sc, .slice p.qa p.t.queue.length p.qc, vi p.t.to]) Z Z Z ?_
 intro az ar ac
 have av := Xy ac ak
 have am := Xs ac (ai.blk).lt
 have aj := low0 ak ac.grw
 refine wpo_assign (v := vb false) Z Z (wpo_nil (Xu (fun f' w' => (f' 4 = vb (((((((decide (m.t.kind = p.t.kind)) && (decide (m.t.lab = p.t.lab))) && (decide (m.t.ve = p.t.ve))) && (decide (m.t.num = p.t.num))) && (decide (m.t.to = p.t.to))) && (decide (m.t.slots = p.t.slots))) && (decide (m.t.queue = p.t.queue)))) ∧ ar.grownBy w' none) ?_ ?_))
 refine wpo_fieldAddr (o' := 0) X7 Z Z Z ?_
 have ah := (ai.blk.grown0 ac.grw)
 refine wpo_load1 (v := vi m.t.kind) X1 Z (ah.cell Z) Z (wpo_fieldAddr (o' := 0) X7 Z Z Z (wpo_load1 (v := vi p.t.kind) X1 Z (ac.blk.cell Z) Z (wpo_eql (q := decide (m.t.kind = p.t.kind)) Z Z Z Z (wpo_move (v := vb (decide (m.t.kind = p.t.kind))) Z Z ?_))))
 rcases Xz (decide (m.t.kind = p.t.kind)) with E | E
 have a9 := of_decide_eq_true E
 refine Xd Z Z Z E (wpo_fieldAddr (o' := 1) Ke Z Z Z (Xd Z Z Z E (wpo_loadn (vs := [vi m.t.lab.s, vi m.t.lab.v]) Yd Z Z (ah.rangeL 1 2 Z) Z (Xd Z Z Z E (wpo_fieldAddr (o' := 1) Ke Z Z Z (Xd Z Z Z E (wpo_loadn (vs := [vi p.t.lab.s, vi p.t.lab.v]) Yd Z Z (ac.blk.rangeL 1 2 Z) Z (Xd Z Z Z E (wpo_eqs (q := decide (m.t.lab = p.t.lab)) Z Z Z Z (fun _ => Xc6 _ _ m.t.lab p.t.lab _) (fun _ => Xc7 m.t.lab p.t.lab _) Z Z (wpo_pickt (v := vb (decide (m.t.lab = p.t.lab))) Z E Z Z (wpo_move (v := vb (decide (m.t.lab = p.t.lab))) Z Z ?_)))))))))))
 rcases Xz (decide (m.t.lab = p.t.lab)) with O | O
 have ba := of_decide_eq_true O
 refine Xd Z Z Z O (wpo_fieldAddr (o' := 3) Q5 Z Z Z (Xd Z Z Z O (wpo_load1 (v := vi m.t.ve) X1 Z (ah.cell Z) Z (Xd Z Z Z O (wpo_fieldAddr (o' := 3) Q5 Z Z Z (Xd Z Z Z O (wpo_load1 (v := vi p.t.ve) X1 Z (ac.blk.cell Z) Z (Xd Z Z Z O (wpo_eql (q := decide (m.t.ve = p.t.ve)) Z Z Z Z (wpo_pickt (v := vb (decide (m.t.ve = p.t.ve))) Z O Z Z (wpo_move (v := vb (decide (m.t.ve = p.t.ve))) Z Z ?_)))))))))))
 rcases Xz (decide (m.t.ve = p.t.ve)) with V | V
 have bc := of_decide_eq_true V
 refine Xd Z Z Z V (wpo_fieldAddr (o' := 4) Q9 Z Z Z (Xd Z Z Z V (wpo_load1 (v := vi m.t.num) X1 Z (ah.cell Z) Z (Xd Z Z Z V (wpo_fieldAddr (o' := 4) Q9 Z Z Z (Xd Z Z Z V (wpo_load1 (v := vi p.t.num) X1 Z (ac.blk.cell Z) Z (Xd Z Z Z V (wpo_eql (q := decide (m.t.num = p.t.num)) Z Z Z Z (wpo_pickt (v := vb (decide (m.t.num = p.t.num))) Z V Z Z (wpo_move (v := vb (decide (m.t.num = p.t.num))) Z Z ?_)))))))))))
 rcases Xz (decide (m.t.num = p.t.num)) with ab | ab
 have bd := of_decide_eq_true ab
 refine Xd Z Z Z ab (wpo_fieldAddr (o' := 7) Jv Z Z Z (Xd Z Z Z ab (wpo_load1 (v := vi m.t.to) X1 Z (ah.cell Z) Z (Xd Z Z Z ab (wpo_fieldAddr (o' := 7) Jv Z Z Z (Xd Z Z Z ab (wpo_load1 (v := vi p.t.to) X1 Z (ac.blk.cell Z) Z (Xd Z Z Z ab (wpo_eql (q := decide (m.t.to = p.t.to)) Z Z Z Z (wpo_pickt (v := vb (decide (m.t.to = p.t.to))) Z ab Z Z (wpo_move (v := vb (decide (m.t.to = p.t.to))) Z Z ?_)))))))))))
 rcases Xz (decide (m.t.to = p.t.to)) with ae | ae
 have be := of_decide_eq_true ae
 refine Xd Z Z Z ae (wpo_fieldAddr (o' := 5) Qe Z Z Z (Xd Z Z Z ae (wpo_load1 (v := .slice m.sa m.t.slots.length m.sc) Jt Z (ah.cell Z) Z (Xd Z Z Z ae (wpo_fieldAddr (o' := 5) Qe Z Z Z (Xd Z Z Z ae (wpo_load1 (v := .slice p.sa p.t.slots.length p.sc) Jt Z (ac.blk.cell Z) Z (Xd Z Z Z ae (Xi Xe0 (Xb Z (Xb Z Xg)) Z (O2 _ m.t.slots p.t.slots _ _ _ _ (SlAt.low ha.1 aj) (SlAt.low hb.1 aj) (by first | omega | exact Nat.le_of_ble_eq_true rfl | (simp only [List.length_nil, List.length_cons, List.length_append, List.length_replicate]; omega)) (by first | omega | exact Nat.le_of_ble_eq_true rfl | (simp only [List.length_nil, List.length_cons, List.length_append, List.length_replicate]; omega))) ?_)))))))))
 rintro _ bn ⟨rfl, ag⟩
 have al := low0 aj ag
 refine wpo_pickt (v := vb (decide (m.t.slots = p.t.slots))) Z ae Z Z (wpo_move (v := vb (decide (m.t.slots = p.t.slots))) Z Z ?_)
 rcases Xz (decide (m.t.slots = p.t.slots)) with af | af
 have bf := of_decide_eq_true af
 refine Xd Z Z Z af (wpo_fieldAddr (o' := 6) Q2 Z Z Z (Xd Z Z Z af (wpo_load1 (v := .slice m.qa m.t.queue.length m.qc) Kc Z ((ah.grown0 ag).cell Z) Z (Xd Z Z Z af (wpo_fieldAddr (o' := 6) Q2 Z Z Z (Xd Z Z Z af (wpo_load1 (v := .slice p.qa p.t.queue.length p.qc) Kc Z ((ac.blk.grown0 ag).cell Z) Z (Xd Z Z Z af (Xi Xe1 (Xb Z (Xb Z Xg)) Z (O1 _ m.t.queue p.t.queue _ _ _ _ (SlAt.low ha.2.1 al) (SlAt.low hb.2.1 al) (by first | omega | exact Nat.le_of_ble_eq_true rfl | (simp only [List.length_nil, List.length_cons, List.length_append, List.length_replicate]; omega)) (by first | omega | exact Nat.le_of_ble_eq_true rfl | (simp only [List.length_nil, List.length_cons, List.length_append, List.length_replicate]; omega))) ?_)))))))))
 rintro _ bp ⟨rfl, an⟩
 exact wpo_pickt (v := vb (decide (m.t.queue = p.t.queue))) Z af Z Z (wpo_assign (v := vb (decide (m.t.queue = p.t.queue))) Z Z (wpo_nil ⟨(cB (by simp [E, O, V, ab, ae, af])), (Xh ag an)⟩))
 have bg := of_decide_eq_false af
 iterate 5 refine Xe rfl rfl rfl af rfl ?_
 exact wpo_pickf (v := vb false) Z af Z Z (wpo_assign (v := vb false) Z Z (wpo_nil ⟨(cB (by simp [E, O, V, ab, ae, af])), ag⟩))
 have bh := of_decide_eq_false ae
 iterate 5 refine Xe rfl rfl rfl ae rfl ?_
 refine wpo_pickf (v := vb false) Z ae Z Z (wpo_move (v := vb false) Z Z ?_)
 iterate 5 refine Xe rfl rfl rfl rfl rfl ?_
 exact wpo_pickf (v := vb false) Z Z Z Z (wpo_assign (v := vb false) Z Z (wpo_nil ⟨(cB (by simp [E, O, V, ab, ae])), (World.grownBy.refl _ _)⟩))
 have bi := of_decide_eq_false ab
 iterate 5 refine Xe rfl rfl rfl ab rfl ?_
 refine wpo_pickf (v := vb false) Z ab Z Z (wpo_move (v := vb false) Z Z ?_)
 iterate 5 refine Xe rfl rfl rfl rfl rfl ?_
 refine wpo_pickf (v := vb false) Z Z Z Z (wpo_move (v := vb false) Z Z ?_)
 iterate 5 refine Xe rfl rfl rfl rfl rfl ?_
 exact wpo_pickf (v := vb false) Z Z Z Z (wpo_assign (v := vb false) Z Z (wpo_nil ⟨(cB (by simp [E, O, V, ab])), (World.grownBy.refl _ _)⟩))
 have bj := of_decide_eq_false V
 iterate 5 refine Xe rfl rfl rfl V rfl ?_
 refine wpo_pickf (v := vb false) Z V Z Z (wpo_move (v := vb false) Z Z ?_)
 iterate 5 refine Xe rfl rfl rfl rfl rfl ?_
 refine wpo_pickf (v := vb false) Z Z Z Z (wpo_move (v := vb false) Z Z ?_)
 iterate 5 refine Xe rfl rfl rfl rfl rfl ?_
 refine wpo_pickf (v := vb false) Z Z Z Z (wpo_move (v := vb false) Z Z ?_)
 iterate 5 refine Xe rfl rfl rfl rfl rfl ?_
 exact wpo_pickf (v := vb false) Z Z Z Z (wpo_assign (v := vb false) Z Z (wpo_nil ⟨(cB (by simp [E, O, V])), (World.grownBy.refl _ _)⟩))
 have bk := of_decide_eq_false O
 iterate 5 refine Xe rfl rfl rfl O rfl ?_
 refine wpo_pickf (v := vb false) Z O Z Z (wpo_move (v := vb false) Z Z ?_)
 iterate 5 refine Xe rfl rfl rfl rfl rfl ?_
 refine wpo_pickf (v := vb false) Z Z Z Z (wpo_move (v := vb false) Z Z ?_)
 iterate 5 refine Xe rfl rfl rfl rfl rfl ?_
 refine wpo_pickf (v := vb false) Z Z Z Z (wpo_move (v := vb false) Z Z ?_)
 iterate 5 refine Xe rfl rfl rfl rfl rfl ?_
 refine wpo_pickf (v := vb false) Z Z Z Z (wpo_move (v := vb false) Z Z ?_)
 iterate 5 refine Xe rfl rfl rfl rfl rfl ?_
 exact wpo_pickf (v := vb false) Z Z Z Z (wpo_assign (v := vb false) Z Z (wpo_nil ⟨(cB (by simp [E, O])), (World.grownBy.refl _ _)⟩))
 have bl := of_decide_eq_false E
 iterate 5 refine Xe rfl rfl rfl E rfl ?_
 refine wpo_pickf (v := vb false) Z E Z Z (wpo_move (v := vb false) Z Z ?_)
 iterate 5 refine Xe rfl rfl rfl rfl rfl ?_
 refine wpo_pickf (v := vb false) Z Z Z Z (wpo_move (v := vb false) Z Z ?_)
 iterate 5 refine Xe rfl rfl rfl rfl rfl ?_
 refine wpo_pickf (v := vb false) Z Z Z Z (wpo_move (v := vb false) Z Z ?_)
 iterate 5 refine Xe rfl rfl rfl rfl rfl ?_
 refine wpo_pickf (v := vb false) Z Z Z Z (wpo_move (v := vb false) Z Z ?_)
 iterate 5 refine Xe rfl rfl rfl rfl rfl ?_
 refine wpo_pickf (v := vb false) Z Z Z Z (wpo_move (v := vb false) Z Z ?_)
 iterate 5 refine Xe rfl rfl rfl rfl rfl ?_
 exact wpo_pickf (v := vb false) Z Z Z Z (wpo_assign (v := vb false) Z Z (wpo_nil ⟨(cB (by simp [E])), (World.grownBy.refl _ _)⟩))
 rintro a8 bq ⟨ap, ao⟩
 refine Xm (⟨vb (((((((decide (m.t.kind = p.t.kind)) && (decide (m.t.lab = p.t.lab))) && (decide (m.t.ve = p.t.ve))) && (decide (m.t.num = p.t.num))) && (decide (m.t.to = p.t.to))) && (decide (m.t.slots = p.t.slots))) && (decide (m.t.queue = p.t.queue))), res1 Z ap, ?_, (low0 aj ao)⟩)
 exact cB Z4
theorem Hw [Comp] [ViewRule] (l : Lab) (w : World) (ms ps : List MTh) (a b : Option Addr) (c e : Nat) (ht : TabAt w a ms) (hp : TabAt w b ps) (hlen : TabLen ms) (hlep : TabLen ps) (hn : ms.length ≤ 1048576) (hm : ps.length ≤ 1048576) (hKB : ViewRule.base ≤ w.heap.size) : CallsR Try.prog 24 #[.slice a ms.length c, .slice b ps.length e, .agg #[vi l.s, vi l.v]] w (fun v w' => v = vb (viewSame (tabT ms) (tabT ps) l) ∧ w.grownBy w' none) := by
 refine Xq (n := 52) Try.func24 Z Try.ntmps24 Z ?_
 have fw := World.grownBy.refl w none
 refine Xa (wpo_box (v := .agg #[vi l.s, vi l.v]) (cs := #[vi l.s, vi l.v]) Z Z Z ?_)
 intro cc fz aj
 have gb := Xy aj fw
 have ao := low0 fw aj.grw
 refine wpo_assign (v := vb false) Z Z (wpo_nil (Xk (Xu (fun f' w' => (f' 0 = .slice a ms.length c ∧ f' 1 = .slice b ps.length e ∧ f' 5 = pt cc 0 ∧ f' 6 = vb false ∧ f' 29 = vb ((((!tableOk (tabT ms)) || (!tableOk (tabT ps))) || (!labelOk l)) || (!(decide ((ms.length : Int) = (ps.length : Int)))))) ∧ fz.grownBy w' none) ?_ ?_)))
 refine wpo_move (v := .slice a ms.length c) Z Z (Xi Xci (Xb Z Xg) Z (Gn  _ ms _ _ (TabAt.low ht ao) hlen (by omega)) ?_)
 rintro _ g9 ⟨rfl, ah⟩
 refine wpo_not (b' := !tableOk (tabT ms)) Z Z Z (wpo_move (v := vb (!tableOk (tabT ms))) Z Z ?_)
 rcases Xz (!tableOk (tabT ms)) with ac | ac
 have fi := Je ac
 iterate 3 refine Xe rfl rfl rfl ac rfl ?_
 refine wpo_pickt (v := vb true) Z ac Z Z (wpo_move (v := vb true) Z Z ?_)
 iterate 3 refine Xe rfl rfl rfl rfl rfl ?_
 refine wpo_pickt (v := vb true) Z Z Z Z (wpo_move (v := vb true) Z Z ?_)
 iterate 5 refine Xe rfl rfl rfl rfl rfl ?_
 exact wpo_pickt (v := vb true) Z Z Z Z (wpo_nil ⟨⟨Z, Z, Z, Z, (cB (by simp [ac, fi]))⟩, ah⟩)
 have ba := Qx ac
 refine Xd Z Z Z ac (wpo_move (v := .slice b ps.length e) Z Z (Xd Z Z Z ac (Xi Xci (Xb Z Xg) Z (Gn  _ ps _ _ (TabAt.low hp (low0 ao ah)) hlep (by omega)) ?_)))
 rintro _ ia ⟨rfl, al⟩
 refine Xd Z Z Z ac (wpo_not (b' := !tableOk (tabT ps)) Z Z Z (wpo_pickf (v := vb (!tableOk (tabT ps))) Z ac Z Z (wpo_move (v := vb (!tableOk (tabT ps))) Z Z ?_)))
 rcases Xz (!tableOk (tabT ps)) with af | af
 have fj := Je af
 iterate 3 refine Xe rfl rfl rfl af rfl ?_
 refine wpo_pickt (v := vb true) Z af Z Z (wpo_move (v := vb true) Z Z ?_)
 iterate 5 refine Xe rfl rfl rfl rfl rfl ?_
 exact wpo_pickt (v := vb true) Z Z Z Z (wpo_nil ⟨⟨Z, Z, Z, Z, (cB (by simp [ac, ba, af, fj]))⟩, (Xh ah al)⟩)
 have co := Qx af
 refine Xd Z Z Z af (wpo_loadn (vs := [vi l.s, vi l.v]) Yd Z Z (((aj.blk.grown0 ah).grown0 al).rangeL 0 2 Z) Z (Xd Z Z Z af (Xi L3 (Xb Z Xg) Z (Kg l _) ?_)))
 rintro _ ib ⟨rfl, bk⟩
 refine Xd Z Z Z af (wpo_not (b' := !labelOk l) Z Z Z (wpo_pickf (v := vb (!labelOk l)) Z af Z Z (wpo_move (v := vb (!labelOk l)) Z Z ?_)))
 rcases Xz (!labelOk l) with ae | ae
 have fk := Je ae
 iterate 5 refine Xe rfl rfl rfl ae rfl ?_
 exact wpo_pickt (v := vb true) Z ae Z Z (wpo_nil ⟨⟨Z, Z, Z, Z, (cB (by simp [ac, ba, af, co, ae, fk]))⟩, (Xh (Xh ah al) bk)⟩)
 have fm := Qx ae
 exact Xd Z Z Z ae (wpo_move (v := .slice a ms.length c) Z Z (Xd Z Z Z ae (wpo_len (by kernel_rfl) Z Z (Xd Z Z Z ae (wpo_move (v := .slice b ps.length e) Z Z (Xd Z Z Z ae (wpo_len (by kernel_rfl) Z Z (Xd Z Z Z ae (wpo_neq (q := !(decide ((ms.length : Int) = (ps.length : Int)))) Z Z Z Z (wpo_pickf (v := vb (!(decide ((ms.length : Int) = (ps.length : Int))))) Z ae Z Z (wpo_nil ⟨⟨Z, Z, Z, Z, (cB (by simp [ac, ba, af, co, ae, fm]))⟩, (Xh (Xh ah al) bk)⟩)))))))))))
 rintro gt f7 ⟨⟨d8, d9, ea, ed, ee⟩, av⟩
 have ap := low0 ao av
 refine Xt ee (fun a8 => ?_) (fun a8 => ?_)
 refine Xa (wpo_assign (v := vb false) Z Z (wpo_nil (Xm (Ya (⟨vb false, res1 Z Z, ?_, ap⟩)))))
 exact cB (Sn a8)
 have cw := K5 a8
 have cx := K5 cw
 have fp := K5 cx
 have cy := Qx fp
 have fq := K6 cx
 have cz := Qx fq
 have ft := K6 cw
 have bc := Qx ft
 have fu := K6 a8
 have fv := Qx fu
 have gv := of_decide_eq_true fv
 refine Xn (Xo (Xk (Q8 (m := 5) [[], [], [0, 1], [], [], [0, 1, 2, 3, 4], [0, 1, 2, 3, 4, 5], [0, 1, 2, 3, 4, 5, 6]] (fun S F w' => ∃ (E : List MTh) (ab : Option Addr) (V : Nat), f7.grownBy w' none ∧ F 0 = .slice a ms.length c ∧ F 1 = .slice b ps.length e ∧ F 5 = pt cc 0 ∧ F 6 = vb false ∧ (S 2 = true → F 32 = .slice ab E.length V ∧ tabT E = viewTab (tabT ms) l ∧ TabLen E ∧ E.length ≤ ms.length ∧ (ab = none → V = 0) ∧ TabAt w' (ab) E) ∧ Vals S F [(0, 30, .slice a ms.length c), (1, 31, .agg #[vi l.s, vi l.v]), (3, 33, .slice b ps.length e), (4, 34, .agg #[vi l.s, vi l.v])]) Yu (by kernel_rfl) ⟨[], none, 0, Xx _, d8, d9, ea, ed, X4, Kn _⟩ ?_ ?_)))
 refine Xl (fun S F ic hS hbef hcl hI => ?_) ?_
 obtain ⟨E, ab, V, dk, cd, ef, eh, ei, an, hvs⟩ := hI
 exact wpo_move (v := .slice a ms.length c) cd Z (wpo_nil ⟨E, ab, V, dk, cd, ef, eh, ei, Xj 2 hS hcl Z, Vals.up 0 hvs Z Z Z⟩)
 refine Xl (fun S F ie hS hbef hcl hI => ?_) ?_
 obtain ⟨E, ab, V, bm, ej, eu, ce, ew, an, hvs⟩ := hI
 exact wpo_loadn (vs := [vi l.s, vi l.v]) Yd ce Z (((aj.blk.grown0 av).grown0 bm).rangeL 0 2 Z) Z (wpo_nil ⟨E, ab, V, bm, ej, eu, ce, ew, Xj 2 hS hcl Z, Vals.up 1 hvs Z Z Z⟩)
 refine Xl (fun S F ig hS hbef hcl hI => ?_) ?_
 obtain ⟨E, ab, V, bn, ex, ey, ez, fa, an, hvs⟩ := hI
 have bh := low0 ap bn
 refine Xi Xcd (Xb (Vals.at 0 hvs Z (Xf 0 hbef Z)) (Xb (Vals.at 1 hvs Z (Xf 1 hbef Z)) Xg)) Z (ViewRule.rule _ ms _ _ l (nt hKB bh.size) (TabAt.low ht bh) hlen (by omega)) ?_
 rintro _ ii ⟨d0, d5, bt, rfl, au, dc, ca, di⟩
 have bv := Ku au hlen
 have bz := V5 au
 exact wpo_nil ⟨d0, d5, bt, (low0 bn di), ex, ey, ez, fa, fun _ => ⟨Z, au, bv, bz, ca, dc⟩, Vals.keep hvs Z⟩
 refine Xl (fun S F ij hS hbef hcl hI => ?_) ?_
 obtain ⟨E, ab, V, dl, fb, cg, fc, fd, an, hvs⟩ := hI
 exact wpo_move (v := .slice b ps.length e) cg Z (wpo_nil ⟨E, ab, V, dl, fb, cg, fc, fd, an, Vals.up 2 hvs Z Z Z⟩)
 refine Xl (fun S F ik hS hbef hcl hI => ?_) ?_
 obtain ⟨E, ab, V, bp, fe, ff, cj, fg, an, hvs⟩ := hI
 exact wpo_loadn (vs := [vi l.s, vi l.v]) Yd cj Z (((aj.blk.grown0 av).grown0 bp).rangeL 0 2 Z) Z (wpo_nil ⟨E, ab, V, bp, fe, ff, cj, fg, an, Vals.up 3 hvs Z Z Z⟩)
 exact Jp
 intro S F il hall hI
 obtain ⟨E, ab, V, dm, gm, gp, gq, gr, an, hvs⟩ := hI
 have aq := low0 ap dm
 obtain ⟨fh, ar, bu, gg, gi, bf⟩ := an (hall 2 (by decide))
 refine Xi Xcd (Xb (Vals.at 2 hvs Z (hall 3 (by decide))) (Xb (Vals.at 3 hvs Z (hall 4 (by decide))) Xg)) Z (ViewRule.rule _ ps _ _ l (nt hKB aq.size) (TabAt.low hp aq) hlep (by omega)) ?_
 rintro _ f8 ⟨O, az, ai, rfl, ak, bg, gj, aw⟩
 have bw := Ku ak hlep
 have gh := V5 ak
 refine wpo_assign (v := .slice ab E.length V) fh Z (wpo_assign (v := .slice az O.length ai) Z Z (wpo_nil (Xo (Xk (Xa (wpo_move (v := .slice ab E.length V) Z Z (wpo_len (by kernel_rfl) Z Z (wpo_move (v := vi 0) Z Z (wpo_nil (Xv (Yg (fun mm f' w' => ∃ (i : Nat), mm = E.length - i ∧ i ≤ E.length ∧ (tabT E).take i = (tabT O).take i ∧ f8.grownBy w' none ∧ f' 38 = vi (i : Int) ∧ f' 7 = .slice ab E.length V ∧ f' 8 = .slice az O.length ai ∧ f' 37 = vi (E.length : Int) ∧ w.grownBy w' none) (E.length - 0) ⟨0, Z, (Nat.zero_le _), Z, (World.grownBy.refl _ none), Z, Z, Z, Z, (low0 aq aw)⟩ ?_)))))))))))
 rintro mm gu f9 ⟨i, gl, hi, ha, ag, a9, ck, cm, cn, bi⟩
 have heq := Ju ar cy bc
 have g4 := Ju ak cz bc
 refine Xa (wpo_lss (q := decide ((i : Int) < (E.length : Int))) a9 cn Z Z (wpo_nil (Xk (Xt Z (fun bd => ?_) (fun bd => ?_)))))
 have gw := of_decide_eq_true bd
 refine Xn (Xo (Xk (Xv (Xa (wpo_move (v := vi (i : Int)) a9 Z (wpo_assign (v := vi (i : Int)) Z Z (wpo_nil (Xk ?_))))))))
 obtain ⟨d6, g7, fx, de, dv, dx⟩ := SlAt.at (TabAt.low bf (Xh aw ag)).1 (Yw (xg E i))
 have gc := TabLen.at bu (xg E i)
 obtain ⟨d7, g8, fy, dh, dw, dz⟩ := SlAt.at (TabAt.low bg ag).1 (Yw (xg O i))
 have gf := TabLen.at bw (xg O i)
 refine Yl (m := 8) (vals := [(41, .slice ab E.length V), (42, vi (i : Int)), (43, pt d6 fx), (44, .agg #[vi (mAt E i).t.kind, vi (mAt E i).t.lab.s, vi (mAt E i).t.lab.v, vi (mAt E i).t.ve, vi (mAt E i).t.num, .slice (mAt E i).sa (mAt E i).t.slots.length (mAt E i).sc, .slice (mAt E i).qa (mAt E i).t.queue.length (mAt E i).qc, vi (mAt E i).t.to]), (45, .slice az O.length ai), (46, vi (i : Int)), (47, pt d7 fy), (48, .agg #[vi (mAt O i).t.kind, vi (mAt O i).t.lab.s, vi (mAt O i).t.lab.v, vi (mAt O i).t.ve, vi (mAt O i).t.num, .slice (mAt O i).sa (mAt O i).t.slots.length (mAt O i).sc, .slice (mAt O i).qa (mAt O i).t.queue.length (mAt O i).qc, vi (mAt O i).t.to])]) (fun w' => f9.grownBy w' none) Yu (by kernel_rfl) (Xx _) ?_ ?_
 refine Xc Z (fun im dn => ?_) ?_
 exact wpo_move (v := .slice ab E.length V) ck Z (wpo_nil ⟨Z, dn⟩)
 refine Xc Z (fun io dp => ?_) ?_
 exact wpo_move (v := vi (i : Int)) Z Z (wpo_nil ⟨Z, dp⟩)
 refine Xc Z (fun ip dq => ?_) ?_
 exact X6 Qj Z Z de dv (by omega) (by omega) Z (wpo_nil ⟨Z, dq⟩)
 refine Xc Z (fun iq bq => ?_) ?_
 exact wpo_loadn (vs := [vi (mAt E i).t.kind, vi (mAt E i).t.lab.s, vi (mAt E i).t.lab.v, vi (mAt E i).t.ve, vi (mAt E i).t.num, .slice (mAt E i).sa (mAt E i).t.slots.length (mAt E i).sc, .slice (mAt E i).qa (mAt E i).t.queue.length (mAt E i).qc, vi (mAt E i).t.to]) X0 Z Z (Qh (Y8 dx bq) 0 8 Z) Z (wpo_nil ⟨Z, bq⟩)
 refine Xc Z (fun ir dr => ?_) ?_
 exact wpo_move (v := .slice az O.length ai) cm Z (wpo_nil ⟨Z, dr⟩)
 refine Xc Z (fun is dt => ?_) ?_
 exact wpo_move (v := vi (i : Int)) Z Z (wpo_nil ⟨Z, dt⟩)
 refine Xc Z (fun it du => ?_) ?_
 exact X6 Qj Z Z dh dw (by omega) (by omega) Z (wpo_nil ⟨Z, du⟩)
 refine Xc Z (fun iu br => ?_) ?_
 exact wpo_loadn (vs := [vi (mAt O i).t.kind, vi (mAt O i).t.lab.s, vi (mAt O i).t.lab.v, vi (mAt O i).t.ve, vi (mAt O i).t.num, .slice (mAt O i).sa (mAt O i).t.slots.length (mAt O i).sc, .slice (mAt O i).qa (mAt O i).t.queue.length (mAt O i).qc, vi (mAt O i).t.to]) X0 Z Z (Qh (Y8 dz br) 0 8 Z) Z (wpo_nil ⟨Z, br⟩)
 exact Y2
 intro iv am
 refine Xi Xet (Xb Z (Xb Z Xg)) Z (Sa (mAt E i) (mAt O i) _ (TabAt.th (TabAt.low bf (Xh (Xh aw ag) am)) (xg E i)) (TabAt.th (TabAt.low bg (Xh ag am)) (xg O i)) ⟨by first | omega | exact Nat.le_of_ble_eq_true rfl | (simp only [List.length_nil, List.length_cons, List.length_append, List.length_replicate]; omega), by first | omega | exact Nat.le_of_ble_eq_true rfl | (simp only [List.length_nil, List.length_cons, List.length_append, List.length_replicate]; omega)⟩ ⟨by first | omega | exact Nat.le_of_ble_eq_true rfl | (simp only [List.length_nil, List.length_cons, List.length_append, List.length_replicate]; omega), by first | omega | exact Nat.le_of_ble_eq_true rfl | (simp only [List.length_nil, List.length_cons, List.length_append, List.length_replicate]; omega)⟩) ?_
 rintro _ iw ⟨rfl, bl⟩
 have bj := low0 (low0 bi am) bl
 refine wpo_not (b' := !(decide ((mAt E i).t = (mAt O i).t))) Z Z Z (wpo_nil (Xo (Xt Z (fun be => ?_) (fun be => ?_))))
 have da := Je be
 have gx := of_decide_eq_false da
 refine Xa (wpo_assign (v := vb false) Z Z (wpo_nil (Xm (Qv (Ya (Ya (Qv (Ya (⟨vb false, res1 Z Z, ?_, bj⟩)))))))))
 exact cB (Sm (i := i) ar ak (of_decide_eq_false da))
 have db := Qx be
 have gy := of_decide_eq_true db
 exact Xn (Y3 (Xo (Xr (wpo_add (c := (i : Int) + 1) a9 Z (by omega) (by omega) (by omega) Z (wpo_move (v := vi ((i : Int) + 1)) Z Z (wpo_nil (Xo (⟨E.length - (i + 1), by omega, (i + 1), rfl, (by omega), (Oa ha (by omega) (by omega) (of_decide_eq_true db)), (low0 (low0 ag am) bl), rfl, ck, cm, cn, bj⟩))))))))
 have gz := of_decide_eq_false bd
 refine Yo (Yx (Yx (Jm (Xo (Xa (wpo_assign (v := vb true) Z Z (wpo_nil (Xm (⟨vb true, res1 Z Z, ?_, bi⟩)))))))))
 exact cB (Pq ar ak cy cz bc (by omega) ha (by omega))
end Go.Dw.J
end
section
namespace Go.Dw.J
open Go.RowKit Go.Dw Go.Proofs
set_option linter.unusedSectionVars false
set_option maxRecDepth 100000
set_option maxHeartbeats 4000000
set_option linter.unusedSimpArgs false
set_option linter.unusedVariables false
theorem Xes : goFn Try.prog 57 = true := by kernel_rfl
theorem Ic [Comp] (a b : Int) (ha : 0 ≤ a ∧ a ≤ 3) (hb : 0 ≤ b ∧ b ≤ 3) (w : World) : CallsR Try.prog 57 #[.int .u64 a, .int .u64 b] w (fun v w' => v = .agg #[vi a, vi b] ∧ w.grownBy w' none) := by
 refine Xq (n := 10) Try.func57 Z Try.ntmps57 Z ?_
 have V := World.grownBy.refl w none
 refine Xa (wpo_alloc (cs := #[vi 0, vi 0]) Hc Z Z ?_)
 intro ac ae E
 have ab := Xy E V
 refine wpo_nil (Xa (wpo_move (v := .int .u64 a) Z Z (wpo_conv (P := Try.prog) (k' := .i64) Z (by kernel_rfl) (by kernel_rfl) (Uc (by omega) (by omega)) Z (wpo_move (v := .int .u64 b) Z Z (wpo_conv (P := Try.prog) (k' := .i64) Z (by kernel_rfl) (by kernel_rfl) (Uc (by omega) (by omega)) Z (wpo_build (ps := [(0, vi a), (1, vi b)]) (v := .agg #[vi a, vi b]) (Xp Z (Xp Z Xw)) (fun _ => by kernel_rfl) Z (wpo_storen (vs := [vi a, vi b]) (cs' := #[vi a, vi b]) Yd Z Z Z (by simp [Value.oneCell']) E.blk (Nat.le_of_ble_eq_true Z) Z ?_)))))))
 intro af O
 refine wpo_nil (Xm (⟨.agg #[vi a, vi b], resC Z (resCell_mk (vs := [vi a, vi b]) Yd Z Z (O.blk.rangeL 0 2 Z)), ?_, (low1 (low0 V E.grw) O.grw (by omega))⟩))
 rfl
theorem Px [Comp] (a b : Lab) (w : World) : CallsR Try.prog 27 #[.agg #[vi a.s, vi a.v], .agg #[vi b.s, vi b.v]] w (fun v w' => v = .agg #[vi (lMeet a b).s, vi (lMeet a b).v] ∧ w.grownBy w' none) := by
 refine Xq (n := 35) Try.func27 Z Try.ntmps27 Z ?_
 have bj := World.grownBy.refl w none
 refine Xa (wpo_box (v := .agg #[vi a.s, vi a.v]) (cs := #[vi a.s, vi a.v]) Z Z Z ?_)
 intro a9 cj ac
 have bl := Xy ac bj
 have am := low0 bj ac.grw
 refine wpo_box (v := .agg #[vi b.s, vi b.v]) (cs := #[vi b.s, vi b.v]) Z Z Z ?_
 intro ba ck V
 have bm := Xy V am
 have au := Xs V (ac.blk).lt
 have an := low0 am V.grw
 refine wpo_alloc (cs := #[vi 0, vi 0]) Hc Z Z ?_
 intro bc bk E
 have bn := Xy E an
 have ar := (ac.blk.grown0 V.grw)
 have av := Xs E (ar).lt
 have aw := Xs E (V.blk).lt
 refine wpo_nil (Xk (Xu (fun f' w' => (f' 2 = pt a9 0 ∧ f' 3 = pt ba 0 ∧ f' 4 = pt bc 0 ∧ f' 16 = vb ((!labelOk a) || (!labelOk b))) ∧ bk.grownBy w' none) ?_ ?_))
 refine wpo_loadn (vs := [vi a.s, vi a.v]) Yd Z Z ((ar.grown0 E.grw).rangeL 0 2 Z) Z (Xi L3 (Xb Z Xg) Z (Kg a _) ?_)
 rintro _ cm ⟨rfl, ae⟩
 refine wpo_not (b' := !labelOk a) Z Z Z (wpo_move (v := vb (!labelOk a)) Z Z ?_)
 rcases Xz (!labelOk a) with O | O
 have bg := Je O
 iterate 3 refine Xe rfl rfl rfl O rfl ?_
 exact wpo_pickt (v := vb true) Z O Z Z (wpo_nil ⟨⟨Z, Z, Z, (cB (by simp [O, bg]))⟩, ae⟩)
 have az := Qx O
 obtain ⟨⟨bp, bq⟩, br, bt⟩ := (Yq a).1 az
 refine Xd Z Z Z O (wpo_loadn (vs := [vi b.s, vi b.v]) Yd Z Z (((V.blk.grown0 E.grw).grown0 ae).rangeL 0 2 Z) Z (Xd Z Z Z O (Xi L3 (Xb Z Xg) Z (Kg b _) ?_)))
 rintro _ cn ⟨rfl, a8⟩
 exact Xd Z Z Z O (wpo_not (b' := !labelOk b) Z Z Z (wpo_pickf (v := vb (!labelOk b)) Z O Z Z (wpo_nil ⟨⟨Z, Z, Z, (cB (by simp [O, az]))⟩, (Xh ae a8)⟩)))
 rintro cg co ⟨⟨bd, be, ag, bf⟩, ab⟩
 have ao := low0 (low0 an E.grw) ab
 refine Xt bf (fun ah => ?_) (fun ah => ?_)
 refine Xa (wpo_build (ps := []) (v := .agg #[vi 0, vi 0]) Xw (fun _ => by kernel_rfl) Z (wpo_storen (vs := [vi 0, vi 0]) (cs' := #[vi 0, vi 0]) Yd ag Z Z (by simp [Value.oneCell']) (E.blk.grown0 ab) (Nat.le_of_ble_eq_true Z) Z ?_))
 intro cw ak
 refine wpo_nil (Xm (Ya (⟨.agg #[vi 0, vi 0], resC Z (resCell_mk (vs := [vi 0, vi 0]) Yd ag Z (ak.blk.rangeL 0 2 Z)), ?_, (low1 ao ak.grw (by omega))⟩)))
 rw [Xba ah]
 have bh := K5 ah
 have ai := Qx bh
 obtain ⟨⟨bu, bv⟩, bw, bz⟩ := (Yq a).1 ai
 have bi := K6 ah
 have aj := Qx bi
 obtain ⟨⟨ca, cc⟩, cd, ce⟩ := (Yq b).1 aj
 refine Xn (Xo (Xa (wpo_loadn (vs := [vi a.s, vi a.v]) Yd bd Z (((ar.grown0 E.grw).grown0 ab).rangeL 0 2 Z) Z (Xi Mg (Xb Z Xg) Z (Vi a ai _) ?_))))
 rintro _ cx ⟨rfl, af⟩
 refine wpo_move (v := .tuple #[.int .u64 a.s, .int .u64 a.v]) Z Z (wpo_extract (v := .int .u64 a.s) Z Z Z (wpo_extract (v := .int .u64 a.v) Z Z Z (wpo_assign (v := .int .u64 a.s) Z Z (wpo_assign (v := .int .u64 a.v) Z Z (wpo_nil (Xa (wpo_loadn (vs := [vi b.s, vi b.v]) Yd be Z ((((V.blk.grown0 E.grw).grown0 ab).grown0 af).rangeL 0 2 Z) Z (Xi Mg (Xb Z Xg) Z (Vi b aj _) ?_))))))))
 rintro _ cy ⟨rfl, ap⟩
 refine wpo_move (v := .tuple #[.int .u64 b.s, .int .u64 b.v]) Z Z (wpo_extract (v := .int .u64 b.s) Z Z Z (wpo_extract (v := .int .u64 b.v) Z Z Z (wpo_assign (v := .int .u64 b.s) Z Z (wpo_assign (v := .int .u64 b.v) Z Z (wpo_nil (Xa (wpo_move (v := .int .u64 a.s) Z Z (wpo_move (v := .int .u64 b.s) Z Z (wpo_bin (u := .int .u64 a.s) (u' := .int .u64 b.s) (v := .int .u64 (bits .and .u64 a.s b.s)) Z Z Z Z (fun _ => by rw [binOp_and, intBits_and]; rfl) (fun _ _ => eqGuard_at_int ..) Z (wpo_move (v := .int .u64 a.v) Z Z (wpo_move (v := .int .u64 b.v) Z Z (wpo_bin (u := .int .u64 a.v) (u' := .int .u64 b.v) (v := .int .u64 (bits .or .u64 a.v b.v)) Z Z Z Z (fun _ => by rw [binOp_or, intBits_or]; rfl) (fun _ _ => eqGuard_at_int ..) Z ?_))))))))))))
 refine Xi Xes (Xb Z (Xb Z Xg)) Z (Ic (bits .and .u64 a.s b.s) (bits .or .u64 a.v b.v) (Wn _ _ ⟨by omega, by omega⟩ ⟨by omega, by omega⟩).2 (Wn _ _ ⟨by omega, by omega⟩ ⟨by omega, by omega⟩).1 _) ?_
 rintro _ cz ⟨rfl, aq⟩
 refine wpo_storen (vs := [vi (bits .and .u64 a.s b.s), vi (bits .or .u64 a.v b.v)]) (cs' := #[vi (bits .and .u64 a.s b.s), vi (bits .or .u64 a.v b.v)]) Yd ag Z Z (by simp [Value.oneCell']) ((((E.blk.grown0 ab).grown0 af).grown0 ap).grown0 aq) (Nat.le_of_ble_eq_true Z) Z ?_
 intro da al
 refine wpo_nil (Xm (⟨.agg #[vi (bits .and .u64 a.s b.s), vi (bits .or .u64 a.v b.v)], resC Z (resCell_mk (vs := [vi (bits .and .u64 a.s b.s), vi (bits .or .u64 a.v b.v)]) Yd ag Z (al.blk.rangeL 0 2 Z)), ?_, (low1 (low0 (low0 (low0 ao af) ap) aq) al.grw (by omega))⟩))
 rw [Zj ai aj]; rfl
theorem Ig [Comp] (n : Int) (hn : 0 ≤ n ∧ n ≤ 9223372036854775807) (w : World) : CallsR Try.prog 23 #[vi n] w (fun v w' => v = .agg #[vi (n % 4), vi (n / 4 % 4)] ∧ w.grownBy w' none) := by
 refine Xq (n := 9) Try.func23 Z Try.ntmps23 Z ?_
 have V := World.grownBy.refl w none
 refine Xa (wpo_alloc (cs := #[vi 0, vi 0]) Hc Z Z ?_)
 intro ac ae E
 have ab := Xy E V
 refine wpo_nil (Xa (wpo_move (v := vi n) Z Z (wpo_rem (c := n % 4) Z Z (by omega) (by omega) (by omega) Z Z (wpo_move (v := vi n) Z Z (wpo_quo (c := n / 4) Z Z (by omega) (by omega) (by omega) Z Z (wpo_rem (c := (n / 4) % 4) Z Z (by omega) (by omega) (by omega) Z Z (wpo_build (ps := [(0, vi (n % 4)), (1, vi ((n / 4) % 4))]) (v := .agg #[vi (n % 4), vi ((n / 4) % 4)]) (Xp Z (Xp Z Xw)) (fun _ => by kernel_rfl) Z (wpo_storen (vs := [vi (n % 4), vi ((n / 4) % 4)]) (cs' := #[vi (n % 4), vi ((n / 4) % 4)]) Yd Z Z Z (by simp [Value.oneCell']) E.blk (Nat.le_of_ble_eq_true Z) Z ?_))))))))
 intro af O
 refine wpo_nil (Xm (⟨.agg #[vi (n % 4), vi ((n / 4) % 4)], resC Z (resCell_mk (vs := [vi (n % 4), vi ((n / 4) % 4)]) Yd Z Z (O.blk.rangeL 0 2 Z)), ?_, (low1 (low0 V E.grw) O.grw (by omega))⟩))
 rfl
end Go.Dw.J
end
section
namespace Go.Dw.J
open Go.RowKit Go.Dw Go.Proofs
set_option linter.unusedSectionVars false
set_option maxRecDepth 100000
set_option maxHeartbeats 4000000
set_option linter.unusedSimpArgs false
set_option linter.unusedVariables false
theorem Xej : goFn Try.prog 23 = true := by kernel_rfl
theorem Xce : goFn Try.prog 24 = true := by kernel_rfl
theorem Xek : goFn Try.prog 25 = true := by kernel_rfl
theorem Xcf : goFn Try.prog 26 = true := by kernel_rfl
theorem Xel : goFn Try.prog 27 = true := by kernel_rfl
theorem law_FnViewLess [Comp] [ViewRule] (bs : List Int) (a : Option Addr) (c : Nat) (w : World) (hs0 : SlAt w a 1 (bs.map bcell)) (hb : ∀ b ∈ bs, 0 ≤ b ∧ b ≤ 255) (hn : bs.length ≤ 9223372036854775807) (hc : bs.length ≤ c) (m : Nat) (a2 : Option Addr) (c2 : Nat) (hm : m ≤ 9223372036854775807) (hKB : ViewRule.base ≤ w.heap.size) : Wpf Try.prog 51 (endQ Try.prog Try.f7 (fun v w' => v = .bool true ∧ w.grownBy w' none)) (Try.f7.body.getD .skip) (f0 #[.slice a bs.length c, .slice a2 m c2]) w := by
 have ba := World.grownBy.refl w none
 have hs := SlAt.lt Pt (by omega) hs0
 refine Xa (wpo_assign (v := vb false) Z Z (wpo_nil (Xk (Xu (fun f' w' => (f' 0 = .slice a bs.length c ∧ f' 1 = .slice a2 m c2 ∧ f' 4 = vb false ∧ f' 16 = vb ((decide (1048576 < (bs.length : Int))) || (decide (1048576 < (m : Int))))) ∧ w = w') ?_ ?_))))
 refine wpo_move (v := .slice a bs.length c) Z Z (wpo_len (by kernel_rfl) Z Z (wpo_gtr (q := decide (1048576 < (bs.length : Int))) Z Z Z Z (wpo_move (v := vb (decide (1048576 < (bs.length : Int)))) Z Z ?_)))
 rcases Xz (decide (1048576 < (bs.length : Int))) with ae | ae
 have cg := of_decide_eq_true ae
 iterate 3 refine Xe rfl rfl rfl ae rfl ?_
 exact wpo_pickt (v := vb true) Z ae Z Z (wpo_nil ⟨⟨Z, Z, Z, (cB (by simp [ae]))⟩, Z⟩)
 have cj := of_decide_eq_false ae
 exact Xd Z Z Z ae (wpo_move (v := .slice a2 m c2) Z Z (Xd Z Z Z ae (wpo_len (by kernel_rfl) Z Z (Xd Z Z Z ae (wpo_gtr (q := decide (1048576 < (m : Int))) Z Z Z Z (wpo_pickf (v := vb (decide (1048576 < (m : Int)))) Z ae Z Z (wpo_nil ⟨⟨Z, Z, Z, (cB (by simp [ae]))⟩, Z⟩)))))))
 rintro ce co ⟨⟨bn, bp, cd, bq⟩, rfl⟩
 refine Xt bq (fun aq => ?_) (fun aq => ?_)
 refine Xa (wpo_assign (v := vb true) Z Z (wpo_nil (Xm (Ya (⟨vb true, res1 Z Z, ?_, ba⟩)))))
 rfl
 have br := K5 aq
 have ck := of_decide_eq_false br
 have bt := K6 aq
 have cm := of_decide_eq_false bt
 refine Xn (Xo (Xa (wpo_move (v := .slice a bs.length c) bn Z (Xi Xek (Xb Z Xg) Z (Hv bs a c _ (SlAt.low hs0 ba) hb (by omega) (by omega)) ?_))))
 rintro _ cw ⟨O, V, ah, ai, aj, ak, E, rfl, an, ao, al, am, bz, ca, bc⟩
 have au := low0 ba bc
 refine wpo_move (v := .tuple #[.slice ah O.length aj, .slice ai V.length ak, .agg #[vi E.s, vi E.v]]) Z Z (wpo_extract (v := .slice ah O.length aj) Z Z Z (wpo_extract (v := .slice ai V.length ak) Z Z Z (wpo_extract (v := .agg #[vi E.s, vi E.v]) Z Z Z (wpo_alloc (cs := #[vi 0, vi 0]) Hc Z Z ?_))))
 intro cc cx ab
 have bw := Xy ab au
 refine wpo_assign (v := .slice ah O.length aj) Z Z (wpo_assign (v := .slice ai V.length ak) Z Z (wpo_storen (vs := [vi E.s, vi E.v]) (cs' := #[vi E.s, vi E.v]) Yd Z Z Z (by simp [Value.oneCell']) ab.blk (Nat.le_of_ble_eq_true Z) Z ?_))
 intro cy ac
 have av := low1 (low0 au ab.grw) ac.grw (by omega)
 refine wpo_nil (Xa (wpo_move (v := .slice ah O.length aj) Z Z (wpo_move (v := .slice ai V.length ak) Z Z (wpo_loadn (vs := [vi E.s, vi E.v]) Yd Z Z (ac.blk.rangeL 0 2 Z) Z (Xi Xce (Xb Z (Xb Z (Xb Z Xg))) Z (Hw E _ O V _ _ _ _ (TabAt.low an (low1 ab.grw ac.grw (nt ((World.grownBy.refl _ none)).size ab.ge))) (TabAt.low ao (low1 ab.grw ac.grw (nt ((World.grownBy.refl _ none)).size ab.ge))) al am (by omega) (by omega) (nt hKB av.size)) ?_)))))
 rintro _ cz ⟨rfl, af⟩
 refine wpo_assign (v := vb (viewSame (tabT O) (tabT V) E)) Z Z (wpo_nil (Xk (Xa (wpo_move (v := vb (viewSame (tabT O) (tabT V) E)) Z Z (wpo_move (v := .slice ah O.length aj) Z Z (wpo_move (v := .slice ai V.length ak) Z Z ?_))))))
 have a9 := (ac.blk.grown0 af)
 refine wpo_loadn (vs := [vi E.s, vi E.v]) Yd Z Z (a9.rangeL 0 2 Z) Z (Xi Xcf (Xb Z (Xb Z (Xb Z Xg))) Z (G7 E _ O V _ _ _ _ (TabAt.low an (low0 (low1 ab.grw ac.grw (nt ((World.grownBy.refl _ none)).size ab.ge)) af)) (TabAt.low ao (low0 (low1 ab.grw ac.grw (nt ((World.grownBy.refl _ none)).size ab.ge)) af)) al am (by omega) (by omega)) ?_)
 rintro _ bv ⟨rfl, ag⟩
 have aw := low0 (low0 av af) ag
 refine wpo_neqb (q := false) (by kernel_rfl) Z Z (by simp) Z (wpo_move (v := vb false) Z Z (Xd Z Z Z Z (wpo_move (v := vb (viewSame (tabT O) (tabT V) E)) Z Z (Xd Z Z Z Z (wpo_not (b' := !viewSame (tabT O) (tabT V) E) Z Z Z (wpo_pickf (v := vb (!viewSame (tabT O) (tabT V) E)) Z Z Z Z (wpo_nil (Xt Z (fun ar => ?_) (fun ar => ?_)))))))))
 have cn := Je ar
 refine Xa (wpo_move (v := vb (viewSame (tabT O) (tabT V) E)) Z Z (wpo_move (v := .slice ah O.length aj) Z Z (wpo_move (v := .slice ai V.length ak) Z Z (wpo_loadn (vs := [vi E.s, vi E.v]) Yd Z Z ((a9.grown0 ag).rangeL 0 2 Z) Z (Xi Xcf (Xb Z (Xb Z (Xb Z Xg))) Z (G7 E _ O V _ _ _ _ (TabAt.low an (low0 (low0 (low1 ab.grw ac.grw (nt ((World.grownBy.refl _ none)).size ab.ge)) af) ag)) (TabAt.low ao (low0 (low0 (low1 ab.grw ac.grw (nt ((World.grownBy.refl _ none)).size ab.ge)) af) ag)) al am (by omega) (by omega)) ?_)))))
 rintro _ da ⟨rfl, bd⟩
 refine wpo_eqlb (q := true) (by kernel_rfl) Z Z (by simp) Z (wpo_assign (v := vb true) Z Z (wpo_nil (Xm (Ya (⟨vb true, res1 Z Z, ?_, (low0 aw bd)⟩)))))
 rfl
 have bu := Qx ar
 refine Xn (Xo (Xk (Yl (m := 7) (vals := [(43, .slice ah O.length aj), (44, .slice ai V.length ak), (45, .agg #[vi E.s, vi E.v]), (46, .slice a2 m c2), (47, vi (m : Int)), (48, .agg #[vi ((m : Int) % 4), vi ((m : Int) / 4 % 4)]), (49, .agg #[vi (lMeet E ⟨(m : Int) % 4, (m : Int) / 4 % 4⟩).s, vi (lMeet E ⟨(m : Int) % 4, (m : Int) / 4 % 4⟩).v])]) (fun w' => bv.grownBy w' none) Yu (by kernel_rfl) (Xx _) ?_ ?_)))
 refine Xc Z (fun db bh => ?_) ?_
 exact wpo_move (v := .slice ah O.length aj) Z Z (wpo_nil ⟨Z, bh⟩)
 refine Xc Z (fun dc bi => ?_) ?_
 exact wpo_move (v := .slice ai V.length ak) Z Z (wpo_nil ⟨Z, bi⟩)
 refine Xc Z (fun de a8 => ?_) ?_
 exact wpo_loadn (vs := [vi E.s, vi E.v]) Yd Z Z (((a9.grown0 ag).grown0 a8).rangeL 0 2 Z) Z (wpo_nil ⟨Z, a8⟩)
 refine Xc Z (fun dh bj => ?_) ?_
 exact wpo_move (v := .slice a2 m c2) bp Z (wpo_nil ⟨Z, bj⟩)
 refine Xc Z (fun di bk => ?_) ?_
 exact wpo_len (by kernel_rfl) Z Z (wpo_nil ⟨Z, bk⟩)
 refine Xc Z (fun dk bl => ?_) ?_
 refine Xi Xej (Xb Z Xg) Z (Ig (m : Int) (by omega) _) ?_
 rintro _ dl ⟨rfl, be⟩
 exact wpo_nil ⟨Z, (Xh bl be)⟩
 refine Xc Z (fun dm bm => ?_) ?_
 refine Xi Xel (Xb Z (Xb Z Xg)) Z (Px E ⟨(m : Int) % 4, (m : Int) / 4 % 4⟩ _) ?_
 rintro _ dn ⟨rfl, bf⟩
 exact wpo_nil ⟨Z, (Xh bm bf)⟩
 exact Y2
 intro dp ap
 have az := low0 aw ap
 refine Xi Xce (Xb Z (Xb Z (Xb Z Xg))) Z (Hw (lMeet E ⟨(m : Int) % 4, (m : Int) / 4 % 4⟩) _ O V _ _ _ _ (TabAt.low an (low0 (low0 (low0 (low1 ab.grw ac.grw (nt ((World.grownBy.refl _ none)).size ab.ge)) af) ag) ap)) (TabAt.low ao (low0 (low0 (low0 (low1 ab.grw ac.grw (nt ((World.grownBy.refl _ none)).size ab.ge)) af) ag) ap)) al am (by omega) (by omega) (nt hKB az.size)) ?_
 rintro _ dq ⟨rfl, bg⟩
 refine wpo_assign (v := vb (viewSame (tabT O) (tabT V) (lMeet E ⟨(m : Int) % 4, (m : Int) / 4 % 4⟩))) Z Z (wpo_nil (Xo (Xm (⟨vb (viewSame (tabT O) (tabT V) (lMeet E ⟨(m : Int) % 4, (m : Int) / 4 % 4⟩)), res1 Z Z, ?_, (low0 az bg)⟩))))
 exact cB (Lz (Rn m) bu)
end Go.Dw.J
end
section
namespace Go.Dw
open Go.ChangeShapes Go.WideShapes Go.ChangeAt Go.RowKit Go.Deep
section
variable {H : Type} {enc : TypeId × Value → H} {P : Program} {w : World} {base : Nat} {spare : Nat → Bool} {held : Bool} {fuel : Nat} {cs : List Value} {x : DataW H × List MemPlace}
theorem Tu {α : Type} {g : α → List Value} {ok : α → Prop} {t e : TypeId} {sz : Nat} (ht : P.underlying t = some (.slice e)) (hc : P.cellsOf e = sz) (hz : 0 < sz) (hg : Wide g sz) (hrd : ∀ n cs x, DataW.trod enc P w base spare held n e cs = some x → ∃ a, cs = g a ∧ ok a)
    (h : DataW.trod enc P w base spare held fuel t cs = some x) :
    ∃ (a : Option Addr) (xs : List α) (c : Nat), cs = [.slice a xs.length c] ∧ xs.length ≤ c ∧ c ≤ maxLen ∧ SlAt w a sz (xs.map g) ∧ (∀ y ∈ xs, ok y) ∧ (a = none → c = 0) := by
  rcases open_slice ht h with ⟨rfl, _⟩ | ⟨a, len, cap, m, n, D, Pl, rfl, _, hl, hm, hmm, _, hi⟩
  · exact ⟨none, [], 0, rfl, Nat.le_refl _, Nat.zero_le _, fun k x hk => by simp at hk, fun y hy => by simp at hy, fun _ => rfl⟩
  · have hlm : len ≤ m := by
      rw [hmm]; split <;> omega
    have hex : ∀ i : Fin len, ∃ y : α, ok y ∧ ∀ j, j < sz → w.cell? (a.add (i.val * sz + j)) = (g y)[j]? := fun i => by
      obtain ⟨cs', hcs, htr⟩ := hi i.val (by omega)
      obtain ⟨y, rfl, hy⟩ := hrd _ _ _ htr
      rw [hc] at hcs
      obtain ⟨_, _, hat⟩ := World.cells?_some hcs
      refine ⟨y, hy, fun j hj => ?_⟩
      rw [← hat j hj, add_add]
    refine ⟨some a, List.ofFn fun i : Fin len => Classical.choose (hex i), cap, by simp, by simpa using hl, hm, fun k x hk => ?_, fun y hy => ?_, fun hn => by cases hn⟩
    · rw [List.getElem?_map] at hk
      cases hy : (List.ofFn fun i : Fin len => Classical.choose (hex i))[k]? with
      | none => rw [hy] at hk; simp at hk
      | some y =>
        rw [hy] at hk
        obtain rfl : g y = x := by simpa using hk
        have hkl : k < len := by
          have := (List.getElem?_eq_some_iff.1 hy).1
          simpa using this
        have hye : Classical.choose (hex ⟨k, hkl⟩) = y := by
          rw [List.getElem?_ofFn] at hy
          simpa [hkl] using hy
        have hat := (Classical.choose_spec (hex ⟨k, hkl⟩)).2
        rw [hye] at hat
        obtain ⟨b, o, spot⟩ := a
        have hspot : spot = none := by
          obtain ⟨y0, _, hy0⟩ := hex ⟨0, by omega⟩
          have h0 := hy0 0 hz
          obtain ⟨v, hv⟩ : ∃ v, (g y0)[0]? = some v := ⟨_, List.getElem?_eq_getElem (by rw [hg]; exact hz)⟩
          rw [hv] at h0
          have := World.cell?_spot h0
          simpa [Addr.add] using this
        subst hspot
        refine ⟨b, o, rfl, fun j v hj => ?_⟩
        have hjl : j < sz := by rw [← hg y]; exact (List.getElem?_eq_some_iff.1 hj).1
        rw [← hj, ← hat j hjl]
        simp only [Addr.add]
        split
        · rename_i he
          rw [show o + k * sz + j = o by omega]
        · rw [show o + (k * sz + j) = o + k * sz + j by omega]
    · obtain ⟨i, rfl⟩ := List.mem_ofFn.1 hy
      exact (Classical.choose_spec (hex i)).1
theorem Mo {α : Type} {g : α → List Value} {ok : α → Prop} {r : Reach} {b0 : Nat} {t e sz : Nat} {v : Value} {d : DataW H} {p : List MemPlace} (hs : P.underlying t = some (.slice e)) (hc : P.cellsOf e = sz) (hz : 0 < sz) (hg : Wide g sz)
    (hrd : ∀ n cs x, DataW.trod enc P w base spare held n e cs = some x → ∃ a, cs = g a ∧ ok a) (hv : Value.okWide P w r b0 t v) (h : DataW.Trod enc P w base spare held t v d p) :
    ∃ (a : Option Addr) (xs : List α) (c : Nat), v = .slice a xs.length c ∧ xs.length ≤ 9223372036854775807 ∧ xs.length ≤ c ∧ SlAt w a sz (xs.map g) ∧ ∀ y ∈ xs, ok y := by
  obtain ⟨a, len, cap, rfl⟩ := okWide_slice hs hv
  obtain ⟨fuel, hf⟩ := h
  obtain ⟨a', xs, c, h1, h2, h3, h4, h5, h7⟩ := Tu hs hc hz hg hrd hf
  have h6 : Value.slice a len cap = .slice a' xs.length c := by simpa [Value.cells] using h1
  refine ⟨a', xs, c, h6, ?_, h2, h4, h5⟩
  have : maxLen = 9223372036854775807 := by decide
  omega
theorem Zw {t : TypeId} (ht : P.underlying t = some (.int .u8)) (h : DataW.trod enc P w base spare held fuel t cs = some x) : ∃ n : Int, cs = bcell n ∧ (0 ≤ n ∧ n ≤ 255) := by
  obtain ⟨n, hn, _, hw⟩ := DataW.trod_int ht h
  refine ⟨n, hn, ?_⟩
  have h2 := Bool.and_eq_true_iff.1 hw
  have h3 := of_decide_eq_true h2.1
  have h4 := of_decide_eq_true h2.2
  exact ⟨h3, h4⟩
def Lab.wf (l : Lab) : Prop := (Lit.int .i64 l.s).wf = true ∧ (Lit.int .i64 l.v).wf = true
def Cl.wf (q : Cl) : Prop := (Lit.int .i64 q.kind).wf = true ∧ (Lit.int .i64 q.run).wf = true ∧ (Lit.int .i64 q.a).wf = true ∧ (Lit.int .i64 q.b).wf = true ∧ (Lit.int .i64 q.n).wf = true
theorem U9 (hl : laidOutB P = true) {W W' : World} (hb : Below W.heap.size W W') : ∀ (ts : List TypeId) (vs : List Value) (ds : List (DataW H)) (ps : List MemPlace), ts.all (fun t => P.readableRec t && decide (t < P.types.size)) = true →
    DataW.TrodAll enc P W 0 (fun _ => true) true ts vs ds ps → (∀ y ∈ ps, y.block < W.heap.size) → DataW.TrodAll enc P W' 0 (fun b => decide (b < W.heap.size)) true ts vs ds ps
  | [], _, _, _, _, h, _ => by
    obtain ⟨rfl, rfl, rfl⟩ := trodAll_nil h
    exact rfl
  | t :: ts, _, _, _, ht, h, hlt => by
    obtain ⟨v, vs, d, ds, p, q, rfl, rfl, rfl, h1, h2⟩ := trodAll_cons h
    simp only [List.all_cons, Bool.and_eq_true, decide_eq_true_eq] at ht
    exact ⟨p, q, Below.trod hl ht.1.1 ht.1.2 h1 hb fun y hy => hlt y (List.mem_append_left _ hy), U9 hl hb ts vs ds q ht.2 h2 fun y hy => hlt y (List.mem_append_right _ hy), rfl⟩
theorem Il {f : Func} {s : ChangeSpec} {apart handsOn : Bool} {W W' : World} {args : Array Value} {ds gs : List (DataW H)} {before pa : List MemPlace} {tb : TypeId} (hl : laidOutB P = true)
    (hr : f.params.toList.all (fun t => P.readableRec t && decide (t < P.types.size)) = true) (hW : DataW.Whole enc P f.params.toList s.vars apart W args.toList ds gs before)
    (hA : DataW.TrodAll enc P W 0 (fun _ => true) true f.params.toList args.toList ds pa) (hlt : ∀ y ∈ pa, y.block < W.heap.size) (hs : s.fn H (ds ++ gs) = { results := [.lit (.bool true)], args := ds }) (hv : s.vars = [])
    (hres : f.resultTypes = #[tb]) (htb : P.underlying tb = some .bool) (hb : Below W.heap.size W W') : s.post enc P f apart true handsOn false W args (.bool true) W' := by
  refine ⟨ds, gs, before, [], pa, [], hW, ?_, ?_, ?_, hb.frame _, fun h => by cases h⟩
  · rw [hs, hres]
    exact trodAll_mk1 (shut_bool htb _)
  · rw [hs]
    exact U9 hl hb _ _ _ _ hr hA hlt
  · rw [hs, hv]
    rfl
end
end Go.Dw
end
section
namespace Go.Dw.J
open Go.RowKit Go.Dw Go.Proofs
open Go.Conc (G solo)
set_option linter.unusedSectionVars false
set_option linter.unusedSimpArgs false
set_option linter.unusedVariables false
theorem Se {o : Obj} (h : seeO o ≠ pz) : seeO o = o := by cases o <;> first | rfl | exact absurd rfl h
theorem Sc {W : World} : @Keep ⟨W.heap.size, W⟩ (seeAll W) W := by
  refine ⟨Nat.le_refl _, fun b hb => ?_⟩
  have hb' : b < W.heap.size := hb
  have e : W.heap[b]? = some W.heap[b] := Array.getElem?_eq_getElem hb'
  by_cases h : seeO W.heap[b] = pz
  · refine .inr ⟨fun hs => hs.2 ?_, rfl⟩
    rw [J8, e, Option.map_some, h]
  · refine .inl ⟨⟨by simpa [seeAll] using hb', fun e2 => h ?_⟩, ?_⟩
    · rw [J8, e, Option.map_some] at e2
      exact Option.some.inj e2
    · rw [J8, e, Option.map_some, Se h]
theorem seeAll_sl {W : World} {a : Option Addr} {sz : Nat} {xs : List (List Value)} (h : SlAt W a sz xs) : SlAt (seeAll W) a sz xs := fun k x hk => by
  obtain ⟨b, o, ha, hr⟩ := h k x hk
  exact ⟨b, o, ha, fun j v hj => Sb (hr j v hj)⟩
theorem law_good {k : FuncId} {fn : Func} {c : Code} {n : Nat} {args : Array Value} {W : World} (hf : Try.prog.funcs[k]? = some fn) (hb : fn.body = some c) (hn : fn.ntmps = n) (hs : Nat.ble args.size n = true) (hin : Try.prog.inits.idxOf? k = none)
    (law : ∀ [Comp] [ViewRule], ViewRule.base ≤ (seeAll W).heap.size → Wpf Try.prog n (endQ Try.prog fn (fun v w' => v = .bool true ∧ (seeAll W).grownBy w' none)) c (f0 args) (seeAll W)) :
    Runs Try.prog (fun v W' => v = .bool true ∧ Below W.heap.size W { W' with tape := W.tape }) (solo (G (Frame.enter Try.prog k args .normal) []) W) #[] := by
  letI : KeepD := ⟨W.heap.size, W⟩
  have hsz : (seeAll W).heap.size = W.heap.size := by simp [seeAll]
  refine Tx Sc (Xav OKV okv hf hb hn hs hin (R := fun v w' => v = .bool true ∧ (seeAll W).grownBy w' none) (fun v A' w ⟨hv, hg⟩ hsee hk => ⟨hv, ?_⟩) (@law (comp0 OKV) viewRule (Nat.le_of_eq hsz.symm)))
  refine ⟨hsee.os.symm.trans hg.os, rfl, hsee.output.symm.trans hg.output, hk.1, fun b hb' => ?_⟩
  show w.heap[b]? = W.heap[b]?
  have e : W.heap[b]? = some W.heap[b] := Array.getElem?_eq_getElem hb'
  rcases hk.2 b hb' with ⟨h1, h2⟩ | ⟨_, h2⟩
  · have h3 := hg.block b (by rw [hsz]; exact hb') (by simp)
    rw [J8, e, Option.map_some] at h3
    have h4 : seeO W.heap[b] ≠ pz := fun h => h1.2 (by rw [h3, h])
    rw [← h2, h3, Se h4, e]
  · exact h2
end Go.Dw.J
namespace Go.Dw
theorem Ik {H : Type} {enc : TypeId × Value → H} {P : Program} {f : Func} {s : ChangeSpec} {apart fresh handsOn : Bool} {W W' : World} {args : Array Value} {v : Value} {tp : Tape} (h : s.post enc P f apart fresh handsOn false W args v { W' with tape := tp }) : s.post enc P f apart fresh handsOn false W args v W' := by
  obtain ⟨ds, gs, before, pr, pa, pv, h1, h2, h3, h4, h5, h6⟩ := h
  exact ⟨ds, gs, before, pr, pa, pv, h1, DataW.TrodAll.of_heap (w' := W') (by rfl) h2, DataW.TrodAll.of_heap (w' := W') (by rfl) h3, DataW.TrodVars.of_heap (w' := W') (by rfl) h4, h5, fun h => by cases h⟩
end Go.Dw
end
