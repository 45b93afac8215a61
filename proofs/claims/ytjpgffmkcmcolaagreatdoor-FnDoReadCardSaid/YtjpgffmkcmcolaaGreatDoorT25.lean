/- Laws and walks: my templates, and what a program of mine (gen.py) printed out of the functions; only what the row reaches. -/
import Derived.Test.YtjpgffmkcmcolaaGreatDoorT24
section
namespace Go.Proofs.YtjpgffmkcmcolaaGreatDoor
open Go.RowKit Go.Dw
set_option maxRecDepth 100000
set_option maxHeartbeats 4000000
set_option linter.unusedSimpArgs false
set_option linter.unusedVariables false
theorem En (x y z : Int) (R : Nat) (w : World) (hR : Blk w R 149 #[vi x, vi y, vi z, vi 0, vi 2]) : CallsR Tryz.prog 109 #[pt R 0] w (fun v w' => ∃ (a : Option Addr) (c : Nat), v = .slice a 2 c ∧ OwnN w.heap.size w' a 3 1 c ([x, y] : List Int).length (([x, y] : List Int).flatMap icell) ∧ w.grownBy w' none) := by
 refine Xx (n := 29) Tryz.func109 Z Tryz.ntmps109 Z (Xa (Xe (v := .slice none 0 0) Z Z (Xc (Xa (Xe (v := .slice none 0 0) Z Z (Xc (Xq (Xa (Xb (v := pt R 0) Z Z (Xv Z Z (Xd (o' := 4) Jc Z Z Z (Xh (v := vi 2) X1 Z (hR.cell Z) Z ?_))))))))))))
 refine Xb (v := vi 0) Z Z (Xc (Yc (Qm (fun mm f' w' => ∃ (i : Int) (aq : Option Addr) (cq : Nat) (ys : List Int), mm = (2 - i : Int).toNat ∧ (0 ≤ i ∧ i ≤ 2) ∧ (ys.length : Int) = i ∧ ys = ([x, y] : List Int).take i.toNat ∧ OwnN w.heap.size w' aq 3 1 cq ys.length (ys.flatMap icell) ∧ f' 3 = .slice aq ys.length cq ∧ f' 9 = vi i ∧ f' 0 = pt R 0 ∧ f' 2 = .slice none 0 0 ∧ f' 8 = vi 2 ∧ w.grownBy w' none ∧ Blk w' R 149 #[vi x, vi y, vi z, vi 0, vi 2]) (2 - 0 : Int).toNat ⟨0, none, 0, ([] : List Int), Z, (by omega), Z, Z, OwnN.nil, Z, Z, Z, Z, Z, (World.grownBy.refl w none), hR⟩ ?_)))
 rintro mm kn ap ⟨i, aq, cq, ys, ki, hi, hyl, hys, hOw, ar, V, bi, bj, ag, ad, O⟩
 rcases (show i = 0 ∨ i = 1 ∨ i = 2 by omega) with rfl | rfl | rfl
 refine Xa (Qa (q := true) V ag (by decide) Z (Xc (Xq (Qg Z Z (Xw (Xu (Xq (Yc (Xa (Xb (v := vi 0) V Z (Xe (v := vi 0) Z Z (Xc ?_))))))))))))
 refine Qy (m := 14) [[], [], [], [2], [2, 3], [2, 3, 4], [], [2, 3, 4, 5, 6], [2, 3, 4, 5, 6, 7], [1], [1, 9], [1, 2, 3, 4, 5, 6, 7, 8, 9, 10], [1, 2, 3, 4, 5, 6, 7, 8, 9, 10, 11], [1, 2, 3, 4, 5, 6, 7, 8, 9, 10, 11, 12], [0, 1, 2, 3, 4, 5, 6, 7, 8, 9, 10, 11, 12, 13], [0, 1, 2, 3, 4, 5, 6, 7, 8, 9, 10, 11, 12, 13, 14]] (fun S F w' => ∃ (E : Nat), ap.grownBy w' none ∧ F 0 = pt R 0 ∧ F 2 = .slice none 0 0 ∧ F 3 = .slice aq ys.length cq ∧ F 4 = vi 0 ∧ F 8 = vi 2 ∧ F 9 = vi 0 ∧ (S 13 = true → F 25 = .slice (pa E) 1 1 ∧ w.heap.size ≤ E ∧ Blk w' E 3 (([x] : List Int).flatMap icell).toArray ∧ R < E ∧ ap.heap.size ≤ E) ∧ Vals S F [(0, 12, .slice aq ys.length cq), (1, 13, pt R 0), (2, 14, pt R 0), (3, 15, pt R 0), (4, 16, pt R 3), (5, 17, vi 0), (6, 18, vi 0), (7, 19, vi 0), (8, 20, vi 0), (9, 21, pt R 0), (10, 22, pt R 0), (11, 23, pt R 0), (12, 24, vi x)]) Yy (by kernel_rfl) ⟨0, X6 _, bi, bj, ar, Z, ag, V, Yt, J3 _⟩ ?_ ?_
 refine Xj (fun S F ko hS hbef hcl hI => ?_) ?_
 obtain ⟨E, bw, de, df, bk, dg, dh, di, J, hvs⟩ := hI
 exact Xb (v := .slice aq ys.length cq) bk Z (Xc ⟨E, bw, de, df, bk, dg, dh, di, J, Vals.up 0 hvs Z Z Z⟩)
 refine Xj (fun S F kp hS hbef hcl hI => ?_) ?_
 obtain ⟨E, bx, bl, dk, dl, dm, dn, dp, J, hvs⟩ := hI
 exact Xb (v := pt R 0) bl Z (Xc ⟨E, bx, bl, dk, dl, dm, dn, dp, X5 13 hS hcl Z, Vals.up 1 hvs Z Z Z⟩)
 refine Xj (fun S F kq hS hbef hcl hI => ?_) ?_
 obtain ⟨E, bz, bm, dq, dr, dt, du, dv, J, hvs⟩ := hI
 exact Xb (v := pt R 0) bm Z (Xc ⟨E, bz, bm, dq, dr, dt, du, dv, X5 13 hS hcl Z, Vals.up 2 hvs Z Z Z⟩)
 refine Xj (fun S F kr hS hbef hcl hI => ?_) ?_
 obtain ⟨E, ca, dw, dx, dy, dz, d0, d1, J, hvs⟩ := hI
 exact Xv (Vals.at 2 hvs Z (Xm 2 hbef Z)) Z (Xc ⟨E, ca, dw, dx, dy, dz, d0, d1, X5 13 hS hcl Z, Vals.up 3 hvs Z Z Z⟩)
 refine Xj (fun S F ks hS hbef hcl hI => ?_) ?_
 obtain ⟨E, cc, d2, d3, d4, d5, d6, d7, J, hvs⟩ := hI
 exact Xd (o' := 3) Jz (Vals.at 3 hvs Z (Xm 3 hbef Z)) Z Z (Xc ⟨E, cc, d2, d3, d4, d5, d6, d7, X5 13 hS hcl Z, Vals.up 4 hvs Z Z Z⟩)
 refine Xj (fun S F kt hS hbef hcl hI => ?_) ?_
 obtain ⟨E, a8, d8, d9, ea, eb, ed, ee, J, hvs⟩ := hI
 exact Xh (v := vi 0) X1 (Vals.at 4 hvs Z (Xm 4 hbef Z)) ((O.grown0 a8).cell Z) Z (Xc ⟨E, a8, d8, d9, ea, eb, ed, ee, X5 13 hS hcl Z, Vals.up 5 hvs Z Z Z⟩)
 refine Xj (fun S F ku hS hbef hcl hI => ?_) ?_
 obtain ⟨E, cd, ef, eg, eh, bn, ei, ej, J, hvs⟩ := hI
 exact Xb (v := vi 0) bn Z (Xc ⟨E, cd, ef, eg, eh, bn, ei, ej, X5 13 hS hcl Z, Vals.up 6 hvs Z Z Z⟩)
 refine Xj (fun S F kv hS hbef hcl hI => ?_) ?_
 obtain ⟨E, ce, ek, em, eo, ep, er, eu, J, hvs⟩ := hI
 exact Yn (c := 0) (Vals.at 5 hvs Z (Xm 5 hbef Z)) (Vals.at 6 hvs Z (Xm 6 hbef Z)) (by omega) (by omega) (by omega) Z (Xc ⟨E, ce, ek, em, eo, ep, er, eu, X5 13 hS hcl Z, Vals.up 7 hvs Z Z Z⟩)
 refine Xj (fun S F kw hS hbef hcl hI => ?_) ?_
 obtain ⟨E, cf, ew, ex, ey, ez, e0, fa, J, hvs⟩ := hI
 exact Q8 (c := 0) (Vals.at 7 hvs Z (Xm 7 hbef Z)) Z (by omega) (by omega) (by omega) Z Z (Xc ⟨E, cf, ew, ex, ey, ez, e0, fa, X5 13 hS hcl Z, Vals.up 8 hvs Z Z Z⟩)
 refine Xj (fun S F kx hS hbef hcl hI => ?_) ?_
 obtain ⟨E, cg, fb, fc, fd, fe, ff, fg, J, hvs⟩ := hI
 exact Xv (Vals.at 1 hvs Z (Xm 1 hbef Z)) Z (Xc ⟨E, cg, fb, fc, fd, fe, ff, fg, X5 13 hS hcl Z, Vals.up 9 hvs Z Z Z⟩)
 refine Xj (fun S F ky hS hbef hcl hI => ?_) ?_
 obtain ⟨E, cj, fh, fi, fj, fk, fm, fo, J, hvs⟩ := hI
 exact Xd (o' := 0) Ko (Vals.at 9 hvs Z (Xm 9 hbef Z)) Z Z (Xc ⟨E, cj, fh, fi, fj, fk, fm, fo, X5 13 hS hcl Z, Vals.up 10 hvs Z Z Z⟩)
 refine Xj (fun S F kz hS hbef hcl hI => ?_) ?_
 obtain ⟨E, ck, fp, fq, fr, ft, fu, fv, J, hvs⟩ := hI
 exact Qr (o' := 0) Vq (Vals.at 10 hvs Z (Xm 10 hbef Z)) (Vals.at 8 hvs Z (Xm 8 hbef Z)) (by decide) (by decide) Z Z (Xc ⟨E, ck, fp, fq, fr, ft, fu, fv, X5 13 hS hcl Z, Vals.up 11 hvs Z Z Z⟩)
 refine Xj (fun S F k0 hS hbef hcl hI => ?_) ?_
 obtain ⟨E, a9, fw, fx, fy, fz, f8, f9, J, hvs⟩ := hI
 exact Xh (v := vi x) X1 (Vals.at 11 hvs Z (Xm 11 hbef Z)) ((O.grown0 a9).cell Z) Z (Xc ⟨E, a9, fw, fx, fy, fz, f8, f9, X5 13 hS hcl Z, Vals.up 12 hvs Z Z Z⟩)
 refine Xj (fun S F k3 hS hbef hcl hI => ?_) ?_
 obtain ⟨E, ae, ga, gb, gc, gf, gg, gh, J, hvs⟩ := hI
 refine Ya (ps := [(0, vi x)]) (e := 3) (cs := (([x] : List Int).flatMap icell).toArray) (Xn (Vals.at 12 hvs Z (Xm 12 hbef Z)) X8) (fun _ => by kernel_rfl) Z ?_
 intro db k4 ab
 have be := Yj ab (low0 ad ae)
 have al := Xr ab ((O.grown0 ae)).lt
 exact Xc ⟨db, (low0 ae ab.grw), ga, gb, gc, gf, gg, gh, fun _ => ⟨Z, be, ab.blk, al, (nt ae.size (Nat.le_of_eq ab.eq.symm))⟩, Vals.keep hvs Z⟩
 exact Q5
 intro S F k5 hall hI
 obtain ⟨E, aj, gi, gj, kj, kk, gk, gl, J, hvs⟩ := hI
 have au := low0 ad aj
 obtain ⟨gm, ke, bc, c9, kb⟩ := J (hall 13 (by decide))
 have ah := (hOw.grown0 aj)
 refine Jp (g := icell) (ys := ys) (zs := ([x] : List Int)) (lo := w.heap.size) V8 Z Yv (by omega) Kf (Vals.at 0 hvs Z (hall 0 (by decide))) gm ah (Jw Yv bc) (fun h => by cases h) (by first | omega | exact Nat.le_of_ble_eq_true rfl | (simp only [List.length_nil, List.length_cons, List.length_append, List.length_replicate]; omega)) (by omega) (by first | exact au.size | omega) Z ?_
 intro bg an k6 bu aw kg
 exact Xe (v := .slice bg (ys ++ ([x] : List Int)).length an) Z Z (Xc (Y7 (Xu (X2 (Yn (c := 1) gl Z (by omega) (by omega) (by omega) Z (Xb (v := vi 1) Z Z (Xc (Xu (⟨(2 - 1 : Int).toNat, by omega, 1, bg, an, (ys ++ ([x] : List Int)), Z, (by omega), (by first | omega | (simp only [List.length_append, List.length_cons, List.length_nil]; omega)), (by rw [hys]; rfl), bu, Z, Z, gi, gj, gk, (Pm au ah aw (by omega)), (Blk.typN (O.grown0 aj) ah aw (by decide))⟩)))))))))
 refine Xa (Qa (q := true) V ag (by decide) Z (Xc (Xq (Qg Z Z (Xw (Xu (Xq (Yc (Xa (Xb (v := vi 1) V Z (Xe (v := vi 1) Z Z (Xc ?_))))))))))))
 refine Qy (m := 14) [[], [], [], [2], [2, 3], [2, 3, 4], [], [2, 3, 4, 5, 6], [2, 3, 4, 5, 6, 7], [1], [1, 9], [1, 2, 3, 4, 5, 6, 7, 8, 9, 10], [1, 2, 3, 4, 5, 6, 7, 8, 9, 10, 11], [1, 2, 3, 4, 5, 6, 7, 8, 9, 10, 11, 12], [0, 1, 2, 3, 4, 5, 6, 7, 8, 9, 10, 11, 12, 13], [0, 1, 2, 3, 4, 5, 6, 7, 8, 9, 10, 11, 12, 13, 14]] (fun S F w' => ∃ (G : Nat), ap.grownBy w' none ∧ F 0 = pt R 0 ∧ F 2 = .slice none 0 0 ∧ F 3 = .slice aq ys.length cq ∧ F 4 = vi 1 ∧ F 8 = vi 2 ∧ F 9 = vi 1 ∧ (S 13 = true → F 25 = .slice (pa G) 1 1 ∧ w.heap.size ≤ G ∧ Blk w' G 3 (([y] : List Int).flatMap icell).toArray ∧ R < G ∧ ap.heap.size ≤ G) ∧ Vals S F [(0, 12, .slice aq ys.length cq), (1, 13, pt R 0), (2, 14, pt R 0), (3, 15, pt R 0), (4, 16, pt R 3), (5, 17, vi 0), (6, 18, vi 1), (7, 19, vi 1), (8, 20, vi 1), (9, 21, pt R 0), (10, 22, pt R 0), (11, 23, pt R 1), (12, 24, vi y)]) Yy (by kernel_rfl) ⟨0, X6 _, bi, bj, ar, Z, ag, V, Yt, J3 _⟩ ?_ ?_
 refine Xj (fun S F k7 hS hbef hcl hI => ?_) ?_
 obtain ⟨G, cl, gp, gq, bp, gr, gt, gu, J, hvs⟩ := hI
 exact Xb (v := .slice aq ys.length cq) bp Z (Xc ⟨G, cl, gp, gq, bp, gr, gt, gu, J, Vals.up 0 hvs Z Z Z⟩)
 refine Xj (fun S F k8 hS hbef hcl hI => ?_) ?_
 obtain ⟨G, cm, bq, gv, gw, gx, gy, gz, J, hvs⟩ := hI
 exact Xb (v := pt R 0) bq Z (Xc ⟨G, cm, bq, gv, gw, gx, gy, gz, X5 13 hS hcl Z, Vals.up 1 hvs Z Z Z⟩)
 refine Xj (fun S F k9 hS hbef hcl hI => ?_) ?_
 obtain ⟨G, cn, br, g0, g1, g2, g3, g5, J, hvs⟩ := hI
 exact Xb (v := pt R 0) br Z (Xc ⟨G, cn, br, g0, g1, g2, g3, g5, X5 13 hS hcl Z, Vals.up 2 hvs Z Z Z⟩)
 refine Xj (fun S F la hS hbef hcl hI => ?_) ?_
 obtain ⟨G, co, g6, g7, g8, g9, ia, ib, J, hvs⟩ := hI
 exact Xv (Vals.at 2 hvs Z (Xm 2 hbef Z)) Z (Xc ⟨G, co, g6, g7, g8, g9, ia, ib, X5 13 hS hcl Z, Vals.up 3 hvs Z Z Z⟩)
 refine Xj (fun S F lc hS hbef hcl hI => ?_) ?_
 obtain ⟨G, ct, ic, ie, ig, ii, ij, ik, J, hvs⟩ := hI
 exact Xd (o' := 3) Jz (Vals.at 3 hvs Z (Xm 3 hbef Z)) Z Z (Xc ⟨G, ct, ic, ie, ig, ii, ij, ik, X5 13 hS hcl Z, Vals.up 4 hvs Z Z Z⟩)
 refine Xj (fun S F ld hS hbef hcl hI => ?_) ?_
 obtain ⟨G, ba, il, im, io, ip, iq, ir, J, hvs⟩ := hI
 exact Xh (v := vi 0) X1 (Vals.at 4 hvs Z (Xm 4 hbef Z)) ((O.grown0 ba).cell Z) Z (Xc ⟨G, ba, il, im, io, ip, iq, ir, X5 13 hS hcl Z, Vals.up 5 hvs Z Z Z⟩)
 refine Xj (fun S F le hS hbef hcl hI => ?_) ?_
 obtain ⟨G, cv, it, iu, iv, bt, iw, ix, J, hvs⟩ := hI
 exact Xb (v := vi 1) bt Z (Xc ⟨G, cv, it, iu, iv, bt, iw, ix, X5 13 hS hcl Z, Vals.up 6 hvs Z Z Z⟩)
 refine Xj (fun S F lf hS hbef hcl hI => ?_) ?_
 obtain ⟨G, cw, iy, iz, i0, i1, i2, i3, J, hvs⟩ := hI
 exact Yn (c := 1) (Vals.at 5 hvs Z (Xm 5 hbef Z)) (Vals.at 6 hvs Z (Xm 6 hbef Z)) (by omega) (by omega) (by omega) Z (Xc ⟨G, cw, iy, iz, i0, i1, i2, i3, X5 13 hS hcl Z, Vals.up 7 hvs Z Z Z⟩)
 refine Xj (fun S F lg hS hbef hcl hI => ?_) ?_
 obtain ⟨G, cx, i4, i5, i6, i7, i8, i9, J, hvs⟩ := hI
 exact Q8 (c := 1) (Vals.at 7 hvs Z (Xm 7 hbef Z)) Z (by omega) (by omega) (by omega) Z Z (Xc ⟨G, cx, i4, i5, i6, i7, i8, i9, X5 13 hS hcl Z, Vals.up 8 hvs Z Z Z⟩)
 refine Xj (fun S F lh hS hbef hcl hI => ?_) ?_
 obtain ⟨G, cy, ja, jb, jc, jd, je, jf, J, hvs⟩ := hI
 exact Xv (Vals.at 1 hvs Z (Xm 1 hbef Z)) Z (Xc ⟨G, cy, ja, jb, jc, jd, je, jf, X5 13 hS hcl Z, Vals.up 9 hvs Z Z Z⟩)
 refine Xj (fun S F li hS hbef hcl hI => ?_) ?_
 obtain ⟨G, cz, jg, jh, ji, jj, jk, jl, J, hvs⟩ := hI
 exact Xd (o' := 0) Ko (Vals.at 9 hvs Z (Xm 9 hbef Z)) Z Z (Xc ⟨G, cz, jg, jh, ji, jj, jk, jl, X5 13 hS hcl Z, Vals.up 10 hvs Z Z Z⟩)
 refine Xj (fun S F lj hS hbef hcl hI => ?_) ?_
 obtain ⟨G, c8, jm, jo, jp, jq, jr, js, J, hvs⟩ := hI
 exact Qr (o' := 1) Vq (Vals.at 10 hvs Z (Xm 10 hbef Z)) (Vals.at 8 hvs Z (Xm 8 hbef Z)) (by decide) (by decide) Z Z (Xc ⟨G, c8, jm, jo, jp, jq, jr, js, X5 13 hS hcl Z, Vals.up 11 hvs Z Z Z⟩)
 refine Xj (fun S F lk hS hbef hcl hI => ?_) ?_
 obtain ⟨G, bb, jt, ju, jv, jw, jx, jy, J, hvs⟩ := hI
 exact Xh (v := vi y) X1 (Vals.at 11 hvs Z (Xm 11 hbef Z)) ((O.grown0 bb).cell Z) Z (Xc ⟨G, bb, jt, ju, jv, jw, jx, jy, X5 13 hS hcl Z, Vals.up 12 hvs Z Z Z⟩)
 refine Xj (fun S F ll hS hbef hcl hI => ?_) ?_
 obtain ⟨G, af, jz, j1, j2, j3, j4, j5, J, hvs⟩ := hI
 refine Ya (ps := [(0, vi y)]) (e := 3) (cs := (([y] : List Int).flatMap icell).toArray) (Xn (Vals.at 12 hvs Z (Xm 12 hbef Z)) X8) (fun _ => by kernel_rfl) Z ?_
 intro dc lm ac
 have bf := Yj ac (low0 ad af)
 have am := Xr ac ((O.grown0 af)).lt
 exact Xc ⟨dc, (low0 af ac.grw), jz, j1, j2, j3, j4, j5, fun _ => ⟨Z, bf, ac.blk, am, (nt af.size (Nat.le_of_eq ac.eq.symm))⟩, Vals.keep hvs Z⟩
 exact Q5
 intro S F ln hall hI
 obtain ⟨G, ak, j6, j7, kl, km, j8, j9, J, hvs⟩ := hI
 have av := low0 ad ak
 obtain ⟨ka, kf, bd, da, kc⟩ := J (hall 13 (by decide))
 have ai := (hOw.grown0 ak)
 refine Jp (g := icell) (ys := ys) (zs := ([y] : List Int)) (lo := w.heap.size) V8 Z Yv (by omega) Kf (Vals.at 0 hvs Z (hall 0 (by decide))) ka ai (Jw Yv bd) (fun h => by cases h) (by first | omega | exact Nat.le_of_ble_eq_true rfl | (simp only [List.length_nil, List.length_cons, List.length_append, List.length_replicate]; omega)) (by omega) (by first | exact av.size | omega) Z ?_
 intro bh ao lp bv az kh
 exact Xe (v := .slice bh (ys ++ ([y] : List Int)).length ao) Z Z (Xc (Y7 (Xu (X2 (Yn (c := 2) j9 Z (by omega) (by omega) (by omega) Z (Xb (v := vi 2) Z Z (Xc (Xu (⟨(2 - 2 : Int).toNat, by omega, 2, bh, ao, (ys ++ ([y] : List Int)), Z, (by omega), (by first | omega | (simp only [List.length_append, List.length_cons, List.length_nil]; omega)), (by rw [hys]; rfl), bv, Z, Z, j6, j7, j8, (Pm av ai az (by omega)), (Blk.typN (O.grown0 ak) ai az (by decide))⟩)))))))))
 refine Xa (Qa (q := false) V ag (by decide) Z (Xc (Xq (Qc Z Z (Qe (Qb (Qb (Jm (Xu (Xa (Xb (v := .slice aq ys.length cq) ar Z (Xe (v := .slice aq ys.length cq) Z Z ?_))))))))))))
 refine Xc (Xt ?_)
 have hyz : ys = ([x, y] : List Int) := hys
 subst hyz
 exact ⟨.slice aq ([x, y] : List Int).length cq, Yp Z Z, aq, cq, Z, hOw, ad⟩
theorem Eo (x y z : Int) (R : Nat) (w : World) (hR : Blk w R 149 #[vi x, vi y, vi z, vi 0, vi 3]) : CallsR Tryz.prog 109 #[pt R 0] w (fun v w' => ∃ (a : Option Addr) (c : Nat), v = .slice a 3 c ∧ OwnN w.heap.size w' a 3 1 c ([x, y, z] : List Int).length (([x, y, z] : List Int).flatMap icell) ∧ w.grownBy w' none) := by
 refine Xx (n := 29) Tryz.func109 Z Tryz.ntmps109 Z (Xa (Xe (v := .slice none 0 0) Z Z (Xc (Xa (Xe (v := .slice none 0 0) Z Z (Xc (Xq (Xa (Xb (v := pt R 0) Z Z (Xv Z Z (Xd (o' := 4) Jc Z Z Z (Xh (v := vi 3) X1 Z (hR.cell Z) Z ?_))))))))))))
 refine Xb (v := vi 0) Z Z (Xc (Yc (Qm (fun mm f' w' => ∃ (i : Int) (aq : Option Addr) (cq : Nat) (ys : List Int), mm = (3 - i : Int).toNat ∧ (0 ≤ i ∧ i ≤ 3) ∧ (ys.length : Int) = i ∧ ys = ([x, y, z] : List Int).take i.toNat ∧ OwnN w.heap.size w' aq 3 1 cq ys.length (ys.flatMap icell) ∧ f' 3 = .slice aq ys.length cq ∧ f' 9 = vi i ∧ f' 0 = pt R 0 ∧ f' 2 = .slice none 0 0 ∧ f' 8 = vi 3 ∧ w.grownBy w' none ∧ Blk w' R 149 #[vi x, vi y, vi z, vi 0, vi 3]) (3 - 0 : Int).toNat ⟨0, none, 0, ([] : List Int), Z, (by omega), Z, Z, OwnN.nil, Z, Z, Z, Z, Z, (World.grownBy.refl w none), hR⟩ ?_)))
 rintro mm o5 ah ⟨i, aq, cq, ys, ox, hi, hyl, hys, hOw, ba, ab, bb, bc, ad, ac, V⟩
 rcases (show i = 0 ∨ i = 1 ∨ i = 2 ∨ i = 3 by omega) with rfl | rfl | rfl | rfl
 refine Xa (Qa (q := true) ab ad (by decide) Z (Xc (Xq (Qg Z Z (Xw (Xu (Xq (Yc (Xa (Xb (v := vi 0) ab Z (Xe (v := vi 0) Z Z (Xc ?_))))))))))))
 refine Qy (m := 14) [[], [], [], [2], [2, 3], [2, 3, 4], [], [2, 3, 4, 5, 6], [2, 3, 4, 5, 6, 7], [1], [1, 9], [1, 2, 3, 4, 5, 6, 7, 8, 9, 10], [1, 2, 3, 4, 5, 6, 7, 8, 9, 10, 11], [1, 2, 3, 4, 5, 6, 7, 8, 9, 10, 11, 12], [0, 1, 2, 3, 4, 5, 6, 7, 8, 9, 10, 11, 12, 13], [0, 1, 2, 3, 4, 5, 6, 7, 8, 9, 10, 11, 12, 13, 14]] (fun S F w' => ∃ (G : Nat), ah.grownBy w' none ∧ F 0 = pt R 0 ∧ F 2 = .slice none 0 0 ∧ F 3 = .slice aq ys.length cq ∧ F 4 = vi 0 ∧ F 8 = vi 3 ∧ F 9 = vi 0 ∧ (S 13 = true → F 25 = .slice (pa G) 1 1 ∧ w.heap.size ≤ G ∧ Blk w' G 3 (([x] : List Int).flatMap icell).toArray ∧ R < G ∧ ah.heap.size ≤ G) ∧ Vals S F [(0, 12, .slice aq ys.length cq), (1, 13, pt R 0), (2, 14, pt R 0), (3, 15, pt R 0), (4, 16, pt R 3), (5, 17, vi 0), (6, 18, vi 0), (7, 19, vi 0), (8, 20, vi 0), (9, 21, pt R 0), (10, 22, pt R 0), (11, 23, pt R 0), (12, 24, vi x)]) Yy (by kernel_rfl) ⟨0, X6 _, bb, bc, ba, Z, ad, ab, Yt, J3 _⟩ ?_ ?_
 refine Xj (fun S F o6 hS hbef hcl hI => ?_) ?_
 obtain ⟨G, cy, ee, ef, cc, eg, eh, ei, E, hvs⟩ := hI
 exact Xb (v := .slice aq ys.length cq) cc Z (Xc ⟨G, cy, ee, ef, cc, eg, eh, ei, E, Vals.up 0 hvs Z Z Z⟩)
 refine Xj (fun S F o7 hS hbef hcl hI => ?_) ?_
 obtain ⟨G, cz, cd, ej, ek, em, eo, ep, E, hvs⟩ := hI
 exact Xb (v := pt R 0) cd Z (Xc ⟨G, cz, cd, ej, ek, em, eo, ep, X5 13 hS hcl Z, Vals.up 1 hvs Z Z Z⟩)
 refine Xj (fun S F o8 hS hbef hcl hI => ?_) ?_
 obtain ⟨G, c8, ce, er, eu, ew, ex, ey, E, hvs⟩ := hI
 exact Xb (v := pt R 0) ce Z (Xc ⟨G, c8, ce, er, eu, ew, ex, ey, X5 13 hS hcl Z, Vals.up 2 hvs Z Z Z⟩)
 refine Xj (fun S F o9 hS hbef hcl hI => ?_) ?_
 obtain ⟨G, c9, ez, e0, fa, fb, fc, fd, E, hvs⟩ := hI
 exact Xv (Vals.at 2 hvs Z (Xm 2 hbef Z)) Z (Xc ⟨G, c9, ez, e0, fa, fb, fc, fd, X5 13 hS hcl Z, Vals.up 3 hvs Z Z Z⟩)
 refine Xj (fun S F pb hS hbef hcl hI => ?_) ?_
 obtain ⟨G, da, fe, ff, fg, fh, fi, fj, E, hvs⟩ := hI
 exact Xd (o' := 3) Jz (Vals.at 3 hvs Z (Xm 3 hbef Z)) Z Z (Xc ⟨G, da, fe, ff, fg, fh, fi, fj, X5 13 hS hcl Z, Vals.up 4 hvs Z Z Z⟩)
 refine Xj (fun S F pc hS hbef hcl hI => ?_) ?_
 obtain ⟨G, bj, fk, fm, fo, fp, fq, fr, E, hvs⟩ := hI
 exact Xh (v := vi 0) X1 (Vals.at 4 hvs Z (Xm 4 hbef Z)) ((V.grown0 bj).cell Z) Z (Xc ⟨G, bj, fk, fm, fo, fp, fq, fr, X5 13 hS hcl Z, Vals.up 5 hvs Z Z Z⟩)
 refine Xj (fun S F pd hS hbef hcl hI => ?_) ?_
 obtain ⟨G, db, ft, fu, fv, cf, fw, fx, E, hvs⟩ := hI
 exact Xb (v := vi 0) cf Z (Xc ⟨G, db, ft, fu, fv, cf, fw, fx, X5 13 hS hcl Z, Vals.up 6 hvs Z Z Z⟩)
 refine Xj (fun S F pe hS hbef hcl hI => ?_) ?_
 obtain ⟨G, dc, fy, fz, f8, f9, ga, gb, E, hvs⟩ := hI
 exact Yn (c := 0) (Vals.at 5 hvs Z (Xm 5 hbef Z)) (Vals.at 6 hvs Z (Xm 6 hbef Z)) (by omega) (by omega) (by omega) Z (Xc ⟨G, dc, fy, fz, f8, f9, ga, gb, X5 13 hS hcl Z, Vals.up 7 hvs Z Z Z⟩)
 refine Xj (fun S F pf hS hbef hcl hI => ?_) ?_
 obtain ⟨G, de, gc, gf, gg, gh, gi, gj, E, hvs⟩ := hI
 exact Q8 (c := 0) (Vals.at 7 hvs Z (Xm 7 hbef Z)) Z (by omega) (by omega) (by omega) Z Z (Xc ⟨G, de, gc, gf, gg, gh, gi, gj, X5 13 hS hcl Z, Vals.up 8 hvs Z Z Z⟩)
 refine Xj (fun S F pg hS hbef hcl hI => ?_) ?_
 obtain ⟨G, df, gk, gl, gm, gp, gq, gr, E, hvs⟩ := hI
 exact Xv (Vals.at 1 hvs Z (Xm 1 hbef Z)) Z (Xc ⟨G, df, gk, gl, gm, gp, gq, gr, X5 13 hS hcl Z, Vals.up 9 hvs Z Z Z⟩)
 refine Xj (fun S F ph hS hbef hcl hI => ?_) ?_
 obtain ⟨G, dg, gt, gu, gv, gw, gx, gy, E, hvs⟩ := hI
 exact Xd (o' := 0) Ko (Vals.at 9 hvs Z (Xm 9 hbef Z)) Z Z (Xc ⟨G, dg, gt, gu, gv, gw, gx, gy, X5 13 hS hcl Z, Vals.up 10 hvs Z Z Z⟩)
 refine Xj (fun S F pi hS hbef hcl hI => ?_) ?_
 obtain ⟨G, dh, gz, g0, g1, g2, g3, g5, E, hvs⟩ := hI
 exact Qr (o' := 0) Vq (Vals.at 10 hvs Z (Xm 10 hbef Z)) (Vals.at 8 hvs Z (Xm 8 hbef Z)) (by decide) (by decide) Z Z (Xc ⟨G, dh, gz, g0, g1, g2, g3, g5, X5 13 hS hcl Z, Vals.up 11 hvs Z Z Z⟩)
 refine Xj (fun S F pj hS hbef hcl hI => ?_) ?_
 obtain ⟨G, bk, g6, g7, g8, g9, ia, ib, E, hvs⟩ := hI
 exact Xh (v := vi x) X1 (Vals.at 11 hvs Z (Xm 11 hbef Z)) ((V.grown0 bk).cell Z) Z (Xc ⟨G, bk, g6, g7, g8, g9, ia, ib, X5 13 hS hcl Z, Vals.up 12 hvs Z Z Z⟩)
 refine Xj (fun S F pk hS hbef hcl hI => ?_) ?_
 obtain ⟨G, ai, ic, ie, ig, ii, ij, ik, E, hvs⟩ := hI
 refine Ya (ps := [(0, vi x)]) (e := 3) (cs := (([x] : List Int).flatMap icell).toArray) (Xn (Vals.at 12 hvs Z (Xm 12 hbef Z)) X8) (fun _ => by kernel_rfl) Z ?_
 intro ea pl ae
 have bu := Yj ae (low0 ac ai)
 have au := Xr ae ((V.grown0 ai)).lt
 exact Xc ⟨ea, (low0 ai ae.grw), ic, ie, ig, ii, ij, ik, fun _ => ⟨Z, bu, ae.blk, au, (nt ai.size (Nat.le_of_eq ae.eq.symm))⟩, Vals.keep hvs Z⟩
 exact Q5
 intro S F pm hall hI
 obtain ⟨G, ao, il, im, oy, oz, io, ip, E, hvs⟩ := hI
 have bd := low0 ac ao
 obtain ⟨iq, oo, bq, d7, oh⟩ := E (hall 13 (by decide))
 have al := (hOw.grown0 ao)
 refine Jp (g := icell) (ys := ys) (zs := ([x] : List Int)) (lo := w.heap.size) V8 Z Yv (by omega) Kf (Vals.at 0 hvs Z (hall 0 (by decide))) iq al (Jw Yv bq) (fun h => by cases h) (by first | omega | exact Nat.le_of_ble_eq_true rfl | (simp only [List.length_nil, List.length_cons, List.length_append, List.length_replicate]; omega)) (by omega) (by first | exact bd.size | omega) Z ?_
 intro bx az pn cv bg ou
 exact Xe (v := .slice bx (ys ++ ([x] : List Int)).length az) Z Z (Xc (Y7 (Xu (X2 (Yn (c := 1) ip Z (by omega) (by omega) (by omega) Z (Xb (v := vi 1) Z Z (Xc (Xu (⟨(3 - 1 : Int).toNat, by omega, 1, bx, az, (ys ++ ([x] : List Int)), Z, (by omega), (by first | omega | (simp only [List.length_append, List.length_cons, List.length_nil]; omega)), (by rw [hys]; rfl), cv, Z, Z, il, im, io, (Pm bd al bg (by omega)), (Blk.typN (V.grown0 ao) al bg (by decide))⟩)))))))))
 refine Xa (Qa (q := true) ab ad (by decide) Z (Xc (Xq (Qg Z Z (Xw (Xu (Xq (Yc (Xa (Xb (v := vi 1) ab Z (Xe (v := vi 1) Z Z (Xc ?_))))))))))))
 refine Qy (m := 14) [[], [], [], [2], [2, 3], [2, 3, 4], [], [2, 3, 4, 5, 6], [2, 3, 4, 5, 6, 7], [1], [1, 9], [1, 2, 3, 4, 5, 6, 7, 8, 9, 10], [1, 2, 3, 4, 5, 6, 7, 8, 9, 10, 11], [1, 2, 3, 4, 5, 6, 7, 8, 9, 10, 11, 12], [0, 1, 2, 3, 4, 5, 6, 7, 8, 9, 10, 11, 12, 13], [0, 1, 2, 3, 4, 5, 6, 7, 8, 9, 10, 11, 12, 13, 14]] (fun S F w' => ∃ (J : Nat), ah.grownBy w' none ∧ F 0 = pt R 0 ∧ F 2 = .slice none 0 0 ∧ F 3 = .slice aq ys.length cq ∧ F 4 = vi 1 ∧ F 8 = vi 3 ∧ F 9 = vi 1 ∧ (S 13 = true → F 25 = .slice (pa J) 1 1 ∧ w.heap.size ≤ J ∧ Blk w' J 3 (([y] : List Int).flatMap icell).toArray ∧ R < J ∧ ah.heap.size ≤ J) ∧ Vals S F [(0, 12, .slice aq ys.length cq), (1, 13, pt R 0), (2, 14, pt R 0), (3, 15, pt R 0), (4, 16, pt R 3), (5, 17, vi 0), (6, 18, vi 1), (7, 19, vi 1), (8, 20, vi 1), (9, 21, pt R 0), (10, 22, pt R 0), (11, 23, pt R 1), (12, 24, vi y)]) Yy (by kernel_rfl) ⟨0, X6 _, bb, bc, ba, Z, ad, ab, Yt, J3 _⟩ ?_ ?_
 refine Xj (fun S F po hS hbef hcl hI => ?_) ?_
 obtain ⟨J, di, ir, it, cg, iu, iv, iw, E, hvs⟩ := hI
 exact Xb (v := .slice aq ys.length cq) cg Z (Xc ⟨J, di, ir, it, cg, iu, iv, iw, E, Vals.up 0 hvs Z Z Z⟩)
 refine Xj (fun S F pp hS hbef hcl hI => ?_) ?_
 obtain ⟨J, dk, cj, ix, iy, iz, i0, i1, E, hvs⟩ := hI
 exact Xb (v := pt R 0) cj Z (Xc ⟨J, dk, cj, ix, iy, iz, i0, i1, X5 13 hS hcl Z, Vals.up 1 hvs Z Z Z⟩)
 refine Xj (fun S F pq hS hbef hcl hI => ?_) ?_
 obtain ⟨J, dl, ck, i2, i3, i4, i5, i6, E, hvs⟩ := hI
 exact Xb (v := pt R 0) ck Z (Xc ⟨J, dl, ck, i2, i3, i4, i5, i6, X5 13 hS hcl Z, Vals.up 2 hvs Z Z Z⟩)
 refine Xj (fun S F pr hS hbef hcl hI => ?_) ?_
 obtain ⟨J, dm, i7, i8, i9, ja, jb, jc, E, hvs⟩ := hI
 exact Xv (Vals.at 2 hvs Z (Xm 2 hbef Z)) Z (Xc ⟨J, dm, i7, i8, i9, ja, jb, jc, X5 13 hS hcl Z, Vals.up 3 hvs Z Z Z⟩)
 refine Xj (fun S F pu hS hbef hcl hI => ?_) ?_
 obtain ⟨J, dn, jd, je, jf, jg, jh, ji, E, hvs⟩ := hI
 exact Xd (o' := 3) Jz (Vals.at 3 hvs Z (Xm 3 hbef Z)) Z Z (Xc ⟨J, dn, jd, je, jf, jg, jh, ji, X5 13 hS hcl Z, Vals.up 4 hvs Z Z Z⟩)
 refine Xj (fun S F pv hS hbef hcl hI => ?_) ?_
 obtain ⟨J, bl, jj, jk, jl, jm, jo, jp, E, hvs⟩ := hI
 exact Xh (v := vi 0) X1 (Vals.at 4 hvs Z (Xm 4 hbef Z)) ((V.grown0 bl).cell Z) Z (Xc ⟨J, bl, jj, jk, jl, jm, jo, jp, X5 13 hS hcl Z, Vals.up 5 hvs Z Z Z⟩)
 refine Xj (fun S F pw hS hbef hcl hI => ?_) ?_
 obtain ⟨J, dp, jq, jr, js, cl, jt, ju, E, hvs⟩ := hI
 exact Xb (v := vi 1) cl Z (Xc ⟨J, dp, jq, jr, js, cl, jt, ju, X5 13 hS hcl Z, Vals.up 6 hvs Z Z Z⟩)
 refine Xj (fun S F px hS hbef hcl hI => ?_) ?_
 obtain ⟨J, dq, jv, jw, jx, jy, jz, j1, E, hvs⟩ := hI
 exact Yn (c := 1) (Vals.at 5 hvs Z (Xm 5 hbef Z)) (Vals.at 6 hvs Z (Xm 6 hbef Z)) (by omega) (by omega) (by omega) Z (Xc ⟨J, dq, jv, jw, jx, jy, jz, j1, X5 13 hS hcl Z, Vals.up 7 hvs Z Z Z⟩)
 refine Xj (fun S F py hS hbef hcl hI => ?_) ?_
 obtain ⟨J, dr, j2, j3, j4, j5, j6, j7, E, hvs⟩ := hI
 exact Q8 (c := 1) (Vals.at 7 hvs Z (Xm 7 hbef Z)) Z (by omega) (by omega) (by omega) Z Z (Xc ⟨J, dr, j2, j3, j4, j5, j6, j7, X5 13 hS hcl Z, Vals.up 8 hvs Z Z Z⟩)
 refine Xj (fun S F pz hS hbef hcl hI => ?_) ?_
 obtain ⟨J, dt, j8, j9, ka, kb, kc, ke, E, hvs⟩ := hI
 exact Xv (Vals.at 1 hvs Z (Xm 1 hbef Z)) Z (Xc ⟨J, dt, j8, j9, ka, kb, kc, ke, X5 13 hS hcl Z, Vals.up 9 hvs Z Z Z⟩)
 refine Xj (fun S F p0 hS hbef hcl hI => ?_) ?_
 obtain ⟨J, du, kf, kg, kh, ki, kj, kk, E, hvs⟩ := hI
 exact Xd (o' := 0) Ko (Vals.at 9 hvs Z (Xm 9 hbef Z)) Z Z (Xc ⟨J, du, kf, kg, kh, ki, kj, kk, X5 13 hS hcl Z, Vals.up 10 hvs Z Z Z⟩)
 refine Xj (fun S F p8 hS hbef hcl hI => ?_) ?_
 obtain ⟨J, dv, kl, km, kn, ko, kp, kq, E, hvs⟩ := hI
 exact Qr (o' := 1) Vq (Vals.at 10 hvs Z (Xm 10 hbef Z)) (Vals.at 8 hvs Z (Xm 8 hbef Z)) (by decide) (by decide) Z Z (Xc ⟨J, dv, kl, km, kn, ko, kp, kq, X5 13 hS hcl Z, Vals.up 11 hvs Z Z Z⟩)
 refine Xj (fun S F p9 hS hbef hcl hI => ?_) ?_
 obtain ⟨J, bm, kr, ks, kt, ku, kv, kw, E, hvs⟩ := hI
 exact Xh (v := vi y) X1 (Vals.at 11 hvs Z (Xm 11 hbef Z)) ((V.grown0 bm).cell Z) Z (Xc ⟨J, bm, kr, ks, kt, ku, kv, kw, X5 13 hS hcl Z, Vals.up 12 hvs Z Z Z⟩)
 refine Xj (fun S F qb hS hbef hcl hI => ?_) ?_
 obtain ⟨J, aj, kx, ky, kz, k0, k3, k4, E, hvs⟩ := hI
 refine Ya (ps := [(0, vi y)]) (e := 3) (cs := (([y] : List Int).flatMap icell).toArray) (Xn (Vals.at 12 hvs Z (Xm 12 hbef Z)) X8) (fun _ => by kernel_rfl) Z ?_
 intro eb qd af
 have bv := Yj af (low0 ac aj)
 have av := Xr af ((V.grown0 aj)).lt
 exact Xc ⟨eb, (low0 aj af.grw), kx, ky, kz, k0, k3, k4, fun _ => ⟨Z, bv, af.blk, av, (nt aj.size (Nat.le_of_eq af.eq.symm))⟩, Vals.keep hvs Z⟩
 exact Q5
 intro S F qe hall hI
 obtain ⟨J, ap, k5, k6, o0, o1, k7, k8, E, hvs⟩ := hI
 have be := low0 ac ap
 obtain ⟨k9, oq, br, d8, ol⟩ := E (hall 13 (by decide))
 have am := (hOw.grown0 ap)
 refine Jp (g := icell) (ys := ys) (zs := ([y] : List Int)) (lo := w.heap.size) V8 Z Yv (by omega) Kf (Vals.at 0 hvs Z (hall 0 (by decide))) k9 am (Jw Yv br) (fun h => by cases h) (by first | omega | exact Nat.le_of_ble_eq_true rfl | (simp only [List.length_nil, List.length_cons, List.length_append, List.length_replicate]; omega)) (by omega) (by first | exact be.size | omega) Z ?_
 intro bz a8 qf cw bh ov
 exact Xe (v := .slice bz (ys ++ ([y] : List Int)).length a8) Z Z (Xc (Y7 (Xu (X2 (Yn (c := 2) k8 Z (by omega) (by omega) (by omega) Z (Xb (v := vi 2) Z Z (Xc (Xu (⟨(3 - 2 : Int).toNat, by omega, 2, bz, a8, (ys ++ ([y] : List Int)), Z, (by omega), (by first | omega | (simp only [List.length_append, List.length_cons, List.length_nil]; omega)), (by rw [hys]; rfl), cw, Z, Z, k5, k6, k7, (Pm be am bh (by omega)), (Blk.typN (V.grown0 ap) am bh (by decide))⟩)))))))))
 refine Xa (Qa (q := true) ab ad (by decide) Z (Xc (Xq (Qg Z Z (Xw (Xu (Xq (Yc (Xa (Xb (v := vi 2) ab Z (Xe (v := vi 2) Z Z (Xc ?_))))))))))))
 refine Qy (m := 14) [[], [], [], [2], [2, 3], [2, 3, 4], [], [2, 3, 4, 5, 6], [2, 3, 4, 5, 6, 7], [1], [1, 9], [1, 2, 3, 4, 5, 6, 7, 8, 9, 10], [1, 2, 3, 4, 5, 6, 7, 8, 9, 10, 11], [1, 2, 3, 4, 5, 6, 7, 8, 9, 10, 11, 12], [0, 1, 2, 3, 4, 5, 6, 7, 8, 9, 10, 11, 12, 13], [0, 1, 2, 3, 4, 5, 6, 7, 8, 9, 10, 11, 12, 13, 14]] (fun S F w' => ∃ (O : Nat), ah.grownBy w' none ∧ F 0 = pt R 0 ∧ F 2 = .slice none 0 0 ∧ F 3 = .slice aq ys.length cq ∧ F 4 = vi 2 ∧ F 8 = vi 3 ∧ F 9 = vi 2 ∧ (S 13 = true → F 25 = .slice (pa O) 1 1 ∧ w.heap.size ≤ O ∧ Blk w' O 3 (([z] : List Int).flatMap icell).toArray ∧ R < O ∧ ah.heap.size ≤ O) ∧ Vals S F [(0, 12, .slice aq ys.length cq), (1, 13, pt R 0), (2, 14, pt R 0), (3, 15, pt R 0), (4, 16, pt R 3), (5, 17, vi 0), (6, 18, vi 2), (7, 19, vi 2), (8, 20, vi 2), (9, 21, pt R 0), (10, 22, pt R 0), (11, 23, pt R 2), (12, 24, vi z)]) Yy (by kernel_rfl) ⟨0, X6 _, bb, bc, ba, Z, ad, ab, Yt, J3 _⟩ ?_ ?_
 refine Xj (fun S F qg hS hbef hcl hI => ?_) ?_
 obtain ⟨O, dw, la, lc, cm, ld, le, lf, E, hvs⟩ := hI
 exact Xb (v := .slice aq ys.length cq) cm Z (Xc ⟨O, dw, la, lc, cm, ld, le, lf, E, Vals.up 0 hvs Z Z Z⟩)
 refine Xj (fun S F qh hS hbef hcl hI => ?_) ?_
 obtain ⟨O, dx, cn, lg, lh, li, lj, lk, E, hvs⟩ := hI
 exact Xb (v := pt R 0) cn Z (Xc ⟨O, dx, cn, lg, lh, li, lj, lk, X5 13 hS hcl Z, Vals.up 1 hvs Z Z Z⟩)
 refine Xj (fun S F qi hS hbef hcl hI => ?_) ?_
 obtain ⟨O, dy, co, ll, lm, ln, lp, lu, E, hvs⟩ := hI
 exact Xb (v := pt R 0) co Z (Xc ⟨O, dy, co, ll, lm, ln, lp, lu, X5 13 hS hcl Z, Vals.up 2 hvs Z Z Z⟩)
 refine Xj (fun S F qj hS hbef hcl hI => ?_) ?_
 obtain ⟨O, dz, lv, lw, lx, ly, lz, l0, E, hvs⟩ := hI
 exact Xv (Vals.at 2 hvs Z (Xm 2 hbef Z)) Z (Xc ⟨O, dz, lv, lw, lx, ly, lz, l0, X5 13 hS hcl Z, Vals.up 3 hvs Z Z Z⟩)
 refine Xj (fun S F qk hS hbef hcl hI => ?_) ?_
 obtain ⟨O, d0, l3, l4, l5, l6, l7, l8, E, hvs⟩ := hI
 exact Xd (o' := 3) Jz (Vals.at 3 hvs Z (Xm 3 hbef Z)) Z Z (Xc ⟨O, d0, l3, l4, l5, l6, l7, l8, X5 13 hS hcl Z, Vals.up 4 hvs Z Z Z⟩)
 refine Xj (fun S F qm hS hbef hcl hI => ?_) ?_
 obtain ⟨O, bn, l9, ma, mb, mc, me, mf, E, hvs⟩ := hI
 exact Xh (v := vi 0) X1 (Vals.at 4 hvs Z (Xm 4 hbef Z)) ((V.grown0 bn).cell Z) Z (Xc ⟨O, bn, l9, ma, mb, mc, me, mf, X5 13 hS hcl Z, Vals.up 5 hvs Z Z Z⟩)
 refine Xj (fun S F qn hS hbef hcl hI => ?_) ?_
 obtain ⟨O, d1, mg, mh, ml, ct, mn, mo, E, hvs⟩ := hI
 exact Xb (v := vi 2) ct Z (Xc ⟨O, d1, mg, mh, ml, ct, mn, mo, X5 13 hS hcl Z, Vals.up 6 hvs Z Z Z⟩)
 refine Xj (fun S F qo hS hbef hcl hI => ?_) ?_
 obtain ⟨O, d2, mp, mq, mr, mt, mu, mv, E, hvs⟩ := hI
 exact Yn (c := 2) (Vals.at 5 hvs Z (Xm 5 hbef Z)) (Vals.at 6 hvs Z (Xm 6 hbef Z)) (by omega) (by omega) (by omega) Z (Xc ⟨O, d2, mp, mq, mr, mt, mu, mv, X5 13 hS hcl Z, Vals.up 7 hvs Z Z Z⟩)
 refine Xj (fun S F qp hS hbef hcl hI => ?_) ?_
 obtain ⟨O, d3, mw, my, mz, m3, m4, m5, E, hvs⟩ := hI
 exact Q8 (c := 2) (Vals.at 7 hvs Z (Xm 7 hbef Z)) Z (by omega) (by omega) (by omega) Z Z (Xc ⟨O, d3, mw, my, mz, m3, m4, m5, X5 13 hS hcl Z, Vals.up 8 hvs Z Z Z⟩)
 refine Xj (fun S F qq hS hbef hcl hI => ?_) ?_
 obtain ⟨O, d4, m6, m7, m8, m9, na, nb, E, hvs⟩ := hI
 exact Xv (Vals.at 1 hvs Z (Xm 1 hbef Z)) Z (Xc ⟨O, d4, m6, m7, m8, m9, na, nb, X5 13 hS hcl Z, Vals.up 9 hvs Z Z Z⟩)
 refine Xj (fun S F qr hS hbef hcl hI => ?_) ?_
 obtain ⟨O, d5, nc, nd, ne, nf, ng, nh, E, hvs⟩ := hI
 exact Xd (o' := 0) Ko (Vals.at 9 hvs Z (Xm 9 hbef Z)) Z Z (Xc ⟨O, d5, nc, nd, ne, nf, ng, nh, X5 13 hS hcl Z, Vals.up 10 hvs Z Z Z⟩)
 refine Xj (fun S F qt hS hbef hcl hI => ?_) ?_
 obtain ⟨O, d6, ni, nj, nk, nn, no, np, E, hvs⟩ := hI
 exact Qr (o' := 2) Vq (Vals.at 10 hvs Z (Xm 10 hbef Z)) (Vals.at 8 hvs Z (Xm 8 hbef Z)) (by decide) (by decide) Z Z (Xc ⟨O, d6, ni, nj, nk, nn, no, np, X5 13 hS hcl Z, Vals.up 11 hvs Z Z Z⟩)
 refine Xj (fun S F qu hS hbef hcl hI => ?_) ?_
 obtain ⟨O, bp, nq, nr, nu, nv, nw, nx, E, hvs⟩ := hI
 exact Xh (v := vi z) X1 (Vals.at 11 hvs Z (Xm 11 hbef Z)) ((V.grown0 bp).cell Z) Z (Xc ⟨O, bp, nq, nr, nu, nv, nw, nx, X5 13 hS hcl Z, Vals.up 12 hvs Z Z Z⟩)
 refine Xj (fun S F qv hS hbef hcl hI => ?_) ?_
 obtain ⟨O, ak, ny, nz, n5, n7, n9, oa, E, hvs⟩ := hI
 refine Ya (ps := [(0, vi z)]) (e := 3) (cs := (([z] : List Int).flatMap icell).toArray) (Xn (Vals.at 12 hvs Z (Xm 12 hbef Z)) X8) (fun _ => by kernel_rfl) Z ?_
 intro ed qw ag
 have bw := Yj ag (low0 ac ak)
 have aw := Xr ag ((V.grown0 ak)).lt
 exact Xc ⟨ed, (low0 ak ag.grw), ny, nz, n5, n7, n9, oa, fun _ => ⟨Z, bw, ag.blk, aw, (nt ak.size (Nat.le_of_eq ag.eq.symm))⟩, Vals.keep hvs Z⟩
 exact Q5
 intro S F qx hall hI
 obtain ⟨O, ar, ob, oc, o3, o4, od, oe, E, hvs⟩ := hI
 have bf := low0 ac ar
 obtain ⟨og, ot, bt, d9, om⟩ := E (hall 13 (by decide))
 have an := (hOw.grown0 ar)
 refine Jp (g := icell) (ys := ys) (zs := ([z] : List Int)) (lo := w.heap.size) V8 Z Yv (by omega) Kf (Vals.at 0 hvs Z (hall 0 (by decide))) og an (Jw Yv bt) (fun h => by cases h) (by first | omega | exact Nat.le_of_ble_eq_true rfl | (simp only [List.length_nil, List.length_cons, List.length_append, List.length_replicate]; omega)) (by omega) (by first | exact bf.size | omega) Z ?_
 intro ca a9 qy cx bi ow
 exact Xe (v := .slice ca (ys ++ ([z] : List Int)).length a9) Z Z (Xc (Y7 (Xu (X2 (Yn (c := 3) oe Z (by omega) (by omega) (by omega) Z (Xb (v := vi 3) Z Z (Xc (Xu (⟨(3 - 3 : Int).toNat, by omega, 3, ca, a9, (ys ++ ([z] : List Int)), Z, (by omega), (by first | omega | (simp only [List.length_append, List.length_cons, List.length_nil]; omega)), (by rw [hys]; rfl), cx, Z, Z, ob, oc, od, (Pm bf an bi (by omega)), (Blk.typN (V.grown0 ar) an bi (by decide))⟩)))))))))
 refine Xa (Qa (q := false) ab ad (by decide) Z (Xc (Xq (Qc Z Z (Qe (Qb (Qb (Jm (Xu (Xa (Xb (v := .slice aq ys.length cq) ba Z (Xe (v := .slice aq ys.length cq) Z Z ?_))))))))))))
 refine Xc (Xt ?_)
 have hyz : ys = ([x, y, z] : List Int) := hys
 subst hyz
 exact ⟨.slice aq ([x, y, z] : List Int).length cq, Yp Z Z, aq, cq, Z, hOw, ac⟩
theorem Ep (x y z : Int) (R : Nat) (w : World) (hR : Blk w R 149 #[vi x, vi y, vi z, vi 1, vi 0]) : CallsR Tryz.prog 109 #[pt R 0] w (fun v w' => ∃ (a : Option Addr) (c : Nat), v = .slice a 0 c ∧ OwnN w.heap.size w' a 3 1 c ([] : List Int).length (([] : List Int).flatMap icell) ∧ w.grownBy w' none) := by
 refine Xx (n := 29) Tryz.func109 Z Tryz.ntmps109 Z (Xa (Xe (v := .slice none 0 0) Z Z (Xc (Xa (Xe (v := .slice none 0 0) Z Z (Xc (Xq (Xa (Xb (v := pt R 0) Z Z (Xv Z Z (Xd (o' := 4) Jc Z Z Z (Xh (v := vi 0) X1 Z (hR.cell Z) Z ?_))))))))))))
 refine Xb (v := vi 0) Z Z (Xc (Yc (Qm (fun mm f' w' => ∃ (i : Int) (aq : Option Addr) (cq : Nat) (ys : List Int), mm = (0 - i : Int).toNat ∧ (0 ≤ i ∧ i ≤ 0) ∧ (ys.length : Int) = i ∧ ys = ([] : List Int).take i.toNat ∧ OwnN w.heap.size w' aq 3 1 cq ys.length (ys.flatMap icell) ∧ f' 3 = .slice aq ys.length cq ∧ f' 9 = vi i ∧ f' 0 = pt R 0 ∧ f' 2 = .slice none 0 0 ∧ f' 8 = vi 0 ∧ w.grownBy w' none ∧ Blk w' R 149 #[vi x, vi y, vi z, vi 1, vi 0]) (0 - 0 : Int).toNat ⟨0, none, 0, ([] : List Int), Z, (by omega), Z, Z, OwnN.nil, Z, Z, Z, Z, Z, (World.grownBy.refl w none), hR⟩ ?_)))
 rintro mm ad af ⟨i, aq, cq, ys, V, hi, hyl, hys, hOw, G, J, ab, ac, O, E, ae⟩
 rcases (show i = 0 by omega) with rfl
 refine Xa (Qa (q := false) J O (by decide) Z (Xc (Xq (Qc Z Z (Qe (Qb (Qb (Jm (Xu (Xa (Xb (v := .slice aq ys.length cq) G Z (Xe (v := .slice aq ys.length cq) Z Z ?_))))))))))))
 refine Xc (Xt ?_)
 have hyz : ys = ([] : List Int) := hys
 subst hyz
 exact ⟨.slice aq ([] : List Int).length cq, Yp Z Z, aq, cq, Z, hOw, E⟩
theorem Er (x y z : Int) (R : Nat) (w : World) (hR : Blk w R 149 #[vi x, vi y, vi z, vi 1, vi 1]) : CallsR Tryz.prog 109 #[pt R 0] w (fun v w' => ∃ (a : Option Addr) (c : Nat), v = .slice a 1 c ∧ OwnN w.heap.size w' a 3 1 c ([y] : List Int).length (([y] : List Int).flatMap icell) ∧ w.grownBy w' none) := by
 refine Xx (n := 29) Tryz.func109 Z Tryz.ntmps109 Z (Xa (Xe (v := .slice none 0 0) Z Z (Xc (Xa (Xe (v := .slice none 0 0) Z Z (Xc (Xq (Xa (Xb (v := pt R 0) Z Z (Xv Z Z (Xd (o' := 4) Jc Z Z Z (Xh (v := vi 1) X1 Z (hR.cell Z) Z ?_))))))))))))
 refine Xb (v := vi 0) Z Z (Xc (Yc (Qm (fun mm f' w' => ∃ (i : Int) (aq : Option Addr) (cq : Nat) (ys : List Int), mm = (1 - i : Int).toNat ∧ (0 ≤ i ∧ i ≤ 1) ∧ (ys.length : Int) = i ∧ ys = ([y] : List Int).take i.toNat ∧ OwnN w.heap.size w' aq 3 1 cq ys.length (ys.flatMap icell) ∧ f' 3 = .slice aq ys.length cq ∧ f' 9 = vi i ∧ f' 0 = pt R 0 ∧ f' 2 = .slice none 0 0 ∧ f' 8 = vi 1 ∧ w.grownBy w' none ∧ Blk w' R 149 #[vi x, vi y, vi z, vi 1, vi 1]) (1 - 0 : Int).toNat ⟨0, none, 0, ([] : List Int), Z, (by omega), Z, Z, OwnN.nil, Z, Z, Z, Z, Z, (World.grownBy.refl w none), hR⟩ ?_)))
 rintro mm fk az ⟨i, aq, cq, ys, fh, hi, hyl, hys, hOw, ap, af, bm, bn, ah, ab, ag⟩
 rcases (show i = 0 ∨ i = 1 by omega) with rfl | rfl
 refine Xa (Qa (q := true) af ah (by decide) Z (Xc (Xq (Qg Z Z (Xw (Xu (Xq (Yc (Xa (Xb (v := vi 0) af Z (Xe (v := vi 0) Z Z (Xc ?_))))))))))))
 refine Qy (m := 14) [[], [], [], [2], [2, 3], [2, 3, 4], [], [2, 3, 4, 5, 6], [2, 3, 4, 5, 6, 7], [1], [1, 9], [1, 2, 3, 4, 5, 6, 7, 8, 9, 10], [1, 2, 3, 4, 5, 6, 7, 8, 9, 10, 11], [1, 2, 3, 4, 5, 6, 7, 8, 9, 10, 11, 12], [0, 1, 2, 3, 4, 5, 6, 7, 8, 9, 10, 11, 12, 13], [0, 1, 2, 3, 4, 5, 6, 7, 8, 9, 10, 11, 12, 13, 14]] (fun S F w' => ∃ (E : Nat), az.grownBy w' none ∧ F 0 = pt R 0 ∧ F 2 = .slice none 0 0 ∧ F 3 = .slice aq ys.length cq ∧ F 4 = vi 0 ∧ F 8 = vi 1 ∧ F 9 = vi 0 ∧ (S 13 = true → F 25 = .slice (pa E) 1 1 ∧ w.heap.size ≤ E ∧ Blk w' E 3 (([y] : List Int).flatMap icell).toArray ∧ R < E ∧ az.heap.size ≤ E) ∧ Vals S F [(0, 12, .slice aq ys.length cq), (1, 13, pt R 0), (2, 14, pt R 0), (3, 15, pt R 0), (4, 16, pt R 3), (5, 17, vi 1), (6, 18, vi 0), (7, 19, vi 1), (8, 20, vi 1), (9, 21, pt R 0), (10, 22, pt R 0), (11, 23, pt R 1), (12, 24, vi y)]) Yy (by kernel_rfl) ⟨0, X6 _, bm, bn, ap, Z, ah, af, Yt, J3 _⟩ ?_ ?_
 refine Xj (fun S F fm hS hbef hcl hI => ?_) ?_
 obtain ⟨E, a9, bp, bq, ar, br, bt, bu, G, hvs⟩ := hI
 exact Xb (v := .slice aq ys.length cq) ar Z (Xc ⟨E, a9, bp, bq, ar, br, bt, bu, G, Vals.up 0 hvs Z Z Z⟩)
 refine Xj (fun S F fo hS hbef hcl hI => ?_) ?_
 obtain ⟨E, ba, au, bv, bw, bx, bz, ca, G, hvs⟩ := hI
 exact Xb (v := pt R 0) au Z (Xc ⟨E, ba, au, bv, bw, bx, bz, ca, X5 13 hS hcl Z, Vals.up 1 hvs Z Z Z⟩)
 refine Xj (fun S F fp hS hbef hcl hI => ?_) ?_
 obtain ⟨E, bb, av, cc, cd, ce, cf, cg, G, hvs⟩ := hI
 exact Xb (v := pt R 0) av Z (Xc ⟨E, bb, av, cc, cd, ce, cf, cg, X5 13 hS hcl Z, Vals.up 2 hvs Z Z Z⟩)
 refine Xj (fun S F fq hS hbef hcl hI => ?_) ?_
 obtain ⟨E, bc, cj, ck, cl, cm, cn, co, G, hvs⟩ := hI
 exact Xv (Vals.at 2 hvs Z (Xm 2 hbef Z)) Z (Xc ⟨E, bc, cj, ck, cl, cm, cn, co, X5 13 hS hcl Z, Vals.up 3 hvs Z Z Z⟩)
 refine Xj (fun S F fr hS hbef hcl hI => ?_) ?_
 obtain ⟨E, bd, ct, cv, cw, cx, cy, cz, G, hvs⟩ := hI
 exact Xd (o' := 3) Jz (Vals.at 3 hvs Z (Xm 3 hbef Z)) Z Z (Xc ⟨E, bd, ct, cv, cw, cx, cy, cz, X5 13 hS hcl Z, Vals.up 4 hvs Z Z Z⟩)
 refine Xj (fun S F ft hS hbef hcl hI => ?_) ?_
 obtain ⟨E, ak, c8, c9, da, db, dc, de, G, hvs⟩ := hI
 exact Xh (v := vi 1) X1 (Vals.at 4 hvs Z (Xm 4 hbef Z)) ((ag.grown0 ak).cell Z) Z (Xc ⟨E, ak, c8, c9, da, db, dc, de, X5 13 hS hcl Z, Vals.up 5 hvs Z Z Z⟩)
 refine Xj (fun S F fu hS hbef hcl hI => ?_) ?_
 obtain ⟨E, be, df, dg, dh, aw, di, dk, G, hvs⟩ := hI
 exact Xb (v := vi 0) aw Z (Xc ⟨E, be, df, dg, dh, aw, di, dk, X5 13 hS hcl Z, Vals.up 6 hvs Z Z Z⟩)
 refine Xj (fun S F fv hS hbef hcl hI => ?_) ?_
 obtain ⟨E, bf, dl, dm, dn, dp, dq, dr, G, hvs⟩ := hI
 exact Yn (c := 1) (Vals.at 5 hvs Z (Xm 5 hbef Z)) (Vals.at 6 hvs Z (Xm 6 hbef Z)) (by omega) (by omega) (by omega) Z (Xc ⟨E, bf, dl, dm, dn, dp, dq, dr, X5 13 hS hcl Z, Vals.up 7 hvs Z Z Z⟩)
 refine Xj (fun S F fw hS hbef hcl hI => ?_) ?_
 obtain ⟨E, bg, dt, du, dv, dw, dx, dy, G, hvs⟩ := hI
 exact Q8 (c := 1) (Vals.at 7 hvs Z (Xm 7 hbef Z)) Z (by omega) (by omega) (by omega) Z Z (Xc ⟨E, bg, dt, du, dv, dw, dx, dy, X5 13 hS hcl Z, Vals.up 8 hvs Z Z Z⟩)
 refine Xj (fun S F fx hS hbef hcl hI => ?_) ?_
 obtain ⟨E, bh, dz, d0, d1, d2, d3, d4, G, hvs⟩ := hI
 exact Xv (Vals.at 1 hvs Z (Xm 1 hbef Z)) Z (Xc ⟨E, bh, dz, d0, d1, d2, d3, d4, X5 13 hS hcl Z, Vals.up 9 hvs Z Z Z⟩)
 refine Xj (fun S F fy hS hbef hcl hI => ?_) ?_
 obtain ⟨E, bi, d5, d6, d7, d8, d9, ea, G, hvs⟩ := hI
 exact Xd (o' := 0) Ko (Vals.at 9 hvs Z (Xm 9 hbef Z)) Z Z (Xc ⟨E, bi, d5, d6, d7, d8, d9, ea, X5 13 hS hcl Z, Vals.up 10 hvs Z Z Z⟩)
 refine Xj (fun S F fz hS hbef hcl hI => ?_) ?_
 obtain ⟨E, bj, eb, ed, ee, ef, eg, eh, G, hvs⟩ := hI
 exact Qr (o' := 1) Vq (Vals.at 10 hvs Z (Xm 10 hbef Z)) (Vals.at 8 hvs Z (Xm 8 hbef Z)) (by decide) (by decide) Z Z (Xc ⟨E, bj, eb, ed, ee, ef, eg, eh, X5 13 hS hcl Z, Vals.up 11 hvs Z Z Z⟩)
 refine Xj (fun S F f8 hS hbef hcl hI => ?_) ?_
 obtain ⟨E, al, ei, ej, ek, em, eo, ep, G, hvs⟩ := hI
 exact Xh (v := vi y) X1 (Vals.at 11 hvs Z (Xm 11 hbef Z)) ((ag.grown0 al).cell Z) Z (Xc ⟨E, al, ei, ej, ek, em, eo, ep, X5 13 hS hcl Z, Vals.up 12 hvs Z Z Z⟩)
 refine Xj (fun S F f9 hS hbef hcl hI => ?_) ?_
 obtain ⟨E, O, er, eu, ew, ex, ey, ez, G, hvs⟩ := hI
 refine Ya (ps := [(0, vi y)]) (e := 3) (cs := (([y] : List Int).flatMap icell).toArray) (Xn (Vals.at 12 hvs Z (Xm 12 hbef Z)) X8) (fun _ => by kernel_rfl) Z ?_
 intro bl ga J
 have an := Yj J (low0 ab O)
 have ad := Xr J ((ag.grown0 O)).lt
 exact Xc ⟨bl, (low0 O J.grw), er, eu, ew, ex, ey, ez, fun _ => ⟨Z, an, J.blk, ad, (nt O.size (Nat.le_of_eq J.eq.symm))⟩, Vals.keep hvs Z⟩
 exact Q5
 intro S F gb hall hI
 obtain ⟨E, ac, e0, fa, fi, fj, fb, fc, G, hvs⟩ := hI
 have ai := low0 ab ac
 obtain ⟨fd, ff, am, bk, fe⟩ := G (hall 13 (by decide))
 have V := (hOw.grown0 ac)
 refine Jp (g := icell) (ys := ys) (zs := ([y] : List Int)) (lo := w.heap.size) V8 Z Yv (by omega) Kf (Vals.at 0 hvs Z (hall 0 (by decide))) fd V (Jw Yv am) (fun h => by cases h) (by first | omega | exact Nat.le_of_ble_eq_true rfl | (simp only [List.length_nil, List.length_cons, List.length_append, List.length_replicate]; omega)) (by omega) (by first | exact ai.size | omega) Z ?_
 intro ao ae gc a8 aj fg
 exact Xe (v := .slice ao (ys ++ ([y] : List Int)).length ae) Z Z (Xc (Y7 (Xu (X2 (Yn (c := 1) fc Z (by omega) (by omega) (by omega) Z (Xb (v := vi 1) Z Z (Xc (Xu (⟨(1 - 1 : Int).toNat, by omega, 1, ao, ae, (ys ++ ([y] : List Int)), Z, (by omega), (by first | omega | (simp only [List.length_append, List.length_cons, List.length_nil]; omega)), (by rw [hys]; rfl), a8, Z, Z, e0, fa, fb, (Pm ai V aj (by omega)), (Blk.typN (ag.grown0 ac) V aj (by decide))⟩)))))))))
 refine Xa (Qa (q := false) af ah (by decide) Z (Xc (Xq (Qc Z Z (Qe (Qb (Qb (Jm (Xu (Xa (Xb (v := .slice aq ys.length cq) ap Z (Xe (v := .slice aq ys.length cq) Z Z ?_))))))))))))
 refine Xc (Xt ?_)
 have hyz : ys = ([y] : List Int) := hys
 subst hyz
 exact ⟨.slice aq ([y] : List Int).length cq, Yp Z Z, aq, cq, Z, hOw, ab⟩
theorem Es (x y z : Int) (R : Nat) (w : World) (hR : Blk w R 149 #[vi x, vi y, vi z, vi 1, vi 2]) : CallsR Tryz.prog 109 #[pt R 0] w (fun v w' => ∃ (a : Option Addr) (c : Nat), v = .slice a 2 c ∧ OwnN w.heap.size w' a 3 1 c ([y, z] : List Int).length (([y, z] : List Int).flatMap icell) ∧ w.grownBy w' none) := by
 refine Xx (n := 29) Tryz.func109 Z Tryz.ntmps109 Z (Xa (Xe (v := .slice none 0 0) Z Z (Xc (Xa (Xe (v := .slice none 0 0) Z Z (Xc (Xq (Xa (Xb (v := pt R 0) Z Z (Xv Z Z (Xd (o' := 4) Jc Z Z Z (Xh (v := vi 2) X1 Z (hR.cell Z) Z ?_))))))))))))
 refine Xb (v := vi 0) Z Z (Xc (Yc (Qm (fun mm f' w' => ∃ (i : Int) (aq : Option Addr) (cq : Nat) (ys : List Int), mm = (2 - i : Int).toNat ∧ (0 ≤ i ∧ i ≤ 2) ∧ (ys.length : Int) = i ∧ ys = ([y, z] : List Int).take i.toNat ∧ OwnN w.heap.size w' aq 3 1 cq ys.length (ys.flatMap icell) ∧ f' 3 = .slice aq ys.length cq ∧ f' 9 = vi i ∧ f' 0 = pt R 0 ∧ f' 2 = .slice none 0 0 ∧ f' 8 = vi 2 ∧ w.grownBy w' none ∧ Blk w' R 149 #[vi x, vi y, vi z, vi 1, vi 2]) (2 - 0 : Int).toNat ⟨0, none, 0, ([] : List Int), Z, (by omega), Z, Z, OwnN.nil, Z, Z, Z, Z, Z, (World.grownBy.refl w none), hR⟩ ?_)))
 rintro mm kn ap ⟨i, aq, cq, ys, ki, hi, hyl, hys, hOw, ar, V, bi, bj, ag, ad, O⟩
 rcases (show i = 0 ∨ i = 1 ∨ i = 2 by omega) with rfl | rfl | rfl
 refine Xa (Qa (q := true) V ag (by decide) Z (Xc (Xq (Qg Z Z (Xw (Xu (Xq (Yc (Xa (Xb (v := vi 0) V Z (Xe (v := vi 0) Z Z (Xc ?_))))))))))))
 refine Qy (m := 14) [[], [], [], [2], [2, 3], [2, 3, 4], [], [2, 3, 4, 5, 6], [2, 3, 4, 5, 6, 7], [1], [1, 9], [1, 2, 3, 4, 5, 6, 7, 8, 9, 10], [1, 2, 3, 4, 5, 6, 7, 8, 9, 10, 11], [1, 2, 3, 4, 5, 6, 7, 8, 9, 10, 11, 12], [0, 1, 2, 3, 4, 5, 6, 7, 8, 9, 10, 11, 12, 13], [0, 1, 2, 3, 4, 5, 6, 7, 8, 9, 10, 11, 12, 13, 14]] (fun S F w' => ∃ (E : Nat), ap.grownBy w' none ∧ F 0 = pt R 0 ∧ F 2 = .slice none 0 0 ∧ F 3 = .slice aq ys.length cq ∧ F 4 = vi 0 ∧ F 8 = vi 2 ∧ F 9 = vi 0 ∧ (S 13 = true → F 25 = .slice (pa E) 1 1 ∧ w.heap.size ≤ E ∧ Blk w' E 3 (([y] : List Int).flatMap icell).toArray ∧ R < E ∧ ap.heap.size ≤ E) ∧ Vals S F [(0, 12, .slice aq ys.length cq), (1, 13, pt R 0), (2, 14, pt R 0), (3, 15, pt R 0), (4, 16, pt R 3), (5, 17, vi 1), (6, 18, vi 0), (7, 19, vi 1), (8, 20, vi 1), (9, 21, pt R 0), (10, 22, pt R 0), (11, 23, pt R 1), (12, 24, vi y)]) Yy (by kernel_rfl) ⟨0, X6 _, bi, bj, ar, Z, ag, V, Yt, J3 _⟩ ?_ ?_
 refine Xj (fun S F ko hS hbef hcl hI => ?_) ?_
 obtain ⟨E, bw, de, df, bk, dg, dh, di, J, hvs⟩ := hI
 exact Xb (v := .slice aq ys.length cq) bk Z (Xc ⟨E, bw, de, df, bk, dg, dh, di, J, Vals.up 0 hvs Z Z Z⟩)
 refine Xj (fun S F kp hS hbef hcl hI => ?_) ?_
 obtain ⟨E, bx, bl, dk, dl, dm, dn, dp, J, hvs⟩ := hI
 exact Xb (v := pt R 0) bl Z (Xc ⟨E, bx, bl, dk, dl, dm, dn, dp, X5 13 hS hcl Z, Vals.up 1 hvs Z Z Z⟩)
 refine Xj (fun S F kq hS hbef hcl hI => ?_) ?_
 obtain ⟨E, bz, bm, dq, dr, dt, du, dv, J, hvs⟩ := hI
 exact Xb (v := pt R 0) bm Z (Xc ⟨E, bz, bm, dq, dr, dt, du, dv, X5 13 hS hcl Z, Vals.up 2 hvs Z Z Z⟩)
 refine Xj (fun S F kr hS hbef hcl hI => ?_) ?_
 obtain ⟨E, ca, dw, dx, dy, dz, d0, d1, J, hvs⟩ := hI
 exact Xv (Vals.at 2 hvs Z (Xm 2 hbef Z)) Z (Xc ⟨E, ca, dw, dx, dy, dz, d0, d1, X5 13 hS hcl Z, Vals.up 3 hvs Z Z Z⟩)
 refine Xj (fun S F ks hS hbef hcl hI => ?_) ?_
 obtain ⟨E, cc, d2, d3, d4, d5, d6, d7, J, hvs⟩ := hI
 exact Xd (o' := 3) Jz (Vals.at 3 hvs Z (Xm 3 hbef Z)) Z Z (Xc ⟨E, cc, d2, d3, d4, d5, d6, d7, X5 13 hS hcl Z, Vals.up 4 hvs Z Z Z⟩)
 refine Xj (fun S F kt hS hbef hcl hI => ?_) ?_
 obtain ⟨E, a8, d8, d9, ea, eb, ed, ee, J, hvs⟩ := hI
 exact Xh (v := vi 1) X1 (Vals.at 4 hvs Z (Xm 4 hbef Z)) ((O.grown0 a8).cell Z) Z (Xc ⟨E, a8, d8, d9, ea, eb, ed, ee, X5 13 hS hcl Z, Vals.up 5 hvs Z Z Z⟩)
 refine Xj (fun S F ku hS hbef hcl hI => ?_) ?_
 obtain ⟨E, cd, ef, eg, eh, bn, ei, ej, J, hvs⟩ := hI
 exact Xb (v := vi 0) bn Z (Xc ⟨E, cd, ef, eg, eh, bn, ei, ej, X5 13 hS hcl Z, Vals.up 6 hvs Z Z Z⟩)
 refine Xj (fun S F kv hS hbef hcl hI => ?_) ?_
 obtain ⟨E, ce, ek, em, eo, ep, er, eu, J, hvs⟩ := hI
 exact Yn (c := 1) (Vals.at 5 hvs Z (Xm 5 hbef Z)) (Vals.at 6 hvs Z (Xm 6 hbef Z)) (by omega) (by omega) (by omega) Z (Xc ⟨E, ce, ek, em, eo, ep, er, eu, X5 13 hS hcl Z, Vals.up 7 hvs Z Z Z⟩)
 refine Xj (fun S F kw hS hbef hcl hI => ?_) ?_
 obtain ⟨E, cf, ew, ex, ey, ez, e0, fa, J, hvs⟩ := hI
 exact Q8 (c := 1) (Vals.at 7 hvs Z (Xm 7 hbef Z)) Z (by omega) (by omega) (by omega) Z Z (Xc ⟨E, cf, ew, ex, ey, ez, e0, fa, X5 13 hS hcl Z, Vals.up 8 hvs Z Z Z⟩)
 refine Xj (fun S F kx hS hbef hcl hI => ?_) ?_
 obtain ⟨E, cg, fb, fc, fd, fe, ff, fg, J, hvs⟩ := hI
 exact Xv (Vals.at 1 hvs Z (Xm 1 hbef Z)) Z (Xc ⟨E, cg, fb, fc, fd, fe, ff, fg, X5 13 hS hcl Z, Vals.up 9 hvs Z Z Z⟩)
 refine Xj (fun S F ky hS hbef hcl hI => ?_) ?_
 obtain ⟨E, cj, fh, fi, fj, fk, fm, fo, J, hvs⟩ := hI
 exact Xd (o' := 0) Ko (Vals.at 9 hvs Z (Xm 9 hbef Z)) Z Z (Xc ⟨E, cj, fh, fi, fj, fk, fm, fo, X5 13 hS hcl Z, Vals.up 10 hvs Z Z Z⟩)
 refine Xj (fun S F kz hS hbef hcl hI => ?_) ?_
 obtain ⟨E, ck, fp, fq, fr, ft, fu, fv, J, hvs⟩ := hI
 exact Qr (o' := 1) Vq (Vals.at 10 hvs Z (Xm 10 hbef Z)) (Vals.at 8 hvs Z (Xm 8 hbef Z)) (by decide) (by decide) Z Z (Xc ⟨E, ck, fp, fq, fr, ft, fu, fv, X5 13 hS hcl Z, Vals.up 11 hvs Z Z Z⟩)
 refine Xj (fun S F k0 hS hbef hcl hI => ?_) ?_
 obtain ⟨E, a9, fw, fx, fy, fz, f8, f9, J, hvs⟩ := hI
 exact Xh (v := vi y) X1 (Vals.at 11 hvs Z (Xm 11 hbef Z)) ((O.grown0 a9).cell Z) Z (Xc ⟨E, a9, fw, fx, fy, fz, f8, f9, X5 13 hS hcl Z, Vals.up 12 hvs Z Z Z⟩)
 refine Xj (fun S F k3 hS hbef hcl hI => ?_) ?_
 obtain ⟨E, ae, ga, gb, gc, gf, gg, gh, J, hvs⟩ := hI
 refine Ya (ps := [(0, vi y)]) (e := 3) (cs := (([y] : List Int).flatMap icell).toArray) (Xn (Vals.at 12 hvs Z (Xm 12 hbef Z)) X8) (fun _ => by kernel_rfl) Z ?_
 intro db k4 ab
 have be := Yj ab (low0 ad ae)
 have al := Xr ab ((O.grown0 ae)).lt
 exact Xc ⟨db, (low0 ae ab.grw), ga, gb, gc, gf, gg, gh, fun _ => ⟨Z, be, ab.blk, al, (nt ae.size (Nat.le_of_eq ab.eq.symm))⟩, Vals.keep hvs Z⟩
 exact Q5
 intro S F k5 hall hI
 obtain ⟨E, aj, gi, gj, kj, kk, gk, gl, J, hvs⟩ := hI
 have au := low0 ad aj
 obtain ⟨gm, ke, bc, c9, kb⟩ := J (hall 13 (by decide))
 have ah := (hOw.grown0 aj)
 refine Jp (g := icell) (ys := ys) (zs := ([y] : List Int)) (lo := w.heap.size) V8 Z Yv (by omega) Kf (Vals.at 0 hvs Z (hall 0 (by decide))) gm ah (Jw Yv bc) (fun h => by cases h) (by first | omega | exact Nat.le_of_ble_eq_true rfl | (simp only [List.length_nil, List.length_cons, List.length_append, List.length_replicate]; omega)) (by omega) (by first | exact au.size | omega) Z ?_
 intro bg an k6 bu aw kg
 exact Xe (v := .slice bg (ys ++ ([y] : List Int)).length an) Z Z (Xc (Y7 (Xu (X2 (Yn (c := 1) gl Z (by omega) (by omega) (by omega) Z (Xb (v := vi 1) Z Z (Xc (Xu (⟨(2 - 1 : Int).toNat, by omega, 1, bg, an, (ys ++ ([y] : List Int)), Z, (by omega), (by first | omega | (simp only [List.length_append, List.length_cons, List.length_nil]; omega)), (by rw [hys]; rfl), bu, Z, Z, gi, gj, gk, (Pm au ah aw (by omega)), (Blk.typN (O.grown0 aj) ah aw (by decide))⟩)))))))))
 refine Xa (Qa (q := true) V ag (by decide) Z (Xc (Xq (Qg Z Z (Xw (Xu (Xq (Yc (Xa (Xb (v := vi 1) V Z (Xe (v := vi 1) Z Z (Xc ?_))))))))))))
 refine Qy (m := 14) [[], [], [], [2], [2, 3], [2, 3, 4], [], [2, 3, 4, 5, 6], [2, 3, 4, 5, 6, 7], [1], [1, 9], [1, 2, 3, 4, 5, 6, 7, 8, 9, 10], [1, 2, 3, 4, 5, 6, 7, 8, 9, 10, 11], [1, 2, 3, 4, 5, 6, 7, 8, 9, 10, 11, 12], [0, 1, 2, 3, 4, 5, 6, 7, 8, 9, 10, 11, 12, 13], [0, 1, 2, 3, 4, 5, 6, 7, 8, 9, 10, 11, 12, 13, 14]] (fun S F w' => ∃ (G : Nat), ap.grownBy w' none ∧ F 0 = pt R 0 ∧ F 2 = .slice none 0 0 ∧ F 3 = .slice aq ys.length cq ∧ F 4 = vi 1 ∧ F 8 = vi 2 ∧ F 9 = vi 1 ∧ (S 13 = true → F 25 = .slice (pa G) 1 1 ∧ w.heap.size ≤ G ∧ Blk w' G 3 (([z] : List Int).flatMap icell).toArray ∧ R < G ∧ ap.heap.size ≤ G) ∧ Vals S F [(0, 12, .slice aq ys.length cq), (1, 13, pt R 0), (2, 14, pt R 0), (3, 15, pt R 0), (4, 16, pt R 3), (5, 17, vi 1), (6, 18, vi 1), (7, 19, vi 2), (8, 20, vi 2), (9, 21, pt R 0), (10, 22, pt R 0), (11, 23, pt R 2), (12, 24, vi z)]) Yy (by kernel_rfl) ⟨0, X6 _, bi, bj, ar, Z, ag, V, Yt, J3 _⟩ ?_ ?_
 refine Xj (fun S F k7 hS hbef hcl hI => ?_) ?_
 obtain ⟨G, cl, gp, gq, bp, gr, gt, gu, J, hvs⟩ := hI
 exact Xb (v := .slice aq ys.length cq) bp Z (Xc ⟨G, cl, gp, gq, bp, gr, gt, gu, J, Vals.up 0 hvs Z Z Z⟩)
 refine Xj (fun S F k8 hS hbef hcl hI => ?_) ?_
 obtain ⟨G, cm, bq, gv, gw, gx, gy, gz, J, hvs⟩ := hI
 exact Xb (v := pt R 0) bq Z (Xc ⟨G, cm, bq, gv, gw, gx, gy, gz, X5 13 hS hcl Z, Vals.up 1 hvs Z Z Z⟩)
 refine Xj (fun S F k9 hS hbef hcl hI => ?_) ?_
 obtain ⟨G, cn, br, g0, g1, g2, g3, g5, J, hvs⟩ := hI
 exact Xb (v := pt R 0) br Z (Xc ⟨G, cn, br, g0, g1, g2, g3, g5, X5 13 hS hcl Z, Vals.up 2 hvs Z Z Z⟩)
 refine Xj (fun S F la hS hbef hcl hI => ?_) ?_
 obtain ⟨G, co, g6, g7, g8, g9, ia, ib, J, hvs⟩ := hI
 exact Xv (Vals.at 2 hvs Z (Xm 2 hbef Z)) Z (Xc ⟨G, co, g6, g7, g8, g9, ia, ib, X5 13 hS hcl Z, Vals.up 3 hvs Z Z Z⟩)
 refine Xj (fun S F lc hS hbef hcl hI => ?_) ?_
 obtain ⟨G, ct, ic, ie, ig, ii, ij, ik, J, hvs⟩ := hI
 exact Xd (o' := 3) Jz (Vals.at 3 hvs Z (Xm 3 hbef Z)) Z Z (Xc ⟨G, ct, ic, ie, ig, ii, ij, ik, X5 13 hS hcl Z, Vals.up 4 hvs Z Z Z⟩)
 refine Xj (fun S F ld hS hbef hcl hI => ?_) ?_
 obtain ⟨G, ba, il, im, io, ip, iq, ir, J, hvs⟩ := hI
 exact Xh (v := vi 1) X1 (Vals.at 4 hvs Z (Xm 4 hbef Z)) ((O.grown0 ba).cell Z) Z (Xc ⟨G, ba, il, im, io, ip, iq, ir, X5 13 hS hcl Z, Vals.up 5 hvs Z Z Z⟩)
 refine Xj (fun S F le hS hbef hcl hI => ?_) ?_
 obtain ⟨G, cv, it, iu, iv, bt, iw, ix, J, hvs⟩ := hI
 exact Xb (v := vi 1) bt Z (Xc ⟨G, cv, it, iu, iv, bt, iw, ix, X5 13 hS hcl Z, Vals.up 6 hvs Z Z Z⟩)
 refine Xj (fun S F lf hS hbef hcl hI => ?_) ?_
 obtain ⟨G, cw, iy, iz, i0, i1, i2, i3, J, hvs⟩ := hI
 exact Yn (c := 2) (Vals.at 5 hvs Z (Xm 5 hbef Z)) (Vals.at 6 hvs Z (Xm 6 hbef Z)) (by omega) (by omega) (by omega) Z (Xc ⟨G, cw, iy, iz, i0, i1, i2, i3, X5 13 hS hcl Z, Vals.up 7 hvs Z Z Z⟩)
 refine Xj (fun S F lg hS hbef hcl hI => ?_) ?_
 obtain ⟨G, cx, i4, i5, i6, i7, i8, i9, J, hvs⟩ := hI
 exact Q8 (c := 2) (Vals.at 7 hvs Z (Xm 7 hbef Z)) Z (by omega) (by omega) (by omega) Z Z (Xc ⟨G, cx, i4, i5, i6, i7, i8, i9, X5 13 hS hcl Z, Vals.up 8 hvs Z Z Z⟩)
 refine Xj (fun S F lh hS hbef hcl hI => ?_) ?_
 obtain ⟨G, cy, ja, jb, jc, jd, je, jf, J, hvs⟩ := hI
 exact Xv (Vals.at 1 hvs Z (Xm 1 hbef Z)) Z (Xc ⟨G, cy, ja, jb, jc, jd, je, jf, X5 13 hS hcl Z, Vals.up 9 hvs Z Z Z⟩)
 refine Xj (fun S F li hS hbef hcl hI => ?_) ?_
 obtain ⟨G, cz, jg, jh, ji, jj, jk, jl, J, hvs⟩ := hI
 exact Xd (o' := 0) Ko (Vals.at 9 hvs Z (Xm 9 hbef Z)) Z Z (Xc ⟨G, cz, jg, jh, ji, jj, jk, jl, X5 13 hS hcl Z, Vals.up 10 hvs Z Z Z⟩)
 refine Xj (fun S F lj hS hbef hcl hI => ?_) ?_
 obtain ⟨G, c8, jm, jo, jp, jq, jr, js, J, hvs⟩ := hI
 exact Qr (o' := 2) Vq (Vals.at 10 hvs Z (Xm 10 hbef Z)) (Vals.at 8 hvs Z (Xm 8 hbef Z)) (by decide) (by decide) Z Z (Xc ⟨G, c8, jm, jo, jp, jq, jr, js, X5 13 hS hcl Z, Vals.up 11 hvs Z Z Z⟩)
 refine Xj (fun S F lk hS hbef hcl hI => ?_) ?_
 obtain ⟨G, bb, jt, ju, jv, jw, jx, jy, J, hvs⟩ := hI
 exact Xh (v := vi z) X1 (Vals.at 11 hvs Z (Xm 11 hbef Z)) ((O.grown0 bb).cell Z) Z (Xc ⟨G, bb, jt, ju, jv, jw, jx, jy, X5 13 hS hcl Z, Vals.up 12 hvs Z Z Z⟩)
 refine Xj (fun S F ll hS hbef hcl hI => ?_) ?_
 obtain ⟨G, af, jz, j1, j2, j3, j4, j5, J, hvs⟩ := hI
 refine Ya (ps := [(0, vi z)]) (e := 3) (cs := (([z] : List Int).flatMap icell).toArray) (Xn (Vals.at 12 hvs Z (Xm 12 hbef Z)) X8) (fun _ => by kernel_rfl) Z ?_
 intro dc lm ac
 have bf := Yj ac (low0 ad af)
 have am := Xr ac ((O.grown0 af)).lt
 exact Xc ⟨dc, (low0 af ac.grw), jz, j1, j2, j3, j4, j5, fun _ => ⟨Z, bf, ac.blk, am, (nt af.size (Nat.le_of_eq ac.eq.symm))⟩, Vals.keep hvs Z⟩
 exact Q5
 intro S F ln hall hI
 obtain ⟨G, ak, j6, j7, kl, km, j8, j9, J, hvs⟩ := hI
 have av := low0 ad ak
 obtain ⟨ka, kf, bd, da, kc⟩ := J (hall 13 (by decide))
 have ai := (hOw.grown0 ak)
 refine Jp (g := icell) (ys := ys) (zs := ([z] : List Int)) (lo := w.heap.size) V8 Z Yv (by omega) Kf (Vals.at 0 hvs Z (hall 0 (by decide))) ka ai (Jw Yv bd) (fun h => by cases h) (by first | omega | exact Nat.le_of_ble_eq_true rfl | (simp only [List.length_nil, List.length_cons, List.length_append, List.length_replicate]; omega)) (by omega) (by first | exact av.size | omega) Z ?_
 intro bh ao lp bv az kh
 exact Xe (v := .slice bh (ys ++ ([z] : List Int)).length ao) Z Z (Xc (Y7 (Xu (X2 (Yn (c := 2) j9 Z (by omega) (by omega) (by omega) Z (Xb (v := vi 2) Z Z (Xc (Xu (⟨(2 - 2 : Int).toNat, by omega, 2, bh, ao, (ys ++ ([z] : List Int)), Z, (by omega), (by first | omega | (simp only [List.length_append, List.length_cons, List.length_nil]; omega)), (by rw [hys]; rfl), bv, Z, Z, j6, j7, j8, (Pm av ai az (by omega)), (Blk.typN (O.grown0 ak) ai az (by decide))⟩)))))))))
 refine Xa (Qa (q := false) V ag (by decide) Z (Xc (Xq (Qc Z Z (Qe (Qb (Qb (Jm (Xu (Xa (Xb (v := .slice aq ys.length cq) ar Z (Xe (v := .slice aq ys.length cq) Z Z ?_))))))))))))
 refine Xc (Xt ?_)
 have hyz : ys = ([y, z] : List Int) := hys
 subst hyz
 exact ⟨.slice aq ([y, z] : List Int).length cq, Yp Z Z, aq, cq, Z, hOw, ad⟩
end Go.Proofs.YtjpgffmkcmcolaaGreatDoor
end
section
namespace Go.Proofs.YtjpgffmkcmcolaaGreatDoor
open Go.RowKit Go.Dw
set_option maxRecDepth 100000
set_option maxHeartbeats 4000000
set_option linter.unusedSimpArgs false
set_option linter.unusedVariables false
theorem W5 : goFn Tryz.prog 107 = true := by kernel_rfl
theorem Gv : goFn Tryz.prog 108 = true := by kernel_rfl
theorem Hj : goFn Tryz.prog 109 = true := by kernel_rfl
theorem Ph : goFn Tryz.prog 110 = true := by kernel_rfl
theorem Ub (w : World) (ns : List Int) (a : Option Addr) (c : Nat) (hs : SlAt w a 1 (ns.map icell)) (hn : ns.length ≤ 3) : CallsR Tryz.prog 107 #[.slice a ns.length c] w (fun v w' => ∃ R : Nat, v = pt R 0 ∧ w.heap.size ≤ R ∧ Blk w' R 149 #[vi (iAt ns 0), vi (iAt ns 1), vi (iAt ns 2), vi 0, vi (ns.length : Int)] ∧ w.grownBy w' none) := by
 refine Xx (n := 19) Tryz.func107 Z Tryz.ntmps107 Z ?_
 have a9 := World.grownBy.refl w none
 refine Xa (Xe (v := .pointer none) Z Z (Xc (Xa (Y6 (ps := []) (v := .agg #[vi 0, vi 0, vi 0, vi 0, vi 0]) X8 (by kernel_rfl) Z (Qf (v := .agg #[vi 0, vi 0, vi 0, vi 0, vi 0]) (cs := #[vi 0, vi 0, vi 0, vi 0, vi 0]) Z Z Z ?_)))))
 intro E bw ae
 have V := Yj ae a9
 refine Xe (v := pt E 0) Z Z (Xc (Xq (Xa (Xb (v := .slice a ns.length c) Z Z (Yu (by kernel_rfl) Z Z (Xb (v := vi 0) Z Z (Xc (Yc (Qm (fun mm f' w' => ∃ (k : Int), mm = (3 - k : Int).toNat ∧ (0 ≤ k ∧ k ≤ 3 ∧ k ≤ (ns.length : Int)) ∧ f' 10 = vi k ∧ f' 2 = .pointer none ∧ f' 3 = pt E 0 ∧ f' 8 = .slice a ns.length c ∧ f' 9 = vi (ns.length : Int) ∧ w.grownBy w' none ∧ Blk w' E 149 #[vi (rc ns k 0), vi (rc ns k 1), vi (rc ns k 2), vi 0, vi k]) (3 - 0 : Int).toNat ⟨0, Z, (by omega), Z, Z, Z, Z, Z, (low0 a9 ae.grw), ae.blk⟩ ?_)))))))))
 rintro mm bh af ⟨k, bd, hk, J, ag, O, ad, ab, G, ac⟩
 rcases (show k = 0 ∨ k = 1 ∨ k = 2 ∨ k = 3 by omega) with rfl | rfl | rfl | rfl
 refine Xa (Qa (q := decide (0 < (ns.length : Int))) J ab Z Z (Xc (Xq (Xy Z (fun ah => ?_) (fun ah => ?_)))))
 have bi := of_decide_eq_true ah
 refine Xw (Xu (Xq (Yc (Xa ?_))))
 obtain ⟨be, bt, bp, al, ar, aw⟩ := SlAt.at hs (Yi (Ve (lq 0 ns.length)))
 refine Xz J6 ad J al ar (by omega) (by omega) Z (Xh (v := vi (iAt ns 0)) X1 Z ((X9 aw G) 0 _ Z) Z (Xe (v := vi (iAt ns 0)) Z Z (Xc (X2 (Xb (v := pt E 0) O Z (Xb (v := vi (iAt ns 0)) Z Z (Xl Gv (Xg Z (Xg Z Xk)) Z (C5 (iAt ns 0) (rc ns 0 0) (rc ns 0 1) (rc ns 0 2) E _ ac) ?_)))))))
 rintro _ bx ⟨rfl, ba, ao⟩
 exact Xc (Y7 (Xu (X2 (Yn (c := 1) J Z (by omega) (by omega) (by omega) Z (Xb (v := vi 1) Z Z (Xc (Xu (⟨(3 - 1 : Int).toNat, by omega, 1, Z, (by omega), Z, ag, O, ad, ab, (low1 G ao (by omega)), ba⟩))))))))
 have bj := of_decide_eq_false ah
 refine Qe (Qb (Qb (Jm (Xu (Xa (Xb (v := pt E 0) O Z (Xe (v := pt E 0) Z Z (Xc (Xt ?_)))))))))
 have hkk : Blk af E 149 #[vi (iAt ns 0), vi (iAt ns 1), vi (iAt ns 2), vi 0, vi (ns.length : Int)] := by rw [← Ue (k := 0) (j := 0) (by omega), ← Ue (k := 0) (j := 1) (by omega), ← Ue (k := 0) (j := 2) (by omega), show (ns.length : Int) = 0 by omega]; exact ac
 exact ⟨pt E 0, Yp Z Z, E, Z, V, hkk, G⟩
 refine Xa (Qa (q := decide (1 < (ns.length : Int))) J ab Z Z (Xc (Xq (Xy Z (fun ai => ?_) (fun ai => ?_)))))
 have bk := of_decide_eq_true ai
 refine Xw (Xu (Xq (Yc (Xa ?_))))
 obtain ⟨bf, bu, bq, am, au, az⟩ := SlAt.at hs (Yi (Ve (lq 1 ns.length)))
 refine Xz J6 ad J am au (by omega) (by omega) Z (Xh (v := vi (iAt ns 1)) X1 Z ((X9 az G) 0 _ Z) Z (Xe (v := vi (iAt ns 1)) Z Z (Xc (X2 (Xb (v := pt E 0) O Z (Xb (v := vi (iAt ns 1)) Z Z (Xl Gv (Xg Z (Xg Z Xk)) Z (C6 (iAt ns 1) (rc ns 1 0) (rc ns 1 1) (rc ns 1 2) E _ ac) ?_)))))))
 rintro _ bz ⟨rfl, bb, ap⟩
 exact Xc (Y7 (Xu (X2 (Yn (c := 2) J Z (by omega) (by omega) (by omega) Z (Xb (v := vi 2) Z Z (Xc (Xu (⟨(3 - 2 : Int).toNat, by omega, 2, Z, (by omega), Z, ag, O, ad, ab, (low1 G ap (by omega)), bb⟩))))))))
 have bl := of_decide_eq_false ai
 refine Qe (Qb (Qb (Jm (Xu (Xa (Xb (v := pt E 0) O Z (Xe (v := pt E 0) Z Z (Xc (Xt ?_)))))))))
 have hkk : Blk af E 149 #[vi (iAt ns 0), vi (iAt ns 1), vi (iAt ns 2), vi 0, vi (ns.length : Int)] := by rw [← Ue (k := 1) (j := 0) (by omega), ← Ue (k := 1) (j := 1) (by omega), ← Ue (k := 1) (j := 2) (by omega), show (ns.length : Int) = 1 by omega]; exact ac
 exact ⟨pt E 0, Yp Z Z, E, Z, V, hkk, G⟩
 refine Xa (Qa (q := decide (2 < (ns.length : Int))) J ab Z Z (Xc (Xq (Xy Z (fun aj => ?_) (fun aj => ?_)))))
 have bm := of_decide_eq_true aj
 refine Xw (Xu (Xq (Yc (Xa ?_))))
 obtain ⟨bg, bv, br, an, av, a8⟩ := SlAt.at hs (Yi (Ve (lq 2 ns.length)))
 refine Xz J6 ad J an av (by omega) (by omega) Z (Xh (v := vi (iAt ns 2)) X1 Z ((X9 a8 G) 0 _ Z) Z (Xe (v := vi (iAt ns 2)) Z Z (Xc (X2 (Xb (v := pt E 0) O Z (Xb (v := vi (iAt ns 2)) Z Z (Xl Gv (Xg Z (Xg Z Xk)) Z (C7 (iAt ns 2) (rc ns 2 0) (rc ns 2 1) (rc ns 2 2) E _ ac) ?_)))))))
 rintro _ ca ⟨rfl, bc, aq⟩
 exact Xc (Y7 (Xu (X2 (Yn (c := 3) J Z (by omega) (by omega) (by omega) Z (Xb (v := vi 3) Z Z (Xc (Xu (⟨(3 - 3 : Int).toNat, by omega, 3, Z, (by omega), Z, ag, O, ad, ab, (low1 G aq (by omega)), bc⟩))))))))
 have bn := of_decide_eq_false aj
 refine Qe (Qb (Qb (Jm (Xu (Xa (Xb (v := pt E 0) O Z (Xe (v := pt E 0) Z Z (Xc (Xt ?_)))))))))
 have hkk : Blk af E 149 #[vi (iAt ns 0), vi (iAt ns 1), vi (iAt ns 2), vi 0, vi (ns.length : Int)] := by rw [← Ue (k := 2) (j := 0) (by omega), ← Ue (k := 2) (j := 1) (by omega), ← Ue (k := 2) (j := 2) (by omega), show (ns.length : Int) = 2 by omega]; exact ac
 exact ⟨pt E 0, Yp Z Z, E, Z, V, hkk, G⟩
 have ak : (ns.length : Int) = 3 := by omega
 refine Xa (Qa (q := false) J (ab.trans (congrArg (Value.int .i64) ak)) (by decide) Z (Xc (Xq (Qc Z Z (Qe (Qb (Qb (Jm (Xu (Xa (Xb (v := pt E 0) O Z (Xe (v := pt E 0) Z Z ?_))))))))))))
 refine Xc (Xt ?_)
 have hkk : Blk af E 149 #[vi (iAt ns 0), vi (iAt ns 1), vi (iAt ns 2), vi 0, vi (ns.length : Int)] := by rw [← Ue (k := 3) (j := 0) (by omega), ← Ue (k := 3) (j := 1) (by omega), ← Ue (k := 3) (j := 2) (by omega), show (ns.length : Int) = 3 by omega]; exact ac
 exact ⟨pt E 0, Yp Z Z, E, Z, V, hkk, G⟩
theorem Ih (q : Cl) (r : Rt) (lo B cap : Nat) (ms : List MTh) (w : World) (hB : Dw.Own w B 38 8 cap ms.length (ms.flatMap MTh.cells)) (hR : RowsO 42 3 lo w ms) (hlo : lo ≤ B) (hi : Nat) (hH : HiO hi ms) (hBlt : B < hi) (hhi : hi ≤ w.heap.size) (hF : FarOk (tabT ms) q r) (A : Nat) (hA : Blk w A 57 #[.slice (pa B) ms.length cap, vi q.kind, vi q.run, vi q.a, vi q.b, vi q.n, vi r.th, vi r.ve, vb r.rd, vb r.wr, vb r.wk]) (hAhi : hi ≤ A) (hq : decide (q.kind = 6) = true) (hql : (mAt ms (r.th - 1).toNat).t.queue.length = 0) : CallsR Tryz.prog 95 #[pt A 0] w (fun v w' => ∃ ms' : List MTh, v = vi (far (tabT ms) q r).2 ∧ ms'.length = ms.length ∧ Dw.Own w' B 38 8 cap ms'.length (ms'.flatMap MTh.cells) ∧ RowsO 42 3 lo w' ms' ∧ tabT ms' = (far (tabT ms) q r).1 ∧ KeepsI lo hi [38, 42, 3] w w') := by
 refine Xx (n := 25) Tryz.func95 Z Tryz.ntmps95 Z ?_
 have aw : KeepsI lo hi [38, 42, 3] w w := KeepsI.refl w
 have hlow : lo ≤ w.heap.size := by omega
 have hT := hF.tab
 have hco := Yq hF.call
 have hkp := (Y3 hF.run).1
 have h4 := Qp hT hF.run
 have hth := hF.th
 rw [Qd] at hth
 have hml := Jb hT
 have hkd := Q0 hF.kind hco.1
 rw [← Qw] at hkd
 have hrow := Ju hT (i := (r.th - 1).toNat) (by omega)
 have hln := TabLen.ok hT _ (List.mem_of_getElem? (xg ms (r.th - 1).toNat))
 have hcp := hF.copy
 have hve := Uu hrow
 have hqk := of_decide_eq_true hq
 refine Xa (Xe (v := vi 0) Z Z (Xc (Xa (Xb (v := pt A 0) Z Z (Xl Vr (Xg Z Xk) Z (Kp q r B cap _ _ hB (by first | omega | (simp only [List.length_set, Yd]; omega)) A hA (by first | omega | (simp only [List.length_set, Yd]; omega))) ?_)))))
 rintro _ az ⟨rfl, G⟩
 have ah := KeepsI.low aw G
 refine Xe (v := pt B ((r.th - 1).toNat * 8)) Z Z (Xc (Xa (Xb (v := pt B ((r.th - 1).toNat * 8)) Z Z (Xv Z Z (Xd (o' := (r.th - 1).toNat * 8 + 6) Qt Z Z Z ?_)))))
 have aj := (hB.grown0 G)
 refine Xh (v := .slice (mAt ms (r.th - 1).toNat).qa (mAt ms (r.th - 1).toNat).t.queue.length (mAt ms (r.th - 1).toNat).qc) Js Z ((Own.range Yo aj (xg ms (r.th - 1).toNat)) 6 _ Z) Z ?_
 have af := (RowsO.low hR G)
 have al := (hA.grown0 G)
 refine Xl W5 (Xg Z Xk) Z (Ub _ (mAt ms (r.th - 1).toNat).t.queue _ _ (RowO.th (RowsO.at af (lq (r.th - 1).toNat ms.length))).2.1 (by omega)) ?_
 rintro _ a8 ⟨V, rfl, O, am, J⟩
 rw [show ((mAt ms (r.th - 1).toNat).t.queue.length : Int) = 0 by omega] at am
 have av := nt ah.size O
 have aq := nl (aj).lt O
 have ap := nl (al).lt O
 refine Xe (v := pt V 0) Z Z (Xc (Xq (Xa (Xb (v := pt V 0) Z Z (Xb (v := pt A 0) Z Z (Xv Z Z (Xd (o' := 1) Ks Z Z Z (Xd (o' := 5) Jk Z Z Z (Xh (v := vi q.n) X1 Z ((al.grown0 J).cell Z) Z (Xl Gv (Xg Z (Xg Z Xk)) Z (C5 q.n (iAt (mAt ms (r.th - 1).toNat).t.queue 0) (iAt (mAt ms (r.th - 1).toNat).t.queue 1) (iAt (mAt ms (r.th - 1).toNat).t.queue 2) V _ am) ?_))))))))))
 rintro _ a9 ⟨rfl, ar, ac⟩
 have ai := KeepsI.new (KeepsI.low ah J) ac (by omega)
 refine Yl (b' := false) Z Z Z (Xc (Qc Z Z (Xw (Xu (Xa (Xb (v := pt B ((r.th - 1).toNat * 8)) Z Z (Xb (v := pt V 0) Z Z (Xl Hj (Xg Z Xk) Z (Em q.n (iAt (mAt ms (r.th - 1).toNat).t.queue 1) (iAt (mAt ms (r.th - 1).toNat).t.queue 2) V _ ar) ?_))))))))
 rintro _ ba ⟨ab, E, rfl, an, ad⟩
 refine Xv Z Z (Xd (o' := (r.th - 1).toNat * 8 + 6) Qt Z Z Z ?_)
 have ag := (((aj.grown0 J).gn ac).grown0 ad)
 refine Jj (g := MTh.cells) (j := 6) (z := (mAt ms (r.th - 1).toNat)) (z' := (⟨⟨(mAt ms (r.th - 1).toNat).t.kind, (mAt ms (r.th - 1).toNat).t.lab, (mAt ms (r.th - 1).toNat).t.ve, (mAt ms (r.th - 1).toNat).t.num, (mAt ms (r.th - 1).toNat).t.slots, ([q.n] : List Int), (mAt ms (r.th - 1).toNat).t.to⟩, (mAt ms (r.th - 1).toNat).sa, (mAt ms (r.th - 1).toNat).sc, ab, E⟩ : MTh)) (v := .slice ab ([q.n] : List Int).length E) Js Z Z Z Yo ag (xg ms (r.th - 1).toNat) (by omega) Z Z ?_
 intro au ao ae
 have ak : RowsO 42 3 lo au (ms.set (r.th - 1).toNat (⟨⟨(mAt ms (r.th - 1).toNat).t.kind, (mAt ms (r.th - 1).toNat).t.lab, (mAt ms (r.th - 1).toNat).t.ve, (mAt ms (r.th - 1).toNat).t.num, (mAt ms (r.th - 1).toNat).t.slots, ([q.n] : List Int), (mAt ms (r.th - 1).toNat).t.to⟩, (mAt ms (r.th - 1).toNat).sa, (mAt ms (r.th - 1).toNat).sc, ab, E⟩ : MTh)) := RowsO.setq (RowsO.own (RowsO.low (RowsO.ge (RowsO.low af J) ac hH (by omega)) ad) ae ag (by decide) (by decide)) (lq (r.th - 1).toNat ms.length) (OwnN.mono (OwnN.typ (OwnN.mono an ai.size) ae ag (by decide)) hlow) ⟨rfl, rfl, rfl⟩
 refine Xc (Xa (Xe (v := vi 0) Z Z (Xc (Xt ?_))))
 have hf : far (tabT ms) q r = (tabT (ms.set (r.th - 1).toNat (⟨⟨(mAt ms (r.th - 1).toNat).t.kind, (mAt ms (r.th - 1).toNat).t.lab, (mAt ms (r.th - 1).toNat).t.ve, (mAt ms (r.th - 1).toNat).t.num, (mAt ms (r.th - 1).toNat).t.slots, ([q.n] : List Int), (mAt ms (r.th - 1).toNat).t.to⟩, (mAt ms (r.th - 1).toNat).sa, (mAt ms (r.th - 1).toNat).sc, ab, E⟩ : MTh)), 0) := Tz hq (by omega) (congrArg (fun z => ({ (mAt ms (r.th - 1).toNat).t with queue := z } : Th)) (q_0 hql _))
 exact ⟨vi 0, Yp Z Z, ms.set (r.th - 1).toNat (⟨⟨(mAt ms (r.th - 1).toNat).t.kind, (mAt ms (r.th - 1).toNat).t.lab, (mAt ms (r.th - 1).toNat).t.ve, (mAt ms (r.th - 1).toNat).t.num, (mAt ms (r.th - 1).toNat).t.slots, ([q.n] : List Int), (mAt ms (r.th - 1).toNat).t.to⟩, (mAt ms (r.th - 1).toNat).sa, (mAt ms (r.th - 1).toNat).sc, ab, E⟩ : MTh), by rw [hf], by first | rfl | exact Yd | (simp only [List.length_set, Yd]), ao, ak, by rw [hf], (KeepsI.own (KeepsI.low ai ad) ae ag (by decide) (by omega) (by omega))⟩
theorem Ii (q : Cl) (r : Rt) (lo B cap : Nat) (ms : List MTh) (w : World) (hB : Dw.Own w B 38 8 cap ms.length (ms.flatMap MTh.cells)) (hR : RowsO 42 3 lo w ms) (hlo : lo ≤ B) (hi : Nat) (hH : HiO hi ms) (hBlt : B < hi) (hhi : hi ≤ w.heap.size) (hF : FarOk (tabT ms) q r) (A : Nat) (hA : Blk w A 57 #[.slice (pa B) ms.length cap, vi q.kind, vi q.run, vi q.a, vi q.b, vi q.n, vi r.th, vi r.ve, vb r.rd, vb r.wr, vb r.wk]) (hAhi : hi ≤ A) (hq : decide (q.kind = 6) = true) (hql : (mAt ms (r.th - 1).toNat).t.queue.length = 1) : CallsR Tryz.prog 95 #[pt A 0] w (fun v w' => ∃ ms' : List MTh, v = vi (far (tabT ms) q r).2 ∧ ms'.length = ms.length ∧ Dw.Own w' B 38 8 cap ms'.length (ms'.flatMap MTh.cells) ∧ RowsO 42 3 lo w' ms' ∧ tabT ms' = (far (tabT ms) q r).1 ∧ KeepsI lo hi [38, 42, 3] w w') := by
 refine Xx (n := 25) Tryz.func95 Z Tryz.ntmps95 Z ?_
 have aw : KeepsI lo hi [38, 42, 3] w w := KeepsI.refl w
 have hlow : lo ≤ w.heap.size := by omega
 have hT := hF.tab
 have hco := Yq hF.call
 have hkp := (Y3 hF.run).1
 have h4 := Qp hT hF.run
 have hth := hF.th
 rw [Qd] at hth
 have hml := Jb hT
 have hkd := Q0 hF.kind hco.1
 rw [← Qw] at hkd
 have hrow := Ju hT (i := (r.th - 1).toNat) (by omega)
 have hln := TabLen.ok hT _ (List.mem_of_getElem? (xg ms (r.th - 1).toNat))
 have hcp := hF.copy
 have hve := Uu hrow
 have hqk := of_decide_eq_true hq
 refine Xa (Xe (v := vi 0) Z Z (Xc (Xa (Xb (v := pt A 0) Z Z (Xl Vr (Xg Z Xk) Z (Kp q r B cap _ _ hB (by first | omega | (simp only [List.length_set, Yd]; omega)) A hA (by first | omega | (simp only [List.length_set, Yd]; omega))) ?_)))))
 rintro _ az ⟨rfl, G⟩
 have ah := KeepsI.low aw G
 refine Xe (v := pt B ((r.th - 1).toNat * 8)) Z Z (Xc (Xa (Xb (v := pt B ((r.th - 1).toNat * 8)) Z Z (Xv Z Z (Xd (o' := (r.th - 1).toNat * 8 + 6) Qt Z Z Z ?_)))))
 have aj := (hB.grown0 G)
 refine Xh (v := .slice (mAt ms (r.th - 1).toNat).qa (mAt ms (r.th - 1).toNat).t.queue.length (mAt ms (r.th - 1).toNat).qc) Js Z ((Own.range Yo aj (xg ms (r.th - 1).toNat)) 6 _ Z) Z ?_
 have af := (RowsO.low hR G)
 have al := (hA.grown0 G)
 refine Xl W5 (Xg Z Xk) Z (Ub _ (mAt ms (r.th - 1).toNat).t.queue _ _ (RowO.th (RowsO.at af (lq (r.th - 1).toNat ms.length))).2.1 (by omega)) ?_
 rintro _ a8 ⟨V, rfl, O, am, J⟩
 rw [show ((mAt ms (r.th - 1).toNat).t.queue.length : Int) = 1 by omega] at am
 have av := nt ah.size O
 have aq := nl (aj).lt O
 have ap := nl (al).lt O
 refine Xe (v := pt V 0) Z Z (Xc (Xq (Xa (Xb (v := pt V 0) Z Z (Xb (v := pt A 0) Z Z (Xv Z Z (Xd (o' := 1) Ks Z Z Z (Xd (o' := 5) Jk Z Z Z (Xh (v := vi q.n) X1 Z ((al.grown0 J).cell Z) Z (Xl Gv (Xg Z (Xg Z Xk)) Z (C6 q.n (iAt (mAt ms (r.th - 1).toNat).t.queue 0) (iAt (mAt ms (r.th - 1).toNat).t.queue 1) (iAt (mAt ms (r.th - 1).toNat).t.queue 2) V _ am) ?_))))))))))
 rintro _ a9 ⟨rfl, ar, ac⟩
 have ai := KeepsI.new (KeepsI.low ah J) ac (by omega)
 refine Yl (b' := false) Z Z Z (Xc (Qc Z Z (Xw (Xu (Xa (Xb (v := pt B ((r.th - 1).toNat * 8)) Z Z (Xb (v := pt V 0) Z Z (Xl Hj (Xg Z Xk) Z (En (iAt (mAt ms (r.th - 1).toNat).t.queue 0) q.n (iAt (mAt ms (r.th - 1).toNat).t.queue 2) V _ ar) ?_))))))))
 rintro _ ba ⟨ab, E, rfl, an, ad⟩
 refine Xv Z Z (Xd (o' := (r.th - 1).toNat * 8 + 6) Qt Z Z Z ?_)
 have ag := (((aj.grown0 J).gn ac).grown0 ad)
 refine Jj (g := MTh.cells) (j := 6) (z := (mAt ms (r.th - 1).toNat)) (z' := (⟨⟨(mAt ms (r.th - 1).toNat).t.kind, (mAt ms (r.th - 1).toNat).t.lab, (mAt ms (r.th - 1).toNat).t.ve, (mAt ms (r.th - 1).toNat).t.num, (mAt ms (r.th - 1).toNat).t.slots, ([iAt (mAt ms (r.th - 1).toNat).t.queue 0, q.n] : List Int), (mAt ms (r.th - 1).toNat).t.to⟩, (mAt ms (r.th - 1).toNat).sa, (mAt ms (r.th - 1).toNat).sc, ab, E⟩ : MTh)) (v := .slice ab ([iAt (mAt ms (r.th - 1).toNat).t.queue 0, q.n] : List Int).length E) Js Z Z Z Yo ag (xg ms (r.th - 1).toNat) (by omega) Z Z ?_
 intro au ao ae
 have ak : RowsO 42 3 lo au (ms.set (r.th - 1).toNat (⟨⟨(mAt ms (r.th - 1).toNat).t.kind, (mAt ms (r.th - 1).toNat).t.lab, (mAt ms (r.th - 1).toNat).t.ve, (mAt ms (r.th - 1).toNat).t.num, (mAt ms (r.th - 1).toNat).t.slots, ([iAt (mAt ms (r.th - 1).toNat).t.queue 0, q.n] : List Int), (mAt ms (r.th - 1).toNat).t.to⟩, (mAt ms (r.th - 1).toNat).sa, (mAt ms (r.th - 1).toNat).sc, ab, E⟩ : MTh)) := RowsO.setq (RowsO.own (RowsO.low (RowsO.ge (RowsO.low af J) ac hH (by omega)) ad) ae ag (by decide) (by decide)) (lq (r.th - 1).toNat ms.length) (OwnN.mono (OwnN.typ (OwnN.mono an ai.size) ae ag (by decide)) hlow) ⟨rfl, rfl, rfl⟩
 refine Xc (Xa (Xe (v := vi 0) Z Z (Xc (Xt ?_))))
 have hf : far (tabT ms) q r = (tabT (ms.set (r.th - 1).toNat (⟨⟨(mAt ms (r.th - 1).toNat).t.kind, (mAt ms (r.th - 1).toNat).t.lab, (mAt ms (r.th - 1).toNat).t.ve, (mAt ms (r.th - 1).toNat).t.num, (mAt ms (r.th - 1).toNat).t.slots, ([iAt (mAt ms (r.th - 1).toNat).t.queue 0, q.n] : List Int), (mAt ms (r.th - 1).toNat).t.to⟩, (mAt ms (r.th - 1).toNat).sa, (mAt ms (r.th - 1).toNat).sc, ab, E⟩ : MTh)), 0) := Tz hq (by omega) (congrArg (fun z => ({ (mAt ms (r.th - 1).toNat).t with queue := z } : Th)) (q_1 hql _))
 exact ⟨vi 0, Yp Z Z, ms.set (r.th - 1).toNat (⟨⟨(mAt ms (r.th - 1).toNat).t.kind, (mAt ms (r.th - 1).toNat).t.lab, (mAt ms (r.th - 1).toNat).t.ve, (mAt ms (r.th - 1).toNat).t.num, (mAt ms (r.th - 1).toNat).t.slots, ([iAt (mAt ms (r.th - 1).toNat).t.queue 0, q.n] : List Int), (mAt ms (r.th - 1).toNat).t.to⟩, (mAt ms (r.th - 1).toNat).sa, (mAt ms (r.th - 1).toNat).sc, ab, E⟩ : MTh), by rw [hf], by first | rfl | exact Yd | (simp only [List.length_set, Yd]), ao, ak, by rw [hf], (KeepsI.own (KeepsI.low ai ad) ae ag (by decide) (by omega) (by omega))⟩
theorem Ij (q : Cl) (r : Rt) (lo B cap : Nat) (ms : List MTh) (w : World) (hB : Dw.Own w B 38 8 cap ms.length (ms.flatMap MTh.cells)) (hR : RowsO 42 3 lo w ms) (hlo : lo ≤ B) (hi : Nat) (hH : HiO hi ms) (hBlt : B < hi) (hhi : hi ≤ w.heap.size) (hF : FarOk (tabT ms) q r) (A : Nat) (hA : Blk w A 57 #[.slice (pa B) ms.length cap, vi q.kind, vi q.run, vi q.a, vi q.b, vi q.n, vi r.th, vi r.ve, vb r.rd, vb r.wr, vb r.wk]) (hAhi : hi ≤ A) (hq : decide (q.kind = 6) = true) (hql : (mAt ms (r.th - 1).toNat).t.queue.length = 2) : CallsR Tryz.prog 95 #[pt A 0] w (fun v w' => ∃ ms' : List MTh, v = vi (far (tabT ms) q r).2 ∧ ms'.length = ms.length ∧ Dw.Own w' B 38 8 cap ms'.length (ms'.flatMap MTh.cells) ∧ RowsO 42 3 lo w' ms' ∧ tabT ms' = (far (tabT ms) q r).1 ∧ KeepsI lo hi [38, 42, 3] w w') := by
 refine Xx (n := 25) Tryz.func95 Z Tryz.ntmps95 Z ?_
 have aw : KeepsI lo hi [38, 42, 3] w w := KeepsI.refl w
 have hlow : lo ≤ w.heap.size := by omega
 have hT := hF.tab
 have hco := Yq hF.call
 have hkp := (Y3 hF.run).1
 have h4 := Qp hT hF.run
 have hth := hF.th
 rw [Qd] at hth
 have hml := Jb hT
 have hkd := Q0 hF.kind hco.1
 rw [← Qw] at hkd
 have hrow := Ju hT (i := (r.th - 1).toNat) (by omega)
 have hln := TabLen.ok hT _ (List.mem_of_getElem? (xg ms (r.th - 1).toNat))
 have hcp := hF.copy
 have hve := Uu hrow
 have hqk := of_decide_eq_true hq
 refine Xa (Xe (v := vi 0) Z Z (Xc (Xa (Xb (v := pt A 0) Z Z (Xl Vr (Xg Z Xk) Z (Kp q r B cap _ _ hB (by first | omega | (simp only [List.length_set, Yd]; omega)) A hA (by first | omega | (simp only [List.length_set, Yd]; omega))) ?_)))))
 rintro _ az ⟨rfl, G⟩
 have ah := KeepsI.low aw G
 refine Xe (v := pt B ((r.th - 1).toNat * 8)) Z Z (Xc (Xa (Xb (v := pt B ((r.th - 1).toNat * 8)) Z Z (Xv Z Z (Xd (o' := (r.th - 1).toNat * 8 + 6) Qt Z Z Z ?_)))))
 have aj := (hB.grown0 G)
 refine Xh (v := .slice (mAt ms (r.th - 1).toNat).qa (mAt ms (r.th - 1).toNat).t.queue.length (mAt ms (r.th - 1).toNat).qc) Js Z ((Own.range Yo aj (xg ms (r.th - 1).toNat)) 6 _ Z) Z ?_
 have af := (RowsO.low hR G)
 have al := (hA.grown0 G)
 refine Xl W5 (Xg Z Xk) Z (Ub _ (mAt ms (r.th - 1).toNat).t.queue _ _ (RowO.th (RowsO.at af (lq (r.th - 1).toNat ms.length))).2.1 (by omega)) ?_
 rintro _ a8 ⟨V, rfl, O, am, J⟩
 rw [show ((mAt ms (r.th - 1).toNat).t.queue.length : Int) = 2 by omega] at am
 have av := nt ah.size O
 have aq := nl (aj).lt O
 have ap := nl (al).lt O
 refine Xe (v := pt V 0) Z Z (Xc (Xq (Xa (Xb (v := pt V 0) Z Z (Xb (v := pt A 0) Z Z (Xv Z Z (Xd (o' := 1) Ks Z Z Z (Xd (o' := 5) Jk Z Z Z (Xh (v := vi q.n) X1 Z ((al.grown0 J).cell Z) Z (Xl Gv (Xg Z (Xg Z Xk)) Z (C7 q.n (iAt (mAt ms (r.th - 1).toNat).t.queue 0) (iAt (mAt ms (r.th - 1).toNat).t.queue 1) (iAt (mAt ms (r.th - 1).toNat).t.queue 2) V _ am) ?_))))))))))
 rintro _ a9 ⟨rfl, ar, ac⟩
 have ai := KeepsI.new (KeepsI.low ah J) ac (by omega)
 refine Yl (b' := false) Z Z Z (Xc (Qc Z Z (Xw (Xu (Xa (Xb (v := pt B ((r.th - 1).toNat * 8)) Z Z (Xb (v := pt V 0) Z Z (Xl Hj (Xg Z Xk) Z (Eo (iAt (mAt ms (r.th - 1).toNat).t.queue 0) (iAt (mAt ms (r.th - 1).toNat).t.queue 1) q.n V _ ar) ?_))))))))
 rintro _ ba ⟨ab, E, rfl, an, ad⟩
 refine Xv Z Z (Xd (o' := (r.th - 1).toNat * 8 + 6) Qt Z Z Z ?_)
 have ag := (((aj.grown0 J).gn ac).grown0 ad)
 refine Jj (g := MTh.cells) (j := 6) (z := (mAt ms (r.th - 1).toNat)) (z' := (⟨⟨(mAt ms (r.th - 1).toNat).t.kind, (mAt ms (r.th - 1).toNat).t.lab, (mAt ms (r.th - 1).toNat).t.ve, (mAt ms (r.th - 1).toNat).t.num, (mAt ms (r.th - 1).toNat).t.slots, ([iAt (mAt ms (r.th - 1).toNat).t.queue 0, iAt (mAt ms (r.th - 1).toNat).t.queue 1, q.n] : List Int), (mAt ms (r.th - 1).toNat).t.to⟩, (mAt ms (r.th - 1).toNat).sa, (mAt ms (r.th - 1).toNat).sc, ab, E⟩ : MTh)) (v := .slice ab ([iAt (mAt ms (r.th - 1).toNat).t.queue 0, iAt (mAt ms (r.th - 1).toNat).t.queue 1, q.n] : List Int).length E) Js Z Z Z Yo ag (xg ms (r.th - 1).toNat) (by omega) Z Z ?_
 intro au ao ae
 have ak : RowsO 42 3 lo au (ms.set (r.th - 1).toNat (⟨⟨(mAt ms (r.th - 1).toNat).t.kind, (mAt ms (r.th - 1).toNat).t.lab, (mAt ms (r.th - 1).toNat).t.ve, (mAt ms (r.th - 1).toNat).t.num, (mAt ms (r.th - 1).toNat).t.slots, ([iAt (mAt ms (r.th - 1).toNat).t.queue 0, iAt (mAt ms (r.th - 1).toNat).t.queue 1, q.n] : List Int), (mAt ms (r.th - 1).toNat).t.to⟩, (mAt ms (r.th - 1).toNat).sa, (mAt ms (r.th - 1).toNat).sc, ab, E⟩ : MTh)) := RowsO.setq (RowsO.own (RowsO.low (RowsO.ge (RowsO.low af J) ac hH (by omega)) ad) ae ag (by decide) (by decide)) (lq (r.th - 1).toNat ms.length) (OwnN.mono (OwnN.typ (OwnN.mono an ai.size) ae ag (by decide)) hlow) ⟨rfl, rfl, rfl⟩
 refine Xc (Xa (Xe (v := vi 0) Z Z (Xc (Xt ?_))))
 have hf : far (tabT ms) q r = (tabT (ms.set (r.th - 1).toNat (⟨⟨(mAt ms (r.th - 1).toNat).t.kind, (mAt ms (r.th - 1).toNat).t.lab, (mAt ms (r.th - 1).toNat).t.ve, (mAt ms (r.th - 1).toNat).t.num, (mAt ms (r.th - 1).toNat).t.slots, ([iAt (mAt ms (r.th - 1).toNat).t.queue 0, iAt (mAt ms (r.th - 1).toNat).t.queue 1, q.n] : List Int), (mAt ms (r.th - 1).toNat).t.to⟩, (mAt ms (r.th - 1).toNat).sa, (mAt ms (r.th - 1).toNat).sc, ab, E⟩ : MTh)), 0) := Tz hq (by omega) (congrArg (fun z => ({ (mAt ms (r.th - 1).toNat).t with queue := z } : Th)) (q_2 hql _))
 exact ⟨vi 0, Yp Z Z, ms.set (r.th - 1).toNat (⟨⟨(mAt ms (r.th - 1).toNat).t.kind, (mAt ms (r.th - 1).toNat).t.lab, (mAt ms (r.th - 1).toNat).t.ve, (mAt ms (r.th - 1).toNat).t.num, (mAt ms (r.th - 1).toNat).t.slots, ([iAt (mAt ms (r.th - 1).toNat).t.queue 0, iAt (mAt ms (r.th - 1).toNat).t.queue 1, q.n] : List Int), (mAt ms (r.th - 1).toNat).t.to⟩, (mAt ms (r.th - 1).toNat).sa, (mAt ms (r.th - 1).toNat).sc, ab, E⟩ : MTh), by rw [hf], by first | rfl | exact Yd | (simp only [List.length_set, Yd]), ao, ak, by rw [hf], (KeepsI.own (KeepsI.low ai ad) ae ag (by decide) (by omega) (by omega))⟩
theorem Ik (q : Cl) (r : Rt) (lo B cap : Nat) (ms : List MTh) (w : World) (hB : Dw.Own w B 38 8 cap ms.length (ms.flatMap MTh.cells)) (hR : RowsO 42 3 lo w ms) (hlo : lo ≤ B) (hi : Nat) (hH : HiO hi ms) (hBlt : B < hi) (hhi : hi ≤ w.heap.size) (hF : FarOk (tabT ms) q r) (A : Nat) (hA : Blk w A 57 #[.slice (pa B) ms.length cap, vi q.kind, vi q.run, vi q.a, vi q.b, vi q.n, vi r.th, vi r.ve, vb r.rd, vb r.wr, vb r.wk]) (hAhi : hi ≤ A) (hq : decide (q.kind = 6) = true) (hql : (mAt ms (r.th - 1).toNat).t.queue.length = 3) : CallsR Tryz.prog 95 #[pt A 0] w (fun v w' => ∃ ms' : List MTh, v = vi (far (tabT ms) q r).2 ∧ ms'.length = ms.length ∧ Dw.Own w' B 38 8 cap ms'.length (ms'.flatMap MTh.cells) ∧ RowsO 42 3 lo w' ms' ∧ tabT ms' = (far (tabT ms) q r).1 ∧ KeepsI lo hi [38, 42, 3] w w') := by
 refine Xx (n := 25) Tryz.func95 Z Tryz.ntmps95 Z ?_
 have aj : KeepsI lo hi [38, 42, 3] w w := KeepsI.refl w
 have hlow : lo ≤ w.heap.size := by omega
 have hT := hF.tab
 have hco := Yq hF.call
 have hkp := (Y3 hF.run).1
 have h4 := Qp hT hF.run
 have hth := hF.th
 rw [Qd] at hth
 have hml := Jb hT
 have hkd := Q0 hF.kind hco.1
 rw [← Qw] at hkd
 have hrow := Ju hT (i := (r.th - 1).toNat) (by omega)
 have hln := TabLen.ok hT _ (List.mem_of_getElem? (xg ms (r.th - 1).toNat))
 have hcp := hF.copy
 have hve := Uu hrow
 have hqk := of_decide_eq_true hq
 refine Xa (Xe (v := vi 0) Z Z (Xc (Xa (Xb (v := pt A 0) Z Z (Xl Vr (Xg Z Xk) Z (Kp q r B cap _ _ hB (by first | omega | (simp only [List.length_set, Yd]; omega)) A hA (by first | omega | (simp only [List.length_set, Yd]; omega))) ?_)))))
 rintro _ al ⟨rfl, E⟩
 have ac := KeepsI.low aj E
 refine Xe (v := pt B ((r.th - 1).toNat * 8)) Z Z (Xc (Xa (Xb (v := pt B ((r.th - 1).toNat * 8)) Z Z (Xv Z Z (Xd (o' := (r.th - 1).toNat * 8 + 6) Qt Z Z Z ?_)))))
 have ad := (hB.grown0 E)
 refine Xh (v := .slice (mAt ms (r.th - 1).toNat).qa (mAt ms (r.th - 1).toNat).t.queue.length (mAt ms (r.th - 1).toNat).qc) Js Z ((Own.range Yo ad (xg ms (r.th - 1).toNat)) 6 _ Z) Z ?_
 have V := (RowsO.low hR E)
 have ae := (hA.grown0 E)
 refine Xl W5 (Xg Z Xk) Z (Ub _ (mAt ms (r.th - 1).toNat).t.queue _ _ (RowO.th (RowsO.at V (lq (r.th - 1).toNat ms.length))).2.1 (by omega)) ?_
 rintro _ am ⟨ab, rfl, J, af, G⟩
 rw [show ((mAt ms (r.th - 1).toNat).t.queue.length : Int) = 3 by omega] at af
 have ai := nt ac.size J
 have ah := nl (ad).lt J
 have ag := nl (ae).lt J
 refine Xe (v := pt ab 0) Z Z (Xc (Xq (Xa (Xb (v := pt ab 0) Z Z (Xb (v := pt A 0) Z Z (Xv Z Z (Xd (o' := 1) Ks Z Z Z (Xd (o' := 5) Jk Z Z Z (Xh (v := vi q.n) X1 Z ((ae.grown0 G).cell Z) Z (Xl Gv (Xg Z (Xg Z Xk)) Z (Oi q.n (iAt (mAt ms (r.th - 1).toNat).t.queue 0) (iAt (mAt ms (r.th - 1).toNat).t.queue 1) (iAt (mAt ms (r.th - 1).toNat).t.queue 2) ab _ af) ?_))))))))))
 rintro _ an ⟨rfl, ak, O⟩
 refine Yl (b' := true) Z Z Z (Xc (Qg Z Z (Xa (Xe (v := vi (-4)) Z Z (Xc (Xt (Yk ?_)))))))
 have hf : far (tabT ms) q r = (tabT (ms), (-4)) := B5 hq (by omega)
 exact ⟨vi (-4), Yp Z Z, ms, by rw [hf], by first | rfl | exact Yd | (simp only [List.length_set, Yd]), ((ad.grown0 G).gn O), (RowsO.ge (RowsO.low V G) O hH (by omega)), by rw [hf], (KeepsI.new (KeepsI.low ac G) O (by omega))⟩
theorem Il (q : Cl) (r : Rt) (lo B cap : Nat) (ms : List MTh) (w : World) (hB : Dw.Own w B 38 8 cap ms.length (ms.flatMap MTh.cells)) (hR : RowsO 42 3 lo w ms) (hlo : lo ≤ B) (hi : Nat) (hH : HiO hi ms) (hBlt : B < hi) (hhi : hi ≤ w.heap.size) (hF : FarOk (tabT ms) q r) (A : Nat) (hA : Blk w A 57 #[.slice (pa B) ms.length cap, vi q.kind, vi q.run, vi q.a, vi q.b, vi q.n, vi r.th, vi r.ve, vb r.rd, vb r.wr, vb r.wk]) (hAhi : hi ≤ A) (hq : decide (q.kind = 6) = true) : CallsR Tryz.prog 95 #[pt A 0] w (fun v w' => ∃ ms' : List MTh, v = vi (far (tabT ms) q r).2 ∧ ms'.length = ms.length ∧ Dw.Own w' B 38 8 cap ms'.length (ms'.flatMap MTh.cells) ∧ RowsO 42 3 lo w' ms' ∧ tabT ms' = (far (tabT ms) q r).1 ∧ KeepsI lo hi [38, 42, 3] w w') := by
 have hrow := Ju hF.tab (i := (r.th - 1).toNat) (by have := hF.th; rw [Qd] at this; omega)
 have hkd := Q0 hF.kind (Yq hF.call).1
 rw [← Qw] at hkd
 have hqk := of_decide_eq_true hq
 have hp := (Hk hrow (by omega)).1
 rcases (show (mAt ms (r.th - 1).toNat).t.queue.length = 0 ∨ (mAt ms (r.th - 1).toNat).t.queue.length = 1 ∨ (mAt ms (r.th - 1).toNat).t.queue.length = 2 ∨ (mAt ms (r.th - 1).toNat).t.queue.length = 3 by omega) with h | h | h | h
 exact Ih q r lo B cap ms w hB hR hlo hi hH hBlt hhi hF A hA hAhi hq h
 exact Ii q r lo B cap ms w hB hR hlo hi hH hBlt hhi hF A hA hAhi hq h
 exact Ij q r lo B cap ms w hB hR hlo hi hH hBlt hhi hF A hA hAhi hq h
 exact Ik q r lo B cap ms w hB hR hlo hi hH hBlt hhi hF A hA hAhi hq h
theorem Im (q : Cl) (r : Rt) (lo B cap : Nat) (ms : List MTh) (w : World) (hB : Dw.Own w B 38 8 cap ms.length (ms.flatMap MTh.cells)) (hR : RowsO 42 3 lo w ms) (hlo : lo ≤ B) (hi : Nat) (hH : HiO hi ms) (hBlt : B < hi) (hhi : hi ≤ w.heap.size) (hF : FarOk (tabT ms) q r) (A : Nat) (hA : Blk w A 57 #[.slice (pa B) ms.length cap, vi q.kind, vi q.run, vi q.a, vi q.b, vi q.n, vi r.th, vi r.ve, vb r.rd, vb r.wr, vb r.wk]) (hAhi : hi ≤ A) (hq : decide (q.kind = 7) = true) (hql : (mAt ms (r.th - 1).toNat).t.queue.length = 0) : CallsR Tryz.prog 96 #[pt A 0] w (fun v w' => ∃ ms' : List MTh, v = vi (far (tabT ms) q r).2 ∧ ms'.length = ms.length ∧ Dw.Own w' B 38 8 cap ms'.length (ms'.flatMap MTh.cells) ∧ RowsO 42 3 lo w' ms' ∧ tabT ms' = (far (tabT ms) q r).1 ∧ KeepsI lo hi [38, 42, 3] w w') := by
 refine Xx (n := 27) Tryz.func96 Z Tryz.ntmps96 Z ?_
 have ai : KeepsI lo hi [38, 42, 3] w w := KeepsI.refl w
 have hlow : lo ≤ w.heap.size := by omega
 have hT := hF.tab
 have hco := Yq hF.call
 have hkp := (Y3 hF.run).1
 have h4 := Qp hT hF.run
 have hth := hF.th
 rw [Qd] at hth
 have hml := Jb hT
 have hkd := Q0 hF.kind hco.1
 rw [← Qw] at hkd
 have hrow := Ju hT (i := (r.th - 1).toNat) (by omega)
 have hln := TabLen.ok hT _ (List.mem_of_getElem? (xg ms (r.th - 1).toNat))
 have hcp := hF.copy
 have hve := Uu hrow
 have hqk := of_decide_eq_true hq
 refine Xa (Xe (v := vi 0) Z Z (Xc (Xa (Xb (v := pt A 0) Z Z (Xl Vr (Xg Z Xk) Z (Kp q r B cap _ _ hB (by first | omega | (simp only [List.length_set, Yd]; omega)) A hA (by first | omega | (simp only [List.length_set, Yd]; omega))) ?_)))))
 rintro _ ak ⟨rfl, E⟩
 have ac := KeepsI.low ai E
 refine Xe (v := pt B ((r.th - 1).toNat * 8)) Z Z (Xc (Xa (Xb (v := pt B ((r.th - 1).toNat * 8)) Z Z (Xv Z Z (Xd (o' := (r.th - 1).toNat * 8 + 6) Qt Z Z Z ?_)))))
 have ad := (hB.grown0 E)
 refine Xh (v := .slice (mAt ms (r.th - 1).toNat).qa (mAt ms (r.th - 1).toNat).t.queue.length (mAt ms (r.th - 1).toNat).qc) Js Z ((Own.range Yo ad (xg ms (r.th - 1).toNat)) 6 _ Z) Z ?_
 have V := (RowsO.low hR E)
 refine Xl W5 (Xg Z Xk) Z (Ub _ (mAt ms (r.th - 1).toNat).t.queue _ _ (RowO.th (RowsO.at V (lq (r.th - 1).toNat ms.length))).2.1 (by omega)) ?_
 rintro _ al ⟨ab, rfl, G, ae, J⟩
 rw [show ((mAt ms (r.th - 1).toNat).t.queue.length : Int) = 0 by omega] at ae
 have ah := nt ac.size G
 have ag := nl (ad).lt G
 have af := nl ((hA.grown0 E)).lt G
 refine Xe (v := pt ab 0) Z Z (Xc (Xa (Xb (v := pt ab 0) Z Z (Xl Ph (Xg Z Xk) Z (Xaa (iAt (mAt ms (r.th - 1).toNat).t.queue 0) (iAt (mAt ms (r.th - 1).toNat).t.queue 1) (iAt (mAt ms (r.th - 1).toNat).t.queue 2) ab _ ae) ?_))))
 rintro _ am ⟨rfl, aj, O⟩
 refine Xb (v := .tuple #[vi 0, vb false]) Z Z (X4 (v := vi 0) Z Z Z (X4 (v := vb false) Z Z Z (Xe (v := vi 0) Z Z (Xe (v := vb false) Z Z (Xc (Xq (Xa (Xb (v := vb false) Z Z (Yl (b' := true) Z Z Z (Xc (Qg Z Z (Xa ?_))))))))))))
 refine Xe (v := vi (-4)) Z Z (Xc (Xt (Yk ?_)))
 have hf : far (tabT ms) q r = (tabT (ms), (-4)) := B6 hq (by omega)
 exact ⟨vi (-4), Yp Z Z, ms, by rw [hf], by first | rfl | exact Yd | (simp only [List.length_set, Yd]), ((ad.grown0 J).gn O), (RowsO.ge (RowsO.low V J) O hH (by omega)), by rw [hf], (KeepsI.new (KeepsI.low ac J) O (by omega))⟩
theorem Ip (q : Cl) (r : Rt) (lo B cap : Nat) (ms : List MTh) (w : World) (hB : Dw.Own w B 38 8 cap ms.length (ms.flatMap MTh.cells)) (hR : RowsO 42 3 lo w ms) (hlo : lo ≤ B) (hi : Nat) (hH : HiO hi ms) (hBlt : B < hi) (hhi : hi ≤ w.heap.size) (hF : FarOk (tabT ms) q r) (A : Nat) (hA : Blk w A 57 #[.slice (pa B) ms.length cap, vi q.kind, vi q.run, vi q.a, vi q.b, vi q.n, vi r.th, vi r.ve, vb r.rd, vb r.wr, vb r.wk]) (hAhi : hi ≤ A) (hq : decide (q.kind = 7) = true) (hql : (mAt ms (r.th - 1).toNat).t.queue.length = 1) : CallsR Tryz.prog 96 #[pt A 0] w (fun v w' => ∃ ms' : List MTh, v = vi (far (tabT ms) q r).2 ∧ ms'.length = ms.length ∧ Dw.Own w' B 38 8 cap ms'.length (ms'.flatMap MTh.cells) ∧ RowsO 42 3 lo w' ms' ∧ tabT ms' = (far (tabT ms) q r).1 ∧ KeepsI lo hi [38, 42, 3] w w') := by
 refine Xx (n := 27) Tryz.func96 Z Tryz.ntmps96 Z ?_
 have av : KeepsI lo hi [38, 42, 3] w w := KeepsI.refl w
 have hlow : lo ≤ w.heap.size := by omega
 have hT := hF.tab
 have hco := Yq hF.call
 have hkp := (Y3 hF.run).1
 have h4 := Qp hT hF.run
 have hth := hF.th
 rw [Qd] at hth
 have hml := Jb hT
 have hkd := Q0 hF.kind hco.1
 rw [← Qw] at hkd
 have hrow := Ju hT (i := (r.th - 1).toNat) (by omega)
 have hln := TabLen.ok hT _ (List.mem_of_getElem? (xg ms (r.th - 1).toNat))
 have hcp := hF.copy
 have hve := Uu hrow
 have hqk := of_decide_eq_true hq
 refine Xa (Xe (v := vi 0) Z Z (Xc (Xa (Xb (v := pt A 0) Z Z (Xl Vr (Xg Z Xk) Z (Kp q r B cap _ _ hB (by first | omega | (simp only [List.length_set, Yd]; omega)) A hA (by first | omega | (simp only [List.length_set, Yd]; omega))) ?_)))))
 rintro _ aw ⟨rfl, G⟩
 have ah := KeepsI.low av G
 refine Xe (v := pt B ((r.th - 1).toNat * 8)) Z Z (Xc (Xa (Xb (v := pt B ((r.th - 1).toNat * 8)) Z Z (Xv Z Z (Xd (o' := (r.th - 1).toNat * 8 + 6) Qt Z Z Z ?_)))))
 have aj := (hB.grown0 G)
 refine Xh (v := .slice (mAt ms (r.th - 1).toNat).qa (mAt ms (r.th - 1).toNat).t.queue.length (mAt ms (r.th - 1).toNat).qc) Js Z ((Own.range Yo aj (xg ms (r.th - 1).toNat)) 6 _ Z) Z ?_
 have af := (RowsO.low hR G)
 refine Xl W5 (Xg Z Xk) Z (Ub _ (mAt ms (r.th - 1).toNat).t.queue _ _ (RowO.th (RowsO.at af (lq (r.th - 1).toNat ms.length))).2.1 (by omega)) ?_
 rintro _ az ⟨O, rfl, J, al, ab⟩
 rw [show ((mAt ms (r.th - 1).toNat).t.queue.length : Int) = 1 by omega] at al
 have au := nt ah.size J
 have ap := nl (aj).lt J
 have ao := nl ((hA.grown0 G)).lt J
 refine Xe (v := pt O 0) Z Z (Xc (Xa (Xb (v := pt O 0) Z Z (Xl Ph (Xg Z Xk) Z (Xab (iAt (mAt ms (r.th - 1).toNat).t.queue 0) (iAt (mAt ms (r.th - 1).toNat).t.queue 1) (iAt (mAt ms (r.th - 1).toNat).t.queue 2) O _ al) ?_))))
 rintro _ a8 ⟨rfl, aq, ac⟩
 have ai := KeepsI.new (KeepsI.low ah ab) ac (by omega)
 refine Xb (v := .tuple #[vi (iAt (mAt ms (r.th - 1).toNat).t.queue 0), vb true]) Z Z (X4 (v := vi (iAt (mAt ms (r.th - 1).toNat).t.queue 0)) Z Z Z (X4 (v := vb true) Z Z Z (Xe (v := vi (iAt (mAt ms (r.th - 1).toNat).t.queue 0)) Z Z (Xe (v := vb true) Z Z (Xc (Xq (Xa (Xb (v := vb true) Z Z (Yl (b' := false) Z Z Z (Xc (Qc Z Z (Xw ?_))))))))))))
 refine Xu (Xa (Xb (v := pt B ((r.th - 1).toNat * 8)) Z Z (Xb (v := pt O 0) Z Z (Xl Hj (Xg Z Xk) Z (Ep (iAt (mAt ms (r.th - 1).toNat).t.queue 0) (iAt (mAt ms (r.th - 1).toNat).t.queue 1) (iAt (mAt ms (r.th - 1).toNat).t.queue 2) O _ aq) ?_))))
 rintro _ a9 ⟨V, E, rfl, am, ad⟩
 refine Xv Z Z (Xd (o' := (r.th - 1).toNat * 8 + 6) Qt Z Z Z ?_)
 have ag := (((aj.grown0 ab).gn ac).grown0 ad)
 refine Jj (g := MTh.cells) (j := 6) (z := (mAt ms (r.th - 1).toNat)) (z' := (⟨⟨(mAt ms (r.th - 1).toNat).t.kind, (mAt ms (r.th - 1).toNat).t.lab, (mAt ms (r.th - 1).toNat).t.ve, (mAt ms (r.th - 1).toNat).t.num, (mAt ms (r.th - 1).toNat).t.slots, ([] : List Int), (mAt ms (r.th - 1).toNat).t.to⟩, (mAt ms (r.th - 1).toNat).sa, (mAt ms (r.th - 1).toNat).sc, V, E⟩ : MTh)) (v := .slice V ([] : List Int).length E) Js Z Z Z Yo ag (xg ms (r.th - 1).toNat) (by omega) Z Z ?_
 intro ar an ae
 have ak : RowsO 42 3 lo ar (ms.set (r.th - 1).toNat (⟨⟨(mAt ms (r.th - 1).toNat).t.kind, (mAt ms (r.th - 1).toNat).t.lab, (mAt ms (r.th - 1).toNat).t.ve, (mAt ms (r.th - 1).toNat).t.num, (mAt ms (r.th - 1).toNat).t.slots, ([] : List Int), (mAt ms (r.th - 1).toNat).t.to⟩, (mAt ms (r.th - 1).toNat).sa, (mAt ms (r.th - 1).toNat).sc, V, E⟩ : MTh)) := RowsO.setq (RowsO.own (RowsO.low (RowsO.ge (RowsO.low af ab) ac hH (by omega)) ad) ae ag (by decide) (by decide)) (lq (r.th - 1).toNat ms.length) (OwnN.mono (OwnN.typ (OwnN.mono am ai.size) ae ag (by decide)) hlow) ⟨rfl, rfl, rfl⟩
 refine Xc (Xa (Xb (v := vi (iAt (mAt ms (r.th - 1).toNat).t.queue 0)) Z Z (Xe (v := vi (iAt (mAt ms (r.th - 1).toNat).t.queue 0)) Z Z (Xc (Xt ?_)))))
 have hf : far (tabT ms) q r = (tabT (ms.set (r.th - 1).toNat (⟨⟨(mAt ms (r.th - 1).toNat).t.kind, (mAt ms (r.th - 1).toNat).t.lab, (mAt ms (r.th - 1).toNat).t.ve, (mAt ms (r.th - 1).toNat).t.num, (mAt ms (r.th - 1).toNat).t.slots, ([] : List Int), (mAt ms (r.th - 1).toNat).t.to⟩, (mAt ms (r.th - 1).toNat).sa, (mAt ms (r.th - 1).toNat).sc, V, E⟩ : MTh)), iAt (mAt ms (r.th - 1).toNat).t.queue 0) := T0 hq (by omega) (congrArg (fun z => ({ (mAt ms (r.th - 1).toNat).t with queue := z } : Th)) (t_1 hql))
 exact ⟨vi (iAt (mAt ms (r.th - 1).toNat).t.queue 0), Yp Z Z, ms.set (r.th - 1).toNat (⟨⟨(mAt ms (r.th - 1).toNat).t.kind, (mAt ms (r.th - 1).toNat).t.lab, (mAt ms (r.th - 1).toNat).t.ve, (mAt ms (r.th - 1).toNat).t.num, (mAt ms (r.th - 1).toNat).t.slots, ([] : List Int), (mAt ms (r.th - 1).toNat).t.to⟩, (mAt ms (r.th - 1).toNat).sa, (mAt ms (r.th - 1).toNat).sc, V, E⟩ : MTh), by rw [hf], by first | rfl | exact Yd | (simp only [List.length_set, Yd]), an, ak, by rw [hf], (KeepsI.own (KeepsI.low ai ad) ae ag (by decide) (by omega) (by omega))⟩
theorem Iq (q : Cl) (r : Rt) (lo B cap : Nat) (ms : List MTh) (w : World) (hB : Dw.Own w B 38 8 cap ms.length (ms.flatMap MTh.cells)) (hR : RowsO 42 3 lo w ms) (hlo : lo ≤ B) (hi : Nat) (hH : HiO hi ms) (hBlt : B < hi) (hhi : hi ≤ w.heap.size) (hF : FarOk (tabT ms) q r) (A : Nat) (hA : Blk w A 57 #[.slice (pa B) ms.length cap, vi q.kind, vi q.run, vi q.a, vi q.b, vi q.n, vi r.th, vi r.ve, vb r.rd, vb r.wr, vb r.wk]) (hAhi : hi ≤ A) (hq : decide (q.kind = 7) = true) (hql : (mAt ms (r.th - 1).toNat).t.queue.length = 2) : CallsR Tryz.prog 96 #[pt A 0] w (fun v w' => ∃ ms' : List MTh, v = vi (far (tabT ms) q r).2 ∧ ms'.length = ms.length ∧ Dw.Own w' B 38 8 cap ms'.length (ms'.flatMap MTh.cells) ∧ RowsO 42 3 lo w' ms' ∧ tabT ms' = (far (tabT ms) q r).1 ∧ KeepsI lo hi [38, 42, 3] w w') := by
 refine Xx (n := 27) Tryz.func96 Z Tryz.ntmps96 Z ?_
 have av : KeepsI lo hi [38, 42, 3] w w := KeepsI.refl w
 have hlow : lo ≤ w.heap.size := by omega
 have hT := hF.tab
 have hco := Yq hF.call
 have hkp := (Y3 hF.run).1
 have h4 := Qp hT hF.run
 have hth := hF.th
 rw [Qd] at hth
 have hml := Jb hT
 have hkd := Q0 hF.kind hco.1
 rw [← Qw] at hkd
 have hrow := Ju hT (i := (r.th - 1).toNat) (by omega)
 have hln := TabLen.ok hT _ (List.mem_of_getElem? (xg ms (r.th - 1).toNat))
 have hcp := hF.copy
 have hve := Uu hrow
 have hqk := of_decide_eq_true hq
 refine Xa (Xe (v := vi 0) Z Z (Xc (Xa (Xb (v := pt A 0) Z Z (Xl Vr (Xg Z Xk) Z (Kp q r B cap _ _ hB (by first | omega | (simp only [List.length_set, Yd]; omega)) A hA (by first | omega | (simp only [List.length_set, Yd]; omega))) ?_)))))
 rintro _ aw ⟨rfl, G⟩
 have ah := KeepsI.low av G
 refine Xe (v := pt B ((r.th - 1).toNat * 8)) Z Z (Xc (Xa (Xb (v := pt B ((r.th - 1).toNat * 8)) Z Z (Xv Z Z (Xd (o' := (r.th - 1).toNat * 8 + 6) Qt Z Z Z ?_)))))
 have aj := (hB.grown0 G)
 refine Xh (v := .slice (mAt ms (r.th - 1).toNat).qa (mAt ms (r.th - 1).toNat).t.queue.length (mAt ms (r.th - 1).toNat).qc) Js Z ((Own.range Yo aj (xg ms (r.th - 1).toNat)) 6 _ Z) Z ?_
 have af := (RowsO.low hR G)
 refine Xl W5 (Xg Z Xk) Z (Ub _ (mAt ms (r.th - 1).toNat).t.queue _ _ (RowO.th (RowsO.at af (lq (r.th - 1).toNat ms.length))).2.1 (by omega)) ?_
 rintro _ az ⟨O, rfl, J, al, ab⟩
 rw [show ((mAt ms (r.th - 1).toNat).t.queue.length : Int) = 2 by omega] at al
 have au := nt ah.size J
 have ap := nl (aj).lt J
 have ao := nl ((hA.grown0 G)).lt J
 refine Xe (v := pt O 0) Z Z (Xc (Xa (Xb (v := pt O 0) Z Z (Xl Ph (Xg Z Xk) Z (Xac (iAt (mAt ms (r.th - 1).toNat).t.queue 0) (iAt (mAt ms (r.th - 1).toNat).t.queue 1) (iAt (mAt ms (r.th - 1).toNat).t.queue 2) O _ al) ?_))))
 rintro _ a8 ⟨rfl, aq, ac⟩
 have ai := KeepsI.new (KeepsI.low ah ab) ac (by omega)
 refine Xb (v := .tuple #[vi (iAt (mAt ms (r.th - 1).toNat).t.queue 0), vb true]) Z Z (X4 (v := vi (iAt (mAt ms (r.th - 1).toNat).t.queue 0)) Z Z Z (X4 (v := vb true) Z Z Z (Xe (v := vi (iAt (mAt ms (r.th - 1).toNat).t.queue 0)) Z Z (Xe (v := vb true) Z Z (Xc (Xq (Xa (Xb (v := vb true) Z Z (Yl (b' := false) Z Z Z (Xc (Qc Z Z (Xw ?_))))))))))))
 refine Xu (Xa (Xb (v := pt B ((r.th - 1).toNat * 8)) Z Z (Xb (v := pt O 0) Z Z (Xl Hj (Xg Z Xk) Z (Er (iAt (mAt ms (r.th - 1).toNat).t.queue 0) (iAt (mAt ms (r.th - 1).toNat).t.queue 1) (iAt (mAt ms (r.th - 1).toNat).t.queue 2) O _ aq) ?_))))
 rintro _ a9 ⟨V, E, rfl, am, ad⟩
 refine Xv Z Z (Xd (o' := (r.th - 1).toNat * 8 + 6) Qt Z Z Z ?_)
 have ag := (((aj.grown0 ab).gn ac).grown0 ad)
 refine Jj (g := MTh.cells) (j := 6) (z := (mAt ms (r.th - 1).toNat)) (z' := (⟨⟨(mAt ms (r.th - 1).toNat).t.kind, (mAt ms (r.th - 1).toNat).t.lab, (mAt ms (r.th - 1).toNat).t.ve, (mAt ms (r.th - 1).toNat).t.num, (mAt ms (r.th - 1).toNat).t.slots, ([iAt (mAt ms (r.th - 1).toNat).t.queue 1] : List Int), (mAt ms (r.th - 1).toNat).t.to⟩, (mAt ms (r.th - 1).toNat).sa, (mAt ms (r.th - 1).toNat).sc, V, E⟩ : MTh)) (v := .slice V ([iAt (mAt ms (r.th - 1).toNat).t.queue 1] : List Int).length E) Js Z Z Z Yo ag (xg ms (r.th - 1).toNat) (by omega) Z Z ?_
 intro ar an ae
 have ak : RowsO 42 3 lo ar (ms.set (r.th - 1).toNat (⟨⟨(mAt ms (r.th - 1).toNat).t.kind, (mAt ms (r.th - 1).toNat).t.lab, (mAt ms (r.th - 1).toNat).t.ve, (mAt ms (r.th - 1).toNat).t.num, (mAt ms (r.th - 1).toNat).t.slots, ([iAt (mAt ms (r.th - 1).toNat).t.queue 1] : List Int), (mAt ms (r.th - 1).toNat).t.to⟩, (mAt ms (r.th - 1).toNat).sa, (mAt ms (r.th - 1).toNat).sc, V, E⟩ : MTh)) := RowsO.setq (RowsO.own (RowsO.low (RowsO.ge (RowsO.low af ab) ac hH (by omega)) ad) ae ag (by decide) (by decide)) (lq (r.th - 1).toNat ms.length) (OwnN.mono (OwnN.typ (OwnN.mono am ai.size) ae ag (by decide)) hlow) ⟨rfl, rfl, rfl⟩
 refine Xc (Xa (Xb (v := vi (iAt (mAt ms (r.th - 1).toNat).t.queue 0)) Z Z (Xe (v := vi (iAt (mAt ms (r.th - 1).toNat).t.queue 0)) Z Z (Xc (Xt ?_)))))
 have hf : far (tabT ms) q r = (tabT (ms.set (r.th - 1).toNat (⟨⟨(mAt ms (r.th - 1).toNat).t.kind, (mAt ms (r.th - 1).toNat).t.lab, (mAt ms (r.th - 1).toNat).t.ve, (mAt ms (r.th - 1).toNat).t.num, (mAt ms (r.th - 1).toNat).t.slots, ([iAt (mAt ms (r.th - 1).toNat).t.queue 1] : List Int), (mAt ms (r.th - 1).toNat).t.to⟩, (mAt ms (r.th - 1).toNat).sa, (mAt ms (r.th - 1).toNat).sc, V, E⟩ : MTh)), iAt (mAt ms (r.th - 1).toNat).t.queue 0) := T0 hq (by omega) (congrArg (fun z => ({ (mAt ms (r.th - 1).toNat).t with queue := z } : Th)) (t_2 hql))
 exact ⟨vi (iAt (mAt ms (r.th - 1).toNat).t.queue 0), Yp Z Z, ms.set (r.th - 1).toNat (⟨⟨(mAt ms (r.th - 1).toNat).t.kind, (mAt ms (r.th - 1).toNat).t.lab, (mAt ms (r.th - 1).toNat).t.ve, (mAt ms (r.th - 1).toNat).t.num, (mAt ms (r.th - 1).toNat).t.slots, ([iAt (mAt ms (r.th - 1).toNat).t.queue 1] : List Int), (mAt ms (r.th - 1).toNat).t.to⟩, (mAt ms (r.th - 1).toNat).sa, (mAt ms (r.th - 1).toNat).sc, V, E⟩ : MTh), by rw [hf], by first | rfl | exact Yd | (simp only [List.length_set, Yd]), an, ak, by rw [hf], (KeepsI.own (KeepsI.low ai ad) ae ag (by decide) (by omega) (by omega))⟩
theorem Ir (q : Cl) (r : Rt) (lo B cap : Nat) (ms : List MTh) (w : World) (hB : Dw.Own w B 38 8 cap ms.length (ms.flatMap MTh.cells)) (hR : RowsO 42 3 lo w ms) (hlo : lo ≤ B) (hi : Nat) (hH : HiO hi ms) (hBlt : B < hi) (hhi : hi ≤ w.heap.size) (hF : FarOk (tabT ms) q r) (A : Nat) (hA : Blk w A 57 #[.slice (pa B) ms.length cap, vi q.kind, vi q.run, vi q.a, vi q.b, vi q.n, vi r.th, vi r.ve, vb r.rd, vb r.wr, vb r.wk]) (hAhi : hi ≤ A) (hq : decide (q.kind = 7) = true) (hql : (mAt ms (r.th - 1).toNat).t.queue.length = 3) : CallsR Tryz.prog 96 #[pt A 0] w (fun v w' => ∃ ms' : List MTh, v = vi (far (tabT ms) q r).2 ∧ ms'.length = ms.length ∧ Dw.Own w' B 38 8 cap ms'.length (ms'.flatMap MTh.cells) ∧ RowsO 42 3 lo w' ms' ∧ tabT ms' = (far (tabT ms) q r).1 ∧ KeepsI lo hi [38, 42, 3] w w') := by
 refine Xx (n := 27) Tryz.func96 Z Tryz.ntmps96 Z ?_
 have av : KeepsI lo hi [38, 42, 3] w w := KeepsI.refl w
 have hlow : lo ≤ w.heap.size := by omega
 have hT := hF.tab
 have hco := Yq hF.call
 have hkp := (Y3 hF.run).1
 have h4 := Qp hT hF.run
 have hth := hF.th
 rw [Qd] at hth
 have hml := Jb hT
 have hkd := Q0 hF.kind hco.1
 rw [← Qw] at hkd
 have hrow := Ju hT (i := (r.th - 1).toNat) (by omega)
 have hln := TabLen.ok hT _ (List.mem_of_getElem? (xg ms (r.th - 1).toNat))
 have hcp := hF.copy
 have hve := Uu hrow
 have hqk := of_decide_eq_true hq
 refine Xa (Xe (v := vi 0) Z Z (Xc (Xa (Xb (v := pt A 0) Z Z (Xl Vr (Xg Z Xk) Z (Kp q r B cap _ _ hB (by first | omega | (simp only [List.length_set, Yd]; omega)) A hA (by first | omega | (simp only [List.length_set, Yd]; omega))) ?_)))))
 rintro _ aw ⟨rfl, G⟩
 have ah := KeepsI.low av G
 refine Xe (v := pt B ((r.th - 1).toNat * 8)) Z Z (Xc (Xa (Xb (v := pt B ((r.th - 1).toNat * 8)) Z Z (Xv Z Z (Xd (o' := (r.th - 1).toNat * 8 + 6) Qt Z Z Z ?_)))))
 have aj := (hB.grown0 G)
 refine Xh (v := .slice (mAt ms (r.th - 1).toNat).qa (mAt ms (r.th - 1).toNat).t.queue.length (mAt ms (r.th - 1).toNat).qc) Js Z ((Own.range Yo aj (xg ms (r.th - 1).toNat)) 6 _ Z) Z ?_
 have af := (RowsO.low hR G)
 refine Xl W5 (Xg Z Xk) Z (Ub _ (mAt ms (r.th - 1).toNat).t.queue _ _ (RowO.th (RowsO.at af (lq (r.th - 1).toNat ms.length))).2.1 (by omega)) ?_
 rintro _ az ⟨O, rfl, J, al, ab⟩
 rw [show ((mAt ms (r.th - 1).toNat).t.queue.length : Int) = 3 by omega] at al
 have au := nt ah.size J
 have ap := nl (aj).lt J
 have ao := nl ((hA.grown0 G)).lt J
 refine Xe (v := pt O 0) Z Z (Xc (Xa (Xb (v := pt O 0) Z Z (Xl Ph (Xg Z Xk) Z (Xad (iAt (mAt ms (r.th - 1).toNat).t.queue 0) (iAt (mAt ms (r.th - 1).toNat).t.queue 1) (iAt (mAt ms (r.th - 1).toNat).t.queue 2) O _ al) ?_))))
 rintro _ a8 ⟨rfl, aq, ac⟩
 have ai := KeepsI.new (KeepsI.low ah ab) ac (by omega)
 refine Xb (v := .tuple #[vi (iAt (mAt ms (r.th - 1).toNat).t.queue 0), vb true]) Z Z (X4 (v := vi (iAt (mAt ms (r.th - 1).toNat).t.queue 0)) Z Z Z (X4 (v := vb true) Z Z Z (Xe (v := vi (iAt (mAt ms (r.th - 1).toNat).t.queue 0)) Z Z (Xe (v := vb true) Z Z (Xc (Xq (Xa (Xb (v := vb true) Z Z (Yl (b' := false) Z Z Z (Xc (Qc Z Z (Xw ?_))))))))))))
 refine Xu (Xa (Xb (v := pt B ((r.th - 1).toNat * 8)) Z Z (Xb (v := pt O 0) Z Z (Xl Hj (Xg Z Xk) Z (Es (iAt (mAt ms (r.th - 1).toNat).t.queue 0) (iAt (mAt ms (r.th - 1).toNat).t.queue 1) (iAt (mAt ms (r.th - 1).toNat).t.queue 2) O _ aq) ?_))))
 rintro _ a9 ⟨V, E, rfl, am, ad⟩
 refine Xv Z Z (Xd (o' := (r.th - 1).toNat * 8 + 6) Qt Z Z Z ?_)
 have ag := (((aj.grown0 ab).gn ac).grown0 ad)
 refine Jj (g := MTh.cells) (j := 6) (z := (mAt ms (r.th - 1).toNat)) (z' := (⟨⟨(mAt ms (r.th - 1).toNat).t.kind, (mAt ms (r.th - 1).toNat).t.lab, (mAt ms (r.th - 1).toNat).t.ve, (mAt ms (r.th - 1).toNat).t.num, (mAt ms (r.th - 1).toNat).t.slots, ([iAt (mAt ms (r.th - 1).toNat).t.queue 1, iAt (mAt ms (r.th - 1).toNat).t.queue 2] : List Int), (mAt ms (r.th - 1).toNat).t.to⟩, (mAt ms (r.th - 1).toNat).sa, (mAt ms (r.th - 1).toNat).sc, V, E⟩ : MTh)) (v := .slice V ([iAt (mAt ms (r.th - 1).toNat).t.queue 1, iAt (mAt ms (r.th - 1).toNat).t.queue 2] : List Int).length E) Js Z Z Z Yo ag (xg ms (r.th - 1).toNat) (by omega) Z Z ?_
 intro ar an ae
 have ak : RowsO 42 3 lo ar (ms.set (r.th - 1).toNat (⟨⟨(mAt ms (r.th - 1).toNat).t.kind, (mAt ms (r.th - 1).toNat).t.lab, (mAt ms (r.th - 1).toNat).t.ve, (mAt ms (r.th - 1).toNat).t.num, (mAt ms (r.th - 1).toNat).t.slots, ([iAt (mAt ms (r.th - 1).toNat).t.queue 1, iAt (mAt ms (r.th - 1).toNat).t.queue 2] : List Int), (mAt ms (r.th - 1).toNat).t.to⟩, (mAt ms (r.th - 1).toNat).sa, (mAt ms (r.th - 1).toNat).sc, V, E⟩ : MTh)) := RowsO.setq (RowsO.own (RowsO.low (RowsO.ge (RowsO.low af ab) ac hH (by omega)) ad) ae ag (by decide) (by decide)) (lq (r.th - 1).toNat ms.length) (OwnN.mono (OwnN.typ (OwnN.mono am ai.size) ae ag (by decide)) hlow) ⟨rfl, rfl, rfl⟩
 refine Xc (Xa (Xb (v := vi (iAt (mAt ms (r.th - 1).toNat).t.queue 0)) Z Z (Xe (v := vi (iAt (mAt ms (r.th - 1).toNat).t.queue 0)) Z Z (Xc (Xt ?_)))))
 have hf : far (tabT ms) q r = (tabT (ms.set (r.th - 1).toNat (⟨⟨(mAt ms (r.th - 1).toNat).t.kind, (mAt ms (r.th - 1).toNat).t.lab, (mAt ms (r.th - 1).toNat).t.ve, (mAt ms (r.th - 1).toNat).t.num, (mAt ms (r.th - 1).toNat).t.slots, ([iAt (mAt ms (r.th - 1).toNat).t.queue 1, iAt (mAt ms (r.th - 1).toNat).t.queue 2] : List Int), (mAt ms (r.th - 1).toNat).t.to⟩, (mAt ms (r.th - 1).toNat).sa, (mAt ms (r.th - 1).toNat).sc, V, E⟩ : MTh)), iAt (mAt ms (r.th - 1).toNat).t.queue 0) := T0 hq (by omega) (congrArg (fun z => ({ (mAt ms (r.th - 1).toNat).t with queue := z } : Th)) (t_3 hql))
 exact ⟨vi (iAt (mAt ms (r.th - 1).toNat).t.queue 0), Yp Z Z, ms.set (r.th - 1).toNat (⟨⟨(mAt ms (r.th - 1).toNat).t.kind, (mAt ms (r.th - 1).toNat).t.lab, (mAt ms (r.th - 1).toNat).t.ve, (mAt ms (r.th - 1).toNat).t.num, (mAt ms (r.th - 1).toNat).t.slots, ([iAt (mAt ms (r.th - 1).toNat).t.queue 1, iAt (mAt ms (r.th - 1).toNat).t.queue 2] : List Int), (mAt ms (r.th - 1).toNat).t.to⟩, (mAt ms (r.th - 1).toNat).sa, (mAt ms (r.th - 1).toNat).sc, V, E⟩ : MTh), by rw [hf], by first | rfl | exact Yd | (simp only [List.length_set, Yd]), an, ak, by rw [hf], (KeepsI.own (KeepsI.low ai ad) ae ag (by decide) (by omega) (by omega))⟩
theorem Is (q : Cl) (r : Rt) (lo B cap : Nat) (ms : List MTh) (w : World) (hB : Dw.Own w B 38 8 cap ms.length (ms.flatMap MTh.cells)) (hR : RowsO 42 3 lo w ms) (hlo : lo ≤ B) (hi : Nat) (hH : HiO hi ms) (hBlt : B < hi) (hhi : hi ≤ w.heap.size) (hF : FarOk (tabT ms) q r) (A : Nat) (hA : Blk w A 57 #[.slice (pa B) ms.length cap, vi q.kind, vi q.run, vi q.a, vi q.b, vi q.n, vi r.th, vi r.ve, vb r.rd, vb r.wr, vb r.wk]) (hAhi : hi ≤ A) (hq : decide (q.kind = 7) = true) : CallsR Tryz.prog 96 #[pt A 0] w (fun v w' => ∃ ms' : List MTh, v = vi (far (tabT ms) q r).2 ∧ ms'.length = ms.length ∧ Dw.Own w' B 38 8 cap ms'.length (ms'.flatMap MTh.cells) ∧ RowsO 42 3 lo w' ms' ∧ tabT ms' = (far (tabT ms) q r).1 ∧ KeepsI lo hi [38, 42, 3] w w') := by
 have hrow := Ju hF.tab (i := (r.th - 1).toNat) (by have := hF.th; rw [Qd] at this; omega)
 have hkd := Q0 hF.kind (Yq hF.call).1
 rw [← Qw] at hkd
 have hqk := of_decide_eq_true hq
 have hp := (Hk hrow (by omega)).1
 rcases (show (mAt ms (r.th - 1).toNat).t.queue.length = 0 ∨ (mAt ms (r.th - 1).toNat).t.queue.length = 1 ∨ (mAt ms (r.th - 1).toNat).t.queue.length = 2 ∨ (mAt ms (r.th - 1).toNat).t.queue.length = 3 by omega) with h | h | h | h
 exact Im q r lo B cap ms w hB hR hlo hi hH hBlt hhi hF A hA hAhi hq h
 exact Ip q r lo B cap ms w hB hR hlo hi hH hBlt hhi hF A hA hAhi hq h
 exact Iq q r lo B cap ms w hB hR hlo hi hH hBlt hhi hF A hA hAhi hq h
 exact Ir q r lo B cap ms w hB hR hlo hi hH hBlt hhi hF A hA hAhi hq h
end Go.Proofs.YtjpgffmkcmcolaaGreatDoor
end
section
namespace Go.Proofs.YtjpgffmkcmcolaaGreatDoor
open Go.RowKit Go.Dw
set_option maxRecDepth 100000
set_option maxHeartbeats 4000000
set_option linter.unusedSimpArgs false
set_option linter.unusedVariables false
theorem Zj : goFn Tryz.prog 62 = true := by kernel_rfl
theorem Zv : goFn Tryz.prog 89 = true := by kernel_rfl
theorem D5 (w : World) (xs : List Int) (a : Option Addr) (c : Nat) (hs : SlAt w a 1 (xs.map icell)) (hc : a = none → c = 0) (hn : xs.length ≤ 1048576) : CallsR Tryz.prog 89 #[.slice a xs.length c] w (fun v w' => ∃ (a' : Option Addr) (cap' : Nat), v = .slice a' xs.length cap' ∧ OwnN w.heap.size w' a' 3 1 cap' xs.length (xs.flatMap icell) ∧ w.grownBy w' none) := by
 refine Xx (n := 5) Tryz.func89 Z Tryz.ntmps89 Z ?_
 have O := World.grownBy.refl w none
 refine Xa (Xe (v := .slice none 0 0) Z Z (Xc (Xa (Xb (v := .slice a xs.length c) Z Z (Jp (g := icell) (ys := []) (zs := xs) (lo := w.heap.size) V8 Z Yv (by omega) Kf Z Z OwnN.nil (SlAt.low hs O) hc (by first | omega | exact Nat.le_of_ble_eq_true rfl | (simp only [List.length_nil, List.length_cons, List.length_append, List.length_replicate]; omega)) (by omega) O.size Z ?_)))))
 intro G E ac J V ab
 refine Xe (v := .slice G xs.length E) Z Z (Xc (Xt ?_))
 refine ⟨.slice G xs.length E, Yp Z Z, G, E, Z, J, (low0 O V)⟩
theorem Rm (w : World) (q : MTh) (hq : ThAt w q) (hn : q.t.slots.length ≤ 1048576 ∧ q.t.queue.length ≤ 1048576) : CallsR Tryz.prog 62 #[.agg #[vi q.t.kind, vi q.t.lab.s, vi q.t.lab.v, vi q.t.ve, vi q.t.num, .slice q.sa q.t.slots.length q.sc, .slice q.qa q.t.queue.length q.qc, vi q.t.to]] w (fun v w' => ∃ (sa : Option Addr) (sc : Nat) (qa : Option Addr) (qc : Nat), v = .agg #[vi q.t.kind, vi q.t.lab.s, vi q.t.lab.v, vi q.t.ve, vi q.t.num, .slice sa q.t.slots.length sc, .slice qa q.t.queue.length qc, vi q.t.to] ∧ OwnN w.heap.size w' sa 42 5 sc q.t.slots.length (q.t.slots.flatMap Rt.cells) ∧ OwnN w.heap.size w' qa 3 1 qc q.t.queue.length (q.t.queue.flatMap icell) ∧ w.grownBy w' none) := by
 refine Xx (n := 12) Tryz.func62 Z Tryz.ntmps62 Z ?_
 have ar := World.grownBy.refl w none
 refine Xa (Qf (v := .agg #[vi q.t.kind, vi q.t.lab.s, vi q.t.lab.v, vi q.t.ve, vi q.t.num, .slice q.sa q.t.slots.length q.sc, .slice q.qa q.t.queue.length q.qc, vi q.t.to]) (cs := #[vi q.t.kind, vi q.t.lab.s, vi q.t.lab.v, vi q.t.ve, vi q.t.num, .slice q.sa q.t.slots.length q.sc, .slice q.qa q.t.queue.length q.qc, vi q.t.to]) Z Z Z ?_)
 intro aw a8 ad
 have au := Yj ad ar
 have aj := low0 ar ad.grw
 refine Ye (cs := #[vi 0, vi 0, vi 0, vi 0, vi 0, .slice none 0 0, .slice none 0 0, vi 0]) Kw Z Z ?_
 intro az a9 V
 have av := Yj V aj
 have am := Xr V (ad.blk).lt
 have af := low0 aj V.grw
 refine Xc (Xa (Xd (o' := 5) Qj Z Z Z ?_))
 have an := (ad.blk.grown0 V.grw)
 refine Xh (v := .slice q.sa q.t.slots.length q.sc) Jh Z (an.cell Z) Z (Xl F6 (Xg Z Xk) Z (Tw _ q.t.slots _ _ (ThAt.low hq af).1 (ThAt.low hq af).2.2.1 (by first | omega | exact Nat.le_of_ble_eq_true rfl | (simp only [List.length_nil, List.length_cons, List.length_append, List.length_replicate]; omega))) ?_)
 rintro _ ba ⟨J, E, rfl, ap, ai⟩
 refine Xd (o' := 5) Qj Z Z Z ?_
 have ao := (an.grown0 ai)
 refine Yg (v := .slice J q.t.slots.length E) (cs' := #[vi q.t.kind, vi q.t.lab.s, vi q.t.lab.v, vi q.t.ve, vi q.t.num, .slice J q.t.slots.length E, .slice q.qa q.t.queue.length q.qc, vi q.t.to]) Jh Z Z Z ao (Nat.le_of_ble_eq_true Z) Z ?_
 intro bb ab
 have ag := low1 (low0 af ai) ab.grw (by omega)
 refine Xc (Xa (Xd (o' := 6) Qt Z Z Z (Xh (v := .slice q.qa q.t.queue.length q.qc) Js Z (ab.blk.cell Z) Z (Xl Zv (Xg Z Xk) Z (D5 _ q.t.queue _ _ (ThAt.low hq ag).2.1 (ThAt.low hq ag).2.2.2 (by first | omega | exact Nat.le_of_ble_eq_true rfl | (simp only [List.length_nil, List.length_cons, List.length_append, List.length_replicate]; omega))) ?_))))
 rintro _ bc ⟨O, G, rfl, aq, ah⟩
 refine Xd (o' := 6) Qt Z Z Z ?_
 have ak := (ab.blk.grown0 ah)
 refine Yg (v := .slice O q.t.queue.length G) (cs' := #[vi q.t.kind, vi q.t.lab.s, vi q.t.lab.v, vi q.t.ve, vi q.t.num, .slice J q.t.slots.length E, .slice O q.t.queue.length G, vi q.t.to]) Js Z Z Z ak (Nat.le_of_ble_eq_true Z) Z ?_
 intro bd ac
 refine Xc (Xa (Xp (vs := [vi q.t.kind, vi q.t.lab.s, vi q.t.lab.v, vi q.t.ve, vi q.t.num, .slice J q.t.slots.length E, .slice O q.t.queue.length G, vi q.t.to]) Y0 Z Z (ac.blk.rangeL 0 8 Z) Z ?_))
 have al := ((((V.blk.grown0 ai).gn ab.grw).grown0 ah).gn ac.grw)
 refine X0 (vs := [vi q.t.kind, vi q.t.lab.s, vi q.t.lab.v, vi q.t.ve, vi q.t.num, .slice J q.t.slots.length E, .slice O q.t.queue.length G, vi q.t.to]) (cs' := #[vi q.t.kind, vi q.t.lab.s, vi q.t.lab.v, vi q.t.ve, vi q.t.num, .slice J q.t.slots.length E, .slice O q.t.queue.length G, vi q.t.to]) Y0 Z Z Z (by simp [Value.oneCell']) al (Nat.le_of_ble_eq_true Z) Z ?_
 intro be ae
 refine Xc (Xt ?_)
 refine ⟨.agg #[vi q.t.kind, vi q.t.lab.s, vi q.t.lab.v, vi q.t.ve, vi q.t.num, .slice J q.t.slots.length E, .slice O q.t.queue.length G, vi q.t.to], J2 Z (Ym (vs := [vi q.t.kind, vi q.t.lab.s, vi q.t.lab.v, vi q.t.ve, vi q.t.num, .slice J q.t.slots.length E, .slice O q.t.queue.length G, vi q.t.to]) Y0 Z Z (ae.blk.rangeL 0 8 Z)), J, E, O, G, Z, (OwnN.typB (OwnN.typB ((OwnN.typB (OwnN.mono ap af.size) ab.grw ao (by decide)).grown0 ah) ac.grw ak (by decide)) ae.grw al (by decide)), (OwnN.typB (OwnN.typB (OwnN.mono aq ag.size) ac.grw ak (by decide)) ae.grw al (by decide)), (low1 (low1 (low0 ag ah) ac.grw (by omega)) ae.grw (by omega))⟩
theorem Rl (w : World) (ms : List MTh) (a : Option Addr) (c : Nat) (ht : TabAt w a ms) (hlen : TabLen ms) (hn : ms.length ≤ 1048576) : CallsR Tryz.prog 37 #[.slice a ms.length c] w (fun v w' => ∃ (B cap : Nat) (ys : List MTh), v = .slice (pa B) ys.length cap ∧ tabT ys = tabT ms ∧ w.heap.size ≤ B ∧ Dw.Own w' B 38 8 cap ys.length (ys.flatMap MTh.cells) ∧ RowsO 42 3 w.heap.size w' ys ∧ w.grownBy w' none) := by
 refine Xx (n := 23) Tryz.func37 Z Tryz.ntmps37 Z ?_
 have bd := World.grownBy.refl w none
 refine Xa (Xe (v := .slice none 0 0) Z Z (Xc (Xa (Xb (v := .slice a ms.length c) Z Z (Yu (by kernel_rfl) Z Z (L7 (g := MTh.cells) (z := MTh.zero) (c := ms.length) T5 Z Yo (by omega) Z Z (by omega) (by omega) Z ?_))))))
 intro G bt ae
 have aq := Yj ae bd
 refine Xe (v := .slice (pa G) ms.length ms.length) Z Z (Xc (Xq (Xa (Xb (v := .slice a ms.length c) Z Z (Yu (by kernel_rfl) Z Z (Xb (v := vi 0) Z Z (Xc (Yc (Qm (fun mm f' w' => ∃ (k : Nat) (ct : Nat) (zs : List MTh), mm = ms.length - k ∧ k ≤ ms.length ∧ zs.length = ms.length ∧ ct = ms.length ∧ (tabT zs).take k = (tabT ms).take k ∧ RowsO 42 3 w.heap.size w' zs ∧ f' 11 = vi (k : Int) ∧ f' 2 = .slice none 0 0 ∧ f' 3 = .slice (pa G) ms.length ms.length ∧ f' 9 = .slice a ms.length c ∧ f' 10 = vi (ms.length : Int) ∧ w.grownBy w' none ∧ Dw.Own w' G 38 8 ct zs.length (zs.flatMap MTh.cells)) (ms.length - 0) ⟨0, (List.replicate ms.length MTh.zero).length, (List.replicate ms.length MTh.zero), Z, (Nat.zero_le _), (List.length_replicate), (List.length_replicate), Z, Tk, Z, Z, Z, Z, Z, (low0 bd ae.grw), (Own.rows Yo ae.blk (by rw [List.length_replicate]; omega))⟩ ?_)))))))))
 rintro mm bl bf ⟨k, ct, zs, bj, hk, hzl, hct, hzt, hRO, ag, bb, al, ar, au, O, ah⟩
 have hOt := ah
 obtain ⟨hi, hhi⟩ : ∃ n, n = bf.heap.size := ⟨_, rfl⟩
 have bc := RowsO.hi hRO
 rw [← hhi] at bc
 have hhw : w.heap.size ≤ hi := by rw [hhi]; exact O.size
 have bp := hOt.lt
 refine Xa (Qa (q := decide ((k : Int) < (ms.length : Int))) ag au Z Z (Xc (Xq (Xy Z (fun am => ?_) (fun am => ?_)))))
 have bm := of_decide_eq_true am
 refine Xw (Xu (Xq (Yc (Xa (Xb (v := vi (k : Int)) ag Z ?_)))))
 obtain ⟨bk, br, bq, az, a8, a9⟩ := SlAt.at (TabAt.low ht O).1 (Yi (xg ms k))
 have bi := TabLen.at hlen (xg ms k)
 refine Xz Y2 ar ag az a8 (by omega) (by omega) Z (Xp (vs := [vi (mAt ms k).t.kind, vi (mAt ms k).t.lab.s, vi (mAt ms k).t.lab.v, vi (mAt ms k).t.ve, vi (mAt ms k).t.num, .slice (mAt ms k).sa (mAt ms k).t.slots.length (mAt ms k).sc, .slice (mAt ms k).qa (mAt ms k).t.queue.length (mAt ms k).qc, vi (mAt ms k).t.to]) Y0 Z Z (Yr a9 0 8 Z) Z (Ye (cs := #[vi 0, vi 0, vi 0, vi 0, vi 0, .slice none 0 0, .slice none 0 0, vi 0]) Kw Z Z ?_))
 intro ba bu E
 have bh := Yj E O
 have be : hi ≤ ba := nt (Nat.le_of_eq hhi) (Nat.le_of_eq E.eq.symm)
 have ao := Xr E (ah).lt
 refine Xe (v := vi (k : Int)) Z Z (X0 (vs := [vi (mAt ms k).t.kind, vi (mAt ms k).t.lab.s, vi (mAt ms k).t.lab.v, vi (mAt ms k).t.ve, vi (mAt ms k).t.num, .slice (mAt ms k).sa (mAt ms k).t.slots.length (mAt ms k).sc, .slice (mAt ms k).qa (mAt ms k).t.queue.length (mAt ms k).qc, vi (mAt ms k).t.to]) (cs' := #[vi (mAt ms k).t.kind, vi (mAt ms k).t.lab.s, vi (mAt ms k).t.lab.v, vi (mAt ms k).t.ve, vi (mAt ms k).t.num, .slice (mAt ms k).sa (mAt ms k).t.slots.length (mAt ms k).sc, .slice (mAt ms k).qa (mAt ms k).t.queue.length (mAt ms k).qc, vi (mAt ms k).t.to]) Y0 Z Z Z (by simp [Value.oneCell']) E.blk (Nat.le_of_ble_eq_true Z) Z ?_)
 intro bv J
 have ac := low1 (low0 O E.grw) J.grw (by omega)
 refine Xc (X2 (Xb (v := .slice (pa G) ms.length ms.length) al Z (Xb (v := vi (k : Int)) Z Z (Xp (vs := [vi (mAt ms k).t.kind, vi (mAt ms k).t.lab.s, vi (mAt ms k).t.lab.v, vi (mAt ms k).t.ve, vi (mAt ms k).t.num, .slice (mAt ms k).sa (mAt ms k).t.slots.length (mAt ms k).sc, .slice (mAt ms k).qa (mAt ms k).t.queue.length (mAt ms k).qc, vi (mAt ms k).t.to]) Y0 Z Z (J.blk.rangeL 0 8 Z) Z (Xl Zj (Xg Z Xk) Z (Rm _ (mAt ms k) (TabAt.th (TabAt.low ht ac) (xg ms k)) (by omega)) ?_)))))
 rintro _ bw ⟨aj, V, ak, ab, rfl, an, av, af⟩
 refine Yb (o' := k * 8) Y2 Z Z (by omega) (by omega) (by omega) Z ?_
 have ai := (((ah.grown0 E.grw).gn J.grw).grown0 af)
 refine Je (g := MTh.cells) (z' := (⟨⟨(mAt ms k).t.kind, (mAt ms k).t.lab, (mAt ms k).t.ve, (mAt ms k).t.num, (mAt ms k).t.slots, (mAt ms k).t.queue, (mAt ms k).t.to⟩, aj, V, ak, ab⟩ : MTh)) Y0 Z Z (Kv _) Yo ai (by omega) Z ?_
 intro bg aw ad
 have ap : RowsO 42 3 w.heap.size bg (zs.set k (⟨⟨(mAt ms k).t.kind, (mAt ms k).t.lab, (mAt ms k).t.ve, (mAt ms k).t.num, (mAt ms k).t.slots, (mAt ms k).t.queue, (mAt ms k).t.to⟩, aj, V, ak, ab⟩ : MTh)) := RowsO.setn (RowsO.own (RowsO.low (RowsO.typB (RowsO.low hRO E.grw) J.grw E.blk (by decide) (by decide)) af) ad ai (by decide) (by decide)) (lq k zs.length) ⟨(OwnN.mono (OwnN.typ (OwnN.mono an ac.size) ad ai (by decide)) (Nat.le_refl _)), (OwnN.mono (OwnN.typ (OwnN.mono av ac.size) ad ai (by decide)) (Nat.le_refl _))⟩ bc (fun S e => (H3 (OwnN.mono an (nt (nt (Nat.le_of_eq hhi) E.grw.size) J.grw.size)) e).2)
 exact Xc (Y7 (Xu (X2 (Yn (c := (k : Int) + 1) ag Z (by omega) (by omega) (by omega) Z (Xb (v := vi ((k : Int) + 1)) Z Z (Xc (Xu (⟨ms.length - (k + 1), by omega, (k + 1), ct, (zs.set k (⟨⟨(mAt ms k).t.kind, (mAt ms k).t.lab, (mAt ms k).t.ve, (mAt ms k).t.num, (mAt ms k).t.slots, (mAt ms k).t.queue, (mAt ms k).t.to⟩, aj, V, ak, ab⟩ : MTh)), Z, (by omega), (by rw [List.length_set]; exact hzl), hct, (Pv hzt (by omega) (by omega) Z), ap, Z, bb, al, ar, au, (low1 (low0 ac af) ad (by omega)), aw⟩))))))))
 have bn := of_decide_eq_false am
 refine Qe (Qb (Qb (Jm (Xu (Xa (Xb (v := .slice (pa G) ms.length ms.length) al Z (Xe (v := .slice (pa G) ms.length ms.length) Z Z (Xc (Xt ?_)))))))))
 refine ⟨.slice (pa G) ms.length ms.length, Yp Z Z, G, ct, zs, by rw [hzl, hct], Pw hzt (by omega) (by omega), aq, ah, hRO, O⟩
end Go.Proofs.YtjpgffmkcmcolaaGreatDoor
end
section
namespace Go.Proofs.YtjpgffmkcmcolaaGreatDoor
open Go.RowKit Go.Dw
set_option maxRecDepth 100000
set_option maxHeartbeats 4000000
set_option linter.unusedSimpArgs false
set_option linter.unusedVariables false
theorem Wj : arrTy Tryz.prog 118 = some (10, 84, 1) := by kernel_rfl
theorem F0 : goFn Tryz.prog 63 = true := by kernel_rfl
theorem Zw : goFn Tryz.prog 90 = true := by kernel_rfl
theorem Zx : goFn Tryz.prog 91 = true := by kernel_rfl
theorem Zy : goFn Tryz.prog 92 = true := by kernel_rfl
theorem Zz : goFn Tryz.prog 93 = true := by kernel_rfl
theorem Z0 : goFn Tryz.prog 94 = true := by kernel_rfl
theorem Z1 : goFn Tryz.prog 95 = true := by kernel_rfl
theorem Z2 : goFn Tryz.prog 96 = true := by kernel_rfl
theorem Z3 : goFn Tryz.prog 97 = true := by kernel_rfl
theorem Z4 : goFn Tryz.prog 98 = true := by kernel_rfl
theorem G8 : oneTy Tryz.prog 84 = true := by kernel_rfl
theorem Wv : rowTy Tryz.prog 118 = some 10 := by kernel_rfl
theorem W0 : zeroTy Tryz.prog 118 = some (.agg #[.nilFunc, .nilFunc, .nilFunc, .nilFunc, .nilFunc, .nilFunc, .nilFunc, .nilFunc, .nilFunc, .nilFunc]) := by kernel_rfl
theorem Oo (w : World) : CallsR Tryz.prog 63 #[vi 1] w (fun v w' => v = .func (.func 90) #[] #[] ∧ w.grownBy w' none) := by
 refine Xx (n := 8) Tryz.func63 Z Tryz.ntmps63 Z ?_
 have J := World.grownBy.refl w none
 refine Xa (Xe (v := .nilFunc) Z Z (Xc (Xa (Y6 (ps := [(1, .func (.func 90) #[] #[]), (2, .func (.func 91) #[] #[]), (3, .func (.func 92) #[] #[]), (4, .func (.func 93) #[] #[]), (5, .func (.func 94) #[] #[]), (6, .func (.func 95) #[] #[]), (7, .func (.func 96) #[] #[]), (8, .func (.func 97) #[] #[]), (9, .func (.func 98) #[] #[])]) (v := .agg #[.nilFunc, .func (.func 90) #[] #[], .func (.func 91) #[] #[], .func (.func 92) #[] #[], .func (.func 93) #[] #[], .func (.func 94) #[] #[], .func (.func 95) #[] #[], .func (.func 96) #[] #[], .func (.func 97) #[] #[], .func (.func 98) #[] #[]]) (Xn Z (Xn Z (Xn Z (Xn Z (Xn Z (Xn Z (Xn Z (Xn Z (Xn Z X8))))))))) (by kernel_rfl) Z (Ye (cs := #[.nilFunc, .nilFunc, .nilFunc, .nilFunc, .nilFunc, .nilFunc, .nilFunc, .nilFunc, .nilFunc, .nilFunc]) W0 Z Z ?_)))))
 intro V ab E
 have O := Yj E J
 refine X0 (vs := [.nilFunc, .func (.func 90) #[] #[], .func (.func 91) #[] #[], .func (.func 92) #[] #[], .func (.func 93) #[] #[], .func (.func 94) #[] #[], .func (.func 95) #[] #[], .func (.func 96) #[] #[], .func (.func 97) #[] #[], .func (.func 98) #[] #[]]) (cs' := #[.nilFunc, .func (.func 90) #[] #[], .func (.func 91) #[] #[], .func (.func 92) #[] #[], .func (.func 93) #[] #[], .func (.func 94) #[] #[], .func (.func 95) #[] #[], .func (.func 96) #[] #[], .func (.func 97) #[] #[], .func (.func 98) #[] #[]]) Wv Z Z Z (by simp [Value.oneCell']) E.blk (Nat.le_of_ble_eq_true Z) Z ?_
 intro ac G
 refine Xc (Xa (Xb (v := vi 1) Z Z (Qr (o' := 1) Wj Z Z (by decide) (by decide) Z Z (Xh (v := .func (.func 90) #[] #[]) G8 Z (G.blk.cell Z) Z (Xe (v := .func (.func 90) #[] #[]) Z Z (Xc (Xt (⟨.func (.func 90) #[] #[], Yp Z Z, ?_, (low1 (low0 J E.grw) G.grw (by omega))⟩))))))))
 rfl
theorem Dg (k : Int) (hk : decide (k = 1) = true) (w : World) : CallsR Tryz.prog 63 #[.int .i64 k] w (fun v w' => v = .func (.func 90) #[] #[] ∧ w.grownBy w' none) := by obtain rfl := of_decide_eq_true hk; exact Oo w
theorem Oq (w : World) : CallsR Tryz.prog 63 #[vi 2] w (fun v w' => v = .func (.func 91) #[] #[] ∧ w.grownBy w' none) := by
 refine Xx (n := 8) Tryz.func63 Z Tryz.ntmps63 Z ?_
 have J := World.grownBy.refl w none
 refine Xa (Xe (v := .nilFunc) Z Z (Xc (Xa (Y6 (ps := [(1, .func (.func 90) #[] #[]), (2, .func (.func 91) #[] #[]), (3, .func (.func 92) #[] #[]), (4, .func (.func 93) #[] #[]), (5, .func (.func 94) #[] #[]), (6, .func (.func 95) #[] #[]), (7, .func (.func 96) #[] #[]), (8, .func (.func 97) #[] #[]), (9, .func (.func 98) #[] #[])]) (v := .agg #[.nilFunc, .func (.func 90) #[] #[], .func (.func 91) #[] #[], .func (.func 92) #[] #[], .func (.func 93) #[] #[], .func (.func 94) #[] #[], .func (.func 95) #[] #[], .func (.func 96) #[] #[], .func (.func 97) #[] #[], .func (.func 98) #[] #[]]) (Xn Z (Xn Z (Xn Z (Xn Z (Xn Z (Xn Z (Xn Z (Xn Z (Xn Z X8))))))))) (by kernel_rfl) Z (Ye (cs := #[.nilFunc, .nilFunc, .nilFunc, .nilFunc, .nilFunc, .nilFunc, .nilFunc, .nilFunc, .nilFunc, .nilFunc]) W0 Z Z ?_)))))
 intro V ab E
 have O := Yj E J
 refine X0 (vs := [.nilFunc, .func (.func 90) #[] #[], .func (.func 91) #[] #[], .func (.func 92) #[] #[], .func (.func 93) #[] #[], .func (.func 94) #[] #[], .func (.func 95) #[] #[], .func (.func 96) #[] #[], .func (.func 97) #[] #[], .func (.func 98) #[] #[]]) (cs' := #[.nilFunc, .func (.func 90) #[] #[], .func (.func 91) #[] #[], .func (.func 92) #[] #[], .func (.func 93) #[] #[], .func (.func 94) #[] #[], .func (.func 95) #[] #[], .func (.func 96) #[] #[], .func (.func 97) #[] #[], .func (.func 98) #[] #[]]) Wv Z Z Z (by simp [Value.oneCell']) E.blk (Nat.le_of_ble_eq_true Z) Z ?_
 intro ac G
 refine Xc (Xa (Xb (v := vi 2) Z Z (Qr (o' := 2) Wj Z Z (by decide) (by decide) Z Z (Xh (v := .func (.func 91) #[] #[]) G8 Z (G.blk.cell Z) Z (Xe (v := .func (.func 91) #[] #[]) Z Z (Xc (Xt (⟨.func (.func 91) #[] #[], Yp Z Z, ?_, (low1 (low0 J E.grw) G.grw (by omega))⟩))))))))
 rfl
theorem Dh (k : Int) (hk : decide (k = 2) = true) (w : World) : CallsR Tryz.prog 63 #[.int .i64 k] w (fun v w' => v = .func (.func 91) #[] #[] ∧ w.grownBy w' none) := by obtain rfl := of_decide_eq_true hk; exact Oq w
theorem Ot (w : World) : CallsR Tryz.prog 63 #[vi 3] w (fun v w' => v = .func (.func 92) #[] #[] ∧ w.grownBy w' none) := by
 refine Xx (n := 8) Tryz.func63 Z Tryz.ntmps63 Z ?_
 have J := World.grownBy.refl w none
 refine Xa (Xe (v := .nilFunc) Z Z (Xc (Xa (Y6 (ps := [(1, .func (.func 90) #[] #[]), (2, .func (.func 91) #[] #[]), (3, .func (.func 92) #[] #[]), (4, .func (.func 93) #[] #[]), (5, .func (.func 94) #[] #[]), (6, .func (.func 95) #[] #[]), (7, .func (.func 96) #[] #[]), (8, .func (.func 97) #[] #[]), (9, .func (.func 98) #[] #[])]) (v := .agg #[.nilFunc, .func (.func 90) #[] #[], .func (.func 91) #[] #[], .func (.func 92) #[] #[], .func (.func 93) #[] #[], .func (.func 94) #[] #[], .func (.func 95) #[] #[], .func (.func 96) #[] #[], .func (.func 97) #[] #[], .func (.func 98) #[] #[]]) (Xn Z (Xn Z (Xn Z (Xn Z (Xn Z (Xn Z (Xn Z (Xn Z (Xn Z X8))))))))) (by kernel_rfl) Z (Ye (cs := #[.nilFunc, .nilFunc, .nilFunc, .nilFunc, .nilFunc, .nilFunc, .nilFunc, .nilFunc, .nilFunc, .nilFunc]) W0 Z Z ?_)))))
 intro V ab E
 have O := Yj E J
 refine X0 (vs := [.nilFunc, .func (.func 90) #[] #[], .func (.func 91) #[] #[], .func (.func 92) #[] #[], .func (.func 93) #[] #[], .func (.func 94) #[] #[], .func (.func 95) #[] #[], .func (.func 96) #[] #[], .func (.func 97) #[] #[], .func (.func 98) #[] #[]]) (cs' := #[.nilFunc, .func (.func 90) #[] #[], .func (.func 91) #[] #[], .func (.func 92) #[] #[], .func (.func 93) #[] #[], .func (.func 94) #[] #[], .func (.func 95) #[] #[], .func (.func 96) #[] #[], .func (.func 97) #[] #[], .func (.func 98) #[] #[]]) Wv Z Z Z (by simp [Value.oneCell']) E.blk (Nat.le_of_ble_eq_true Z) Z ?_
 intro ac G
 refine Xc (Xa (Xb (v := vi 3) Z Z (Qr (o' := 3) Wj Z Z (by decide) (by decide) Z Z (Xh (v := .func (.func 92) #[] #[]) G8 Z (G.blk.cell Z) Z (Xe (v := .func (.func 92) #[] #[]) Z Z (Xc (Xt (⟨.func (.func 92) #[] #[], Yp Z Z, ?_, (low1 (low0 J E.grw) G.grw (by omega))⟩))))))))
 rfl
theorem Di (k : Int) (hk : decide (k = 3) = true) (w : World) : CallsR Tryz.prog 63 #[.int .i64 k] w (fun v w' => v = .func (.func 92) #[] #[] ∧ w.grownBy w' none) := by obtain rfl := of_decide_eq_true hk; exact Ot w
theorem Ou (w : World) : CallsR Tryz.prog 63 #[vi 4] w (fun v w' => v = .func (.func 93) #[] #[] ∧ w.grownBy w' none) := by
 refine Xx (n := 8) Tryz.func63 Z Tryz.ntmps63 Z ?_
 have J := World.grownBy.refl w none
 refine Xa (Xe (v := .nilFunc) Z Z (Xc (Xa (Y6 (ps := [(1, .func (.func 90) #[] #[]), (2, .func (.func 91) #[] #[]), (3, .func (.func 92) #[] #[]), (4, .func (.func 93) #[] #[]), (5, .func (.func 94) #[] #[]), (6, .func (.func 95) #[] #[]), (7, .func (.func 96) #[] #[]), (8, .func (.func 97) #[] #[]), (9, .func (.func 98) #[] #[])]) (v := .agg #[.nilFunc, .func (.func 90) #[] #[], .func (.func 91) #[] #[], .func (.func 92) #[] #[], .func (.func 93) #[] #[], .func (.func 94) #[] #[], .func (.func 95) #[] #[], .func (.func 96) #[] #[], .func (.func 97) #[] #[], .func (.func 98) #[] #[]]) (Xn Z (Xn Z (Xn Z (Xn Z (Xn Z (Xn Z (Xn Z (Xn Z (Xn Z X8))))))))) (by kernel_rfl) Z (Ye (cs := #[.nilFunc, .nilFunc, .nilFunc, .nilFunc, .nilFunc, .nilFunc, .nilFunc, .nilFunc, .nilFunc, .nilFunc]) W0 Z Z ?_)))))
 intro V ab E
 have O := Yj E J
 refine X0 (vs := [.nilFunc, .func (.func 90) #[] #[], .func (.func 91) #[] #[], .func (.func 92) #[] #[], .func (.func 93) #[] #[], .func (.func 94) #[] #[], .func (.func 95) #[] #[], .func (.func 96) #[] #[], .func (.func 97) #[] #[], .func (.func 98) #[] #[]]) (cs' := #[.nilFunc, .func (.func 90) #[] #[], .func (.func 91) #[] #[], .func (.func 92) #[] #[], .func (.func 93) #[] #[], .func (.func 94) #[] #[], .func (.func 95) #[] #[], .func (.func 96) #[] #[], .func (.func 97) #[] #[], .func (.func 98) #[] #[]]) Wv Z Z Z (by simp [Value.oneCell']) E.blk (Nat.le_of_ble_eq_true Z) Z ?_
 intro ac G
 refine Xc (Xa (Xb (v := vi 4) Z Z (Qr (o' := 4) Wj Z Z (by decide) (by decide) Z Z (Xh (v := .func (.func 93) #[] #[]) G8 Z (G.blk.cell Z) Z (Xe (v := .func (.func 93) #[] #[]) Z Z (Xc (Xt (⟨.func (.func 93) #[] #[], Yp Z Z, ?_, (low1 (low0 J E.grw) G.grw (by omega))⟩))))))))
 rfl
theorem Dj (k : Int) (hk : decide (k = 4) = true) (w : World) : CallsR Tryz.prog 63 #[.int .i64 k] w (fun v w' => v = .func (.func 93) #[] #[] ∧ w.grownBy w' none) := by obtain rfl := of_decide_eq_true hk; exact Ou w
theorem Ov (w : World) : CallsR Tryz.prog 63 #[vi 5] w (fun v w' => v = .func (.func 94) #[] #[] ∧ w.grownBy w' none) := by
 refine Xx (n := 8) Tryz.func63 Z Tryz.ntmps63 Z ?_
 have J := World.grownBy.refl w none
 refine Xa (Xe (v := .nilFunc) Z Z (Xc (Xa (Y6 (ps := [(1, .func (.func 90) #[] #[]), (2, .func (.func 91) #[] #[]), (3, .func (.func 92) #[] #[]), (4, .func (.func 93) #[] #[]), (5, .func (.func 94) #[] #[]), (6, .func (.func 95) #[] #[]), (7, .func (.func 96) #[] #[]), (8, .func (.func 97) #[] #[]), (9, .func (.func 98) #[] #[])]) (v := .agg #[.nilFunc, .func (.func 90) #[] #[], .func (.func 91) #[] #[], .func (.func 92) #[] #[], .func (.func 93) #[] #[], .func (.func 94) #[] #[], .func (.func 95) #[] #[], .func (.func 96) #[] #[], .func (.func 97) #[] #[], .func (.func 98) #[] #[]]) (Xn Z (Xn Z (Xn Z (Xn Z (Xn Z (Xn Z (Xn Z (Xn Z (Xn Z X8))))))))) (by kernel_rfl) Z (Ye (cs := #[.nilFunc, .nilFunc, .nilFunc, .nilFunc, .nilFunc, .nilFunc, .nilFunc, .nilFunc, .nilFunc, .nilFunc]) W0 Z Z ?_)))))
 intro V ab E
 have O := Yj E J
 refine X0 (vs := [.nilFunc, .func (.func 90) #[] #[], .func (.func 91) #[] #[], .func (.func 92) #[] #[], .func (.func 93) #[] #[], .func (.func 94) #[] #[], .func (.func 95) #[] #[], .func (.func 96) #[] #[], .func (.func 97) #[] #[], .func (.func 98) #[] #[]]) (cs' := #[.nilFunc, .func (.func 90) #[] #[], .func (.func 91) #[] #[], .func (.func 92) #[] #[], .func (.func 93) #[] #[], .func (.func 94) #[] #[], .func (.func 95) #[] #[], .func (.func 96) #[] #[], .func (.func 97) #[] #[], .func (.func 98) #[] #[]]) Wv Z Z Z (by simp [Value.oneCell']) E.blk (Nat.le_of_ble_eq_true Z) Z ?_
 intro ac G
 refine Xc (Xa (Xb (v := vi 5) Z Z (Qr (o' := 5) Wj Z Z (by decide) (by decide) Z Z (Xh (v := .func (.func 94) #[] #[]) G8 Z (G.blk.cell Z) Z (Xe (v := .func (.func 94) #[] #[]) Z Z (Xc (Xt (⟨.func (.func 94) #[] #[], Yp Z Z, ?_, (low1 (low0 J E.grw) G.grw (by omega))⟩))))))))
 rfl
theorem Dk (k : Int) (hk : decide (k = 5) = true) (w : World) : CallsR Tryz.prog 63 #[.int .i64 k] w (fun v w' => v = .func (.func 94) #[] #[] ∧ w.grownBy w' none) := by obtain rfl := of_decide_eq_true hk; exact Ov w
theorem Ow (w : World) : CallsR Tryz.prog 63 #[vi 6] w (fun v w' => v = .func (.func 95) #[] #[] ∧ w.grownBy w' none) := by
 refine Xx (n := 8) Tryz.func63 Z Tryz.ntmps63 Z ?_
 have J := World.grownBy.refl w none
 refine Xa (Xe (v := .nilFunc) Z Z (Xc (Xa (Y6 (ps := [(1, .func (.func 90) #[] #[]), (2, .func (.func 91) #[] #[]), (3, .func (.func 92) #[] #[]), (4, .func (.func 93) #[] #[]), (5, .func (.func 94) #[] #[]), (6, .func (.func 95) #[] #[]), (7, .func (.func 96) #[] #[]), (8, .func (.func 97) #[] #[]), (9, .func (.func 98) #[] #[])]) (v := .agg #[.nilFunc, .func (.func 90) #[] #[], .func (.func 91) #[] #[], .func (.func 92) #[] #[], .func (.func 93) #[] #[], .func (.func 94) #[] #[], .func (.func 95) #[] #[], .func (.func 96) #[] #[], .func (.func 97) #[] #[], .func (.func 98) #[] #[]]) (Xn Z (Xn Z (Xn Z (Xn Z (Xn Z (Xn Z (Xn Z (Xn Z (Xn Z X8))))))))) (by kernel_rfl) Z (Ye (cs := #[.nilFunc, .nilFunc, .nilFunc, .nilFunc, .nilFunc, .nilFunc, .nilFunc, .nilFunc, .nilFunc, .nilFunc]) W0 Z Z ?_)))))
 intro V ab E
 have O := Yj E J
 refine X0 (vs := [.nilFunc, .func (.func 90) #[] #[], .func (.func 91) #[] #[], .func (.func 92) #[] #[], .func (.func 93) #[] #[], .func (.func 94) #[] #[], .func (.func 95) #[] #[], .func (.func 96) #[] #[], .func (.func 97) #[] #[], .func (.func 98) #[] #[]]) (cs' := #[.nilFunc, .func (.func 90) #[] #[], .func (.func 91) #[] #[], .func (.func 92) #[] #[], .func (.func 93) #[] #[], .func (.func 94) #[] #[], .func (.func 95) #[] #[], .func (.func 96) #[] #[], .func (.func 97) #[] #[], .func (.func 98) #[] #[]]) Wv Z Z Z (by simp [Value.oneCell']) E.blk (Nat.le_of_ble_eq_true Z) Z ?_
 intro ac G
 refine Xc (Xa (Xb (v := vi 6) Z Z (Qr (o' := 6) Wj Z Z (by decide) (by decide) Z Z (Xh (v := .func (.func 95) #[] #[]) G8 Z (G.blk.cell Z) Z (Xe (v := .func (.func 95) #[] #[]) Z Z (Xc (Xt (⟨.func (.func 95) #[] #[], Yp Z Z, ?_, (low1 (low0 J E.grw) G.grw (by omega))⟩))))))))
 rfl
theorem Dl (k : Int) (hk : decide (k = 6) = true) (w : World) : CallsR Tryz.prog 63 #[.int .i64 k] w (fun v w' => v = .func (.func 95) #[] #[] ∧ w.grownBy w' none) := by obtain rfl := of_decide_eq_true hk; exact Ow w
theorem Ox (w : World) : CallsR Tryz.prog 63 #[vi 7] w (fun v w' => v = .func (.func 96) #[] #[] ∧ w.grownBy w' none) := by
 refine Xx (n := 8) Tryz.func63 Z Tryz.ntmps63 Z ?_
 have J := World.grownBy.refl w none
 refine Xa (Xe (v := .nilFunc) Z Z (Xc (Xa (Y6 (ps := [(1, .func (.func 90) #[] #[]), (2, .func (.func 91) #[] #[]), (3, .func (.func 92) #[] #[]), (4, .func (.func 93) #[] #[]), (5, .func (.func 94) #[] #[]), (6, .func (.func 95) #[] #[]), (7, .func (.func 96) #[] #[]), (8, .func (.func 97) #[] #[]), (9, .func (.func 98) #[] #[])]) (v := .agg #[.nilFunc, .func (.func 90) #[] #[], .func (.func 91) #[] #[], .func (.func 92) #[] #[], .func (.func 93) #[] #[], .func (.func 94) #[] #[], .func (.func 95) #[] #[], .func (.func 96) #[] #[], .func (.func 97) #[] #[], .func (.func 98) #[] #[]]) (Xn Z (Xn Z (Xn Z (Xn Z (Xn Z (Xn Z (Xn Z (Xn Z (Xn Z X8))))))))) (by kernel_rfl) Z (Ye (cs := #[.nilFunc, .nilFunc, .nilFunc, .nilFunc, .nilFunc, .nilFunc, .nilFunc, .nilFunc, .nilFunc, .nilFunc]) W0 Z Z ?_)))))
 intro V ab E
 have O := Yj E J
 refine X0 (vs := [.nilFunc, .func (.func 90) #[] #[], .func (.func 91) #[] #[], .func (.func 92) #[] #[], .func (.func 93) #[] #[], .func (.func 94) #[] #[], .func (.func 95) #[] #[], .func (.func 96) #[] #[], .func (.func 97) #[] #[], .func (.func 98) #[] #[]]) (cs' := #[.nilFunc, .func (.func 90) #[] #[], .func (.func 91) #[] #[], .func (.func 92) #[] #[], .func (.func 93) #[] #[], .func (.func 94) #[] #[], .func (.func 95) #[] #[], .func (.func 96) #[] #[], .func (.func 97) #[] #[], .func (.func 98) #[] #[]]) Wv Z Z Z (by simp [Value.oneCell']) E.blk (Nat.le_of_ble_eq_true Z) Z ?_
 intro ac G
 refine Xc (Xa (Xb (v := vi 7) Z Z (Qr (o' := 7) Wj Z Z (by decide) (by decide) Z Z (Xh (v := .func (.func 96) #[] #[]) G8 Z (G.blk.cell Z) Z (Xe (v := .func (.func 96) #[] #[]) Z Z (Xc (Xt (⟨.func (.func 96) #[] #[], Yp Z Z, ?_, (low1 (low0 J E.grw) G.grw (by omega))⟩))))))))
 rfl
theorem Dm (k : Int) (hk : decide (k = 7) = true) (w : World) : CallsR Tryz.prog 63 #[.int .i64 k] w (fun v w' => v = .func (.func 96) #[] #[] ∧ w.grownBy w' none) := by obtain rfl := of_decide_eq_true hk; exact Ox w
theorem Oy (w : World) : CallsR Tryz.prog 63 #[vi 8] w (fun v w' => v = .func (.func 97) #[] #[] ∧ w.grownBy w' none) := by
 refine Xx (n := 8) Tryz.func63 Z Tryz.ntmps63 Z ?_
 have J := World.grownBy.refl w none
 refine Xa (Xe (v := .nilFunc) Z Z (Xc (Xa (Y6 (ps := [(1, .func (.func 90) #[] #[]), (2, .func (.func 91) #[] #[]), (3, .func (.func 92) #[] #[]), (4, .func (.func 93) #[] #[]), (5, .func (.func 94) #[] #[]), (6, .func (.func 95) #[] #[]), (7, .func (.func 96) #[] #[]), (8, .func (.func 97) #[] #[]), (9, .func (.func 98) #[] #[])]) (v := .agg #[.nilFunc, .func (.func 90) #[] #[], .func (.func 91) #[] #[], .func (.func 92) #[] #[], .func (.func 93) #[] #[], .func (.func 94) #[] #[], .func (.func 95) #[] #[], .func (.func 96) #[] #[], .func (.func 97) #[] #[], .func (.func 98) #[] #[]]) (Xn Z (Xn Z (Xn Z (Xn Z (Xn Z (Xn Z (Xn Z (Xn Z (Xn Z X8))))))))) (by kernel_rfl) Z (Ye (cs := #[.nilFunc, .nilFunc, .nilFunc, .nilFunc, .nilFunc, .nilFunc, .nilFunc, .nilFunc, .nilFunc, .nilFunc]) W0 Z Z ?_)))))
 intro V ab E
 have O := Yj E J
 refine X0 (vs := [.nilFunc, .func (.func 90) #[] #[], .func (.func 91) #[] #[], .func (.func 92) #[] #[], .func (.func 93) #[] #[], .func (.func 94) #[] #[], .func (.func 95) #[] #[], .func (.func 96) #[] #[], .func (.func 97) #[] #[], .func (.func 98) #[] #[]]) (cs' := #[.nilFunc, .func (.func 90) #[] #[], .func (.func 91) #[] #[], .func (.func 92) #[] #[], .func (.func 93) #[] #[], .func (.func 94) #[] #[], .func (.func 95) #[] #[], .func (.func 96) #[] #[], .func (.func 97) #[] #[], .func (.func 98) #[] #[]]) Wv Z Z Z (by simp [Value.oneCell']) E.blk (Nat.le_of_ble_eq_true Z) Z ?_
 intro ac G
 refine Xc (Xa (Xb (v := vi 8) Z Z (Qr (o' := 8) Wj Z Z (by decide) (by decide) Z Z (Xh (v := .func (.func 97) #[] #[]) G8 Z (G.blk.cell Z) Z (Xe (v := .func (.func 97) #[] #[]) Z Z (Xc (Xt (⟨.func (.func 97) #[] #[], Yp Z Z, ?_, (low1 (low0 J E.grw) G.grw (by omega))⟩))))))))
 rfl
theorem Dn (k : Int) (hk : decide (k = 8) = true) (w : World) : CallsR Tryz.prog 63 #[.int .i64 k] w (fun v w' => v = .func (.func 97) #[] #[] ∧ w.grownBy w' none) := by obtain rfl := of_decide_eq_true hk; exact Oy w
theorem Oz (w : World) : CallsR Tryz.prog 63 #[vi 9] w (fun v w' => v = .func (.func 98) #[] #[] ∧ w.grownBy w' none) := by
 refine Xx (n := 8) Tryz.func63 Z Tryz.ntmps63 Z ?_
 have J := World.grownBy.refl w none
 refine Xa (Xe (v := .nilFunc) Z Z (Xc (Xa (Y6 (ps := [(1, .func (.func 90) #[] #[]), (2, .func (.func 91) #[] #[]), (3, .func (.func 92) #[] #[]), (4, .func (.func 93) #[] #[]), (5, .func (.func 94) #[] #[]), (6, .func (.func 95) #[] #[]), (7, .func (.func 96) #[] #[]), (8, .func (.func 97) #[] #[]), (9, .func (.func 98) #[] #[])]) (v := .agg #[.nilFunc, .func (.func 90) #[] #[], .func (.func 91) #[] #[], .func (.func 92) #[] #[], .func (.func 93) #[] #[], .func (.func 94) #[] #[], .func (.func 95) #[] #[], .func (.func 96) #[] #[], .func (.func 97) #[] #[], .func (.func 98) #[] #[]]) (Xn Z (Xn Z (Xn Z (Xn Z (Xn Z (Xn Z (Xn Z (Xn Z (Xn Z X8))))))))) (by kernel_rfl) Z (Ye (cs := #[.nilFunc, .nilFunc, .nilFunc, .nilFunc, .nilFunc, .nilFunc, .nilFunc, .nilFunc, .nilFunc, .nilFunc]) W0 Z Z ?_)))))
 intro V ab E
 have O := Yj E J
 refine X0 (vs := [.nilFunc, .func (.func 90) #[] #[], .func (.func 91) #[] #[], .func (.func 92) #[] #[], .func (.func 93) #[] #[], .func (.func 94) #[] #[], .func (.func 95) #[] #[], .func (.func 96) #[] #[], .func (.func 97) #[] #[], .func (.func 98) #[] #[]]) (cs' := #[.nilFunc, .func (.func 90) #[] #[], .func (.func 91) #[] #[], .func (.func 92) #[] #[], .func (.func 93) #[] #[], .func (.func 94) #[] #[], .func (.func 95) #[] #[], .func (.func 96) #[] #[], .func (.func 97) #[] #[], .func (.func 98) #[] #[]]) Wv Z Z Z (by simp [Value.oneCell']) E.blk (Nat.le_of_ble_eq_true Z) Z ?_
 intro ac G
 refine Xc (Xa (Xb (v := vi 9) Z Z (Qr (o' := 9) Wj Z Z (by decide) (by decide) Z Z (Xh (v := .func (.func 98) #[] #[]) G8 Z (G.blk.cell Z) Z (Xe (v := .func (.func 98) #[] #[]) Z Z (Xc (Xt (⟨.func (.func 98) #[] #[], Yp Z Z, ?_, (low1 (low0 J E.grw) G.grw (by omega))⟩))))))))
 rfl
theorem Do (k : Int) (hk : decide (k = 9) = true) (w : World) : CallsR Tryz.prog 63 #[.int .i64 k] w (fun v w' => v = .func (.func 98) #[] #[] ∧ w.grownBy w' none) := by obtain rfl := of_decide_eq_true hk; exact Oz w
theorem Ic (q : Cl) (r : Rt) (lo B cap : Nat) (ms : List MTh) (w : World) (hB : Dw.Own w B 38 8 cap ms.length (ms.flatMap MTh.cells)) (hR : RowsO 42 3 lo w ms) (hlo : lo ≤ B) (hi : Nat) (hH : HiO hi ms) (hBlt : B < hi) (hhi : hi ≤ w.heap.size) (hp : callPoss (tabT ms) q = true) (hr : slotAt (tabT ms) q.run q.a = r) (A : Nat) (hA : Blk w A 57 #[.slice (pa B) ms.length cap, vi q.kind, vi q.run, vi q.a, vi q.b, vi q.n, vi r.th, vi r.ve, vb r.rd, vb r.wr, vb r.wk]) (hAhi : hi ≤ A) : CallsR Tryz.prog 92 #[pt A 0] w (fun v w' => ∃ ms' : List MTh, v = vi 0 ∧ ms'.length = ms.length ∧ Dw.Own w' B 38 8 cap ms'.length (ms'.flatMap MTh.cells) ∧ RowsO 42 3 lo w' ms' ∧ tabT ms' = putSl (tabT ms) q.run q.b (lessBits r q.n) ∧ KeepsI lo hi [38, 42, 3] w w') := by
 refine Xx (n := 34) Tryz.func92 Z Tryz.ntmps92 Z ?_
 have am : KeepsI lo hi [38, 42, 3] w w := KeepsI.refl w
 have hlow : lo ≤ w.heap.size := by omega
 obtain ⟨hT, hc, hk⟩ := Yh hp
 have hco := Yq hc
 have hkp := (Y3 hk).1
 have h4 := Qp hT hk
 have hml := Jb hT
 have hTL := TabLen.ok hT
 have hck := Kj (tabT ms) q
 have hrok : rightOk r = true := by rw [← hr]; exact (V0 hT (k := q.run) (by rw [Qd]; exact hkp) q.a).1
 have hrk := Uq hrok
 refine Xa (Xe (v := vi 0) Z Z (Xc (Xa (Xb (v := pt A 0) Z Z (Xv Z Z (Xd (o' := 1) Ks Z Z Z (Xd (o' := 5) Jk Z Z Z (Xh (v := vi q.n) X1 Z (hA.cell Z) Z (Xe (v := vi q.n) Z Z (Xc (Xq ?_)))))))))))
 obtain ⟨an, E, ac, V⟩ := RowsO.slot hR (lq (q.run - 1).toNat ms.length) (by omega)
 have ak := hH _ (List.mem_of_getElem? (xg ms (q.run - 1).toNat)) _ (Or.inl E)
 have al := Vt hB V (by decide)
 refine Yw (m := 24) (vals := [(9, pt A 0), (10, pt B ((q.run - 1).toNat * 8)), (11, pt B ((q.run - 1).toNat * 8)), (12, pt B ((q.run - 1).toNat * 8 + 5)), (13, .slice (mAt ms (q.run - 1).toNat).sa (mAt ms (q.run - 1).toNat).t.slots.length (mAt ms (q.run - 1).toNat).sc), (14, pt A 0), (15, pt A 0), (16, pt A 1), (17, pt A 4), (18, vi q.b), (19, pt A 0), (20, pt A 0), (21, pt A 6), (22, .agg #[vi r.th, vi r.ve, vb r.rd, vb r.wr, vb r.wk]), (23, vi q.n), (24, vi (bits .and .i64 q.n 1)), (25, vb (!(decide (bits .and .i64 q.n 1 = 0)))), (26, vi q.n), (27, vi (bits .and .i64 q.n 2)), (28, vb (!(decide (bits .and .i64 q.n 2 = 0)))), (29, vi q.n), (30, vi (bits .and .i64 q.n 4)), (31, vb (!(decide (bits .and .i64 q.n 4 = 0)))), (32, .agg #[vi (l2Less r (!(decide (bits .and .i64 q.n 1 = 0))) (!(decide (bits .and .i64 q.n 2 = 0))) (!(decide (bits .and .i64 q.n 4 = 0)))).th, vi (l2Less r (!(decide (bits .and .i64 q.n 1 = 0))) (!(decide (bits .and .i64 q.n 2 = 0))) (!(decide (bits .and .i64 q.n 4 = 0)))).ve, vb (l2Less r (!(decide (bits .and .i64 q.n 1 = 0))) (!(decide (bits .and .i64 q.n 2 = 0))) (!(decide (bits .and .i64 q.n 4 = 0)))).rd, vb (l2Less r (!(decide (bits .and .i64 q.n 1 = 0))) (!(decide (bits .and .i64 q.n 2 = 0))) (!(decide (bits .and .i64 q.n 4 = 0)))).wr, vb (l2Less r (!(decide (bits .and .i64 q.n 1 = 0))) (!(decide (bits .and .i64 q.n 2 = 0))) (!(decide (bits .and .i64 q.n 4 = 0)))).wk])]) (fun w' => w.grownBy w' none) Yy (by kernel_rfl) (X6 _) ?_ ?_
 refine yl Z (fun _ _ k => Xb (v := pt A 0) Z Z k) ?_
 refine Ql Z (fun ao O => ?_) ?_
 refine Xl Rr (Xg Z Xk) Z (Wc q r B cap _ _ (hB.grown0 O) (by first | omega | (simp only [List.length_set, Yd]; omega)) A (hA.grown0 O) (by first | omega | (simp only [List.length_set, Yd]; omega))) ?_
 rintro _ ap ⟨rfl, ae⟩
 exact Xc ⟨Z, (grown_trans O ae)⟩
 refine yl Z (fun _ _ k => Xv Z Z k) (yl Z (fun _ _ k => Xd (o' := (q.run - 1).toNat * 8 + 5) Qj Z Z Z k) (yl Z (fun _ ag k => Xh (v := .slice (mAt ms (q.run - 1).toNat).sa (mAt ms (q.run - 1).toNat).t.slots.length (mAt ms (q.run - 1).toNat).sc) Jh Z ((Own.range Yo (hB.grown0 ag) (xg ms (q.run - 1).toNat)) 5 _ Z) Z k) (yl Z (fun _ _ k => Xb (v := pt A 0) Z Z k) (yl Z (fun _ _ k => Xv Z Z k) (yl Z (fun _ _ k => Xd (o' := 1) Ks Z Z Z k) (yl Z (fun _ _ k => Xd (o' := 4) K6 Z Z Z k) (yl Z (fun _ ah k => Xh (v := vi q.b) X1 Z ((hA.grown0 ah).cell Z) Z k) (yl Z (fun _ _ k => Xb (v := pt A 0) Z Z k) (yl Z (fun _ _ k => Xv Z Z k) (yl Z (fun _ _ k => Xd (o' := 6) G4 Z Z Z k) ?_))))))))))
 refine yl Z (fun _ ai k => Xp (vs := [vi r.th, vi r.ve, vb r.rd, vb r.wr, vb r.wk]) Yx Z Z ((hA.grown0 ai).rangeL 6 5 Z) Z k) (yl Z (fun _ _ k => Xb (v := vi q.n) Z Z k) (yl Z (fun _ _ k => K0 (u := vi q.n) (u' := vi 1) (v := vi (bits .and .i64 q.n 1)) Z Z (by rw [binOp_and, intBits_and]; rfl) (fun _ _ => eqGuard_at_int ..) Z k) (yl Z (fun _ _ k => Y8 (q := !(decide (bits .and .i64 q.n 1 = 0))) Z Z Z Z k) (yl Z (fun _ _ k => Xb (v := vi q.n) Z Z k) (yl Z (fun _ _ k => K0 (u := vi q.n) (u' := vi 2) (v := vi (bits .and .i64 q.n 2)) Z Z (by rw [binOp_and, intBits_and]; rfl) (fun _ _ => eqGuard_at_int ..) Z k) (yl Z (fun _ _ k => Y8 (q := !(decide (bits .and .i64 q.n 2 = 0))) Z Z Z Z k) (yl Z (fun _ _ k => Xb (v := vi q.n) Z Z k) (yl Z (fun _ _ k => K0 (u := vi q.n) (u' := vi 4) (v := vi (bits .and .i64 q.n 4)) Z Z (by rw [binOp_and, intBits_and]; rfl) (fun _ _ => eqGuard_at_int ..) Z k) (yl Z (fun _ _ k => Y8 (q := !(decide (bits .and .i64 q.n 4 = 0))) Z Z Z Z k) ?_)))))))))
 refine Ql Z (fun aq aj => ?_) ?_
 refine Xl Ch (Xg Z (Xg Z (Xg Z (Xg Z Xk)))) Z (Wq r (!(decide (bits .and .i64 q.n 1 = 0))) (!(decide (bits .and .i64 q.n 2 = 0))) (!(decide (bits .and .i64 q.n 4 = 0))) _) ?_
 rintro _ ar ⟨rfl, af⟩
 exact Xc ⟨congrArg (up _ 32) (congrArg (fun z : Rt => (.agg #[vi z.th, vi z.ve, vb z.rd, vb z.wr, vb z.wk] : Value)) (U1 (r := r) (a := !(decide (bits .and .i64 q.n 1 = 0))) (b := !(decide (bits .and .i64 q.n 2 = 0))) (c := !(decide (bits .and .i64 q.n 4 = 0))) hrok)), (grown_trans aj af)⟩
 exact Y5
 intro au G
 refine Xz Ka Z Z E (Nat.zero_add _) (by omega) (by omega) Z ?_
 have ab := (V.grown0 G)
 refine Je (g := Rt.cells) (z' := (l2Less r (!(decide (bits .and .i64 q.n 1 = 0))) (!(decide (bits .and .i64 q.n 2 = 0))) (!(decide (bits .and .i64 q.n 4 = 0))))) Yx Z Z (Vy _) Q7 ab (by omega) Z ?_
 intro av ad J
 exact Xc (Xu (Xa (Xe (v := vi 0) Z Z (Xc (Xt (⟨vi 0, Yp Z Z, putT ms (q.run - 1).toNat (q.b).toNat (l2Less r (!(decide (bits .and .i64 q.n 1 = 0))) (!(decide (bits .and .i64 q.n 2 = 0))) (!(decide (bits .and .i64 q.n 4 = 0)))), Z, by first | rfl | exact Yd, (V9 (i := (q.run - 1).toNat) (j := (q.b).toNat) (x := (l2Less r (!(decide (bits .and .i64 q.n 1 = 0))) (!(decide (bits .and .i64 q.n 2 = 0))) (!(decide (bits .and .i64 q.n 4 = 0))))) ((hB.grown0 G).gn J) (by omega)), (RowsO.put (RowsO.low hR G) (lq (q.run - 1).toNat ms.length) E ac ab Z ad J (by decide)), by rw [Hb, C0 (by omega)], (KeepsI.own (KeepsI.low am G) J ab (by decide) (by omega) (by omega))⟩))))))
theorem Oh (q : Cl) (r : Rt) (lo B cap : Nat) (ms : List MTh) (w : World) (hB : Dw.Own w B 38 8 cap ms.length (ms.flatMap MTh.cells)) (hR : RowsO 42 3 lo w ms) (hlo : lo ≤ B) (hi : Nat) (hH : HiO hi ms) (hBlt : B < hi) (hhi : hi ≤ w.heap.size) (hp : callPoss (tabT ms) q = true) (hr : slotAt (tabT ms) q.run q.a = r) (A : Nat) (hA : Blk w A 57 #[.slice (pa B) ms.length cap, vi q.kind, vi q.run, vi q.a, vi q.b, vi q.n, vi r.th, vi r.ve, vb r.rd, vb r.wr, vb r.wk]) (hAhi : hi ≤ A) (c : Int) (G : c = check1 (tabT ms) q) (h0 : decide (c = 0) = false) : CallsR Tryz.prog 38 #[pt A 0, vi c] w (fun v w' => ∃ ms' : List MTh, v = vi (doAns (tabT ms) q) ∧ ms'.length = ms.length ∧ Dw.Own w' B 38 8 cap ms'.length (ms'.flatMap MTh.cells) ∧ RowsO 42 3 lo w' ms' ∧ tabT ms' = doPre (tabT ms) q ∧ KeepsI lo hi [38, 42, 3] w w') := by
 refine Xx (n := 55) Tryz.func38 Z Tryz.ntmps38 Z ?_
 have E : KeepsI lo hi [38, 42, 3] w w := KeepsI.refl w
 have hlow : lo ≤ w.heap.size := by omega
 obtain ⟨hT, hc, hk⟩ := Yh hp
 have hco := Yq hc
 have hkp := (Y3 hk).1
 have h4 := Qp hT hk
 have hml := Jb hT
 have hTL := TabLen.ok hT
 have hck := Kj (tabT ms) q
 have hrok : rightOk r = true := by rw [← hr]; exact (V0 hT (k := q.run) (by rw [Qd]; exact hkp) q.a).1
 have hrk := Uq hrok
 refine Xa (Xe (v := vi 0) Z Z (Xc (Xq (Xa (Xb (v := vi c) Z Z (Y8 (q := !(decide (c = 0))) Z Z Z Z (Xc (Qg Z (Qq h0) (Xa (Xb (v := vi c) Z Z (Xe (v := vi c) Z Z (Xc ?_))))))))))))
 refine Xt (Yk ?_)
 have he := Wl (ts := tabT ms) (q := q) (show check1 (tabT ms) q < 0 by have := of_decide_eq_false h0; omega)
 exact ⟨vi c, Yp Z Z, ms, by rw [he.1]; rw [← G], Z, hB, hR, by rw [he.2], E⟩
theorem Og (q : Cl) (r : Rt) (lo B cap : Nat) (ms : List MTh) (w : World) (hB : Dw.Own w B 38 8 cap ms.length (ms.flatMap MTh.cells)) (hR : RowsO 42 3 lo w ms) (hlo : lo ≤ B) (hi : Nat) (hH : HiO hi ms) (hBlt : B < hi) (hhi : hi ≤ w.heap.size) (hp : callPoss (tabT ms) q = true) (hr : slotAt (tabT ms) q.run q.a = r) (A : Nat) (hA : Blk w A 57 #[.slice (pa B) ms.length cap, vi q.kind, vi q.run, vi q.a, vi q.b, vi q.n, vi r.th, vi r.ve, vb r.rd, vb r.wr, vb r.wk]) (hAhi : hi ≤ A) (c : Int) (ah : c = check1 (tabT ms) q) (h0 : decide (c = 0) = true) (h3 : decide (q.kind = 3) = true) : CallsR Tryz.prog 38 #[pt A 0, vi c] w (fun v w' => ∃ ms' : List MTh, v = vi (doAns (tabT ms) q) ∧ ms'.length = ms.length ∧ Dw.Own w' B 38 8 cap ms'.length (ms'.flatMap MTh.cells) ∧ RowsO 42 3 lo w' ms' ∧ tabT ms' = doPre (tabT ms) q ∧ KeepsI lo hi [38, 42, 3] w w') := by
 refine Xx (n := 55) Tryz.func38 Z Tryz.ntmps38 Z ?_
 have ae : KeepsI lo hi [38, 42, 3] w w := KeepsI.refl w
 have hlow : lo ≤ w.heap.size := by omega
 obtain ⟨hT, hc, hk⟩ := Yh hp
 have hco := Yq hc
 have hkp := (Y3 hk).1
 have h4 := Qp hT hk
 have hml := Jb hT
 have hTL := TabLen.ok hT
 have hck := Kj (tabT ms) q
 have hrok : rightOk r = true := by rw [← hr]; exact (V0 hT (k := q.run) (by rw [Qd]; exact hkp) q.a).1
 have hrk := Uq hrok
 refine Xa (Xe (v := vi 0) Z Z (Xc (Xq (Xa (Xb (v := vi c) Z Z (Y8 (q := !(decide (c = 0))) Z Z Z Z (Xc (Qc Z (Qk h0) (Xw (Xu (Xq (Xa ?_))))))))))))
 refine Xb (v := pt A 0) Z Z (Xv Z Z (Xd (o' := 1) Ks Z Z Z (Xd (o' := 1) Ja Z Z Z (Xh (v := vi q.kind) X1 Z (hA.cell Z) Z (X3 (q := decide (q.kind = 3)) Z Z Z Z (Xc (Qg Z h3 (Xa (Xl F0 (Xg Z Xk) Z (Di 3 (by decide) _) ?_)))))))))
 rintro _ af ⟨rfl, E⟩
 have G := KeepsI.low ae E
 refine Xb (v := pt A 0) Z Z (N9 (vs := [pt A 0]) (cs := []) Zy Z (Xg Z Xk) Z (Ic q r lo B cap ms _ (hB.grown0 E) (RowsO.low hR E) hlo hi hH hBlt (nt hhi G.size) hp hr A (hA.grown0 E) hAhi) ?_)
 rintro _ ag ⟨ad, rfl, ac, ab, O, J, V⟩
 refine Xe (v := vi 0) Z Z (Xc (Xt (Yk ?_)))
 have he := Bn (ts := tabT ms) (q := q) hr (of_decide_eq_true h3)
 exact ⟨vi 0, Yp Z Z, ad, by rw [he.1], ac, ab, O, by rw [he.2]; exact J, (KeepsI.trans G V)⟩
theorem W8 (q : Cl) (r : Rt) (lo B cap : Nat) (ms : List MTh) (w : World) (hB : Dw.Own w B 38 8 cap ms.length (ms.flatMap MTh.cells)) (hR : RowsO 42 3 lo w ms) (hlo : lo ≤ B) (hi : Nat) (hH : HiO hi ms) (hBlt : B < hi) (hhi : hi ≤ w.heap.size) (hp : callPoss (tabT ms) q = true) (hr : slotAt (tabT ms) q.run q.a = r) (A : Nat) (hA : Blk w A 57 #[.slice (pa B) ms.length cap, vi q.kind, vi q.run, vi q.a, vi q.b, vi q.n, vi r.th, vi r.ve, vb r.rd, vb r.wr, vb r.wk]) (hAhi : hi ≤ A) (c : Int) (bj : c = check1 (tabT ms) q) (h0 : decide (c = 0) = true) (h3 : decide (q.kind = 3) = false) (F : Nat) (hgo : goFn Tryz.prog F = true) (hstep : ∀ w1 : World, CallsR Tryz.prog 63 #[vi q.kind] w1 (fun v w' => v = .func (.func F) #[] #[] ∧ w1.grownBy w' none)) (hact : ∀ w1 : World, Dw.Own w1 B 38 8 cap ms.length (ms.flatMap MTh.cells) → RowsO 42 3 lo w1 ms → hi ≤ w1.heap.size → FarOk (tabT ms) q r → Blk w1 A 57 #[.slice (pa B) ms.length cap, vi q.kind, vi q.run, vi q.a, vi q.b, vi q.n, vi r.th, vi r.ve, vb r.rd, vb r.wr, vb r.wk] → CallsR Tryz.prog F #[pt A 0] w1 (fun v w' => ∃ ms' : List MTh, v = vi (far (tabT ms) q r).2 ∧ ms'.length = ms.length ∧ Dw.Own w' B 38 8 cap ms'.length (ms'.flatMap MTh.cells) ∧ RowsO 42 3 lo w' ms' ∧ tabT ms' = (far (tabT ms) q r).1 ∧ KeepsI lo hi [38, 42, 3] w1 w')) : CallsR Tryz.prog 38 #[pt A 0, vi c] w (fun v w' => ∃ ms' : List MTh, v = vi (doAns (tabT ms) q) ∧ ms'.length = ms.length ∧ Dw.Own w' B 38 8 cap ms'.length (ms'.flatMap MTh.cells) ∧ RowsO 42 3 lo w' ms' ∧ tabT ms' = doPre (tabT ms) q ∧ KeepsI lo hi [38, 42, 3] w w') := by
 refine Xx (n := 55) Tryz.func38 Z Tryz.ntmps38 Z ?_
 have bd : KeepsI lo hi [38, 42, 3] w w := KeepsI.refl w
 have hlow : lo ≤ w.heap.size := by omega
 obtain ⟨hT, hc, hk⟩ := Yh hp
 have hco := Yq hc
 have hkp := (Y3 hk).1
 have h4 := Qp hT hk
 have hml := Jb hT
 have hTL := TabLen.ok hT
 have hck := Kj (tabT ms) q
 have hrok : rightOk r = true := by rw [← hr]; exact (V0 hT (k := q.run) (by rw [Qd]; exact hkp) q.a).1
 have hrk := Uq hrok
 refine Xa (Xe (v := vi 0) Z Z (Xc (Xq (Xa (Xb (v := vi c) Z Z (Y8 (q := !(decide (c = 0))) Z Z Z Z (Xc (Qc Z (Qk h0) (Xw (Xu (Xq (Xa ?_))))))))))))
 refine Xb (v := pt A 0) Z Z (Xv Z Z (Xd (o' := 1) Ks Z Z Z (Xd (o' := 1) Ja Z Z Z (Xh (v := vi q.kind) X1 Z (hA.cell Z) Z (X3 (q := decide (q.kind = 3)) Z Z Z Z (Xc (Qc Z h3 (Xw (Xu (Xq (Xq (Yw (m := 8) (vals := [(19, pt A 0), (20, pt A 0), (21, pt A 0), (22, .slice (pa B) ms.length cap), (23, pt A 0), (24, pt A 0), (25, pt A 6), (26, .agg #[vi r.th, vi r.ve, vb r.rd, vb r.wr, vb r.wk])]) (fun w' => w.grownBy w' none) Yy (by kernel_rfl) (X6 _) ?_ ?_))))))))))))
 exact yl Z (fun _ _ k => Xb (v := pt A 0) Z Z k) (yl Z (fun _ _ k => Xv Z Z k) (yl Z (fun _ _ k => Xd (o' := 0) Gk Z Z Z k) (yl Z (fun _ au k => Xh (v := .slice (pa B) ms.length cap) U0 Z ((hA.grown0 au).cell Z) Z k) (yl Z (fun _ _ k => Xb (v := pt A 0) Z Z k) (yl Z (fun _ _ k => Xv Z Z k) (yl Z (fun _ _ k => Xd (o' := 6) G4 Z Z Z k) (yl Z (fun _ av k => Xp (vs := [vi r.th, vi r.ve, vb r.rd, vb r.wr, vb r.wk]) Yx Z Z ((hA.grown0 av).rangeL 6 5 Z) Z k) Y5)))))))
 intro be G
 have J := (RowsO.low hR G)
 have an := (hB.grown0 G)
 refine Xl Cp (Xg Z (Xg Z Xk)) Z (W9 r (by omega) _ ms _ _ (RowsO.tab J an) hTL (by omega)) ?_
 rintro _ bc ⟨rfl, E⟩
 have aj := KeepsI.low (KeepsI.low bd G) E
 refine Yl (b' := !live (tabT ms) r) Z Z Z (Xc (Xu (Xy Z (fun af => ?_) (fun af => ?_))))
 have a9 := Q2 af
 refine Xa (Xe (v := vi 0) Z Z (Xc (Xt (Yk ?_))))
 have he := U7 (ts := tabT ms) (q := q) (by have := of_decide_eq_true h0; omega) (of_decide_eq_false h3) (by rw [hr]; exact a9)
 exact ⟨vi 0, Yp Z Z, ms, by rw [he.1], Z, (an.grown0 E), (RowsO.low J E), by rw [he.2], aj⟩
 have ag := Qx af
 have hF : FarOk (tabT ms) q r := by rw [← hr]; exact Vi hp (by have := of_decide_eq_true h0; omega) (of_decide_eq_false h3) (by rw [hr]; exact ag)
 have hth := hF.th
 rw [Qd] at hth
 refine Xw (Xu (Xq (Yw (m := 14) (vals := [(29, pt A 0), (30, pt A 0), (31, pt A 0), (32, .slice (pa B) ms.length cap), (33, pt A 0), (34, pt A 0), (35, pt A 1), (36, pt A 2), (37, vi q.run), (38, pt A 0), (39, pt A 0), (40, pt A 6), (41, pt A 6), (42, vi r.th)]) (fun w' => bc.grownBy w' none) Yy (by kernel_rfl) (X6 _) ?_ ?_)))
 refine yl Z (fun _ _ k => Xb (v := pt A 0) Z Z k) (yl Z (fun _ _ k => Xv Z Z k) (yl Z (fun _ _ k => Xd (o' := 0) Gk Z Z Z k) (yl Z (fun _ aw k => Xh (v := .slice (pa B) ms.length cap) U0 Z ((((hA.grown0 G).grown0 E).grown0 aw).cell Z) Z k) (yl Z (fun _ _ k => Xb (v := pt A 0) Z Z k) (yl Z (fun _ _ k => Xv Z Z k) (yl Z (fun _ _ k => Xd (o' := 1) Ks Z Z Z k) (yl Z (fun _ _ k => Xd (o' := 2) Qv Z Z Z k) (yl Z (fun _ az k => Xh (v := vi q.run) X1 Z ((((hA.grown0 G).grown0 E).grown0 az).cell Z) Z k) (yl Z (fun _ _ k => Xb (v := pt A 0) Z Z k) (yl Z (fun _ _ k => Xv Z Z k) ?_))))))))))
 exact yl Z (fun _ _ k => Xd (o' := 6) G4 Z Z Z k) (yl Z (fun _ _ k => Xd (o' := 6) Yz Z Z Z k) (yl Z (fun _ a8 k => Xh (v := vi r.th) X1 Z ((((hA.grown0 G).grown0 E).grown0 a8).cell Z) Z k) Y5))
 intro bf ab
 have ad := (RowsO.low (RowsO.low J E) ab)
 have ap := ((an.grown0 E).grown0 ab)
 refine Xl Co (Xg Z (Xg Z (Xg Z Xk))) Z (W6 q.run r.th _ ms _ _ (RowsO.tab ad ap) hTL (by omega) hT (by omega) (by omega)) ?_
 rintro _ bg ⟨rfl, O⟩
 refine Xe (v := vb (sees (tabT ms) q.run r.th)) Z Z (Xc (Xu (Xa (Xb (v := pt A 0) Z Z (Xv Z Z (Xd (o' := 1) Ks Z Z Z (Xd (o' := 1) Ja Z Z Z ?_)))))))
 have aq := ((((hA.grown0 G).grown0 E).grown0 ab).grown0 O)
 refine Xh (v := vi q.kind) X1 Z (aq.cell Z) Z (Xl F0 (Xg Z Xk) Z (hstep _) ?_)
 rintro _ bh ⟨rfl, V⟩
 have ak := KeepsI.low (KeepsI.low (KeepsI.low aj ab) O) V
 refine Xb (v := pt A 0) Z Z (N9 (vs := [pt A 0]) (cs := []) hgo Z (Xg Z Xk) Z (hact _ ((ap.grown0 O).grown0 V) (RowsO.low (RowsO.low ad O) V) (nt hhi ak.size) hF (aq.grown0 V)) ?_)
 rintro _ bi ⟨ao, rfl, am, ai, ae, ac, ar⟩
 have al := KeepsI.trans ak ar
 refine Xe (v := vi (far (tabT ms) q r).2) Z Z (Xc (Xq (Xa (Xb (v := vb (sees (tabT ms) q.run r.th)) Z Z (Yl (b' := !sees (tabT ms) q.run r.th) Z Z Z (Xc (Xy Z (fun ah => ?_) (fun ah => ?_))))))))
 have ba := Q2 ah
 refine Xa (Xe (v := vi 0) Z Z (Xc (Xt (Yk ?_))))
 have he := Wh (ts := tabT ms) (q := q) hr (by have := of_decide_eq_true h0; omega) (of_decide_eq_false h3) ag hF
 rw [if_neg (by rw [ba]; exact Bool.false_ne_true)] at he
 exact ⟨vi 0, Yp Z Z, ao, by rw [he.1], am, ai, ae, by rw [he.2]; exact ac, al⟩
 have bb := Qx ah
 refine Xw (Xu (Xa (Xb (v := vi (far (tabT ms) q r).2) Z Z (Xe (v := vi (far (tabT ms) q r).2) Z Z (Xc (Xt ?_))))))
 have he := Wh (ts := tabT ms) (q := q) hr (by have := of_decide_eq_true h0; omega) (of_decide_eq_false h3) ag hF
 rw [if_pos bb] at he
 exact ⟨vi (far (tabT ms) q r).2, Yp Z Z, ao, by rw [he.1], am, ai, ae, by rw [he.2]; exact ac, al⟩
theorem M2 (q : Cl) (r : Rt) (lo B cap : Nat) (ms : List MTh) (w : World) (hB : Dw.Own w B 38 8 cap ms.length (ms.flatMap MTh.cells)) (hR : RowsO 42 3 lo w ms) (hlo : lo ≤ B) (hi : Nat) (hH : HiO hi ms) (hBlt : B < hi) (hhi : hi ≤ w.heap.size) (hp : callPoss (tabT ms) q = true) (hr : slotAt (tabT ms) q.run q.a = r) (A : Nat) (hA : Blk w A 57 #[.slice (pa B) ms.length cap, vi q.kind, vi q.run, vi q.a, vi q.b, vi q.n, vi r.th, vi r.ve, vb r.rd, vb r.wr, vb r.wk]) (hAhi : hi ≤ A) (c : Int) (ab : c = check1 (tabT ms) q) : CallsR Tryz.prog 38 #[pt A 0, vi c] w (fun v w' => ∃ ms' : List MTh, v = vi (doAns (tabT ms) q) ∧ ms'.length = ms.length ∧ Dw.Own w' B 38 8 cap ms'.length (ms'.flatMap MTh.cells) ∧ RowsO 42 3 lo w' ms' ∧ tabT ms' = doPre (tabT ms) q ∧ KeepsI lo hi [38, 42, 3] w w') := by
 by_cases e0 : c = 0
 have h0 : decide (c = 0) = true := decide_eq_true e0
 by_cases e3 : q.kind = 3
 exact Og q r lo B cap ms w hB hR hlo hi hH hBlt hhi hp hr A hA hAhi c ab h0 (decide_eq_true e3)
 have h3 : decide (q.kind = 3) = false := decide_eq_false e3
 have hco := Yq (Yh hp).2.1
 rcases (show q.kind = 1 ∨ q.kind = 2 ∨ q.kind = 4 ∨ q.kind = 5 ∨ q.kind = 6 ∨ q.kind = 7 ∨ q.kind = 8 ∨ q.kind = 9 by omega) with h | h | h | h | h | h | h | h
 exact W8 q r lo B cap ms w hB hR hlo hi hH hBlt hhi hp hr A hA hAhi c ab h0 h3 90 Zw (fun w1 => Dg _ (decide_eq_true h) w1) (fun w1 G O V J E => Ia q r lo B cap ms w1 G O hlo hi hH hBlt V J A E hAhi (decide_eq_true h))
 exact W8 q r lo B cap ms w hB hR hlo hi hH hBlt hhi hp hr A hA hAhi c ab h0 h3 91 Zx (fun w1 => Dh _ (decide_eq_true h) w1) (fun w1 G O V J E => Ib q r lo B cap ms w1 G O hlo hi hH hBlt V J A E hAhi (decide_eq_true h))
 exact W8 q r lo B cap ms w hB hR hlo hi hH hBlt hhi hp hr A hA hAhi c ab h0 h3 93 Zz (fun w1 => Dj _ (decide_eq_true h) w1) (fun w1 G O V J E => Ie q r lo B cap ms w1 G O hlo hi hH hBlt V J A E hAhi (decide_eq_true h))
 exact W8 q r lo B cap ms w hB hR hlo hi hH hBlt hhi hp hr A hA hAhi c ab h0 h3 94 Z0 (fun w1 => Dk _ (decide_eq_true h) w1) (fun w1 G O V J E => Ig q r lo B cap ms w1 G O hlo hi hH hBlt V J A E hAhi (decide_eq_true h))
 exact W8 q r lo B cap ms w hB hR hlo hi hH hBlt hhi hp hr A hA hAhi c ab h0 h3 95 Z1 (fun w1 => Dl _ (decide_eq_true h) w1) (fun w1 G O V J E => Il q r lo B cap ms w1 G O hlo hi hH hBlt V J A E hAhi (decide_eq_true h))
 exact W8 q r lo B cap ms w hB hR hlo hi hH hBlt hhi hp hr A hA hAhi c ab h0 h3 96 Z2 (fun w1 => Dm _ (decide_eq_true h) w1) (fun w1 G O V J E => Is q r lo B cap ms w1 G O hlo hi hH hBlt V J A E hAhi (decide_eq_true h))
 exact W8 q r lo B cap ms w hB hR hlo hi hH hBlt hhi hp hr A hA hAhi c ab h0 h3 97 Z3 (fun w1 => Dn _ (decide_eq_true h) w1) (fun w1 G O V J E => Iu q r lo B cap ms w1 G O hlo hi hH hBlt V J A E hAhi (decide_eq_true h))
 exact W8 q r lo B cap ms w hB hR hlo hi hH hBlt hhi hp hr A hA hAhi c ab h0 h3 98 Z4 (fun w1 => Do _ (decide_eq_true h) w1) (fun w1 G O V J E => Iv q r lo B cap ms w1 G O hlo hi hH hBlt V J A E hAhi (decide_eq_true h))
 exact Oh q r lo B cap ms w hB hR hlo hi hH hBlt hhi hp hr A hA hAhi c ab (decide_eq_false e0)
end Go.Proofs.YtjpgffmkcmcolaaGreatDoor
end
section
namespace Go.Proofs.YtjpgffmkcmcolaaGreatDoor
open Go.RowKit Go.Dw
set_option maxRecDepth 100000
set_option maxHeartbeats 4000000
set_option linter.unusedSimpArgs false
set_option linter.unusedVariables false
theorem Fl : goFn Tryz.prog 25 = true := by kernel_rfl
theorem Zc : goFn Tryz.prog 34 = true := by kernel_rfl
theorem Zd : goFn Tryz.prog 35 = true := by kernel_rfl
theorem Ze : goFn Tryz.prog 37 = true := by kernel_rfl
theorem Zf : goFn Tryz.prog 38 = true := by kernel_rfl
theorem K2 (q : Cl) (w : World) (ms : List MTh) (a : Option Addr) (c : Nat) (ht : TabAt w a ms) (hlen : TabLen ms) (hn : ms.length ≤ 1048576) (hE : ErrT w) : CallsR Tryz.prog 17 #[.slice a ms.length c, .agg #[vi q.kind, vi q.run, vi q.a, vi q.b, vi q.n]] w (fun v w' => ∃ (z : Option Addr) (cap : Nat) (xs : List MTh), v = .tuple #[.slice z xs.length cap, vi (callDo (tabT ms) q).2] ∧ TabG w.heap.size w' (z) xs ∧ tabT xs = (callDo (tabT ms) q).1 ∧ w.grownBy w' none) := by
 refine Xx (n := 43) Tryz.func17 Z Tryz.ntmps17 Z ?_
 have fw := World.grownBy.refl w none
 refine Xa (Qf (v := .agg #[vi q.kind, vi q.run, vi q.a, vi q.b, vi q.n]) (cs := #[vi q.kind, vi q.run, vi q.a, vi q.b, vi q.n]) Z Z Z ?_)
 intro au gt ac
 have gb := Yj ac fw
 have bd := low0 fw ac.grw
 refine Xe (v := .slice none 0 0) Z Z (Xe (v := vi 0) Z Z (Xc (Xq (Xa (Xb (v := .slice a ms.length c) Z Z (Xp (vs := [vi q.kind, vi q.run, vi q.a, vi q.b, vi q.n]) Y1 Z Z (ac.blk.rangeL 0 5 Z) Z (Xl Fp (Xg Z (Xg Z Xk)) Z (Lc q _ ms _ _ (TabAt.low ht bd) hlen (by omega)) ?_)))))))
 rintro _ ct ⟨rfl, ad⟩
 have af := low0 bd ad
 refine Yl (b' := !callPoss (tabT ms) q) Z Z Z (Xc (Xy Z (fun ba => ?_) (fun ba => ?_)))
 have fv := Q2 ba
 refine Xa (Xe (v := .slice none 0 0) Z Z (Xe (v := vi (-1)) Z Z (Xc (Xt (Yk ?_)))))
 rw [Gi fv]
 exact ⟨.tuple #[.slice none 0 0, vi (-1)], G9 Z Z Z, none, 0, [], Z, TabG.nil, Z, af⟩
 have av := Qx ba
 obtain ⟨ao, cz, az⟩ := Yh av
 have f9 := Yq cz
 have ga := (Y3 az).1
 have gl := Qp ao az
 have gj := Jb ao
 refine Xw (Xu (Xq ?_))
 obtain ⟨cd, gq, bp, cx, di, dm⟩ := SlAt.at (TabAt.low ht af).1 (Yi (xg ms (q.run - 1).toNat))
 have gf := TabLen.at hlen (xg ms (q.run - 1).toNat)
 obtain ⟨dt, gr, fy, cy, dk, dn⟩ := SlAt.at (TabAt.th (TabAt.low ht af) (xg ms (q.run - 1).toNat)).1 (Yi (xr (mAt ms (q.run - 1).toNat).t.slots (q.a).toNat))
 have gk := Hc ao (lq (q.run - 1).toNat ms.length) (lq (q.a).toNat (mAt ms (q.run - 1).toNat).t.slots.length)
 refine Qy (m := 14) [[], [0], [], [], [], [4], [4, 5], [3, 4, 5, 6], [3, 4, 5, 6, 7], [3, 4, 5, 6, 7, 8], [], [10], [3, 4, 5, 6, 7, 8, 9, 10, 11], [3, 4, 5, 6, 7, 8, 9, 10, 11, 12], [0, 1, 2, 3, 4, 5, 6, 7, 8, 9, 10, 11, 12, 13], [0, 1, 2, 3, 4, 5, 6, 7, 8, 9, 10, 11, 12, 13, 14], [0, 1, 2, 3, 4, 5, 6, 7, 8, 9, 10, 11, 12, 13, 14, 15]] (fun S F w' => ∃ (O : Nat) (E : Nat) (G : List MTh), ct.grownBy w' none ∧ F 0 = .slice a ms.length c ∧ F 3 = pt au 0 ∧ F 4 = .slice none 0 0 ∧ F 5 = vi 0 ∧ (S 1 = true → F 13 = .slice (pa O) G.length E ∧ w.heap.size ≤ O ∧ Dw.Own w' O 38 8 E G.length (G.flatMap MTh.cells) ∧ tabT G = tabT ms ∧ G.length = ms.length ∧ RowsO 42 3 w.heap.size w' G ∧ au < O ∧ ct.heap.size ≤ O) ∧ Vals S F [(0, 12, .slice a ms.length c), (2, 14, .agg #[vi q.kind, vi q.run, vi q.a, vi q.b, vi q.n]), (3, 15, .slice a ms.length c), (4, 16, pt au 1), (5, 17, vi q.run), (6, 18, vi (q.run - 1)), (7, 19, pt cd bp), (8, 20, pt cd (bp + 5)), (9, 21, .slice (mAt ms (q.run - 1).toNat).sa (mAt ms (q.run - 1).toNat).t.slots.length (mAt ms (q.run - 1).toNat).sc), (10, 22, pt au 2), (11, 23, vi q.a), (12, 24, pt dt fy), (13, 25, .agg #[vi (rAt (mAt ms (q.run - 1).toNat).t.slots (q.a).toNat).th, vi (rAt (mAt ms (q.run - 1).toNat).t.slots (q.a).toNat).ve, vb (rAt (mAt ms (q.run - 1).toNat).t.slots (q.a).toNat).rd, vb (rAt (mAt ms (q.run - 1).toNat).t.slots (q.a).toNat).wr, vb (rAt (mAt ms (q.run - 1).toNat).t.slots (q.a).toNat).wk])]) Yy (by kernel_rfl) ⟨0, 0, [], X6 _, Z, Z, Z, Z, Yt, J3 _⟩ ?_ ?_
 refine Xj (fun S F gu hS hbef hcl hI => ?_) ?_
 obtain ⟨O, E, G, c9, ce, du, dv, dw, V, hvs⟩ := hI
 exact Xb (v := .slice a ms.length c) ce Z (Xc ⟨O, E, G, c9, ce, du, dv, dw, X5 1 hS hcl Z, Vals.up 0 hvs Z Z Z⟩)
 refine Xj (fun S F gv hS hbef hcl hI => ?_) ?_
 obtain ⟨O, E, G, al, dx, dy, dz, d0, V, hvs⟩ := hI
 have ap := low0 af al
 refine Xl Ze (Xg (Vals.at 0 hvs Z (Xm 0 hbef Z)) Xk) Z (Rl _ ms _ _ (TabAt.low ht ap) hlen (by omega)) ?_
 rintro _ gw ⟨dr, bu, dq, rfl, bf, ak, cv, bv, c8⟩
 have ca := nt ap.size ak
 have ah := nl (((ac.blk.grown0 ad).grown0 al)).lt ak
 have cc := Hy bf
 exact Xc ⟨dr, bu, dq, (low0 al c8), dx, dy, dz, d0, fun _ => ⟨Z, ca, cv, bf, cc, (RowsO.mono bv ap.size), ah, (nt al.size ak)⟩, Vals.keep hvs Z⟩
 refine Xj (fun S F gx hS hbef hcl hI => ?_) ?_
 obtain ⟨O, E, G, bg, d1, cf, d2, d3, V, hvs⟩ := hI
 exact Xp (vs := [vi q.kind, vi q.run, vi q.a, vi q.b, vi q.n]) Y1 cf Z (((ac.blk.grown0 ad).grown0 bg).rangeL 0 5 Z) Z (Xc ⟨O, E, G, bg, d1, cf, d2, d3, V, Vals.up 1 hvs Z Z Z⟩)
 refine Xj (fun S F gy hS hbef hcl hI => ?_) ?_
 obtain ⟨O, E, G, da, cg, d4, d5, d6, V, hvs⟩ := hI
 exact Xb (v := .slice a ms.length c) cg Z (Xc ⟨O, E, G, da, cg, d4, d5, d6, V, Vals.up 2 hvs Z Z Z⟩)
 refine Xj (fun S F gz hS hbef hcl hI => ?_) ?_
 obtain ⟨O, E, G, db, d7, cj, d8, d9, V, hvs⟩ := hI
 exact Xd (o' := 1) Qv cj Z Z (Xc ⟨O, E, G, db, d7, cj, d8, d9, V, Vals.up 3 hvs Z Z Z⟩)
 refine Xj (fun S F g0 hS hbef hcl hI => ?_) ?_
 obtain ⟨O, E, G, bh, ea, eb, ed, ee, V, hvs⟩ := hI
 exact Xh (v := vi q.run) X1 (Vals.at 3 hvs Z (Xm 4 hbef Z)) (((ac.blk.grown0 ad).grown0 bh).cell Z) Z (Xc ⟨O, E, G, bh, ea, eb, ed, ee, V, Vals.up 4 hvs Z Z Z⟩)
 refine Xj (fun S F g1 hS hbef hcl hI => ?_) ?_
 obtain ⟨O, E, G, dc, ef, eg, eh, ei, V, hvs⟩ := hI
 exact Ys (c := q.run - 1) (Vals.at 4 hvs Z (Xm 5 hbef Z)) Z (by omega) (by omega) (by omega) Z (Xc ⟨O, E, G, dc, ef, eg, eh, ei, V, Vals.up 5 hvs Z Z Z⟩)
 refine Xj (fun S F g2 hS hbef hcl hI => ?_) ?_
 obtain ⟨O, E, G, de, ej, ek, em, eo, V, hvs⟩ := hI
 exact Xz Y2 (Vals.at 2 hvs Z (Xm 3 hbef Z)) (Vals.at 5 hvs Z (Xm 6 hbef Z)) cx di (by omega) (by omega) Z (Xc ⟨O, E, G, de, ej, ek, em, eo, V, Vals.up 6 hvs Z Z Z⟩)
 refine Xj (fun S F g3 hS hbef hcl hI => ?_) ?_
 obtain ⟨O, E, G, df, ep, er, eu, ew, V, hvs⟩ := hI
 exact Xd (o' := bp + 5) Qj (Vals.at 6 hvs Z (Xm 7 hbef Z)) Z Z (Xc ⟨O, E, G, df, ep, er, eu, ew, V, Vals.up 7 hvs Z Z Z⟩)
 refine Xj (fun S F g5 hS hbef hcl hI => ?_) ?_
 obtain ⟨O, E, G, bi, ex, ey, ez, e0, V, hvs⟩ := hI
 exact Xh (v := .slice (mAt ms (q.run - 1).toNat).sa (mAt ms (q.run - 1).toNat).t.slots.length (mAt ms (q.run - 1).toNat).sc) Jh (Vals.at 7 hvs Z (Xm 8 hbef Z)) ((X9 dm bi) 5 _ Z) Z (Xc ⟨O, E, G, bi, ex, ey, ez, e0, V, Vals.up 8 hvs Z Z Z⟩)
 refine Xj (fun S F g6 hS hbef hcl hI => ?_) ?_
 obtain ⟨O, E, G, dg, fa, ck, fb, fc, V, hvs⟩ := hI
 exact Xd (o' := 2) Km ck Z Z (Xc ⟨O, E, G, dg, fa, ck, fb, fc, V, Vals.up 9 hvs Z Z Z⟩)
 refine Xj (fun S F g7 hS hbef hcl hI => ?_) ?_
 obtain ⟨O, E, G, bj, fd, fe, ff, fg, V, hvs⟩ := hI
 exact Xh (v := vi q.a) X1 (Vals.at 9 hvs Z (Xm 10 hbef Z)) (((ac.blk.grown0 ad).grown0 bj).cell Z) Z (Xc ⟨O, E, G, bj, fd, fe, ff, fg, V, Vals.up 10 hvs Z Z Z⟩)
 refine Xj (fun S F g8 hS hbef hcl hI => ?_) ?_
 obtain ⟨O, E, G, dh, fh, fi, fj, fk, V, hvs⟩ := hI
 exact Xz Ka (Vals.at 8 hvs Z (Xm 9 hbef Z)) (Vals.at 10 hvs Z (Xm 11 hbef Z)) cy dk (by omega) (by omega) Z (Xc ⟨O, E, G, dh, fh, fi, fj, fk, V, Vals.up 11 hvs Z Z Z⟩)
 refine Xj (fun S F g9 hS hbef hcl hI => ?_) ?_
 obtain ⟨O, E, G, bk, fm, fo, fp, fq, V, hvs⟩ := hI
 exact Xp (vs := [vi (rAt (mAt ms (q.run - 1).toNat).t.slots (q.a).toNat).th, vi (rAt (mAt ms (q.run - 1).toNat).t.slots (q.a).toNat).ve, vb (rAt (mAt ms (q.run - 1).toNat).t.slots (q.a).toNat).rd, vb (rAt (mAt ms (q.run - 1).toNat).t.slots (q.a).toNat).wr, vb (rAt (mAt ms (q.run - 1).toNat).t.slots (q.a).toNat).wk]) Yx (Vals.at 11 hvs Z (Xm 12 hbef Z)) Z (Yr (X9 dn bk) 0 5 Z) Z (Xc ⟨O, E, G, bk, fm, fo, fp, fq, V, Vals.up 12 hvs Z Z Z⟩)
 exact Q5
 intro S F ia hall hI
 obtain ⟨O, E, G, bl, fr, ft, gm, gp, V, hvs⟩ := hI
 have be := low0 af bl
 obtain ⟨fu, a8, an, ag, gg, aw, bq, fx⟩ := V (hall 1 (by decide))
 refine Y6 (ps := [(0, .slice (pa O) G.length E), (1, .agg #[vi q.kind, vi q.run, vi q.a, vi q.b, vi q.n]), (2, .agg #[vi (rAt (mAt ms (q.run - 1).toNat).t.slots (q.a).toNat).th, vi (rAt (mAt ms (q.run - 1).toNat).t.slots (q.a).toNat).ve, vb (rAt (mAt ms (q.run - 1).toNat).t.slots (q.a).toNat).rd, vb (rAt (mAt ms (q.run - 1).toNat).t.slots (q.a).toNat).wr, vb (rAt (mAt ms (q.run - 1).toNat).t.slots (q.a).toNat).wk])]) (v := .agg #[.slice (pa O) G.length E, vi q.kind, vi q.run, vi q.a, vi q.b, vi q.n, vi (rAt (mAt ms (q.run - 1).toNat).t.slots (q.a).toNat).th, vi (rAt (mAt ms (q.run - 1).toNat).t.slots (q.a).toNat).ve, vb (rAt (mAt ms (q.run - 1).toNat).t.slots (q.a).toNat).rd, vb (rAt (mAt ms (q.run - 1).toNat).t.slots (q.a).toNat).wr, vb (rAt (mAt ms (q.run - 1).toNat).t.slots (q.a).toNat).wk]) (Xn fu (Xn (Vals.at 1 hvs Z (hall 2 (by decide))) (Xn (Vals.at 12 hvs Z (hall 13 (by decide))) X8))) (by kernel_rfl) Z (Qf (v := .agg #[.slice (pa O) G.length E, vi q.kind, vi q.run, vi q.a, vi q.b, vi q.n, vi (rAt (mAt ms (q.run - 1).toNat).t.slots (q.a).toNat).th, vi (rAt (mAt ms (q.run - 1).toNat).t.slots (q.a).toNat).ve, vb (rAt (mAt ms (q.run - 1).toNat).t.slots (q.a).toNat).rd, vb (rAt (mAt ms (q.run - 1).toNat).t.slots (q.a).toNat).wr, vb (rAt (mAt ms (q.run - 1).toNat).t.slots (q.a).toNat).wk]) (cs := #[.slice (pa O) G.length E, vi q.kind, vi q.run, vi q.a, vi q.b, vi q.n, vi (rAt (mAt ms (q.run - 1).toNat).t.slots (q.a).toNat).th, vi (rAt (mAt ms (q.run - 1).toNat).t.slots (q.a).toNat).ve, vb (rAt (mAt ms (q.run - 1).toNat).t.slots (q.a).toNat).rd, vb (rAt (mAt ms (q.run - 1).toNat).t.slots (q.a).toNat).wr, vb (rAt (mAt ms (q.run - 1).toNat).t.slots (q.a).toNat).wk]) Z Z Z ?_)
 intro ae ib ab
 have gc := Yj ab be
 have cl := ((ac.blk.grown0 ad).grown0 bl)
 have br := Xr ab (cl).lt
 have bt := Xr ab (an).lt
 have aq := low0 be ab.grw
 have a9 : HiO ae G := by rw [ab.eq]; exact RowsO.hi aw
 refine Xe (v := pt ae 0) Z Z (Xc (Xu (Xa (Xb (v := pt ae 0) Z Z (Xb (v := .slice a ms.length c) fr Z (Xp (vs := [vi q.kind, vi q.run, vi q.a, vi q.b, vi q.n]) Y1 ft Z ((cl.grown0 ab.grw).rangeL 0 5 Z) Z (Xl Fl (Xg Z (Xg Z Xk)) Z (Ho q _ ms _ _ (TabAt.low ht aq) hlen (by omega) (ErrT.grown0 hE aq)) ?_)))))))
 rintro _ ic ⟨rfl, ai⟩
 have f8 := Gs (ts := tabT ms) (q := q)
 have dl : callPoss (tabT G) q = true := by rw [ag]; exact av
 have dp : slotAt (tabT G) q.run q.a = (rAt (mAt ms (q.run - 1).toNat).t.slots (q.a).toNat) := by rw [ag]; exact Jq.symm
 have bz : chkAll (tabT ms) q = check1 (tabT G) q := by rw [ag]; exact Jr av
 have cm := ((an.grown0 ab.grw).grown0 ai)
 have bn := (ab.blk.grown0 ai)
 have gh := (cm).lt
 have gi := (bn).lt
 refine Xl Zf (Xg Z (Xg Z Xk)) Z (M2 q (rAt (mAt ms (q.run - 1).toNat).t.slots (q.a).toNat) w.heap.size O E G _ cm (RowsO.low (RowsO.low aw ab.grw) ai) a8 ae a9 (by omega) (by omega) dl dp ae bn (Nat.le_refl _) (chkAll (tabT ms) q) bz) ?_
 rintro _ ie ⟨J, rfl, bm, bc, bw, am, bb⟩
 rw [ag] at am
 refine Xe (v := vi (doAns (tabT ms) q)) (congrArg (fun T : List Th => Value.int .i64 (doAns T q)) ag) Z (Xc (Xa (Xb (v := pt ae 0) Z Z ?_)))
 have cn := (Blk.keepsI bn bb (Or.inr (Or.inr (by decide))))
 refine Xl Rr (Xg Z Xk) Z (Wc q (rAt (mAt ms (q.run - 1).toNat).t.slots (q.a).toNat) O E J _ bc (by omega) ae (by rw [bm]; exact cn) (by omega)) ?_
 rintro _ ig ⟨rfl, aj⟩
 refine Xb (v := vi (doAns (tabT ms) q)) Z Z (Xv Z Z (Xd (o' := (q.run - 1).toNat * 8 + 4) Q6 Z Z Z ?_))
 have co := (bc.grown0 aj)
 refine Jj (g := MTh.cells) (j := 4) (z := (mAt J (q.run - 1).toNat)) (z' := (⟨⟨(mAt J (q.run - 1).toNat).t.kind, (mAt J (q.run - 1).toNat).t.lab, (mAt J (q.run - 1).toNat).t.ve, doAns (tabT ms) q, (mAt J (q.run - 1).toNat).t.slots, (mAt J (q.run - 1).toNat).t.queue, (mAt J (q.run - 1).toNat).t.to⟩, (mAt J (q.run - 1).toNat).sa, (mAt J (q.run - 1).toNat).sc, (mAt J (q.run - 1).toNat).qa, (mAt J (q.run - 1).toNat).qc⟩ : MTh)) (v := vi (doAns (tabT ms) q)) X1 Z Z Z Yo co (xg J (q.run - 1).toNat) (by omega) Z Z ?_
 intro fz cw ar
 have bx : RowsO 42 3 w.heap.size fz (J.set (q.run - 1).toNat (⟨⟨(mAt J (q.run - 1).toNat).t.kind, (mAt J (q.run - 1).toNat).t.lab, (mAt J (q.run - 1).toNat).t.ve, doAns (tabT ms) q, (mAt J (q.run - 1).toNat).t.slots, (mAt J (q.run - 1).toNat).t.queue, (mAt J (q.run - 1).toNat).t.to⟩, (mAt J (q.run - 1).toNat).sa, (mAt J (q.run - 1).toNat).sc, (mAt J (q.run - 1).toNat).qa, (mAt J (q.run - 1).toNat).qc⟩ : MTh)) := RowsO.set (RowsO.own (RowsO.low bw aj) ar co (by decide) (by decide)) (lq (q.run - 1).toNat J.length) ⟨rfl, rfl, rfl⟩ ⟨rfl, rfl, rfl⟩
 refine Xc (Xa (Xb (v := pt ae 0) Z Z (Xv Z Z (Xd (o' := 0) Gk Z Z Z (Xh (v := .slice (pa O) G.length E) U0 Z (((cn.grown0 aj).gn ar).cell Z) Z (Xb (v := vi (doAns (tabT ms) q)) Z Z (Xe (v := .slice (pa O) G.length E) Z Z (Xe (v := vi (doAns (tabT ms) q)) Z Z (Xc (Xt ?_))))))))))
 rw [Qs av, Um, U8]
 refine ⟨.tuple #[.slice (pa O) G.length E, vi (doAns (tabT ms) q)], G9 Z Z Z, (pa O), E, J.set (q.run - 1).toNat (⟨⟨(mAt J (q.run - 1).toNat).t.kind, (mAt J (q.run - 1).toNat).t.lab, (mAt J (q.run - 1).toNat).t.ve, doAns (tabT ms) q, (mAt J (q.run - 1).toNat).t.slots, (mAt J (q.run - 1).toNat).t.queue, (mAt J (q.run - 1).toNat).t.to⟩, (mAt J (q.run - 1).toNat).sa, (mAt J (q.run - 1).toNat).sc, (mAt J (q.run - 1).toNat).qa, (mAt J (q.run - 1).toNat).qc⟩ : MTh), ?_, RowsO.tabG bx cw a8, ?_, (low1 (low0 (KeepsI.grown (low0 aq ai) bb (by omega)) aj) ar (by omega))⟩
 rw [List.length_set, bm]
 refine (Nq (n := doAns (tabT ms) q) Z).trans ?_
 rw [am]
theorem Ku (q : Cl) (w : World) (ms : List MTh) (a : Option Addr) (c : Nat) (ht : TabAt w a ms) (hlen : TabLen ms) (hn : ms.length ≤ 1048576) : CallsR Tryz.prog 16 #[.slice a ms.length c, .agg #[vi q.kind, vi q.run, vi q.a, vi q.b, vi q.n]] w (fun v w' => ∃ (B : Nat) (cap : Nat) (xs : List MTh), v = .tuple #[.slice (pa B) xs.length cap, vi (callDo (tabT ms) q).2] ∧ TabG w.heap.size w' (pa B) xs ∧ tabT xs = (callDo (tabT ms) q).1 ∧ w.grownBy w' none) := by
 refine Xx (n := 28) Tryz.func16 Z Tryz.ntmps16 Z ?_
 have eg := World.grownBy.refl w none
 refine Xa (Qf (v := .agg #[vi q.kind, vi q.run, vi q.a, vi q.b, vi q.n]) (cs := #[vi q.kind, vi q.run, vi q.a, vi q.b, vi q.n]) Z Z Z ?_)
 intro bg eh ah
 have ew := Yj ah eg
 have bf := low0 eg ah.grw
 refine Xe (v := .slice none 0 0) Z Z (Xe (v := vi 0) Z Z (Xc (Xq (X7 (fun f' w' => (f' 0 = .slice a ms.length c ∧ f' 3 = pt bg 0 ∧ f' 4 = .slice none 0 0 ∧ f' 5 = vi 0 ∧ f' 20 = vb (((!tableOk (tabT ms)) || (!callOk q)) || (!kindAt (tabT ms) q.run 3))) ∧ eh.grownBy w' none) ?_ ?_))))
 refine Xb (v := .slice a ms.length c) Z Z (Xl Cj (Xg Z Xk) Z (G0  _ ms _ _ (TabAt.low ht bf) hlen (by omega)) ?_)
 rintro _ ft ⟨rfl, ap⟩
 refine Yl (b' := !tableOk (tabT ms)) Z Z Z (Xb (v := vb (!tableOk (tabT ms))) Z Z ?_)
 rcases Yf (!tableOk (tabT ms)) with ac | ac
 have d9 := Q2 ac
 iterate 3 refine Xi rfl rfl rfl ac rfl ?_
 refine Xs (v := vb true) Z ac Z Z (Xb (v := vb true) Z Z ?_)
 iterate 5 refine Xi rfl rfl rfl rfl rfl ?_
 exact Xs (v := vb true) Z Z Z Z (Xc ⟨⟨Z, Z, Z, Z, (cB (by simp [ac, d9]))⟩, ap⟩)
 have bx := Qx ac
 refine Xf Z Z Z ac ?_
 have cc := (ah.blk.grown0 ap)
 refine Xp (vs := [vi q.kind, vi q.run, vi q.a, vi q.b, vi q.n]) Y1 Z Z (cc.rangeL 0 5 Z) Z (Xf Z Z Z ac (Xl Fo (Xg Z Xk) Z (N3 q _) ?_))
 rintro _ fu ⟨rfl, a8⟩
 refine Xf Z Z Z ac (Yl (b' := !callOk q) Z Z Z (Xo (v := vb (!callOk q)) Z ac Z Z (Xb (v := vb (!callOk q)) Z Z ?_)))
 rcases Yf (!callOk q) with ab | ab
 have ea := Q2 ab
 iterate 5 refine Xi rfl rfl rfl ab rfl ?_
 exact Xs (v := vb true) Z ab Z Z (Xc ⟨⟨Z, Z, Z, Z, (cB (by simp [ac, bx, ab, ea]))⟩, (grown_trans ap a8)⟩)
 have bz := Qx ab
 have er := Yq bz
 refine Xf Z Z Z ab (Xb (v := .slice a ms.length c) Z Z (Xf Z Z Z ab (Xd (o' := 1) Qv Z Z Z (Xf Z Z Z ab (Xh (v := vi q.run) X1 Z ((cc.grown0 a8).cell Z) Z (Xf Z Z Z ab (Xl Ck (Xg Z (Xg Z Xk)) Z (Lr q.run (by omega) _ ms _ _ (TabAt.low ht (low0 (low0 bf ap) a8)) hlen (by omega)) ?_)))))))
 rintro _ fv ⟨rfl, cj⟩
 exact Xf Z Z Z ab (Yl (b' := !kindAt (tabT ms) q.run 3) Z Z Z (Xo (v := vb (!kindAt (tabT ms) q.run 3)) Z ab Z Z (Xc ⟨⟨Z, Z, Z, Z, (cB (by simp [ac, bx, ab, bz]))⟩, (grown_trans (grown_trans ap a8) cj)⟩)))
 rintro fp aw ⟨⟨cz, c8, c9, da, db⟩, a9⟩
 have ai := low0 bf a9
 refine Xy db (fun av => ?_) (fun av => ?_)
 refine Xa (Ya (ps := []) (e := 38) (cs := (([] : List MTh).flatMap MTh.cells).toArray) X8 (fun _ => by kernel_rfl) Z ?_)
 intro bh fw be
 have ex := Yj be ai
 have bn := Xr be ((ah.blk.grown0 a9)).lt
 refine Xe (v := .slice (pa bh) 0 0) Z Z (Xe (v := vi (-1)) Z Z (Xc (Xt (Yk ?_))))
 rw [Gi (Hr av)]
 exact ⟨.tuple #[.slice (pa bh) 0 0, vi (-1)], G9 Z Z Z, bh, 0, [], Z, TabG.nil, Z, (low0 ai be.grw)⟩
 have ca := Kq av
 have eb := Kq ca
 have fq := Qx eb
 have ed := Kr ca
 have ee := Qx ed
 have eu := Yq ee
 have ef := Kr av
 have fr := Qx ef
 refine Xw (Xu (Xq (Qy (m := 6) [[], [0], [], [0, 1, 2], [0, 1, 2, 3], [0, 1, 2, 3], [0, 1, 2, 3, 4, 5], [0, 1, 2, 3, 4, 5, 6]] (fun S F w' => ∃ (O : Nat) (E : Nat) (G : List MTh) (J : List MTh), aw.grownBy w' none ∧ F 0 = .slice a ms.length c ∧ F 3 = pt bg 0 ∧ F 4 = .slice none 0 0 ∧ F 5 = vi 0 ∧ (S 0 = true → F 22 = .slice a ms.length c) ∧ (S 1 = true → F 23 = .slice (pa O) G.length E ∧ w.heap.size ≤ O ∧ (S 3 = false → Dw.Own w' O 38 8 E G.length (G.flatMap MTh.cells)) ∧ tabT G = tabT ms ∧ aw.heap.size ≤ O ∧ (S 3 = false → RowsO 42 3 aw.heap.size w' G) ∧ bg < O ∧ aw.heap.size ≤ O) ∧ (S 2 = true → F 24 = .agg #[vi q.kind, vi q.run, vi q.a, vi q.b, vi q.n]) ∧ (S 3 = true → F 25 = .tuple #[.slice (pa O) J.length E, vi (doCall (tabT G) q).2] ∧ J.length = G.length ∧ tabT J = (doCall (tabT G) q).1 ∧ Dw.Own w' O 38 8 E J.length (J.flatMap MTh.cells) ∧ RowsO 42 3 aw.heap.size w' J) ∧ (S 4 = true → F 26 = .slice (pa O) J.length E) ∧ (S 5 = true → F 27 = vi (doCall (tabT G) q).2)) Yy (by kernel_rfl) ⟨0, 0, [], [], X6 _, cz, c8, c9, da, Yt, Yt, Yt, Yt, Yt, Yt⟩ ?_ ?_)))
 refine Xj (fun S F fx hS hbef hcl hI => ?_) ?_
 obtain ⟨O, E, G, J, cl, bv, dc, de, df, ad, af, ae, an, bc, bd⟩ := hI
 exact Xb (v := .slice a ms.length c) bv Z (Xc ⟨O, E, G, J, cl, bv, dc, de, df, fun _ => Z, X5 1 hS hcl Z, ae, X5 3 hS hcl Z, X5 4 hS hcl Z, X5 5 hS hcl Z⟩)
 refine Xj (fun S F fy hS hbef hcl hI => ?_) ?_
 obtain ⟨O, E, G, J, aj, dg, dh, di, dk, ad, af, ae, an, bc, bd⟩ := hI
 have bi := low0 ai aj
 obtain dl := ad (Xm 0 hbef rfl)
 refine Xl Zd (Xg dl Xk) Z (Cw _ ms _ _ (TabAt.low ht bi) hlen (by omega)) ?_
 rintro _ fz ⟨cy, bp, cx, rfl, cg, am, ce, bq, ck⟩
 have bu := nt bi.size am
 have au := nl (((ah.blk.grown0 a9).grown0 aj)).lt am
 have bt := nt aj.size am
 exact Xc ⟨cy, bp, cx, J, (low0 aj ck), dg, dh, di, dk, ad, fun _ => ⟨Z, bu, fun _ => ce, cg, bt, fun _ => (RowsO.mono bq aj.size), au, (nt aj.size am)⟩, ae, X5 3 hS hcl Z, X5 4 hS hcl Z, X5 5 hS hcl Z⟩
 refine Xj (fun S F f8 hS hbef hcl hI => ?_) ?_
 obtain ⟨O, E, G, J, bj, dm, bw, dn, dp, ad, af, ae, an, bc, bd⟩ := hI
 exact Xp (vs := [vi q.kind, vi q.run, vi q.a, vi q.b, vi q.n]) Y1 bw Z (((ah.blk.grown0 a9).grown0 bj).rangeL 0 5 Z) Z (Xc ⟨O, E, G, J, bj, dm, bw, dn, dp, ad, af, fun _ => Z, X5 3 hS hcl Z, X5 4 hS hcl Z, X5 5 hS hcl Z⟩)
 refine Xj (fun S F f9 hS hbef hcl hI => ?_) ?_
 obtain ⟨O, E, G, J, cm, dq, dr, dt, du, ad, af, ae, an, bc, bd⟩ := hI
 obtain ez := ad (Xm 0 hbef rfl)
 obtain ⟨dv, bb, ag, ao, ba, al, V, aq⟩ := af (Xm 1 hbef rfl)
 obtain dw := ae (Xm 2 hbef rfl)
 have cv : callPoss (tabT G) q = true := by rw [ao]; exact Wk av
 have ey := ai.size
 refine Xl Zc (Xg dv (Xg dw Xk)) Z (Ei q aw.heap.size O E G _ (ag hS) (al hS) (by omega) cv) ?_
 rintro _ ga ⟨cw, rfl, bl, cf, br, bm, cd⟩
 exact Xc ⟨O, E, G, cw, (KeepsI.grown cm cd (Nat.le_refl _)), dq, dr, dt, du, ad, fun h => let ⟨ei, ej, gg, ek, em, gh, eo, ep⟩ := af h; ⟨ei, ej, fun h => J8 h, ek, em, fun h => J8 h, eo, ep⟩, ae, fun _ => ⟨(congrArg (fun n : Nat => Value.tuple #[.slice (pa O) n E, vi (doCall (tabT G) q).2]) bl.symm), bl, bm, cf, br⟩, X5 4 hS hcl Z, X5 5 hS hcl Z⟩
 refine Xj (fun S F gb hS hbef hcl hI => ?_) ?_
 obtain ⟨O, E, G, J, cn, dx, dy, dz, d0, ad, af, ae, an, bc, bd⟩ := hI
 obtain e0 := ad (Xm 0 hbef rfl)
 obtain ⟨fa, bb, ag, ao, ba, al, V, aq⟩ := af (Xm 1 hbef rfl)
 obtain fb := ae (Xm 2 hbef rfl)
 obtain ⟨d1, bk, ar, ak, az⟩ := an (Xm 3 hbef rfl)
 exact X4 (v := .slice (pa O) J.length E) d1 Z Z (Xc ⟨O, E, G, J, cn, dx, dy, dz, d0, ad, af, ae, an, fun _ => Z, bd⟩)
 refine Xj (fun S F gc hS hbef hcl hI => ?_) ?_
 obtain ⟨O, E, G, J, co, d2, d3, d4, d5, ad, af, ae, an, bc, bd⟩ := hI
 obtain fc := ad (Xm 0 hbef rfl)
 obtain ⟨fd, bb, ag, ao, ba, al, V, aq⟩ := af (Xm 1 hbef rfl)
 obtain fe := ae (Xm 2 hbef rfl)
 obtain ⟨d6, bk, ar, ak, az⟩ := an (Xm 3 hbef rfl)
 exact X4 (v := vi (doCall (tabT G) q).2) d6 Z Z (Xc ⟨O, E, G, J, co, d2, d3, d4, d5, ad, af, ae, an, bc, fun _ => Z⟩)
 exact Q5
 intro S F gf hall hI
 obtain ⟨O, E, G, J, ct, ff, fg, fh, fi, ad, af, ae, an, bc, bd⟩ := hI
 obtain fj := ad (hall 0 (by decide))
 obtain ⟨fk, bb, ag, ao, ba, al, V, aq⟩ := af (hall 1 (by decide))
 obtain fm := ae (hall 2 (by decide))
 obtain ⟨fo, bk, ar, ak, az⟩ := an (hall 3 (by decide))
 obtain d7 := bc (hall 4 (by decide))
 obtain d8 := bd (hall 5 (by decide))
 refine Xe (v := .slice (pa O) J.length E) d7 Z (Xe (v := vi (doCall (tabT G) q).2) d8 Z (Xc (Xu (Xt ?_))))
 rw [Qs (Wk av), ← ao]
 exact ⟨.tuple #[.slice (pa O) J.length E, vi (doCall (tabT G) q).2], G9 Z Z Z, O, E, J, Z, TabG.mono (RowsO.tabG az ak (by omega)) ai.size, ar, (low0 ai ct)⟩
end Go.Proofs.YtjpgffmkcmcolaaGreatDoor
end
section
namespace Go.Proofs.YtjpgffmkcmcolaaGreatDoor
open Go.RowKit Go.Dw
set_option maxRecDepth 100000
set_option maxHeartbeats 4000000
set_option linter.unusedSimpArgs false
set_option linter.unusedVariables false
theorem Hu : goFn Tryz.prog 20 = true := by kernel_rfl
theorem O9 : goFn Tryz.prog 26 = true := by kernel_rfl
theorem Za : goFn Tryz.prog 27 = true := by kernel_rfl
theorem Fm : goFn Tryz.prog 28 = true := by kernel_rfl
theorem Zb : goFn Tryz.prog 30 = true := by kernel_rfl
theorem J0 (bs : List Int) (a : Option Addr) (c : Nat) (w : World) (d0 : SlAt w a 1 (bs.map bcell)) (hb : ∀ b ∈ bs, 0 ≤ b ∧ b ≤ 255) (hn : bs.length ≤ 1048576) (hc : bs.length ≤ c) : CallsR Tryz.prog 15 #[.slice a bs.length c] w (fun v w' => ∃ (B cap : Nat) (ms : List MTh) (q : Cl), v = .tuple #[.slice (pa B) ms.length cap, .agg #[vi q.kind, vi q.run, vi q.a, vi q.b, vi q.n]] ∧ TabG w.heap.size w' (pa B) ms ∧ Small ms ∧ (3 ≤ ms.length ∧ ms.length ≤ 8) ∧ ((0 ≤ q.kind ∧ q.kind ≤ 10) ∧ (1 ≤ q.run ∧ q.run ≤ (ms.length : Int)) ∧ (-1 ≤ q.a ∧ q.a ≤ 4) ∧ (0 ≤ q.b ∧ q.b ≤ 3) ∧ -1 ≤ q.n ∧ q.n ≤ 100) ∧ w.grownBy w' none) := by
 refine Xx (n := 35) Tryz.func15 Z Tryz.ntmps15 Z ?_
 have cw := World.grownBy.refl w none
 have hs := SlAt.lt Kl (by omega) d0
 refine Xa (Xe (v := .slice none 0 0) Z Z (Ye (cs := #[vi 0, vi 0, vi 0, vi 0, vi 0]) Uh Z Z ?_))
 intro ce d8 ao
 have dh := Yj ao cw
 have bn := low0 cw ao.grw
 refine Xc (Xa (Xb (v := .slice a bs.length c) Z Z (Xl O9 (Xg Z Xk) Z (Cx bs a c _ (by omega) (by omega)) ?_)))
 rintro _ da ⟨V, rfl, bh, bx, bt⟩
 have al := low0 bn bt
 have dk := nt bn.size bh
 have cc := nl (ao.blk).lt bh
 refine Xe (v := pt V 0) Z Z (Xc (Xa (Xb (v := pt V 0) Z Z ?_)))
 have cg := (ao.blk.grown0 bt)
 have dl := (cg).lt
 have dm := (bx).lt
 refine Xl Za (Xg Z Xk) Z (Mw 0 (by omega) _ V (bs.take 2000) _ _ _ bx (by omega) (SlLt.low0 (SlLt.take hs 2000) al) (by first | exact hb | exact fun b h => hb b (List.mem_of_mem_take h)) (by first | omega | (rw [List.length_take]; omega))) ?_
 rintro _ db ⟨J, G, E, cz, rfl, be, ah, ar, dr, dt, cn, bu⟩
 have bp := low1 al bu (by omega)
 have aq := ah.len
 obtain ⟨hi, hhi⟩ : ∃ n, n = db.heap.size := ⟨_, rfl⟩
 have bf := be
 have hTH := TabG.hi be
 rw [← hhi] at hTH
 refine Xe (v := .slice (pa J) E.length G) Z Z (Xc (Xa (Xb (v := pt V 0) Z Z (Xb (v := .slice (pa J) E.length G) Z Z (Xl Fm (Xg Z (Xg Z Xk)) Z (Nn cz (by omega) _ V (bs.take 2000) _ _ _ cn (by omega) (SlLt.low0 (SlLt.take hs 2000) bp) (by first | exact hb | exact fun b h => hb b (List.mem_of_mem_take h)) (by first | omega | (rw [List.length_take]; omega)) E _ _ _ bf (by omega) aq (by omega)) ?_)))))
 rintro _ d9 ⟨ad, c8, rfl, dy, du, dv, bz, au⟩
 have bq := low1 bp au (by omega)
 refine Ye (cs := #[vi 0, vi 0, vi 0, vi 0, vi 0]) Uh Z Z ?_
 intro bk ea O
 have di := Yj O bq
 have cx : hi ≤ bk := nt (nt (Nat.le_of_eq hhi) au.size) (Nat.le_of_eq O.eq.symm)
 have cj := ((cg.gn bu).gn au)
 have ca := Xr O (cj).lt
 have cd := Xr O (bz).lt
 refine X0 (vs := [vi ad.kind, vi ad.run, vi ad.a, vi ad.b, vi ad.n]) (cs' := #[vi ad.kind, vi ad.run, vi ad.a, vi ad.b, vi ad.n]) Y1 Z Z Z (by simp [Value.oneCell']) O.blk (Nat.le_of_ble_eq_true Z) Z ?_
 intro eb aj
 refine Xc (Xq (Xa (Xe (v := vi 0) Z Z (Xc (Yc (Qm (fun mm f' w' => ∃ (i : Nat) (p1 : Int) (q1 : Cl), mm = 4 - i ∧ i ≤ 4 ∧ (0 ≤ p1 ∧ p1 ≤ 100000 + 100 * (i : Int)) ∧ ((0 ≤ q1.kind ∧ q1.kind ≤ 10) ∧ (1 ≤ q1.run ∧ q1.run ≤ (E.length : Int)) ∧ (-1 ≤ q1.a ∧ q1.a ≤ 4) ∧ (0 ≤ q1.b ∧ q1.b ≤ 3) ∧ -1 ≤ q1.n ∧ q1.n ≤ 100) ∧ TabG da.heap.size w' (pa J) E ∧ f' 7 = vi (i : Int) ∧ f' 2 = .slice none 0 0 ∧ f' 3 = pt ce 0 ∧ f' 4 = pt V 0 ∧ f' 5 = .slice (pa J) E.length G ∧ f' 6 = pt bk 0 ∧ w.grownBy w' none ∧ Blk w' ce 25 #[vi 0, vi 0, vi 0, vi 0, vi 0] ∧ Blk w' bk 25 #[vi q1.kind, vi q1.run, vi q1.a, vi q1.b, vi q1.n] ∧ Blk w' V 79 #[.slice a (bs.take 2000).length c, vi p1]) (4 - 0) ⟨0, c8, ad, Z, (Nat.zero_le _), (by omega), (by omega), (TabG.ge (TabG.low (TabG.lt bf au (by omega)) O.grw) aj.grw hTH (by omega)), Z, Z, Z, Z, Z, Z, (low1 (low0 bq O.grw) aj.grw (by omega)), ((cj.grown0 O.grw).gn aj.grw), aj.blk, ((bz.grown0 O.grw).gn aj.grw)⟩ ?_))))))
 rintro mm d1 dc ⟨i, p1, q1, dq, em, hpp, hcb, hGl, cf, cv, ai, bl, am, an, a9, bi, bv, cy⟩
 refine Xq (Xa (Xb (v := vi (i : Int)) cf Z (Qa (q := decide ((i : Int) < 4)) Z Z Z Z (Xb (v := vb (decide ((i : Int) < 4))) Z Z ?_))))
 rcases Yf (decide ((i : Int) < 4)) with ag | ag
 have d2 := of_decide_eq_true ag
 refine Xf Z Z Z ag (Xb (v := pt V 0) bl Z (Xf Z Z Z ag (Xl Qz (Xg Z (Xg Z Xk)) Z (Qh p1 4 (by omega) _ V (bs.take 2000) _ _ _ cy (by omega) (SlLt.low0 (SlLt.take hs 2000) a9) (by first | exact hb | exact fun b h => hb b (List.mem_of_mem_take h)) (by first | omega | (rw [List.length_take]; omega))) ?_)))
 rintro _ de ⟨bj, rfl, dn, dp, co, ab⟩
 have br := low1 a9 ab (by omega)
 refine Xf Z Z Z ag (Jd (q := decide (0 < bj)) Z Z Z Z (Xs (v := vb (decide (0 < bj))) Z ag Z Z (Xb (v := vb (decide (0 < bj))) Z Z ?_)))
 rcases Yf (decide (0 < bj)) with af | af
 have d3 := of_decide_eq_true af
 refine Xf Z Z Z af (Xb (v := .slice (pa J) E.length G) am Z (Xf Z Z Z af ?_))
 have bw := (bv.gn ab)
 refine Xp (vs := [vi q1.kind, vi q1.run, vi q1.a, vi q1.b, vi q1.n]) Y1 an Z (bw.rangeL 0 5 Z) Z (Xf Z Z Z af ?_)
 have ap := (TabG.lt hGl ab (by omega))
 refine Xl Zb (Xg Z (Xg Z Xk)) Z (Ps q1 _ E _ _ (TabG.at ap) aq (by omega)) ?_
 rintro _ df ⟨rfl, ac⟩
 have ba := low0 br ac
 have dg := Gs (ts := tabT E) (q := q1)
 refine Xf Z Z Z af (Qa (q := decide (chkAll (tabT E) q1 < 0)) Z Z Z Z (Xs (v := vb (decide (chkAll (tabT E) q1 < 0))) Z af Z Z (Xc (Xy Z (fun bm => ?_) (fun bm => ?_)))))
 have d4 := of_decide_eq_true bm
 refine Xw (Xu (Xq (Yc (X2 (Xb (v := pt V 0) bl Z (Xb (v := .slice (pa J) E.length G) am Z ?_))))))
 have bg := (TabG.low ap ac)
 refine Xl Fm (Xg Z (Xg Z Xk)) Z (Nn (p1 + 1) (by omega) _ V (bs.take 2000) _ _ _ (co.grown0 ac) (by omega) (SlLt.low0 (SlLt.take hs 2000) ba) (by first | exact hb | exact fun b h => hb b (List.mem_of_mem_take h)) (by first | omega | (rw [List.length_take]; omega)) E _ _ _ bg (by omega) aq (by omega)) ?_
 rintro _ ed ⟨ae, c9, rfl, dz, dw, dx, ct, av⟩
 refine X0 (vs := [vi ae.kind, vi ae.run, vi ae.a, vi ae.b, vi ae.n]) (cs' := #[vi ae.kind, vi ae.run, vi ae.a, vi ae.b, vi ae.n]) Y1 an Z Z (by simp [Value.oneCell']) ((bw.grown0 ac).gn av) (Nat.le_of_ble_eq_true Z) Z ?_
 intro ee ak
 exact Xc (Y7 (Xu (X2 (Xb (v := vi (i : Int)) cf Z (Yn (c := (i : Int) + 1) Z Z (by omega) (by omega) (by omega) Z (Xe (v := vi ((i : Int) + 1)) Z Z (Xc (Xu (⟨4 - (i + 1), by omega, (i + 1), c9, ae, Z, (by omega), (by omega), (by omega), (TabG.ge (TabG.lt bg av (by omega)) ak.grw hTH (by omega)), Z, cv, ai, bl, am, an, (low1 (low1 ba av (by omega)) ak.grw (by omega)), ((((bi.gn ab).grown0 ac).gn av).gn ak.grw), ak.blk, (ct.gn ak.grw)⟩)))))))))
 have d5 := of_decide_eq_false bm
 refine Qe (Qb (Qb (Jm (Xu (Xq (Yw (m := 3) (vals := [(33, .slice (pa J) E.length G), (34, .agg #[vi q1.kind, vi q1.run, vi q1.a, vi q1.b, vi q1.n]), (2, .slice (pa J) E.length G)]) (fun w' => df.grownBy w' none) Yy (by kernel_rfl) (X6 _) ?_ ?_))))))
 exact yl Z (fun _ _ k => Xb (v := .slice (pa J) E.length G) am Z k) (yl Z (fun _ ck k => Xp (vs := [vi q1.kind, vi q1.run, vi q1.a, vi q1.b, vi q1.n]) Y1 an Z (((bw.grown0 ac).grown0 ck).rangeL 0 5 Z) Z k) (yl Z (fun _ _ k => Xe (v := .slice (pa J) E.length G) Z Z k) Y5))
 intro ef bb
 refine X0 (vs := [vi q1.kind, vi q1.run, vi q1.a, vi q1.b, vi q1.n]) (cs' := #[vi q1.kind, vi q1.run, vi q1.a, vi q1.b, vi q1.n]) Y1 ai Z Z (by simp [Value.oneCell']) (((bi.gn ab).grown0 ac).grown0 bb) (Nat.le_of_ble_eq_true Z) Z ?_
 intro eg aw
 refine Xc (Xu (Xt ?_))
 refine ⟨.tuple #[.slice (pa J) E.length G, .agg #[vi q1.kind, vi q1.run, vi q1.a, vi q1.b, vi q1.n]], C9 Z Z (Ym (vs := [vi q1.kind, vi q1.run, vi q1.a, vi q1.b, vi q1.n]) Y1 ai Z (aw.blk.rangeL 0 5 Z)), J, G, E, q1, Z, (TabG.mono (TabG.lt (TabG.low (TabG.low ap ac) bb) aw.grw (by omega)) al.size), ah, ar, by omega, (low1 (low0 ba bb) aw.grw (by omega))⟩
 have d6 := of_decide_eq_false af
 iterate 4 refine Xi rfl rfl rfl af rfl ?_
 refine Xo (v := vb false) Z af Z Z (Xc (Qc Z Z (Qe (Qb (Qb (Jm (Xu (Xq (Yw (m := 3) (vals := [(33, .slice (pa J) E.length G), (34, .agg #[vi q1.kind, vi q1.run, vi q1.a, vi q1.b, vi q1.n]), (2, .slice (pa J) E.length G)]) (fun w' => de.grownBy w' none) Yy (by kernel_rfl) (X6 _) ?_ ?_)))))))))
 exact yl Z (fun _ _ k => Xb (v := .slice (pa J) E.length G) am Z k) (yl Z (fun _ cl k => Xp (vs := [vi q1.kind, vi q1.run, vi q1.a, vi q1.b, vi q1.n]) Y1 an Z (((bv.gn ab).grown0 cl).rangeL 0 5 Z) Z k) (yl Z (fun _ _ k => Xe (v := .slice (pa J) E.length G) Z Z k) Y5))
 intro eh bc
 refine X0 (vs := [vi q1.kind, vi q1.run, vi q1.a, vi q1.b, vi q1.n]) (cs' := #[vi q1.kind, vi q1.run, vi q1.a, vi q1.b, vi q1.n]) Y1 ai Z Z (by simp [Value.oneCell']) ((bi.gn ab).grown0 bc) (Nat.le_of_ble_eq_true Z) Z ?_
 intro ei az
 refine Xc (Xu (Xt ?_))
 refine ⟨.tuple #[.slice (pa J) E.length G, .agg #[vi q1.kind, vi q1.run, vi q1.a, vi q1.b, vi q1.n]], C9 Z Z (Ym (vs := [vi q1.kind, vi q1.run, vi q1.a, vi q1.b, vi q1.n]) Y1 ai Z (az.blk.rangeL 0 5 Z)), J, G, E, q1, Z, (TabG.mono (TabG.lt (TabG.low (TabG.lt hGl ab (by omega)) bc) az.grw (by omega)) al.size), ah, ar, by omega, (low1 (low0 br bc) az.grw (by omega))⟩
 have d7 := of_decide_eq_false ag
 iterate 3 refine Xi rfl rfl rfl ag rfl ?_
 refine Xo (v := vb false) Z ag Z Z (Xb (v := vb false) Z Z ?_)
 iterate 4 refine Xi rfl rfl rfl rfl rfl ?_
 refine Xo (v := vb false) Z Z Z Z (Xc (Qc Z Z (Qe (Qb (Qb (Jm (Xu (Xq (Yw (m := 3) (vals := [(33, .slice (pa J) E.length G), (34, .agg #[vi q1.kind, vi q1.run, vi q1.a, vi q1.b, vi q1.n]), (2, .slice (pa J) E.length G)]) (fun w' => dc.grownBy w' none) Yy (by kernel_rfl) (X6 _) ?_ ?_)))))))))
 exact yl Z (fun _ _ k => Xb (v := .slice (pa J) E.length G) am Z k) (yl Z (fun _ cm k => Xp (vs := [vi q1.kind, vi q1.run, vi q1.a, vi q1.b, vi q1.n]) Y1 an Z ((bv.grown0 cm).rangeL 0 5 Z) Z k) (yl Z (fun _ _ k => Xe (v := .slice (pa J) E.length G) Z Z k) Y5))
 intro ej bd
 refine X0 (vs := [vi q1.kind, vi q1.run, vi q1.a, vi q1.b, vi q1.n]) (cs' := #[vi q1.kind, vi q1.run, vi q1.a, vi q1.b, vi q1.n]) Y1 ai Z Z (by simp [Value.oneCell']) (bi.grown0 bd) (Nat.le_of_ble_eq_true Z) Z ?_
 intro ek a8
 refine Xc (Xu (Xt ?_))
 refine ⟨.tuple #[.slice (pa J) E.length G, .agg #[vi q1.kind, vi q1.run, vi q1.a, vi q1.b, vi q1.n]], C9 Z Z (Ym (vs := [vi q1.kind, vi q1.run, vi q1.a, vi q1.b, vi q1.n]) Y1 ai Z (a8.blk.rangeL 0 5 Z)), J, G, E, q1, Z, (TabG.mono (TabG.lt (TabG.low hGl bd) a8.grw (by omega)) al.size), ah, ar, by omega, (low1 (low0 a9 bd) a8.grw (by omega))⟩
theorem Q9 (w : World) (ms ps : List MTh) (a b : Option Addr) (c e : Nat) (ht : TabAt w a ms) (hp : TabAt w b ps) (hlen : TabLen ms) (hlep : TabLen ps) (hn : ms.length ≤ 1048576) (hm : ps.length ≤ 1048576) : CallsR Tryz.prog 18 #[.slice a ms.length c, .slice b ps.length e] w (fun v w' => v = vb (decide (tabT ms = tabT ps)) ∧ w.grownBy w' none) := by
 refine Xx (n := 27) Tryz.func18 Z Tryz.ntmps18 Z ?_
 have az := World.grownBy.refl w none
 refine Xa (Xe (v := vb false) Z Z (Xc (Xq (Xa (Xb (v := .slice a ms.length c) Z Z (Yu (by kernel_rfl) Z Z (Xb (v := .slice b ps.length e) Z Z (Yu (by kernel_rfl) Z Z (Y8 (q := !(decide ((ms.length : Int) = (ps.length : Int)))) Z Z Z Z (Xc (Xy Z (fun V => ?_) (fun V => ?_))))))))))))
 have av := Q2 V
 have bf := of_decide_eq_false av
 refine Xa (Xe (v := vb false) Z Z (Xc (Xt (Yk (⟨vb false, Yp Z Z, ?_, az⟩)))))
 exact cB (decide_eq_false (fun h => by have := Hy h; omega)).symm
 have aw := Qx V
 have bg := of_decide_eq_true aw
 refine Xw (Xu (Xq (Xa (Xe (v := vi 0) Z Z (Xc (Yc (Qm (fun mm f' w' => ∃ (k : Nat), mm = ms.length - k ∧ k ≤ ms.length ∧ (tabT ms).take k = (tabT ps).take k ∧ f' 5 = vi (k : Int) ∧ f' 0 = .slice a ms.length c ∧ f' 1 = .slice b ps.length e ∧ w.grownBy w' none) (ms.length - 0) ⟨0, Z, (Nat.zero_le _), Z, Z, Z, Z, az⟩ ?_)))))))
 rintro mm be ba ⟨k, bd, hk, ha, J, O, ae, E⟩
 refine Xq (Xa (Xb (v := vi (k : Int)) J Z (Xb (v := .slice a ms.length c) O Z (Yu (by kernel_rfl) Z Z (Qa (q := decide ((k : Int) < (ms.length : Int))) Z Z Z Z (Xc (Xy Z (fun ab => ?_) (fun ab => ?_))))))))
 have bh := of_decide_eq_true ab
 refine Xw (Xu (Xq (Yc (Xq ?_))))
 obtain ⟨ar, bl, a8, ah, an, ap⟩ := SlAt.at (TabAt.low ht E).1 (Yi (xg ms k))
 have bb := TabLen.at hlen (xg ms k)
 obtain ⟨au, bm, a9, ai, ao, aq⟩ := SlAt.at (TabAt.low hp E).1 (Yi (xg ps k))
 have bc := TabLen.at hlep (xg ps k)
 refine Yw (m := 8) (vals := [(17, .slice a ms.length c), (18, vi (k : Int)), (19, pt ar a8), (20, .agg #[vi (mAt ms k).t.kind, vi (mAt ms k).t.lab.s, vi (mAt ms k).t.lab.v, vi (mAt ms k).t.ve, vi (mAt ms k).t.num, .slice (mAt ms k).sa (mAt ms k).t.slots.length (mAt ms k).sc, .slice (mAt ms k).qa (mAt ms k).t.queue.length (mAt ms k).qc, vi (mAt ms k).t.to]), (21, .slice b ps.length e), (22, vi (k : Int)), (23, pt au a9), (24, .agg #[vi (mAt ps k).t.kind, vi (mAt ps k).t.lab.s, vi (mAt ps k).t.lab.v, vi (mAt ps k).t.ve, vi (mAt ps k).t.num, .slice (mAt ps k).sa (mAt ps k).t.slots.length (mAt ps k).sc, .slice (mAt ps k).qa (mAt ps k).t.queue.length (mAt ps k).qc, vi (mAt ps k).t.to])]) (fun w' => ba.grownBy w' none) Yy (by kernel_rfl) (X6 _) ?_ ?_
 exact yl Z (fun _ _ k => Xb (v := .slice a ms.length c) O Z k) (yl Z (fun _ _ kq => Xb (v := vi (k : Int)) J Z kq) (yl Z (fun _ _ k => Xz Y2 Z Z ah an (by omega) (by omega) Z k) (yl Z (fun _ ak kq => Xp (vs := [vi (mAt ms k).t.kind, vi (mAt ms k).t.lab.s, vi (mAt ms k).t.lab.v, vi (mAt ms k).t.ve, vi (mAt ms k).t.num, .slice (mAt ms k).sa (mAt ms k).t.slots.length (mAt ms k).sc, .slice (mAt ms k).qa (mAt ms k).t.queue.length (mAt ms k).qc, vi (mAt ms k).t.to]) Y0 Z Z (Yr (X9 ap ak) 0 8 Z) Z kq) (yl Z (fun _ _ k => Xb (v := .slice b ps.length e) ae Z k) (yl Z (fun _ _ kq => Xb (v := vi (k : Int)) J Z kq) (yl Z (fun _ _ k => Xz Y2 Z Z ai ao (by omega) (by omega) Z k) (yl Z (fun _ al kq => Xp (vs := [vi (mAt ps k).t.kind, vi (mAt ps k).t.lab.s, vi (mAt ps k).t.lab.v, vi (mAt ps k).t.ve, vi (mAt ps k).t.num, .slice (mAt ps k).sa (mAt ps k).t.slots.length (mAt ps k).sc, .slice (mAt ps k).qa (mAt ps k).t.queue.length (mAt ps k).qc, vi (mAt ps k).t.to]) Y0 Z Z (Yr (X9 aq al) 0 8 Z) Z kq) Y5)))))))
 intro bn am
 have G := low0 E am
 refine Xl Hu (Xg Z (Xg Z Xk)) Z (Vv (mAt ms k) (mAt ps k) _ (TabAt.th (TabAt.low ht G) (xg ms k)) (TabAt.th (TabAt.low hp G) (xg ps k)) ⟨by first | omega | exact Nat.le_of_ble_eq_true Z | (simp only [List.length_nil, List.length_cons, List.length_append, List.length_replicate]; omega), by first | omega | exact Nat.le_of_ble_eq_true Z | (simp only [List.length_nil, List.length_cons, List.length_append, List.length_replicate]; omega)⟩ ⟨by first | omega | exact Nat.le_of_ble_eq_true Z | (simp only [List.length_nil, List.length_cons, List.length_append, List.length_replicate]; omega), by first | omega | exact Nat.le_of_ble_eq_true Z | (simp only [List.length_nil, List.length_cons, List.length_append, List.length_replicate]; omega)⟩) ?_
 rintro _ bp ⟨rfl, aj⟩
 have ad := low0 G aj
 refine Yl (b' := !(decide ((mAt ms k).t = (mAt ps k).t))) Z Z Z (Xc (Xu (Xy Z (fun ac => ?_) (fun ac => ?_))))
 have af := Q2 ac
 have bi := of_decide_eq_false af
 refine Xa (Xe (v := vb false) Z Z (Xc (Xt (Qi (Yk (Yk (Qi (Yk (⟨vb false, Yp Z Z, ?_, ad⟩)))))))))
 exact cB (decide_eq_false (Lu (Ww (by omega)) (Ww (by omega)) (of_decide_eq_false af))).symm
 have ag := Qx ac
 have bj := of_decide_eq_true ag
 exact Xw (Y7 (Xu (X2 (Xb (v := vi (k : Int)) J Z (Yn (c := (k : Int) + 1) Z Z (by omega) (by omega) (by omega) Z (Xe (v := vi ((k : Int) + 1)) Z Z (Xc (Xu (⟨ms.length - (k + 1), by omega, (k + 1), Z, (by omega), (Wx ha (Ww (by omega)) (Ww (by omega)) (of_decide_eq_true ag)), Z, O, ae, ad⟩)))))))))
 have bk := of_decide_eq_false ab
 refine Qe (Qb (Qb (Jm (Xu (Xa (Xe (v := vb true) Z Z (Xc (Xt (⟨vb true, Yp Z Z, ?_, E⟩)))))))))
 exact cB (decide_eq_true (Gu ha (by rw [Qd]; omega) (by rw [Qd]; omega))).symm
theorem Vl (q : Cl) (w : World) (ms : List MTh) (a : Option Addr) (c : Nat) (ht : TabAt w a ms) (hlen : TabLen ms) (hn : ms.length ≤ 1048576) : CallsR Tryz.prog 19 #[.slice a ms.length c, .agg #[vi q.kind, vi q.run, vi q.a, vi q.b, vi q.n]] w (fun v w' => v = vb (callPoss (tabT ms) q) ∧ w.grownBy w' none) := by
 refine Xx (n := 28) Tryz.func19 Z Tryz.ntmps19 Z ?_
 have al := World.grownBy.refl w none
 refine Xa (Qf (v := .agg #[vi q.kind, vi q.run, vi q.a, vi q.b, vi q.n]) (cs := #[vi q.kind, vi q.run, vi q.a, vi q.b, vi q.n]) Z Z Z ?_)
 intro ar an ab
 have ap := Yj ab al
 have ac := low0 al ab.grw
 refine Xe (v := vb false) Z Z (Xc (X7 (fun f' w' => (f' 4 = vb (((tableOk (tabT ms) && callOk q) && (decide (q.run ≤ (ms.length : Int)))) && (decide ((mj ms q.run).t.kind = 3)))) ∧ an.grownBy w' none) ?_ ?_))
 refine Xb (v := .slice a ms.length c) Z Z (Xl Rq (Xg Z Xk) Z (U6  _ ms _ _ (TabAt.low ht ac) hlen (by omega)) ?_)
 rintro _ a9 ⟨rfl, O⟩
 refine Xb (v := vb (tableOk (tabT ms))) Z Z ?_
 rcases Yf (tableOk (tabT ms)) with J | J
 refine Xf Z Z Z J ?_
 have ad := (ab.blk.grown0 O)
 refine Xp (vs := [vi q.kind, vi q.run, vi q.a, vi q.b, vi q.n]) Y1 Z Z (ad.rangeL 0 5 Z) Z (Xf Z Z Z J (Xl Fq (Xg Z Xk) Z (P6 q _) ?_))
 rintro _ ba ⟨rfl, V⟩
 have ag := low0 (low0 ac O) V
 refine Xs (v := vb (callOk q)) Z J Z Z (Xb (v := vb (callOk q)) Z Z ?_)
 rcases Yf (callOk q) with G | G
 have ao := Yq G
 refine Xf Z Z Z G (Xd (o' := 1) Qv Z Z Z (Xf Z Z Z G ?_))
 have ae := (ad.grown0 V)
 refine Xh (v := vi q.run) X1 Z (ae.cell Z) Z (Xf Z Z Z G (Xb (v := .slice a ms.length c) Z Z (Xf Z Z Z G (Yu (by kernel_rfl) Z Z (Xf Z Z Z G (Vo (q := decide (q.run ≤ (ms.length : Int))) Z Z Z Z (Xs (v := vb (decide (q.run ≤ (ms.length : Int)))) Z G Z Z (Xb (v := vb (decide (q.run ≤ (ms.length : Int)))) Z Z ?_))))))))
 rcases Yf (decide (q.run ≤ (ms.length : Int))) with E | E
 have aw := of_decide_eq_true E
 refine Xf Z Z Z E (Xb (v := .slice a ms.length c) Z Z (Xf Z Z Z E (Xd (o' := 1) Qv Z Z Z (Xf Z Z Z E (Xh (v := vi q.run) X1 Z (ae.cell Z) Z (Xf Z Z Z E (Ys (c := q.run - 1) Z Z (by omega) (by omega) (by omega) Z (Xf Z Z Z E ?_))))))))
 obtain ⟨au, a8, am, af, ai, aj⟩ := SlAt.at (TabAt.low ht ag).1 (Yi (xg ms (q.run - 1).toNat))
 have aq := TabLen.at hlen (xg ms (q.run - 1).toNat)
 exact Xz Y2 Z Z af ai (by omega) (by omega) Z (Xf Z Z Z E (Xd (o' := am) Y9 Z Z Z (Xf Z Z Z E (Xh (v := vi (mj ms q.run).t.kind) X1 Z (aj 0 _ Z) Z (Xf Z Z Z E (X3 (q := decide ((mj ms q.run).t.kind = 3)) Z Z Z Z (Xs (v := vb (decide ((mj ms q.run).t.kind = 3))) Z E Z Z (Xe (v := vb (decide ((mj ms q.run).t.kind = 3))) Z Z (Xc ⟨(cB (by simp [J, G, E])), (grown_trans O V)⟩)))))))))
 have az := of_decide_eq_false E
 iterate 8 refine Xi rfl rfl rfl E rfl ?_
 exact Xo (v := vb false) Z E Z Z (Xe (v := vb false) Z Z (Xc ⟨(cB (by simp [J, G, E])), (grown_trans O V)⟩))
 iterate 5 refine Xi rfl rfl rfl G rfl ?_
 refine Xo (v := vb false) Z G Z Z (Xb (v := vb false) Z Z ?_)
 iterate 8 refine Xi rfl rfl rfl rfl rfl ?_
 exact Xo (v := vb false) Z Z Z Z (Xe (v := vb false) Z Z (Xc ⟨(cB (by simp [J, G])), (grown_trans O V)⟩))
 refine Xi Z Z Z J Z (Xi Z Z Z J Z (Xo (v := vb false) Z J Z Z (Xb (v := vb false) Z Z ?_)))
 iterate 5 refine Xi rfl rfl rfl rfl rfl ?_
 refine Xo (v := vb false) Z Z Z Z (Xb (v := vb false) Z Z ?_)
 iterate 8 refine Xi rfl rfl rfl rfl rfl ?_
 exact Xo (v := vb false) Z Z Z Z (Xe (v := vb false) Z Z (Xc ⟨(cB (by simp [J])), O⟩))
 rintro av bb ⟨ak, ah⟩
 refine Xt (⟨vb (((tableOk (tabT ms) && callOk q) && (decide (q.run ≤ (ms.length : Int)))) && (decide ((mj ms q.run).t.kind = 3))), Yp Z ak, ?_, (low0 ac ah)⟩)
 exact cB O6
end Go.Proofs.YtjpgffmkcmcolaaGreatDoor
end
section
namespace Go.Dw
open Go.ChangeShapes Go.WideShapes Go.ChangeAt Go.RowKit Go.Deep
section
variable {H : Type} {enc : TypeId × Value → H} {P : Program} {w : World} {base : Nat} {spare : Nat → Bool} {held : Bool} {fuel : Nat} {cs : List Value} {x : DataW H × List MemPlace}
theorem Tg {α : Type} {g : α → List Value} {ok : α → Prop} {t e : TypeId} {sz : Nat} (ht : P.underlying t = some (.slice e)) (hc : P.cellsOf e = sz) (hz : 0 < sz) (hg : Wide g sz) (hrd : ∀ n cs x, DataW.trod enc P w base spare held n e cs = some x → ∃ a, cs = g a ∧ ok a)
    (h : DataW.trod enc P w base spare held fuel t cs = some x) :
    ∃ (a : Option Addr) (xs : List α) (c : Nat), cs = [.slice a xs.length c] ∧ xs.length ≤ c ∧ c ≤ maxLen ∧ SlAt w a sz (xs.map g) ∧ (∀ y ∈ xs, ok y) ∧ (a = none → c = 0) := by
  rcases open_slice ht h with ⟨rfl, _⟩ | ⟨a, len, cap, m, n, D, Pl, rfl, _, hl, hm, hmm, _, hi⟩
  · exact ⟨none, [], 0, rfl, Nat.le_refl _, Nat.zero_le _, fun k x hk => by simp at hk, fun y hy => by simp at hy, fun _ => rfl⟩
  · have hlm : len ≤ m := by
      rw [hmm]; split <;> omega
    have hex : ∀ i : Fin len, ∃ y : α, ok y ∧ ∀ j, j < sz → w.cell? (a.add (i.val * sz + j)) = (g y)[j]? := fun i => by
      obtain ⟨cs', hcs, htr⟩ := hi i.val (by omega)
      obtain ⟨y, rfl, hy⟩ := hrd _ _ _ htr
      rw [hc] at hcs
      obtain ⟨_, _, hat⟩ := World.cells?_some hcs
      refine ⟨y, hy, fun j hj => ?_⟩
      rw [← hat j hj, add_add]
    refine ⟨some a, List.ofFn fun i : Fin len => Classical.choose (hex i), cap, by simp, by simpa using hl, hm, fun k x hk => ?_, fun y hy => ?_, fun hn => by cases hn⟩
    · rw [List.getElem?_map] at hk
      cases hy : (List.ofFn fun i : Fin len => Classical.choose (hex i))[k]? with
      | none => rw [hy] at hk; simp at hk
      | some y =>
        rw [hy] at hk
        obtain rfl : g y = x := by simpa using hk
        have hkl : k < len := by
          have := (List.getElem?_eq_some_iff.1 hy).1
          simpa using this
        have hye : Classical.choose (hex ⟨k, hkl⟩) = y := by
          rw [List.getElem?_ofFn] at hy
          simpa [hkl] using hy
        have hat := (Classical.choose_spec (hex ⟨k, hkl⟩)).2
        rw [hye] at hat
        obtain ⟨b, o, spot⟩ := a
        have hspot : spot = none := by
          obtain ⟨y0, _, hy0⟩ := hex ⟨0, by omega⟩
          have h0 := hy0 0 hz
          obtain ⟨v, hv⟩ : ∃ v, (g y0)[0]? = some v := ⟨_, List.getElem?_eq_getElem (by rw [hg]; exact hz)⟩
          rw [hv] at h0
          have := World.cell?_spot h0
          simpa [Addr.add] using this
        subst hspot
        refine ⟨b, o, rfl, fun j v hj => ?_⟩
        have hjl : j < sz := by rw [← hg y]; exact (List.getElem?_eq_some_iff.1 hj).1
        rw [← hj, ← hat j hjl]
        simp only [Addr.add]
        split
        · rename_i he
          rw [show o + k * sz + j = o by omega]
        · rw [show o + (k * sz + j) = o + k * sz + j by omega]
    · obtain ⟨i, rfl⟩ := List.mem_ofFn.1 hy
      exact (Classical.choose_spec (hex i)).1
theorem Vm {α : Type} {g : α → List Value} {ok : α → Prop} {r : Reach} {b0 : Nat} {t e sz : Nat} {v : Value} {d : DataW H} {p : List MemPlace} (hs : P.underlying t = some (.slice e)) (hc : P.cellsOf e = sz) (hz : 0 < sz) (hg : Wide g sz)
    (hrd : ∀ n cs x, DataW.trod enc P w base spare held n e cs = some x → ∃ a, cs = g a ∧ ok a) (hv : Value.okWide P w r b0 t v) (h : DataW.Trod enc P w base spare held t v d p) :
    ∃ (a : Option Addr) (xs : List α) (c : Nat), v = .slice a xs.length c ∧ xs.length ≤ 9223372036854775807 ∧ xs.length ≤ c ∧ SlAt w a sz (xs.map g) ∧ ∀ y ∈ xs, ok y := by
  obtain ⟨a, len, cap, rfl⟩ := okWide_slice hs hv
  obtain ⟨fuel, hf⟩ := h
  obtain ⟨a', xs, c, h1, h2, h3, h4, h5, h7⟩ := Tg hs hc hz hg hrd hf
  have h6 : Value.slice a len cap = .slice a' xs.length c := by simpa [Value.cells] using h1
  refine ⟨a', xs, c, h6, ?_, h2, h4, h5⟩
  have : maxLen = 9223372036854775807 := by decide
  omega
theorem Uf {t : TypeId} (ht : P.underlying t = some (.int .u8)) (h : DataW.trod enc P w base spare held fuel t cs = some x) : ∃ n : Int, cs = bcell n ∧ (0 ≤ n ∧ n ≤ 255) := by
  obtain ⟨n, hn, _, hw⟩ := DataW.trod_int ht h
  refine ⟨n, hn, ?_⟩
  have h2 := Bool.and_eq_true_iff.1 hw
  have h3 := of_decide_eq_true h2.1
  have h4 := of_decide_eq_true h2.2
  exact ⟨h3, h4⟩
theorem Gr (hl : laidOutB P = true) {W W' : World} (hb : Below W.heap.size W W') : ∀ (ts : List TypeId) (vs : List Value) (ds : List (DataW H)) (ps : List MemPlace), ts.all (fun t => P.readableRec t && decide (t < P.types.size)) = true →
    DataW.TrodAll enc P W 0 (fun _ => true) true ts vs ds ps → (∀ y ∈ ps, y.block < W.heap.size) → DataW.TrodAll enc P W' 0 (fun b => decide (b < W.heap.size)) true ts vs ds ps
  | [], _, _, _, _, h, _ => by
    obtain ⟨rfl, rfl, rfl⟩ := trodAll_nil h
    exact rfl
  | t :: ts, _, _, _, ht, h, hlt => by
    obtain ⟨v, vs, d, ds, p, q, rfl, rfl, rfl, h1, h2⟩ := trodAll_cons h
    simp only [List.all_cons, Bool.and_eq_true, decide_eq_true_eq] at ht
    exact ⟨p, q, Below.trod hl ht.1.1 ht.1.2 h1 hb fun y hy => hlt y (List.mem_append_left _ hy), Gr hl hb ts vs ds q ht.2 h2 fun y hy => hlt y (List.mem_append_right _ hy), rfl⟩
theorem Kt {f : Func} {s : ChangeSpec} {apart handsOn : Bool} {W W' : World} {args : Array Value} {ds gs : List (DataW H)} {before pa : List MemPlace} {tb : TypeId} (hl : laidOutB P = true)
    (hr : f.params.toList.all (fun t => P.readableRec t && decide (t < P.types.size)) = true) (hW : DataW.Whole enc P f.params.toList s.vars apart W args.toList ds gs before)
    (hA : DataW.TrodAll enc P W 0 (fun _ => true) true f.params.toList args.toList ds pa) (hlt : ∀ y ∈ pa, y.block < W.heap.size) (hs : s.fn H (ds ++ gs) = { results := [.lit (.bool true)], args := ds }) (hv : s.vars = [])
    (hres : f.resultTypes = #[tb]) (htb : P.underlying tb = some .bool) (hb : Below W.heap.size W W') : s.post enc P f apart true handsOn false W args (.bool true) W' := by
  refine ⟨ds, gs, before, [], pa, [], hW, ?_, ?_, ?_, hb.frame _, fun h => by cases h⟩
  · rw [hs, hres]
    exact trodAll_mk1 (shut_bool htb _)
  · rw [hs]
    exact Gr hl hb _ _ _ _ hr hA hlt
  · rw [hs, hv]
    rfl
end
end Go.Dw
end
section
namespace Go.Proofs.YtjpgffmkcmcolaaGreatDoor
open Go.ChangeShapes Go.WideShapes Go.RowKit
def laidE : List (String × DataW Unit) := [("errors.errorType", Rows.laid_errors_errorType)]
theorem O2 : Tryz.prog.globalNamed "errors.errorType" = some 0 := by kernel_rfl
theorem O3 : (Tryz.prog.cutTypes.find? (·.1 == "internal/reflectlite.rtype")).map (·.2) = some 127 := by kernel_rfl
theorem I0 : ((List.range 180).filter fun t => Tryz.prog.rowNamed t [101, 114, 114, 111, 114]) = [73] := by kernel_rfl
theorem D1 : Tryz.prog.types.size = 180 := by kernel_rfl
theorem J1 {W : World} (h : laidMetH Tryz.prog laidE W) : ErrT W := by
  have h' : laidMet Tryz.prog [] W ∧ handlesMet Tryz.prog laidE W := h
  obtain ⟨name, u, ty, e1, e2, e3, e4, e5⟩ := h'.2 _ (List.mem_singleton.2 rfl)
  have en : name = [101, 114, 114, 111, 114] := (Option.some.inj e1).symm
  subst en
  obtain rfl := Option.some.inj (O3.symm.trans e2)
  have hm : ty ∈ (List.range 180).filter fun t => Tryz.prog.rowNamed t [101, 114, 114, 111, 114] := List.mem_filter.2 ⟨List.mem_range.2 (by rw [← D1]; exact e3), e4⟩
  rw [I0] at hm
  obtain rfl := List.mem_singleton.1 hm
  have hh : typeHandle Tryz.prog 73 = .pointer (some ⟨1, 73, none⟩) := by kernel_rfl
  rw [hh] at e5
  simpa [ErrT] using World.var?_cell O2 e5 0
noncomputable def laidWorld (os : Os) : World :=
  let w0 := World.holding Tryz.prog os ⟨#[], #[], []⟩
  { w0 with heap := w0.heap.modify 0 fun
      | .cells _ t frozen => .cells #[.iface 127 (.agg #[.pointer (some ⟨1, 73, none⟩)])] t frozen
      | o => o }
theorem Jv (os : Os) (args : Array Value) : laidMetH Tryz.prog laidE ((laidWorld os).forCall (fun _ _ => 0) ⟨#[], args, []⟩).memory :=
  laidMetH_of_parts (laidMet_nil _ _) (by kernel_rfl)
end Go.Proofs.YtjpgffmkcmcolaaGreatDoor
end
