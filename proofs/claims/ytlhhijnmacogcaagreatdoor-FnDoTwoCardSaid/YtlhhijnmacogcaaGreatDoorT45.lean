/- Laws and walks: my templates, and what a program of mine (gen.py) printed out of the functions; only what the row reaches. -/
import Derived.Test.YtlhhijnmacogcaaGreatDoorT44
section
namespace Go.Proofs.YtlhhijnmacogcaaGreatDoor
open Go.RowKit Go.Dw
set_option maxRecDepth 100000
set_option maxHeartbeats 4000000
set_option linter.unusedSimpArgs false
set_option linter.unusedVariables false
theorem Za (x y z : Int) (R : Nat) (w : World) (hR : Blk w R 147 #[vi x, vi y, vi z, vi 0, vi 3]) : CallsR Tryz.prog 110 #[pt R 0] w (fun v w' => ∃ (a : Option Addr) (c : Nat), v = .slice a 3 c ∧ OwnN w.heap.size w' a 3 1 c ([x, y, z] : List Int).length (([x, y, z] : List Int).flatMap icell) ∧ w.grownBy w' none) := by
 refine Xx (n := 29) Tryz.func110 Z Tryz.ntmps110 Z (Xa (Xe (v := .slice none 0 0) Z Z (Xb (Xa (Xe (v := .slice none 0 0) Z Z (Xb (Xq (Xa (Xd (v := pt R 0) Z Z (Xs Z Z (Xc (o' := 4) Q4 Z Z Z (Xh (v := vi 3) X1 Z (hR.cell Z) Z ?_))))))))))))
 refine Xd (v := vi 0) Z Z (Xb (X9 (Ql (fun mm f' w' => ∃ (i : Int) (aq : Option Addr) (cq : Nat) (ys : List Int), mm = (3 - i : Int).toNat ∧ (0 ≤ i ∧ i ≤ 3) ∧ (ys.length : Int) = i ∧ ys = ([x, y, z] : List Int).take i.toNat ∧ OwnN w.heap.size w' aq 3 1 cq ys.length (ys.flatMap icell) ∧ f' 3 = .slice aq ys.length cq ∧ f' 9 = vi i ∧ f' 0 = pt R 0 ∧ f' 2 = .slice none 0 0 ∧ f' 8 = vi 3 ∧ w.grownBy w' none ∧ Blk w' R 147 #[vi x, vi y, vi z, vi 0, vi 3]) (3 - 0 : Int).toNat ⟨0, none, 0, ([] : List Int), Z, (by omega), Z, Z, OwnN.nil, Z, Z, Z, Z, Z, (World.grownBy.refl w none), hR⟩ ?_)))
 rintro mm ph ah ⟨i, aq, cq, ys, o9, hi, hyl, hys, hOw, ba, ab, bb, bc, ad, ac, V⟩
 rcases (show i = 0 ∨ i = 1 ∨ i = 2 ∨ i = 3 by omega) with rfl | rfl | rfl | rfl
 refine Xa (Qg (q := true) ab ad (by decide) Z (Xb (Xq (Qa Z Z (Xz (Xu (Xq (X9 (Xa (Xd (v := vi 0) ab Z (Xe (v := vi 0) Z Z (Xb ?_))))))))))))
 refine Qv (m := 14) [[], [], [], [2], [2, 3], [2, 3, 4], [], [2, 3, 4, 5, 6], [2, 3, 4, 5, 6, 7], [1], [1, 9], [1, 2, 3, 4, 5, 6, 7, 8, 9, 10], [1, 2, 3, 4, 5, 6, 7, 8, 9, 10, 11], [1, 2, 3, 4, 5, 6, 7, 8, 9, 10, 11, 12], [0, 1, 2, 3, 4, 5, 6, 7, 8, 9, 10, 11, 12, 13], [0, 1, 2, 3, 4, 5, 6, 7, 8, 9, 10, 11, 12, 13, 14]] (fun S F w' => ∃ (G : Nat), ah.grownBy w' none ∧ F 0 = pt R 0 ∧ F 2 = .slice none 0 0 ∧ F 3 = .slice aq ys.length cq ∧ F 4 = vi 0 ∧ F 8 = vi 3 ∧ F 9 = vi 0 ∧ (S 13 = true → F 25 = .slice (pa G) 1 1 ∧ w.heap.size ≤ G ∧ Blk w' G 3 (([x] : List Int).flatMap icell).toArray ∧ R < G ∧ ah.heap.size ≤ G) ∧ Vals S F [(0, 12, .slice aq ys.length cq), (1, 13, pt R 0), (2, 14, pt R 0), (3, 15, pt R 0), (4, 16, pt R 3), (5, 17, vi 0), (6, 18, vi 0), (7, 19, vi 0), (8, 20, vi 0), (9, 21, pt R 0), (10, 22, pt R 0), (11, 23, pt R 0), (12, 24, vi x)]) Yz (by kernel_rfl) ⟨0, X8 _, bb, bc, ba, Z, ad, ab, Ym, J2 _⟩ ?_ ?_
 refine Xi (fun S F pi hS hbef hcl hI => ?_) ?_
 obtain ⟨G, cz, ef, eg, cc, eh, ei, ej, E, hvs⟩ := hI
 exact Xd (v := .slice aq ys.length cq) cc Z (Xb ⟨G, cz, ef, eg, cc, eh, ei, ej, E, Vals.up 0 hvs Z Z Z⟩)
 refine Xi (fun S F pj hS hbef hcl hI => ?_) ?_
 obtain ⟨G, c8, cd, ek, em, eo, ep, eu, E, hvs⟩ := hI
 exact Xd (v := pt R 0) cd Z (Xb ⟨G, c8, cd, ek, em, eo, ep, eu, Xv 13 hS hcl Z, Vals.up 1 hvs Z Z Z⟩)
 refine Xi (fun S F pk hS hbef hcl hI => ?_) ?_
 obtain ⟨G, c9, ce, ew, ez, e0, fa, fb, E, hvs⟩ := hI
 exact Xd (v := pt R 0) ce Z (Xb ⟨G, c9, ce, ew, ez, e0, fa, fb, Xv 13 hS hcl Z, Vals.up 2 hvs Z Z Z⟩)
 refine Xi (fun S F pl hS hbef hcl hI => ?_) ?_
 obtain ⟨G, da, fc, fd, fe, ff, fg, fh, E, hvs⟩ := hI
 exact Xs (Vals.at 2 hvs Z (Xl 2 hbef Z)) Z (Xb ⟨G, da, fc, fd, fe, ff, fg, fh, Xv 13 hS hcl Z, Vals.up 3 hvs Z Z Z⟩)
 refine Xi (fun S F pm hS hbef hcl hI => ?_) ?_
 obtain ⟨G, db, fi, fj, fk, fm, fo, fp, E, hvs⟩ := hI
 exact Xc (o' := 3) Jp (Vals.at 3 hvs Z (Xl 3 hbef Z)) Z Z (Xb ⟨G, db, fi, fj, fk, fm, fo, fp, Xv 13 hS hcl Z, Vals.up 4 hvs Z Z Z⟩)
 refine Xi (fun S F pn hS hbef hcl hI => ?_) ?_
 obtain ⟨G, bj, fq, fr, ft, fu, fv, fw, E, hvs⟩ := hI
 exact Xh (v := vi 0) X1 (Vals.at 4 hvs Z (Xl 4 hbef Z)) ((V.grown0 bj).cell Z) Z (Xb ⟨G, bj, fq, fr, ft, fu, fv, fw, Xv 13 hS hcl Z, Vals.up 5 hvs Z Z Z⟩)
 refine Xi (fun S F po hS hbef hcl hI => ?_) ?_
 obtain ⟨G, dc, fx, fy, fz, cf, f8, f9, E, hvs⟩ := hI
 exact Xd (v := vi 0) cf Z (Xb ⟨G, dc, fx, fy, fz, cf, f8, f9, Xv 13 hS hcl Z, Vals.up 6 hvs Z Z Z⟩)
 refine Xi (fun S F pp hS hbef hcl hI => ?_) ?_
 obtain ⟨G, de, ga, gb, gc, gf, gg, gh, E, hvs⟩ := hI
 exact Yl (c := 0) (Vals.at 5 hvs Z (Xl 5 hbef Z)) (Vals.at 6 hvs Z (Xl 6 hbef Z)) (by omega) (by omega) (by omega) Z (Xb ⟨G, de, ga, gb, gc, gf, gg, gh, Xv 13 hS hcl Z, Vals.up 7 hvs Z Z Z⟩)
 refine Xi (fun S F pq hS hbef hcl hI => ?_) ?_
 obtain ⟨G, df, gi, gj, gk, gl, gm, gp, E, hvs⟩ := hI
 exact Q9 (c := 0) (Vals.at 7 hvs Z (Xl 7 hbef Z)) Z (by omega) (by omega) (by omega) Z Z (Xb ⟨G, df, gi, gj, gk, gl, gm, gp, Xv 13 hS hcl Z, Vals.up 8 hvs Z Z Z⟩)
 refine Xi (fun S F pr hS hbef hcl hI => ?_) ?_
 obtain ⟨G, dg, gq, gr, gt, gu, gv, gw, E, hvs⟩ := hI
 exact Xs (Vals.at 1 hvs Z (Xl 1 hbef Z)) Z (Xb ⟨G, dg, gq, gr, gt, gu, gv, gw, Xv 13 hS hcl Z, Vals.up 9 hvs Z Z Z⟩)
 refine Xi (fun S F pu hS hbef hcl hI => ?_) ?_
 obtain ⟨G, dh, gx, gy, gz, g0, g5, g6, E, hvs⟩ := hI
 exact Xc (o' := 0) Kc (Vals.at 9 hvs Z (Xl 9 hbef Z)) Z Z (Xb ⟨G, dh, gx, gy, gz, g0, g5, g6, Xv 13 hS hcl Z, Vals.up 10 hvs Z Z Z⟩)
 refine Xi (fun S F pv hS hbef hcl hI => ?_) ?_
 obtain ⟨G, di, g7, g8, g9, ia, ib, ic, E, hvs⟩ := hI
 exact Qm (o' := 0) K6 (Vals.at 10 hvs Z (Xl 10 hbef Z)) (Vals.at 8 hvs Z (Xl 8 hbef Z)) (by decide) (by decide) Z Z (Xb ⟨G, di, g7, g8, g9, ia, ib, ic, Xv 13 hS hcl Z, Vals.up 11 hvs Z Z Z⟩)
 refine Xi (fun S F pw hS hbef hcl hI => ?_) ?_
 obtain ⟨G, bk, ie, ig, ii, ij, ik, il, E, hvs⟩ := hI
 exact Xh (v := vi x) X1 (Vals.at 11 hvs Z (Xl 11 hbef Z)) ((V.grown0 bk).cell Z) Z (Xb ⟨G, bk, ie, ig, ii, ij, ik, il, Xv 13 hS hcl Z, Vals.up 12 hvs Z Z Z⟩)
 refine Xi (fun S F px hS hbef hcl hI => ?_) ?_
 obtain ⟨G, ai, im, io, ip, iq, ir, it, E, hvs⟩ := hI
 refine X7 (ps := [(0, vi x)]) (e := 3) (cs := (([x] : List Int).flatMap icell).toArray) (Xk (Vals.at 12 hvs Z (Xl 12 hbef Z)) X5) (fun _ => by kernel_rfl) Z ?_
 intro eb py ae
 have bu := Yd ae (low0 ac ai)
 have au := Xo ae ((V.grown0 ai)).lt
 exact Xb ⟨eb, (low0 ai ae.grw), im, io, ip, iq, ir, it, fun _ => ⟨Z, bu, ae.blk, au, (nt ai.size (Nat.le_of_eq ae.eq.symm))⟩, Vals.keep hvs Z⟩
 exact Jb
 intro S F pz hall hI
 obtain ⟨G, ao, iu, iv, pb, pc, iw, ix, E, hvs⟩ := hI
 have bd := low0 ac ao
 obtain ⟨iy, o3, bq, d8, oz⟩ := E (hall 13 (by decide))
 have al := (hOw.grown0 ao)
 refine Jg (g := icell) (ys := ys) (zs := ([x] : List Int)) (lo := w.heap.size) Vs Z Yq (by omega) Jz (Vals.at 0 hvs Z (hall 0 (by decide))) iy al (Jo Yq bq) (fun h => by cases h) (by first | omega | exact Nat.le_of_ble_eq_true rfl | (simp only [List.length_nil, List.length_cons, List.length_append, List.length_replicate]; omega)) (by omega) (by first | exact bd.size | omega) Z ?_
 intro bx az p0 cv bg o6
 exact Xe (v := .slice bx (ys ++ ([x] : List Int)).length az) Z Z (Xb (Y3 (Xu (X2 (Yl (c := 1) ix Z (by omega) (by omega) (by omega) Z (Xd (v := vi 1) Z Z (Xb (Xu (⟨(3 - 1 : Int).toNat, by omega, 1, bx, az, (ys ++ ([x] : List Int)), Z, (by omega), (by first | omega | (simp only [List.length_append, List.length_cons, List.length_nil]; omega)), (by rw [hys]; rfl), cv, Z, Z, iu, iv, iw, (N8 bd al bg (by omega)), (Blk.typN (V.grown0 ao) al bg (by decide))⟩)))))))))
 refine Xa (Qg (q := true) ab ad (by decide) Z (Xb (Xq (Qa Z Z (Xz (Xu (Xq (X9 (Xa (Xd (v := vi 1) ab Z (Xe (v := vi 1) Z Z (Xb ?_))))))))))))
 refine Qv (m := 14) [[], [], [], [2], [2, 3], [2, 3, 4], [], [2, 3, 4, 5, 6], [2, 3, 4, 5, 6, 7], [1], [1, 9], [1, 2, 3, 4, 5, 6, 7, 8, 9, 10], [1, 2, 3, 4, 5, 6, 7, 8, 9, 10, 11], [1, 2, 3, 4, 5, 6, 7, 8, 9, 10, 11, 12], [0, 1, 2, 3, 4, 5, 6, 7, 8, 9, 10, 11, 12, 13], [0, 1, 2, 3, 4, 5, 6, 7, 8, 9, 10, 11, 12, 13, 14]] (fun S F w' => ∃ (J : Nat), ah.grownBy w' none ∧ F 0 = pt R 0 ∧ F 2 = .slice none 0 0 ∧ F 3 = .slice aq ys.length cq ∧ F 4 = vi 1 ∧ F 8 = vi 3 ∧ F 9 = vi 1 ∧ (S 13 = true → F 25 = .slice (pa J) 1 1 ∧ w.heap.size ≤ J ∧ Blk w' J 3 (([y] : List Int).flatMap icell).toArray ∧ R < J ∧ ah.heap.size ≤ J) ∧ Vals S F [(0, 12, .slice aq ys.length cq), (1, 13, pt R 0), (2, 14, pt R 0), (3, 15, pt R 0), (4, 16, pt R 3), (5, 17, vi 0), (6, 18, vi 1), (7, 19, vi 1), (8, 20, vi 1), (9, 21, pt R 0), (10, 22, pt R 0), (11, 23, pt R 1), (12, 24, vi y)]) Yz (by kernel_rfl) ⟨0, X8 _, bb, bc, ba, Z, ad, ab, Ym, J2 _⟩ ?_ ?_
 refine Xi (fun S F p8 hS hbef hcl hI => ?_) ?_
 obtain ⟨J, dk, iz, i0, cg, i1, i2, i3, E, hvs⟩ := hI
 exact Xd (v := .slice aq ys.length cq) cg Z (Xb ⟨J, dk, iz, i0, cg, i1, i2, i3, E, Vals.up 0 hvs Z Z Z⟩)
 refine Xi (fun S F p9 hS hbef hcl hI => ?_) ?_
 obtain ⟨J, dl, cj, i4, i5, i6, i7, i8, E, hvs⟩ := hI
 exact Xd (v := pt R 0) cj Z (Xb ⟨J, dl, cj, i4, i5, i6, i7, i8, Xv 13 hS hcl Z, Vals.up 1 hvs Z Z Z⟩)
 refine Xi (fun S F qb hS hbef hcl hI => ?_) ?_
 obtain ⟨J, dm, ck, i9, ja, jb, jc, jd, E, hvs⟩ := hI
 exact Xd (v := pt R 0) ck Z (Xb ⟨J, dm, ck, i9, ja, jb, jc, jd, Xv 13 hS hcl Z, Vals.up 2 hvs Z Z Z⟩)
 refine Xi (fun S F qd hS hbef hcl hI => ?_) ?_
 obtain ⟨J, dn, je, jf, jg, jh, ji, jj, E, hvs⟩ := hI
 exact Xs (Vals.at 2 hvs Z (Xl 2 hbef Z)) Z (Xb ⟨J, dn, je, jf, jg, jh, ji, jj, Xv 13 hS hcl Z, Vals.up 3 hvs Z Z Z⟩)
 refine Xi (fun S F qe hS hbef hcl hI => ?_) ?_
 obtain ⟨J, dp, jk, jl, jm, jo, jp, jq, E, hvs⟩ := hI
 exact Xc (o' := 3) Jp (Vals.at 3 hvs Z (Xl 3 hbef Z)) Z Z (Xb ⟨J, dp, jk, jl, jm, jo, jp, jq, Xv 13 hS hcl Z, Vals.up 4 hvs Z Z Z⟩)
 refine Xi (fun S F qf hS hbef hcl hI => ?_) ?_
 obtain ⟨J, bl, jr, js, jt, ju, jv, jw, E, hvs⟩ := hI
 exact Xh (v := vi 0) X1 (Vals.at 4 hvs Z (Xl 4 hbef Z)) ((V.grown0 bl).cell Z) Z (Xb ⟨J, bl, jr, js, jt, ju, jv, jw, Xv 13 hS hcl Z, Vals.up 5 hvs Z Z Z⟩)
 refine Xi (fun S F qg hS hbef hcl hI => ?_) ?_
 obtain ⟨J, dq, jx, jy, jz, cl, j1, j2, E, hvs⟩ := hI
 exact Xd (v := vi 1) cl Z (Xb ⟨J, dq, jx, jy, jz, cl, j1, j2, Xv 13 hS hcl Z, Vals.up 6 hvs Z Z Z⟩)
 refine Xi (fun S F qh hS hbef hcl hI => ?_) ?_
 obtain ⟨J, dr, j3, j4, j5, j6, j7, j8, E, hvs⟩ := hI
 exact Yl (c := 1) (Vals.at 5 hvs Z (Xl 5 hbef Z)) (Vals.at 6 hvs Z (Xl 6 hbef Z)) (by omega) (by omega) (by omega) Z (Xb ⟨J, dr, j3, j4, j5, j6, j7, j8, Xv 13 hS hcl Z, Vals.up 7 hvs Z Z Z⟩)
 refine Xi (fun S F qi hS hbef hcl hI => ?_) ?_
 obtain ⟨J, dt, j9, ka, kb, kc, ke, kf, E, hvs⟩ := hI
 exact Q9 (c := 1) (Vals.at 7 hvs Z (Xl 7 hbef Z)) Z (by omega) (by omega) (by omega) Z Z (Xb ⟨J, dt, j9, ka, kb, kc, ke, kf, Xv 13 hS hcl Z, Vals.up 8 hvs Z Z Z⟩)
 refine Xi (fun S F qj hS hbef hcl hI => ?_) ?_
 obtain ⟨J, du, kg, kh, ki, kj, kk, kl, E, hvs⟩ := hI
 exact Xs (Vals.at 1 hvs Z (Xl 1 hbef Z)) Z (Xb ⟨J, du, kg, kh, ki, kj, kk, kl, Xv 13 hS hcl Z, Vals.up 9 hvs Z Z Z⟩)
 refine Xi (fun S F qk hS hbef hcl hI => ?_) ?_
 obtain ⟨J, dv, km, kn, ko, kp, kq, kr, E, hvs⟩ := hI
 exact Xc (o' := 0) Kc (Vals.at 9 hvs Z (Xl 9 hbef Z)) Z Z (Xb ⟨J, dv, km, kn, ko, kp, kq, kr, Xv 13 hS hcl Z, Vals.up 10 hvs Z Z Z⟩)
 refine Xi (fun S F qm hS hbef hcl hI => ?_) ?_
 obtain ⟨J, dw, ks, kt, ku, kv, kw, kx, E, hvs⟩ := hI
 exact Qm (o' := 1) K6 (Vals.at 10 hvs Z (Xl 10 hbef Z)) (Vals.at 8 hvs Z (Xl 8 hbef Z)) (by decide) (by decide) Z Z (Xb ⟨J, dw, ks, kt, ku, kv, kw, kx, Xv 13 hS hcl Z, Vals.up 11 hvs Z Z Z⟩)
 refine Xi (fun S F qn hS hbef hcl hI => ?_) ?_
 obtain ⟨J, bm, ky, kz, k0, k4, k5, k6, E, hvs⟩ := hI
 exact Xh (v := vi y) X1 (Vals.at 11 hvs Z (Xl 11 hbef Z)) ((V.grown0 bm).cell Z) Z (Xb ⟨J, bm, ky, kz, k0, k4, k5, k6, Xv 13 hS hcl Z, Vals.up 12 hvs Z Z Z⟩)
 refine Xi (fun S F qo hS hbef hcl hI => ?_) ?_
 obtain ⟨J, aj, k7, k8, k9, la, lc, ld, E, hvs⟩ := hI
 refine X7 (ps := [(0, vi y)]) (e := 3) (cs := (([y] : List Int).flatMap icell).toArray) (Xk (Vals.at 12 hvs Z (Xl 12 hbef Z)) X5) (fun _ => by kernel_rfl) Z ?_
 intro ed qp af
 have bv := Yd af (low0 ac aj)
 have av := Xo af ((V.grown0 aj)).lt
 exact Xb ⟨ed, (low0 aj af.grw), k7, k8, k9, la, lc, ld, fun _ => ⟨Z, bv, af.blk, av, (nt aj.size (Nat.le_of_eq af.eq.symm))⟩, Vals.keep hvs Z⟩
 exact Jb
 intro S F qq hall hI
 obtain ⟨J, ap, le, lf, pd, pe, lg, lh, E, hvs⟩ := hI
 have be := low0 ac ap
 obtain ⟨li, o4, br, d9, o0⟩ := E (hall 13 (by decide))
 have am := (hOw.grown0 ap)
 refine Jg (g := icell) (ys := ys) (zs := ([y] : List Int)) (lo := w.heap.size) Vs Z Yq (by omega) Jz (Vals.at 0 hvs Z (hall 0 (by decide))) li am (Jo Yq br) (fun h => by cases h) (by first | omega | exact Nat.le_of_ble_eq_true rfl | (simp only [List.length_nil, List.length_cons, List.length_append, List.length_replicate]; omega)) (by omega) (by first | exact be.size | omega) Z ?_
 intro bz a8 qr cw bh o7
 exact Xe (v := .slice bz (ys ++ ([y] : List Int)).length a8) Z Z (Xb (Y3 (Xu (X2 (Yl (c := 2) lh Z (by omega) (by omega) (by omega) Z (Xd (v := vi 2) Z Z (Xb (Xu (⟨(3 - 2 : Int).toNat, by omega, 2, bz, a8, (ys ++ ([y] : List Int)), Z, (by omega), (by first | omega | (simp only [List.length_append, List.length_cons, List.length_nil]; omega)), (by rw [hys]; rfl), cw, Z, Z, le, lf, lg, (N8 be am bh (by omega)), (Blk.typN (V.grown0 ap) am bh (by decide))⟩)))))))))
 refine Xa (Qg (q := true) ab ad (by decide) Z (Xb (Xq (Qa Z Z (Xz (Xu (Xq (X9 (Xa (Xd (v := vi 2) ab Z (Xe (v := vi 2) Z Z (Xb ?_))))))))))))
 refine Qv (m := 14) [[], [], [], [2], [2, 3], [2, 3, 4], [], [2, 3, 4, 5, 6], [2, 3, 4, 5, 6, 7], [1], [1, 9], [1, 2, 3, 4, 5, 6, 7, 8, 9, 10], [1, 2, 3, 4, 5, 6, 7, 8, 9, 10, 11], [1, 2, 3, 4, 5, 6, 7, 8, 9, 10, 11, 12], [0, 1, 2, 3, 4, 5, 6, 7, 8, 9, 10, 11, 12, 13], [0, 1, 2, 3, 4, 5, 6, 7, 8, 9, 10, 11, 12, 13, 14]] (fun S F w' => ∃ (O : Nat), ah.grownBy w' none ∧ F 0 = pt R 0 ∧ F 2 = .slice none 0 0 ∧ F 3 = .slice aq ys.length cq ∧ F 4 = vi 2 ∧ F 8 = vi 3 ∧ F 9 = vi 2 ∧ (S 13 = true → F 25 = .slice (pa O) 1 1 ∧ w.heap.size ≤ O ∧ Blk w' O 3 (([z] : List Int).flatMap icell).toArray ∧ R < O ∧ ah.heap.size ≤ O) ∧ Vals S F [(0, 12, .slice aq ys.length cq), (1, 13, pt R 0), (2, 14, pt R 0), (3, 15, pt R 0), (4, 16, pt R 3), (5, 17, vi 0), (6, 18, vi 2), (7, 19, vi 2), (8, 20, vi 2), (9, 21, pt R 0), (10, 22, pt R 0), (11, 23, pt R 2), (12, 24, vi z)]) Yz (by kernel_rfl) ⟨0, X8 _, bb, bc, ba, Z, ad, ab, Ym, J2 _⟩ ?_ ?_
 refine Xi (fun S F qt hS hbef hcl hI => ?_) ?_
 obtain ⟨O, dx, lj, lk, cm, ll, lm, ln, E, hvs⟩ := hI
 exact Xd (v := .slice aq ys.length cq) cm Z (Xb ⟨O, dx, lj, lk, cm, ll, lm, ln, E, Vals.up 0 hvs Z Z Z⟩)
 refine Xi (fun S F qu hS hbef hcl hI => ?_) ?_
 obtain ⟨O, dy, cn, lp, lu, lv, lw, ly, E, hvs⟩ := hI
 exact Xd (v := pt R 0) cn Z (Xb ⟨O, dy, cn, lp, lu, lv, lw, ly, Xv 13 hS hcl Z, Vals.up 1 hvs Z Z Z⟩)
 refine Xi (fun S F qv hS hbef hcl hI => ?_) ?_
 obtain ⟨O, dz, co, lz, l0, l3, l4, l5, E, hvs⟩ := hI
 exact Xd (v := pt R 0) co Z (Xb ⟨O, dz, co, lz, l0, l3, l4, l5, Xv 13 hS hcl Z, Vals.up 2 hvs Z Z Z⟩)
 refine Xi (fun S F qw hS hbef hcl hI => ?_) ?_
 obtain ⟨O, d0, l6, l7, l8, l9, ma, mb, E, hvs⟩ := hI
 exact Xs (Vals.at 2 hvs Z (Xl 2 hbef Z)) Z (Xb ⟨O, d0, l6, l7, l8, l9, ma, mb, Xv 13 hS hcl Z, Vals.up 3 hvs Z Z Z⟩)
 refine Xi (fun S F qx hS hbef hcl hI => ?_) ?_
 obtain ⟨O, d1, mc, me, mf, mg, mh, ml, E, hvs⟩ := hI
 exact Xc (o' := 3) Jp (Vals.at 3 hvs Z (Xl 3 hbef Z)) Z Z (Xb ⟨O, d1, mc, me, mf, mg, mh, ml, Xv 13 hS hcl Z, Vals.up 4 hvs Z Z Z⟩)
 refine Xi (fun S F qy hS hbef hcl hI => ?_) ?_
 obtain ⟨O, bn, mn, mo, mp, mq, mr, mt, E, hvs⟩ := hI
 exact Xh (v := vi 0) X1 (Vals.at 4 hvs Z (Xl 4 hbef Z)) ((V.grown0 bn).cell Z) Z (Xb ⟨O, bn, mn, mo, mp, mq, mr, mt, Xv 13 hS hcl Z, Vals.up 5 hvs Z Z Z⟩)
 refine Xi (fun S F qz hS hbef hcl hI => ?_) ?_
 obtain ⟨O, d2, mu, mv, mw, ct, my, mz, E, hvs⟩ := hI
 exact Xd (v := vi 2) ct Z (Xb ⟨O, d2, mu, mv, mw, ct, my, mz, Xv 13 hS hcl Z, Vals.up 6 hvs Z Z Z⟩)
 refine Xi (fun S F q0 hS hbef hcl hI => ?_) ?_
 obtain ⟨O, d3, m4, m5, m6, m7, m8, m9, E, hvs⟩ := hI
 exact Yl (c := 2) (Vals.at 5 hvs Z (Xl 5 hbef Z)) (Vals.at 6 hvs Z (Xl 6 hbef Z)) (by omega) (by omega) (by omega) Z (Xb ⟨O, d3, m4, m5, m6, m7, m8, m9, Xv 13 hS hcl Z, Vals.up 7 hvs Z Z Z⟩)
 refine Xi (fun S F q4 hS hbef hcl hI => ?_) ?_
 obtain ⟨O, d4, na, nb, nc, nd, ne, nf, E, hvs⟩ := hI
 exact Q9 (c := 2) (Vals.at 7 hvs Z (Xl 7 hbef Z)) Z (by omega) (by omega) (by omega) Z Z (Xb ⟨O, d4, na, nb, nc, nd, ne, nf, Xv 13 hS hcl Z, Vals.up 8 hvs Z Z Z⟩)
 refine Xi (fun S F q5 hS hbef hcl hI => ?_) ?_
 obtain ⟨O, d5, ng, nh, ni, nj, nk, nn, E, hvs⟩ := hI
 exact Xs (Vals.at 1 hvs Z (Xl 1 hbef Z)) Z (Xb ⟨O, d5, ng, nh, ni, nj, nk, nn, Xv 13 hS hcl Z, Vals.up 9 hvs Z Z Z⟩)
 refine Xi (fun S F q6 hS hbef hcl hI => ?_) ?_
 obtain ⟨O, d6, no, np, nq, nr, nu, nv, E, hvs⟩ := hI
 exact Xc (o' := 0) Kc (Vals.at 9 hvs Z (Xl 9 hbef Z)) Z Z (Xb ⟨O, d6, no, np, nq, nr, nu, nv, Xv 13 hS hcl Z, Vals.up 10 hvs Z Z Z⟩)
 refine Xi (fun S F q7 hS hbef hcl hI => ?_) ?_
 obtain ⟨O, d7, nw, nx, ny, n5, n7, n9, E, hvs⟩ := hI
 exact Qm (o' := 2) K6 (Vals.at 10 hvs Z (Xl 10 hbef Z)) (Vals.at 8 hvs Z (Xl 8 hbef Z)) (by decide) (by decide) Z Z (Xb ⟨O, d7, nw, nx, ny, n5, n7, n9, Xv 13 hS hcl Z, Vals.up 11 hvs Z Z Z⟩)
 refine Xi (fun S F q8 hS hbef hcl hI => ?_) ?_
 obtain ⟨O, bp, oa, ob, oc, od, oe, og, E, hvs⟩ := hI
 exact Xh (v := vi z) X1 (Vals.at 11 hvs Z (Xl 11 hbef Z)) ((V.grown0 bp).cell Z) Z (Xb ⟨O, bp, oa, ob, oc, od, oe, og, Xv 13 hS hcl Z, Vals.up 12 hvs Z Z Z⟩)
 refine Xi (fun S F q9 hS hbef hcl hI => ?_) ?_
 obtain ⟨O, ak, oh, ol, om, oo, oq, ot, E, hvs⟩ := hI
 refine X7 (ps := [(0, vi z)]) (e := 3) (cs := (([z] : List Int).flatMap icell).toArray) (Xk (Vals.at 12 hvs Z (Xl 12 hbef Z)) X5) (fun _ => by kernel_rfl) Z ?_
 intro ee ra ag
 have bw := Yd ag (low0 ac ak)
 have aw := Xo ag ((V.grown0 ak)).lt
 exact Xb ⟨ee, (low0 ak ag.grw), oh, ol, om, oo, oq, ot, fun _ => ⟨Z, bw, ag.blk, aw, (nt ak.size (Nat.le_of_eq ag.eq.symm))⟩, Vals.keep hvs Z⟩
 exact Jb
 intro S F rb hall hI
 obtain ⟨O, ar, ou, ov, pf, pg, ow, ox, E, hvs⟩ := hI
 have bf := low0 ac ar
 obtain ⟨oy, o5, bt, ea, o1⟩ := E (hall 13 (by decide))
 have an := (hOw.grown0 ar)
 refine Jg (g := icell) (ys := ys) (zs := ([z] : List Int)) (lo := w.heap.size) Vs Z Yq (by omega) Jz (Vals.at 0 hvs Z (hall 0 (by decide))) oy an (Jo Yq bt) (fun h => by cases h) (by first | omega | exact Nat.le_of_ble_eq_true rfl | (simp only [List.length_nil, List.length_cons, List.length_append, List.length_replicate]; omega)) (by omega) (by first | exact bf.size | omega) Z ?_
 intro ca a9 rf cy bi o8
 exact Xe (v := .slice ca (ys ++ ([z] : List Int)).length a9) Z Z (Xb (Y3 (Xu (X2 (Yl (c := 3) ox Z (by omega) (by omega) (by omega) Z (Xd (v := vi 3) Z Z (Xb (Xu (⟨(3 - 3 : Int).toNat, by omega, 3, ca, a9, (ys ++ ([z] : List Int)), Z, (by omega), (by first | omega | (simp only [List.length_append, List.length_cons, List.length_nil]; omega)), (by rw [hys]; rfl), cy, Z, Z, ou, ov, ow, (N8 bf an bi (by omega)), (Blk.typN (V.grown0 ar) an bi (by decide))⟩)))))))))
 refine Xa (Qg (q := false) ab ad (by decide) Z (Xb (Xq (Y4 Z Z (Qf (Y9 (Y9 (Jh (Xu (Xa (Xd (v := .slice aq ys.length cq) ba Z (Xe (v := .slice aq ys.length cq) Z Z ?_))))))))))))
 refine Xb (Xt ?_)
 have hyz : ys = ([x, y, z] : List Int) := hys
 subst hyz
 exact ⟨.slice aq ([x, y, z] : List Int).length cq, Yt Z Z, aq, cq, Z, hOw, ac⟩
theorem Zb (x y z : Int) (R : Nat) (w : World) (hR : Blk w R 147 #[vi x, vi y, vi z, vi 1, vi 0]) : CallsR Tryz.prog 110 #[pt R 0] w (fun v w' => ∃ (a : Option Addr) (c : Nat), v = .slice a 0 c ∧ OwnN w.heap.size w' a 3 1 c ([] : List Int).length (([] : List Int).flatMap icell) ∧ w.grownBy w' none) := by
 refine Xx (n := 29) Tryz.func110 Z Tryz.ntmps110 Z (Xa (Xe (v := .slice none 0 0) Z Z (Xb (Xa (Xe (v := .slice none 0 0) Z Z (Xb (Xq (Xa (Xd (v := pt R 0) Z Z (Xs Z Z (Xc (o' := 4) Q4 Z Z Z (Xh (v := vi 0) X1 Z (hR.cell Z) Z ?_))))))))))))
 refine Xd (v := vi 0) Z Z (Xb (X9 (Ql (fun mm f' w' => ∃ (i : Int) (aq : Option Addr) (cq : Nat) (ys : List Int), mm = (0 - i : Int).toNat ∧ (0 ≤ i ∧ i ≤ 0) ∧ (ys.length : Int) = i ∧ ys = ([] : List Int).take i.toNat ∧ OwnN w.heap.size w' aq 3 1 cq ys.length (ys.flatMap icell) ∧ f' 3 = .slice aq ys.length cq ∧ f' 9 = vi i ∧ f' 0 = pt R 0 ∧ f' 2 = .slice none 0 0 ∧ f' 8 = vi 0 ∧ w.grownBy w' none ∧ Blk w' R 147 #[vi x, vi y, vi z, vi 1, vi 0]) (0 - 0 : Int).toNat ⟨0, none, 0, ([] : List Int), Z, (by omega), Z, Z, OwnN.nil, Z, Z, Z, Z, Z, (World.grownBy.refl w none), hR⟩ ?_)))
 rintro mm ad af ⟨i, aq, cq, ys, V, hi, hyl, hys, hOw, G, J, ab, ac, O, E, ae⟩
 rcases (show i = 0 by omega) with rfl
 refine Xa (Qg (q := false) J O (by decide) Z (Xb (Xq (Y4 Z Z (Qf (Y9 (Y9 (Jh (Xu (Xa (Xd (v := .slice aq ys.length cq) G Z (Xe (v := .slice aq ys.length cq) Z Z ?_))))))))))))
 refine Xb (Xt ?_)
 have hyz : ys = ([] : List Int) := hys
 subst hyz
 exact ⟨.slice aq ([] : List Int).length cq, Yt Z Z, aq, cq, Z, hOw, E⟩
theorem Zc (x y z : Int) (R : Nat) (w : World) (hR : Blk w R 147 #[vi x, vi y, vi z, vi 1, vi 1]) : CallsR Tryz.prog 110 #[pt R 0] w (fun v w' => ∃ (a : Option Addr) (c : Nat), v = .slice a 1 c ∧ OwnN w.heap.size w' a 3 1 c ([y] : List Int).length (([y] : List Int).flatMap icell) ∧ w.grownBy w' none) := by
 refine Xx (n := 29) Tryz.func110 Z Tryz.ntmps110 Z (Xa (Xe (v := .slice none 0 0) Z Z (Xb (Xa (Xe (v := .slice none 0 0) Z Z (Xb (Xq (Xa (Xd (v := pt R 0) Z Z (Xs Z Z (Xc (o' := 4) Q4 Z Z Z (Xh (v := vi 1) X1 Z (hR.cell Z) Z ?_))))))))))))
 refine Xd (v := vi 0) Z Z (Xb (X9 (Ql (fun mm f' w' => ∃ (i : Int) (aq : Option Addr) (cq : Nat) (ys : List Int), mm = (1 - i : Int).toNat ∧ (0 ≤ i ∧ i ≤ 1) ∧ (ys.length : Int) = i ∧ ys = ([y] : List Int).take i.toNat ∧ OwnN w.heap.size w' aq 3 1 cq ys.length (ys.flatMap icell) ∧ f' 3 = .slice aq ys.length cq ∧ f' 9 = vi i ∧ f' 0 = pt R 0 ∧ f' 2 = .slice none 0 0 ∧ f' 8 = vi 1 ∧ w.grownBy w' none ∧ Blk w' R 147 #[vi x, vi y, vi z, vi 1, vi 1]) (1 - 0 : Int).toNat ⟨0, none, 0, ([] : List Int), Z, (by omega), Z, Z, OwnN.nil, Z, Z, Z, Z, Z, (World.grownBy.refl w none), hR⟩ ?_)))
 rintro mm fq az ⟨i, aq, cq, ys, fm, hi, hyl, hys, hOw, ap, af, bm, bn, ah, ab, ag⟩
 rcases (show i = 0 ∨ i = 1 by omega) with rfl | rfl
 refine Xa (Qg (q := true) af ah (by decide) Z (Xb (Xq (Qa Z Z (Xz (Xu (Xq (X9 (Xa (Xd (v := vi 0) af Z (Xe (v := vi 0) Z Z (Xb ?_))))))))))))
 refine Qv (m := 14) [[], [], [], [2], [2, 3], [2, 3, 4], [], [2, 3, 4, 5, 6], [2, 3, 4, 5, 6, 7], [1], [1, 9], [1, 2, 3, 4, 5, 6, 7, 8, 9, 10], [1, 2, 3, 4, 5, 6, 7, 8, 9, 10, 11], [1, 2, 3, 4, 5, 6, 7, 8, 9, 10, 11, 12], [0, 1, 2, 3, 4, 5, 6, 7, 8, 9, 10, 11, 12, 13], [0, 1, 2, 3, 4, 5, 6, 7, 8, 9, 10, 11, 12, 13, 14]] (fun S F w' => ∃ (E : Nat), az.grownBy w' none ∧ F 0 = pt R 0 ∧ F 2 = .slice none 0 0 ∧ F 3 = .slice aq ys.length cq ∧ F 4 = vi 0 ∧ F 8 = vi 1 ∧ F 9 = vi 0 ∧ (S 13 = true → F 25 = .slice (pa E) 1 1 ∧ w.heap.size ≤ E ∧ Blk w' E 3 (([y] : List Int).flatMap icell).toArray ∧ R < E ∧ az.heap.size ≤ E) ∧ Vals S F [(0, 12, .slice aq ys.length cq), (1, 13, pt R 0), (2, 14, pt R 0), (3, 15, pt R 0), (4, 16, pt R 3), (5, 17, vi 1), (6, 18, vi 0), (7, 19, vi 1), (8, 20, vi 1), (9, 21, pt R 0), (10, 22, pt R 0), (11, 23, pt R 1), (12, 24, vi y)]) Yz (by kernel_rfl) ⟨0, X8 _, bm, bn, ap, Z, ah, af, Ym, J2 _⟩ ?_ ?_
 refine Xi (fun S F fr hS hbef hcl hI => ?_) ?_
 obtain ⟨E, a9, bp, bq, ar, br, bt, bu, G, hvs⟩ := hI
 exact Xd (v := .slice aq ys.length cq) ar Z (Xb ⟨E, a9, bp, bq, ar, br, bt, bu, G, Vals.up 0 hvs Z Z Z⟩)
 refine Xi (fun S F ft hS hbef hcl hI => ?_) ?_
 obtain ⟨E, ba, au, bv, bw, bx, bz, ca, G, hvs⟩ := hI
 exact Xd (v := pt R 0) au Z (Xb ⟨E, ba, au, bv, bw, bx, bz, ca, Xv 13 hS hcl Z, Vals.up 1 hvs Z Z Z⟩)
 refine Xi (fun S F fu hS hbef hcl hI => ?_) ?_
 obtain ⟨E, bb, av, cc, cd, ce, cf, cg, G, hvs⟩ := hI
 exact Xd (v := pt R 0) av Z (Xb ⟨E, bb, av, cc, cd, ce, cf, cg, Xv 13 hS hcl Z, Vals.up 2 hvs Z Z Z⟩)
 refine Xi (fun S F fv hS hbef hcl hI => ?_) ?_
 obtain ⟨E, bc, cj, ck, cl, cm, cn, co, G, hvs⟩ := hI
 exact Xs (Vals.at 2 hvs Z (Xl 2 hbef Z)) Z (Xb ⟨E, bc, cj, ck, cl, cm, cn, co, Xv 13 hS hcl Z, Vals.up 3 hvs Z Z Z⟩)
 refine Xi (fun S F fw hS hbef hcl hI => ?_) ?_
 obtain ⟨E, bd, ct, cv, cw, cy, cz, c8, G, hvs⟩ := hI
 exact Xc (o' := 3) Jp (Vals.at 3 hvs Z (Xl 3 hbef Z)) Z Z (Xb ⟨E, bd, ct, cv, cw, cy, cz, c8, Xv 13 hS hcl Z, Vals.up 4 hvs Z Z Z⟩)
 refine Xi (fun S F fx hS hbef hcl hI => ?_) ?_
 obtain ⟨E, ak, c9, da, db, dc, de, df, G, hvs⟩ := hI
 exact Xh (v := vi 1) X1 (Vals.at 4 hvs Z (Xl 4 hbef Z)) ((ag.grown0 ak).cell Z) Z (Xb ⟨E, ak, c9, da, db, dc, de, df, Xv 13 hS hcl Z, Vals.up 5 hvs Z Z Z⟩)
 refine Xi (fun S F fy hS hbef hcl hI => ?_) ?_
 obtain ⟨E, be, dg, dh, di, aw, dk, dl, G, hvs⟩ := hI
 exact Xd (v := vi 0) aw Z (Xb ⟨E, be, dg, dh, di, aw, dk, dl, Xv 13 hS hcl Z, Vals.up 6 hvs Z Z Z⟩)
 refine Xi (fun S F fz hS hbef hcl hI => ?_) ?_
 obtain ⟨E, bf, dm, dn, dp, dq, dr, dt, G, hvs⟩ := hI
 exact Yl (c := 1) (Vals.at 5 hvs Z (Xl 5 hbef Z)) (Vals.at 6 hvs Z (Xl 6 hbef Z)) (by omega) (by omega) (by omega) Z (Xb ⟨E, bf, dm, dn, dp, dq, dr, dt, Xv 13 hS hcl Z, Vals.up 7 hvs Z Z Z⟩)
 refine Xi (fun S F f8 hS hbef hcl hI => ?_) ?_
 obtain ⟨E, bg, du, dv, dw, dx, dy, dz, G, hvs⟩ := hI
 exact Q9 (c := 1) (Vals.at 7 hvs Z (Xl 7 hbef Z)) Z (by omega) (by omega) (by omega) Z Z (Xb ⟨E, bg, du, dv, dw, dx, dy, dz, Xv 13 hS hcl Z, Vals.up 8 hvs Z Z Z⟩)
 refine Xi (fun S F f9 hS hbef hcl hI => ?_) ?_
 obtain ⟨E, bh, d0, d1, d2, d3, d4, d5, G, hvs⟩ := hI
 exact Xs (Vals.at 1 hvs Z (Xl 1 hbef Z)) Z (Xb ⟨E, bh, d0, d1, d2, d3, d4, d5, Xv 13 hS hcl Z, Vals.up 9 hvs Z Z Z⟩)
 refine Xi (fun S F ga hS hbef hcl hI => ?_) ?_
 obtain ⟨E, bi, d6, d7, d8, d9, ea, eb, G, hvs⟩ := hI
 exact Xc (o' := 0) Kc (Vals.at 9 hvs Z (Xl 9 hbef Z)) Z Z (Xb ⟨E, bi, d6, d7, d8, d9, ea, eb, Xv 13 hS hcl Z, Vals.up 10 hvs Z Z Z⟩)
 refine Xi (fun S F gb hS hbef hcl hI => ?_) ?_
 obtain ⟨E, bj, ed, ee, ef, eg, eh, ei, G, hvs⟩ := hI
 exact Qm (o' := 1) K6 (Vals.at 10 hvs Z (Xl 10 hbef Z)) (Vals.at 8 hvs Z (Xl 8 hbef Z)) (by decide) (by decide) Z Z (Xb ⟨E, bj, ed, ee, ef, eg, eh, ei, Xv 13 hS hcl Z, Vals.up 11 hvs Z Z Z⟩)
 refine Xi (fun S F gc hS hbef hcl hI => ?_) ?_
 obtain ⟨E, al, ej, ek, em, eo, ep, eu, G, hvs⟩ := hI
 exact Xh (v := vi y) X1 (Vals.at 11 hvs Z (Xl 11 hbef Z)) ((ag.grown0 al).cell Z) Z (Xb ⟨E, al, ej, ek, em, eo, ep, eu, Xv 13 hS hcl Z, Vals.up 12 hvs Z Z Z⟩)
 refine Xi (fun S F gf hS hbef hcl hI => ?_) ?_
 obtain ⟨E, O, ew, ez, e0, fa, fb, fc, G, hvs⟩ := hI
 refine X7 (ps := [(0, vi y)]) (e := 3) (cs := (([y] : List Int).flatMap icell).toArray) (Xk (Vals.at 12 hvs Z (Xl 12 hbef Z)) X5) (fun _ => by kernel_rfl) Z ?_
 intro bl gg J
 have an := Yd J (low0 ab O)
 have ad := Xo J ((ag.grown0 O)).lt
 exact Xb ⟨bl, (low0 O J.grw), ew, ez, e0, fa, fb, fc, fun _ => ⟨Z, an, J.blk, ad, (nt O.size (Nat.le_of_eq J.eq.symm))⟩, Vals.keep hvs Z⟩
 exact Jb
 intro S F gh hall hI
 obtain ⟨E, ac, fd, fe, fo, fp, ff, fg, G, hvs⟩ := hI
 have ai := low0 ab ac
 obtain ⟨fh, fj, am, bk, fi⟩ := G (hall 13 (by decide))
 have V := (hOw.grown0 ac)
 refine Jg (g := icell) (ys := ys) (zs := ([y] : List Int)) (lo := w.heap.size) Vs Z Yq (by omega) Jz (Vals.at 0 hvs Z (hall 0 (by decide))) fh V (Jo Yq am) (fun h => by cases h) (by first | omega | exact Nat.le_of_ble_eq_true rfl | (simp only [List.length_nil, List.length_cons, List.length_append, List.length_replicate]; omega)) (by omega) (by first | exact ai.size | omega) Z ?_
 intro ao ae gi a8 aj fk
 exact Xe (v := .slice ao (ys ++ ([y] : List Int)).length ae) Z Z (Xb (Y3 (Xu (X2 (Yl (c := 1) fg Z (by omega) (by omega) (by omega) Z (Xd (v := vi 1) Z Z (Xb (Xu (⟨(1 - 1 : Int).toNat, by omega, 1, ao, ae, (ys ++ ([y] : List Int)), Z, (by omega), (by first | omega | (simp only [List.length_append, List.length_cons, List.length_nil]; omega)), (by rw [hys]; rfl), a8, Z, Z, fd, fe, ff, (N8 ai V aj (by omega)), (Blk.typN (ag.grown0 ac) V aj (by decide))⟩)))))))))
 refine Xa (Qg (q := false) af ah (by decide) Z (Xb (Xq (Y4 Z Z (Qf (Y9 (Y9 (Jh (Xu (Xa (Xd (v := .slice aq ys.length cq) ap Z (Xe (v := .slice aq ys.length cq) Z Z ?_))))))))))))
 refine Xb (Xt ?_)
 have hyz : ys = ([y] : List Int) := hys
 subst hyz
 exact ⟨.slice aq ([y] : List Int).length cq, Yt Z Z, aq, cq, Z, hOw, ab⟩
theorem Zd (x y z : Int) (R : Nat) (w : World) (hR : Blk w R 147 #[vi x, vi y, vi z, vi 1, vi 2]) : CallsR Tryz.prog 110 #[pt R 0] w (fun v w' => ∃ (a : Option Addr) (c : Nat), v = .slice a 2 c ∧ OwnN w.heap.size w' a 3 1 c ([y, z] : List Int).length (([y, z] : List Int).flatMap icell) ∧ w.grownBy w' none) := by
 refine Xx (n := 29) Tryz.func110 Z Tryz.ntmps110 Z (Xa (Xe (v := .slice none 0 0) Z Z (Xb (Xa (Xe (v := .slice none 0 0) Z Z (Xb (Xq (Xa (Xd (v := pt R 0) Z Z (Xs Z Z (Xc (o' := 4) Q4 Z Z Z (Xh (v := vi 2) X1 Z (hR.cell Z) Z ?_))))))))))))
 refine Xd (v := vi 0) Z Z (Xb (X9 (Ql (fun mm f' w' => ∃ (i : Int) (aq : Option Addr) (cq : Nat) (ys : List Int), mm = (2 - i : Int).toNat ∧ (0 ≤ i ∧ i ≤ 2) ∧ (ys.length : Int) = i ∧ ys = ([y, z] : List Int).take i.toNat ∧ OwnN w.heap.size w' aq 3 1 cq ys.length (ys.flatMap icell) ∧ f' 3 = .slice aq ys.length cq ∧ f' 9 = vi i ∧ f' 0 = pt R 0 ∧ f' 2 = .slice none 0 0 ∧ f' 8 = vi 2 ∧ w.grownBy w' none ∧ Blk w' R 147 #[vi x, vi y, vi z, vi 1, vi 2]) (2 - 0 : Int).toNat ⟨0, none, 0, ([] : List Int), Z, (by omega), Z, Z, OwnN.nil, Z, Z, Z, Z, Z, (World.grownBy.refl w none), hR⟩ ?_)))
 rintro mm ku ap ⟨i, aq, cq, ys, kp, hi, hyl, hys, hOw, ar, V, bi, bj, ag, ad, O⟩
 rcases (show i = 0 ∨ i = 1 ∨ i = 2 by omega) with rfl | rfl | rfl
 refine Xa (Qg (q := true) V ag (by decide) Z (Xb (Xq (Qa Z Z (Xz (Xu (Xq (X9 (Xa (Xd (v := vi 0) V Z (Xe (v := vi 0) Z Z (Xb ?_))))))))))))
 refine Qv (m := 14) [[], [], [], [2], [2, 3], [2, 3, 4], [], [2, 3, 4, 5, 6], [2, 3, 4, 5, 6, 7], [1], [1, 9], [1, 2, 3, 4, 5, 6, 7, 8, 9, 10], [1, 2, 3, 4, 5, 6, 7, 8, 9, 10, 11], [1, 2, 3, 4, 5, 6, 7, 8, 9, 10, 11, 12], [0, 1, 2, 3, 4, 5, 6, 7, 8, 9, 10, 11, 12, 13], [0, 1, 2, 3, 4, 5, 6, 7, 8, 9, 10, 11, 12, 13, 14]] (fun S F w' => ∃ (E : Nat), ap.grownBy w' none ∧ F 0 = pt R 0 ∧ F 2 = .slice none 0 0 ∧ F 3 = .slice aq ys.length cq ∧ F 4 = vi 0 ∧ F 8 = vi 2 ∧ F 9 = vi 0 ∧ (S 13 = true → F 25 = .slice (pa E) 1 1 ∧ w.heap.size ≤ E ∧ Blk w' E 3 (([y] : List Int).flatMap icell).toArray ∧ R < E ∧ ap.heap.size ≤ E) ∧ Vals S F [(0, 12, .slice aq ys.length cq), (1, 13, pt R 0), (2, 14, pt R 0), (3, 15, pt R 0), (4, 16, pt R 3), (5, 17, vi 1), (6, 18, vi 0), (7, 19, vi 1), (8, 20, vi 1), (9, 21, pt R 0), (10, 22, pt R 0), (11, 23, pt R 1), (12, 24, vi y)]) Yz (by kernel_rfl) ⟨0, X8 _, bi, bj, ar, Z, ag, V, Ym, J2 _⟩ ?_ ?_
 refine Xi (fun S F kv hS hbef hcl hI => ?_) ?_
 obtain ⟨E, bw, df, dg, bk, dh, di, dk, J, hvs⟩ := hI
 exact Xd (v := .slice aq ys.length cq) bk Z (Xb ⟨E, bw, df, dg, bk, dh, di, dk, J, Vals.up 0 hvs Z Z Z⟩)
 refine Xi (fun S F kw hS hbef hcl hI => ?_) ?_
 obtain ⟨E, bx, bl, dl, dm, dn, dp, dq, J, hvs⟩ := hI
 exact Xd (v := pt R 0) bl Z (Xb ⟨E, bx, bl, dl, dm, dn, dp, dq, Xv 13 hS hcl Z, Vals.up 1 hvs Z Z Z⟩)
 refine Xi (fun S F kx hS hbef hcl hI => ?_) ?_
 obtain ⟨E, bz, bm, dr, dt, du, dv, dw, J, hvs⟩ := hI
 exact Xd (v := pt R 0) bm Z (Xb ⟨E, bz, bm, dr, dt, du, dv, dw, Xv 13 hS hcl Z, Vals.up 2 hvs Z Z Z⟩)
 refine Xi (fun S F ky hS hbef hcl hI => ?_) ?_
 obtain ⟨E, ca, dx, dy, dz, d0, d1, d2, J, hvs⟩ := hI
 exact Xs (Vals.at 2 hvs Z (Xl 2 hbef Z)) Z (Xb ⟨E, ca, dx, dy, dz, d0, d1, d2, Xv 13 hS hcl Z, Vals.up 3 hvs Z Z Z⟩)
 refine Xi (fun S F kz hS hbef hcl hI => ?_) ?_
 obtain ⟨E, cc, d3, d4, d5, d6, d7, d8, J, hvs⟩ := hI
 exact Xc (o' := 3) Jp (Vals.at 3 hvs Z (Xl 3 hbef Z)) Z Z (Xb ⟨E, cc, d3, d4, d5, d6, d7, d8, Xv 13 hS hcl Z, Vals.up 4 hvs Z Z Z⟩)
 refine Xi (fun S F k0 hS hbef hcl hI => ?_) ?_
 obtain ⟨E, a8, d9, ea, eb, ed, ee, ef, J, hvs⟩ := hI
 exact Xh (v := vi 1) X1 (Vals.at 4 hvs Z (Xl 4 hbef Z)) ((O.grown0 a8).cell Z) Z (Xb ⟨E, a8, d9, ea, eb, ed, ee, ef, Xv 13 hS hcl Z, Vals.up 5 hvs Z Z Z⟩)
 refine Xi (fun S F k4 hS hbef hcl hI => ?_) ?_
 obtain ⟨E, cd, eg, eh, ei, bn, ej, ek, J, hvs⟩ := hI
 exact Xd (v := vi 0) bn Z (Xb ⟨E, cd, eg, eh, ei, bn, ej, ek, Xv 13 hS hcl Z, Vals.up 6 hvs Z Z Z⟩)
 refine Xi (fun S F k5 hS hbef hcl hI => ?_) ?_
 obtain ⟨E, ce, em, eo, ep, eu, ew, ez, J, hvs⟩ := hI
 exact Yl (c := 1) (Vals.at 5 hvs Z (Xl 5 hbef Z)) (Vals.at 6 hvs Z (Xl 6 hbef Z)) (by omega) (by omega) (by omega) Z (Xb ⟨E, ce, em, eo, ep, eu, ew, ez, Xv 13 hS hcl Z, Vals.up 7 hvs Z Z Z⟩)
 refine Xi (fun S F k6 hS hbef hcl hI => ?_) ?_
 obtain ⟨E, cf, e0, fa, fb, fc, fd, fe, J, hvs⟩ := hI
 exact Q9 (c := 1) (Vals.at 7 hvs Z (Xl 7 hbef Z)) Z (by omega) (by omega) (by omega) Z Z (Xb ⟨E, cf, e0, fa, fb, fc, fd, fe, Xv 13 hS hcl Z, Vals.up 8 hvs Z Z Z⟩)
 refine Xi (fun S F k7 hS hbef hcl hI => ?_) ?_
 obtain ⟨E, cg, ff, fg, fh, fi, fj, fk, J, hvs⟩ := hI
 exact Xs (Vals.at 1 hvs Z (Xl 1 hbef Z)) Z (Xb ⟨E, cg, ff, fg, fh, fi, fj, fk, Xv 13 hS hcl Z, Vals.up 9 hvs Z Z Z⟩)
 refine Xi (fun S F k8 hS hbef hcl hI => ?_) ?_
 obtain ⟨E, cj, fm, fo, fp, fq, fr, ft, J, hvs⟩ := hI
 exact Xc (o' := 0) Kc (Vals.at 9 hvs Z (Xl 9 hbef Z)) Z Z (Xb ⟨E, cj, fm, fo, fp, fq, fr, ft, Xv 13 hS hcl Z, Vals.up 10 hvs Z Z Z⟩)
 refine Xi (fun S F k9 hS hbef hcl hI => ?_) ?_
 obtain ⟨E, ck, fu, fv, fw, fx, fy, fz, J, hvs⟩ := hI
 exact Qm (o' := 1) K6 (Vals.at 10 hvs Z (Xl 10 hbef Z)) (Vals.at 8 hvs Z (Xl 8 hbef Z)) (by decide) (by decide) Z Z (Xb ⟨E, ck, fu, fv, fw, fx, fy, fz, Xv 13 hS hcl Z, Vals.up 11 hvs Z Z Z⟩)
 refine Xi (fun S F la hS hbef hcl hI => ?_) ?_
 obtain ⟨E, a9, f8, f9, ga, gb, gc, gf, J, hvs⟩ := hI
 exact Xh (v := vi y) X1 (Vals.at 11 hvs Z (Xl 11 hbef Z)) ((O.grown0 a9).cell Z) Z (Xb ⟨E, a9, f8, f9, ga, gb, gc, gf, Xv 13 hS hcl Z, Vals.up 12 hvs Z Z Z⟩)
 refine Xi (fun S F lc hS hbef hcl hI => ?_) ?_
 obtain ⟨E, ae, gg, gh, gi, gj, gk, gl, J, hvs⟩ := hI
 refine X7 (ps := [(0, vi y)]) (e := 3) (cs := (([y] : List Int).flatMap icell).toArray) (Xk (Vals.at 12 hvs Z (Xl 12 hbef Z)) X5) (fun _ => by kernel_rfl) Z ?_
 intro dc ld ab
 have be := Yd ab (low0 ad ae)
 have al := Xo ab ((O.grown0 ae)).lt
 exact Xb ⟨dc, (low0 ae ab.grw), gg, gh, gi, gj, gk, gl, fun _ => ⟨Z, be, ab.blk, al, (nt ae.size (Nat.le_of_eq ab.eq.symm))⟩, Vals.keep hvs Z⟩
 exact Jb
 intro S F le hall hI
 obtain ⟨E, aj, gm, gp, kq, kr, gq, gr, J, hvs⟩ := hI
 have au := low0 ad aj
 obtain ⟨gt, kl, bc, da, kj⟩ := J (hall 13 (by decide))
 have ah := (hOw.grown0 aj)
 refine Jg (g := icell) (ys := ys) (zs := ([y] : List Int)) (lo := w.heap.size) Vs Z Yq (by omega) Jz (Vals.at 0 hvs Z (hall 0 (by decide))) gt ah (Jo Yq bc) (fun h => by cases h) (by first | omega | exact Nat.le_of_ble_eq_true rfl | (simp only [List.length_nil, List.length_cons, List.length_append, List.length_replicate]; omega)) (by omega) (by first | exact au.size | omega) Z ?_
 intro bg an lf bu aw kn
 exact Xe (v := .slice bg (ys ++ ([y] : List Int)).length an) Z Z (Xb (Y3 (Xu (X2 (Yl (c := 1) gr Z (by omega) (by omega) (by omega) Z (Xd (v := vi 1) Z Z (Xb (Xu (⟨(2 - 1 : Int).toNat, by omega, 1, bg, an, (ys ++ ([y] : List Int)), Z, (by omega), (by first | omega | (simp only [List.length_append, List.length_cons, List.length_nil]; omega)), (by rw [hys]; rfl), bu, Z, Z, gm, gp, gq, (N8 au ah aw (by omega)), (Blk.typN (O.grown0 aj) ah aw (by decide))⟩)))))))))
 refine Xa (Qg (q := true) V ag (by decide) Z (Xb (Xq (Qa Z Z (Xz (Xu (Xq (X9 (Xa (Xd (v := vi 1) V Z (Xe (v := vi 1) Z Z (Xb ?_))))))))))))
 refine Qv (m := 14) [[], [], [], [2], [2, 3], [2, 3, 4], [], [2, 3, 4, 5, 6], [2, 3, 4, 5, 6, 7], [1], [1, 9], [1, 2, 3, 4, 5, 6, 7, 8, 9, 10], [1, 2, 3, 4, 5, 6, 7, 8, 9, 10, 11], [1, 2, 3, 4, 5, 6, 7, 8, 9, 10, 11, 12], [0, 1, 2, 3, 4, 5, 6, 7, 8, 9, 10, 11, 12, 13], [0, 1, 2, 3, 4, 5, 6, 7, 8, 9, 10, 11, 12, 13, 14]] (fun S F w' => ∃ (G : Nat), ap.grownBy w' none ∧ F 0 = pt R 0 ∧ F 2 = .slice none 0 0 ∧ F 3 = .slice aq ys.length cq ∧ F 4 = vi 1 ∧ F 8 = vi 2 ∧ F 9 = vi 1 ∧ (S 13 = true → F 25 = .slice (pa G) 1 1 ∧ w.heap.size ≤ G ∧ Blk w' G 3 (([z] : List Int).flatMap icell).toArray ∧ R < G ∧ ap.heap.size ≤ G) ∧ Vals S F [(0, 12, .slice aq ys.length cq), (1, 13, pt R 0), (2, 14, pt R 0), (3, 15, pt R 0), (4, 16, pt R 3), (5, 17, vi 1), (6, 18, vi 1), (7, 19, vi 2), (8, 20, vi 2), (9, 21, pt R 0), (10, 22, pt R 0), (11, 23, pt R 2), (12, 24, vi z)]) Yz (by kernel_rfl) ⟨0, X8 _, bi, bj, ar, Z, ag, V, Ym, J2 _⟩ ?_ ?_
 refine Xi (fun S F lg hS hbef hcl hI => ?_) ?_
 obtain ⟨G, cl, gu, gv, bp, gw, gx, gy, J, hvs⟩ := hI
 exact Xd (v := .slice aq ys.length cq) bp Z (Xb ⟨G, cl, gu, gv, bp, gw, gx, gy, J, Vals.up 0 hvs Z Z Z⟩)
 refine Xi (fun S F lh hS hbef hcl hI => ?_) ?_
 obtain ⟨G, cm, bq, gz, g0, g5, g6, g7, J, hvs⟩ := hI
 exact Xd (v := pt R 0) bq Z (Xb ⟨G, cm, bq, gz, g0, g5, g6, g7, Xv 13 hS hcl Z, Vals.up 1 hvs Z Z Z⟩)
 refine Xi (fun S F li hS hbef hcl hI => ?_) ?_
 obtain ⟨G, cn, br, g8, g9, ia, ib, ic, J, hvs⟩ := hI
 exact Xd (v := pt R 0) br Z (Xb ⟨G, cn, br, g8, g9, ia, ib, ic, Xv 13 hS hcl Z, Vals.up 2 hvs Z Z Z⟩)
 refine Xi (fun S F lj hS hbef hcl hI => ?_) ?_
 obtain ⟨G, co, ie, ig, ii, ij, ik, il, J, hvs⟩ := hI
 exact Xs (Vals.at 2 hvs Z (Xl 2 hbef Z)) Z (Xb ⟨G, co, ie, ig, ii, ij, ik, il, Xv 13 hS hcl Z, Vals.up 3 hvs Z Z Z⟩)
 refine Xi (fun S F lk hS hbef hcl hI => ?_) ?_
 obtain ⟨G, ct, im, io, ip, iq, ir, it, J, hvs⟩ := hI
 exact Xc (o' := 3) Jp (Vals.at 3 hvs Z (Xl 3 hbef Z)) Z Z (Xb ⟨G, ct, im, io, ip, iq, ir, it, Xv 13 hS hcl Z, Vals.up 4 hvs Z Z Z⟩)
 refine Xi (fun S F ll hS hbef hcl hI => ?_) ?_
 obtain ⟨G, ba, iu, iv, iw, ix, iy, iz, J, hvs⟩ := hI
 exact Xh (v := vi 1) X1 (Vals.at 4 hvs Z (Xl 4 hbef Z)) ((O.grown0 ba).cell Z) Z (Xb ⟨G, ba, iu, iv, iw, ix, iy, iz, Xv 13 hS hcl Z, Vals.up 5 hvs Z Z Z⟩)
 refine Xi (fun S F lm hS hbef hcl hI => ?_) ?_
 obtain ⟨G, cv, i0, i1, i2, bt, i3, i4, J, hvs⟩ := hI
 exact Xd (v := vi 1) bt Z (Xb ⟨G, cv, i0, i1, i2, bt, i3, i4, Xv 13 hS hcl Z, Vals.up 6 hvs Z Z Z⟩)
 refine Xi (fun S F ln hS hbef hcl hI => ?_) ?_
 obtain ⟨G, cw, i5, i6, i7, i8, i9, ja, J, hvs⟩ := hI
 exact Yl (c := 2) (Vals.at 5 hvs Z (Xl 5 hbef Z)) (Vals.at 6 hvs Z (Xl 6 hbef Z)) (by omega) (by omega) (by omega) Z (Xb ⟨G, cw, i5, i6, i7, i8, i9, ja, Xv 13 hS hcl Z, Vals.up 7 hvs Z Z Z⟩)
 refine Xi (fun S F lp hS hbef hcl hI => ?_) ?_
 obtain ⟨G, cy, jb, jc, jd, je, jf, jg, J, hvs⟩ := hI
 exact Q9 (c := 2) (Vals.at 7 hvs Z (Xl 7 hbef Z)) Z (by omega) (by omega) (by omega) Z Z (Xb ⟨G, cy, jb, jc, jd, je, jf, jg, Xv 13 hS hcl Z, Vals.up 8 hvs Z Z Z⟩)
 refine Xi (fun S F lu hS hbef hcl hI => ?_) ?_
 obtain ⟨G, cz, jh, ji, jj, jk, jl, jm, J, hvs⟩ := hI
 exact Xs (Vals.at 1 hvs Z (Xl 1 hbef Z)) Z (Xb ⟨G, cz, jh, ji, jj, jk, jl, jm, Xv 13 hS hcl Z, Vals.up 9 hvs Z Z Z⟩)
 refine Xi (fun S F lv hS hbef hcl hI => ?_) ?_
 obtain ⟨G, c8, jo, jp, jq, jr, js, jt, J, hvs⟩ := hI
 exact Xc (o' := 0) Kc (Vals.at 9 hvs Z (Xl 9 hbef Z)) Z Z (Xb ⟨G, c8, jo, jp, jq, jr, js, jt, Xv 13 hS hcl Z, Vals.up 10 hvs Z Z Z⟩)
 refine Xi (fun S F lw hS hbef hcl hI => ?_) ?_
 obtain ⟨G, c9, ju, jv, jw, jx, jy, jz, J, hvs⟩ := hI
 exact Qm (o' := 2) K6 (Vals.at 10 hvs Z (Xl 10 hbef Z)) (Vals.at 8 hvs Z (Xl 8 hbef Z)) (by decide) (by decide) Z Z (Xb ⟨G, c9, ju, jv, jw, jx, jy, jz, Xv 13 hS hcl Z, Vals.up 11 hvs Z Z Z⟩)
 refine Xi (fun S F ly hS hbef hcl hI => ?_) ?_
 obtain ⟨G, bb, j1, j2, j3, j4, j5, j6, J, hvs⟩ := hI
 exact Xh (v := vi z) X1 (Vals.at 11 hvs Z (Xl 11 hbef Z)) ((O.grown0 bb).cell Z) Z (Xb ⟨G, bb, j1, j2, j3, j4, j5, j6, Xv 13 hS hcl Z, Vals.up 12 hvs Z Z Z⟩)
 refine Xi (fun S F lz hS hbef hcl hI => ?_) ?_
 obtain ⟨G, af, j7, j8, j9, ka, kb, kc, J, hvs⟩ := hI
 refine X7 (ps := [(0, vi z)]) (e := 3) (cs := (([z] : List Int).flatMap icell).toArray) (Xk (Vals.at 12 hvs Z (Xl 12 hbef Z)) X5) (fun _ => by kernel_rfl) Z ?_
 intro de l0 ac
 have bf := Yd ac (low0 ad af)
 have am := Xo ac ((O.grown0 af)).lt
 exact Xb ⟨de, (low0 af ac.grw), j7, j8, j9, ka, kb, kc, fun _ => ⟨Z, bf, ac.blk, am, (nt af.size (Nat.le_of_eq ac.eq.symm))⟩, Vals.keep hvs Z⟩
 exact Jb
 intro S F l3 hall hI
 obtain ⟨G, ak, ke, kf, ks, kt, kg, kh, J, hvs⟩ := hI
 have av := low0 ad ak
 obtain ⟨ki, km, bd, db, kk⟩ := J (hall 13 (by decide))
 have ai := (hOw.grown0 ak)
 refine Jg (g := icell) (ys := ys) (zs := ([z] : List Int)) (lo := w.heap.size) Vs Z Yq (by omega) Jz (Vals.at 0 hvs Z (hall 0 (by decide))) ki ai (Jo Yq bd) (fun h => by cases h) (by first | omega | exact Nat.le_of_ble_eq_true rfl | (simp only [List.length_nil, List.length_cons, List.length_append, List.length_replicate]; omega)) (by omega) (by first | exact av.size | omega) Z ?_
 intro bh ao l4 bv az ko
 exact Xe (v := .slice bh (ys ++ ([z] : List Int)).length ao) Z Z (Xb (Y3 (Xu (X2 (Yl (c := 2) kh Z (by omega) (by omega) (by omega) Z (Xd (v := vi 2) Z Z (Xb (Xu (⟨(2 - 2 : Int).toNat, by omega, 2, bh, ao, (ys ++ ([z] : List Int)), Z, (by omega), (by first | omega | (simp only [List.length_append, List.length_cons, List.length_nil]; omega)), (by rw [hys]; rfl), bv, Z, Z, ke, kf, kg, (N8 av ai az (by omega)), (Blk.typN (O.grown0 ak) ai az (by decide))⟩)))))))))
 refine Xa (Qg (q := false) V ag (by decide) Z (Xb (Xq (Y4 Z Z (Qf (Y9 (Y9 (Jh (Xu (Xa (Xd (v := .slice aq ys.length cq) ar Z (Xe (v := .slice aq ys.length cq) Z Z ?_))))))))))))
 refine Xb (Xt ?_)
 have hyz : ys = ([y, z] : List Int) := hys
 subst hyz
 exact ⟨.slice aq ([y, z] : List Int).length cq, Yt Z Z, aq, cq, Z, hOw, ad⟩
end Go.Proofs.YtlhhijnmacogcaaGreatDoor
end
section
namespace Go.Proofs.YtlhhijnmacogcaaGreatDoor
open Go.RowKit Go.Dw
set_option maxRecDepth 100000
set_option maxHeartbeats 4000000
set_option linter.unusedSimpArgs false
set_option linter.unusedVariables false
theorem Wi : goFn Tryz.prog 108 = true := by kernel_rfl
theorem Ga : goFn Tryz.prog 109 = true := by kernel_rfl
theorem G5 : goFn Tryz.prog 110 = true := by kernel_rfl
theorem N2 : goFn Tryz.prog 111 = true := by kernel_rfl
theorem Vv (w : World) (ns : List Int) (a : Option Addr) (c : Nat) (hs : SlAt w a 1 (ns.map icell)) (hn : ns.length ≤ 3) : CallsR Tryz.prog 108 #[.slice a ns.length c] w (fun v w' => ∃ R : Nat, v = pt R 0 ∧ w.heap.size ≤ R ∧ Blk w' R 147 #[vi (iAt ns 0), vi (iAt ns 1), vi (iAt ns 2), vi 0, vi (ns.length : Int)] ∧ w.grownBy w' none) := by
 refine Xx (n := 19) Tryz.func108 Z Tryz.ntmps108 Z ?_
 have a9 := World.grownBy.refl w none
 refine Xa (Xe (v := .pointer none) Z Z (Xb (Xa (Yv (ps := []) (v := .agg #[vi 0, vi 0, vi 0, vi 0, vi 0]) X5 (by kernel_rfl) Z (Y7 (v := .agg #[vi 0, vi 0, vi 0, vi 0, vi 0]) (cs := #[vi 0, vi 0, vi 0, vi 0, vi 0]) Z Z Z ?_)))))
 intro E bw ae
 have V := Yd ae a9
 refine Xe (v := pt E 0) Z Z (Xb (Xq (Xa (Xd (v := .slice a ns.length c) Z Z (Y1 (by kernel_rfl) Z Z (Xd (v := vi 0) Z Z (Xb (X9 (Ql (fun mm f' w' => ∃ (k : Int), mm = (3 - k : Int).toNat ∧ (0 ≤ k ∧ k ≤ 3 ∧ k ≤ (ns.length : Int)) ∧ f' 10 = vi k ∧ f' 2 = .pointer none ∧ f' 3 = pt E 0 ∧ f' 8 = .slice a ns.length c ∧ f' 9 = vi (ns.length : Int) ∧ w.grownBy w' none ∧ Blk w' E 147 #[vi (rc ns k 0), vi (rc ns k 1), vi (rc ns k 2), vi 0, vi k]) (3 - 0 : Int).toNat ⟨0, Z, (by omega), Z, Z, Z, Z, Z, (low0 a9 ae.grw), ae.blk⟩ ?_)))))))))
 rintro mm bh af ⟨k, bd, hk, J, ag, O, ad, ab, G, ac⟩
 rcases (show k = 0 ∨ k = 1 ∨ k = 2 ∨ k = 3 by omega) with rfl | rfl | rfl | rfl
 refine Xa (Qg (q := decide (0 < (ns.length : Int))) J ab Z Z (Xb (Xq (X0 Z (fun ah => ?_) (fun ah => ?_)))))
 have bi := of_decide_eq_true ah
 refine Xz (Xu (Xq (X9 (Xa ?_))))
 obtain ⟨be, bt, bp, al, ar, aw⟩ := SlAt.at hs (Yp (Gm (lq 0 ns.length)))
 refine X3 J4 ad J al ar (by omega) (by omega) Z (Xh (v := vi (iAt ns 0)) X1 Z ((Yi aw G) 0 _ Z) Z (Xe (v := vi (iAt ns 0)) Z Z (Xb (X2 (Xd (v := pt E 0) O Z (Xd (v := vi (iAt ns 0)) Z Z (Xn Ga (Xf Z (Xf Z Xm)) Z (Ir (iAt ns 0) (rc ns 0 0) (rc ns 0 1) (rc ns 0 2) E _ ac) ?_)))))))
 rintro _ bx ⟨rfl, ba, ao⟩
 exact Xb (Y3 (Xu (X2 (Yl (c := 1) J Z (by omega) (by omega) (by omega) Z (Xd (v := vi 1) Z Z (Xb (Xu (⟨(3 - 1 : Int).toNat, by omega, 1, Z, (by omega), Z, ag, O, ad, ab, (low1 G ao (by omega)), ba⟩))))))))
 have bj := of_decide_eq_false ah
 refine Qf (Y9 (Y9 (Jh (Xu (Xa (Xd (v := pt E 0) O Z (Xe (v := pt E 0) Z Z (Xb (Xt ?_)))))))))
 have hkk : Blk af E 147 #[vi (iAt ns 0), vi (iAt ns 1), vi (iAt ns 2), vi 0, vi (ns.length : Int)] := by rw [← Vx (k := 0) (j := 0) (by omega), ← Vx (k := 0) (j := 1) (by omega), ← Vx (k := 0) (j := 2) (by omega), show (ns.length : Int) = 0 by omega]; exact ac
 exact ⟨pt E 0, Yt Z Z, E, Z, V, hkk, G⟩
 refine Xa (Qg (q := decide (1 < (ns.length : Int))) J ab Z Z (Xb (Xq (X0 Z (fun ai => ?_) (fun ai => ?_)))))
 have bk := of_decide_eq_true ai
 refine Xz (Xu (Xq (X9 (Xa ?_))))
 obtain ⟨bf, bu, bq, am, au, az⟩ := SlAt.at hs (Yp (Gm (lq 1 ns.length)))
 refine X3 J4 ad J am au (by omega) (by omega) Z (Xh (v := vi (iAt ns 1)) X1 Z ((Yi az G) 0 _ Z) Z (Xe (v := vi (iAt ns 1)) Z Z (Xb (X2 (Xd (v := pt E 0) O Z (Xd (v := vi (iAt ns 1)) Z Z (Xn Ga (Xf Z (Xf Z Xm)) Z (Is (iAt ns 1) (rc ns 1 0) (rc ns 1 1) (rc ns 1 2) E _ ac) ?_)))))))
 rintro _ bz ⟨rfl, bb, ap⟩
 exact Xb (Y3 (Xu (X2 (Yl (c := 2) J Z (by omega) (by omega) (by omega) Z (Xd (v := vi 2) Z Z (Xb (Xu (⟨(3 - 2 : Int).toNat, by omega, 2, Z, (by omega), Z, ag, O, ad, ab, (low1 G ap (by omega)), bb⟩))))))))
 have bl := of_decide_eq_false ai
 refine Qf (Y9 (Y9 (Jh (Xu (Xa (Xd (v := pt E 0) O Z (Xe (v := pt E 0) Z Z (Xb (Xt ?_)))))))))
 have hkk : Blk af E 147 #[vi (iAt ns 0), vi (iAt ns 1), vi (iAt ns 2), vi 0, vi (ns.length : Int)] := by rw [← Vx (k := 1) (j := 0) (by omega), ← Vx (k := 1) (j := 1) (by omega), ← Vx (k := 1) (j := 2) (by omega), show (ns.length : Int) = 1 by omega]; exact ac
 exact ⟨pt E 0, Yt Z Z, E, Z, V, hkk, G⟩
 refine Xa (Qg (q := decide (2 < (ns.length : Int))) J ab Z Z (Xb (Xq (X0 Z (fun aj => ?_) (fun aj => ?_)))))
 have bm := of_decide_eq_true aj
 refine Xz (Xu (Xq (X9 (Xa ?_))))
 obtain ⟨bg, bv, br, an, av, a8⟩ := SlAt.at hs (Yp (Gm (lq 2 ns.length)))
 refine X3 J4 ad J an av (by omega) (by omega) Z (Xh (v := vi (iAt ns 2)) X1 Z ((Yi a8 G) 0 _ Z) Z (Xe (v := vi (iAt ns 2)) Z Z (Xb (X2 (Xd (v := pt E 0) O Z (Xd (v := vi (iAt ns 2)) Z Z (Xn Ga (Xf Z (Xf Z Xm)) Z (Iu (iAt ns 2) (rc ns 2 0) (rc ns 2 1) (rc ns 2 2) E _ ac) ?_)))))))
 rintro _ ca ⟨rfl, bc, aq⟩
 exact Xb (Y3 (Xu (X2 (Yl (c := 3) J Z (by omega) (by omega) (by omega) Z (Xd (v := vi 3) Z Z (Xb (Xu (⟨(3 - 3 : Int).toNat, by omega, 3, Z, (by omega), Z, ag, O, ad, ab, (low1 G aq (by omega)), bc⟩))))))))
 have bn := of_decide_eq_false aj
 refine Qf (Y9 (Y9 (Jh (Xu (Xa (Xd (v := pt E 0) O Z (Xe (v := pt E 0) Z Z (Xb (Xt ?_)))))))))
 have hkk : Blk af E 147 #[vi (iAt ns 0), vi (iAt ns 1), vi (iAt ns 2), vi 0, vi (ns.length : Int)] := by rw [← Vx (k := 2) (j := 0) (by omega), ← Vx (k := 2) (j := 1) (by omega), ← Vx (k := 2) (j := 2) (by omega), show (ns.length : Int) = 2 by omega]; exact ac
 exact ⟨pt E 0, Yt Z Z, E, Z, V, hkk, G⟩
 have ak : (ns.length : Int) = 3 := by omega
 refine Xa (Qg (q := false) J (ab.trans (congrArg (Value.int .i64) ak)) (by decide) Z (Xb (Xq (Y4 Z Z (Qf (Y9 (Y9 (Jh (Xu (Xa (Xd (v := pt E 0) O Z (Xe (v := pt E 0) Z Z ?_))))))))))))
 refine Xb (Xt ?_)
 have hkk : Blk af E 147 #[vi (iAt ns 0), vi (iAt ns 1), vi (iAt ns 2), vi 0, vi (ns.length : Int)] := by rw [← Vx (k := 3) (j := 0) (by omega), ← Vx (k := 3) (j := 1) (by omega), ← Vx (k := 3) (j := 2) (by omega), show (ns.length : Int) = 3 by omega]; exact ac
 exact ⟨pt E 0, Yt Z Z, E, Z, V, hkk, G⟩
theorem Xa0 (q : Cl) (r : Rt) (lo B cap : Nat) (ms : List MTh) (w : World) (hB : Dw.Own w B 39 8 cap ms.length (ms.flatMap MTh.cells)) (hR : RowsO 33 3 lo w ms) (hlo : lo ≤ B) (hi : Nat) (hH : HiO hi ms) (hBlt : B < hi) (hhi : hi ≤ w.heap.size) (hF : FarOk (tabT ms) q r) (A : Nat) (hA : Blk w A 59 #[.slice (pa B) ms.length cap, vi q.kind, vi q.run, vi q.a, vi q.b, vi q.n, vi r.th, vi r.ve, vb r.rd, vb r.wr, vb r.wk]) (hAhi : hi ≤ A) (hq : decide (q.kind = 6) = true) (hql : (mAt ms (r.th - 1).toNat).t.queue.length = 0) : CallsR Tryz.prog 94 #[pt A 0] w (fun v w' => ∃ ms' : List MTh, v = vi (far (tabT ms) q r).2 ∧ ms'.length = ms.length ∧ Dw.Own w' B 39 8 cap ms'.length (ms'.flatMap MTh.cells) ∧ RowsO 33 3 lo w' ms' ∧ tabT ms' = (far (tabT ms) q r).1 ∧ KeepsI lo hi [39, 33, 3] w w') := by
 refine Xx (n := 25) Tryz.func94 Z Tryz.ntmps94 Z ?_
 have aw : KeepsI lo hi [39, 33, 3] w w := KeepsI.refl w
 have hlow : lo ≤ w.heap.size := by omega
 have hT := hF.tab
 have hco := Yx hF.call
 have hkp := (Qe hF.run).1
 have h4 := Qt hT hF.run
 have hth := hF.th
 rw [Y5] at hth
 have hml := Jk hT
 have hkd := Q2 hF.kind hco.1
 rw [← Qk] at hkd
 have hrow := Jl hT (i := (r.th - 1).toNat) (by omega)
 have hln := TabLen.ok hT _ (List.mem_of_getElem? (xg ms (r.th - 1).toNat))
 have hcp := hF.copy
 have hve := V8 hrow
 have hqk := of_decide_eq_true hq
 refine Xa (Xe (v := vi 0) Z Z (Xb (Xa (Xd (v := pt A 0) Z Z (Xn K7 (Xf Z Xm) Z (Kd q r B cap _ _ hB (by first | omega | (simp only [List.length_set, Yb]; omega)) A hA (by first | omega | (simp only [List.length_set, Yb]; omega))) ?_)))))
 rintro _ az ⟨rfl, G⟩
 have ah := KeepsI.low aw G
 refine Xe (v := pt B ((r.th - 1).toNat * 8)) Z Z (Xb (Xa (Xd (v := pt B ((r.th - 1).toNat * 8)) Z Z (Xs Z Z (Xc (o' := (r.th - 1).toNat * 8 + 6) Qq Z Z Z ?_)))))
 have aj := (hB.grown0 G)
 refine Xh (v := .slice (mAt ms (r.th - 1).toNat).qa (mAt ms (r.th - 1).toNat).t.queue.length (mAt ms (r.th - 1).toNat).qc) Ju Z ((Own.range Yj aj (xg ms (r.th - 1).toNat)) 6 _ Z) Z ?_
 have af := (RowsO.low hR G)
 have al := (hA.grown0 G)
 refine Xn Wi (Xf Z Xm) Z (Vv _ (mAt ms (r.th - 1).toNat).t.queue _ _ (RowO.th (RowsO.at af (lq (r.th - 1).toNat ms.length))).2.1 (by omega)) ?_
 rintro _ a8 ⟨V, rfl, O, am, J⟩
 rw [show ((mAt ms (r.th - 1).toNat).t.queue.length : Int) = 0 by omega] at am
 have av := nt ah.size O
 have aq := nl (aj).lt O
 have ap := nl (al).lt O
 refine Xe (v := pt V 0) Z Z (Xb (Xq (Xa (Xd (v := pt V 0) Z Z (Xd (v := pt A 0) Z Z (Xs Z Z (Xc (o' := 1) Kf Z Z Z (Xc (o' := 5) Js Z Z Z (Xh (v := vi q.n) X1 Z ((al.grown0 J).cell Z) Z (Xn Ga (Xf Z (Xf Z Xm)) Z (Ir q.n (iAt (mAt ms (r.th - 1).toNat).t.queue 0) (iAt (mAt ms (r.th - 1).toNat).t.queue 1) (iAt (mAt ms (r.th - 1).toNat).t.queue 2) V _ am) ?_))))))))))
 rintro _ a9 ⟨rfl, ar, ac⟩
 have ai := KeepsI.new (KeepsI.low ah J) ac (by omega)
 refine Yn (b' := false) Z Z Z (Xb (Y4 Z Z (Xz (Xu (Xa (Xd (v := pt B ((r.th - 1).toNat * 8)) Z Z (Xd (v := pt V 0) Z Z (Xn G5 (Xf Z Xm) Z (O8 q.n (iAt (mAt ms (r.th - 1).toNat).t.queue 1) (iAt (mAt ms (r.th - 1).toNat).t.queue 2) V _ ar) ?_))))))))
 rintro _ ba ⟨ab, E, rfl, an, ad⟩
 refine Xs Z Z (Xc (o' := (r.th - 1).toNat * 8 + 6) Qq Z Z Z ?_)
 have ag := (((aj.grown0 J).gn ac).grown0 ad)
 refine Q7 (g := MTh.cells) (j := 6) (z := (mAt ms (r.th - 1).toNat)) (z' := (⟨⟨(mAt ms (r.th - 1).toNat).t.kind, (mAt ms (r.th - 1).toNat).t.lab, (mAt ms (r.th - 1).toNat).t.ve, (mAt ms (r.th - 1).toNat).t.num, (mAt ms (r.th - 1).toNat).t.slots, ([q.n] : List Int), (mAt ms (r.th - 1).toNat).t.to⟩, (mAt ms (r.th - 1).toNat).sa, (mAt ms (r.th - 1).toNat).sc, ab, E⟩ : MTh)) (v := .slice ab ([q.n] : List Int).length E) Ju Z Z Z Yj ag (xg ms (r.th - 1).toNat) (by omega) Z Z ?_
 intro au ao ae
 have ak : RowsO 33 3 lo au (ms.set (r.th - 1).toNat (⟨⟨(mAt ms (r.th - 1).toNat).t.kind, (mAt ms (r.th - 1).toNat).t.lab, (mAt ms (r.th - 1).toNat).t.ve, (mAt ms (r.th - 1).toNat).t.num, (mAt ms (r.th - 1).toNat).t.slots, ([q.n] : List Int), (mAt ms (r.th - 1).toNat).t.to⟩, (mAt ms (r.th - 1).toNat).sa, (mAt ms (r.th - 1).toNat).sc, ab, E⟩ : MTh)) := RowsO.setq (RowsO.own (RowsO.low (RowsO.ge (RowsO.low af J) ac hH (by omega)) ad) ae ag (by decide) (by decide)) (lq (r.th - 1).toNat ms.length) (OwnN.mono (OwnN.typ (OwnN.mono an ai.size) ae ag (by decide)) hlow) ⟨rfl, rfl, rfl⟩
 refine Xb (Xa (Xe (v := vi 0) Z Z (Xb (Xt ?_))))
 have hf : far (tabT ms) q r = (tabT (ms.set (r.th - 1).toNat (⟨⟨(mAt ms (r.th - 1).toNat).t.kind, (mAt ms (r.th - 1).toNat).t.lab, (mAt ms (r.th - 1).toNat).t.ve, (mAt ms (r.th - 1).toNat).t.num, (mAt ms (r.th - 1).toNat).t.slots, ([q.n] : List Int), (mAt ms (r.th - 1).toNat).t.to⟩, (mAt ms (r.th - 1).toNat).sa, (mAt ms (r.th - 1).toNat).sc, ab, E⟩ : MTh)), 0) := Tb hq (by omega) (congrArg (fun z => ({ (mAt ms (r.th - 1).toNat).t with queue := z } : Th)) (q_0 hql _))
 exact ⟨vi 0, Yt Z Z, ms.set (r.th - 1).toNat (⟨⟨(mAt ms (r.th - 1).toNat).t.kind, (mAt ms (r.th - 1).toNat).t.lab, (mAt ms (r.th - 1).toNat).t.ve, (mAt ms (r.th - 1).toNat).t.num, (mAt ms (r.th - 1).toNat).t.slots, ([q.n] : List Int), (mAt ms (r.th - 1).toNat).t.to⟩, (mAt ms (r.th - 1).toNat).sa, (mAt ms (r.th - 1).toNat).sc, ab, E⟩ : MTh), by rw [hf], by first | rfl | exact Yb | (simp only [List.length_set, Yb]), ao, ak, by rw [hf], (KeepsI.own (KeepsI.low ai ad) ae ag (by decide) (by omega) (by omega))⟩
theorem Xa1 (q : Cl) (r : Rt) (lo B cap : Nat) (ms : List MTh) (w : World) (hB : Dw.Own w B 39 8 cap ms.length (ms.flatMap MTh.cells)) (hR : RowsO 33 3 lo w ms) (hlo : lo ≤ B) (hi : Nat) (hH : HiO hi ms) (hBlt : B < hi) (hhi : hi ≤ w.heap.size) (hF : FarOk (tabT ms) q r) (A : Nat) (hA : Blk w A 59 #[.slice (pa B) ms.length cap, vi q.kind, vi q.run, vi q.a, vi q.b, vi q.n, vi r.th, vi r.ve, vb r.rd, vb r.wr, vb r.wk]) (hAhi : hi ≤ A) (hq : decide (q.kind = 6) = true) (hql : (mAt ms (r.th - 1).toNat).t.queue.length = 1) : CallsR Tryz.prog 94 #[pt A 0] w (fun v w' => ∃ ms' : List MTh, v = vi (far (tabT ms) q r).2 ∧ ms'.length = ms.length ∧ Dw.Own w' B 39 8 cap ms'.length (ms'.flatMap MTh.cells) ∧ RowsO 33 3 lo w' ms' ∧ tabT ms' = (far (tabT ms) q r).1 ∧ KeepsI lo hi [39, 33, 3] w w') := by
 refine Xx (n := 25) Tryz.func94 Z Tryz.ntmps94 Z ?_
 have aw : KeepsI lo hi [39, 33, 3] w w := KeepsI.refl w
 have hlow : lo ≤ w.heap.size := by omega
 have hT := hF.tab
 have hco := Yx hF.call
 have hkp := (Qe hF.run).1
 have h4 := Qt hT hF.run
 have hth := hF.th
 rw [Y5] at hth
 have hml := Jk hT
 have hkd := Q2 hF.kind hco.1
 rw [← Qk] at hkd
 have hrow := Jl hT (i := (r.th - 1).toNat) (by omega)
 have hln := TabLen.ok hT _ (List.mem_of_getElem? (xg ms (r.th - 1).toNat))
 have hcp := hF.copy
 have hve := V8 hrow
 have hqk := of_decide_eq_true hq
 refine Xa (Xe (v := vi 0) Z Z (Xb (Xa (Xd (v := pt A 0) Z Z (Xn K7 (Xf Z Xm) Z (Kd q r B cap _ _ hB (by first | omega | (simp only [List.length_set, Yb]; omega)) A hA (by first | omega | (simp only [List.length_set, Yb]; omega))) ?_)))))
 rintro _ az ⟨rfl, G⟩
 have ah := KeepsI.low aw G
 refine Xe (v := pt B ((r.th - 1).toNat * 8)) Z Z (Xb (Xa (Xd (v := pt B ((r.th - 1).toNat * 8)) Z Z (Xs Z Z (Xc (o' := (r.th - 1).toNat * 8 + 6) Qq Z Z Z ?_)))))
 have aj := (hB.grown0 G)
 refine Xh (v := .slice (mAt ms (r.th - 1).toNat).qa (mAt ms (r.th - 1).toNat).t.queue.length (mAt ms (r.th - 1).toNat).qc) Ju Z ((Own.range Yj aj (xg ms (r.th - 1).toNat)) 6 _ Z) Z ?_
 have af := (RowsO.low hR G)
 have al := (hA.grown0 G)
 refine Xn Wi (Xf Z Xm) Z (Vv _ (mAt ms (r.th - 1).toNat).t.queue _ _ (RowO.th (RowsO.at af (lq (r.th - 1).toNat ms.length))).2.1 (by omega)) ?_
 rintro _ a8 ⟨V, rfl, O, am, J⟩
 rw [show ((mAt ms (r.th - 1).toNat).t.queue.length : Int) = 1 by omega] at am
 have av := nt ah.size O
 have aq := nl (aj).lt O
 have ap := nl (al).lt O
 refine Xe (v := pt V 0) Z Z (Xb (Xq (Xa (Xd (v := pt V 0) Z Z (Xd (v := pt A 0) Z Z (Xs Z Z (Xc (o' := 1) Kf Z Z Z (Xc (o' := 5) Js Z Z Z (Xh (v := vi q.n) X1 Z ((al.grown0 J).cell Z) Z (Xn Ga (Xf Z (Xf Z Xm)) Z (Is q.n (iAt (mAt ms (r.th - 1).toNat).t.queue 0) (iAt (mAt ms (r.th - 1).toNat).t.queue 1) (iAt (mAt ms (r.th - 1).toNat).t.queue 2) V _ am) ?_))))))))))
 rintro _ a9 ⟨rfl, ar, ac⟩
 have ai := KeepsI.new (KeepsI.low ah J) ac (by omega)
 refine Yn (b' := false) Z Z Z (Xb (Y4 Z Z (Xz (Xu (Xa (Xd (v := pt B ((r.th - 1).toNat * 8)) Z Z (Xd (v := pt V 0) Z Z (Xn G5 (Xf Z Xm) Z (O9 (iAt (mAt ms (r.th - 1).toNat).t.queue 0) q.n (iAt (mAt ms (r.th - 1).toNat).t.queue 2) V _ ar) ?_))))))))
 rintro _ ba ⟨ab, E, rfl, an, ad⟩
 refine Xs Z Z (Xc (o' := (r.th - 1).toNat * 8 + 6) Qq Z Z Z ?_)
 have ag := (((aj.grown0 J).gn ac).grown0 ad)
 refine Q7 (g := MTh.cells) (j := 6) (z := (mAt ms (r.th - 1).toNat)) (z' := (⟨⟨(mAt ms (r.th - 1).toNat).t.kind, (mAt ms (r.th - 1).toNat).t.lab, (mAt ms (r.th - 1).toNat).t.ve, (mAt ms (r.th - 1).toNat).t.num, (mAt ms (r.th - 1).toNat).t.slots, ([iAt (mAt ms (r.th - 1).toNat).t.queue 0, q.n] : List Int), (mAt ms (r.th - 1).toNat).t.to⟩, (mAt ms (r.th - 1).toNat).sa, (mAt ms (r.th - 1).toNat).sc, ab, E⟩ : MTh)) (v := .slice ab ([iAt (mAt ms (r.th - 1).toNat).t.queue 0, q.n] : List Int).length E) Ju Z Z Z Yj ag (xg ms (r.th - 1).toNat) (by omega) Z Z ?_
 intro au ao ae
 have ak : RowsO 33 3 lo au (ms.set (r.th - 1).toNat (⟨⟨(mAt ms (r.th - 1).toNat).t.kind, (mAt ms (r.th - 1).toNat).t.lab, (mAt ms (r.th - 1).toNat).t.ve, (mAt ms (r.th - 1).toNat).t.num, (mAt ms (r.th - 1).toNat).t.slots, ([iAt (mAt ms (r.th - 1).toNat).t.queue 0, q.n] : List Int), (mAt ms (r.th - 1).toNat).t.to⟩, (mAt ms (r.th - 1).toNat).sa, (mAt ms (r.th - 1).toNat).sc, ab, E⟩ : MTh)) := RowsO.setq (RowsO.own (RowsO.low (RowsO.ge (RowsO.low af J) ac hH (by omega)) ad) ae ag (by decide) (by decide)) (lq (r.th - 1).toNat ms.length) (OwnN.mono (OwnN.typ (OwnN.mono an ai.size) ae ag (by decide)) hlow) ⟨rfl, rfl, rfl⟩
 refine Xb (Xa (Xe (v := vi 0) Z Z (Xb (Xt ?_))))
 have hf : far (tabT ms) q r = (tabT (ms.set (r.th - 1).toNat (⟨⟨(mAt ms (r.th - 1).toNat).t.kind, (mAt ms (r.th - 1).toNat).t.lab, (mAt ms (r.th - 1).toNat).t.ve, (mAt ms (r.th - 1).toNat).t.num, (mAt ms (r.th - 1).toNat).t.slots, ([iAt (mAt ms (r.th - 1).toNat).t.queue 0, q.n] : List Int), (mAt ms (r.th - 1).toNat).t.to⟩, (mAt ms (r.th - 1).toNat).sa, (mAt ms (r.th - 1).toNat).sc, ab, E⟩ : MTh)), 0) := Tb hq (by omega) (congrArg (fun z => ({ (mAt ms (r.th - 1).toNat).t with queue := z } : Th)) (q_1 hql _))
 exact ⟨vi 0, Yt Z Z, ms.set (r.th - 1).toNat (⟨⟨(mAt ms (r.th - 1).toNat).t.kind, (mAt ms (r.th - 1).toNat).t.lab, (mAt ms (r.th - 1).toNat).t.ve, (mAt ms (r.th - 1).toNat).t.num, (mAt ms (r.th - 1).toNat).t.slots, ([iAt (mAt ms (r.th - 1).toNat).t.queue 0, q.n] : List Int), (mAt ms (r.th - 1).toNat).t.to⟩, (mAt ms (r.th - 1).toNat).sa, (mAt ms (r.th - 1).toNat).sc, ab, E⟩ : MTh), by rw [hf], by first | rfl | exact Yb | (simp only [List.length_set, Yb]), ao, ak, by rw [hf], (KeepsI.own (KeepsI.low ai ad) ae ag (by decide) (by omega) (by omega))⟩
theorem Xa2 (q : Cl) (r : Rt) (lo B cap : Nat) (ms : List MTh) (w : World) (hB : Dw.Own w B 39 8 cap ms.length (ms.flatMap MTh.cells)) (hR : RowsO 33 3 lo w ms) (hlo : lo ≤ B) (hi : Nat) (hH : HiO hi ms) (hBlt : B < hi) (hhi : hi ≤ w.heap.size) (hF : FarOk (tabT ms) q r) (A : Nat) (hA : Blk w A 59 #[.slice (pa B) ms.length cap, vi q.kind, vi q.run, vi q.a, vi q.b, vi q.n, vi r.th, vi r.ve, vb r.rd, vb r.wr, vb r.wk]) (hAhi : hi ≤ A) (hq : decide (q.kind = 6) = true) (hql : (mAt ms (r.th - 1).toNat).t.queue.length = 2) : CallsR Tryz.prog 94 #[pt A 0] w (fun v w' => ∃ ms' : List MTh, v = vi (far (tabT ms) q r).2 ∧ ms'.length = ms.length ∧ Dw.Own w' B 39 8 cap ms'.length (ms'.flatMap MTh.cells) ∧ RowsO 33 3 lo w' ms' ∧ tabT ms' = (far (tabT ms) q r).1 ∧ KeepsI lo hi [39, 33, 3] w w') := by
 refine Xx (n := 25) Tryz.func94 Z Tryz.ntmps94 Z ?_
 have aw : KeepsI lo hi [39, 33, 3] w w := KeepsI.refl w
 have hlow : lo ≤ w.heap.size := by omega
 have hT := hF.tab
 have hco := Yx hF.call
 have hkp := (Qe hF.run).1
 have h4 := Qt hT hF.run
 have hth := hF.th
 rw [Y5] at hth
 have hml := Jk hT
 have hkd := Q2 hF.kind hco.1
 rw [← Qk] at hkd
 have hrow := Jl hT (i := (r.th - 1).toNat) (by omega)
 have hln := TabLen.ok hT _ (List.mem_of_getElem? (xg ms (r.th - 1).toNat))
 have hcp := hF.copy
 have hve := V8 hrow
 have hqk := of_decide_eq_true hq
 refine Xa (Xe (v := vi 0) Z Z (Xb (Xa (Xd (v := pt A 0) Z Z (Xn K7 (Xf Z Xm) Z (Kd q r B cap _ _ hB (by first | omega | (simp only [List.length_set, Yb]; omega)) A hA (by first | omega | (simp only [List.length_set, Yb]; omega))) ?_)))))
 rintro _ az ⟨rfl, G⟩
 have ah := KeepsI.low aw G
 refine Xe (v := pt B ((r.th - 1).toNat * 8)) Z Z (Xb (Xa (Xd (v := pt B ((r.th - 1).toNat * 8)) Z Z (Xs Z Z (Xc (o' := (r.th - 1).toNat * 8 + 6) Qq Z Z Z ?_)))))
 have aj := (hB.grown0 G)
 refine Xh (v := .slice (mAt ms (r.th - 1).toNat).qa (mAt ms (r.th - 1).toNat).t.queue.length (mAt ms (r.th - 1).toNat).qc) Ju Z ((Own.range Yj aj (xg ms (r.th - 1).toNat)) 6 _ Z) Z ?_
 have af := (RowsO.low hR G)
 have al := (hA.grown0 G)
 refine Xn Wi (Xf Z Xm) Z (Vv _ (mAt ms (r.th - 1).toNat).t.queue _ _ (RowO.th (RowsO.at af (lq (r.th - 1).toNat ms.length))).2.1 (by omega)) ?_
 rintro _ a8 ⟨V, rfl, O, am, J⟩
 rw [show ((mAt ms (r.th - 1).toNat).t.queue.length : Int) = 2 by omega] at am
 have av := nt ah.size O
 have aq := nl (aj).lt O
 have ap := nl (al).lt O
 refine Xe (v := pt V 0) Z Z (Xb (Xq (Xa (Xd (v := pt V 0) Z Z (Xd (v := pt A 0) Z Z (Xs Z Z (Xc (o' := 1) Kf Z Z Z (Xc (o' := 5) Js Z Z Z (Xh (v := vi q.n) X1 Z ((al.grown0 J).cell Z) Z (Xn Ga (Xf Z (Xf Z Xm)) Z (Iu q.n (iAt (mAt ms (r.th - 1).toNat).t.queue 0) (iAt (mAt ms (r.th - 1).toNat).t.queue 1) (iAt (mAt ms (r.th - 1).toNat).t.queue 2) V _ am) ?_))))))))))
 rintro _ a9 ⟨rfl, ar, ac⟩
 have ai := KeepsI.new (KeepsI.low ah J) ac (by omega)
 refine Yn (b' := false) Z Z Z (Xb (Y4 Z Z (Xz (Xu (Xa (Xd (v := pt B ((r.th - 1).toNat * 8)) Z Z (Xd (v := pt V 0) Z Z (Xn G5 (Xf Z Xm) Z (Za (iAt (mAt ms (r.th - 1).toNat).t.queue 0) (iAt (mAt ms (r.th - 1).toNat).t.queue 1) q.n V _ ar) ?_))))))))
 rintro _ ba ⟨ab, E, rfl, an, ad⟩
 refine Xs Z Z (Xc (o' := (r.th - 1).toNat * 8 + 6) Qq Z Z Z ?_)
 have ag := (((aj.grown0 J).gn ac).grown0 ad)
 refine Q7 (g := MTh.cells) (j := 6) (z := (mAt ms (r.th - 1).toNat)) (z' := (⟨⟨(mAt ms (r.th - 1).toNat).t.kind, (mAt ms (r.th - 1).toNat).t.lab, (mAt ms (r.th - 1).toNat).t.ve, (mAt ms (r.th - 1).toNat).t.num, (mAt ms (r.th - 1).toNat).t.slots, ([iAt (mAt ms (r.th - 1).toNat).t.queue 0, iAt (mAt ms (r.th - 1).toNat).t.queue 1, q.n] : List Int), (mAt ms (r.th - 1).toNat).t.to⟩, (mAt ms (r.th - 1).toNat).sa, (mAt ms (r.th - 1).toNat).sc, ab, E⟩ : MTh)) (v := .slice ab ([iAt (mAt ms (r.th - 1).toNat).t.queue 0, iAt (mAt ms (r.th - 1).toNat).t.queue 1, q.n] : List Int).length E) Ju Z Z Z Yj ag (xg ms (r.th - 1).toNat) (by omega) Z Z ?_
 intro au ao ae
 have ak : RowsO 33 3 lo au (ms.set (r.th - 1).toNat (⟨⟨(mAt ms (r.th - 1).toNat).t.kind, (mAt ms (r.th - 1).toNat).t.lab, (mAt ms (r.th - 1).toNat).t.ve, (mAt ms (r.th - 1).toNat).t.num, (mAt ms (r.th - 1).toNat).t.slots, ([iAt (mAt ms (r.th - 1).toNat).t.queue 0, iAt (mAt ms (r.th - 1).toNat).t.queue 1, q.n] : List Int), (mAt ms (r.th - 1).toNat).t.to⟩, (mAt ms (r.th - 1).toNat).sa, (mAt ms (r.th - 1).toNat).sc, ab, E⟩ : MTh)) := RowsO.setq (RowsO.own (RowsO.low (RowsO.ge (RowsO.low af J) ac hH (by omega)) ad) ae ag (by decide) (by decide)) (lq (r.th - 1).toNat ms.length) (OwnN.mono (OwnN.typ (OwnN.mono an ai.size) ae ag (by decide)) hlow) ⟨rfl, rfl, rfl⟩
 refine Xb (Xa (Xe (v := vi 0) Z Z (Xb (Xt ?_))))
 have hf : far (tabT ms) q r = (tabT (ms.set (r.th - 1).toNat (⟨⟨(mAt ms (r.th - 1).toNat).t.kind, (mAt ms (r.th - 1).toNat).t.lab, (mAt ms (r.th - 1).toNat).t.ve, (mAt ms (r.th - 1).toNat).t.num, (mAt ms (r.th - 1).toNat).t.slots, ([iAt (mAt ms (r.th - 1).toNat).t.queue 0, iAt (mAt ms (r.th - 1).toNat).t.queue 1, q.n] : List Int), (mAt ms (r.th - 1).toNat).t.to⟩, (mAt ms (r.th - 1).toNat).sa, (mAt ms (r.th - 1).toNat).sc, ab, E⟩ : MTh)), 0) := Tb hq (by omega) (congrArg (fun z => ({ (mAt ms (r.th - 1).toNat).t with queue := z } : Th)) (q_2 hql _))
 exact ⟨vi 0, Yt Z Z, ms.set (r.th - 1).toNat (⟨⟨(mAt ms (r.th - 1).toNat).t.kind, (mAt ms (r.th - 1).toNat).t.lab, (mAt ms (r.th - 1).toNat).t.ve, (mAt ms (r.th - 1).toNat).t.num, (mAt ms (r.th - 1).toNat).t.slots, ([iAt (mAt ms (r.th - 1).toNat).t.queue 0, iAt (mAt ms (r.th - 1).toNat).t.queue 1, q.n] : List Int), (mAt ms (r.th - 1).toNat).t.to⟩, (mAt ms (r.th - 1).toNat).sa, (mAt ms (r.th - 1).toNat).sc, ab, E⟩ : MTh), by rw [hf], by first | rfl | exact Yb | (simp only [List.length_set, Yb]), ao, ak, by rw [hf], (KeepsI.own (KeepsI.low ai ad) ae ag (by decide) (by omega) (by omega))⟩
theorem Xa3 (q : Cl) (r : Rt) (lo B cap : Nat) (ms : List MTh) (w : World) (hB : Dw.Own w B 39 8 cap ms.length (ms.flatMap MTh.cells)) (hR : RowsO 33 3 lo w ms) (hlo : lo ≤ B) (hi : Nat) (hH : HiO hi ms) (hBlt : B < hi) (hhi : hi ≤ w.heap.size) (hF : FarOk (tabT ms) q r) (A : Nat) (hA : Blk w A 59 #[.slice (pa B) ms.length cap, vi q.kind, vi q.run, vi q.a, vi q.b, vi q.n, vi r.th, vi r.ve, vb r.rd, vb r.wr, vb r.wk]) (hAhi : hi ≤ A) (hq : decide (q.kind = 6) = true) (hql : (mAt ms (r.th - 1).toNat).t.queue.length = 3) : CallsR Tryz.prog 94 #[pt A 0] w (fun v w' => ∃ ms' : List MTh, v = vi (far (tabT ms) q r).2 ∧ ms'.length = ms.length ∧ Dw.Own w' B 39 8 cap ms'.length (ms'.flatMap MTh.cells) ∧ RowsO 33 3 lo w' ms' ∧ tabT ms' = (far (tabT ms) q r).1 ∧ KeepsI lo hi [39, 33, 3] w w') := by
 refine Xx (n := 25) Tryz.func94 Z Tryz.ntmps94 Z ?_
 have aj : KeepsI lo hi [39, 33, 3] w w := KeepsI.refl w
 have hlow : lo ≤ w.heap.size := by omega
 have hT := hF.tab
 have hco := Yx hF.call
 have hkp := (Qe hF.run).1
 have h4 := Qt hT hF.run
 have hth := hF.th
 rw [Y5] at hth
 have hml := Jk hT
 have hkd := Q2 hF.kind hco.1
 rw [← Qk] at hkd
 have hrow := Jl hT (i := (r.th - 1).toNat) (by omega)
 have hln := TabLen.ok hT _ (List.mem_of_getElem? (xg ms (r.th - 1).toNat))
 have hcp := hF.copy
 have hve := V8 hrow
 have hqk := of_decide_eq_true hq
 refine Xa (Xe (v := vi 0) Z Z (Xb (Xa (Xd (v := pt A 0) Z Z (Xn K7 (Xf Z Xm) Z (Kd q r B cap _ _ hB (by first | omega | (simp only [List.length_set, Yb]; omega)) A hA (by first | omega | (simp only [List.length_set, Yb]; omega))) ?_)))))
 rintro _ al ⟨rfl, E⟩
 have ac := KeepsI.low aj E
 refine Xe (v := pt B ((r.th - 1).toNat * 8)) Z Z (Xb (Xa (Xd (v := pt B ((r.th - 1).toNat * 8)) Z Z (Xs Z Z (Xc (o' := (r.th - 1).toNat * 8 + 6) Qq Z Z Z ?_)))))
 have ad := (hB.grown0 E)
 refine Xh (v := .slice (mAt ms (r.th - 1).toNat).qa (mAt ms (r.th - 1).toNat).t.queue.length (mAt ms (r.th - 1).toNat).qc) Ju Z ((Own.range Yj ad (xg ms (r.th - 1).toNat)) 6 _ Z) Z ?_
 have V := (RowsO.low hR E)
 have ae := (hA.grown0 E)
 refine Xn Wi (Xf Z Xm) Z (Vv _ (mAt ms (r.th - 1).toNat).t.queue _ _ (RowO.th (RowsO.at V (lq (r.th - 1).toNat ms.length))).2.1 (by omega)) ?_
 rintro _ am ⟨ab, rfl, J, af, G⟩
 rw [show ((mAt ms (r.th - 1).toNat).t.queue.length : Int) = 3 by omega] at af
 have ai := nt ac.size J
 have ah := nl (ad).lt J
 have ag := nl (ae).lt J
 refine Xe (v := pt ab 0) Z Z (Xb (Xq (Xa (Xd (v := pt ab 0) Z Z (Xd (v := pt A 0) Z Z (Xs Z Z (Xc (o' := 1) Kf Z Z Z (Xc (o' := 5) Js Z Z Z (Xh (v := vi q.n) X1 Z ((ae.grown0 G).cell Z) Z (Xn Ga (Xf Z (Xf Z Xm)) Z (Xbw q.n (iAt (mAt ms (r.th - 1).toNat).t.queue 0) (iAt (mAt ms (r.th - 1).toNat).t.queue 1) (iAt (mAt ms (r.th - 1).toNat).t.queue 2) ab _ af) ?_))))))))))
 rintro _ an ⟨rfl, ak, O⟩
 refine Yn (b' := true) Z Z Z (Xb (Qa Z Z (Xa (Xe (v := vi (-4)) Z Z (Xb (Xt (Yk ?_)))))))
 have hf : far (tabT ms) q r = (tabT (ms), (-4)) := M7 hq (by omega)
 exact ⟨vi (-4), Yt Z Z, ms, by rw [hf], by first | rfl | exact Yb | (simp only [List.length_set, Yb]), ((ad.grown0 G).gn O), (RowsO.ge (RowsO.low V G) O hH (by omega)), by rw [hf], (KeepsI.new (KeepsI.low ac G) O (by omega))⟩
theorem Xa4 (q : Cl) (r : Rt) (lo B cap : Nat) (ms : List MTh) (w : World) (hB : Dw.Own w B 39 8 cap ms.length (ms.flatMap MTh.cells)) (hR : RowsO 33 3 lo w ms) (hlo : lo ≤ B) (hi : Nat) (hH : HiO hi ms) (hBlt : B < hi) (hhi : hi ≤ w.heap.size) (hF : FarOk (tabT ms) q r) (A : Nat) (hA : Blk w A 59 #[.slice (pa B) ms.length cap, vi q.kind, vi q.run, vi q.a, vi q.b, vi q.n, vi r.th, vi r.ve, vb r.rd, vb r.wr, vb r.wk]) (hAhi : hi ≤ A) (hq : decide (q.kind = 6) = true) : CallsR Tryz.prog 94 #[pt A 0] w (fun v w' => ∃ ms' : List MTh, v = vi (far (tabT ms) q r).2 ∧ ms'.length = ms.length ∧ Dw.Own w' B 39 8 cap ms'.length (ms'.flatMap MTh.cells) ∧ RowsO 33 3 lo w' ms' ∧ tabT ms' = (far (tabT ms) q r).1 ∧ KeepsI lo hi [39, 33, 3] w w') := by
 have hrow := Jl hF.tab (i := (r.th - 1).toNat) (by have := hF.th; rw [Y5] at this; omega)
 have hkd := Q2 hF.kind (Yx hF.call).1
 rw [← Qk] at hkd
 have hqk := of_decide_eq_true hq
 have hp := (Pa hrow (by omega)).1
 rcases (show (mAt ms (r.th - 1).toNat).t.queue.length = 0 ∨ (mAt ms (r.th - 1).toNat).t.queue.length = 1 ∨ (mAt ms (r.th - 1).toNat).t.queue.length = 2 ∨ (mAt ms (r.th - 1).toNat).t.queue.length = 3 by omega) with h | h | h | h
 exact Xa0 q r lo B cap ms w hB hR hlo hi hH hBlt hhi hF A hA hAhi hq h
 exact Xa1 q r lo B cap ms w hB hR hlo hi hH hBlt hhi hF A hA hAhi hq h
 exact Xa2 q r lo B cap ms w hB hR hlo hi hH hBlt hhi hF A hA hAhi hq h
 exact Xa3 q r lo B cap ms w hB hR hlo hi hH hBlt hhi hF A hA hAhi hq h
theorem Xa5 (q : Cl) (r : Rt) (lo B cap : Nat) (ms : List MTh) (w : World) (hB : Dw.Own w B 39 8 cap ms.length (ms.flatMap MTh.cells)) (hR : RowsO 33 3 lo w ms) (hlo : lo ≤ B) (hi : Nat) (hH : HiO hi ms) (hBlt : B < hi) (hhi : hi ≤ w.heap.size) (hF : FarOk (tabT ms) q r) (A : Nat) (hA : Blk w A 59 #[.slice (pa B) ms.length cap, vi q.kind, vi q.run, vi q.a, vi q.b, vi q.n, vi r.th, vi r.ve, vb r.rd, vb r.wr, vb r.wk]) (hAhi : hi ≤ A) (hq : decide (q.kind = 7) = true) (hql : (mAt ms (r.th - 1).toNat).t.queue.length = 0) : CallsR Tryz.prog 95 #[pt A 0] w (fun v w' => ∃ ms' : List MTh, v = vi (far (tabT ms) q r).2 ∧ ms'.length = ms.length ∧ Dw.Own w' B 39 8 cap ms'.length (ms'.flatMap MTh.cells) ∧ RowsO 33 3 lo w' ms' ∧ tabT ms' = (far (tabT ms) q r).1 ∧ KeepsI lo hi [39, 33, 3] w w') := by
 refine Xx (n := 27) Tryz.func95 Z Tryz.ntmps95 Z ?_
 have ai : KeepsI lo hi [39, 33, 3] w w := KeepsI.refl w
 have hlow : lo ≤ w.heap.size := by omega
 have hT := hF.tab
 have hco := Yx hF.call
 have hkp := (Qe hF.run).1
 have h4 := Qt hT hF.run
 have hth := hF.th
 rw [Y5] at hth
 have hml := Jk hT
 have hkd := Q2 hF.kind hco.1
 rw [← Qk] at hkd
 have hrow := Jl hT (i := (r.th - 1).toNat) (by omega)
 have hln := TabLen.ok hT _ (List.mem_of_getElem? (xg ms (r.th - 1).toNat))
 have hcp := hF.copy
 have hve := V8 hrow
 have hqk := of_decide_eq_true hq
 refine Xa (Xe (v := vi 0) Z Z (Xb (Xa (Xd (v := pt A 0) Z Z (Xn K7 (Xf Z Xm) Z (Kd q r B cap _ _ hB (by first | omega | (simp only [List.length_set, Yb]; omega)) A hA (by first | omega | (simp only [List.length_set, Yb]; omega))) ?_)))))
 rintro _ ak ⟨rfl, E⟩
 have ac := KeepsI.low ai E
 refine Xe (v := pt B ((r.th - 1).toNat * 8)) Z Z (Xb (Xa (Xd (v := pt B ((r.th - 1).toNat * 8)) Z Z (Xs Z Z (Xc (o' := (r.th - 1).toNat * 8 + 6) Qq Z Z Z ?_)))))
 have ad := (hB.grown0 E)
 refine Xh (v := .slice (mAt ms (r.th - 1).toNat).qa (mAt ms (r.th - 1).toNat).t.queue.length (mAt ms (r.th - 1).toNat).qc) Ju Z ((Own.range Yj ad (xg ms (r.th - 1).toNat)) 6 _ Z) Z ?_
 have V := (RowsO.low hR E)
 refine Xn Wi (Xf Z Xm) Z (Vv _ (mAt ms (r.th - 1).toNat).t.queue _ _ (RowO.th (RowsO.at V (lq (r.th - 1).toNat ms.length))).2.1 (by omega)) ?_
 rintro _ al ⟨ab, rfl, G, ae, J⟩
 rw [show ((mAt ms (r.th - 1).toNat).t.queue.length : Int) = 0 by omega] at ae
 have ah := nt ac.size G
 have ag := nl (ad).lt G
 have af := nl ((hA.grown0 E)).lt G
 refine Xe (v := pt ab 0) Z Z (Xb (Xa (Xd (v := pt ab 0) Z Z (Xn N2 (Xf Z Xm) Z (Xdh (iAt (mAt ms (r.th - 1).toNat).t.queue 0) (iAt (mAt ms (r.th - 1).toNat).t.queue 1) (iAt (mAt ms (r.th - 1).toNat).t.queue 2) ab _ ae) ?_))))
 rintro _ am ⟨rfl, aj, O⟩
 refine Xd (v := .tuple #[vi 0, vb false]) Z Z (Ye (v := vi 0) Z Z Z (Ye (v := vb false) Z Z Z (Xe (v := vi 0) Z Z (Xe (v := vb false) Z Z (Xb (Xq (Xa (Xd (v := vb false) Z Z (Yn (b' := true) Z Z Z (Xb (Qa Z Z (Xa ?_))))))))))))
 refine Xe (v := vi (-4)) Z Z (Xb (Xt (Yk ?_)))
 have hf : far (tabT ms) q r = (tabT (ms), (-4)) := M8 hq (by omega)
 exact ⟨vi (-4), Yt Z Z, ms, by rw [hf], by first | rfl | exact Yb | (simp only [List.length_set, Yb]), ((ad.grown0 J).gn O), (RowsO.ge (RowsO.low V J) O hH (by omega)), by rw [hf], (KeepsI.new (KeepsI.low ac J) O (by omega))⟩
theorem Xa6 (q : Cl) (r : Rt) (lo B cap : Nat) (ms : List MTh) (w : World) (hB : Dw.Own w B 39 8 cap ms.length (ms.flatMap MTh.cells)) (hR : RowsO 33 3 lo w ms) (hlo : lo ≤ B) (hi : Nat) (hH : HiO hi ms) (hBlt : B < hi) (hhi : hi ≤ w.heap.size) (hF : FarOk (tabT ms) q r) (A : Nat) (hA : Blk w A 59 #[.slice (pa B) ms.length cap, vi q.kind, vi q.run, vi q.a, vi q.b, vi q.n, vi r.th, vi r.ve, vb r.rd, vb r.wr, vb r.wk]) (hAhi : hi ≤ A) (hq : decide (q.kind = 7) = true) (hql : (mAt ms (r.th - 1).toNat).t.queue.length = 1) : CallsR Tryz.prog 95 #[pt A 0] w (fun v w' => ∃ ms' : List MTh, v = vi (far (tabT ms) q r).2 ∧ ms'.length = ms.length ∧ Dw.Own w' B 39 8 cap ms'.length (ms'.flatMap MTh.cells) ∧ RowsO 33 3 lo w' ms' ∧ tabT ms' = (far (tabT ms) q r).1 ∧ KeepsI lo hi [39, 33, 3] w w') := by
 refine Xx (n := 27) Tryz.func95 Z Tryz.ntmps95 Z ?_
 have av : KeepsI lo hi [39, 33, 3] w w := KeepsI.refl w
 have hlow : lo ≤ w.heap.size := by omega
 have hT := hF.tab
 have hco := Yx hF.call
 have hkp := (Qe hF.run).1
 have h4 := Qt hT hF.run
 have hth := hF.th
 rw [Y5] at hth
 have hml := Jk hT
 have hkd := Q2 hF.kind hco.1
 rw [← Qk] at hkd
 have hrow := Jl hT (i := (r.th - 1).toNat) (by omega)
 have hln := TabLen.ok hT _ (List.mem_of_getElem? (xg ms (r.th - 1).toNat))
 have hcp := hF.copy
 have hve := V8 hrow
 have hqk := of_decide_eq_true hq
 refine Xa (Xe (v := vi 0) Z Z (Xb (Xa (Xd (v := pt A 0) Z Z (Xn K7 (Xf Z Xm) Z (Kd q r B cap _ _ hB (by first | omega | (simp only [List.length_set, Yb]; omega)) A hA (by first | omega | (simp only [List.length_set, Yb]; omega))) ?_)))))
 rintro _ aw ⟨rfl, G⟩
 have ah := KeepsI.low av G
 refine Xe (v := pt B ((r.th - 1).toNat * 8)) Z Z (Xb (Xa (Xd (v := pt B ((r.th - 1).toNat * 8)) Z Z (Xs Z Z (Xc (o' := (r.th - 1).toNat * 8 + 6) Qq Z Z Z ?_)))))
 have aj := (hB.grown0 G)
 refine Xh (v := .slice (mAt ms (r.th - 1).toNat).qa (mAt ms (r.th - 1).toNat).t.queue.length (mAt ms (r.th - 1).toNat).qc) Ju Z ((Own.range Yj aj (xg ms (r.th - 1).toNat)) 6 _ Z) Z ?_
 have af := (RowsO.low hR G)
 refine Xn Wi (Xf Z Xm) Z (Vv _ (mAt ms (r.th - 1).toNat).t.queue _ _ (RowO.th (RowsO.at af (lq (r.th - 1).toNat ms.length))).2.1 (by omega)) ?_
 rintro _ az ⟨O, rfl, J, al, ab⟩
 rw [show ((mAt ms (r.th - 1).toNat).t.queue.length : Int) = 1 by omega] at al
 have au := nt ah.size J
 have ap := nl (aj).lt J
 have ao := nl ((hA.grown0 G)).lt J
 refine Xe (v := pt O 0) Z Z (Xb (Xa (Xd (v := pt O 0) Z Z (Xn N2 (Xf Z Xm) Z (Xdi (iAt (mAt ms (r.th - 1).toNat).t.queue 0) (iAt (mAt ms (r.th - 1).toNat).t.queue 1) (iAt (mAt ms (r.th - 1).toNat).t.queue 2) O _ al) ?_))))
 rintro _ a8 ⟨rfl, aq, ac⟩
 have ai := KeepsI.new (KeepsI.low ah ab) ac (by omega)
 refine Xd (v := .tuple #[vi (iAt (mAt ms (r.th - 1).toNat).t.queue 0), vb true]) Z Z (Ye (v := vi (iAt (mAt ms (r.th - 1).toNat).t.queue 0)) Z Z Z (Ye (v := vb true) Z Z Z (Xe (v := vi (iAt (mAt ms (r.th - 1).toNat).t.queue 0)) Z Z (Xe (v := vb true) Z Z (Xb (Xq (Xa (Xd (v := vb true) Z Z (Yn (b' := false) Z Z Z (Xb (Y4 Z Z (Xz ?_))))))))))))
 refine Xu (Xa (Xd (v := pt B ((r.th - 1).toNat * 8)) Z Z (Xd (v := pt O 0) Z Z (Xn G5 (Xf Z Xm) Z (Zb (iAt (mAt ms (r.th - 1).toNat).t.queue 0) (iAt (mAt ms (r.th - 1).toNat).t.queue 1) (iAt (mAt ms (r.th - 1).toNat).t.queue 2) O _ aq) ?_))))
 rintro _ a9 ⟨V, E, rfl, am, ad⟩
 refine Xs Z Z (Xc (o' := (r.th - 1).toNat * 8 + 6) Qq Z Z Z ?_)
 have ag := (((aj.grown0 ab).gn ac).grown0 ad)
 refine Q7 (g := MTh.cells) (j := 6) (z := (mAt ms (r.th - 1).toNat)) (z' := (⟨⟨(mAt ms (r.th - 1).toNat).t.kind, (mAt ms (r.th - 1).toNat).t.lab, (mAt ms (r.th - 1).toNat).t.ve, (mAt ms (r.th - 1).toNat).t.num, (mAt ms (r.th - 1).toNat).t.slots, ([] : List Int), (mAt ms (r.th - 1).toNat).t.to⟩, (mAt ms (r.th - 1).toNat).sa, (mAt ms (r.th - 1).toNat).sc, V, E⟩ : MTh)) (v := .slice V ([] : List Int).length E) Ju Z Z Z Yj ag (xg ms (r.th - 1).toNat) (by omega) Z Z ?_
 intro ar an ae
 have ak : RowsO 33 3 lo ar (ms.set (r.th - 1).toNat (⟨⟨(mAt ms (r.th - 1).toNat).t.kind, (mAt ms (r.th - 1).toNat).t.lab, (mAt ms (r.th - 1).toNat).t.ve, (mAt ms (r.th - 1).toNat).t.num, (mAt ms (r.th - 1).toNat).t.slots, ([] : List Int), (mAt ms (r.th - 1).toNat).t.to⟩, (mAt ms (r.th - 1).toNat).sa, (mAt ms (r.th - 1).toNat).sc, V, E⟩ : MTh)) := RowsO.setq (RowsO.own (RowsO.low (RowsO.ge (RowsO.low af ab) ac hH (by omega)) ad) ae ag (by decide) (by decide)) (lq (r.th - 1).toNat ms.length) (OwnN.mono (OwnN.typ (OwnN.mono am ai.size) ae ag (by decide)) hlow) ⟨rfl, rfl, rfl⟩
 refine Xb (Xa (Xd (v := vi (iAt (mAt ms (r.th - 1).toNat).t.queue 0)) Z Z (Xe (v := vi (iAt (mAt ms (r.th - 1).toNat).t.queue 0)) Z Z (Xb (Xt ?_)))))
 have hf : far (tabT ms) q r = (tabT (ms.set (r.th - 1).toNat (⟨⟨(mAt ms (r.th - 1).toNat).t.kind, (mAt ms (r.th - 1).toNat).t.lab, (mAt ms (r.th - 1).toNat).t.ve, (mAt ms (r.th - 1).toNat).t.num, (mAt ms (r.th - 1).toNat).t.slots, ([] : List Int), (mAt ms (r.th - 1).toNat).t.to⟩, (mAt ms (r.th - 1).toNat).sa, (mAt ms (r.th - 1).toNat).sc, V, E⟩ : MTh)), iAt (mAt ms (r.th - 1).toNat).t.queue 0) := Tc hq (by omega) (congrArg (fun z => ({ (mAt ms (r.th - 1).toNat).t with queue := z } : Th)) (t_1 hql))
 exact ⟨vi (iAt (mAt ms (r.th - 1).toNat).t.queue 0), Yt Z Z, ms.set (r.th - 1).toNat (⟨⟨(mAt ms (r.th - 1).toNat).t.kind, (mAt ms (r.th - 1).toNat).t.lab, (mAt ms (r.th - 1).toNat).t.ve, (mAt ms (r.th - 1).toNat).t.num, (mAt ms (r.th - 1).toNat).t.slots, ([] : List Int), (mAt ms (r.th - 1).toNat).t.to⟩, (mAt ms (r.th - 1).toNat).sa, (mAt ms (r.th - 1).toNat).sc, V, E⟩ : MTh), by rw [hf], by first | rfl | exact Yb | (simp only [List.length_set, Yb]), an, ak, by rw [hf], (KeepsI.own (KeepsI.low ai ad) ae ag (by decide) (by omega) (by omega))⟩
theorem Xa7 (q : Cl) (r : Rt) (lo B cap : Nat) (ms : List MTh) (w : World) (hB : Dw.Own w B 39 8 cap ms.length (ms.flatMap MTh.cells)) (hR : RowsO 33 3 lo w ms) (hlo : lo ≤ B) (hi : Nat) (hH : HiO hi ms) (hBlt : B < hi) (hhi : hi ≤ w.heap.size) (hF : FarOk (tabT ms) q r) (A : Nat) (hA : Blk w A 59 #[.slice (pa B) ms.length cap, vi q.kind, vi q.run, vi q.a, vi q.b, vi q.n, vi r.th, vi r.ve, vb r.rd, vb r.wr, vb r.wk]) (hAhi : hi ≤ A) (hq : decide (q.kind = 7) = true) (hql : (mAt ms (r.th - 1).toNat).t.queue.length = 2) : CallsR Tryz.prog 95 #[pt A 0] w (fun v w' => ∃ ms' : List MTh, v = vi (far (tabT ms) q r).2 ∧ ms'.length = ms.length ∧ Dw.Own w' B 39 8 cap ms'.length (ms'.flatMap MTh.cells) ∧ RowsO 33 3 lo w' ms' ∧ tabT ms' = (far (tabT ms) q r).1 ∧ KeepsI lo hi [39, 33, 3] w w') := by
 refine Xx (n := 27) Tryz.func95 Z Tryz.ntmps95 Z ?_
 have av : KeepsI lo hi [39, 33, 3] w w := KeepsI.refl w
 have hlow : lo ≤ w.heap.size := by omega
 have hT := hF.tab
 have hco := Yx hF.call
 have hkp := (Qe hF.run).1
 have h4 := Qt hT hF.run
 have hth := hF.th
 rw [Y5] at hth
 have hml := Jk hT
 have hkd := Q2 hF.kind hco.1
 rw [← Qk] at hkd
 have hrow := Jl hT (i := (r.th - 1).toNat) (by omega)
 have hln := TabLen.ok hT _ (List.mem_of_getElem? (xg ms (r.th - 1).toNat))
 have hcp := hF.copy
 have hve := V8 hrow
 have hqk := of_decide_eq_true hq
 refine Xa (Xe (v := vi 0) Z Z (Xb (Xa (Xd (v := pt A 0) Z Z (Xn K7 (Xf Z Xm) Z (Kd q r B cap _ _ hB (by first | omega | (simp only [List.length_set, Yb]; omega)) A hA (by first | omega | (simp only [List.length_set, Yb]; omega))) ?_)))))
 rintro _ aw ⟨rfl, G⟩
 have ah := KeepsI.low av G
 refine Xe (v := pt B ((r.th - 1).toNat * 8)) Z Z (Xb (Xa (Xd (v := pt B ((r.th - 1).toNat * 8)) Z Z (Xs Z Z (Xc (o' := (r.th - 1).toNat * 8 + 6) Qq Z Z Z ?_)))))
 have aj := (hB.grown0 G)
 refine Xh (v := .slice (mAt ms (r.th - 1).toNat).qa (mAt ms (r.th - 1).toNat).t.queue.length (mAt ms (r.th - 1).toNat).qc) Ju Z ((Own.range Yj aj (xg ms (r.th - 1).toNat)) 6 _ Z) Z ?_
 have af := (RowsO.low hR G)
 refine Xn Wi (Xf Z Xm) Z (Vv _ (mAt ms (r.th - 1).toNat).t.queue _ _ (RowO.th (RowsO.at af (lq (r.th - 1).toNat ms.length))).2.1 (by omega)) ?_
 rintro _ az ⟨O, rfl, J, al, ab⟩
 rw [show ((mAt ms (r.th - 1).toNat).t.queue.length : Int) = 2 by omega] at al
 have au := nt ah.size J
 have ap := nl (aj).lt J
 have ao := nl ((hA.grown0 G)).lt J
 refine Xe (v := pt O 0) Z Z (Xb (Xa (Xd (v := pt O 0) Z Z (Xn N2 (Xf Z Xm) Z (Xdj (iAt (mAt ms (r.th - 1).toNat).t.queue 0) (iAt (mAt ms (r.th - 1).toNat).t.queue 1) (iAt (mAt ms (r.th - 1).toNat).t.queue 2) O _ al) ?_))))
 rintro _ a8 ⟨rfl, aq, ac⟩
 have ai := KeepsI.new (KeepsI.low ah ab) ac (by omega)
 refine Xd (v := .tuple #[vi (iAt (mAt ms (r.th - 1).toNat).t.queue 0), vb true]) Z Z (Ye (v := vi (iAt (mAt ms (r.th - 1).toNat).t.queue 0)) Z Z Z (Ye (v := vb true) Z Z Z (Xe (v := vi (iAt (mAt ms (r.th - 1).toNat).t.queue 0)) Z Z (Xe (v := vb true) Z Z (Xb (Xq (Xa (Xd (v := vb true) Z Z (Yn (b' := false) Z Z Z (Xb (Y4 Z Z (Xz ?_))))))))))))
 refine Xu (Xa (Xd (v := pt B ((r.th - 1).toNat * 8)) Z Z (Xd (v := pt O 0) Z Z (Xn G5 (Xf Z Xm) Z (Zc (iAt (mAt ms (r.th - 1).toNat).t.queue 0) (iAt (mAt ms (r.th - 1).toNat).t.queue 1) (iAt (mAt ms (r.th - 1).toNat).t.queue 2) O _ aq) ?_))))
 rintro _ a9 ⟨V, E, rfl, am, ad⟩
 refine Xs Z Z (Xc (o' := (r.th - 1).toNat * 8 + 6) Qq Z Z Z ?_)
 have ag := (((aj.grown0 ab).gn ac).grown0 ad)
 refine Q7 (g := MTh.cells) (j := 6) (z := (mAt ms (r.th - 1).toNat)) (z' := (⟨⟨(mAt ms (r.th - 1).toNat).t.kind, (mAt ms (r.th - 1).toNat).t.lab, (mAt ms (r.th - 1).toNat).t.ve, (mAt ms (r.th - 1).toNat).t.num, (mAt ms (r.th - 1).toNat).t.slots, ([iAt (mAt ms (r.th - 1).toNat).t.queue 1] : List Int), (mAt ms (r.th - 1).toNat).t.to⟩, (mAt ms (r.th - 1).toNat).sa, (mAt ms (r.th - 1).toNat).sc, V, E⟩ : MTh)) (v := .slice V ([iAt (mAt ms (r.th - 1).toNat).t.queue 1] : List Int).length E) Ju Z Z Z Yj ag (xg ms (r.th - 1).toNat) (by omega) Z Z ?_
 intro ar an ae
 have ak : RowsO 33 3 lo ar (ms.set (r.th - 1).toNat (⟨⟨(mAt ms (r.th - 1).toNat).t.kind, (mAt ms (r.th - 1).toNat).t.lab, (mAt ms (r.th - 1).toNat).t.ve, (mAt ms (r.th - 1).toNat).t.num, (mAt ms (r.th - 1).toNat).t.slots, ([iAt (mAt ms (r.th - 1).toNat).t.queue 1] : List Int), (mAt ms (r.th - 1).toNat).t.to⟩, (mAt ms (r.th - 1).toNat).sa, (mAt ms (r.th - 1).toNat).sc, V, E⟩ : MTh)) := RowsO.setq (RowsO.own (RowsO.low (RowsO.ge (RowsO.low af ab) ac hH (by omega)) ad) ae ag (by decide) (by decide)) (lq (r.th - 1).toNat ms.length) (OwnN.mono (OwnN.typ (OwnN.mono am ai.size) ae ag (by decide)) hlow) ⟨rfl, rfl, rfl⟩
 refine Xb (Xa (Xd (v := vi (iAt (mAt ms (r.th - 1).toNat).t.queue 0)) Z Z (Xe (v := vi (iAt (mAt ms (r.th - 1).toNat).t.queue 0)) Z Z (Xb (Xt ?_)))))
 have hf : far (tabT ms) q r = (tabT (ms.set (r.th - 1).toNat (⟨⟨(mAt ms (r.th - 1).toNat).t.kind, (mAt ms (r.th - 1).toNat).t.lab, (mAt ms (r.th - 1).toNat).t.ve, (mAt ms (r.th - 1).toNat).t.num, (mAt ms (r.th - 1).toNat).t.slots, ([iAt (mAt ms (r.th - 1).toNat).t.queue 1] : List Int), (mAt ms (r.th - 1).toNat).t.to⟩, (mAt ms (r.th - 1).toNat).sa, (mAt ms (r.th - 1).toNat).sc, V, E⟩ : MTh)), iAt (mAt ms (r.th - 1).toNat).t.queue 0) := Tc hq (by omega) (congrArg (fun z => ({ (mAt ms (r.th - 1).toNat).t with queue := z } : Th)) (t_2 hql))
 exact ⟨vi (iAt (mAt ms (r.th - 1).toNat).t.queue 0), Yt Z Z, ms.set (r.th - 1).toNat (⟨⟨(mAt ms (r.th - 1).toNat).t.kind, (mAt ms (r.th - 1).toNat).t.lab, (mAt ms (r.th - 1).toNat).t.ve, (mAt ms (r.th - 1).toNat).t.num, (mAt ms (r.th - 1).toNat).t.slots, ([iAt (mAt ms (r.th - 1).toNat).t.queue 1] : List Int), (mAt ms (r.th - 1).toNat).t.to⟩, (mAt ms (r.th - 1).toNat).sa, (mAt ms (r.th - 1).toNat).sc, V, E⟩ : MTh), by rw [hf], by first | rfl | exact Yb | (simp only [List.length_set, Yb]), an, ak, by rw [hf], (KeepsI.own (KeepsI.low ai ad) ae ag (by decide) (by omega) (by omega))⟩
theorem Xa8 (q : Cl) (r : Rt) (lo B cap : Nat) (ms : List MTh) (w : World) (hB : Dw.Own w B 39 8 cap ms.length (ms.flatMap MTh.cells)) (hR : RowsO 33 3 lo w ms) (hlo : lo ≤ B) (hi : Nat) (hH : HiO hi ms) (hBlt : B < hi) (hhi : hi ≤ w.heap.size) (hF : FarOk (tabT ms) q r) (A : Nat) (hA : Blk w A 59 #[.slice (pa B) ms.length cap, vi q.kind, vi q.run, vi q.a, vi q.b, vi q.n, vi r.th, vi r.ve, vb r.rd, vb r.wr, vb r.wk]) (hAhi : hi ≤ A) (hq : decide (q.kind = 7) = true) (hql : (mAt ms (r.th - 1).toNat).t.queue.length = 3) : CallsR Tryz.prog 95 #[pt A 0] w (fun v w' => ∃ ms' : List MTh, v = vi (far (tabT ms) q r).2 ∧ ms'.length = ms.length ∧ Dw.Own w' B 39 8 cap ms'.length (ms'.flatMap MTh.cells) ∧ RowsO 33 3 lo w' ms' ∧ tabT ms' = (far (tabT ms) q r).1 ∧ KeepsI lo hi [39, 33, 3] w w') := by
 refine Xx (n := 27) Tryz.func95 Z Tryz.ntmps95 Z ?_
 have av : KeepsI lo hi [39, 33, 3] w w := KeepsI.refl w
 have hlow : lo ≤ w.heap.size := by omega
 have hT := hF.tab
 have hco := Yx hF.call
 have hkp := (Qe hF.run).1
 have h4 := Qt hT hF.run
 have hth := hF.th
 rw [Y5] at hth
 have hml := Jk hT
 have hkd := Q2 hF.kind hco.1
 rw [← Qk] at hkd
 have hrow := Jl hT (i := (r.th - 1).toNat) (by omega)
 have hln := TabLen.ok hT _ (List.mem_of_getElem? (xg ms (r.th - 1).toNat))
 have hcp := hF.copy
 have hve := V8 hrow
 have hqk := of_decide_eq_true hq
 refine Xa (Xe (v := vi 0) Z Z (Xb (Xa (Xd (v := pt A 0) Z Z (Xn K7 (Xf Z Xm) Z (Kd q r B cap _ _ hB (by first | omega | (simp only [List.length_set, Yb]; omega)) A hA (by first | omega | (simp only [List.length_set, Yb]; omega))) ?_)))))
 rintro _ aw ⟨rfl, G⟩
 have ah := KeepsI.low av G
 refine Xe (v := pt B ((r.th - 1).toNat * 8)) Z Z (Xb (Xa (Xd (v := pt B ((r.th - 1).toNat * 8)) Z Z (Xs Z Z (Xc (o' := (r.th - 1).toNat * 8 + 6) Qq Z Z Z ?_)))))
 have aj := (hB.grown0 G)
 refine Xh (v := .slice (mAt ms (r.th - 1).toNat).qa (mAt ms (r.th - 1).toNat).t.queue.length (mAt ms (r.th - 1).toNat).qc) Ju Z ((Own.range Yj aj (xg ms (r.th - 1).toNat)) 6 _ Z) Z ?_
 have af := (RowsO.low hR G)
 refine Xn Wi (Xf Z Xm) Z (Vv _ (mAt ms (r.th - 1).toNat).t.queue _ _ (RowO.th (RowsO.at af (lq (r.th - 1).toNat ms.length))).2.1 (by omega)) ?_
 rintro _ az ⟨O, rfl, J, al, ab⟩
 rw [show ((mAt ms (r.th - 1).toNat).t.queue.length : Int) = 3 by omega] at al
 have au := nt ah.size J
 have ap := nl (aj).lt J
 have ao := nl ((hA.grown0 G)).lt J
 refine Xe (v := pt O 0) Z Z (Xb (Xa (Xd (v := pt O 0) Z Z (Xn N2 (Xf Z Xm) Z (Xdk (iAt (mAt ms (r.th - 1).toNat).t.queue 0) (iAt (mAt ms (r.th - 1).toNat).t.queue 1) (iAt (mAt ms (r.th - 1).toNat).t.queue 2) O _ al) ?_))))
 rintro _ a8 ⟨rfl, aq, ac⟩
 have ai := KeepsI.new (KeepsI.low ah ab) ac (by omega)
 refine Xd (v := .tuple #[vi (iAt (mAt ms (r.th - 1).toNat).t.queue 0), vb true]) Z Z (Ye (v := vi (iAt (mAt ms (r.th - 1).toNat).t.queue 0)) Z Z Z (Ye (v := vb true) Z Z Z (Xe (v := vi (iAt (mAt ms (r.th - 1).toNat).t.queue 0)) Z Z (Xe (v := vb true) Z Z (Xb (Xq (Xa (Xd (v := vb true) Z Z (Yn (b' := false) Z Z Z (Xb (Y4 Z Z (Xz ?_))))))))))))
 refine Xu (Xa (Xd (v := pt B ((r.th - 1).toNat * 8)) Z Z (Xd (v := pt O 0) Z Z (Xn G5 (Xf Z Xm) Z (Zd (iAt (mAt ms (r.th - 1).toNat).t.queue 0) (iAt (mAt ms (r.th - 1).toNat).t.queue 1) (iAt (mAt ms (r.th - 1).toNat).t.queue 2) O _ aq) ?_))))
 rintro _ a9 ⟨V, E, rfl, am, ad⟩
 refine Xs Z Z (Xc (o' := (r.th - 1).toNat * 8 + 6) Qq Z Z Z ?_)
 have ag := (((aj.grown0 ab).gn ac).grown0 ad)
 refine Q7 (g := MTh.cells) (j := 6) (z := (mAt ms (r.th - 1).toNat)) (z' := (⟨⟨(mAt ms (r.th - 1).toNat).t.kind, (mAt ms (r.th - 1).toNat).t.lab, (mAt ms (r.th - 1).toNat).t.ve, (mAt ms (r.th - 1).toNat).t.num, (mAt ms (r.th - 1).toNat).t.slots, ([iAt (mAt ms (r.th - 1).toNat).t.queue 1, iAt (mAt ms (r.th - 1).toNat).t.queue 2] : List Int), (mAt ms (r.th - 1).toNat).t.to⟩, (mAt ms (r.th - 1).toNat).sa, (mAt ms (r.th - 1).toNat).sc, V, E⟩ : MTh)) (v := .slice V ([iAt (mAt ms (r.th - 1).toNat).t.queue 1, iAt (mAt ms (r.th - 1).toNat).t.queue 2] : List Int).length E) Ju Z Z Z Yj ag (xg ms (r.th - 1).toNat) (by omega) Z Z ?_
 intro ar an ae
 have ak : RowsO 33 3 lo ar (ms.set (r.th - 1).toNat (⟨⟨(mAt ms (r.th - 1).toNat).t.kind, (mAt ms (r.th - 1).toNat).t.lab, (mAt ms (r.th - 1).toNat).t.ve, (mAt ms (r.th - 1).toNat).t.num, (mAt ms (r.th - 1).toNat).t.slots, ([iAt (mAt ms (r.th - 1).toNat).t.queue 1, iAt (mAt ms (r.th - 1).toNat).t.queue 2] : List Int), (mAt ms (r.th - 1).toNat).t.to⟩, (mAt ms (r.th - 1).toNat).sa, (mAt ms (r.th - 1).toNat).sc, V, E⟩ : MTh)) := RowsO.setq (RowsO.own (RowsO.low (RowsO.ge (RowsO.low af ab) ac hH (by omega)) ad) ae ag (by decide) (by decide)) (lq (r.th - 1).toNat ms.length) (OwnN.mono (OwnN.typ (OwnN.mono am ai.size) ae ag (by decide)) hlow) ⟨rfl, rfl, rfl⟩
 refine Xb (Xa (Xd (v := vi (iAt (mAt ms (r.th - 1).toNat).t.queue 0)) Z Z (Xe (v := vi (iAt (mAt ms (r.th - 1).toNat).t.queue 0)) Z Z (Xb (Xt ?_)))))
 have hf : far (tabT ms) q r = (tabT (ms.set (r.th - 1).toNat (⟨⟨(mAt ms (r.th - 1).toNat).t.kind, (mAt ms (r.th - 1).toNat).t.lab, (mAt ms (r.th - 1).toNat).t.ve, (mAt ms (r.th - 1).toNat).t.num, (mAt ms (r.th - 1).toNat).t.slots, ([iAt (mAt ms (r.th - 1).toNat).t.queue 1, iAt (mAt ms (r.th - 1).toNat).t.queue 2] : List Int), (mAt ms (r.th - 1).toNat).t.to⟩, (mAt ms (r.th - 1).toNat).sa, (mAt ms (r.th - 1).toNat).sc, V, E⟩ : MTh)), iAt (mAt ms (r.th - 1).toNat).t.queue 0) := Tc hq (by omega) (congrArg (fun z => ({ (mAt ms (r.th - 1).toNat).t with queue := z } : Th)) (t_3 hql))
 exact ⟨vi (iAt (mAt ms (r.th - 1).toNat).t.queue 0), Yt Z Z, ms.set (r.th - 1).toNat (⟨⟨(mAt ms (r.th - 1).toNat).t.kind, (mAt ms (r.th - 1).toNat).t.lab, (mAt ms (r.th - 1).toNat).t.ve, (mAt ms (r.th - 1).toNat).t.num, (mAt ms (r.th - 1).toNat).t.slots, ([iAt (mAt ms (r.th - 1).toNat).t.queue 1, iAt (mAt ms (r.th - 1).toNat).t.queue 2] : List Int), (mAt ms (r.th - 1).toNat).t.to⟩, (mAt ms (r.th - 1).toNat).sa, (mAt ms (r.th - 1).toNat).sc, V, E⟩ : MTh), by rw [hf], by first | rfl | exact Yb | (simp only [List.length_set, Yb]), an, ak, by rw [hf], (KeepsI.own (KeepsI.low ai ad) ae ag (by decide) (by omega) (by omega))⟩
theorem Xa9 (q : Cl) (r : Rt) (lo B cap : Nat) (ms : List MTh) (w : World) (hB : Dw.Own w B 39 8 cap ms.length (ms.flatMap MTh.cells)) (hR : RowsO 33 3 lo w ms) (hlo : lo ≤ B) (hi : Nat) (hH : HiO hi ms) (hBlt : B < hi) (hhi : hi ≤ w.heap.size) (hF : FarOk (tabT ms) q r) (A : Nat) (hA : Blk w A 59 #[.slice (pa B) ms.length cap, vi q.kind, vi q.run, vi q.a, vi q.b, vi q.n, vi r.th, vi r.ve, vb r.rd, vb r.wr, vb r.wk]) (hAhi : hi ≤ A) (hq : decide (q.kind = 7) = true) : CallsR Tryz.prog 95 #[pt A 0] w (fun v w' => ∃ ms' : List MTh, v = vi (far (tabT ms) q r).2 ∧ ms'.length = ms.length ∧ Dw.Own w' B 39 8 cap ms'.length (ms'.flatMap MTh.cells) ∧ RowsO 33 3 lo w' ms' ∧ tabT ms' = (far (tabT ms) q r).1 ∧ KeepsI lo hi [39, 33, 3] w w') := by
 have hrow := Jl hF.tab (i := (r.th - 1).toNat) (by have := hF.th; rw [Y5] at this; omega)
 have hkd := Q2 hF.kind (Yx hF.call).1
 rw [← Qk] at hkd
 have hqk := of_decide_eq_true hq
 have hp := (Pa hrow (by omega)).1
 rcases (show (mAt ms (r.th - 1).toNat).t.queue.length = 0 ∨ (mAt ms (r.th - 1).toNat).t.queue.length = 1 ∨ (mAt ms (r.th - 1).toNat).t.queue.length = 2 ∨ (mAt ms (r.th - 1).toNat).t.queue.length = 3 by omega) with h | h | h | h
 exact Xa5 q r lo B cap ms w hB hR hlo hi hH hBlt hhi hF A hA hAhi hq h
 exact Xa6 q r lo B cap ms w hB hR hlo hi hH hBlt hhi hF A hA hAhi hq h
 exact Xa7 q r lo B cap ms w hB hR hlo hi hH hBlt hhi hF A hA hAhi hq h
 exact Xa8 q r lo B cap ms w hB hR hlo hi hH hBlt hhi hF A hA hAhi hq h
end Go.Proofs.YtlhhijnmacogcaaGreatDoor
end
section
namespace Go.Proofs.YtlhhijnmacogcaaGreatDoor
open Go.RowKit Go.Dw
set_option maxRecDepth 100000
set_option maxHeartbeats 4000000
set_option linter.unusedSimpArgs false
set_option linter.unusedVariables false
theorem Xcr : goFn Tryz.prog 60 = true := by kernel_rfl
theorem Xc4 : goFn Tryz.prog 88 = true := by kernel_rfl
theorem Ow (w : World) (xs : List Int) (a : Option Addr) (c : Nat) (hs : SlAt w a 1 (xs.map icell)) (hc : a = none → c = 0) (hn : xs.length ≤ 1048576) : CallsR Tryz.prog 88 #[.slice a xs.length c] w (fun v w' => ∃ (a' : Option Addr) (cap' : Nat), v = .slice a' xs.length cap' ∧ OwnN w.heap.size w' a' 3 1 cap' xs.length (xs.flatMap icell) ∧ w.grownBy w' none) := by
 refine Xx (n := 5) Tryz.func88 Z Tryz.ntmps88 Z ?_
 have O := World.grownBy.refl w none
 refine Xa (Xe (v := .slice none 0 0) Z Z (Xb (Xa (Xd (v := .slice a xs.length c) Z Z (Jg (g := icell) (ys := []) (zs := xs) (lo := w.heap.size) Vs Z Yq (by omega) Jz Z Z OwnN.nil (SlAt.low hs O) hc (by first | omega | exact Nat.le_of_ble_eq_true rfl | (simp only [List.length_nil, List.length_cons, List.length_append, List.length_replicate]; omega)) (by omega) O.size Z ?_)))))
 intro G E ac J V ab
 refine Xe (v := .slice G xs.length E) Z Z (Xb (Xt ?_))
 refine ⟨.slice G xs.length E, Yt Z Z, G, E, Z, J, (low0 O V)⟩
theorem P7 (w : World) (q : MTh) (hq : ThAt w q) (hn : q.t.slots.length ≤ 1048576 ∧ q.t.queue.length ≤ 1048576) : CallsR Tryz.prog 60 #[.agg #[vi q.t.kind, vi q.t.lab.s, vi q.t.lab.v, vi q.t.ve, vi q.t.num, .slice q.sa q.t.slots.length q.sc, .slice q.qa q.t.queue.length q.qc, vi q.t.to]] w (fun v w' => ∃ (sa : Option Addr) (sc : Nat) (qa : Option Addr) (qc : Nat), v = .agg #[vi q.t.kind, vi q.t.lab.s, vi q.t.lab.v, vi q.t.ve, vi q.t.num, .slice sa q.t.slots.length sc, .slice qa q.t.queue.length qc, vi q.t.to] ∧ OwnN w.heap.size w' sa 33 5 sc q.t.slots.length (q.t.slots.flatMap Rt.cells) ∧ OwnN w.heap.size w' qa 3 1 qc q.t.queue.length (q.t.queue.flatMap icell) ∧ w.grownBy w' none) := by
 refine Xx (n := 12) Tryz.func60 Z Tryz.ntmps60 Z ?_
 have ar := World.grownBy.refl w none
 refine Xa (Y7 (v := .agg #[vi q.t.kind, vi q.t.lab.s, vi q.t.lab.v, vi q.t.ve, vi q.t.num, .slice q.sa q.t.slots.length q.sc, .slice q.qa q.t.queue.length q.qc, vi q.t.to]) (cs := #[vi q.t.kind, vi q.t.lab.s, vi q.t.lab.v, vi q.t.ve, vi q.t.num, .slice q.sa q.t.slots.length q.sc, .slice q.qa q.t.queue.length q.qc, vi q.t.to]) Z Z Z ?_)
 intro aw a8 ad
 have au := Yd ad ar
 have aj := low0 ar ad.grw
 refine Yf (cs := #[vi 0, vi 0, vi 0, vi 0, vi 0, .slice none 0 0, .slice none 0 0, vi 0]) Ka Z Z ?_
 intro az a9 V
 have av := Yd V aj
 have am := Xo V (ad.blk).lt
 have af := low0 aj V.grw
 refine Xb (Xa (Xc (o' := 5) Qj Z Z Z ?_))
 have an := (ad.blk.grown0 V.grw)
 refine Xh (v := .slice q.sa q.t.slots.length q.sc) Jd Z (an.cell Z) Z (Xn Xal (Xf Z Xm) Z (S9 _ q.t.slots _ _ (ThAt.low hq af).1 (ThAt.low hq af).2.2.1 (by first | omega | exact Nat.le_of_ble_eq_true rfl | (simp only [List.length_nil, List.length_cons, List.length_append, List.length_replicate]; omega))) ?_)
 rintro _ ba ⟨J, E, rfl, ap, ai⟩
 refine Xc (o' := 5) Qj Z Z Z ?_
 have ao := (an.grown0 ai)
 refine Yc (v := .slice J q.t.slots.length E) (cs' := #[vi q.t.kind, vi q.t.lab.s, vi q.t.lab.v, vi q.t.ve, vi q.t.num, .slice J q.t.slots.length E, .slice q.qa q.t.queue.length q.qc, vi q.t.to]) Jd Z Z Z ao (Nat.le_of_ble_eq_true Z) Z ?_
 intro bb ab
 have ag := low1 (low0 af ai) ab.grw (by omega)
 refine Xb (Xa (Xc (o' := 6) Qq Z Z Z (Xh (v := .slice q.qa q.t.queue.length q.qc) Ju Z (ab.blk.cell Z) Z (Xn Xc4 (Xf Z Xm) Z (Ow _ q.t.queue _ _ (ThAt.low hq ag).2.1 (ThAt.low hq ag).2.2.2 (by first | omega | exact Nat.le_of_ble_eq_true rfl | (simp only [List.length_nil, List.length_cons, List.length_append, List.length_replicate]; omega))) ?_))))
 rintro _ bc ⟨O, G, rfl, aq, ah⟩
 refine Xc (o' := 6) Qq Z Z Z ?_
 have ak := (ab.blk.grown0 ah)
 refine Yc (v := .slice O q.t.queue.length G) (cs' := #[vi q.t.kind, vi q.t.lab.s, vi q.t.lab.v, vi q.t.ve, vi q.t.num, .slice J q.t.slots.length E, .slice O q.t.queue.length G, vi q.t.to]) Ju Z Z Z ak (Nat.le_of_ble_eq_true Z) Z ?_
 intro bd ac
 refine Xb (Xa (Xr (vs := [vi q.t.kind, vi q.t.lab.s, vi q.t.lab.v, vi q.t.ve, vi q.t.num, .slice J q.t.slots.length E, .slice O q.t.queue.length G, vi q.t.to]) Ys Z Z (ac.blk.rangeL 0 8 Z) Z ?_))
 have al := ((((V.blk.grown0 ai).gn ab.grw).grown0 ah).gn ac.grw)
 refine Xy (vs := [vi q.t.kind, vi q.t.lab.s, vi q.t.lab.v, vi q.t.ve, vi q.t.num, .slice J q.t.slots.length E, .slice O q.t.queue.length G, vi q.t.to]) (cs' := #[vi q.t.kind, vi q.t.lab.s, vi q.t.lab.v, vi q.t.ve, vi q.t.num, .slice J q.t.slots.length E, .slice O q.t.queue.length G, vi q.t.to]) Ys Z Z Z (by simp [Value.oneCell']) al (Nat.le_of_ble_eq_true Z) Z ?_
 intro be ae
 refine Xb (Xt ?_)
 refine ⟨.agg #[vi q.t.kind, vi q.t.lab.s, vi q.t.lab.v, vi q.t.ve, vi q.t.num, .slice J q.t.slots.length E, .slice O q.t.queue.length G, vi q.t.to], Jt Z (Yh (vs := [vi q.t.kind, vi q.t.lab.s, vi q.t.lab.v, vi q.t.ve, vi q.t.num, .slice J q.t.slots.length E, .slice O q.t.queue.length G, vi q.t.to]) Ys Z Z (ae.blk.rangeL 0 8 Z)), J, E, O, G, Z, (OwnN.typB (OwnN.typB ((OwnN.typB (OwnN.mono ap af.size) ab.grw ao (by decide)).grown0 ah) ac.grw ak (by decide)) ae.grw al (by decide)), (OwnN.typB (OwnN.typB (OwnN.mono aq ag.size) ac.grw ak (by decide)) ae.grw al (by decide)), (low1 (low1 (low0 ag ah) ac.grw (by omega)) ae.grw (by omega))⟩
theorem P6 (w : World) (ms : List MTh) (a : Option Addr) (c : Nat) (ht : TabAt w a ms) (hlen : TabLen ms) (hn : ms.length ≤ 1048576) : CallsR Tryz.prog 36 #[.slice a ms.length c] w (fun v w' => ∃ (B cap : Nat) (ys : List MTh), v = .slice (pa B) ys.length cap ∧ tabT ys = tabT ms ∧ w.heap.size ≤ B ∧ Dw.Own w' B 39 8 cap ys.length (ys.flatMap MTh.cells) ∧ RowsO 33 3 w.heap.size w' ys ∧ w.grownBy w' none) := by
 refine Xx (n := 23) Tryz.func36 Z Tryz.ntmps36 Z ?_
 have bd := World.grownBy.refl w none
 refine Xa (Xe (v := .slice none 0 0) Z Z (Xb (Xa (Xd (v := .slice a ms.length c) Z Z (Y1 (by kernel_rfl) Z Z (Lr (g := MTh.cells) (z := MTh.zero) (c := ms.length) Tg Z Yj (by omega) Z Z (by omega) (by omega) Z ?_))))))
 intro G bt ae
 have aq := Yd ae bd
 refine Xe (v := .slice (pa G) ms.length ms.length) Z Z (Xb (Xq (Xa (Xd (v := .slice a ms.length c) Z Z (Y1 (by kernel_rfl) Z Z (Xd (v := vi 0) Z Z (Xb (X9 (Ql (fun mm f' w' => ∃ (k : Nat) (ct : Nat) (zs : List MTh), mm = ms.length - k ∧ k ≤ ms.length ∧ zs.length = ms.length ∧ ct = ms.length ∧ (tabT zs).take k = (tabT ms).take k ∧ RowsO 33 3 w.heap.size w' zs ∧ f' 11 = vi (k : Int) ∧ f' 2 = .slice none 0 0 ∧ f' 3 = .slice (pa G) ms.length ms.length ∧ f' 9 = .slice a ms.length c ∧ f' 10 = vi (ms.length : Int) ∧ w.grownBy w' none ∧ Dw.Own w' G 39 8 ct zs.length (zs.flatMap MTh.cells)) (ms.length - 0) ⟨0, (List.replicate ms.length MTh.zero).length, (List.replicate ms.length MTh.zero), Z, (Nat.zero_le _), (List.length_replicate), (List.length_replicate), Z, Sy, Z, Z, Z, Z, Z, (low0 bd ae.grw), (Own.rows Yj ae.blk (by rw [List.length_replicate]; omega))⟩ ?_)))))))))
 rintro mm bl bf ⟨k, ct, zs, bj, hk, hzl, hct, hzt, hRO, ag, bb, al, ar, au, O, ah⟩
 have hOt := ah
 obtain ⟨hi, hhi⟩ : ∃ n, n = bf.heap.size := ⟨_, rfl⟩
 have bc := RowsO.hi hRO
 rw [← hhi] at bc
 have hhw : w.heap.size ≤ hi := by rw [hhi]; exact O.size
 have bp := hOt.lt
 refine Xa (Qg (q := decide ((k : Int) < (ms.length : Int))) ag au Z Z (Xb (Xq (X0 Z (fun am => ?_) (fun am => ?_)))))
 have bm := of_decide_eq_true am
 refine Xz (Xu (Xq (X9 (Xa (Xd (v := vi (k : Int)) ag Z ?_)))))
 obtain ⟨bk, br, bq, az, a8, a9⟩ := SlAt.at (TabAt.low ht O).1 (Yp (xg ms k))
 have bi := TabLen.at hlen (xg ms k)
 refine X3 Qc ar ag az a8 (by omega) (by omega) Z (Xr (vs := [vi (mAt ms k).t.kind, vi (mAt ms k).t.lab.s, vi (mAt ms k).t.lab.v, vi (mAt ms k).t.ve, vi (mAt ms k).t.num, .slice (mAt ms k).sa (mAt ms k).t.slots.length (mAt ms k).sc, .slice (mAt ms k).qa (mAt ms k).t.queue.length (mAt ms k).qc, vi (mAt ms k).t.to]) Ys Z Z (Y2 a9 0 8 Z) Z (Yf (cs := #[vi 0, vi 0, vi 0, vi 0, vi 0, .slice none 0 0, .slice none 0 0, vi 0]) Ka Z Z ?_))
 intro ba bu E
 have bh := Yd E O
 have be : hi ≤ ba := nt (Nat.le_of_eq hhi) (Nat.le_of_eq E.eq.symm)
 have ao := Xo E (ah).lt
 refine Xe (v := vi (k : Int)) Z Z (Xy (vs := [vi (mAt ms k).t.kind, vi (mAt ms k).t.lab.s, vi (mAt ms k).t.lab.v, vi (mAt ms k).t.ve, vi (mAt ms k).t.num, .slice (mAt ms k).sa (mAt ms k).t.slots.length (mAt ms k).sc, .slice (mAt ms k).qa (mAt ms k).t.queue.length (mAt ms k).qc, vi (mAt ms k).t.to]) (cs' := #[vi (mAt ms k).t.kind, vi (mAt ms k).t.lab.s, vi (mAt ms k).t.lab.v, vi (mAt ms k).t.ve, vi (mAt ms k).t.num, .slice (mAt ms k).sa (mAt ms k).t.slots.length (mAt ms k).sc, .slice (mAt ms k).qa (mAt ms k).t.queue.length (mAt ms k).qc, vi (mAt ms k).t.to]) Ys Z Z Z (by simp [Value.oneCell']) E.blk (Nat.le_of_ble_eq_true Z) Z ?_)
 intro bv J
 have ac := low1 (low0 O E.grw) J.grw (by omega)
 refine Xb (X2 (Xd (v := .slice (pa G) ms.length ms.length) al Z (Xd (v := vi (k : Int)) Z Z (Xr (vs := [vi (mAt ms k).t.kind, vi (mAt ms k).t.lab.s, vi (mAt ms k).t.lab.v, vi (mAt ms k).t.ve, vi (mAt ms k).t.num, .slice (mAt ms k).sa (mAt ms k).t.slots.length (mAt ms k).sc, .slice (mAt ms k).qa (mAt ms k).t.queue.length (mAt ms k).qc, vi (mAt ms k).t.to]) Ys Z Z (J.blk.rangeL 0 8 Z) Z (Xn Xcr (Xf Z Xm) Z (P7 _ (mAt ms k) (TabAt.th (TabAt.low ht ac) (xg ms k)) (by omega)) ?_)))))
 rintro _ bw ⟨aj, V, ak, ab, rfl, an, av, af⟩
 refine X4 (o' := k * 8) Qc Z Z (by omega) (by omega) (by omega) Z ?_
 have ai := (((ah.grown0 E.grw).gn J.grw).grown0 af)
 refine Qy (g := MTh.cells) (z' := (⟨⟨(mAt ms k).t.kind, (mAt ms k).t.lab, (mAt ms k).t.ve, (mAt ms k).t.num, (mAt ms k).t.slots, (mAt ms k).t.queue, (mAt ms k).t.to⟩, aj, V, ak, ab⟩ : MTh)) Ys Z Z (Ke _) Yj ai (by omega) Z ?_
 intro bg aw ad
 have ap : RowsO 33 3 w.heap.size bg (zs.set k (⟨⟨(mAt ms k).t.kind, (mAt ms k).t.lab, (mAt ms k).t.ve, (mAt ms k).t.num, (mAt ms k).t.slots, (mAt ms k).t.queue, (mAt ms k).t.to⟩, aj, V, ak, ab⟩ : MTh)) := RowsO.setn (RowsO.own (RowsO.low (RowsO.typB (RowsO.low hRO E.grw) J.grw E.blk (by decide) (by decide)) af) ad ai (by decide) (by decide)) (lq k zs.length) ⟨(OwnN.mono (OwnN.typ (OwnN.mono an ac.size) ad ai (by decide)) (Nat.le_refl _)), (OwnN.mono (OwnN.typ (OwnN.mono av ac.size) ad ai (by decide)) (Nat.le_refl _))⟩ bc (fun S e => (Hr (OwnN.mono an (nt (nt (Nat.le_of_eq hhi) E.grw.size) J.grw.size)) e).2)
 exact Xb (Y3 (Xu (X2 (Yl (c := (k : Int) + 1) ag Z (by omega) (by omega) (by omega) Z (Xd (v := vi ((k : Int) + 1)) Z Z (Xb (Xu (⟨ms.length - (k + 1), by omega, (k + 1), ct, (zs.set k (⟨⟨(mAt ms k).t.kind, (mAt ms k).t.lab, (mAt ms k).t.ve, (mAt ms k).t.num, (mAt ms k).t.slots, (mAt ms k).t.queue, (mAt ms k).t.to⟩, aj, V, ak, ab⟩ : MTh)), Z, (by omega), (by rw [List.length_set]; exact hzl), hct, (Pj hzt (by omega) (by omega) Z), ap, Z, bb, al, ar, au, (low1 (low0 ac af) ad (by omega)), aw⟩))))))))
 have bn := of_decide_eq_false am
 refine Qf (Y9 (Y9 (Jh (Xu (Xa (Xd (v := .slice (pa G) ms.length ms.length) al Z (Xe (v := .slice (pa G) ms.length ms.length) Z Z (Xb (Xt ?_)))))))))
 refine ⟨.slice (pa G) ms.length ms.length, Yt Z Z, G, ct, zs, by rw [hzl, hct], Pk hzt (by omega) (by omega), aq, ah, hRO, O⟩
end Go.Proofs.YtlhhijnmacogcaaGreatDoor
end
section
namespace Go.Proofs.YtlhhijnmacogcaaGreatDoor
open Go.RowKit Go.Dw
set_option maxRecDepth 100000
set_option maxHeartbeats 4000000
set_option linter.unusedSimpArgs false
set_option linter.unusedVariables false
theorem Ux : arrTy Tryz.prog 114 = some (10, 83, 1) := by kernel_rfl
theorem Xai : goFn Tryz.prog 61 = true := by kernel_rfl
theorem Xc5 : goFn Tryz.prog 89 = true := by kernel_rfl
theorem Xc6 : goFn Tryz.prog 90 = true := by kernel_rfl
theorem Xc7 : goFn Tryz.prog 91 = true := by kernel_rfl
theorem Xc8 : goFn Tryz.prog 92 = true := by kernel_rfl
theorem Xc9 : goFn Tryz.prog 93 = true := by kernel_rfl
theorem Xda : goFn Tryz.prog 94 = true := by kernel_rfl
theorem Xdb : goFn Tryz.prog 95 = true := by kernel_rfl
theorem Xdc : goFn Tryz.prog 96 = true := by kernel_rfl
theorem Xdd : goFn Tryz.prog 97 = true := by kernel_rfl
theorem Gu : oneTy Tryz.prog 83 = true := by kernel_rfl
theorem U6 : rowTy Tryz.prog 114 = some 10 := by kernel_rfl
theorem Wb : zeroTy Tryz.prog 114 = some (.agg #[.nilFunc, .nilFunc, .nilFunc, .nilFunc, .nilFunc, .nilFunc, .nilFunc, .nilFunc, .nilFunc, .nilFunc]) := by kernel_rfl
theorem Xbz (w : World) : CallsR Tryz.prog 61 #[vi 1] w (fun v w' => v = .func (.func 89) #[] #[] ∧ w.grownBy w' none) := by
 refine Xx (n := 8) Tryz.func61 Z Tryz.ntmps61 Z ?_
 have J := World.grownBy.refl w none
 refine Xa (Xe (v := .nilFunc) Z Z (Xb (Xa (Yv (ps := [(1, .func (.func 89) #[] #[]), (2, .func (.func 90) #[] #[]), (3, .func (.func 91) #[] #[]), (4, .func (.func 92) #[] #[]), (5, .func (.func 93) #[] #[]), (6, .func (.func 94) #[] #[]), (7, .func (.func 95) #[] #[]), (8, .func (.func 96) #[] #[]), (9, .func (.func 97) #[] #[])]) (v := .agg #[.nilFunc, .func (.func 89) #[] #[], .func (.func 90) #[] #[], .func (.func 91) #[] #[], .func (.func 92) #[] #[], .func (.func 93) #[] #[], .func (.func 94) #[] #[], .func (.func 95) #[] #[], .func (.func 96) #[] #[], .func (.func 97) #[] #[]]) (Xk Z (Xk Z (Xk Z (Xk Z (Xk Z (Xk Z (Xk Z (Xk Z (Xk Z X5))))))))) (by kernel_rfl) Z (Yf (cs := #[.nilFunc, .nilFunc, .nilFunc, .nilFunc, .nilFunc, .nilFunc, .nilFunc, .nilFunc, .nilFunc, .nilFunc]) Wb Z Z ?_)))))
 intro V ab E
 have O := Yd E J
 refine Xy (vs := [.nilFunc, .func (.func 89) #[] #[], .func (.func 90) #[] #[], .func (.func 91) #[] #[], .func (.func 92) #[] #[], .func (.func 93) #[] #[], .func (.func 94) #[] #[], .func (.func 95) #[] #[], .func (.func 96) #[] #[], .func (.func 97) #[] #[]]) (cs' := #[.nilFunc, .func (.func 89) #[] #[], .func (.func 90) #[] #[], .func (.func 91) #[] #[], .func (.func 92) #[] #[], .func (.func 93) #[] #[], .func (.func 94) #[] #[], .func (.func 95) #[] #[], .func (.func 96) #[] #[], .func (.func 97) #[] #[]]) U6 Z Z Z (by simp [Value.oneCell']) E.blk (Nat.le_of_ble_eq_true Z) Z ?_
 intro ac G
 refine Xb (Xa (Xd (v := vi 1) Z Z (Qm (o' := 1) Ux Z Z (by decide) (by decide) Z Z (Xh (v := .func (.func 89) #[] #[]) Gu Z (G.blk.cell Z) Z (Xe (v := .func (.func 89) #[] #[]) Z Z (Xb (Xt (⟨.func (.func 89) #[] #[], Yt Z Z, ?_, (low1 (low0 J E.grw) G.grw (by omega))⟩))))))))
 rfl
theorem I4 (k : Int) (hk : decide (k = 1) = true) (w : World) : CallsR Tryz.prog 61 #[.int .i64 k] w (fun v w' => v = .func (.func 89) #[] #[] ∧ w.grownBy w' none) := by obtain rfl := of_decide_eq_true hk; exact Xbz w
theorem Xb0 (w : World) : CallsR Tryz.prog 61 #[vi 2] w (fun v w' => v = .func (.func 90) #[] #[] ∧ w.grownBy w' none) := by
 refine Xx (n := 8) Tryz.func61 Z Tryz.ntmps61 Z ?_
 have J := World.grownBy.refl w none
 refine Xa (Xe (v := .nilFunc) Z Z (Xb (Xa (Yv (ps := [(1, .func (.func 89) #[] #[]), (2, .func (.func 90) #[] #[]), (3, .func (.func 91) #[] #[]), (4, .func (.func 92) #[] #[]), (5, .func (.func 93) #[] #[]), (6, .func (.func 94) #[] #[]), (7, .func (.func 95) #[] #[]), (8, .func (.func 96) #[] #[]), (9, .func (.func 97) #[] #[])]) (v := .agg #[.nilFunc, .func (.func 89) #[] #[], .func (.func 90) #[] #[], .func (.func 91) #[] #[], .func (.func 92) #[] #[], .func (.func 93) #[] #[], .func (.func 94) #[] #[], .func (.func 95) #[] #[], .func (.func 96) #[] #[], .func (.func 97) #[] #[]]) (Xk Z (Xk Z (Xk Z (Xk Z (Xk Z (Xk Z (Xk Z (Xk Z (Xk Z X5))))))))) (by kernel_rfl) Z (Yf (cs := #[.nilFunc, .nilFunc, .nilFunc, .nilFunc, .nilFunc, .nilFunc, .nilFunc, .nilFunc, .nilFunc, .nilFunc]) Wb Z Z ?_)))))
 intro V ab E
 have O := Yd E J
 refine Xy (vs := [.nilFunc, .func (.func 89) #[] #[], .func (.func 90) #[] #[], .func (.func 91) #[] #[], .func (.func 92) #[] #[], .func (.func 93) #[] #[], .func (.func 94) #[] #[], .func (.func 95) #[] #[], .func (.func 96) #[] #[], .func (.func 97) #[] #[]]) (cs' := #[.nilFunc, .func (.func 89) #[] #[], .func (.func 90) #[] #[], .func (.func 91) #[] #[], .func (.func 92) #[] #[], .func (.func 93) #[] #[], .func (.func 94) #[] #[], .func (.func 95) #[] #[], .func (.func 96) #[] #[], .func (.func 97) #[] #[]]) U6 Z Z Z (by simp [Value.oneCell']) E.blk (Nat.le_of_ble_eq_true Z) Z ?_
 intro ac G
 refine Xb (Xa (Xd (v := vi 2) Z Z (Qm (o' := 2) Ux Z Z (by decide) (by decide) Z Z (Xh (v := .func (.func 90) #[] #[]) Gu Z (G.blk.cell Z) Z (Xe (v := .func (.func 90) #[] #[]) Z Z (Xb (Xt (⟨.func (.func 90) #[] #[], Yt Z Z, ?_, (low1 (low0 J E.grw) G.grw (by omega))⟩))))))))
 rfl
theorem I5 (k : Int) (hk : decide (k = 2) = true) (w : World) : CallsR Tryz.prog 61 #[.int .i64 k] w (fun v w' => v = .func (.func 90) #[] #[] ∧ w.grownBy w' none) := by obtain rfl := of_decide_eq_true hk; exact Xb0 w
theorem Xb1 (w : World) : CallsR Tryz.prog 61 #[vi 3] w (fun v w' => v = .func (.func 91) #[] #[] ∧ w.grownBy w' none) := by
 refine Xx (n := 8) Tryz.func61 Z Tryz.ntmps61 Z ?_
 have J := World.grownBy.refl w none
 refine Xa (Xe (v := .nilFunc) Z Z (Xb (Xa (Yv (ps := [(1, .func (.func 89) #[] #[]), (2, .func (.func 90) #[] #[]), (3, .func (.func 91) #[] #[]), (4, .func (.func 92) #[] #[]), (5, .func (.func 93) #[] #[]), (6, .func (.func 94) #[] #[]), (7, .func (.func 95) #[] #[]), (8, .func (.func 96) #[] #[]), (9, .func (.func 97) #[] #[])]) (v := .agg #[.nilFunc, .func (.func 89) #[] #[], .func (.func 90) #[] #[], .func (.func 91) #[] #[], .func (.func 92) #[] #[], .func (.func 93) #[] #[], .func (.func 94) #[] #[], .func (.func 95) #[] #[], .func (.func 96) #[] #[], .func (.func 97) #[] #[]]) (Xk Z (Xk Z (Xk Z (Xk Z (Xk Z (Xk Z (Xk Z (Xk Z (Xk Z X5))))))))) (by kernel_rfl) Z (Yf (cs := #[.nilFunc, .nilFunc, .nilFunc, .nilFunc, .nilFunc, .nilFunc, .nilFunc, .nilFunc, .nilFunc, .nilFunc]) Wb Z Z ?_)))))
 intro V ab E
 have O := Yd E J
 refine Xy (vs := [.nilFunc, .func (.func 89) #[] #[], .func (.func 90) #[] #[], .func (.func 91) #[] #[], .func (.func 92) #[] #[], .func (.func 93) #[] #[], .func (.func 94) #[] #[], .func (.func 95) #[] #[], .func (.func 96) #[] #[], .func (.func 97) #[] #[]]) (cs' := #[.nilFunc, .func (.func 89) #[] #[], .func (.func 90) #[] #[], .func (.func 91) #[] #[], .func (.func 92) #[] #[], .func (.func 93) #[] #[], .func (.func 94) #[] #[], .func (.func 95) #[] #[], .func (.func 96) #[] #[], .func (.func 97) #[] #[]]) U6 Z Z Z (by simp [Value.oneCell']) E.blk (Nat.le_of_ble_eq_true Z) Z ?_
 intro ac G
 refine Xb (Xa (Xd (v := vi 3) Z Z (Qm (o' := 3) Ux Z Z (by decide) (by decide) Z Z (Xh (v := .func (.func 91) #[] #[]) Gu Z (G.blk.cell Z) Z (Xe (v := .func (.func 91) #[] #[]) Z Z (Xb (Xt (⟨.func (.func 91) #[] #[], Yt Z Z, ?_, (low1 (low0 J E.grw) G.grw (by omega))⟩))))))))
 rfl
theorem I6 (k : Int) (hk : decide (k = 3) = true) (w : World) : CallsR Tryz.prog 61 #[.int .i64 k] w (fun v w' => v = .func (.func 91) #[] #[] ∧ w.grownBy w' none) := by obtain rfl := of_decide_eq_true hk; exact Xb1 w
theorem Xb2 (w : World) : CallsR Tryz.prog 61 #[vi 4] w (fun v w' => v = .func (.func 92) #[] #[] ∧ w.grownBy w' none) := by
 refine Xx (n := 8) Tryz.func61 Z Tryz.ntmps61 Z ?_
 have J := World.grownBy.refl w none
 refine Xa (Xe (v := .nilFunc) Z Z (Xb (Xa (Yv (ps := [(1, .func (.func 89) #[] #[]), (2, .func (.func 90) #[] #[]), (3, .func (.func 91) #[] #[]), (4, .func (.func 92) #[] #[]), (5, .func (.func 93) #[] #[]), (6, .func (.func 94) #[] #[]), (7, .func (.func 95) #[] #[]), (8, .func (.func 96) #[] #[]), (9, .func (.func 97) #[] #[])]) (v := .agg #[.nilFunc, .func (.func 89) #[] #[], .func (.func 90) #[] #[], .func (.func 91) #[] #[], .func (.func 92) #[] #[], .func (.func 93) #[] #[], .func (.func 94) #[] #[], .func (.func 95) #[] #[], .func (.func 96) #[] #[], .func (.func 97) #[] #[]]) (Xk Z (Xk Z (Xk Z (Xk Z (Xk Z (Xk Z (Xk Z (Xk Z (Xk Z X5))))))))) (by kernel_rfl) Z (Yf (cs := #[.nilFunc, .nilFunc, .nilFunc, .nilFunc, .nilFunc, .nilFunc, .nilFunc, .nilFunc, .nilFunc, .nilFunc]) Wb Z Z ?_)))))
 intro V ab E
 have O := Yd E J
 refine Xy (vs := [.nilFunc, .func (.func 89) #[] #[], .func (.func 90) #[] #[], .func (.func 91) #[] #[], .func (.func 92) #[] #[], .func (.func 93) #[] #[], .func (.func 94) #[] #[], .func (.func 95) #[] #[], .func (.func 96) #[] #[], .func (.func 97) #[] #[]]) (cs' := #[.nilFunc, .func (.func 89) #[] #[], .func (.func 90) #[] #[], .func (.func 91) #[] #[], .func (.func 92) #[] #[], .func (.func 93) #[] #[], .func (.func 94) #[] #[], .func (.func 95) #[] #[], .func (.func 96) #[] #[], .func (.func 97) #[] #[]]) U6 Z Z Z (by simp [Value.oneCell']) E.blk (Nat.le_of_ble_eq_true Z) Z ?_
 intro ac G
 refine Xb (Xa (Xd (v := vi 4) Z Z (Qm (o' := 4) Ux Z Z (by decide) (by decide) Z Z (Xh (v := .func (.func 92) #[] #[]) Gu Z (G.blk.cell Z) Z (Xe (v := .func (.func 92) #[] #[]) Z Z (Xb (Xt (⟨.func (.func 92) #[] #[], Yt Z Z, ?_, (low1 (low0 J E.grw) G.grw (by omega))⟩))))))))
 rfl
theorem I7 (k : Int) (hk : decide (k = 4) = true) (w : World) : CallsR Tryz.prog 61 #[.int .i64 k] w (fun v w' => v = .func (.func 92) #[] #[] ∧ w.grownBy w' none) := by obtain rfl := of_decide_eq_true hk; exact Xb2 w
theorem Xb3 (w : World) : CallsR Tryz.prog 61 #[vi 5] w (fun v w' => v = .func (.func 93) #[] #[] ∧ w.grownBy w' none) := by
 refine Xx (n := 8) Tryz.func61 Z Tryz.ntmps61 Z ?_
 have J := World.grownBy.refl w none
 refine Xa (Xe (v := .nilFunc) Z Z (Xb (Xa (Yv (ps := [(1, .func (.func 89) #[] #[]), (2, .func (.func 90) #[] #[]), (3, .func (.func 91) #[] #[]), (4, .func (.func 92) #[] #[]), (5, .func (.func 93) #[] #[]), (6, .func (.func 94) #[] #[]), (7, .func (.func 95) #[] #[]), (8, .func (.func 96) #[] #[]), (9, .func (.func 97) #[] #[])]) (v := .agg #[.nilFunc, .func (.func 89) #[] #[], .func (.func 90) #[] #[], .func (.func 91) #[] #[], .func (.func 92) #[] #[], .func (.func 93) #[] #[], .func (.func 94) #[] #[], .func (.func 95) #[] #[], .func (.func 96) #[] #[], .func (.func 97) #[] #[]]) (Xk Z (Xk Z (Xk Z (Xk Z (Xk Z (Xk Z (Xk Z (Xk Z (Xk Z X5))))))))) (by kernel_rfl) Z (Yf (cs := #[.nilFunc, .nilFunc, .nilFunc, .nilFunc, .nilFunc, .nilFunc, .nilFunc, .nilFunc, .nilFunc, .nilFunc]) Wb Z Z ?_)))))
 intro V ab E
 have O := Yd E J
 refine Xy (vs := [.nilFunc, .func (.func 89) #[] #[], .func (.func 90) #[] #[], .func (.func 91) #[] #[], .func (.func 92) #[] #[], .func (.func 93) #[] #[], .func (.func 94) #[] #[], .func (.func 95) #[] #[], .func (.func 96) #[] #[], .func (.func 97) #[] #[]]) (cs' := #[.nilFunc, .func (.func 89) #[] #[], .func (.func 90) #[] #[], .func (.func 91) #[] #[], .func (.func 92) #[] #[], .func (.func 93) #[] #[], .func (.func 94) #[] #[], .func (.func 95) #[] #[], .func (.func 96) #[] #[], .func (.func 97) #[] #[]]) U6 Z Z Z (by simp [Value.oneCell']) E.blk (Nat.le_of_ble_eq_true Z) Z ?_
 intro ac G
 refine Xb (Xa (Xd (v := vi 5) Z Z (Qm (o' := 5) Ux Z Z (by decide) (by decide) Z Z (Xh (v := .func (.func 93) #[] #[]) Gu Z (G.blk.cell Z) Z (Xe (v := .func (.func 93) #[] #[]) Z Z (Xb (Xt (⟨.func (.func 93) #[] #[], Yt Z Z, ?_, (low1 (low0 J E.grw) G.grw (by omega))⟩))))))))
 rfl
theorem I8 (k : Int) (hk : decide (k = 5) = true) (w : World) : CallsR Tryz.prog 61 #[.int .i64 k] w (fun v w' => v = .func (.func 93) #[] #[] ∧ w.grownBy w' none) := by obtain rfl := of_decide_eq_true hk; exact Xb3 w
theorem Xb4 (w : World) : CallsR Tryz.prog 61 #[vi 6] w (fun v w' => v = .func (.func 94) #[] #[] ∧ w.grownBy w' none) := by
 refine Xx (n := 8) Tryz.func61 Z Tryz.ntmps61 Z ?_
 have J := World.grownBy.refl w none
 refine Xa (Xe (v := .nilFunc) Z Z (Xb (Xa (Yv (ps := [(1, .func (.func 89) #[] #[]), (2, .func (.func 90) #[] #[]), (3, .func (.func 91) #[] #[]), (4, .func (.func 92) #[] #[]), (5, .func (.func 93) #[] #[]), (6, .func (.func 94) #[] #[]), (7, .func (.func 95) #[] #[]), (8, .func (.func 96) #[] #[]), (9, .func (.func 97) #[] #[])]) (v := .agg #[.nilFunc, .func (.func 89) #[] #[], .func (.func 90) #[] #[], .func (.func 91) #[] #[], .func (.func 92) #[] #[], .func (.func 93) #[] #[], .func (.func 94) #[] #[], .func (.func 95) #[] #[], .func (.func 96) #[] #[], .func (.func 97) #[] #[]]) (Xk Z (Xk Z (Xk Z (Xk Z (Xk Z (Xk Z (Xk Z (Xk Z (Xk Z X5))))))))) (by kernel_rfl) Z (Yf (cs := #[.nilFunc, .nilFunc, .nilFunc, .nilFunc, .nilFunc, .nilFunc, .nilFunc, .nilFunc, .nilFunc, .nilFunc]) Wb Z Z ?_)))))
 intro V ab E
 have O := Yd E J
 refine Xy (vs := [.nilFunc, .func (.func 89) #[] #[], .func (.func 90) #[] #[], .func (.func 91) #[] #[], .func (.func 92) #[] #[], .func (.func 93) #[] #[], .func (.func 94) #[] #[], .func (.func 95) #[] #[], .func (.func 96) #[] #[], .func (.func 97) #[] #[]]) (cs' := #[.nilFunc, .func (.func 89) #[] #[], .func (.func 90) #[] #[], .func (.func 91) #[] #[], .func (.func 92) #[] #[], .func (.func 93) #[] #[], .func (.func 94) #[] #[], .func (.func 95) #[] #[], .func (.func 96) #[] #[], .func (.func 97) #[] #[]]) U6 Z Z Z (by simp [Value.oneCell']) E.blk (Nat.le_of_ble_eq_true Z) Z ?_
 intro ac G
 refine Xb (Xa (Xd (v := vi 6) Z Z (Qm (o' := 6) Ux Z Z (by decide) (by decide) Z Z (Xh (v := .func (.func 94) #[] #[]) Gu Z (G.blk.cell Z) Z (Xe (v := .func (.func 94) #[] #[]) Z Z (Xb (Xt (⟨.func (.func 94) #[] #[], Yt Z Z, ?_, (low1 (low0 J E.grw) G.grw (by omega))⟩))))))))
 rfl
theorem I9 (k : Int) (hk : decide (k = 6) = true) (w : World) : CallsR Tryz.prog 61 #[.int .i64 k] w (fun v w' => v = .func (.func 94) #[] #[] ∧ w.grownBy w' none) := by obtain rfl := of_decide_eq_true hk; exact Xb4 w
theorem Xb5 (w : World) : CallsR Tryz.prog 61 #[vi 7] w (fun v w' => v = .func (.func 95) #[] #[] ∧ w.grownBy w' none) := by
 refine Xx (n := 8) Tryz.func61 Z Tryz.ntmps61 Z ?_
 have J := World.grownBy.refl w none
 refine Xa (Xe (v := .nilFunc) Z Z (Xb (Xa (Yv (ps := [(1, .func (.func 89) #[] #[]), (2, .func (.func 90) #[] #[]), (3, .func (.func 91) #[] #[]), (4, .func (.func 92) #[] #[]), (5, .func (.func 93) #[] #[]), (6, .func (.func 94) #[] #[]), (7, .func (.func 95) #[] #[]), (8, .func (.func 96) #[] #[]), (9, .func (.func 97) #[] #[])]) (v := .agg #[.nilFunc, .func (.func 89) #[] #[], .func (.func 90) #[] #[], .func (.func 91) #[] #[], .func (.func 92) #[] #[], .func (.func 93) #[] #[], .func (.func 94) #[] #[], .func (.func 95) #[] #[], .func (.func 96) #[] #[], .func (.func 97) #[] #[]]) (Xk Z (Xk Z (Xk Z (Xk Z (Xk Z (Xk Z (Xk Z (Xk Z (Xk Z X5))))))))) (by kernel_rfl) Z (Yf (cs := #[.nilFunc, .nilFunc, .nilFunc, .nilFunc, .nilFunc, .nilFunc, .nilFunc, .nilFunc, .nilFunc, .nilFunc]) Wb Z Z ?_)))))
 intro V ab E
 have O := Yd E J
 refine Xy (vs := [.nilFunc, .func (.func 89) #[] #[], .func (.func 90) #[] #[], .func (.func 91) #[] #[], .func (.func 92) #[] #[], .func (.func 93) #[] #[], .func (.func 94) #[] #[], .func (.func 95) #[] #[], .func (.func 96) #[] #[], .func (.func 97) #[] #[]]) (cs' := #[.nilFunc, .func (.func 89) #[] #[], .func (.func 90) #[] #[], .func (.func 91) #[] #[], .func (.func 92) #[] #[], .func (.func 93) #[] #[], .func (.func 94) #[] #[], .func (.func 95) #[] #[], .func (.func 96) #[] #[], .func (.func 97) #[] #[]]) U6 Z Z Z (by simp [Value.oneCell']) E.blk (Nat.le_of_ble_eq_true Z) Z ?_
 intro ac G
 refine Xb (Xa (Xd (v := vi 7) Z Z (Qm (o' := 7) Ux Z Z (by decide) (by decide) Z Z (Xh (v := .func (.func 95) #[] #[]) Gu Z (G.blk.cell Z) Z (Xe (v := .func (.func 95) #[] #[]) Z Z (Xb (Xt (⟨.func (.func 95) #[] #[], Yt Z Z, ?_, (low1 (low0 J E.grw) G.grw (by omega))⟩))))))))
 rfl
theorem Oa (k : Int) (hk : decide (k = 7) = true) (w : World) : CallsR Tryz.prog 61 #[.int .i64 k] w (fun v w' => v = .func (.func 95) #[] #[] ∧ w.grownBy w' none) := by obtain rfl := of_decide_eq_true hk; exact Xb5 w
theorem Xb6 (w : World) : CallsR Tryz.prog 61 #[vi 8] w (fun v w' => v = .func (.func 96) #[] #[] ∧ w.grownBy w' none) := by
 refine Xx (n := 8) Tryz.func61 Z Tryz.ntmps61 Z ?_
 have J := World.grownBy.refl w none
 refine Xa (Xe (v := .nilFunc) Z Z (Xb (Xa (Yv (ps := [(1, .func (.func 89) #[] #[]), (2, .func (.func 90) #[] #[]), (3, .func (.func 91) #[] #[]), (4, .func (.func 92) #[] #[]), (5, .func (.func 93) #[] #[]), (6, .func (.func 94) #[] #[]), (7, .func (.func 95) #[] #[]), (8, .func (.func 96) #[] #[]), (9, .func (.func 97) #[] #[])]) (v := .agg #[.nilFunc, .func (.func 89) #[] #[], .func (.func 90) #[] #[], .func (.func 91) #[] #[], .func (.func 92) #[] #[], .func (.func 93) #[] #[], .func (.func 94) #[] #[], .func (.func 95) #[] #[], .func (.func 96) #[] #[], .func (.func 97) #[] #[]]) (Xk Z (Xk Z (Xk Z (Xk Z (Xk Z (Xk Z (Xk Z (Xk Z (Xk Z X5))))))))) (by kernel_rfl) Z (Yf (cs := #[.nilFunc, .nilFunc, .nilFunc, .nilFunc, .nilFunc, .nilFunc, .nilFunc, .nilFunc, .nilFunc, .nilFunc]) Wb Z Z ?_)))))
 intro V ab E
 have O := Yd E J
 refine Xy (vs := [.nilFunc, .func (.func 89) #[] #[], .func (.func 90) #[] #[], .func (.func 91) #[] #[], .func (.func 92) #[] #[], .func (.func 93) #[] #[], .func (.func 94) #[] #[], .func (.func 95) #[] #[], .func (.func 96) #[] #[], .func (.func 97) #[] #[]]) (cs' := #[.nilFunc, .func (.func 89) #[] #[], .func (.func 90) #[] #[], .func (.func 91) #[] #[], .func (.func 92) #[] #[], .func (.func 93) #[] #[], .func (.func 94) #[] #[], .func (.func 95) #[] #[], .func (.func 96) #[] #[], .func (.func 97) #[] #[]]) U6 Z Z Z (by simp [Value.oneCell']) E.blk (Nat.le_of_ble_eq_true Z) Z ?_
 intro ac G
 refine Xb (Xa (Xd (v := vi 8) Z Z (Qm (o' := 8) Ux Z Z (by decide) (by decide) Z Z (Xh (v := .func (.func 96) #[] #[]) Gu Z (G.blk.cell Z) Z (Xe (v := .func (.func 96) #[] #[]) Z Z (Xb (Xt (⟨.func (.func 96) #[] #[], Yt Z Z, ?_, (low1 (low0 J E.grw) G.grw (by omega))⟩))))))))
 rfl
theorem Ob (k : Int) (hk : decide (k = 8) = true) (w : World) : CallsR Tryz.prog 61 #[.int .i64 k] w (fun v w' => v = .func (.func 96) #[] #[] ∧ w.grownBy w' none) := by obtain rfl := of_decide_eq_true hk; exact Xb6 w
theorem Xb7 (w : World) : CallsR Tryz.prog 61 #[vi 9] w (fun v w' => v = .func (.func 97) #[] #[] ∧ w.grownBy w' none) := by
 refine Xx (n := 8) Tryz.func61 Z Tryz.ntmps61 Z ?_
 have J := World.grownBy.refl w none
 refine Xa (Xe (v := .nilFunc) Z Z (Xb (Xa (Yv (ps := [(1, .func (.func 89) #[] #[]), (2, .func (.func 90) #[] #[]), (3, .func (.func 91) #[] #[]), (4, .func (.func 92) #[] #[]), (5, .func (.func 93) #[] #[]), (6, .func (.func 94) #[] #[]), (7, .func (.func 95) #[] #[]), (8, .func (.func 96) #[] #[]), (9, .func (.func 97) #[] #[])]) (v := .agg #[.nilFunc, .func (.func 89) #[] #[], .func (.func 90) #[] #[], .func (.func 91) #[] #[], .func (.func 92) #[] #[], .func (.func 93) #[] #[], .func (.func 94) #[] #[], .func (.func 95) #[] #[], .func (.func 96) #[] #[], .func (.func 97) #[] #[]]) (Xk Z (Xk Z (Xk Z (Xk Z (Xk Z (Xk Z (Xk Z (Xk Z (Xk Z X5))))))))) (by kernel_rfl) Z (Yf (cs := #[.nilFunc, .nilFunc, .nilFunc, .nilFunc, .nilFunc, .nilFunc, .nilFunc, .nilFunc, .nilFunc, .nilFunc]) Wb Z Z ?_)))))
 intro V ab E
 have O := Yd E J
 refine Xy (vs := [.nilFunc, .func (.func 89) #[] #[], .func (.func 90) #[] #[], .func (.func 91) #[] #[], .func (.func 92) #[] #[], .func (.func 93) #[] #[], .func (.func 94) #[] #[], .func (.func 95) #[] #[], .func (.func 96) #[] #[], .func (.func 97) #[] #[]]) (cs' := #[.nilFunc, .func (.func 89) #[] #[], .func (.func 90) #[] #[], .func (.func 91) #[] #[], .func (.func 92) #[] #[], .func (.func 93) #[] #[], .func (.func 94) #[] #[], .func (.func 95) #[] #[], .func (.func 96) #[] #[], .func (.func 97) #[] #[]]) U6 Z Z Z (by simp [Value.oneCell']) E.blk (Nat.le_of_ble_eq_true Z) Z ?_
 intro ac G
 refine Xb (Xa (Xd (v := vi 9) Z Z (Qm (o' := 9) Ux Z Z (by decide) (by decide) Z Z (Xh (v := .func (.func 97) #[] #[]) Gu Z (G.blk.cell Z) Z (Xe (v := .func (.func 97) #[] #[]) Z Z (Xb (Xt (⟨.func (.func 97) #[] #[], Yt Z Z, ?_, (low1 (low0 J E.grw) G.grw (by omega))⟩))))))))
 rfl
theorem Oc (k : Int) (hk : decide (k = 9) = true) (w : World) : CallsR Tryz.prog 61 #[.int .i64 k] w (fun v w' => v = .func (.func 97) #[] #[] ∧ w.grownBy w' none) := by obtain rfl := of_decide_eq_true hk; exact Xb7 w
theorem Xax (q : Cl) (r : Rt) (lo B cap : Nat) (ms : List MTh) (w : World) (hB : Dw.Own w B 39 8 cap ms.length (ms.flatMap MTh.cells)) (hR : RowsO 33 3 lo w ms) (hlo : lo ≤ B) (hi : Nat) (hH : HiO hi ms) (hBlt : B < hi) (hhi : hi ≤ w.heap.size) (hp : callPoss (tabT ms) q = true) (hr : slotAt (tabT ms) q.run q.a = r) (A : Nat) (hA : Blk w A 59 #[.slice (pa B) ms.length cap, vi q.kind, vi q.run, vi q.a, vi q.b, vi q.n, vi r.th, vi r.ve, vb r.rd, vb r.wr, vb r.wk]) (hAhi : hi ≤ A) : CallsR Tryz.prog 91 #[pt A 0] w (fun v w' => ∃ ms' : List MTh, v = vi 0 ∧ ms'.length = ms.length ∧ Dw.Own w' B 39 8 cap ms'.length (ms'.flatMap MTh.cells) ∧ RowsO 33 3 lo w' ms' ∧ tabT ms' = putSl (tabT ms) q.run q.b (lessBits r q.n) ∧ KeepsI lo hi [39, 33, 3] w w') := by
 refine Xx (n := 34) Tryz.func91 Z Tryz.ntmps91 Z ?_
 have am : KeepsI lo hi [39, 33, 3] w w := KeepsI.refl w
 have hlow : lo ≤ w.heap.size := by omega
 obtain ⟨hT, hc, hk⟩ := Yw hp
 have hco := Yx hc
 have hkp := (Qe hk).1
 have h4 := Qt hT hk
 have hml := Jk hT
 have hTL := TabLen.ok hT
 have hck := Kh (tabT ms) q
 have hrok : rightOk r = true := by rw [← hr]; exact (Kx hT (k := q.run) (by rw [Y5]; exact hkp) q.a).1
 have hrk := V4 hrok
 refine Xa (Xe (v := vi 0) Z Z (Xb (Xa (Xd (v := pt A 0) Z Z (Xs Z Z (Xc (o' := 1) Kf Z Z Z (Xc (o' := 5) Js Z Z Z (Xh (v := vi q.n) X1 Z (hA.cell Z) Z (Xe (v := vi q.n) Z Z (Xb (Xq ?_)))))))))))
 obtain ⟨an, E, ac, V⟩ := RowsO.slot hR (lq (q.run - 1).toNat ms.length) (by omega)
 have ak := hH _ (List.mem_of_getElem? (xg ms (q.run - 1).toNat)) _ (Or.inl E)
 have al := K9 hB V (by decide)
 refine Yy (m := 24) (vals := [(9, pt A 0), (10, pt B ((q.run - 1).toNat * 8)), (11, pt B ((q.run - 1).toNat * 8)), (12, pt B ((q.run - 1).toNat * 8 + 5)), (13, .slice (mAt ms (q.run - 1).toNat).sa (mAt ms (q.run - 1).toNat).t.slots.length (mAt ms (q.run - 1).toNat).sc), (14, pt A 0), (15, pt A 0), (16, pt A 1), (17, pt A 4), (18, vi q.b), (19, pt A 0), (20, pt A 0), (21, pt A 6), (22, .agg #[vi r.th, vi r.ve, vb r.rd, vb r.wr, vb r.wk]), (23, vi q.n), (24, vi (bits .and .i64 q.n 1)), (25, vb (!(decide (bits .and .i64 q.n 1 = 0)))), (26, vi q.n), (27, vi (bits .and .i64 q.n 2)), (28, vb (!(decide (bits .and .i64 q.n 2 = 0)))), (29, vi q.n), (30, vi (bits .and .i64 q.n 4)), (31, vb (!(decide (bits .and .i64 q.n 4 = 0)))), (32, .agg #[vi (l2Less r (!(decide (bits .and .i64 q.n 1 = 0))) (!(decide (bits .and .i64 q.n 2 = 0))) (!(decide (bits .and .i64 q.n 4 = 0)))).th, vi (l2Less r (!(decide (bits .and .i64 q.n 1 = 0))) (!(decide (bits .and .i64 q.n 2 = 0))) (!(decide (bits .and .i64 q.n 4 = 0)))).ve, vb (l2Less r (!(decide (bits .and .i64 q.n 1 = 0))) (!(decide (bits .and .i64 q.n 2 = 0))) (!(decide (bits .and .i64 q.n 4 = 0)))).rd, vb (l2Less r (!(decide (bits .and .i64 q.n 1 = 0))) (!(decide (bits .and .i64 q.n 2 = 0))) (!(decide (bits .and .i64 q.n 4 = 0)))).wr, vb (l2Less r (!(decide (bits .and .i64 q.n 1 = 0))) (!(decide (bits .and .i64 q.n 2 = 0))) (!(decide (bits .and .i64 q.n 4 = 0)))).wk])]) (fun w' => w.grownBy w' none) Yz (by kernel_rfl) (X8 _) ?_ ?_
 refine yl Z (fun _ _ k => Xd (v := pt A 0) Z Z k) ?_
 refine Qh Z (fun ao O => ?_) ?_
 refine Xn Rh (Xf Z Xm) Z (Uq q r B cap _ _ (hB.grown0 O) (by first | omega | (simp only [List.length_set, Yb]; omega)) A (hA.grown0 O) (by first | omega | (simp only [List.length_set, Yb]; omega))) ?_
 rintro _ ap ⟨rfl, ae⟩
 exact Xb ⟨Z, (grown_trans O ae)⟩
 refine yl Z (fun _ _ k => Xs Z Z k) (yl Z (fun _ _ k => Xc (o' := (q.run - 1).toNat * 8 + 5) Qj Z Z Z k) (yl Z (fun _ ag k => Xh (v := .slice (mAt ms (q.run - 1).toNat).sa (mAt ms (q.run - 1).toNat).t.slots.length (mAt ms (q.run - 1).toNat).sc) Jd Z ((Own.range Yj (hB.grown0 ag) (xg ms (q.run - 1).toNat)) 5 _ Z) Z k) (yl Z (fun _ _ k => Xd (v := pt A 0) Z Z k) (yl Z (fun _ _ k => Xs Z Z k) (yl Z (fun _ _ k => Xc (o' := 1) Kf Z Z Z k) (yl Z (fun _ _ k => Xc (o' := 4) Vo Z Z Z k) (yl Z (fun _ ah k => Xh (v := vi q.b) X1 Z ((hA.grown0 ah).cell Z) Z k) (yl Z (fun _ _ k => Xd (v := pt A 0) Z Z k) (yl Z (fun _ _ k => Xs Z Z k) (yl Z (fun _ _ k => Xc (o' := 6) Gl Z Z Z k) ?_))))))))))
 refine yl Z (fun _ ai k => Xr (vs := [vi r.th, vi r.ve, vb r.rd, vb r.wr, vb r.wk]) Y0 Z Z ((hA.grown0 ai).rangeL 6 5 Z) Z k) (yl Z (fun _ _ k => Xd (v := vi q.n) Z Z k) (yl Z (fun _ _ k => Ko (u := vi q.n) (u' := vi 1) (v := vi (bits .and .i64 q.n 1)) Z Z (by rw [binOp_and, intBits_and]; rfl) (fun _ _ => eqGuard_at_int ..) Z k) (yl Z (fun _ _ k => Q1 (q := !(decide (bits .and .i64 q.n 1 = 0))) Z Z Z Z k) (yl Z (fun _ _ k => Xd (v := vi q.n) Z Z k) (yl Z (fun _ _ k => Ko (u := vi q.n) (u' := vi 2) (v := vi (bits .and .i64 q.n 2)) Z Z (by rw [binOp_and, intBits_and]; rfl) (fun _ _ => eqGuard_at_int ..) Z k) (yl Z (fun _ _ k => Q1 (q := !(decide (bits .and .i64 q.n 2 = 0))) Z Z Z Z k) (yl Z (fun _ _ k => Xd (v := vi q.n) Z Z k) (yl Z (fun _ _ k => Ko (u := vi q.n) (u' := vi 4) (v := vi (bits .and .i64 q.n 4)) Z Z (by rw [binOp_and, intBits_and]; rfl) (fun _ _ => eqGuard_at_int ..) Z k) (yl Z (fun _ _ k => Q1 (q := !(decide (bits .and .i64 q.n 4 = 0))) Z Z Z Z k) ?_)))))))))
 refine Qh Z (fun aq aj => ?_) ?_
 refine Xn F4 (Xf Z (Xf Z (Xf Z (Xf Z Xm)))) Z (Gn r (!(decide (bits .and .i64 q.n 1 = 0))) (!(decide (bits .and .i64 q.n 2 = 0))) (!(decide (bits .and .i64 q.n 4 = 0))) _) ?_
 rintro _ ar ⟨rfl, af⟩
 exact Xb ⟨congrArg (up _ 32) (congrArg (fun z : Rt => (.agg #[vi z.th, vi z.ve, vb z.rd, vb z.wr, vb z.wk] : Value)) (Uf (r := r) (a := !(decide (bits .and .i64 q.n 1 = 0))) (b := !(decide (bits .and .i64 q.n 2 = 0))) (c := !(decide (bits .and .i64 q.n 4 = 0))) hrok)), (grown_trans aj af)⟩
 exact Y8
 intro au G
 refine X3 J9 Z Z E (Nat.zero_add _) (by omega) (by omega) Z ?_
 have ab := (V.grown0 G)
 refine Qy (g := Rt.cells) (z' := (l2Less r (!(decide (bits .and .i64 q.n 1 = 0))) (!(decide (bits .and .i64 q.n 2 = 0))) (!(decide (bits .and .i64 q.n 4 = 0))))) Y0 Z Z (Vf _) Qx ab (by omega) Z ?_
 intro av ad J
 exact Xb (Xu (Xa (Xe (v := vi 0) Z Z (Xb (Xt (⟨vi 0, Yt Z Z, putT ms (q.run - 1).toNat (q.b).toNat (l2Less r (!(decide (bits .and .i64 q.n 1 = 0))) (!(decide (bits .and .i64 q.n 2 = 0))) (!(decide (bits .and .i64 q.n 4 = 0)))), Z, by first | rfl | exact Yb, (Vt (i := (q.run - 1).toNat) (j := (q.b).toNat) (x := (l2Less r (!(decide (bits .and .i64 q.n 1 = 0))) (!(decide (bits .and .i64 q.n 2 = 0))) (!(decide (bits .and .i64 q.n 4 = 0))))) ((hB.grown0 G).gn J) (by omega)), (RowsO.put (RowsO.low hR G) (lq (q.run - 1).toNat ms.length) E ac ab Z ad J (by decide)), by rw [Gz, Im (by omega)], (KeepsI.own (KeepsI.low am G) J ab (by decide) (by omega) (by omega))⟩))))))
theorem Xbv (q : Cl) (r : Rt) (lo B cap : Nat) (ms : List MTh) (w : World) (hB : Dw.Own w B 39 8 cap ms.length (ms.flatMap MTh.cells)) (hR : RowsO 33 3 lo w ms) (hlo : lo ≤ B) (hi : Nat) (hH : HiO hi ms) (hBlt : B < hi) (hhi : hi ≤ w.heap.size) (hp : callPoss (tabT ms) q = true) (hr : slotAt (tabT ms) q.run q.a = r) (A : Nat) (hA : Blk w A 59 #[.slice (pa B) ms.length cap, vi q.kind, vi q.run, vi q.a, vi q.b, vi q.n, vi r.th, vi r.ve, vb r.rd, vb r.wr, vb r.wk]) (hAhi : hi ≤ A) (c : Int) (G : c = check1 (tabT ms) q) (h0 : decide (c = 0) = false) : CallsR Tryz.prog 37 #[pt A 0, vi c] w (fun v w' => ∃ ms' : List MTh, v = vi (doAns (tabT ms) q) ∧ ms'.length = ms.length ∧ Dw.Own w' B 39 8 cap ms'.length (ms'.flatMap MTh.cells) ∧ RowsO 33 3 lo w' ms' ∧ tabT ms' = doPre (tabT ms) q ∧ KeepsI lo hi [39, 33, 3] w w') := by
 refine Xx (n := 55) Tryz.func37 Z Tryz.ntmps37 Z ?_
 have E : KeepsI lo hi [39, 33, 3] w w := KeepsI.refl w
 have hlow : lo ≤ w.heap.size := by omega
 obtain ⟨hT, hc, hk⟩ := Yw hp
 have hco := Yx hc
 have hkp := (Qe hk).1
 have h4 := Qt hT hk
 have hml := Jk hT
 have hTL := TabLen.ok hT
 have hck := Kh (tabT ms) q
 have hrok : rightOk r = true := by rw [← hr]; exact (Kx hT (k := q.run) (by rw [Y5]; exact hkp) q.a).1
 have hrk := V4 hrok
 refine Xa (Xe (v := vi 0) Z Z (Xb (Xq (Xa (Xd (v := vi c) Z Z (Q1 (q := !(decide (c = 0))) Z Z Z Z (Xb (Qa Z (J7 h0) (Xa (Xd (v := vi c) Z Z (Xe (v := vi c) Z Z (Xb ?_))))))))))))
 refine Xt (Yk ?_)
 have he := U0 (ts := tabT ms) (q := q) (show check1 (tabT ms) q < 0 by have := of_decide_eq_false h0; omega)
 exact ⟨vi c, Yt Z Z, ms, by rw [he.1]; rw [← G], Z, hB, hR, by rw [he.2], E⟩
theorem Xbu (q : Cl) (r : Rt) (lo B cap : Nat) (ms : List MTh) (w : World) (hB : Dw.Own w B 39 8 cap ms.length (ms.flatMap MTh.cells)) (hR : RowsO 33 3 lo w ms) (hlo : lo ≤ B) (hi : Nat) (hH : HiO hi ms) (hBlt : B < hi) (hhi : hi ≤ w.heap.size) (hp : callPoss (tabT ms) q = true) (hr : slotAt (tabT ms) q.run q.a = r) (A : Nat) (hA : Blk w A 59 #[.slice (pa B) ms.length cap, vi q.kind, vi q.run, vi q.a, vi q.b, vi q.n, vi r.th, vi r.ve, vb r.rd, vb r.wr, vb r.wk]) (hAhi : hi ≤ A) (c : Int) (ah : c = check1 (tabT ms) q) (h0 : decide (c = 0) = true) (h3 : decide (q.kind = 3) = true) : CallsR Tryz.prog 37 #[pt A 0, vi c] w (fun v w' => ∃ ms' : List MTh, v = vi (doAns (tabT ms) q) ∧ ms'.length = ms.length ∧ Dw.Own w' B 39 8 cap ms'.length (ms'.flatMap MTh.cells) ∧ RowsO 33 3 lo w' ms' ∧ tabT ms' = doPre (tabT ms) q ∧ KeepsI lo hi [39, 33, 3] w w') := by
 refine Xx (n := 55) Tryz.func37 Z Tryz.ntmps37 Z ?_
 have ae : KeepsI lo hi [39, 33, 3] w w := KeepsI.refl w
 have hlow : lo ≤ w.heap.size := by omega
 obtain ⟨hT, hc, hk⟩ := Yw hp
 have hco := Yx hc
 have hkp := (Qe hk).1
 have h4 := Qt hT hk
 have hml := Jk hT
 have hTL := TabLen.ok hT
 have hck := Kh (tabT ms) q
 have hrok : rightOk r = true := by rw [← hr]; exact (Kx hT (k := q.run) (by rw [Y5]; exact hkp) q.a).1
 have hrk := V4 hrok
 refine Xa (Xe (v := vi 0) Z Z (Xb (Xq (Xa (Xd (v := vi c) Z Z (Q1 (q := !(decide (c = 0))) Z Z Z Z (Xb (Y4 Z (Ks h0) (Xz (Xu (Xq (Xa ?_))))))))))))
 refine Xd (v := pt A 0) Z Z (Xs Z Z (Xc (o' := 1) Kf Z Z Z (Xc (o' := 1) Ji Z Z Z (Xh (v := vi q.kind) X1 Z (hA.cell Z) Z (X6 (q := decide (q.kind = 3)) Z Z Z Z (Xb (Qa Z h3 (Xa (Xn Xai (Xf Z Xm) Z (I6 3 (by decide) _) ?_)))))))))
 rintro _ af ⟨rfl, E⟩
 have G := KeepsI.low ae E
 refine Xd (v := pt A 0) Z Z (Nu (vs := [pt A 0]) (cs := []) Xc7 Z (Xf Z Xm) Z (Xax q r lo B cap ms _ (hB.grown0 E) (RowsO.low hR E) hlo hi hH hBlt (nt hhi G.size) hp hr A (hA.grown0 E) hAhi) ?_)
 rintro _ ag ⟨ad, rfl, ac, ab, O, J, V⟩
 refine Xe (v := vi 0) Z Z (Xb (Xt (Yk ?_)))
 have he := Gh (ts := tabT ms) (q := q) hr (of_decide_eq_true h3)
 exact ⟨vi 0, Yt Z Z, ad, by rw [he.1], ac, ab, O, by rw [he.2]; exact J, (KeepsI.trans G V)⟩
theorem Wk (q : Cl) (r : Rt) (lo B cap : Nat) (ms : List MTh) (w : World) (hB : Dw.Own w B 39 8 cap ms.length (ms.flatMap MTh.cells)) (hR : RowsO 33 3 lo w ms) (hlo : lo ≤ B) (hi : Nat) (hH : HiO hi ms) (hBlt : B < hi) (hhi : hi ≤ w.heap.size) (hp : callPoss (tabT ms) q = true) (hr : slotAt (tabT ms) q.run q.a = r) (A : Nat) (hA : Blk w A 59 #[.slice (pa B) ms.length cap, vi q.kind, vi q.run, vi q.a, vi q.b, vi q.n, vi r.th, vi r.ve, vb r.rd, vb r.wr, vb r.wk]) (hAhi : hi ≤ A) (c : Int) (bj : c = check1 (tabT ms) q) (h0 : decide (c = 0) = true) (h3 : decide (q.kind = 3) = false) (F : Nat) (hgo : goFn Tryz.prog F = true) (hstep : ∀ w1 : World, CallsR Tryz.prog 61 #[vi q.kind] w1 (fun v w' => v = .func (.func F) #[] #[] ∧ w1.grownBy w' none)) (hact : ∀ w1 : World, Dw.Own w1 B 39 8 cap ms.length (ms.flatMap MTh.cells) → RowsO 33 3 lo w1 ms → hi ≤ w1.heap.size → FarOk (tabT ms) q r → Blk w1 A 59 #[.slice (pa B) ms.length cap, vi q.kind, vi q.run, vi q.a, vi q.b, vi q.n, vi r.th, vi r.ve, vb r.rd, vb r.wr, vb r.wk] → CallsR Tryz.prog F #[pt A 0] w1 (fun v w' => ∃ ms' : List MTh, v = vi (far (tabT ms) q r).2 ∧ ms'.length = ms.length ∧ Dw.Own w' B 39 8 cap ms'.length (ms'.flatMap MTh.cells) ∧ RowsO 33 3 lo w' ms' ∧ tabT ms' = (far (tabT ms) q r).1 ∧ KeepsI lo hi [39, 33, 3] w1 w')) : CallsR Tryz.prog 37 #[pt A 0, vi c] w (fun v w' => ∃ ms' : List MTh, v = vi (doAns (tabT ms) q) ∧ ms'.length = ms.length ∧ Dw.Own w' B 39 8 cap ms'.length (ms'.flatMap MTh.cells) ∧ RowsO 33 3 lo w' ms' ∧ tabT ms' = doPre (tabT ms) q ∧ KeepsI lo hi [39, 33, 3] w w') := by
 refine Xx (n := 55) Tryz.func37 Z Tryz.ntmps37 Z ?_
 have bd : KeepsI lo hi [39, 33, 3] w w := KeepsI.refl w
 have hlow : lo ≤ w.heap.size := by omega
 obtain ⟨hT, hc, hk⟩ := Yw hp
 have hco := Yx hc
 have hkp := (Qe hk).1
 have h4 := Qt hT hk
 have hml := Jk hT
 have hTL := TabLen.ok hT
 have hck := Kh (tabT ms) q
 have hrok : rightOk r = true := by rw [← hr]; exact (Kx hT (k := q.run) (by rw [Y5]; exact hkp) q.a).1
 have hrk := V4 hrok
 refine Xa (Xe (v := vi 0) Z Z (Xb (Xq (Xa (Xd (v := vi c) Z Z (Q1 (q := !(decide (c = 0))) Z Z Z Z (Xb (Y4 Z (Ks h0) (Xz (Xu (Xq (Xa ?_))))))))))))
 refine Xd (v := pt A 0) Z Z (Xs Z Z (Xc (o' := 1) Kf Z Z Z (Xc (o' := 1) Ji Z Z Z (Xh (v := vi q.kind) X1 Z (hA.cell Z) Z (X6 (q := decide (q.kind = 3)) Z Z Z Z (Xb (Y4 Z h3 (Xz (Xu (Xq (Xq (Yy (m := 8) (vals := [(19, pt A 0), (20, pt A 0), (21, pt A 0), (22, .slice (pa B) ms.length cap), (23, pt A 0), (24, pt A 0), (25, pt A 6), (26, .agg #[vi r.th, vi r.ve, vb r.rd, vb r.wr, vb r.wk])]) (fun w' => w.grownBy w' none) Yz (by kernel_rfl) (X8 _) ?_ ?_))))))))))))
 exact yl Z (fun _ _ k => Xd (v := pt A 0) Z Z k) (yl Z (fun _ _ k => Xs Z Z k) (yl Z (fun _ _ k => Xc (o' := 0) Wz Z Z Z k) (yl Z (fun _ au k => Xh (v := .slice (pa B) ms.length cap) Ue Z ((hA.grown0 au).cell Z) Z k) (yl Z (fun _ _ k => Xd (v := pt A 0) Z Z k) (yl Z (fun _ _ k => Xs Z Z k) (yl Z (fun _ _ k => Xc (o' := 6) Gl Z Z Z k) (yl Z (fun _ av k => Xr (vs := [vi r.th, vi r.ve, vb r.rd, vb r.wr, vb r.wk]) Y0 Z Z ((hA.grown0 av).rangeL 6 5 Z) Z k) Y8)))))))
 intro be G
 have J := (RowsO.low hR G)
 have an := (hB.grown0 G)
 refine Xn Ia (Xf Z (Xf Z Xm)) Z (Wm r (by omega) _ ms _ _ (RowsO.tab J an) hTL (by omega)) ?_
 rintro _ bc ⟨rfl, E⟩
 have aj := KeepsI.low (KeepsI.low bd G) E
 refine Yn (b' := !live (tabT ms) r) Z Z Z (Xb (Xu (X0 Z (fun af => ?_) (fun af => ?_))))
 have a9 := Jr af
 refine Xa (Xe (v := vi 0) Z Z (Xb (Xt (Yk ?_))))
 have he := Gi (ts := tabT ms) (q := q) (by have := of_decide_eq_true h0; omega) (of_decide_eq_false h3) (by rw [hr]; exact a9)
 exact ⟨vi 0, Yt Z Z, ms, by rw [he.1], Z, (an.grown0 E), (RowsO.low J E), by rw [he.2], aj⟩
 have ag := Q3 af
 have hF : FarOk (tabT ms) q r := by rw [← hr]; exact Gk hp (by have := of_decide_eq_true h0; omega) (of_decide_eq_false h3) (by rw [hr]; exact ag)
 have hth := hF.th
 rw [Y5] at hth
 refine Xz (Xu (Xq (Yy (m := 14) (vals := [(29, pt A 0), (30, pt A 0), (31, pt A 0), (32, .slice (pa B) ms.length cap), (33, pt A 0), (34, pt A 0), (35, pt A 1), (36, pt A 2), (37, vi q.run), (38, pt A 0), (39, pt A 0), (40, pt A 6), (41, pt A 6), (42, vi r.th)]) (fun w' => bc.grownBy w' none) Yz (by kernel_rfl) (X8 _) ?_ ?_)))
 refine yl Z (fun _ _ k => Xd (v := pt A 0) Z Z k) (yl Z (fun _ _ k => Xs Z Z k) (yl Z (fun _ _ k => Xc (o' := 0) Wz Z Z Z k) (yl Z (fun _ aw k => Xh (v := .slice (pa B) ms.length cap) Ue Z ((((hA.grown0 G).grown0 E).grown0 aw).cell Z) Z k) (yl Z (fun _ _ k => Xd (v := pt A 0) Z Z k) (yl Z (fun _ _ k => Xs Z Z k) (yl Z (fun _ _ k => Xc (o' := 1) Kf Z Z Z k) (yl Z (fun _ _ k => Xc (o' := 2) Q5 Z Z Z k) (yl Z (fun _ az k => Xh (v := vi q.run) X1 Z ((((hA.grown0 G).grown0 E).grown0 az).cell Z) Z k) (yl Z (fun _ _ k => Xd (v := pt A 0) Z Z k) (yl Z (fun _ _ k => Xs Z Z k) ?_))))))))))
 exact yl Z (fun _ _ k => Xc (o' := 6) Gl Z Z Z k) (yl Z (fun _ _ k => Xc (o' := 6) Yo Z Z Z k) (yl Z (fun _ a8 k => Xh (v := vi r.th) X1 Z ((((hA.grown0 G).grown0 E).grown0 a8).cell Z) Z k) Y8))
 intro bf ab
 have ad := (RowsO.low (RowsO.low J E) ab)
 have ap := ((an.grown0 E).grown0 ab)
 refine Xn Xaa (Xf Z (Xf Z (Xf Z Xm))) Z (Hi q.run r.th _ ms _ _ (RowsO.tab ad ap) hTL (by omega) hT (by omega) (by omega)) ?_
 rintro _ bg ⟨rfl, O⟩
 refine Xe (v := vb (sees (tabT ms) q.run r.th)) Z Z (Xb (Xu (Xa (Xd (v := pt A 0) Z Z (Xs Z Z (Xc (o' := 1) Kf Z Z Z (Xc (o' := 1) Ji Z Z Z ?_)))))))
 have aq := ((((hA.grown0 G).grown0 E).grown0 ab).grown0 O)
 refine Xh (v := vi q.kind) X1 Z (aq.cell Z) Z (Xn Xai (Xf Z Xm) Z (hstep _) ?_)
 rintro _ bh ⟨rfl, V⟩
 have ak := KeepsI.low (KeepsI.low (KeepsI.low aj ab) O) V
 refine Xd (v := pt A 0) Z Z (Nu (vs := [pt A 0]) (cs := []) hgo Z (Xf Z Xm) Z (hact _ ((ap.grown0 O).grown0 V) (RowsO.low (RowsO.low ad O) V) (nt hhi ak.size) hF (aq.grown0 V)) ?_)
 rintro _ bi ⟨ao, rfl, am, ai, ae, ac, ar⟩
 have al := KeepsI.trans ak ar
 refine Xe (v := vi (far (tabT ms) q r).2) Z Z (Xb (Xq (Xa (Xd (v := vb (sees (tabT ms) q.run r.th)) Z Z (Yn (b' := !sees (tabT ms) q.run r.th) Z Z Z (Xb (X0 Z (fun ah => ?_) (fun ah => ?_))))))))
 have ba := Jr ah
 refine Xa (Xe (v := vi 0) Z Z (Xb (Xt (Yk ?_))))
 have he := Ua (ts := tabT ms) (q := q) hr (by have := of_decide_eq_true h0; omega) (of_decide_eq_false h3) ag hF
 rw [if_neg (by rw [ba]; exact Bool.false_ne_true)] at he
 exact ⟨vi 0, Yt Z Z, ao, by rw [he.1], am, ai, ae, by rw [he.2]; exact ac, al⟩
 have bb := Q3 ah
 refine Xz (Xu (Xa (Xd (v := vi (far (tabT ms) q r).2) Z Z (Xe (v := vi (far (tabT ms) q r).2) Z Z (Xb (Xt ?_))))))
 have he := Ua (ts := tabT ms) (q := q) hr (by have := of_decide_eq_true h0; omega) (of_decide_eq_false h3) ag hF
 rw [if_pos bb] at he
 exact ⟨vi (far (tabT ms) q r).2, Yt Z Z, ao, by rw [he.1], am, ai, ae, by rw [he.2]; exact ac, al⟩
theorem T5 (q : Cl) (r : Rt) (lo B cap : Nat) (ms : List MTh) (w : World) (hB : Dw.Own w B 39 8 cap ms.length (ms.flatMap MTh.cells)) (hR : RowsO 33 3 lo w ms) (hlo : lo ≤ B) (hi : Nat) (hH : HiO hi ms) (hBlt : B < hi) (hhi : hi ≤ w.heap.size) (hp : callPoss (tabT ms) q = true) (hr : slotAt (tabT ms) q.run q.a = r) (A : Nat) (hA : Blk w A 59 #[.slice (pa B) ms.length cap, vi q.kind, vi q.run, vi q.a, vi q.b, vi q.n, vi r.th, vi r.ve, vb r.rd, vb r.wr, vb r.wk]) (hAhi : hi ≤ A) (c : Int) (ab : c = check1 (tabT ms) q) : CallsR Tryz.prog 37 #[pt A 0, vi c] w (fun v w' => ∃ ms' : List MTh, v = vi (doAns (tabT ms) q) ∧ ms'.length = ms.length ∧ Dw.Own w' B 39 8 cap ms'.length (ms'.flatMap MTh.cells) ∧ RowsO 33 3 lo w' ms' ∧ tabT ms' = doPre (tabT ms) q ∧ KeepsI lo hi [39, 33, 3] w w') := by
 by_cases e0 : c = 0
 have h0 : decide (c = 0) = true := decide_eq_true e0
 by_cases e3 : q.kind = 3
 exact Xbu q r lo B cap ms w hB hR hlo hi hH hBlt hhi hp hr A hA hAhi c ab h0 (decide_eq_true e3)
 have h3 : decide (q.kind = 3) = false := decide_eq_false e3
 have hco := Yx (Yw hp).2.1
 rcases (show q.kind = 1 ∨ q.kind = 2 ∨ q.kind = 4 ∨ q.kind = 5 ∨ q.kind = 6 ∨ q.kind = 7 ∨ q.kind = 8 ∨ q.kind = 9 by omega) with h | h | h | h | h | h | h | h
 exact Wk q r lo B cap ms w hB hR hlo hi hH hBlt hhi hp hr A hA hAhi c ab h0 h3 89 Xc5 (fun w1 => I4 _ (decide_eq_true h) w1) (fun w1 G O V J E => Xav q r lo B cap ms w1 G O hlo hi hH hBlt V J A E hAhi (decide_eq_true h))
 exact Wk q r lo B cap ms w hB hR hlo hi hH hBlt hhi hp hr A hA hAhi c ab h0 h3 90 Xc6 (fun w1 => I5 _ (decide_eq_true h) w1) (fun w1 G O V J E => Xaw q r lo B cap ms w1 G O hlo hi hH hBlt V J A E hAhi (decide_eq_true h))
 exact Wk q r lo B cap ms w hB hR hlo hi hH hBlt hhi hp hr A hA hAhi c ab h0 h3 92 Xc8 (fun w1 => I7 _ (decide_eq_true h) w1) (fun w1 G O V J E => Xay q r lo B cap ms w1 G O hlo hi hH hBlt V J A E hAhi (decide_eq_true h))
 exact Wk q r lo B cap ms w hB hR hlo hi hH hBlt hhi hp hr A hA hAhi c ab h0 h3 93 Xc9 (fun w1 => I8 _ (decide_eq_true h) w1) (fun w1 G O V J E => Xaz q r lo B cap ms w1 G O hlo hi hH hBlt V J A E hAhi (decide_eq_true h))
 exact Wk q r lo B cap ms w hB hR hlo hi hH hBlt hhi hp hr A hA hAhi c ab h0 h3 94 Xda (fun w1 => I9 _ (decide_eq_true h) w1) (fun w1 G O V J E => Xa4 q r lo B cap ms w1 G O hlo hi hH hBlt V J A E hAhi (decide_eq_true h))
 exact Wk q r lo B cap ms w hB hR hlo hi hH hBlt hhi hp hr A hA hAhi c ab h0 h3 95 Xdb (fun w1 => Oa _ (decide_eq_true h) w1) (fun w1 G O V J E => Xa9 q r lo B cap ms w1 G O hlo hi hH hBlt V J A E hAhi (decide_eq_true h))
 exact Wk q r lo B cap ms w hB hR hlo hi hH hBlt hhi hp hr A hA hAhi c ab h0 h3 96 Xdc (fun w1 => Ob _ (decide_eq_true h) w1) (fun w1 G O V J E => Xba q r lo B cap ms w1 G O hlo hi hH hBlt V J A E hAhi (decide_eq_true h))
 exact Wk q r lo B cap ms w hB hR hlo hi hH hBlt hhi hp hr A hA hAhi c ab h0 h3 97 Xdd (fun w1 => Oc _ (decide_eq_true h) w1) (fun w1 G O V J E => Xbb q r lo B cap ms w1 G O hlo hi hH hBlt V J A E hAhi (decide_eq_true h))
 exact Xbv q r lo B cap ms w hB hR hlo hi hH hBlt hhi hp hr A hA hAhi c ab (decide_eq_false e0)
end Go.Proofs.YtlhhijnmacogcaaGreatDoor
end
section
namespace Go.Proofs.YtlhhijnmacogcaaGreatDoor
open Go.RowKit Go.Dw
set_option maxRecDepth 100000
set_option maxHeartbeats 4000000
set_option linter.unusedSimpArgs false
set_option linter.unusedVariables false
theorem Z4 : goFn Tryz.prog 22 = true := by kernel_rfl
theorem Xck : goFn Tryz.prog 33 = true := by kernel_rfl
theorem Xcl : goFn Tryz.prog 34 = true := by kernel_rfl
theorem Xcm : goFn Tryz.prog 36 = true := by kernel_rfl
theorem Xcn : goFn Tryz.prog 37 = true := by kernel_rfl
theorem Uk (q : Cl) (w : World) (ms : List MTh) (a : Option Addr) (c : Nat) (ht : TabAt w a ms) (hlen : TabLen ms) (hn : ms.length ≤ 1048576) (hE : ErrT w) : CallsR Tryz.prog 17 #[.slice a ms.length c, .agg #[vi q.kind, vi q.run, vi q.a, vi q.b, vi q.n]] w (fun v w' => ∃ (z : Option Addr) (cap : Nat) (xs : List MTh), v = .tuple #[.slice z xs.length cap, vi (callDo (tabT ms) q).2] ∧ TabG w.heap.size w' (z) xs ∧ tabT xs = (callDo (tabT ms) q).1 ∧ w.grownBy w' none) := by
 refine Xx (n := 43) Tryz.func17 Z Tryz.ntmps17 Z ?_
 have f8 := World.grownBy.refl w none
 refine Xa (Y7 (v := .agg #[vi q.kind, vi q.run, vi q.a, vi q.b, vi q.n]) (cs := #[vi q.kind, vi q.run, vi q.a, vi q.b, vi q.n]) Z Z Z ?_)
 intro au gx ac
 have gh := Yd ac f8
 have bd := low0 f8 ac.grw
 refine Xe (v := .slice none 0 0) Z Z (Xe (v := vi 0) Z Z (Xb (Xq (Xa (Xd (v := .slice a ms.length c) Z Z (Xr (vs := [vi q.kind, vi q.run, vi q.a, vi q.b, vi q.n]) Y6 Z Z (ac.blk.rangeL 0 5 Z) Z (Xn Z7 (Xf Z (Xf Z Xm)) Z (H2 q _ ms _ _ (TabAt.low ht bd) hlen (by omega)) ?_)))))))
 rintro _ ct ⟨rfl, ad⟩
 have af := low0 bd ad
 refine Yn (b' := !callPoss (tabT ms) q) Z Z Z (Xb (X0 Z (fun ba => ?_) (fun ba => ?_)))
 have fz := Jr ba
 refine Xa (Xe (v := .slice none 0 0) Z Z (Xe (v := vi (-1)) Z Z (Xb (Xt (Yk ?_)))))
 rw [Wx fz]
 exact ⟨.tuple #[.slice none 0 0, vi (-1)], Gv Z Z Z, none, 0, [], Z, TabG.nil, Z, af⟩
 have av := Q3 ba
 obtain ⟨ao, c8, az⟩ := Yw av
 have gf := Yx c8
 have gg := (Qe az).1
 have gr := Qt ao az
 have gp := Jk ao
 refine Xz (Xu (Xq ?_))
 obtain ⟨cd, gv, bp, cy, dk, dn⟩ := SlAt.at (TabAt.low ht af).1 (Yp (xg ms (q.run - 1).toNat))
 have gj := TabLen.at hlen (xg ms (q.run - 1).toNat)
 obtain ⟨du, gw, ga, cz, dl, dp⟩ := SlAt.at (TabAt.th (TabAt.low ht af) (xg ms (q.run - 1).toNat)).1 (Yp (xr (mAt ms (q.run - 1).toNat).t.slots (q.a).toNat))
 have gq := Us ao (lq (q.run - 1).toNat ms.length) (lq (q.a).toNat (mAt ms (q.run - 1).toNat).t.slots.length)
 refine Qv (m := 14) [[], [0], [], [], [], [4], [4, 5], [3, 4, 5, 6], [3, 4, 5, 6, 7], [3, 4, 5, 6, 7, 8], [], [10], [3, 4, 5, 6, 7, 8, 9, 10, 11], [3, 4, 5, 6, 7, 8, 9, 10, 11, 12], [0, 1, 2, 3, 4, 5, 6, 7, 8, 9, 10, 11, 12, 13], [0, 1, 2, 3, 4, 5, 6, 7, 8, 9, 10, 11, 12, 13, 14], [0, 1, 2, 3, 4, 5, 6, 7, 8, 9, 10, 11, 12, 13, 14, 15]] (fun S F w' => ∃ (O : Nat) (E : Nat) (G : List MTh), ct.grownBy w' none ∧ F 0 = .slice a ms.length c ∧ F 3 = pt au 0 ∧ F 4 = .slice none 0 0 ∧ F 5 = vi 0 ∧ (S 1 = true → F 13 = .slice (pa O) G.length E ∧ w.heap.size ≤ O ∧ Dw.Own w' O 39 8 E G.length (G.flatMap MTh.cells) ∧ tabT G = tabT ms ∧ G.length = ms.length ∧ RowsO 33 3 w.heap.size w' G ∧ au < O ∧ ct.heap.size ≤ O) ∧ Vals S F [(0, 12, .slice a ms.length c), (2, 14, .agg #[vi q.kind, vi q.run, vi q.a, vi q.b, vi q.n]), (3, 15, .slice a ms.length c), (4, 16, pt au 1), (5, 17, vi q.run), (6, 18, vi (q.run - 1)), (7, 19, pt cd bp), (8, 20, pt cd (bp + 5)), (9, 21, .slice (mAt ms (q.run - 1).toNat).sa (mAt ms (q.run - 1).toNat).t.slots.length (mAt ms (q.run - 1).toNat).sc), (10, 22, pt au 2), (11, 23, vi q.a), (12, 24, pt du ga), (13, 25, .agg #[vi (rAt (mAt ms (q.run - 1).toNat).t.slots (q.a).toNat).th, vi (rAt (mAt ms (q.run - 1).toNat).t.slots (q.a).toNat).ve, vb (rAt (mAt ms (q.run - 1).toNat).t.slots (q.a).toNat).rd, vb (rAt (mAt ms (q.run - 1).toNat).t.slots (q.a).toNat).wr, vb (rAt (mAt ms (q.run - 1).toNat).t.slots (q.a).toNat).wk])]) Yz (by kernel_rfl) ⟨0, 0, [], X8 _, Z, Z, Z, Z, Ym, J2 _⟩ ?_ ?_
 refine Xi (fun S F gy hS hbef hcl hI => ?_) ?_
 obtain ⟨O, E, G, da, ce, dv, dw, dx, V, hvs⟩ := hI
 exact Xd (v := .slice a ms.length c) ce Z (Xb ⟨O, E, G, da, ce, dv, dw, dx, Xv 1 hS hcl Z, Vals.up 0 hvs Z Z Z⟩)
 refine Xi (fun S F gz hS hbef hcl hI => ?_) ?_
 obtain ⟨O, E, G, al, dy, dz, d0, d1, V, hvs⟩ := hI
 have ap := low0 af al
 refine Xn Xcm (Xf (Vals.at 0 hvs Z (Xl 0 hbef Z)) Xm) Z (P6 _ ms _ _ (TabAt.low ht ap) hlen (by omega)) ?_
 rintro _ g0 ⟨dt, bu, dr, rfl, bf, ak, cv, bv, c9⟩
 have ca := nt ap.size ak
 have ah := nl (((ac.blk.grown0 ad).grown0 al)).lt ak
 have cc := Hm bf
 exact Xb ⟨dt, bu, dr, (low0 al c9), dy, dz, d0, d1, fun _ => ⟨Z, ca, cv, bf, cc, (RowsO.mono bv ap.size), ah, (nt al.size ak)⟩, Vals.keep hvs Z⟩
 refine Xi (fun S F g5 hS hbef hcl hI => ?_) ?_
 obtain ⟨O, E, G, bg, d2, cf, d3, d4, V, hvs⟩ := hI
 exact Xr (vs := [vi q.kind, vi q.run, vi q.a, vi q.b, vi q.n]) Y6 cf Z (((ac.blk.grown0 ad).grown0 bg).rangeL 0 5 Z) Z (Xb ⟨O, E, G, bg, d2, cf, d3, d4, V, Vals.up 1 hvs Z Z Z⟩)
 refine Xi (fun S F g6 hS hbef hcl hI => ?_) ?_
 obtain ⟨O, E, G, db, cg, d5, d6, d7, V, hvs⟩ := hI
 exact Xd (v := .slice a ms.length c) cg Z (Xb ⟨O, E, G, db, cg, d5, d6, d7, V, Vals.up 2 hvs Z Z Z⟩)
 refine Xi (fun S F g7 hS hbef hcl hI => ?_) ?_
 obtain ⟨O, E, G, dc, d8, cj, d9, ea, V, hvs⟩ := hI
 exact Xc (o' := 1) Q5 cj Z Z (Xb ⟨O, E, G, dc, d8, cj, d9, ea, V, Vals.up 3 hvs Z Z Z⟩)
 refine Xi (fun S F g8 hS hbef hcl hI => ?_) ?_
 obtain ⟨O, E, G, bh, eb, ed, ee, ef, V, hvs⟩ := hI
 exact Xh (v := vi q.run) X1 (Vals.at 3 hvs Z (Xl 4 hbef Z)) (((ac.blk.grown0 ad).grown0 bh).cell Z) Z (Xb ⟨O, E, G, bh, eb, ed, ee, ef, V, Vals.up 4 hvs Z Z Z⟩)
 refine Xi (fun S F g9 hS hbef hcl hI => ?_) ?_
 obtain ⟨O, E, G, de, eg, eh, ei, ej, V, hvs⟩ := hI
 exact Yr (c := q.run - 1) (Vals.at 4 hvs Z (Xl 5 hbef Z)) Z (by omega) (by omega) (by omega) Z (Xb ⟨O, E, G, de, eg, eh, ei, ej, V, Vals.up 5 hvs Z Z Z⟩)
 refine Xi (fun S F ia hS hbef hcl hI => ?_) ?_
 obtain ⟨O, E, G, df, ek, em, eo, ep, V, hvs⟩ := hI
 exact X3 Qc (Vals.at 2 hvs Z (Xl 3 hbef Z)) (Vals.at 5 hvs Z (Xl 6 hbef Z)) cy dk (by omega) (by omega) Z (Xb ⟨O, E, G, df, ek, em, eo, ep, V, Vals.up 6 hvs Z Z Z⟩)
 refine Xi (fun S F ib hS hbef hcl hI => ?_) ?_
 obtain ⟨O, E, G, dg, eu, ew, ez, e0, V, hvs⟩ := hI
 exact Xc (o' := bp + 5) Qj (Vals.at 6 hvs Z (Xl 7 hbef Z)) Z Z (Xb ⟨O, E, G, dg, eu, ew, ez, e0, V, Vals.up 7 hvs Z Z Z⟩)
 refine Xi (fun S F ic hS hbef hcl hI => ?_) ?_
 obtain ⟨O, E, G, bi, fa, fb, fc, fd, V, hvs⟩ := hI
 exact Xh (v := .slice (mAt ms (q.run - 1).toNat).sa (mAt ms (q.run - 1).toNat).t.slots.length (mAt ms (q.run - 1).toNat).sc) Jd (Vals.at 7 hvs Z (Xl 8 hbef Z)) ((Yi dn bi) 5 _ Z) Z (Xb ⟨O, E, G, bi, fa, fb, fc, fd, V, Vals.up 8 hvs Z Z Z⟩)
 refine Xi (fun S F ie hS hbef hcl hI => ?_) ?_
 obtain ⟨O, E, G, dh, fe, ck, ff, fg, V, hvs⟩ := hI
 exact Xc (o' := 2) Kr ck Z Z (Xb ⟨O, E, G, dh, fe, ck, ff, fg, V, Vals.up 9 hvs Z Z Z⟩)
 refine Xi (fun S F ig hS hbef hcl hI => ?_) ?_
 obtain ⟨O, E, G, bj, fh, fi, fj, fk, V, hvs⟩ := hI
 exact Xh (v := vi q.a) X1 (Vals.at 9 hvs Z (Xl 10 hbef Z)) (((ac.blk.grown0 ad).grown0 bj).cell Z) Z (Xb ⟨O, E, G, bj, fh, fi, fj, fk, V, Vals.up 10 hvs Z Z Z⟩)
 refine Xi (fun S F ii hS hbef hcl hI => ?_) ?_
 obtain ⟨O, E, G, di, fm, fo, fp, fq, V, hvs⟩ := hI
 exact X3 J9 (Vals.at 8 hvs Z (Xl 9 hbef Z)) (Vals.at 10 hvs Z (Xl 11 hbef Z)) cz dl (by omega) (by omega) Z (Xb ⟨O, E, G, di, fm, fo, fp, fq, V, Vals.up 11 hvs Z Z Z⟩)
 refine Xi (fun S F ij hS hbef hcl hI => ?_) ?_
 obtain ⟨O, E, G, bk, fr, ft, fu, fv, V, hvs⟩ := hI
 exact Xr (vs := [vi (rAt (mAt ms (q.run - 1).toNat).t.slots (q.a).toNat).th, vi (rAt (mAt ms (q.run - 1).toNat).t.slots (q.a).toNat).ve, vb (rAt (mAt ms (q.run - 1).toNat).t.slots (q.a).toNat).rd, vb (rAt (mAt ms (q.run - 1).toNat).t.slots (q.a).toNat).wr, vb (rAt (mAt ms (q.run - 1).toNat).t.slots (q.a).toNat).wk]) Y0 (Vals.at 11 hvs Z (Xl 12 hbef Z)) Z (Y2 (Yi dp bk) 0 5 Z) Z (Xb ⟨O, E, G, bk, fr, ft, fu, fv, V, Vals.up 12 hvs Z Z Z⟩)
 exact Jb
 intro S F ik hall hI
 obtain ⟨O, E, G, bl, fw, fx, gt, gu, V, hvs⟩ := hI
 have be := low0 af bl
 obtain ⟨fy, a8, an, ag, gk, aw, bq, f9⟩ := V (hall 1 (by decide))
 refine Yv (ps := [(0, .slice (pa O) G.length E), (1, .agg #[vi q.kind, vi q.run, vi q.a, vi q.b, vi q.n]), (2, .agg #[vi (rAt (mAt ms (q.run - 1).toNat).t.slots (q.a).toNat).th, vi (rAt (mAt ms (q.run - 1).toNat).t.slots (q.a).toNat).ve, vb (rAt (mAt ms (q.run - 1).toNat).t.slots (q.a).toNat).rd, vb (rAt (mAt ms (q.run - 1).toNat).t.slots (q.a).toNat).wr, vb (rAt (mAt ms (q.run - 1).toNat).t.slots (q.a).toNat).wk])]) (v := .agg #[.slice (pa O) G.length E, vi q.kind, vi q.run, vi q.a, vi q.b, vi q.n, vi (rAt (mAt ms (q.run - 1).toNat).t.slots (q.a).toNat).th, vi (rAt (mAt ms (q.run - 1).toNat).t.slots (q.a).toNat).ve, vb (rAt (mAt ms (q.run - 1).toNat).t.slots (q.a).toNat).rd, vb (rAt (mAt ms (q.run - 1).toNat).t.slots (q.a).toNat).wr, vb (rAt (mAt ms (q.run - 1).toNat).t.slots (q.a).toNat).wk]) (Xk fy (Xk (Vals.at 1 hvs Z (hall 2 (by decide))) (Xk (Vals.at 12 hvs Z (hall 13 (by decide))) X5))) (by kernel_rfl) Z (Y7 (v := .agg #[.slice (pa O) G.length E, vi q.kind, vi q.run, vi q.a, vi q.b, vi q.n, vi (rAt (mAt ms (q.run - 1).toNat).t.slots (q.a).toNat).th, vi (rAt (mAt ms (q.run - 1).toNat).t.slots (q.a).toNat).ve, vb (rAt (mAt ms (q.run - 1).toNat).t.slots (q.a).toNat).rd, vb (rAt (mAt ms (q.run - 1).toNat).t.slots (q.a).toNat).wr, vb (rAt (mAt ms (q.run - 1).toNat).t.slots (q.a).toNat).wk]) (cs := #[.slice (pa O) G.length E, vi q.kind, vi q.run, vi q.a, vi q.b, vi q.n, vi (rAt (mAt ms (q.run - 1).toNat).t.slots (q.a).toNat).th, vi (rAt (mAt ms (q.run - 1).toNat).t.slots (q.a).toNat).ve, vb (rAt (mAt ms (q.run - 1).toNat).t.slots (q.a).toNat).rd, vb (rAt (mAt ms (q.run - 1).toNat).t.slots (q.a).toNat).wr, vb (rAt (mAt ms (q.run - 1).toNat).t.slots (q.a).toNat).wk]) Z Z Z ?_)
 intro ae il ab
 have gi := Yd ab be
 have cl := ((ac.blk.grown0 ad).grown0 bl)
 have br := Xo ab (cl).lt
 have bt := Xo ab (an).lt
 have aq := low0 be ab.grw
 have a9 : HiO ae G := by rw [ab.eq]; exact RowsO.hi aw
 refine Xe (v := pt ae 0) Z Z (Xb (Xu (Xa (Xd (v := pt ae 0) Z Z (Xd (v := .slice a ms.length c) fw Z (Xr (vs := [vi q.kind, vi q.run, vi q.a, vi q.b, vi q.n]) Y6 fx Z ((cl.grown0 ab.grw).rangeL 0 5 Z) Z (Xn Z4 (Xf Z (Xf Z Xm)) Z (Hb q _ ms _ _ (TabAt.low ht aq) hlen (by omega) (ErrT.grown0 hE aq)) ?_)))))))
 rintro _ im ⟨rfl, ai⟩
 have gc := W8 (ts := tabT ms) (q := q)
 have dm : callPoss (tabT G) q = true := by rw [ag]; exact av
 have dq : slotAt (tabT G) q.run q.a = (rAt (mAt ms (q.run - 1).toNat).t.slots (q.a).toNat) := by rw [ag]; exact Je.symm
 have bz : chkAll (tabT ms) q = check1 (tabT G) q := by rw [ag]; exact Jn av
 have cm := ((an.grown0 ab.grw).grown0 ai)
 have bn := (ab.blk.grown0 ai)
 have gl := (cm).lt
 have gm := (bn).lt
 refine Xn Xcn (Xf Z (Xf Z Xm)) Z (T5 q (rAt (mAt ms (q.run - 1).toNat).t.slots (q.a).toNat) w.heap.size O E G _ cm (RowsO.low (RowsO.low aw ab.grw) ai) a8 ae a9 (by omega) (by omega) dm dq ae bn (Nat.le_refl _) (chkAll (tabT ms) q) bz) ?_
 rintro _ io ⟨J, rfl, bm, bc, bw, am, bb⟩
 rw [ag] at am
 refine Xe (v := vi (doAns (tabT ms) q)) (congrArg (fun T : List Th => Value.int .i64 (doAns T q)) ag) Z (Xb (Xa (Xd (v := pt ae 0) Z Z ?_)))
 have cn := (Blk.keepsI bn bb (Or.inr (Or.inr (by decide))))
 refine Xn Rh (Xf Z Xm) Z (Uq q (rAt (mAt ms (q.run - 1).toNat).t.slots (q.a).toNat) O E J _ bc (by omega) ae (by rw [bm]; exact cn) (by omega)) ?_
 rintro _ ip ⟨rfl, aj⟩
 refine Xd (v := vi (doAns (tabT ms) q)) Z Z (Xs Z Z (Xc (o' := (q.run - 1).toNat * 8 + 4) Qw Z Z Z ?_))
 have co := (bc.grown0 aj)
 refine Q7 (g := MTh.cells) (j := 4) (z := (mAt J (q.run - 1).toNat)) (z' := (⟨⟨(mAt J (q.run - 1).toNat).t.kind, (mAt J (q.run - 1).toNat).t.lab, (mAt J (q.run - 1).toNat).t.ve, doAns (tabT ms) q, (mAt J (q.run - 1).toNat).t.slots, (mAt J (q.run - 1).toNat).t.queue, (mAt J (q.run - 1).toNat).t.to⟩, (mAt J (q.run - 1).toNat).sa, (mAt J (q.run - 1).toNat).sc, (mAt J (q.run - 1).toNat).qa, (mAt J (q.run - 1).toNat).qc⟩ : MTh)) (v := vi (doAns (tabT ms) q)) X1 Z Z Z Yj co (xg J (q.run - 1).toNat) (by omega) Z Z ?_
 intro gb cw ar
 have bx : RowsO 33 3 w.heap.size gb (J.set (q.run - 1).toNat (⟨⟨(mAt J (q.run - 1).toNat).t.kind, (mAt J (q.run - 1).toNat).t.lab, (mAt J (q.run - 1).toNat).t.ve, doAns (tabT ms) q, (mAt J (q.run - 1).toNat).t.slots, (mAt J (q.run - 1).toNat).t.queue, (mAt J (q.run - 1).toNat).t.to⟩, (mAt J (q.run - 1).toNat).sa, (mAt J (q.run - 1).toNat).sc, (mAt J (q.run - 1).toNat).qa, (mAt J (q.run - 1).toNat).qc⟩ : MTh)) := RowsO.set (RowsO.own (RowsO.low bw aj) ar co (by decide) (by decide)) (lq (q.run - 1).toNat J.length) ⟨rfl, rfl, rfl⟩ ⟨rfl, rfl, rfl⟩
 refine Xb (Xa (Xd (v := pt ae 0) Z Z (Xs Z Z (Xc (o' := 0) Wz Z Z Z (Xh (v := .slice (pa O) G.length E) Ue Z (((cn.grown0 aj).gn ar).cell Z) Z (Xd (v := vi (doAns (tabT ms) q)) Z Z (Xe (v := .slice (pa O) G.length E) Z Z (Xe (v := vi (doAns (tabT ms) q)) Z Z (Xb (Xt ?_))))))))))
 rw [Kb av, P8, Vp]
 refine ⟨.tuple #[.slice (pa O) G.length E, vi (doAns (tabT ms) q)], Gv Z Z Z, (pa O), E, J.set (q.run - 1).toNat (⟨⟨(mAt J (q.run - 1).toNat).t.kind, (mAt J (q.run - 1).toNat).t.lab, (mAt J (q.run - 1).toNat).t.ve, doAns (tabT ms) q, (mAt J (q.run - 1).toNat).t.slots, (mAt J (q.run - 1).toNat).t.queue, (mAt J (q.run - 1).toNat).t.to⟩, (mAt J (q.run - 1).toNat).sa, (mAt J (q.run - 1).toNat).sc, (mAt J (q.run - 1).toNat).qa, (mAt J (q.run - 1).toNat).qc⟩ : MTh), ?_, RowsO.tabG bx cw a8, ?_, (low1 (low0 (KeepsI.grown (low0 aq ai) bb (by omega)) aj) ar (by omega))⟩
 rw [List.length_set, bm]
 refine (L8 (n := doAns (tabT ms) q) Z).trans ?_
 rw [am]
theorem G7 (q : Cl) (w : World) (ms : List MTh) (a : Option Addr) (c : Nat) (ht : TabAt w a ms) (hlen : TabLen ms) (hn : ms.length ≤ 1048576) : CallsR Tryz.prog 16 #[.slice a ms.length c, .agg #[vi q.kind, vi q.run, vi q.a, vi q.b, vi q.n]] w (fun v w' => ∃ (B : Nat) (cap : Nat) (xs : List MTh), v = .tuple #[.slice (pa B) xs.length cap, vi (callDo (tabT ms) q).2] ∧ TabG w.heap.size w' (pa B) xs ∧ tabT xs = (callDo (tabT ms) q).1 ∧ w.grownBy w' none) := by
 refine Xx (n := 28) Tryz.func16 Z Tryz.ntmps16 Z ?_
 have eh := World.grownBy.refl w none
 refine Xa (Y7 (v := .agg #[vi q.kind, vi q.run, vi q.a, vi q.b, vi q.n]) (cs := #[vi q.kind, vi q.run, vi q.a, vi q.b, vi q.n]) Z Z Z ?_)
 intro bg ei ah
 have e0 := Yd ah eh
 have bf := low0 eh ah.grw
 refine Xe (v := .slice none 0 0) Z Z (Xe (v := vi 0) Z Z (Xb (Xq (Ya (fun f' w' => (f' 0 = .slice a ms.length c ∧ f' 3 = pt bg 0 ∧ f' 4 = .slice none 0 0 ∧ f' 5 = vi 0 ∧ f' 20 = vb (((!tableOk (tabT ms)) || (!callOk q)) || (!kindAt (tabT ms) q.run 3))) ∧ ei.grownBy w' none) ?_ ?_))))
 refine Xd (v := .slice a ms.length c) Z Z (Xn F7 (Xf Z Xm) Z (Gf  _ ms _ _ (TabAt.low ht bf) hlen (by omega)) ?_)
 rintro _ fx ⟨rfl, ap⟩
 refine Yn (b' := !tableOk (tabT ms)) Z Z Z (Xd (v := vb (!tableOk (tabT ms))) Z Z ?_)
 rcases Yg (!tableOk (tabT ms)) with ac | ac
 have ea := Jr ac
 iterate 3 refine Xj rfl rfl rfl ac rfl ?_
 refine Xw (v := vb true) Z ac Z Z (Xd (v := vb true) Z Z ?_)
 iterate 5 refine Xj rfl rfl rfl rfl rfl ?_
 exact Xw (v := vb true) Z Z Z Z (Xb ⟨⟨Z, Z, Z, Z, (cB (by simp [ac, ea]))⟩, ap⟩)
 have bx := Q3 ac
 refine Xg Z Z Z ac ?_
 have cc := (ah.blk.grown0 ap)
 refine Xr (vs := [vi q.kind, vi q.run, vi q.a, vi q.b, vi q.n]) Y6 Z Z (cc.rangeL 0 5 Z) Z (Xg Z Z Z ac (Xn Z6 (Xf Z Xm) Z (Nn q _) ?_))
 rintro _ fy ⟨rfl, a8⟩
 refine Xg Z Z Z ac (Yn (b' := !callOk q) Z Z Z (Xp (v := vb (!callOk q)) Z ac Z Z (Xd (v := vb (!callOk q)) Z Z ?_)))
 rcases Yg (!callOk q) with ab | ab
 have eb := Jr ab
 iterate 5 refine Xj rfl rfl rfl ab rfl ?_
 exact Xw (v := vb true) Z ab Z Z (Xb ⟨⟨Z, Z, Z, Z, (cB (by simp [ac, bx, ab, eb]))⟩, (grown_trans ap a8)⟩)
 have bz := Q3 ab
 have ew := Yx bz
 refine Xg Z Z Z ab (Xd (v := .slice a ms.length c) Z Z (Xg Z Z Z ab (Xc (o' := 1) Q5 Z Z Z (Xg Z Z Z ab (Xh (v := vi q.run) X1 Z ((cc.grown0 a8).cell Z) Z (Xg Z Z Z ab (Xn F8 (Xf Z (Xf Z Xm)) Z (Ld q.run (by omega) _ ms _ _ (TabAt.low ht (low0 (low0 bf ap) a8)) hlen (by omega)) ?_)))))))
 rintro _ fz ⟨rfl, cj⟩
 exact Xg Z Z Z ab (Yn (b' := !kindAt (tabT ms) q.run 3) Z Z Z (Xp (v := vb (!kindAt (tabT ms) q.run 3)) Z ab Z Z (Xb ⟨⟨Z, Z, Z, Z, (cB (by simp [ac, bx, ab, bz]))⟩, (grown_trans (grown_trans ap a8) cj)⟩)))
 rintro fu aw ⟨⟨c8, c9, da, db, dc⟩, a9⟩
 have ai := low0 bf a9
 refine X0 dc (fun av => ?_) (fun av => ?_)
 refine Xa (X7 (ps := []) (e := 39) (cs := (([] : List MTh).flatMap MTh.cells).toArray) X5 (fun _ => by kernel_rfl) Z ?_)
 intro bh f8 be
 have fa := Yd be ai
 have bn := Xo be ((ah.blk.grown0 a9)).lt
 refine Xe (v := .slice (pa bh) 0 0) Z Z (Xe (v := vi (-1)) Z Z (Xb (Xt (Yk ?_))))
 rw [Wx (Hf av)]
 exact ⟨.tuple #[.slice (pa bh) 0 0, vi (-1)], Gv Z Z Z, bh, 0, [], Z, TabG.nil, Z, (low0 ai be.grw)⟩
 have ca := Kl av
 have ed := Kl ca
 have fv := Q3 ed
 have ee := Km ca
 have ef := Q3 ee
 have ez := Yx ef
 have eg := Km av
 have fw := Q3 eg
 refine Xz (Xu (Xq (Qv (m := 6) [[], [0], [], [0, 1, 2], [0, 1, 2, 3], [0, 1, 2, 3], [0, 1, 2, 3, 4, 5], [0, 1, 2, 3, 4, 5, 6]] (fun S F w' => ∃ (O : Nat) (E : Nat) (G : List MTh) (J : List MTh), aw.grownBy w' none ∧ F 0 = .slice a ms.length c ∧ F 3 = pt bg 0 ∧ F 4 = .slice none 0 0 ∧ F 5 = vi 0 ∧ (S 0 = true → F 22 = .slice a ms.length c) ∧ (S 1 = true → F 23 = .slice (pa O) G.length E ∧ w.heap.size ≤ O ∧ (S 3 = false → Dw.Own w' O 39 8 E G.length (G.flatMap MTh.cells)) ∧ tabT G = tabT ms ∧ aw.heap.size ≤ O ∧ (S 3 = false → RowsO 33 3 aw.heap.size w' G) ∧ bg < O ∧ aw.heap.size ≤ O) ∧ (S 2 = true → F 24 = .agg #[vi q.kind, vi q.run, vi q.a, vi q.b, vi q.n]) ∧ (S 3 = true → F 25 = .tuple #[.slice (pa O) J.length E, vi (doCall (tabT G) q).2] ∧ J.length = G.length ∧ tabT J = (doCall (tabT G) q).1 ∧ Dw.Own w' O 39 8 E J.length (J.flatMap MTh.cells) ∧ RowsO 33 3 aw.heap.size w' J) ∧ (S 4 = true → F 26 = .slice (pa O) J.length E) ∧ (S 5 = true → F 27 = vi (doCall (tabT G) q).2)) Yz (by kernel_rfl) ⟨0, 0, [], [], X8 _, c8, c9, da, db, Ym, Ym, Ym, Ym, Ym, Ym⟩ ?_ ?_)))
 refine Xi (fun S F f9 hS hbef hcl hI => ?_) ?_
 obtain ⟨O, E, G, J, cl, bv, de, df, dg, ad, af, ae, an, bc, bd⟩ := hI
 exact Xd (v := .slice a ms.length c) bv Z (Xb ⟨O, E, G, J, cl, bv, de, df, dg, fun _ => Z, Xv 1 hS hcl Z, ae, Xv 3 hS hcl Z, Xv 4 hS hcl Z, Xv 5 hS hcl Z⟩)
 refine Xi (fun S F ga hS hbef hcl hI => ?_) ?_
 obtain ⟨O, E, G, J, aj, dh, di, dk, dl, ad, af, ae, an, bc, bd⟩ := hI
 have bi := low0 ai aj
 obtain dm := ad (Xl 0 hbef rfl)
 refine Xn Xcl (Xf dm Xm) Z (Ii _ ms _ _ (TabAt.low ht bi) hlen (by omega)) ?_
 rintro _ gb ⟨cz, bp, cy, rfl, cg, am, ce, bq, ck⟩
 have bu := nt bi.size am
 have au := nl (((ah.blk.grown0 a9).grown0 aj)).lt am
 have bt := nt aj.size am
 exact Xb ⟨cz, bp, cy, J, (low0 aj ck), dh, di, dk, dl, ad, fun _ => ⟨Z, bu, fun _ => ce, cg, bt, fun _ => (RowsO.mono bq aj.size), au, (nt aj.size am)⟩, ae, Xv 3 hS hcl Z, Xv 4 hS hcl Z, Xv 5 hS hcl Z⟩
 refine Xi (fun S F gc hS hbef hcl hI => ?_) ?_
 obtain ⟨O, E, G, J, bj, dn, bw, dp, dq, ad, af, ae, an, bc, bd⟩ := hI
 exact Xr (vs := [vi q.kind, vi q.run, vi q.a, vi q.b, vi q.n]) Y6 bw Z (((ah.blk.grown0 a9).grown0 bj).rangeL 0 5 Z) Z (Xb ⟨O, E, G, J, bj, dn, bw, dp, dq, ad, af, fun _ => Z, Xv 3 hS hcl Z, Xv 4 hS hcl Z, Xv 5 hS hcl Z⟩)
 refine Xi (fun S F gf hS hbef hcl hI => ?_) ?_
 obtain ⟨O, E, G, J, cm, dr, dt, du, dv, ad, af, ae, an, bc, bd⟩ := hI
 obtain fc := ad (Xl 0 hbef rfl)
 obtain ⟨dw, bb, ag, ao, ba, al, V, aq⟩ := af (Xl 1 hbef rfl)
 obtain dx := ae (Xl 2 hbef rfl)
 have cv : callPoss (tabT G) q = true := by rw [ao]; exact Uy av
 have fb := ai.size
 refine Xn Xck (Xf dw (Xf dx Xm)) Z (O4 q aw.heap.size O E G _ (ag hS) (al hS) (by omega) cv) ?_
 rintro _ gg ⟨cw, rfl, bl, cf, br, bm, cd⟩
 exact Xb ⟨O, E, G, cw, (KeepsI.grown cm cd (Nat.le_refl _)), dr, dt, du, dv, ad, fun h => let ⟨ej, ek, gk, em, eo, gl, ep, eu⟩ := af h; ⟨ej, ek, fun h => Jq h, em, eo, fun h => Jq h, ep, eu⟩, ae, fun _ => ⟨(congrArg (fun n : Nat => Value.tuple #[.slice (pa O) n E, vi (doCall (tabT G) q).2]) bl.symm), bl, bm, cf, br⟩, Xv 4 hS hcl Z, Xv 5 hS hcl Z⟩
 refine Xi (fun S F gh hS hbef hcl hI => ?_) ?_
 obtain ⟨O, E, G, J, cn, dy, dz, d0, d1, ad, af, ae, an, bc, bd⟩ := hI
 obtain fd := ad (Xl 0 hbef rfl)
 obtain ⟨fe, bb, ag, ao, ba, al, V, aq⟩ := af (Xl 1 hbef rfl)
 obtain ff := ae (Xl 2 hbef rfl)
 obtain ⟨d2, bk, ar, ak, az⟩ := an (Xl 3 hbef rfl)
 exact Ye (v := .slice (pa O) J.length E) d2 Z Z (Xb ⟨O, E, G, J, cn, dy, dz, d0, d1, ad, af, ae, an, fun _ => Z, bd⟩)
 refine Xi (fun S F gi hS hbef hcl hI => ?_) ?_
 obtain ⟨O, E, G, J, co, d3, d4, d5, d6, ad, af, ae, an, bc, bd⟩ := hI
 obtain fg := ad (Xl 0 hbef rfl)
 obtain ⟨fh, bb, ag, ao, ba, al, V, aq⟩ := af (Xl 1 hbef rfl)
 obtain fi := ae (Xl 2 hbef rfl)
 obtain ⟨d7, bk, ar, ak, az⟩ := an (Xl 3 hbef rfl)
 exact Ye (v := vi (doCall (tabT G) q).2) d7 Z Z (Xb ⟨O, E, G, J, co, d3, d4, d5, d6, ad, af, ae, an, bc, fun _ => Z⟩)
 exact Jb
 intro S F gj hall hI
 obtain ⟨O, E, G, J, ct, fj, fk, fm, fo, ad, af, ae, an, bc, bd⟩ := hI
 obtain fp := ad (hall 0 (by decide))
 obtain ⟨fq, bb, ag, ao, ba, al, V, aq⟩ := af (hall 1 (by decide))
 obtain fr := ae (hall 2 (by decide))
 obtain ⟨ft, bk, ar, ak, az⟩ := an (hall 3 (by decide))
 obtain d8 := bc (hall 4 (by decide))
 obtain d9 := bd (hall 5 (by decide))
 refine Xe (v := .slice (pa O) J.length E) d8 Z (Xe (v := vi (doCall (tabT G) q).2) d9 Z (Xb (Xu (Xt ?_))))
 rw [Kb (Uy av), ← ao]
 exact ⟨.tuple #[.slice (pa O) J.length E, vi (doCall (tabT G) q).2], Gv Z Z Z, O, E, J, Z, TabG.mono (RowsO.tabG az ak (by omega)) ai.size, ar, (low0 ai ct)⟩
end Go.Proofs.YtlhhijnmacogcaaGreatDoor
end
section
namespace Go.Proofs.YtlhhijnmacogcaaGreatDoor
open Go.RowKit Go.Dw
set_option maxRecDepth 100000
set_option maxHeartbeats 4000000
set_option linter.unusedSimpArgs false
set_option linter.unusedVariables false
theorem Rg : goFn Tryz.prog 23 = true := by kernel_rfl
theorem Xch : goFn Tryz.prog 25 = true := by kernel_rfl
theorem Xci : goFn Tryz.prog 26 = true := by kernel_rfl
theorem Z5 : goFn Tryz.prog 27 = true := by kernel_rfl
theorem Xcj : goFn Tryz.prog 29 = true := by kernel_rfl
theorem Uv (bs : List Int) (a : Option Addr) (c : Nat) (w : World) (d1 : SlAt w a 1 (bs.map bcell)) (hb : ∀ b ∈ bs, 0 ≤ b ∧ b ≤ 255) (hn : bs.length ≤ 1048576) (hc : bs.length ≤ c) : CallsR Tryz.prog 15 #[.slice a bs.length c] w (fun v w' => ∃ (B cap : Nat) (ms : List MTh) (q : Cl), v = .tuple #[.slice (pa B) ms.length cap, .agg #[vi q.kind, vi q.run, vi q.a, vi q.b, vi q.n]] ∧ TabG w.heap.size w' (pa B) ms ∧ Small ms ∧ (3 ≤ ms.length ∧ ms.length ≤ 8) ∧ ((0 ≤ q.kind ∧ q.kind ≤ 10) ∧ (1 ≤ q.run ∧ q.run ≤ (ms.length : Int)) ∧ (-1 ≤ q.a ∧ q.a ≤ 4) ∧ (0 ≤ q.b ∧ q.b ≤ 3) ∧ -1 ≤ q.n ∧ q.n ≤ 100) ∧ w.grownBy w' none) := by
 refine Xx (n := 35) Tryz.func15 Z Tryz.ntmps15 Z ?_
 have cw := World.grownBy.refl w none
 have hs := SlAt.lt Wr (by omega) d1
 refine Xa (Xe (v := .slice none 0 0) Z Z (Yf (cs := #[vi 0, vi 0, vi 0, vi 0, vi 0]) Ho Z Z ?_))
 intro ce d9 ao
 have di := Yd ao cw
 have bn := low0 cw ao.grw
 refine Xb (Xa (Xd (v := .slice a bs.length c) Z Z (Xn Xch (Xf Z Xm) Z (Ij bs a c _ (by omega) (by omega)) ?_)))
 rintro _ db ⟨V, rfl, bh, bx, bt⟩
 have al := low0 bn bt
 have dl := nt bn.size bh
 have cc := nl (ao.blk).lt bh
 refine Xe (v := pt V 0) Z Z (Xb (Xa (Xd (v := pt V 0) Z Z ?_)))
 have cg := (ao.blk.grown0 bt)
 have dm := (cg).lt
 have dn := (bx).lt
 refine Xn Xci (Xf Z Xm) Z (T3 0 (by omega) _ V (bs.take 2000) _ _ _ bx (by omega) (SlLt.low0 (SlLt.take hs 2000) al) (by first | exact hb | exact fun b h => hb b (List.mem_of_mem_take h)) (by first | omega | (rw [List.length_take]; omega))) ?_
 rintro _ dc ⟨J, G, E, c8, rfl, be, ah, ar, dt, du, cn, bu⟩
 have bp := low1 al bu (by omega)
 have aq := ah.len
 obtain ⟨hi, hhi⟩ : ∃ n, n = dc.heap.size := ⟨_, rfl⟩
 have bf := be
 have hTH := TabG.hi be
 rw [← hhi] at hTH
 refine Xe (v := .slice (pa J) E.length G) Z Z (Xb (Xa (Xd (v := pt V 0) Z Z (Xd (v := .slice (pa J) E.length G) Z Z (Xn Z5 (Xf Z (Xf Z Xm)) Z (L7 c8 (by omega) _ V (bs.take 2000) _ _ _ cn (by omega) (SlLt.low0 (SlLt.take hs 2000) bp) (by first | exact hb | exact fun b h => hb b (List.mem_of_mem_take h)) (by first | omega | (rw [List.length_take]; omega)) E _ _ _ bf (by omega) aq (by omega)) ?_)))))
 rintro _ ea ⟨ad, c9, rfl, dz, dv, dw, bz, au⟩
 have bq := low1 bp au (by omega)
 refine Yf (cs := #[vi 0, vi 0, vi 0, vi 0, vi 0]) Ho Z Z ?_
 intro bk eb O
 have dk := Yd O bq
 have cy : hi ≤ bk := nt (nt (Nat.le_of_eq hhi) au.size) (Nat.le_of_eq O.eq.symm)
 have cj := ((cg.gn bu).gn au)
 have ca := Xo O (cj).lt
 have cd := Xo O (bz).lt
 refine Xy (vs := [vi ad.kind, vi ad.run, vi ad.a, vi ad.b, vi ad.n]) (cs' := #[vi ad.kind, vi ad.run, vi ad.a, vi ad.b, vi ad.n]) Y6 Z Z Z (by simp [Value.oneCell']) O.blk (Nat.le_of_ble_eq_true Z) Z ?_
 intro ed aj
 refine Xb (Xq (Xa (Xe (v := vi 0) Z Z (Xb (X9 (Ql (fun mm f' w' => ∃ (i : Nat) (p1 : Int) (q1 : Cl), mm = 4 - i ∧ i ≤ 4 ∧ (0 ≤ p1 ∧ p1 ≤ 100000 + 100 * (i : Int)) ∧ ((0 ≤ q1.kind ∧ q1.kind ≤ 10) ∧ (1 ≤ q1.run ∧ q1.run ≤ (E.length : Int)) ∧ (-1 ≤ q1.a ∧ q1.a ≤ 4) ∧ (0 ≤ q1.b ∧ q1.b ≤ 3) ∧ -1 ≤ q1.n ∧ q1.n ≤ 100) ∧ TabG db.heap.size w' (pa J) E ∧ f' 7 = vi (i : Int) ∧ f' 2 = .slice none 0 0 ∧ f' 3 = pt ce 0 ∧ f' 4 = pt V 0 ∧ f' 5 = .slice (pa J) E.length G ∧ f' 6 = pt bk 0 ∧ w.grownBy w' none ∧ Blk w' ce 25 #[vi 0, vi 0, vi 0, vi 0, vi 0] ∧ Blk w' bk 25 #[vi q1.kind, vi q1.run, vi q1.a, vi q1.b, vi q1.n] ∧ Blk w' V 76 #[.slice a (bs.take 2000).length c, vi p1]) (4 - 0) ⟨0, c9, ad, Z, (Nat.zero_le _), (by omega), (by omega), (TabG.ge (TabG.low (TabG.lt bf au (by omega)) O.grw) aj.grw hTH (by omega)), Z, Z, Z, Z, Z, Z, (low1 (low0 bq O.grw) aj.grw (by omega)), ((cj.grown0 O.grw).gn aj.grw), aj.blk, ((bz.grown0 O.grw).gn aj.grw)⟩ ?_))))))
 rintro mm d2 de ⟨i, p1, q1, dr, eo, hpp, hcb, hGl, cf, cv, ai, bl, am, an, a9, bi, bv, cz⟩
 refine Xq (Xa (Xd (v := vi (i : Int)) cf Z (Qg (q := decide ((i : Int) < 4)) Z Z Z Z (Xd (v := vb (decide ((i : Int) < 4))) Z Z ?_))))
 rcases Yg (decide ((i : Int) < 4)) with ag | ag
 have d3 := of_decide_eq_true ag
 refine Xg Z Z Z ag (Xd (v := pt V 0) bl Z (Xg Z Z Z ag (Xn Qo (Xf Z (Xf Z Xm)) Z (Qb p1 4 (by omega) _ V (bs.take 2000) _ _ _ cz (by omega) (SlLt.low0 (SlLt.take hs 2000) a9) (by first | exact hb | exact fun b h => hb b (List.mem_of_mem_take h)) (by first | omega | (rw [List.length_take]; omega))) ?_)))
 rintro _ df ⟨bj, rfl, dp, dq, co, ab⟩
 have br := low1 a9 ab (by omega)
 refine Xg Z Z Z ag (Jm (q := decide (0 < bj)) Z Z Z Z (Xw (v := vb (decide (0 < bj))) Z ag Z Z (Xd (v := vb (decide (0 < bj))) Z Z ?_)))
 rcases Yg (decide (0 < bj)) with af | af
 have d4 := of_decide_eq_true af
 refine Xg Z Z Z af (Xd (v := .slice (pa J) E.length G) am Z (Xg Z Z Z af ?_))
 have bw := (bv.gn ab)
 refine Xr (vs := [vi q1.kind, vi q1.run, vi q1.a, vi q1.b, vi q1.n]) Y6 an Z (bw.rangeL 0 5 Z) Z (Xg Z Z Z af ?_)
 have ap := (TabG.lt hGl ab (by omega))
 refine Xn Xcj (Xf Z (Xf Z Xm)) Z (Pf q1 _ E _ _ (TabG.at ap) aq (by omega)) ?_
 rintro _ dg ⟨rfl, ac⟩
 have ba := low0 br ac
 have dh := W8 (ts := tabT E) (q := q1)
 refine Xg Z Z Z af (Qg (q := decide (chkAll (tabT E) q1 < 0)) Z Z Z Z (Xw (v := vb (decide (chkAll (tabT E) q1 < 0))) Z af Z Z (Xb (X0 Z (fun bm => ?_) (fun bm => ?_)))))
 have d5 := of_decide_eq_true bm
 refine Xz (Xu (Xq (X9 (X2 (Xd (v := pt V 0) bl Z (Xd (v := .slice (pa J) E.length G) am Z ?_))))))
 have bg := (TabG.low ap ac)
 refine Xn Z5 (Xf Z (Xf Z Xm)) Z (L7 (p1 + 1) (by omega) _ V (bs.take 2000) _ _ _ (co.grown0 ac) (by omega) (SlLt.low0 (SlLt.take hs 2000) ba) (by first | exact hb | exact fun b h => hb b (List.mem_of_mem_take h)) (by first | omega | (rw [List.length_take]; omega)) E _ _ _ bg (by omega) aq (by omega)) ?_
 rintro _ ee ⟨ae, da, rfl, d0, dx, dy, ct, av⟩
 refine Xy (vs := [vi ae.kind, vi ae.run, vi ae.a, vi ae.b, vi ae.n]) (cs' := #[vi ae.kind, vi ae.run, vi ae.a, vi ae.b, vi ae.n]) Y6 an Z Z (by simp [Value.oneCell']) ((bw.grown0 ac).gn av) (Nat.le_of_ble_eq_true Z) Z ?_
 intro ef ak
 exact Xb (Y3 (Xu (X2 (Xd (v := vi (i : Int)) cf Z (Yl (c := (i : Int) + 1) Z Z (by omega) (by omega) (by omega) Z (Xe (v := vi ((i : Int) + 1)) Z Z (Xb (Xu (⟨4 - (i + 1), by omega, (i + 1), da, ae, Z, (by omega), (by omega), (by omega), (TabG.ge (TabG.lt bg av (by omega)) ak.grw hTH (by omega)), Z, cv, ai, bl, am, an, (low1 (low1 ba av (by omega)) ak.grw (by omega)), ((((bi.gn ab).grown0 ac).gn av).gn ak.grw), ak.blk, (ct.gn ak.grw)⟩)))))))))
 have d6 := of_decide_eq_false bm
 refine Qf (Y9 (Y9 (Jh (Xu (Xq (Yy (m := 3) (vals := [(33, .slice (pa J) E.length G), (34, .agg #[vi q1.kind, vi q1.run, vi q1.a, vi q1.b, vi q1.n]), (2, .slice (pa J) E.length G)]) (fun w' => dg.grownBy w' none) Yz (by kernel_rfl) (X8 _) ?_ ?_))))))
 exact yl Z (fun _ _ k => Xd (v := .slice (pa J) E.length G) am Z k) (yl Z (fun _ ck k => Xr (vs := [vi q1.kind, vi q1.run, vi q1.a, vi q1.b, vi q1.n]) Y6 an Z (((bw.grown0 ac).grown0 ck).rangeL 0 5 Z) Z k) (yl Z (fun _ _ k => Xe (v := .slice (pa J) E.length G) Z Z k) Y8))
 intro eg bb
 refine Xy (vs := [vi q1.kind, vi q1.run, vi q1.a, vi q1.b, vi q1.n]) (cs' := #[vi q1.kind, vi q1.run, vi q1.a, vi q1.b, vi q1.n]) Y6 ai Z Z (by simp [Value.oneCell']) (((bi.gn ab).grown0 ac).grown0 bb) (Nat.le_of_ble_eq_true Z) Z ?_
 intro eh aw
 refine Xb (Xu (Xt ?_))
 refine ⟨.tuple #[.slice (pa J) E.length G, .agg #[vi q1.kind, vi q1.run, vi q1.a, vi q1.b, vi q1.n]], Ix Z Z (Yh (vs := [vi q1.kind, vi q1.run, vi q1.a, vi q1.b, vi q1.n]) Y6 ai Z (aw.blk.rangeL 0 5 Z)), J, G, E, q1, Z, (TabG.mono (TabG.lt (TabG.low (TabG.low ap ac) bb) aw.grw (by omega)) al.size), ah, ar, by omega, (low1 (low0 ba bb) aw.grw (by omega))⟩
 have d7 := of_decide_eq_false af
 iterate 4 refine Xj rfl rfl rfl af rfl ?_
 refine Xp (v := vb false) Z af Z Z (Xb (Y4 Z Z (Qf (Y9 (Y9 (Jh (Xu (Xq (Yy (m := 3) (vals := [(33, .slice (pa J) E.length G), (34, .agg #[vi q1.kind, vi q1.run, vi q1.a, vi q1.b, vi q1.n]), (2, .slice (pa J) E.length G)]) (fun w' => df.grownBy w' none) Yz (by kernel_rfl) (X8 _) ?_ ?_)))))))))
 exact yl Z (fun _ _ k => Xd (v := .slice (pa J) E.length G) am Z k) (yl Z (fun _ cl k => Xr (vs := [vi q1.kind, vi q1.run, vi q1.a, vi q1.b, vi q1.n]) Y6 an Z (((bv.gn ab).grown0 cl).rangeL 0 5 Z) Z k) (yl Z (fun _ _ k => Xe (v := .slice (pa J) E.length G) Z Z k) Y8))
 intro ei bc
 refine Xy (vs := [vi q1.kind, vi q1.run, vi q1.a, vi q1.b, vi q1.n]) (cs' := #[vi q1.kind, vi q1.run, vi q1.a, vi q1.b, vi q1.n]) Y6 ai Z Z (by simp [Value.oneCell']) ((bi.gn ab).grown0 bc) (Nat.le_of_ble_eq_true Z) Z ?_
 intro ej az
 refine Xb (Xu (Xt ?_))
 refine ⟨.tuple #[.slice (pa J) E.length G, .agg #[vi q1.kind, vi q1.run, vi q1.a, vi q1.b, vi q1.n]], Ix Z Z (Yh (vs := [vi q1.kind, vi q1.run, vi q1.a, vi q1.b, vi q1.n]) Y6 ai Z (az.blk.rangeL 0 5 Z)), J, G, E, q1, Z, (TabG.mono (TabG.lt (TabG.low (TabG.lt hGl ab (by omega)) bc) az.grw (by omega)) al.size), ah, ar, by omega, (low1 (low0 br bc) az.grw (by omega))⟩
 have d8 := of_decide_eq_false ag
 iterate 3 refine Xj rfl rfl rfl ag rfl ?_
 refine Xp (v := vb false) Z ag Z Z (Xd (v := vb false) Z Z ?_)
 iterate 4 refine Xj rfl rfl rfl rfl rfl ?_
 refine Xp (v := vb false) Z Z Z Z (Xb (Y4 Z Z (Qf (Y9 (Y9 (Jh (Xu (Xq (Yy (m := 3) (vals := [(33, .slice (pa J) E.length G), (34, .agg #[vi q1.kind, vi q1.run, vi q1.a, vi q1.b, vi q1.n]), (2, .slice (pa J) E.length G)]) (fun w' => de.grownBy w' none) Yz (by kernel_rfl) (X8 _) ?_ ?_)))))))))
 exact yl Z (fun _ _ k => Xd (v := .slice (pa J) E.length G) am Z k) (yl Z (fun _ cm k => Xr (vs := [vi q1.kind, vi q1.run, vi q1.a, vi q1.b, vi q1.n]) Y6 an Z ((bv.grown0 cm).rangeL 0 5 Z) Z k) (yl Z (fun _ _ k => Xe (v := .slice (pa J) E.length G) Z Z k) Y8))
 intro ek bd
 refine Xy (vs := [vi q1.kind, vi q1.run, vi q1.a, vi q1.b, vi q1.n]) (cs' := #[vi q1.kind, vi q1.run, vi q1.a, vi q1.b, vi q1.n]) Y6 ai Z Z (by simp [Value.oneCell']) (bi.grown0 bd) (Nat.le_of_ble_eq_true Z) Z ?_
 intro em a8
 refine Xb (Xu (Xt ?_))
 refine ⟨.tuple #[.slice (pa J) E.length G, .agg #[vi q1.kind, vi q1.run, vi q1.a, vi q1.b, vi q1.n]], Ix Z Z (Yh (vs := [vi q1.kind, vi q1.run, vi q1.a, vi q1.b, vi q1.n]) Y6 ai Z (a8.blk.rangeL 0 5 Z)), J, G, E, q1, Z, (TabG.mono (TabG.lt (TabG.low hGl bd) a8.grw (by omega)) al.size), ah, ar, by omega, (low1 (low0 a9 bd) a8.grw (by omega))⟩
theorem Vb (w : World) (ms ps : List MTh) (a b : Option Addr) (c e : Nat) (ht : TabAt w a ms) (hp : TabAt w b ps) (hlen : TabLen ms) (hlep : TabLen ps) (hn : ms.length ≤ 1048576) (hm : ps.length ≤ 1048576) : CallsR Tryz.prog 18 #[.slice a ms.length c, .slice b ps.length e] w (fun v w' => v = vb (decide (tabT ms = tabT ps)) ∧ w.grownBy w' none) := by
 refine Xx (n := 27) Tryz.func18 Z Tryz.ntmps18 Z ?_
 have az := World.grownBy.refl w none
 refine Xa (Xe (v := vb false) Z Z (Xb (Xq (Xa (Xd (v := .slice a ms.length c) Z Z (Y1 (by kernel_rfl) Z Z (Xd (v := .slice b ps.length e) Z Z (Y1 (by kernel_rfl) Z Z (Q1 (q := !(decide ((ms.length : Int) = (ps.length : Int)))) Z Z Z Z (Xb (X0 Z (fun V => ?_) (fun V => ?_))))))))))))
 have av := Jr V
 have bf := of_decide_eq_false av
 refine Xa (Xe (v := vb false) Z Z (Xb (Xt (Yk (⟨vb false, Yt Z Z, ?_, az⟩)))))
 exact cB (decide_eq_false (fun h => by have := Hm h; omega)).symm
 have aw := Q3 V
 have bg := of_decide_eq_true aw
 refine Xz (Xu (Xq (Xa (Xe (v := vi 0) Z Z (Xb (X9 (Ql (fun mm f' w' => ∃ (k : Nat), mm = ms.length - k ∧ k ≤ ms.length ∧ (tabT ms).take k = (tabT ps).take k ∧ f' 5 = vi (k : Int) ∧ f' 0 = .slice a ms.length c ∧ f' 1 = .slice b ps.length e ∧ w.grownBy w' none) (ms.length - 0) ⟨0, Z, (Nat.zero_le _), Z, Z, Z, Z, az⟩ ?_)))))))
 rintro mm be ba ⟨k, bd, hk, ha, J, O, ae, E⟩
 refine Xq (Xa (Xd (v := vi (k : Int)) J Z (Xd (v := .slice a ms.length c) O Z (Y1 (by kernel_rfl) Z Z (Qg (q := decide ((k : Int) < (ms.length : Int))) Z Z Z Z (Xb (X0 Z (fun ab => ?_) (fun ab => ?_))))))))
 have bh := of_decide_eq_true ab
 refine Xz (Xu (Xq (X9 (Xq ?_))))
 obtain ⟨ar, bl, a8, ah, an, ap⟩ := SlAt.at (TabAt.low ht E).1 (Yp (xg ms k))
 have bb := TabLen.at hlen (xg ms k)
 obtain ⟨au, bm, a9, ai, ao, aq⟩ := SlAt.at (TabAt.low hp E).1 (Yp (xg ps k))
 have bc := TabLen.at hlep (xg ps k)
 refine Yy (m := 8) (vals := [(17, .slice a ms.length c), (18, vi (k : Int)), (19, pt ar a8), (20, .agg #[vi (mAt ms k).t.kind, vi (mAt ms k).t.lab.s, vi (mAt ms k).t.lab.v, vi (mAt ms k).t.ve, vi (mAt ms k).t.num, .slice (mAt ms k).sa (mAt ms k).t.slots.length (mAt ms k).sc, .slice (mAt ms k).qa (mAt ms k).t.queue.length (mAt ms k).qc, vi (mAt ms k).t.to]), (21, .slice b ps.length e), (22, vi (k : Int)), (23, pt au a9), (24, .agg #[vi (mAt ps k).t.kind, vi (mAt ps k).t.lab.s, vi (mAt ps k).t.lab.v, vi (mAt ps k).t.ve, vi (mAt ps k).t.num, .slice (mAt ps k).sa (mAt ps k).t.slots.length (mAt ps k).sc, .slice (mAt ps k).qa (mAt ps k).t.queue.length (mAt ps k).qc, vi (mAt ps k).t.to])]) (fun w' => ba.grownBy w' none) Yz (by kernel_rfl) (X8 _) ?_ ?_
 exact yl Z (fun _ _ k => Xd (v := .slice a ms.length c) O Z k) (yl Z (fun _ _ kq => Xd (v := vi (k : Int)) J Z kq) (yl Z (fun _ _ k => X3 Qc Z Z ah an (by omega) (by omega) Z k) (yl Z (fun _ ak kq => Xr (vs := [vi (mAt ms k).t.kind, vi (mAt ms k).t.lab.s, vi (mAt ms k).t.lab.v, vi (mAt ms k).t.ve, vi (mAt ms k).t.num, .slice (mAt ms k).sa (mAt ms k).t.slots.length (mAt ms k).sc, .slice (mAt ms k).qa (mAt ms k).t.queue.length (mAt ms k).qc, vi (mAt ms k).t.to]) Ys Z Z (Y2 (Yi ap ak) 0 8 Z) Z kq) (yl Z (fun _ _ k => Xd (v := .slice b ps.length e) ae Z k) (yl Z (fun _ _ kq => Xd (v := vi (k : Int)) J Z kq) (yl Z (fun _ _ k => X3 Qc Z Z ai ao (by omega) (by omega) Z k) (yl Z (fun _ al kq => Xr (vs := [vi (mAt ps k).t.kind, vi (mAt ps k).t.lab.s, vi (mAt ps k).t.lab.v, vi (mAt ps k).t.ve, vi (mAt ps k).t.num, .slice (mAt ps k).sa (mAt ps k).t.slots.length (mAt ps k).sc, .slice (mAt ps k).qa (mAt ps k).t.queue.length (mAt ps k).qc, vi (mAt ps k).t.to]) Ys Z Z (Y2 (Yi aq al) 0 8 Z) Z kq) Y8)))))))
 intro bn am
 have G := low0 E am
 refine Xn Rg (Xf Z (Xf Z Xm)) Z (Um (mAt ms k) (mAt ps k) _ (TabAt.th (TabAt.low ht G) (xg ms k)) (TabAt.th (TabAt.low hp G) (xg ps k)) ⟨by first | omega | exact Nat.le_of_ble_eq_true Z | (simp only [List.length_nil, List.length_cons, List.length_append, List.length_replicate]; omega), by first | omega | exact Nat.le_of_ble_eq_true Z | (simp only [List.length_nil, List.length_cons, List.length_append, List.length_replicate]; omega)⟩ ⟨by first | omega | exact Nat.le_of_ble_eq_true Z | (simp only [List.length_nil, List.length_cons, List.length_append, List.length_replicate]; omega), by first | omega | exact Nat.le_of_ble_eq_true Z | (simp only [List.length_nil, List.length_cons, List.length_append, List.length_replicate]; omega)⟩) ?_
 rintro _ bp ⟨rfl, aj⟩
 have ad := low0 G aj
 refine Yn (b' := !(decide ((mAt ms k).t = (mAt ps k).t))) Z Z Z (Xb (Xu (X0 Z (fun ac => ?_) (fun ac => ?_))))
 have af := Jr ac
 have bi := of_decide_eq_false af
 refine Xa (Xe (v := vb false) Z Z (Xb (Xt (Qn (Yk (Yk (Qn (Yk (⟨vb false, Yt Z Z, ?_, ad⟩)))))))))
 exact cB (decide_eq_false (Lg (U7 (by omega)) (U7 (by omega)) (of_decide_eq_false af))).symm
 have ag := Q3 ac
 have bj := of_decide_eq_true ag
 exact Xz (Y3 (Xu (X2 (Xd (v := vi (k : Int)) J Z (Yl (c := (k : Int) + 1) Z Z (by omega) (by omega) (by omega) Z (Xe (v := vi ((k : Int) + 1)) Z Z (Xb (Xu (⟨ms.length - (k + 1), by omega, (k + 1), Z, (by omega), (U8 ha (U7 (by omega)) (U7 (by omega)) (of_decide_eq_true ag)), Z, O, ae, ad⟩)))))))))
 have bk := of_decide_eq_false ab
 refine Qf (Y9 (Y9 (Jh (Xu (Xa (Xe (v := vb true) Z Z (Xb (Xt (⟨vb true, Yt Z Z, ?_, E⟩)))))))))
 exact cB (decide_eq_true (W9 ha (by rw [Y5]; omega) (by rw [Y5]; omega))).symm
theorem N4 (q : Cl) (w : World) (ms : List MTh) (a : Option Addr) (c : Nat) (ht : TabAt w a ms) (hlen : TabLen ms) (hn : ms.length ≤ 1048576) : CallsR Tryz.prog 19 #[.slice a ms.length c, .agg #[vi q.kind, vi q.run, vi q.a, vi q.b, vi q.n]] w (fun v w' => v = vb (callPoss (tabT ms) q) ∧ w.grownBy w' none) := by
 refine Xx (n := 28) Tryz.func19 Z Tryz.ntmps19 Z ?_
 have al := World.grownBy.refl w none
 refine Xa (Y7 (v := .agg #[vi q.kind, vi q.run, vi q.a, vi q.b, vi q.n]) (cs := #[vi q.kind, vi q.run, vi q.a, vi q.b, vi q.n]) Z Z Z ?_)
 intro ar an ab
 have ap := Yd ab al
 have ac := low0 al ab.grw
 refine Xe (v := vb false) Z Z (Xb (Ya (fun f' w' => (f' 4 = vb (((tableOk (tabT ms) && callOk q) && (decide (q.run ≤ (ms.length : Int)))) && (decide ((mj ms q.run).t.kind = 3)))) ∧ an.grownBy w' none) ?_ ?_))
 refine Xd (v := .slice a ms.length c) Z Z (Xn F9 (Xf Z Xm) Z (G3  _ ms _ _ (TabAt.low ht ac) hlen (by omega)) ?_)
 rintro _ a9 ⟨rfl, O⟩
 refine Xd (v := vb (tableOk (tabT ms))) Z Z ?_
 rcases Yg (tableOk (tabT ms)) with J | J
 refine Xg Z Z Z J ?_
 have ad := (ab.blk.grown0 O)
 refine Xr (vs := [vi q.kind, vi q.run, vi q.a, vi q.b, vi q.n]) Y6 Z Z (ad.rangeL 0 5 Z) Z (Xg Z Z Z J (Xn Z8 (Xf Z Xm) Z (Pv q _) ?_))
 rintro _ ba ⟨rfl, V⟩
 have ag := low0 (low0 ac O) V
 refine Xw (v := vb (callOk q)) Z J Z Z (Xd (v := vb (callOk q)) Z Z ?_)
 rcases Yg (callOk q) with G | G
 have ao := Yx G
 refine Xg Z Z Z G (Xc (o' := 1) Q5 Z Z Z (Xg Z Z Z G ?_))
 have ae := (ad.grown0 V)
 refine Xh (v := vi q.run) X1 Z (ae.cell Z) Z (Xg Z Z Z G (Xd (v := .slice a ms.length c) Z Z (Xg Z Z Z G (Y1 (by kernel_rfl) Z Z (Xg Z Z Z G (Vj (q := decide (q.run ≤ (ms.length : Int))) Z Z Z Z (Xw (v := vb (decide (q.run ≤ (ms.length : Int)))) Z G Z Z (Xd (v := vb (decide (q.run ≤ (ms.length : Int)))) Z Z ?_))))))))
 rcases Yg (decide (q.run ≤ (ms.length : Int))) with E | E
 have aw := of_decide_eq_true E
 refine Xg Z Z Z E (Xd (v := .slice a ms.length c) Z Z (Xg Z Z Z E (Xc (o' := 1) Q5 Z Z Z (Xg Z Z Z E (Xh (v := vi q.run) X1 Z (ae.cell Z) Z (Xg Z Z Z E (Yr (c := q.run - 1) Z Z (by omega) (by omega) (by omega) Z (Xg Z Z Z E ?_))))))))
 obtain ⟨au, a8, am, af, ai, aj⟩ := SlAt.at (TabAt.low ht ag).1 (Yp (xg ms (q.run - 1).toNat))
 have aq := TabLen.at hlen (xg ms (q.run - 1).toNat)
 exact X3 Qc Z Z af ai (by omega) (by omega) Z (Xg Z Z Z E (Xc (o' := am) Qd Z Z Z (Xg Z Z Z E (Xh (v := vi (mj ms q.run).t.kind) X1 Z (aj 0 _ Z) Z (Xg Z Z Z E (X6 (q := decide ((mj ms q.run).t.kind = 3)) Z Z Z Z (Xw (v := vb (decide ((mj ms q.run).t.kind = 3))) Z E Z Z (Xe (v := vb (decide ((mj ms q.run).t.kind = 3))) Z Z (Xb ⟨(cB (by simp [J, G, E])), (grown_trans O V)⟩)))))))))
 have az := of_decide_eq_false E
 iterate 8 refine Xj rfl rfl rfl E rfl ?_
 exact Xp (v := vb false) Z E Z Z (Xe (v := vb false) Z Z (Xb ⟨(cB (by simp [J, G, E])), (grown_trans O V)⟩))
 iterate 5 refine Xj rfl rfl rfl G rfl ?_
 refine Xp (v := vb false) Z G Z Z (Xd (v := vb false) Z Z ?_)
 iterate 8 refine Xj rfl rfl rfl rfl rfl ?_
 exact Xp (v := vb false) Z Z Z Z (Xe (v := vb false) Z Z (Xb ⟨(cB (by simp [J, G])), (grown_trans O V)⟩))
 refine Xj Z Z Z J Z (Xj Z Z Z J Z (Xp (v := vb false) Z J Z Z (Xd (v := vb false) Z Z ?_)))
 iterate 5 refine Xj rfl rfl rfl rfl rfl ?_
 refine Xp (v := vb false) Z Z Z Z (Xd (v := vb false) Z Z ?_)
 iterate 8 refine Xj rfl rfl rfl rfl rfl ?_
 exact Xp (v := vb false) Z Z Z Z (Xe (v := vb false) Z Z (Xb ⟨(cB (by simp [J])), O⟩))
 rintro av bb ⟨ak, ah⟩
 refine Xt (⟨vb (((tableOk (tabT ms) && callOk q) && (decide (q.run ≤ (ms.length : Int)))) && (decide ((mj ms q.run).t.kind = 3))), Yt Z ak, ?_, (low0 ac ah)⟩)
 exact cB Xce
end Go.Proofs.YtlhhijnmacogcaaGreatDoor
end
section
namespace Go.Dw
open Go.ChangeShapes Go.WideShapes Go.ChangeAt Go.RowKit Go.Deep
section
variable {H : Type} {enc : TypeId × Value → H} {P : Program} {w : World} {base : Nat} {spare : Nat → Bool} {held : Bool} {fuel : Nat} {cs : List Value} {x : DataW H × List MemPlace}
theorem Sv {α : Type} {g : α → List Value} {ok : α → Prop} {t e : TypeId} {sz : Nat} (ht : P.underlying t = some (.slice e)) (hc : P.cellsOf e = sz) (hz : 0 < sz) (hg : Wide g sz) (hrd : ∀ n cs x, DataW.trod enc P w base spare held n e cs = some x → ∃ a, cs = g a ∧ ok a)
    (h : DataW.trod enc P w base spare held fuel t cs = some x) :
    ∃ (a : Option Addr) (xs : List α) (c : Nat), cs = [.slice a xs.length c] ∧ xs.length ≤ c ∧ c ≤ maxLen ∧ SlAt w a sz (xs.map g) ∧ (∀ y ∈ xs, ok y) ∧ (a = none → c = 0) := by
  rcases open_slice ht h with ⟨rfl, _⟩ | ⟨a, len, cap, m, n, D, Pl, rfl, _, hl, hm, hmm, _, hi⟩
  · exact ⟨none, [], 0, rfl, Nat.le_refl _, Nat.zero_le _, fun k x hk => by simp at hk, fun y hy => by simp at hy, fun _ => rfl⟩
  · have hlm : len ≤ m := by
      rw [hmm]; split <;> omega
    have hex : ∀ i : Fin len, ∃ y : α, ok y ∧ ∀ j, j < sz → w.cell? (a.add (i.val * sz + j)) = (g y)[j]? := fun i => by
      obtain ⟨cs', hcs, htr⟩ := hi i.val (by omega)
      obtain ⟨y, rfl, hy⟩ := hrd _ _ _ htr
      rw [hc] at hcs
      obtain ⟨_, _, hat⟩ := World.cells?_some hcs
      refine ⟨y, hy, fun j hj => ?_⟩
      rw [← hat j hj, add_add]
    refine ⟨some a, List.ofFn fun i : Fin len => Classical.choose (hex i), cap, by simp, by simpa using hl, hm, fun k x hk => ?_, fun y hy => ?_, fun hn => by cases hn⟩
    · rw [List.getElem?_map] at hk
      cases hy : (List.ofFn fun i : Fin len => Classical.choose (hex i))[k]? with
      | none => rw [hy] at hk; simp at hk
      | some y =>
        rw [hy] at hk
        obtain rfl : g y = x := by simpa using hk
        have hkl : k < len := by
          have := (List.getElem?_eq_some_iff.1 hy).1
          simpa using this
        have hye : Classical.choose (hex ⟨k, hkl⟩) = y := by
          rw [List.getElem?_ofFn] at hy
          simpa [hkl] using hy
        have hat := (Classical.choose_spec (hex ⟨k, hkl⟩)).2
        rw [hye] at hat
        obtain ⟨b, o, spot⟩ := a
        have hspot : spot = none := by
          obtain ⟨y0, _, hy0⟩ := hex ⟨0, by omega⟩
          have h0 := hy0 0 hz
          obtain ⟨v, hv⟩ : ∃ v, (g y0)[0]? = some v := ⟨_, List.getElem?_eq_getElem (by rw [hg]; exact hz)⟩
          rw [hv] at h0
          have := World.cell?_spot h0
          simpa [Addr.add] using this
        subst hspot
        refine ⟨b, o, rfl, fun j v hj => ?_⟩
        have hjl : j < sz := by rw [← hg y]; exact (List.getElem?_eq_some_iff.1 hj).1
        rw [← hj, ← hat j hjl]
        simp only [Addr.add]
        split
        · rename_i he
          rw [show o + k * sz + j = o by omega]
        · rw [show o + (k * sz + j) = o + k * sz + j by omega]
    · obtain ⟨i, rfl⟩ := List.mem_ofFn.1 hy
      exact (Classical.choose_spec (hex i)).1
theorem Hq {α : Type} {g : α → List Value} {ok : α → Prop} {r : Reach} {b0 : Nat} {t e sz : Nat} {v : Value} {d : DataW H} {p : List MemPlace} (hs : P.underlying t = some (.slice e)) (hc : P.cellsOf e = sz) (hz : 0 < sz) (hg : Wide g sz)
    (hrd : ∀ n cs x, DataW.trod enc P w base spare held n e cs = some x → ∃ a, cs = g a ∧ ok a) (hv : Value.okWide P w r b0 t v) (h : DataW.Trod enc P w base spare held t v d p) :
    ∃ (a : Option Addr) (xs : List α) (c : Nat), v = .slice a xs.length c ∧ xs.length ≤ 9223372036854775807 ∧ xs.length ≤ c ∧ SlAt w a sz (xs.map g) ∧ ∀ y ∈ xs, ok y := by
  obtain ⟨a, len, cap, rfl⟩ := okWide_slice hs hv
  obtain ⟨fuel, hf⟩ := h
  obtain ⟨a', xs, c, h1, h2, h3, h4, h5, h7⟩ := Sv hs hc hz hg hrd hf
  have h6 : Value.slice a len cap = .slice a' xs.length c := by simpa [Value.cells] using h1
  refine ⟨a', xs, c, h6, ?_, h2, h4, h5⟩
  have : maxLen = 9223372036854775807 := by decide
  omega
theorem Pb {t : TypeId} (ht : P.underlying t = some (.int .u8)) (h : DataW.trod enc P w base spare held fuel t cs = some x) : ∃ n : Int, cs = bcell n ∧ (0 ≤ n ∧ n ≤ 255) := by
  obtain ⟨n, hn, _, hw⟩ := DataW.trod_int ht h
  refine ⟨n, hn, ?_⟩
  have h2 := Bool.and_eq_true_iff.1 hw
  have h3 := of_decide_eq_true h2.1
  have h4 := of_decide_eq_true h2.2
  exact ⟨h3, h4⟩
theorem W7 (hl : laidOutB P = true) {W W' : World} (hb : Below W.heap.size W W') : ∀ (ts : List TypeId) (vs : List Value) (ds : List (DataW H)) (ps : List MemPlace), ts.all (fun t => P.readableRec t && decide (t < P.types.size)) = true →
    DataW.TrodAll enc P W 0 (fun _ => true) true ts vs ds ps → (∀ y ∈ ps, y.block < W.heap.size) → DataW.TrodAll enc P W' 0 (fun b => decide (b < W.heap.size)) true ts vs ds ps
  | [], _, _, _, _, h, _ => by
    obtain ⟨rfl, rfl, rfl⟩ := trodAll_nil h
    exact rfl
  | t :: ts, _, _, _, ht, h, hlt => by
    obtain ⟨v, vs, d, ds, p, q, rfl, rfl, rfl, h1, h2⟩ := trodAll_cons h
    simp only [List.all_cons, Bool.and_eq_true, decide_eq_true_eq] at ht
    exact ⟨p, q, Below.trod hl ht.1.1 ht.1.2 h1 hb fun y hy => hlt y (List.mem_append_left _ hy), W7 hl hb ts vs ds q ht.2 h2 fun y hy => hlt y (List.mem_append_right _ hy), rfl⟩
theorem G6 {f : Func} {s : ChangeSpec} {apart handsOn : Bool} {W W' : World} {args : Array Value} {ds gs : List (DataW H)} {before pa : List MemPlace} {tb : TypeId} (hl : laidOutB P = true)
    (hr : f.params.toList.all (fun t => P.readableRec t && decide (t < P.types.size)) = true) (hW : DataW.Whole enc P f.params.toList s.vars apart W args.toList ds gs before)
    (hA : DataW.TrodAll enc P W 0 (fun _ => true) true f.params.toList args.toList ds pa) (hlt : ∀ y ∈ pa, y.block < W.heap.size) (hs : s.fn H (ds ++ gs) = { results := [.lit (.bool true)], args := ds }) (hv : s.vars = [])
    (hres : f.resultTypes = #[tb]) (htb : P.underlying tb = some .bool) (hb : Below W.heap.size W W') : s.post enc P f apart true handsOn false W args (.bool true) W' := by
  refine ⟨ds, gs, before, [], pa, [], hW, ?_, ?_, ?_, hb.frame _, fun h => by cases h⟩
  · rw [hs, hres]
    exact trodAll_mk1 (shut_bool htb _)
  · rw [hs]
    exact W7 hl hb _ _ _ _ hr hA hlt
  · rw [hs, hv]
    rfl
end
end Go.Dw
end
section
namespace Go.Proofs.YtlhhijnmacogcaaGreatDoor
open Go.ChangeShapes Go.WideShapes Go.RowKit
def laidE : List (String × DataW Unit) := [("errors.errorType", Rows.laid_errors_errorType)]
theorem Xb9 : Tryz.prog.globalNamed "errors.errorType" = some 0 := by kernel_rfl
theorem Xcb : (Tryz.prog.cutTypes.find? (·.1 == "internal/reflectlite.rtype")).map (·.2) = some 121 := by kernel_rfl
theorem Xbf : ((List.range 181).filter fun t => Tryz.prog.rowNamed t [101, 114, 114, 111, 114]) = [66] := by kernel_rfl
theorem Ot : Tryz.prog.types.size = 181 := by kernel_rfl
theorem U2 {W : World} (h : laidMetH Tryz.prog laidE W) : ErrT W := by
  have h' : laidMet Tryz.prog [] W ∧ handlesMet Tryz.prog laidE W := h
  obtain ⟨name, u, ty, e1, e2, e3, e4, e5⟩ := h'.2 _ (List.mem_singleton.2 rfl)
  have en : name = [101, 114, 114, 111, 114] := (Option.some.inj e1).symm
  subst en
  obtain rfl := Option.some.inj (Xcb.symm.trans e2)
  have hm : ty ∈ (List.range 181).filter fun t => Tryz.prog.rowNamed t [101, 114, 114, 111, 114] := List.mem_filter.2 ⟨List.mem_range.2 (by rw [← Ot]; exact e3), e4⟩
  rw [Xbf] at hm
  obtain rfl := List.mem_singleton.1 hm
  have hh : typeHandle Tryz.prog 66 = .pointer (some ⟨1, 66, none⟩) := by kernel_rfl
  rw [hh] at e5
  simpa [ErrT] using World.var?_cell Xb9 e5 0
noncomputable def laidWorld (os : Os) : World :=
  let w0 := World.holding Tryz.prog os ⟨#[], #[], []⟩
  { w0 with heap := w0.heap.modify 0 fun
      | .cells _ t frozen => .cells #[.iface 121 (.agg #[.pointer (some ⟨1, 66, none⟩)])] t frozen
      | o => o }
theorem Ui (os : Os) (args : Array Value) : laidMetH Tryz.prog laidE ((laidWorld os).forCall (fun _ _ => 0) ⟨#[], args, []⟩).memory :=
  laidMetH_of_parts (laidMet_nil _ _) (by kernel_rfl)
end Go.Proofs.YtlhhijnmacogcaaGreatDoor
end
