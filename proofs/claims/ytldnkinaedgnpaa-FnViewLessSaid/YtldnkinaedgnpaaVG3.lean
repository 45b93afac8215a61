/- Laws and walks: my templates, and what a program of mine (gen.py) printed out of the functions; only what the row reaches. -/
import Derived.Test.YtldnkinaedgnpaaVG2
section
namespace Go.Dw.J
open Go.RowKit Go.Dw Go.Proofs
set_option linter.unusedSectionVars false
set_option maxRecDepth 100000
set_option maxHeartbeats 4000000
set_option linter.unusedSimpArgs false
set_option linter.unusedVariables false
theorem Lb [Comp] (p : Int) (hp : 0 ≤ p ∧ p ≤ 1000000000000) (lo R : Nat) (bs : List Int) (a : Option Addr) (c : Nat) (w : World) (hR : Blk w R 97 #[.slice a bs.length c, vi p]) (hlo : lo ≤ R) (hs : SlLt lo w a 1 (bs.map bcell)) (hb : ∀ b ∈ bs, 0 ≤ b ∧ b ≤ 255) (hn : bs.length ≤ 1048576) : CallsR Try.prog 36 #[pt R 0] w (fun v w' => ∃ (l : Lab) (p' : Int), v = .agg #[vi l.s, vi l.v] ∧ -1 ≤ l.s ∧ l.s ≤ 4 ∧ 0 ≤ l.v ∧ l.v ≤ 3 ∧ p ≤ p' ∧ p' ≤ p + 4 ∧ Blk w' R 97 #[.slice a bs.length c, vi p'] ∧ w.grownBy w' (some R)) := by
 refine Xq (n := 25) Try.func36 Z Try.ntmps36 Z ?_
 have io := World.grownBy.refl w (some R)
 have hRlt := hR.lt
 refine Xa (wpo_alloc (cs := #[vi 0, vi 0]) Hc Z Z ?_)
 intro di dm be
 have ml := Xy be io
 have fx := Xs be (hR).lt
 have bn := low0 io be.grw
 refine wpo_nil (Xk ?_)
 have iq := (hR.grown0 be.grw)
 refine Q8 (m := 12) [[], [], [1], [0, 1, 2], [0, 1, 2, 3], [], [], [1, 2, 6], [1, 2, 5, 6, 7], [1, 2, 5, 6, 7, 8], [0, 1, 2, 3, 4, 5, 6, 7, 8, 9], [], [0, 1, 2, 3, 4, 5, 6, 7, 8, 9, 10, 11]] (fun S F w' => ∃ (ae : Nat) (ag : Int) (ac : Int) (af : Nat) (ah : Int) (ab : Int) (ai : Nat), dm.grownBy w' (some R) ∧ F 0 = pt R 0 ∧ F 2 = pt di 0 ∧ (S 2 = false → Blk w' R 97 #[.slice a bs.length c, vi p]) ∧ (S 0 = true → F 4 = .slice (pa ae) 5 5 ∧ w.heap.size ≤ ae ∧ Blk w' ae 3 (([0, 0, 1, 2, 3] : List Int).flatMap icell).toArray ∧ R < ae ∧ di < ae ∧ dm.heap.size ≤ ae) ∧ (S 1 = true → F 5 = pt R 0) ∧ (S 2 = true → F 6 = vi ag ∧ 0 ≤ ag ∧ (ag < 5 ∨ ag = 0) ∧ (S 7 = false → Blk w' R 97 #[.slice a bs.length c, vi (p + 1)])) ∧ (S 3 = true → F 7 = pt ae ((ag).toNat * 1)) ∧ (S 4 = true → F 8 = vi ac ∧ ([0, 0, 1, 2, 3] : List Int)[(ag).toNat]? = some ac ∧ (ac = 0 ∨ ac = 0 ∨ ac = 1 ∨ ac = 2 ∨ ac = 3)) ∧ (S 5 = true → F 9 = .slice (pa af) 4 4 ∧ w.heap.size ≤ af ∧ Blk w' af 3 (([0, 0, 3, 1] : List Int).flatMap icell).toArray ∧ R < af ∧ di < af ∧ dm.heap.size ≤ af) ∧ (S 6 = true → F 10 = pt R 0) ∧ (S 7 = true → F 11 = vi ah ∧ 0 ≤ ah ∧ (ah < 4 ∨ ah = 0) ∧ Blk w' R 97 #[.slice a bs.length c, vi (p + 1 + 1)]) ∧ (S 8 = true → F 12 = pt af ((ah).toNat * 1)) ∧ (S 9 = true → F 13 = vi ab ∧ ([0, 0, 3, 1] : List Int)[(ah).toNat]? = some ab ∧ (ab = 0 ∨ ab = 0 ∨ ab = 3 ∨ ab = 1)) ∧ (S 10 = true → F 14 = .agg #[vi ac, vi ab]) ∧ (S 11 = true → F 3 = pt ai 0 ∧ w.heap.size ≤ ai ∧ Blk w' ai 25 #[vi 0, vi 0] ∧ R < ai ∧ di < ai ∧ dm.heap.size ≤ ai) ∧ (S 0 = true → S 5 = true → ae ≠ af) ∧ (S 0 = true → S 11 = true → ae ≠ ai) ∧ (S 5 = true → S 11 = true → af ≠ ai)) Yu (by kernel_rfl) ⟨0, 0, 0, 0, 0, 0, 0, Xx _, Z, Z, fun _ => (iq).grown0 (Xx _), X4, X4, X4, X4, X4, X4, X4, X4, X4, X4, X4, X4, X4, X4, X4⟩ ?_ ?_
 refine Xl (fun S F oh hS hbef hcl hI => ?_) ?_
 obtain ⟨ae, ag, ac, af, ah, ab, ai, cg, gb, gc, c_old_R, al, ak, am, av, a8, an, ao, au, a9, bd, az, aj, E, O, V⟩ := hI
 refine wpo_buildSlice (ps := [(0, vi 0), (1, vi 0), (2, vi 1), (3, vi 2), (4, vi 3)]) (e := 3) (cs := (([0, 0, 1, 2, 3] : List Int).flatMap icell).toArray) (Xp Z (Xp Z (Xp Z (Xp Z (Xp Z Xw))))) (fun _ => by kernel_rfl) Z ?_
 intro f7 ol ap
 have ed := Xy ap (Xh bn cg)
 have bu := Xs ap ((be.blk.gn cg)).lt
 exact wpo_nil ⟨f7, ag, ac, af, ah, ab, ai, (low0 cg ap.grw), gb, gc, fun h => (c_old_R h).grown0 ap.grw, fun _ => ⟨Z, ed, ap.blk, (by omega), bu, (nt cg.size ap.ge)⟩, ak, fun h => let ⟨iu, iv, iw, ix⟩ := am h; ⟨iu, iv, iw, fun hn => (ix hn).grown0 ap.grw⟩, Xj 3 hS hcl Z, Xj 4 hS hcl Z, fun h => let ⟨iy, iz, i0, i1, i2, i3⟩ := an h; ⟨iy, iz, (i0).grown0 ap.grw, i1, i2, i3⟩, ao, fun h => let ⟨i4, i5, i6, i7⟩ := au h; ⟨i4, i5, i6, (i7).grown0 ap.grw⟩, a9, bd, Xj 10 hS hcl Z, fun h => let ⟨i8, i9, ja, jb, jc, jd⟩ := aj h; ⟨i8, i9, (ja).grown0 ap.grw, jb, jc, jd⟩, fun _ h => let ⟨pi, pj, je, pk, pl, pm⟩ := an h; Nat.ne_of_gt (nl (je).lt ap.ge), fun _ h => let ⟨pn, po, jf, pp, pq, pu⟩ := aj h; Nat.ne_of_gt (nl (jf).lt ap.ge), V⟩
 refine Xl (fun S F om hS hbef hcl hI => ?_) ?_
 obtain ⟨ae, ag, ac, af, ah, ab, ai, ez, eh, gf, c_old_R, al, ak, am, av, a8, an, ao, au, a9, bd, az, aj, E, O, V⟩ := hI
 exact wpo_move (v := pt R 0) eh Z (wpo_nil ⟨ae, ag, ac, af, ah, ab, ai, ez, eh, gf, fun h => c_old_R h, al, fun _ => Z, Xj 2 hS hcl Z, Xj 3 hS hcl Z, Xj 4 hS hcl Z, an, ao, Xj 7 hS hcl Z, Xj 8 hS hcl Z, Xj 9 hS hcl Z, Xj 10 hS hcl Z, aj, E, O, V⟩)
 refine Xl (fun S F oq hS hbef hcl hI => ?_) ?_
 obtain ⟨ae, ag, ac, af, ah, ab, ai, dr, gg, gh, c_old_R, al, ak, am, av, a8, an, ao, au, a9, bd, az, aj, E, O, V⟩ := hI
 obtain gi := ak (Xf 1 hbef rfl)
 refine Xi Y7 (Xb gi (Xb Z Xg)) Z (Yj p 5 (by omega) _ R bs _ _ _ (c_old_R hS) (by omega) (SlLt.low1 hs (Xh bn dr) hlo) (by first | exact hb | exact fun b h => hb b (List.mem_of_mem_take h)) (by first | omega | (rw [List.length_take]; omega))) ?_
 rintro _ ot ⟨ir, rfl, fg, fh, fu, cc⟩
 exact wpo_nil ⟨ae, ir, ac, af, ah, ab, ai, (Xh dr cc), gg, gh, fun h => Yi h, fun h => let ⟨jg, jh, ji, jj, jk, jl⟩ := al h; ⟨jg, jh, (ji).gn cc, jj, jk, jl⟩, ak, fun _ => ⟨Z, fg, fh, fun _ => fu⟩, Xj 3 hS hcl Z, Xj 4 hS hcl Z, fun h => let ⟨jm, jo, jp, jq, jr, js⟩ := an h; ⟨jm, jo, (jp).gn cc, jq, jr, js⟩, ao, Xj 7 hS hcl Z, Xj 8 hS hcl Z, Xj 9 hS hcl Z, Xj 10 hS hcl Z, fun h => let ⟨jt, ju, jv, jw, jy, jz⟩ := aj h; ⟨jt, ju, (jv).gn cc, jw, jy, jz⟩, E, O, V⟩
 refine Xl (fun S F ou hS hbef hcl hI => ?_) ?_
 obtain ⟨ae, ag, ac, af, ah, ab, ai, fa, gj, gl, c_old_R, al, ak, am, av, a8, an, ao, au, a9, bd, az, aj, E, O, V⟩ := hI
 obtain ⟨gm, cm, bg, bl, ba, br⟩ := al (Xf 0 hbef rfl)
 obtain mw := ak (Xf 1 hbef rfl)
 obtain ⟨gp, bp, bq, bk⟩ := am (Xf 2 hbef rfl)
 exact wpo_indexAddr (o' := (ag).toNat * 1) K0 gm gp (by omega) (by omega) (by omega) Z (wpo_nil ⟨ae, ag, ac, af, ah, ab, ai, fa, gj, gl, fun hn => Yi ((Xf 2 hbef Z).symm.trans hn), al, ak, am, fun _ => Z, Xj 4 hS hcl Z, an, ao, au, a9, bd, Xj 10 hS hcl Z, aj, E, O, V⟩)
 refine Xl (fun S F ov hS hbef hcl hI => ?_) ?_
 obtain ⟨ae, ag, ac, af, ah, ab, ai, fb, gq, gr, c_old_R, al, ak, am, av, a8, an, ao, au, a9, bd, az, aj, E, O, V⟩ := hI
 obtain ⟨my, cm, bg, bl, ba, br⟩ := al (Xf 0 hbef rfl)
 obtain mz := ak (Xf 1 hbef rfl)
 obtain ⟨m3, bp, bq, bk⟩ := am (Xf 2 hbef rfl)
 obtain gt := av (Xf 3 hbef rfl)
 obtain ⟨ex, dc⟩ := Qo (l := ([0, 0, 1, 2, 3] : List Int)) (i := (ag).toNat) (lq (ag).toNat 5)
 have du := List.mem_of_getElem? dc
 simp only [List.mem_cons, List.not_mem_nil, or_false] at du
 exact wpo_load1 (v := vi ex) X1 gt ((Jg Ye bg dc) 0 _ Z) Z (wpo_nil ⟨ae, ag, ex, af, ah, ab, ai, fb, gq, gr, fun hn => Yi ((Xf 2 hbef Z).symm.trans hn), al, ak, am, av, fun _ => ⟨Z, dc, du⟩, an, ao, au, a9, bd, Xj 10 hS hcl Z, aj, E, O, V⟩)
 refine Xl (fun S F ow hS hbef hcl hI => ?_) ?_
 obtain ⟨ae, ag, ac, af, ah, ab, ai, cj, gu, gv, c_old_R, al, ak, am, av, a8, an, ao, au, a9, bd, az, aj, E, O, V⟩ := hI
 refine wpo_buildSlice (ps := [(0, vi 0), (1, vi 0), (2, vi 3), (3, vi 1)]) (e := 3) (cs := (([0, 0, 3, 1] : List Int).flatMap icell).toArray) (Xp Z (Xp Z (Xp Z (Xp Z Xw)))) (fun _ => by kernel_rfl) Z ?_
 intro f8 ox aq
 have ee := Xy aq (Xh bn cj)
 have bv := Xs aq ((be.blk.gn cj)).lt
 exact wpo_nil ⟨ae, ag, ac, f8, ah, ab, ai, (low0 cj aq.grw), gu, gv, fun h => (c_old_R h).grown0 aq.grw, fun h => let ⟨j1, j2, j3, j4, j5, j6⟩ := al h; ⟨j1, j2, (j3).grown0 aq.grw, j4, j5, j6⟩, ak, fun h => let ⟨j7, j8, j9, ka⟩ := am h; ⟨j7, j8, j9, fun hn => (ka hn).grown0 aq.grw⟩, av, a8, fun _ => ⟨Z, ee, aq.blk, (by omega), bv, (nt cj.size aq.ge)⟩, ao, fun h => let ⟨kb, kc, ke, kf⟩ := au h; ⟨kb, kc, ke, (kf).grown0 aq.grw⟩, Xj 8 hS hcl Z, Xj 9 hS hcl Z, Xj 10 hS hcl Z, fun h => let ⟨kg, kh, ki, kl, km, ko⟩ := aj h; ⟨kg, kh, (ki).grown0 aq.grw, kl, km, ko⟩, fun h _ => let ⟨pw, px, kp, py, p0, p8⟩ := al h; Nat.ne_of_lt (nl (kp).lt aq.ge), O, fun _ h => let ⟨p9, qd, kq, qe, qf, qg⟩ := aj h; Nat.ne_of_gt (nl (kq).lt aq.ge)⟩
 refine Xl (fun S F oy hS hbef hcl hI => ?_) ?_
 obtain ⟨ae, ag, ac, af, ah, ab, ai, fc, ei, gw, c_old_R, al, ak, am, av, a8, an, ao, au, a9, bd, az, aj, E, O, V⟩ := hI
 exact wpo_move (v := pt R 0) ei Z (wpo_nil ⟨ae, ag, ac, af, ah, ab, ai, fc, ei, gw, fun h => c_old_R h, al, ak, am, av, a8, an, fun _ => Z, Xj 7 hS hcl Z, Xj 8 hS hcl Z, Xj 9 hS hcl Z, Xj 10 hS hcl Z, aj, E, O, V⟩)
 refine Xl (fun S F oz hS hbef hcl hI => ?_) ?_
 obtain ⟨ae, ag, ac, af, ah, ab, ai, dt, gx, gy, c_old_R, al, ak, am, av, a8, an, ao, au, a9, bd, az, aj, E, O, V⟩ := hI
 obtain m4 := ak (Xf 1 hbef rfl)
 obtain ⟨m5, bp, bq, bk⟩ := am (Xf 2 hbef rfl)
 obtain gz := ao (Xf 6 hbef rfl)
 refine Xi Y7 (Xb gz (Xb Z Xg)) Z (Yj (p + 1) 4 (by omega) _ R bs _ _ _ (bk hS) (by omega) (SlLt.low1 hs (Xh bn dt) hlo) (by first | exact hb | exact fun b h => hb b (List.mem_of_mem_take h)) (by first | omega | (rw [List.length_take]; omega))) ?_
 rintro _ o0 ⟨is, rfl, fi, fj, fv, cd⟩
 exact wpo_nil ⟨ae, ag, ac, af, is, ab, ai, (Xh dt cd), gx, gy, fun hn => Yi ((Xf 2 hbef Z).symm.trans hn), fun h => let ⟨kr, ks, kt, ku, kv, kw⟩ := al h; ⟨kr, ks, (kt).gn cd, ku, kv, kw⟩, ak, fun h => let ⟨kx, ky, kz, qi⟩ := am h; ⟨kx, ky, kz, fun h => Yi h⟩, av, a8, fun h => let ⟨k0, la, lc, ld, lf, lg⟩ := an h; ⟨k0, la, (lc).gn cd, ld, lf, lg⟩, ao, fun _ => ⟨Z, fi, fj, fv⟩, Xj 8 hS hcl Z, Xj 9 hS hcl Z, Xj 10 hS hcl Z, fun h => let ⟨lh, li, lj, lk, ll, lm⟩ := aj h; ⟨lh, li, (lj).gn cd, lk, ll, lm⟩, E, O, V⟩
 refine Xl (fun S F o1 hS hbef hcl hI => ?_) ?_
 obtain ⟨ae, ag, ac, af, ah, ab, ai, fd, g4, g7, c_old_R, al, ak, am, av, a8, an, ao, au, a9, bd, az, aj, E, O, V⟩ := hI
 obtain m6 := ak (Xf 1 hbef rfl)
 obtain ⟨m7, bp, bq, bk⟩ := am (Xf 2 hbef rfl)
 obtain ⟨g8, cn, bh, bm, bc, bt⟩ := an (Xf 5 hbef rfl)
 obtain m8 := ao (Xf 6 hbef rfl)
 obtain ⟨g9, da, db, co⟩ := au (Xf 7 hbef rfl)
 exact wpo_indexAddr (o' := (ah).toNat * 1) K0 g8 g9 (by omega) (by omega) (by omega) Z (wpo_nil ⟨ae, ag, ac, af, ah, ab, ai, fd, g4, g7, fun hn => Yi ((Xf 2 hbef Z).symm.trans hn), al, ak, am, av, a8, an, ao, au, fun _ => Z, Xj 9 hS hcl Z, Xj 10 hS hcl Z, aj, E, O, V⟩)
 refine Xl (fun S F o3 hS hbef hcl hI => ?_) ?_
 obtain ⟨ae, ag, ac, af, ah, ab, ai, fe, ia, ib, c_old_R, al, ak, am, av, a8, an, ao, au, a9, bd, az, aj, E, O, V⟩ := hI
 obtain m9 := ak (Xf 1 hbef rfl)
 obtain ⟨na, bp, bq, bk⟩ := am (Xf 2 hbef rfl)
 obtain ⟨nb, cn, bh, bm, bc, bt⟩ := an (Xf 5 hbef rfl)
 obtain nc := ao (Xf 6 hbef rfl)
 obtain ⟨nd, da, db, co⟩ := au (Xf 7 hbef rfl)
 obtain ic := a9 (Xf 8 hbef rfl)
 obtain ⟨ey, de⟩ := Qo (l := ([0, 0, 3, 1] : List Int)) (i := (ah).toNat) (lq (ah).toNat 4)
 have dv := List.mem_of_getElem? de
 simp only [List.mem_cons, List.not_mem_nil, or_false] at dv
 exact wpo_load1 (v := vi ey) X1 ic ((Jg Ye bh de) 0 _ Z) Z (wpo_nil ⟨ae, ag, ac, af, ah, ey, ai, fe, ia, ib, fun hn => Yi ((Xf 2 hbef Z).symm.trans hn), al, ak, am, av, a8, an, ao, au, a9, fun _ => ⟨Z, de, dv⟩, Xj 10 hS hcl Z, aj, E, O, V⟩)
 refine Xl (fun S F o4 hS hbef hcl hI => ?_) ?_
 obtain ⟨ae, ag, ac, af, ah, ab, ai, ff, ie, ig, c_old_R, al, ak, am, av, a8, an, ao, au, a9, bd, az, aj, E, O, V⟩ := hI
 obtain ⟨nf, cm, bg, bl, ba, br⟩ := al (Xf 0 hbef rfl)
 obtain ng := ak (Xf 1 hbef rfl)
 obtain ⟨nh, bp, bq, bk⟩ := am (Xf 2 hbef rfl)
 obtain ni := av (Xf 3 hbef rfl)
 obtain ⟨ii, fq, fk⟩ := a8 (Xf 4 hbef rfl)
 obtain ⟨nj, cn, bh, bm, bc, bt⟩ := an (Xf 5 hbef rfl)
 obtain nk := ao (Xf 6 hbef rfl)
 obtain ⟨np, da, db, co⟩ := au (Xf 7 hbef rfl)
 obtain nq := a9 (Xf 8 hbef rfl)
 obtain ⟨ij, ft, fm⟩ := bd (Xf 9 hbef rfl)
 have bz := E (Xf 0 hbef rfl) (Xf 5 hbef rfl)
 exact wpo_build (ps := [(0, vi ac), (1, vi ab)]) (v := .agg #[vi ac, vi ab]) (Xp ii (Xp ij Xw)) (fun _ => by kernel_rfl) Z (wpo_nil ⟨ae, ag, ac, af, ah, ab, ai, ff, ie, ig, fun hn => Yi ((Xf 2 hbef Z).symm.trans hn), al, ak, am, av, a8, an, ao, au, a9, bd, fun _ => Z, aj, E, O, V⟩)
 refine Xl (fun S F o5 hS hbef hcl hI => ?_) ?_
 obtain ⟨ae, ag, ac, af, ah, ab, ai, ck, ik, il, c_old_R, al, ak, am, av, a8, an, ao, au, a9, bd, az, aj, E, O, V⟩ := hI
 refine wpo_alloc (cs := #[vi 0, vi 0]) Hc Z Z ?_
 intro f9 o6 ar
 have ef := Xy ar (Xh bn ck)
 have bw := Xs ar ((be.blk.gn ck)).lt
 exact wpo_nil ⟨ae, ag, ac, af, ah, ab, f9, (low0 ck ar.grw), ik, il, fun h => (c_old_R h).grown0 ar.grw, fun h => let ⟨ln, lu, lv, lw, lx, ly⟩ := al h; ⟨ln, lu, (lv).grown0 ar.grw, lw, lx, ly⟩, ak, fun h => let ⟨lz, l0, l3, l4⟩ := am h; ⟨lz, l0, l3, fun hn => (l4 hn).grown0 ar.grw⟩, av, a8, fun h => let ⟨l5, l6, l7, l8, l9, ma⟩ := an h; ⟨l5, l6, (l7).grown0 ar.grw, l8, l9, ma⟩, ao, fun h => let ⟨mb, mc, me, mf⟩ := au h; ⟨mb, mc, me, (mf).grown0 ar.grw⟩, a9, bd, az, fun _ => ⟨Z, ef, ar.blk, (by omega), bw, (nt ck.size ar.ge)⟩, E, fun h _ => let ⟨qj, qk, mg, qn, qo, qq⟩ := al h; Nat.ne_of_lt (nl (mg).lt ar.ge), fun h _ => let ⟨qr, qw, mh, qx, qy, qz⟩ := an h; Nat.ne_of_lt (nl (mh).lt ar.ge)⟩
 exact Jp
 intro S F o7 hall hI
 obtain ⟨ae, ag, ac, af, ah, ab, ai, cz, ej, dk, c_old_R, al, ak, am, av, a8, an, ao, au, a9, bd, az, aj, E, O, V⟩ := hI
 obtain ⟨nu, cm, bg, bl, ba, br⟩ := al (hall 0 (by decide))
 obtain nw := ak (hall 1 (by decide))
 obtain ⟨nx, bp, bq, bk⟩ := am (hall 2 (by decide))
 obtain ny := av (hall 3 (by decide))
 obtain ⟨nz, fq, fk⟩ := a8 (hall 4 (by decide))
 obtain ⟨n5, cn, bh, bm, bc, bt⟩ := an (hall 5 (by decide))
 obtain n7 := ao (hall 6 (by decide))
 obtain ⟨n8, da, db, co⟩ := au (hall 7 (by decide))
 obtain n9 := a9 (hall 8 (by decide))
 obtain ⟨oa, ft, fm⟩ := bd (hall 9 (by decide))
 obtain im := az (hall 10 (by decide))
 obtain ⟨dl, mn, dz, fy, d0, ip⟩ := aj (hall 11 (by decide))
 have bz := E (hall 0 (by decide)) (hall 5 (by decide))
 have d9 := O (hall 0 (by decide)) (hall 11 (by decide))
 have ea := V (hall 5 (by decide)) (hall 11 (by decide))
 refine wpo_storen (vs := [vi ac, vi ab]) (cs' := #[vi ac, vi ab]) Yd dl im Z (by simp [Value.oneCell']) dz (Nat.le_of_ble_eq_true Z) Z ?_
 intro o8 bf
 have dp := low1 (Xh bn cz) bf.grw (by omega)
 refine wpo_nil (Xo (Xk (Xa (wpo_move (v := pt R 0) ej Z (Xi Y7 (Xb Z (Xb Z Xg)) Z (Yj (p + 1 + 1) 60 (by omega) _ R bs _ _ _ (co.gn bf.grw) (by omega) (SlLt.low1 hs dp hlo) (by first | exact hb | exact fun b h => hb b (List.mem_of_mem_take h)) (by first | omega | (rw [List.length_take]; omega))) ?_)))))
 rintro _ o9 ⟨it, rfl, mp, mq, dh, bj⟩
 have cy := Xh dp bj
 refine wpo_eql (q := decide (it = 0)) Z Z Z Z (wpo_nil (Xt Z (fun dn => ?_) (fun dn => ?_)))
 have oc := of_decide_eq_true dn
 refine Xr (wpo_buildSlice (ps := [(0, vi (-1)), (1, vi 4)]) (e := 3) (cs := (([(-1), 4] : List Int).flatMap icell).toArray) (Xp Z (Xp Z Xw)) (fun _ => by kernel_rfl) Z ?_)
 intro mv pb aw
 have mo := Xy aw cy
 have eu := (((be.blk.gn cz).gn bf.grw).gn bj)
 have d5 := Xs aw (eu).lt
 have d6 := Xs aw (((bg.gn bf.grw).gn bj)).lt
 have d7 := Xs aw (((bh.gn bf.grw).gn bj)).lt
 have fz := Xs aw (dh).lt
 have ew := (bf.blk.gn bj)
 have d8 := Xs aw (ew).lt
 have dq := low0 cy aw.grw
 refine wpo_move (v := pt R 0) ej Z (Xi Y7 (Xb Z (Xb Z Xg)) Z (Yj (p + 1 + 1 + 1) 2 (by omega) _ R bs _ _ _ (dh.grown0 aw.grw) (by omega) (SlLt.low1 hs dq hlo) (by first | exact hb | exact fun b h => hb b (List.mem_of_mem_take h)) (by first | omega | (rw [List.length_take]; omega))) ?_)
 rintro _ pc ⟨dx, rfl, mr, mu, fw, ce⟩
 refine wpo_indexAddr (o' := (dx).toNat * 1) K0 Z Z (by omega) (by omega) (by omega) Z ?_
 obtain ⟨bi, dw⟩ := Qo (l := ([(-1), 4] : List Int)) (i := (dx).toNat) (lq (dx).toNat 2)
 have fp := List.mem_of_getElem? dw
 simp only [List.mem_cons, List.not_mem_nil, or_false] at fp
 refine wpo_load1 (v := vi bi) X1 Z ((Jg Ye (aw.blk.gn ce) dw) 0 _ Z) Z (wpo_fieldAddr (o' := 0) Vg dl Z Z (wpo_store1 (v := vi bi) (cs' := #[vi bi, vi ab]) X1 Z Z Z ((ew.grown0 aw.grw).gn ce) (Nat.le_of_ble_eq_true Z) Z ?_))
 intro pe ca
 refine wpo_nil (Xo (Xa (wpo_loadn (vs := [vi bi, vi ab]) Yd dl Z (ca.blk.rangeL 0 2 Z) Z (wpo_storen (vs := [vi bi, vi ab]) (cs' := #[vi bi, vi ab]) Yd dk Z Z (by simp [Value.oneCell']) (((eu.grown0 aw.grw).gn ce).gn ca.grw) (Nat.le_of_ble_eq_true Z) Z ?_))))
 intro pf cw
 refine wpo_nil (Xm ?_)
 refine ⟨.agg #[vi bi, vi ab], resC Z (resCell_mk (vs := [vi bi, vi ab]) Yd dk Z (cw.blk.rangeL 0 2 Z)), ⟨bi, ab⟩, (p + 1 + 1 + 1 + 1), Z, show (-1 : Int) ≤ bi by omega, show bi ≤ (4 : Int) by omega, show (0 : Int) ≤ ab by omega, show ab ≤ (3 : Int) by omega, by omega, by omega, ((fw.gn ca.grw).gn cw.grw), (low1 (low1 (Xh dq ce) ca.grw (by omega)) cw.grw (by omega))⟩
 have oe := of_decide_eq_false dn
 refine Xn (Xo (Xa (wpo_loadn (vs := [vi ac, vi ab]) Yd dl Z ((bf.blk.gn bj).rangeL 0 2 Z) Z (wpo_storen (vs := [vi ac, vi ab]) (cs' := #[vi ac, vi ab]) Yd dk Z Z (by simp [Value.oneCell']) (((be.blk.gn cz).gn bf.grw).gn bj) (Nat.le_of_ble_eq_true Z) Z ?_))))
 intro pg cx
 refine wpo_nil (Xm ?_)
 refine ⟨.agg #[vi ac, vi ab], resC Z (resCell_mk (vs := [vi ac, vi ab]) Yd dk Z (cx.blk.rangeL 0 2 Z)), ⟨ac, ab⟩, (p + 1 + 1 + 1), Z, show (-1 : Int) ≤ ac by omega, show ac ≤ (4 : Int) by omega, show (0 : Int) ≤ ab by omega, show ab ≤ (3 : Int) by omega, by omega, by omega, (dh.gn cx.grw), (low1 cy cx.grw (by omega))⟩
end Go.Dw.J
end
section
namespace Go.Dw.J
open Go.RowKit Go.Dw Go.Proofs
set_option linter.unusedSectionVars false
set_option maxRecDepth 100000
set_option maxHeartbeats 4000000
set_option linter.unusedSimpArgs false
set_option linter.unusedVariables false
theorem Qj : elemSz Try.prog 23 = some 8 := by kernel_rfl
theorem Za : goFn Try.prog 56 = true := by kernel_rfl
theorem Zk : mkTy Try.prog 23 = some (35, 8, 96, some (.agg #[.int .i64 0, .int .i64 0, .int .i64 0, .int .i64 0, .int .i64 0, .slice none 0 0, .slice none 0 0, .int .i64 0])) := by kernel_rfl
theorem Rs : mkTy Try.prog 33 = some (3, 1, 8, some (.int .i64 0)) := by kernel_rfl
theorem Vn [Comp] (k : Int) (w : World) (a : Option Addr) (n c : Nat) : CallsR Try.prog 56 #[.slice a n c, vi k] w (fun v w' => v = vb (inR k 1 (n : Int)) ∧ w.grownBy w' none) := by
 refine Xq (n := 9) Try.func56 Z Try.ntmps56 Z (Xa (wpo_assign (v := vb false) Z Z (wpo_nil (Xa (wpo_move (v := vi k) Z Z (wpo_move (v := .slice a n c) Z Z (wpo_len (by kernel_rfl) Z Z (Xi Uf (Xb Z (Xb Z (Xb Z Xg))) Z (Jo k 1 (n : Int) _) ?_))))))))
 rintro _ O ⟨rfl, E⟩
 refine wpo_assign (v := vb (inR k 1 (n : Int))) Z Z (wpo_nil (Xm (⟨vb (inR k 1 (n : Int)), res1 Z Z, ?_, (low0 (World.grownBy.refl w none) E)⟩)))
 rfl
theorem Ze [Comp] (k kd : Int) (hk : -9223372036854775807 ≤ k) (w : World) (ms : List MTh) (a : Option Addr) (c : Nat) (ht : TabAt w a ms) (hlen : TabLen ms) (hn : ms.length ≤ 1048576) : CallsR Try.prog 71 #[.slice a ms.length c, vi k, vi kd] w (fun v w' => v = vb (kindAt (tabT ms) k kd) ∧ w.grownBy w' none) := by
 refine Xq (n := 20) Try.func71 Z Try.ntmps71 Z ?_
 have ah := World.grownBy.refl w none
 refine Xa (wpo_assign (v := vb false) Z Z (wpo_nil (Xu (fun f' w' => (f' 6 = vb (inR k 1 (ms.length : Int) && (decide ((mj ms k).t.kind = kd)))) ∧ w.grownBy w' none) ?_ ?_)))
 refine wpo_move (v := .slice a ms.length c) Z Z (wpo_move (v := vi k) Z Z (Xi Za (Xb Z (Xb Z Xg)) Z (Vn k _ _ _ _) ?_))
 rintro _ ao ⟨rfl, O⟩
 have ab := low0 ah O
 refine wpo_move (v := vb (inR k 1 (ms.length : Int))) Z Z ?_
 rcases Xz (inR k 1 (ms.length : Int)) with E | E
 have ak := Jj.1 E
 refine Xd Z Z Z E (wpo_move (v := .slice a ms.length c) Z Z (Xd Z Z Z E (wpo_move (v := vi k) Z Z (Xd Z Z Z E (wpo_sub (c := k - 1) Z Z (by omega) (by omega) (by omega) Z (Xd Z Z Z E ?_))))))
 obtain ⟨al, an, ai, V, ae, af⟩ := SlAt.at (TabAt.low ht ab).1 (Yw (xg ms (k - 1).toNat))
 have aj := TabLen.at hlen (xg ms (k - 1).toNat)
 exact X6 Qj Z Z V ae (by omega) (by omega) Z (Xd Z Z Z E (wpo_fieldAddr (o' := ai) X7 Z Z Z (Xd Z Z Z E (wpo_load1 (v := vi (mj ms k).t.kind) X1 Z (af 0 _ Z) Z (Xd Z Z Z E (wpo_move (v := vi kd) Z Z (Xd Z Z Z E (wpo_eql (q := decide ((mj ms k).t.kind = kd)) Z Z Z Z (wpo_pickt (v := vb (decide ((mj ms k).t.kind = kd))) Z E Z Z (wpo_assign (v := vb (decide ((mj ms k).t.kind = kd))) Z Z (wpo_nil ⟨(cB (by simp [E])), O⟩)))))))))))
 iterate 8 refine Xe rfl rfl rfl E rfl ?_
 exact wpo_pickf (v := vb false) Z E Z Z (wpo_assign (v := vb false) Z Z (wpo_nil ⟨(cB (by simp [E])), O⟩))
 rintro am ap ⟨ag, ac⟩
 refine Xm (⟨vb (inR k 1 (ms.length : Int) && (decide ((mj ms k).t.kind = kd))), res1 Z ag, ?_, (low0 ah ac)⟩)
 exact cB Zf
theorem Qu [Comp] (w : World) (ms : List MTh) (a : Option Addr) (c : Nat) (ht : TabAt w a ms) (hlen : TabLen ms) (hn : ms.length ≤ 1048576) : CallsR Try.prog 15 #[.slice a ms.length c] w (fun v w' => v = vb (tableOk (tabT ms)) ∧ w.grownBy w' none) := by
 refine Xq (n := 92) Try.func15 Z Try.ntmps15 Z (Xa (wpo_assign (v := vb false) Z Z (wpo_nil (Xk (Xa (wpo_assign (v := vi 0) Z Z (wpo_nil (Xv (Yg (fun mm f' w' => ∃ (k : Nat), mm = ms.length - k ∧ k ≤ ms.length ∧ (((tabT ms).take k).all (rowOk (tabT ms))) = true ∧ f' 3 = vi (k : Int) ∧ f' 0 = .slice a ms.length c ∧ w.grownBy w' none) (ms.length - 0) ⟨0, Z, (Nat.zero_le _), Z, Z, Z, (World.grownBy.refl w none)⟩ ?_)))))))))
 rintro mm gu gb ⟨k, gl, hk, hall, ak, ae, al⟩
 refine Xk (Xa (wpo_move (v := vi (k : Int)) ak Z (wpo_move (v := .slice a ms.length c) ae Z (wpo_len (by kernel_rfl) Z Z (wpo_lss (q := decide ((k : Int) < (ms.length : Int))) Z Z Z Z (wpo_nil (Xt Z (fun aj => ?_) (fun aj => ?_))))))))
 have gy := of_decide_eq_true aj
 refine Xn (Xo (Xk (Xv (Xk (Xu (fun f' w' => (f' 0 = .slice a ms.length c ∧ f' 3 = vi (k : Int) ∧ f' 48 = vb ((!thingOk (mAt ms k).t) || ((decide ((mAt ms k).t.kind = 5)) && ((decide ((ms.length : Int) < (mAt ms k).t.to)) || (!(decide ((mj ms (mAt ms k).t.to).t.kind = 1))))))) ∧ gb.grownBy w' none) ?_ ?_)))))
 refine wpo_move (v := .slice a ms.length c) ae Z (wpo_move (v := vi (k : Int)) ak Z ?_)
 obtain ⟨gp, im, bu, aq, ar, au⟩ := SlAt.at (TabAt.low ht al).1 (Yw (xg ms k))
 have gg := TabLen.at hlen (xg ms k)
 refine X6 Qj Z Z aq ar (by omega) (by omega) Z (wpo_loadn (vs := [vi (mAt ms k).t.kind, vi (mAt ms k).t.lab.s, vi (mAt ms k).t.lab.v, vi (mAt ms k).t.ve, vi (mAt ms k).t.num, .slice (mAt ms k).sa (mAt ms k).t.slots.length (mAt ms k).sc, .slice (mAt ms k).qa (mAt ms k).t.queue.length (mAt ms k).qc, vi (mAt ms k).t.to]) X0 Z Z (Qh au 0 8 Z) Z (Xi Rh (Xb Z Xg) Z (Va (mAt ms k) _ (TabAt.th (TabAt.low ht al) (xg ms k)).1 (TabAt.th (TabAt.low ht al) (xg ms k)).2.1 (by first | omega | exact Nat.le_of_ble_eq_true rfl | (simp only [List.length_nil, List.length_cons, List.length_append, List.length_replicate]; omega)) (by first | omega | exact Nat.le_of_ble_eq_true rfl | (simp only [List.length_nil, List.length_cons, List.length_append, List.length_replicate]; omega))) ?_))
 rintro _ is ⟨rfl, ah⟩
 have ce := low0 al ah
 refine wpo_not (b' := !thingOk (mAt ms k).t) Z Z Z (wpo_move (v := vb (!thingOk (mAt ms k).t)) Z Z ?_)
 rcases Xz (!thingOk (mAt ms k).t) with V | V
 have f7 := Je V
 iterate 7 refine Xe rfl rfl rfl V rfl ?_
 iterate 21 refine X2 rfl rfl rfl rfl ?_
 exact Xe Z Z Z V Z (wpo_pickt (v := vb true) Z V Z Z (wpo_nil ⟨⟨ae, ak, (cB (by simp [aj, V, f7]))⟩, ah⟩))
 have a8 := Qx V
 refine Xd Z Z Z V (wpo_move (v := .slice a ms.length c) ae Z (Xd Z Z Z V (wpo_move (v := vi (k : Int)) ak Z (Xd Z Z Z V (X6 Qj Z Z aq ar (by omega) (by omega) Z (Xd Z Z Z V (wpo_fieldAddr (o' := bu) X7 Z Z Z (Xd Z Z Z V (wpo_load1 (v := vi (mAt ms k).t.kind) X1 Z ((Y8 au ah) 0 _ Z) Z (Xd Z Z Z V (wpo_eql (q := decide ((mAt ms k).t.kind = 5)) Z Z Z Z (Xd Z Z Z V ?_))))))))))))
 refine wpo_move (v := vb (decide ((mAt ms k).t.kind = 5))) Z Z ?_
 rcases Xz (decide ((mAt ms k).t.kind = 5)) with ab | ab
 have gc := Hs a8 ab
 have gz := of_decide_eq_true ab
 refine Xd Z Z Z ab (wpo_move (v := .slice a ms.length c) ae Z (Xd Z Z Z ab (wpo_move (v := vi (k : Int)) ak Z (Xd Z Z Z ab (X6 Qj Z Z aq ar (by omega) (by omega) Z (Xd Z Z Z ab (wpo_fieldAddr (o' := bu + 7) Jv Z Z Z (Xd Z Z Z ab (wpo_load1 (v := vi (mAt ms k).t.to) X1 Z ((Y8 au ah) 7 _ Z) Z (Xd Z Z Z ab (wpo_move (v := .slice a ms.length c) ae Z (Xd Z Z Z ab ?_))))))))))))
 refine wpo_len (by kernel_rfl) Z Z (Xd Z Z Z ab (wpo_gtr (q := decide ((ms.length : Int) < (mAt ms k).t.to)) Z Z Z Z (Xd Z Z Z ab (wpo_move (v := vb (decide ((ms.length : Int) < (mAt ms k).t.to))) Z Z ?_))))
 rcases Xz (decide ((ms.length : Int) < (mAt ms k).t.to)) with ac | ac
 have g4 := of_decide_eq_true ac
 iterate 11 refine Xe rfl rfl rfl ac rfl ?_
 exact Xd Z Z Z ab (wpo_pickt (v := vb true) Z ac Z Z (Xd Z Z Z V (wpo_pickt (v := vb true) Z ab Z Z (wpo_pickf (v := vb true) Z V Z Z (wpo_nil ⟨⟨ae, ak, (cB (by simp [aj, V, a8, ab, ac]))⟩, ah⟩)))))
 have g7 := of_decide_eq_false ac
 refine Xd Z Z Z ac (wpo_move (v := .slice a ms.length c) ae Z (Xd Z Z Z ac (wpo_move (v := .slice a ms.length c) ae Z (Xd Z Z Z ac (wpo_move (v := vi (k : Int)) ak Z (Xd Z Z Z ac (X6 Qj Z Z aq ar (by omega) (by omega) Z (Xd Z Z Z ac (wpo_fieldAddr (o' := bu + 7) Jv Z Z Z (Xd Z Z Z ac (wpo_load1 (v := vi (mAt ms k).t.to) X1 Z ((Y8 au ah) 7 _ Z) Z (Xd Z Z Z ac ?_))))))))))))
 refine wpo_sub (c := (mAt ms k).t.to - 1) Z Z (by omega) (by omega) (by omega) Z (Xd Z Z Z ac ?_)
 obtain ⟨gq, io, f9, ca, fi, fm⟩ := SlAt.at (TabAt.low ht ce).1 (Yw (xg ms ((mAt ms k).t.to - 1).toNat))
 have gh := TabLen.at hlen (xg ms ((mAt ms k).t.to - 1).toNat)
 exact X6 Qj Z Z ca fi (by omega) (by omega) Z (Xd Z Z Z ac (wpo_fieldAddr (o' := f9) X7 Z Z Z (Xd Z Z Z ac (wpo_load1 (v := vi (mj ms (mAt ms k).t.to).t.kind) X1 Z (fm 0 _ Z) Z (Xd Z Z Z ac (wpo_neq (q := !(decide ((mj ms (mAt ms k).t.to).t.kind = 1))) Z Z Z Z (Xd Z Z Z ab (wpo_pickf (v := vb (!(decide ((mj ms (mAt ms k).t.to).t.kind = 1)))) Z ac Z Z (Xd Z Z Z V (wpo_pickt (v := vb (!(decide ((mj ms (mAt ms k).t.to).t.kind = 1)))) Z ab Z Z (wpo_pickf (v := vb (!(decide ((mj ms (mAt ms k).t.to).t.kind = 1)))) Z V Z Z (wpo_nil ⟨⟨ae, ak, (cB (by simp [aj, V, a8, ab, ac]))⟩, ah⟩))))))))))))
 have g8 := of_decide_eq_false ab
 iterate 9 refine Xe rfl rfl rfl ab rfl ?_
 iterate 11 refine X2 rfl rfl rfl rfl ?_
 exact Xe Z Z Z ab Z (Xd Z Z Z V (wpo_pickf (v := vb false) Z ab Z Z (wpo_pickf (v := vb false) Z V Z Z (wpo_nil ⟨⟨ae, ak, (cB (by simp [aj, V, a8, ab]))⟩, ah⟩))))
 rintro gv it ⟨⟨ft, fu, fv⟩, cg⟩
 have bf := low0 al cg
 refine Xt fv (fun af => ?_) (fun af => ?_)
 refine Xa (wpo_assign (v := vb false) Z Z (wpo_nil (Xm (Ya (Qv (Ya (Ya (Qv (Ya (⟨vb false, res1 Z Z, ?_, bf⟩))))))))))
 exact cB (Z8 (by omega) ((Vr Z).1 af))
 have a9 := K5 af
 have bc := Qx a9
 have bd := K6 af
 refine Xn (Xo (Xa (wpo_assign (v := vi 0) Z Z (wpo_nil (Xv (Yg (fun mm f' w' => ∃ (j : Nat), mm = (mAt ms k).t.slots.length - j ∧ j ≤ (mAt ms k).t.slots.length ∧ (((mAt ms k).t.slots.take j).all (rightTo (tabT ms))) = true ∧ f' 4 = vi (j : Int) ∧ f' 0 = .slice a ms.length c ∧ f' 3 = vi (k : Int) ∧ w.grownBy w' none) ((mAt ms k).t.slots.length - 0) ⟨0, Z, (Nat.zero_le _), Z, Z, ft, fu, bf⟩ ?_))))))
 rintro mm gw iu ⟨j, gm, hj, hrs, av, ai, ao, an⟩
 have hR0 : ∀ j, j < (mAt ms k).t.slots.length → 0 ≤ (rAt (mAt ms k).t.slots j).th ∧ (rAt (mAt ms k).t.slots j).th ≤ 8 := fun j hj => Lr ((Vr rfl).2 af).1 (V0 hj)
 refine Xk (Xa (wpo_move (v := vi (j : Int)) av Z (wpo_move (v := .slice a ms.length c) ai Z (wpo_move (v := vi (k : Int)) ao Z ?_))))
 obtain ⟨gr, ip, bz, be, br, bt⟩ := SlAt.at (TabAt.low ht an).1 (Yw (xg ms k))
 have gi := TabLen.at hlen (xg ms k)
 refine X6 Qj Z Z be br (by omega) (by omega) Z (wpo_fieldAddr (o' := bz + 5) Qe Z Z Z (wpo_load1 (v := .slice (mAt ms k).sa (mAt ms k).t.slots.length (mAt ms k).sc) Jt Z (bt 5 _ Z) Z (wpo_len (by kernel_rfl) Z Z (wpo_lss (q := decide ((j : Int) < ((mAt ms k).t.slots.length : Int))) Z Z Z Z (wpo_nil (Xt Z (fun ap => ?_) (fun ap => ?_)))))))
 have g9 := of_decide_eq_true ap
 refine Xn (Xo (Xk (Xv (Xa (wpo_move (v := .slice a ms.length c) ai Z (wpo_move (v := vi (k : Int)) ao Z (X6 Qj Z Z be br (by omega) (by omega) Z (wpo_fieldAddr (o' := bz + 5) Qe Z Z Z (wpo_load1 (v := .slice (mAt ms k).sa (mAt ms k).t.slots.length (mAt ms k).sc) Jt Z (bt 5 _ Z) Z (wpo_move (v := vi (j : Int)) av Z ?_))))))))))
 obtain ⟨gt, iq, il, cc, fj, fp⟩ := SlAt.at (TabAt.th (TabAt.low ht an) (xg ms k)).1 (Yw (xr (mAt ms k).t.slots j))
 refine X6 G2 Z Z cc fj (by omega) (by omega) Z (wpo_loadn (vs := [vi (rAt (mAt ms k).t.slots j).th, vi (rAt (mAt ms k).t.slots j).ve, vb (rAt (mAt ms k).t.slots j).rd, vb (rAt (mAt ms k).t.slots j).wr, vb (rAt (mAt ms k).t.slots j).wk]) Y9 Z Z (Qh fp 0 5 Z) Z (wpo_alloc (cs := #[vi 0, vi 0, vb false, vb false, vb false]) Lw Z Z ?_))
 intro am iv az
 have gf := Xy az an
 refine wpo_storen (vs := [vi (rAt (mAt ms k).t.slots j).th, vi (rAt (mAt ms k).t.slots j).ve, vb (rAt (mAt ms k).t.slots j).rd, vb (rAt (mAt ms k).t.slots j).wr, vb (rAt (mAt ms k).t.slots j).wk]) (cs' := #[vi (rAt (mAt ms k).t.slots j).th, vi (rAt (mAt ms k).t.slots j).ve, vb (rAt (mAt ms k).t.slots j).rd, vb (rAt (mAt ms k).t.slots j).wr, vb (rAt (mAt ms k).t.slots j).wk]) Y9 Z Z Z (by simp [Value.oneCell']) az.blk (Nat.le_of_ble_eq_true Z) Z ?_
 intro ba ag
 have bg := low1 (low0 an az.grw) ag.grw (by omega)
 refine wpo_nil (Km (fun f' w' => (f' 0 = .slice a ms.length c ∧ f' 3 = vi (k : Int) ∧ f' 4 = vi (j : Int) ∧ f' 88 = vb ((decide ((ms.length : Int) < (rAt (mAt ms k).t.slots j).th)) || ((decide (0 < (rAt (mAt ms k).t.slots j).th)) && (decide ((mj ms (rAt (mAt ms k).t.slots j).th).t.ve < (rAt (mAt ms k).t.slots j).ve))))) ∧ ba.grownBy w' none) ?_ ?_)
 rcases Xz (decide ((ms.length : Int) < (rAt (mAt ms k).t.slots j).th)) with O | O
 have ia := of_decide_eq_true O
 refine Yl (m := 19) (vals := [(67, pt am 0), (68, vi (rAt (mAt ms k).t.slots j).th), (69, .slice a ms.length c), (70, vi (ms.length : Int)), (71, vb (decide ((ms.length : Int) < (rAt (mAt ms k).t.slots j).th))), (72, vb (decide ((ms.length : Int) < (rAt (mAt ms k).t.slots j).th))), (73, undef), (74, undef), (75, undef), (76, undef), (77, undef), (78, undef), (79, undef), (80, undef), (81, undef), (82, undef), (83, undef), (84, undef), (85, undef)]) (fun w' => ba.grownBy w' none) Yu (by kernel_rfl) (Xx _) ?_ ?_
 refine Xc Z (fun iw cm => ?_) ?_
 exact wpo_fieldAddr (o' := 0) Qp Z Z Z (wpo_nil ⟨Z, cm⟩)
 refine Xc Z (fun ix bi => ?_) ?_
 exact wpo_load1 (v := vi (rAt (mAt ms k).t.slots j).th) X1 Z ((ag.blk.grown0 bi).cell Z) Z (wpo_nil ⟨Z, bi⟩)
 refine Xc Z (fun iy cn => ?_) ?_
 exact wpo_move (v := .slice a ms.length c) ai Z (wpo_nil ⟨Z, cn⟩)
 refine Xc Z (fun iz co => ?_) ?_
 exact wpo_len (by kernel_rfl) Z Z (wpo_nil ⟨Z, co⟩)
 refine Xc Z (fun i0 cw => ?_) ?_
 exact wpo_gtr (q := decide ((ms.length : Int) < (rAt (mAt ms k).t.slots j).th)) Z Z Z Z (wpo_nil ⟨Z, cw⟩)
 refine Xc Z (fun i1 cx => ?_) ?_
 exact wpo_move (v := vb (decide ((ms.length : Int) < (rAt (mAt ms k).t.slots j).th))) Z Z (wpo_nil ⟨Z, cx⟩)
 refine Xc Z (fun i2 cy => ?_) ?_
 exact Xe Z Z Z O Z (wpo_nil ⟨Z, cy⟩)
 refine Xc Z (fun i3 cz => ?_) ?_
 exact Xe Z Z Z O Z (wpo_nil ⟨Z, cz⟩)
 refine Xc Z (fun i4 da => ?_) ?_
 exact Xe Z Z Z O Z (wpo_nil ⟨Z, da⟩)
 refine Xc Z (fun i5 db => ?_) ?_
 exact Xe Z Z Z O Z (wpo_nil ⟨Z, db⟩)
 refine Xc Z (fun i6 dc => ?_) ?_
 exact X2 Z Z Z Z (wpo_nil ⟨Z, dc⟩)
 refine Xc Z (fun i7 de => ?_) ?_
 exact X2 Z Z Z Z (wpo_nil ⟨Z, de⟩)
 refine Xc Z (fun i8 dh => ?_) ?_
 exact X2 Z Z Z Z (wpo_nil ⟨Z, dh⟩)
 refine Xc Z (fun i9 di => ?_) ?_
 exact X2 Z Z Z Z (wpo_nil ⟨Z, di⟩)
 refine Xc Z (fun ja dk => ?_) ?_
 exact X2 Z Z Z Z (wpo_nil ⟨Z, dk⟩)
 refine Xc Z (fun jb dl => ?_) ?_
 exact X2 Z Z Z Z (wpo_nil ⟨Z, dl⟩)
 refine Xc Z (fun jc dm => ?_) ?_
 exact X2 Z Z Z Z (wpo_nil ⟨Z, dm⟩)
 refine Xc Z (fun jd dn => ?_) ?_
 exact X2 Z Z Z Z (wpo_nil ⟨Z, dn⟩)
 refine Xc Z (fun je dp => ?_) ?_
 exact X2 Z Z Z Z (wpo_nil ⟨Z, dp⟩)
 exact Y2
 intro jf dq
 exact X2 Z Z Z Z (Xe Z Z Z O Z (wpo_pickt (v := vb true) Z O Z Z (wpo_nil (Xo ⟨⟨ai, ao, av, (cB (by simp [aj, af, a9, bc, bd, ap, O]))⟩, dq⟩))))
 have ib := of_decide_eq_false O
 rcases Xz (decide (0 < (rAt (mAt ms k).t.slots j).th)) with E | E
 have ic := of_decide_eq_true E
 obtain ⟨bw, ir, bv, cd, fk, fq⟩ := SlAt.at (TabAt.low ht bg).1 (Yw (xg ms ((rAt (mAt ms k).t.slots j).th - 1).toNat))
 have gj := TabLen.at hlen (xg ms ((rAt (mAt ms k).t.slots j).th - 1).toNat)
 refine Yl (m := 19) (vals := [(67, pt am 0), (68, vi (rAt (mAt ms k).t.slots j).th), (69, .slice a ms.length c), (70, vi (ms.length : Int)), (71, vb (decide ((ms.length : Int) < (rAt (mAt ms k).t.slots j).th))), (72, vb (decide ((ms.length : Int) < (rAt (mAt ms k).t.slots j).th))), (73, pt am 0), (74, vi (rAt (mAt ms k).t.slots j).th), (75, vb (decide (0 < (rAt (mAt ms k).t.slots j).th))), (76, vb (decide (0 < (rAt (mAt ms k).t.slots j).th))), (77, pt am 1), (78, vi (rAt (mAt ms k).t.slots j).ve), (79, .slice a ms.length c), (80, pt am 0), (81, vi (rAt (mAt ms k).t.slots j).th), (82, vi ((rAt (mAt ms k).t.slots j).th - 1)), (83, pt bw bv), (84, pt bw (bv + 3)), (85, vi (mj ms (rAt (mAt ms k).t.slots j).th).t.ve)]) (fun w' => ba.grownBy w' none) Yu (by kernel_rfl) (Xx _) ?_ ?_
 refine Xc Z (fun jg dr => ?_) ?_
 exact wpo_fieldAddr (o' := 0) Qp Z Z Z (wpo_nil ⟨Z, dr⟩)
 refine Xc Z (fun jh bj => ?_) ?_
 exact wpo_load1 (v := vi (rAt (mAt ms k).t.slots j).th) X1 Z ((ag.blk.grown0 bj).cell Z) Z (wpo_nil ⟨Z, bj⟩)
 refine Xc Z (fun ji dt => ?_) ?_
 exact wpo_move (v := .slice a ms.length c) ai Z (wpo_nil ⟨Z, dt⟩)
 refine Xc Z (fun jj du => ?_) ?_
 exact wpo_len (by kernel_rfl) Z Z (wpo_nil ⟨Z, du⟩)
 refine Xc Z (fun jk dv => ?_) ?_
 exact wpo_gtr (q := decide ((ms.length : Int) < (rAt (mAt ms k).t.slots j).th)) Z Z Z Z (wpo_nil ⟨Z, dv⟩)
 refine Xc Z (fun jl dw => ?_) ?_
 exact wpo_move (v := vb (decide ((ms.length : Int) < (rAt (mAt ms k).t.slots j).th))) Z Z (wpo_nil ⟨Z, dw⟩)
 refine Xc Z (fun jm dx => ?_) ?_
 exact Xd Z Z Z O (wpo_fieldAddr (o' := 0) Qp Z Z Z (wpo_nil ⟨Z, dx⟩))
 refine Xc Z (fun jo bk => ?_) ?_
 exact Xd Z Z Z O (wpo_load1 (v := vi (rAt (mAt ms k).t.slots j).th) X1 Z ((ag.blk.grown0 bk).cell Z) Z (wpo_nil ⟨Z, bk⟩))
 refine Xc Z (fun jp dz => ?_) ?_
 exact Xd Z Z Z O (wpo_gtr (q := decide (0 < (rAt (mAt ms k).t.slots j).th)) Z Z Z Z (wpo_nil ⟨Z, dz⟩))
 refine Xc Z (fun jq d0 => ?_) ?_
 exact Xd Z Z Z O (wpo_move (v := vb (decide (0 < (rAt (mAt ms k).t.slots j).th))) Z Z (wpo_nil ⟨Z, d0⟩))
 refine Xc Z (fun jr d5 => ?_) ?_
 exact Xd Z Z Z E (wpo_fieldAddr (o' := 1) J4 Z Z Z (wpo_nil ⟨Z, d5⟩))
 refine Xc Z (fun js bl => ?_) ?_
 exact Xd Z Z Z E (wpo_load1 (v := vi (rAt (mAt ms k).t.slots j).ve) X1 Z ((ag.blk.grown0 bl).cell Z) Z (wpo_nil ⟨Z, bl⟩))
 refine Xc Z (fun jt d6 => ?_) ?_
 exact Xd Z Z Z E (wpo_move (v := .slice a ms.length c) ai Z (wpo_nil ⟨Z, d6⟩))
 refine Xc Z (fun ju d7 => ?_) ?_
 exact Xd Z Z Z E (wpo_fieldAddr (o' := 0) Qp Z Z Z (wpo_nil ⟨Z, d7⟩))
 refine Xc Z (fun jv bm => ?_) ?_
 exact Xd Z Z Z E (wpo_load1 (v := vi (rAt (mAt ms k).t.slots j).th) X1 Z ((ag.blk.grown0 bm).cell Z) Z (wpo_nil ⟨Z, bm⟩))
 refine Xc Z (fun jw d8 => ?_) ?_
 exact Xd Z Z Z E (wpo_sub (c := (rAt (mAt ms k).t.slots j).th - 1) Z Z (by omega) (by omega) (by omega) Z (wpo_nil ⟨Z, d8⟩))
 refine Xc Z (fun jy d9 => ?_) ?_
 exact Xd Z Z Z E (X6 Qj Z Z cd fk (by omega) (by omega) Z (wpo_nil ⟨Z, d9⟩))
 refine Xc Z (fun jz ea => ?_) ?_
 exact Xd Z Z Z E (wpo_fieldAddr (o' := bv + 3) Q5 Z Z Z (wpo_nil ⟨Z, ea⟩))
 refine Xc Z (fun j1 bn => ?_) ?_
 exact Xd Z Z Z E (wpo_load1 (v := vi (mj ms (rAt (mAt ms k).t.slots j).th).t.ve) X1 Z ((Y8 fq bn) 3 _ Z) Z (wpo_nil ⟨Z, bn⟩))
 exact Y2
 intro j2 ed
 exact Xd Z Z Z E (wpo_gtr (q := decide ((mj ms (rAt (mAt ms k).t.slots j).th).t.ve < (rAt (mAt ms k).t.slots j).ve)) Z Z Z Z (Xd Z Z Z O (wpo_pickt (v := vb (decide ((mj ms (rAt (mAt ms k).t.slots j).th).t.ve < (rAt (mAt ms k).t.slots j).ve))) Z E Z Z (wpo_pickf (v := vb (decide ((mj ms (rAt (mAt ms k).t.slots j).th).t.ve < (rAt (mAt ms k).t.slots j).ve))) Z O Z Z (wpo_nil (Xo ⟨⟨ai, ao, av, (cB (by simp [aj, af, a9, bc, bd, ap, O, E]))⟩, ed⟩))))))
 have ie := of_decide_eq_false E
 refine Yl (m := 19) (vals := [(67, pt am 0), (68, vi (rAt (mAt ms k).t.slots j).th), (69, .slice a ms.length c), (70, vi (ms.length : Int)), (71, vb (decide ((ms.length : Int) < (rAt (mAt ms k).t.slots j).th))), (72, vb (decide ((ms.length : Int) < (rAt (mAt ms k).t.slots j).th))), (73, pt am 0), (74, vi (rAt (mAt ms k).t.slots j).th), (75, vb (decide (0 < (rAt (mAt ms k).t.slots j).th))), (76, vb (decide (0 < (rAt (mAt ms k).t.slots j).th))), (77, undef), (78, undef), (79, undef), (80, undef), (81, undef), (82, undef), (83, undef), (84, undef), (85, undef)]) (fun w' => ba.grownBy w' none) Yu (by kernel_rfl) (Xx _) ?_ ?_
 refine Xc Z (fun j3 ee => ?_) ?_
 exact wpo_fieldAddr (o' := 0) Qp Z Z Z (wpo_nil ⟨Z, ee⟩)
 refine Xc Z (fun j4 bp => ?_) ?_
 exact wpo_load1 (v := vi (rAt (mAt ms k).t.slots j).th) X1 Z ((ag.blk.grown0 bp).cell Z) Z (wpo_nil ⟨Z, bp⟩)
 refine Xc Z (fun j5 ef => ?_) ?_
 exact wpo_move (v := .slice a ms.length c) ai Z (wpo_nil ⟨Z, ef⟩)
 refine Xc Z (fun j6 eh => ?_) ?_
 exact wpo_len (by kernel_rfl) Z Z (wpo_nil ⟨Z, eh⟩)
 refine Xc Z (fun j7 ei => ?_) ?_
 exact wpo_gtr (q := decide ((ms.length : Int) < (rAt (mAt ms k).t.slots j).th)) Z Z Z Z (wpo_nil ⟨Z, ei⟩)
 refine Xc Z (fun j8 ej => ?_) ?_
 exact wpo_move (v := vb (decide ((ms.length : Int) < (rAt (mAt ms k).t.slots j).th))) Z Z (wpo_nil ⟨Z, ej⟩)
 refine Xc Z (fun j9 eu => ?_) ?_
 exact Xd Z Z Z O (wpo_fieldAddr (o' := 0) Qp Z Z Z (wpo_nil ⟨Z, eu⟩))
 refine Xc Z (fun ka bq => ?_) ?_
 exact Xd Z Z Z O (wpo_load1 (v := vi (rAt (mAt ms k).t.slots j).th) X1 Z ((ag.blk.grown0 bq).cell Z) Z (wpo_nil ⟨Z, bq⟩))
 refine Xc Z (fun kb ew => ?_) ?_
 exact Xd Z Z Z O (wpo_gtr (q := decide (0 < (rAt (mAt ms k).t.slots j).th)) Z Z Z Z (wpo_nil ⟨Z, ew⟩))
 refine Xc Z (fun kc ex => ?_) ?_
 exact Xd Z Z Z O (wpo_move (v := vb (decide (0 < (rAt (mAt ms k).t.slots j).th))) Z Z (wpo_nil ⟨Z, ex⟩))
 refine Xc Z (fun ke ey => ?_) ?_
 exact Xe Z Z Z E Z (wpo_nil ⟨Z, ey⟩)
 refine Xc Z (fun kf ez => ?_) ?_
 exact Xe Z Z Z E Z (wpo_nil ⟨Z, ez⟩)
 refine Xc Z (fun kg fa => ?_) ?_
 exact Xe Z Z Z E Z (wpo_nil ⟨Z, fa⟩)
 refine Xc Z (fun kh fb => ?_) ?_
 exact Xe Z Z Z E Z (wpo_nil ⟨Z, fb⟩)
 refine Xc Z (fun ki fc => ?_) ?_
 exact Xe Z Z Z E Z (wpo_nil ⟨Z, fc⟩)
 refine Xc Z (fun kl fd => ?_) ?_
 exact Xe Z Z Z E Z (wpo_nil ⟨Z, fd⟩)
 refine Xc Z (fun km fe => ?_) ?_
 exact Xe Z Z Z E Z (wpo_nil ⟨Z, fe⟩)
 refine Xc Z (fun ko ff => ?_) ?_
 exact Xe Z Z Z E Z (wpo_nil ⟨Z, ff⟩)
 refine Xc Z (fun kp fg => ?_) ?_
 exact Xe Z Z Z E Z (wpo_nil ⟨Z, fg⟩)
 exact Y2
 intro kq fh
 exact Xe Z Z Z E Z (Xd Z Z Z O (wpo_pickf (v := vb false) Z E Z Z (wpo_pickf (v := vb false) Z O Z Z (wpo_nil (Xo ⟨⟨ai, ao, av, (cB (by simp [aj, af, a9, bc, bd, ap, O, E]))⟩, fh⟩)))))
 rintro gx kr ⟨⟨fw, fx, fy, fz⟩, cj⟩
 have bh := low0 bg cj
 refine Xt fz (fun aw => ?_) (fun aw => ?_)
 refine Xa (wpo_assign (v := vb false) Z Z (wpo_nil (Xm (Qv (Ya (Ya (Qv (Qv (Ya (Ya (Qv (Ya ?_))))))))))))
 refine ⟨vb false, res1 Z Z, ?_, bh⟩
 exact cB (Z8 (by omega) (Xbo (V0 (by omega)) (Je ((Ng (Lr ((Vr Z).2 af).1 (V0 (by omega))).1).symm.trans aw))))
 have f8 := K5 aw
 have ig := of_decide_eq_false f8
 have ii := K6 aw
 exact Xn (Y3 (Xo (Xr (wpo_move (v := vi (j : Int)) fy Z (wpo_add (c := (j : Int) + 1) Z Z (by omega) (by omega) (by omega) Z (wpo_assign (v := vi ((j : Int) + 1)) Z Z (wpo_nil (Xo (⟨(mAt ms k).t.slots.length - (j + 1), by omega, (j + 1), rfl, (by omega), (Ji hrs (V0 (by omega)) (Qx ((Ng (Lr ((Vr rfl).2 af).1 (V0 (by omega))).1).symm.trans aw))), rfl, fw, fx, bh⟩)))))))))
 have ij := of_decide_eq_false ap
 exact Yo (Yx (Yx (Jm (Y3 (Xo (Xr (wpo_move (v := vi (k : Int)) ao Z (wpo_add (c := (k : Int) + 1) Z Z (by omega) (by omega) (by omega) Z (wpo_assign (v := vi ((k : Int) + 1)) Z Z (wpo_nil (Xo (⟨ms.length - (k + 1), by omega, (k + 1), rfl, (by omega), (Ji hall (Wl (by omega)) (Xbp ((Vr rfl).2 af).1 ((Vr rfl).2 af).2 hrs (by omega))), rfl, ai, an⟩))))))))))))
 have ik := of_decide_eq_false aj
 refine Yo (Yx (Yx (Jm (Xo (Xa (wpo_move (v := .slice a ms.length c) ae Z (wpo_len (by kernel_rfl) Z Z (Xi Ue (Xb Z (Xb Z (Xb Z Xg))) Z (K4 (ms.length : Int) 1 8 _) ?_))))))))
 rintro _ ks ⟨rfl, ck⟩
 refine wpo_assign (v := vb (inR (ms.length : Int) 1 8)) Z Z (wpo_nil (Xm (⟨vb (inR (ms.length : Int) 1 8), res1 Z Z, ?_, (low0 al ck)⟩)))
 exact cB (Xbw hall (by omega))
end Go.Dw.J
end
section
namespace Go.Dw.J
open Go.Dw Go.RowKit
open Go.Conc (G)
set_option linter.unusedVariables false
set_option linter.unusedSimpArgs false
set_option linter.unusedSectionVars false
section
variable {P : Program}
theorem U1 (l : Nat) : Quiet P (Instr.getLoop l) := fun o h => by
  cases o <;> first
    | exact h.elim
    | exact Or.inl ⟨rfl, trivial⟩
    | exact Or.inr trivial
theorem U2 (l : Nat) (r : Loop) : Quiet P (setObj l (.loop r)) := ⟨⟨trivial, trivial, rfl⟩, trivial⟩
theorem Iz (r : Loop) : Quiet P (newObj (.loop r)) := ⟨trivial, fun _ => trivial⟩
theorem Zv (r : Option (List Deferred)) : Quiet P (newObj (.deferred r)) := ⟨trivial, fun _ => trivial⟩
theorem Xbm (l : Nat) (args : Array Value) : Quiet P (Instr.yield l args) := by
  unfold Instr.yield
  refine qb (U1 l) fun r => ?_
  split
  · exact qb (Qc _) fun _ => qp _
  · exact qp _
theorem N7 (l : Nat) : Quiet P (Instr.beginRound l) := by
  unfold Instr.beginRound
  refine qb (U1 l) fun r => qb (U2 l _) fun _ => ?_
  split <;> first | exact qp _ | exact X9 _
theorem Tp (l : Nat) (j : Option Code) : Quiet P (Instr.endRound l j) := by
  unfold Instr.endRound
  exact qb (U1 l) fun r => qb (U2 l _) fun _ => qp _
theorem Nb (l : Nat) : Quiet P (Instr.endLoop l) := by
  unfold Instr.endLoop
  refine qb (U1 l) fun r => ?_
  split
  · exact qb (X9 _) fun _ => qb (U2 l _) fun _ => qp _
  · exact qb (U2 l _) fun _ => qp _
theorem R2 (fn : FuncId) (tmps : Array Value) (ps : Array Tmp) (assign body : Code) : Quiet P (Instr.enterLoop fn tmps ps assign body none) := by
  unfold Instr.enterLoop
  dsimp only
  exact qb (Zv _) fun _ => qb (qp _) fun _ => qb (Iz _) fun _ => qp _
theorem Lj (D : Nat) : Quiet P (Instr.takeDeferred D) := fun o h => by
  cases o with
  | deferred r =>
    cases r with
    | none => exact Or.inl ⟨rfl, trivial⟩
    | some ds => exact Or.inl ⟨rfl, ⟨trivial, trivial, rfl⟩, trivial⟩
  | cells _ _ _ => exact h.elim
  | _ => exact Or.inr trivial
end
section
variable [Comp] {P : Program}
def YieldAt (P : Program) (l : Nat) (args : Array Value) (W : World) (R : Value → World → Prop) : Prop :=
  ∃ fn tmps assign body, (∀ A1, Ext W A1 → (Instr.yield l args).run P A1 = .ok (.round l fn tmps assign body) A1) ∧ FrameR P (Frame.round l fn tmps assign body .normal) W R
variable {n : Nat} {ops : Array Oper} {K : Fr → World → Prop} {l : List Oper} {f : Fr} {w : World} {o : Oper} {ty : TypeId} {pos : String} {aft : Array Edge} {d : Nat}
theorem Ol {x : Operand} {args : Array Operand} {ats : Array TypeId} {lr : Nat} {vs : List Value} {R : Value → World → Prop} (hx : ev f x = .func (.yield lr) #[] #[]) (ha : args.toList.map (ev f) = vs) (hd : Nat.blt d n = true) (hy : YieldAt P lr vs.toArray w R)
    (h : ∀ v w', R v w' → WpO P n ops K l (up f d v) w') : WpO P n ops K (⟨some d, .call ⟨.value x, args, ats⟩, ty, pos, aft, none⟩ :: l) f w := fun a hfa => by
  obtain ⟨fn, tmps, assign, body, hr, hR⟩ := hy
  have e1 : args.map (ev f) = vs.toArray := by rw [← ha]; apply Array.ext'; simp
  have e2 : execOp (ev f) ⟨some d, .call ⟨.value x, args, ats⟩, ty, pos, aft, none⟩ = (Deferred.ofValue (ev f x) (args.map (ev f)) >>= fun d => invoke d.target d.args) := rfl
  have e3 : execOp (ev f) ⟨some d, .call ⟨.value x, args, ats⟩, ty, pos, aft, none⟩ = Instr.yield lr (#[] ++ vs.toArray) := by
    rw [e2, hx, e1]
    rfl
  have e4 : #[] ++ vs.toArray = vs.toArray := by simp
  rw [e4] at e3
  refine Or.inl ⟨by simp [Region.wanted], Or.inr ⟨R, U7 (by rw [hfa.eval, e3]; exact Xbm _ _) (fun A1 hE => ⟨_, by rw [hfa.eval, e3]; exact hr A1 hE, Or.inr ⟨lr, fn, tmps, assign, body, rfl, rfl⟩⟩) hR, fun v A' hRv => ⟨_, hfa.put hd v, h v A' hRv⟩⟩⟩
def SeqStops {α : Type} (P : Program) (g : Nat) (lb : Array Value) (encs : α → Array Value) (Kp : World → World → Prop) (S Sp : List α → Prop) (N : Nat) (w : World) : Prop :=
  ∀ (l : Nat) (J Jx : List α → World → Prop) (W : World), Below w.heap.size w W → AbidesFrom W.heap.size J → AbidesFrom W.heap.size Jx →
    (∀ pre x W1, J pre W1 → pre.length < N → YieldAt P l (encs x) W1 fun v W' => (v = .bool true ∧ J (pre ++ [x]) W' ∧ Kp W1 W') ∨ (v = .bool false ∧ Jx (pre ++ [x]) W')) →
    J [] W → CallsR P g (#[.func (.yield l) #[] #[]] ++ lb) W fun v W' => (∃ xs, S xs ∧ J xs W') ∨ (∃ pre, Sp pre ∧ Jx pre W')
end
def lp (st : LoopState) (pd : Option Code) (fn : FuncId) (tmps : Array Value) (ps : Array Tmp) (assign body : Code) (D : Nat) : Obj := .loop { state := st, pending := pd, fn, tmps, params := ps, assign, body, defers := D }
theorem K7 {W : World} {l j : Nat} {o : Obj} (h : l ≠ j) : (W.putObj l o).heap[j]? = W.heap[j]? := by simp [World.putObj, Array.getElem?_setIfInBounds_ne h]
theorem Ui {W : World} {l : Nat} {o o' : Obj} (h : W.heap[l]? = some o') : (W.putObj l o).heap[l]? = some o := by
  have := (Array.getElem?_eq_some_iff.1 h).1
  simp [World.putObj, this]
theorem Xa1 {A A1 : World} {l : Nat} {o : Obj} (hE : Ext A A1) (hl : l < A.heap.size) : Ext (A.putObj l o) (norm A (A1.putObj l o)) := by
  obtain ⟨m, h1, h2, h3⟩ := hE
  refine ⟨m, ?_, h2, h3⟩
  show A1.heap.setIfInBounds l o = A.heap.setIfInBounds l o ++ Array.replicate m pz
  rw [h1]
  apply Array.ext'
  simp [List.set_append, hl]
section
variable [Comp] {P : Program} {J : Goroutine → World → Prop}
theorem Closed.turn (hJ : Closed P J) {α : Type} {s : Sem α} {g : Goroutine} {next : α → Goroutine} {A : World} {l : Nat} {o o' : Obj} {x : α} (hr : g.status = .running) (hq : Quiet P s) (hl : A.heap[l]? = some o)
    (hst : ∀ w x w' es, s.runT P w #[] = (.ok x w', es) → ∃ es', stepG P Comp.main g w = .go (next x) w' es' ∧ ∀ e ∈ es', e ∈ es)
    (hrun : ∀ A1 : World, A1.heap[l]? = some o → s.run P A1 = .ok x (A1.putObj l o')) (h : J (next x) (A.putObj l o')) : J g A :=
  hJ.sem hr hq hst fun A1 hE => ⟨x, _, hrun A1 (by rw [hE.get (Array.getElem?_eq_some_iff.1 hl).1]; exact hl), hJ.ext _ _ _ (Xa1 hE (Array.getElem?_eq_some_iff.1 hl).1) rfl h⟩
theorem Gu {P : Program} {α : Type} {s : Sem α} {w w' : World} {x : α} {es : Array Event} (hh : s.runT P w #[] = (.ok x w', es)) : s.run P w = .ok x w' ∧ s.events P w #[] = es := by
  have e1 := Sem.runT_fst P s w #[]
  rw [hh] at e1
  exact ⟨e1.symm, by unfold Sem.events; rw [hh]⟩
def rb (l : Nat) (fn : FuncId) : Frame := { (default : Frame) with fn := fn, kind := .normal, roundOf := some l }
theorem Zy (l : Nat) (fn : FuncId) (tmps : Array Value) (assign body : Code) : Frame.round l fn tmps assign body .normal = ato (rb l fn) { tmps := tmps, defers := [] } [.code assign, .beginRound, .code body] := rfl
theorem Tw {l : Nat} {fn : FuncId} {tmps rt : Array Value} {ps : Array Tmp} {assign body : Code} {D : Nat} {n : Nat} {f0 : Fr} {W : World} {Mid : Fr → World → Prop} {R : Value → World → Prop}
    (hf0 : FEq n { tmps := tmps, defers := [] } f0)
    (ha : Wpf P n (fun e f' W' => e = .normal ∧ W'.heap[l]? = some (lp .ready none fn rt ps assign body D) ∧ Mid f' (W'.putObj l (lp .busy none fn rt ps assign body D))) assign f0 W)
    (hb : ∀ f1 W1, Mid f1 W1 → Wpf P n (fun e f' W' => (e = .normal ∧ W'.heap[l]? = some (lp .busy none fn rt ps assign body D) ∧ R (.bool true) (W'.putObj l (lp .ready none fn rt ps assign body D))) ∨
      (e = .ret ∧ W'.heap[l]? = some (lp .busy none fn rt ps assign body D) ∧ R (.bool false) (W'.putObj l (lp .done (some .ret) fn rt ps assign body D)))) body f1 W1) :
    FrameR P (Frame.round l fn tmps assign body .normal) W R := fun J hJ c cs hk => by
  have hend : ∀ (a' : Act) (todo : List Item) (jump : Option Code) (W' : World) (o' : Obj), (todo = [] ∧ jump = none ∨ (∃ k, todo = .code .ret :: k) ∧ jump = some .ret) → W'.heap[l]? = some (lp .busy none fn rt ps assign body D) →
      o' = lp (if jump.isNone then .ready else .done) jump fn rt ps assign body D → R (.bool jump.isNone) (W'.putObj l o') → J (G (ato (rb l fn) a' todo) (c :: cs)) W' := fun a' todo jump W' o' htodo hl ho' hR => by
    subst ho'
    refine hJ.turn (s := Instr.endRound l jump) (next := fun v => G (c.finish v) cs) (x := .bool jump.isNone) rfl (Tp l jump) hl (fun w x w' es hh => ⟨seen P fn es, ?_, fun e he => Go.Conc.mem_seen he⟩) (fun A1 h1 => run_endRound jump h1) (hk _ _ hR)
    obtain ⟨e1, e2⟩ := Gu hh
    rcases htodo with ⟨rfl, rfl⟩ | ⟨⟨k, rfl⟩, rfl⟩ <;> simp [G, stepG, stepG.exec, ato, rb, doReturn, e1, e2, GStep.after]
  rw [Zy]
  refine ha J hJ (rb l fn) (by simp [rb]) _ _ _ hf0 fun e a1 f1 W1 hf1 hQ => ?_
  obtain ⟨rfl, hl1, hm⟩ := hQ
  show J (G (ato (rb l fn) a1 [.beginRound, .code body]) (c :: cs)) W1
  refine hJ.turn (s := Instr.beginRound l) (next := fun _ => G (ato (rb l fn) a1 [.code body]) (c :: cs)) (x := ()) rfl (N7 l) hl1 (fun w x w' es hh => ⟨seen P fn es, ?_, fun e he => Go.Conc.mem_seen he⟩) (fun A1 h1 => run_beginRound h1 rfl) ?_
  · obtain ⟨e1, e2⟩ := Gu hh
    simp [G, stepG, stepG.exec, stepG.apply, ato, rb, Frame.finish, e1, e2, GStep.after]
  · refine hb f1 _ hm J hJ (rb l fn) (by simp [rb]) [] (c :: cs) a1 hf1 fun e a2 f2 W2 hf2 hQ => ?_
    rcases hQ with ⟨rfl, hl2, hR⟩ | ⟨rfl, hl2, hR⟩
    · exact hend a2 [] none W2 _ (Or.inl ⟨rfl, rfl⟩) hl2 rfl hR
    · exact fun k => hend a2 _ (some .ret) W2 _ (Or.inr ⟨⟨k, rfl⟩, rfl⟩) hl2 rfl hR
def AbidesN {β : Type} (B : Nat) (J : β → World → Prop) : Prop :=
  ∀ s A A' row, J s A → A.grownBy A' row → (∀ r, row = some r → B ≤ r ∧ ∃ o : Obj, A.heap[r]? = some o ∧ o.isCells = false) → J s A'
theorem T8 {o : Obj} (h : o.isWalk = true) : o.isCells = false := by cases o <;> first | rfl | cases h
def KeepH (lo : Nat) (W W' : World) : Prop := ∀ j, lo ≤ j → j < W.heap.size → W'.heap[j]? = W.heap[j]?
theorem R7 {P : Program} {k : FuncId} (h : goFn P k = true) (args : Array Value) (w : World) (es : Array Event) : (callFunc k args).runT P w es = (.ok (.enter k args) w, es) := by
  unfold goFn at h
  split at h
  · rename_i fn hf
    simp only [Bool.and_eq_true, Bool.not_eq_true'] at h
    obtain ⟨hb, hn⟩ := h
    have hb' : fn.body.isNone = false := by cases hh : fn.body <;> simp_all
    show Sem.runT P (match P.funcs[k]? with | none => _ | some fn => _) w es = _
    rw [hf]
    simp only [hn, hb', Bool.false_eq_true, if_false]
    rfl
  · cases h
theorem I2 (hJ : Closed P J) {α : Type} {b : Frame} (hbk : b.kind ≠ .early) (hro : b.roundOf = none) {k : List Item} {cs : List Frame} {tm : Array Value} {fo : Operand} {xslot : Nat} {assign body : Code} {g : FuncId} {lb : Array Value} {encs : α → Value} {S Sp : List α → Prop} {N n : Nat} {w0 w : World} {fT : Fr}
    (ha : FEq n { tmps := tm, defers := [] } fT) (hf : ev fT fo = .func (.func g) #[] lb) (hgo : goFn P g = true) (hxs : Nat.blt xslot n = true)
    (hseq : SeqStops P g lb (fun x => #[encs x]) (Below w0.heap.size) S Sp N w0) (h0 : Below w0.heap.size w0 w) (h0s : w0.heap.size ≤ w.heap.size)
    (I Ix : List α → World → Prop) (hI : AbidesN w.heap.size I) (hIx : AbidesN w.heap.size Ix) (hi0 : I [] w)
    (M : α → Fr → World → Prop) (hM : ∀ f, AbidesN w.heap.size (fun x => M x f))
    (hassign : ∀ pre x W, w.heap.size ≤ W.heap.size → I pre W → Wpf P n (fun e f' W' => e = .normal ∧ W.grownBy W' none ∧ M x f' W') assign (up fT xslot (encs x)) W)
    (hbody : ∀ pre x f' W, w.heap.size ≤ W.heap.size → I pre W → M x f' W → pre.length < N → Wpf P n (fun e f'' W' => (e = .normal ∧ KeepH w.heap.size W W' ∧ Below w0.heap.size W W' ∧ I (pre ++ [x]) W') ∨ (e = .ret ∧ KeepH w.heap.size W W' ∧ W.heap.size ≤ W'.heap.size ∧ Ix (pre ++ [x]) W')) body f' W)
    (hdone : ∀ D xs W, w.heap.size ≤ D → S xs → I xs W → W.heap[D]? = some (.deferred (some [])) → J (G (ato b { tmps := tm, defers := [{ target := .collected D, args := #[] }] } k) cs) W)
    (hstop : ∀ D pre W, w.heap.size ≤ D → Sp pre → Ix pre W → W.heap[D]? = some (.deferred (some [])) → J (G (ato b { tmps := tm, defers := [{ target := .collected D, args := #[] }] } (.code .ret :: k)) cs) W) :
    J (G (ato b { tmps := tm, defers := [] } (.code (.rangeFunc fo #[xslot] assign body) :: k)) cs) w := by
  refine hJ.sem (s := Instr.enterLoop b.fn tm #[xslot] assign body none) (next := fun x => G (Frame.enter P g (#[.func (.yield x.1) #[] #[]] ++ lb) .normal) (ato b { tmps := tm, defers := x.2 } (.inRangeFunc x.1 :: k) :: cs)) rfl (R2 _ _ _ _ _) (fun w1 x w' es hh => ?_) fun A1 hE => ?_
  · have hev : ∀ fr : Frame, fr.tmps = tm → fr.eval fo = .func (.func g) #[] lb := fun fr htm => by
      rw [← hf, ← ha.eval]
      cases fo <;> simp [Frame.eval, Act.eval, htm]
    have hres : ∀ (fr : Frame) (l : Nat), fr.tmps = tm → resolve fr.eval { callee := .value fo, args := #[.const (.func (.yield l) #[] #[])], argTypes := #[] } 0 = (pure { target := .fn (.func g) lb, args := #[.func (.yield l) #[] #[]] } : Sem Deferred) := fun fr l htm => by
      have e : resolve fr.eval { callee := .value fo, args := #[.const (.func (.yield l) #[] #[])], argTypes := #[] } 0 = Deferred.ofValue (fr.eval fo) (#[Operand.const (.func (.yield l) #[] #[])].map fr.eval) := rfl
      have e2 : #[Operand.const (.func (.yield l) #[] #[])].map fr.eval = #[.func (.yield l) #[] #[]] := by simp [Frame.eval]
      rw [e, e2, hev fr htm]
      rfl
    have hev2 : ∀ (args : Array Value) (w : World), (callFunc g args).events P w #[] = #[] := fun args w => by unfold Sem.events; rw [R7 hgo]
    obtain ⟨e1, e2⟩ := Gu hh
    refine ⟨seen P b.fn es ++ seen P b.fn #[], ?_, fun e he => ?_⟩
    · obtain ⟨l, mark⟩ := x
      have hk' : (b.kind == CallKind.early) = false := by simpa using hbk
      simp [G, stepG, stepG.exec, stepG.apply, ato, hro, e1, e2, hres, invoke, We hgo, hev2, GStep.after, hk']
    · rw [Go.Conc.seen_none, Array.append_empty] at he
      exact Go.Conc.mem_seen he
  · have key : ∀ (W0 : World) (D : Nat), w.heap.size ≤ D → w.grownBy W0 none → D + 1 < W0.heap.size → W0.heap[D + 1]? = some (lp .ready none b.fn tm #[xslot] assign body D) → W0.heap[D]? = some (.deferred (some [])) →
        J (G (Frame.enter P g (#[.func (.yield (D + 1)) #[] #[]] ++ lb) .normal) (ato b { tmps := tm, defers := [{ target := .collected D, args := #[] }] } (.inRangeFunc (D + 1) :: k) :: cs)) W0 := by
      intro W0 D hD hg0 hs0 hl0 hd0
      have hput : ∀ (W' : World) (o o' : Obj), W'.heap[D + 1]? = some o → o.isCells = false → W'.grownBy (W'.putObj (D + 1) o') (some (D + 1)) ∧ ∀ r, some (D + 1) = some r → w.heap.size ≤ r ∧ ∃ o : Obj, W'.heap[r]? = some o ∧ o.isCells = false := fun W' o o' ho hc =>
        ⟨grownBy_putObj' _ _ _, fun r e => by cases e; exact ⟨by omega, o, ho, hc⟩⟩
      have hab : ∀ {β : Type} (Q : β → World → Prop), AbidesN w.heap.size Q → ∀ st pd, AbidesFrom W0.heap.size (fun pre W => Q pre W ∧ w.heap.size ≤ W.heap.size ∧ W.heap[D + 1]? = some (lp st pd b.fn tm #[xslot] assign body D) ∧ W.heap[D]? = some (.deferred (some []))) := fun Q hQ st pd s A A' row ⟨h1, h2, h3, h4⟩ hg hr => by
        have hne : ∀ j, j ≤ D + 1 → some j ≠ row := fun j hj e => by have := (hr j e.symm).1; omega
        exact ⟨hQ _ _ _ _ h1 hg (fun r e => ⟨Nat.le_trans (by omega : w.heap.size ≤ W0.heap.size) (hr r e).1, let ⟨o, ho, hw⟩ := (hr r e).2; ⟨o, ho, T8 hw⟩⟩), Nat.le_trans h2 hg.size,
          (hg.block _ (Array.getElem?_eq_some_iff.1 h3).1 (hne _ (Nat.le_refl _))).trans h3, (hg.block _ (Array.getElem?_eq_some_iff.1 h4).1 (hne _ (by omega))).trans h4⟩
      refine hseq (D + 1) (fun pre W => I pre W ∧ w.heap.size ≤ W.heap.size ∧ W.heap[D + 1]? = some (lp .ready none b.fn tm #[xslot] assign body D) ∧ W.heap[D]? = some (.deferred (some [])))
        (fun pre W => Ix pre W ∧ w.heap.size ≤ W.heap.size ∧ W.heap[D + 1]? = some (lp .done (some .ret) b.fn tm #[xslot] assign body D) ∧ W.heap[D]? = some (.deferred (some []))) W0 (h0.grown hg0 h0s (by simp)) (hab I hI _ _) (hab Ix hIx _ _) ?_ ⟨hI _ _ _ none hi0 hg0 (by simp), hg0.size, hl0, hd0⟩ J hJ _ cs ?_
      · rintro pre x W1 ⟨h1, h2, h3, h4⟩ hlen
        have hl1 := (Array.getElem?_eq_some_iff.1 h3).1
        have hl2 := (Array.getElem?_eq_some_iff.1 h4).1
        refine ⟨b.fn, tm.setIfInBounds xslot (encs x), assign, body, fun A1 hE1 => ?_, ?_⟩
        · have := run_yield (P := P) (args := #[encs x]) (w := A1) (l := D + 1) (r := { state := .ready, pending := none, fn := b.fn, tmps := tm, params := #[xslot], assign, body, defers := D }) (by rw [hE1.get hl1]; exact h3) rfl
          simpa using this
        · refine Tw (n := n) (f0 := up fT xslot (encs x)) (D := D) (rt := tm) (ps := #[xslot])
            (Mid := fun f' W' => M x f' W' ∧ I pre W' ∧ w.heap.size ≤ W'.heap.size ∧ W'.heap[D + 1]? = some (lp .busy none b.fn tm #[xslot] assign body D) ∧ W'.heap[D]? = some (.deferred (some [])) ∧ Below w0.heap.size W1 W')
            (by have hp := ha.put (d := xslot) hxs (encs x); simpa [Act.put] using hp) ((hassign pre x W1 h2 h1).mono ?_) (fun f1 W2 hm => (hbody pre x f1 W2 hm.2.2.1 hm.2.1 hm.1 hlen).mono ?_)
          · rintro e f' W' ⟨rfl, hg, hm⟩
            have hl' := (hg.block _ hl1 (by simp)).trans h3
            obtain ⟨hp, hc⟩ := hput W' _ (lp .busy none b.fn tm #[xslot] assign body D) hl' rfl
            have hb1 : Below w0.heap.size W1 W' := (Below.refl _ _).grown hg (Nat.le_trans h0s h2) (by simp)
            exact ⟨rfl, hl', hM f' _ _ _ _ hm hp hc, hI _ _ _ _ (hI _ _ _ none h1 hg (by simp)) hp hc, by rw [World.putObj_size]; exact Nat.le_trans h2 hg.size, Ui hl', (K7 (by omega)).trans ((hg.block _ hl2 (by simp)).trans h4),
              hb1.grown hp (Nat.le_trans h0s (Nat.le_trans h2 hg.size)) (fun j e => by cases e; omega)⟩
          · obtain ⟨hm1, hm2, hm3, hm4, hm5, hm6⟩ := hm
            rintro e f' W3 (⟨rfl, hk, hb3, hi3⟩ | ⟨rfl, hk, hsz, hx3⟩)
            · have hl3 := (hk (D + 1) (by omega) (Array.getElem?_eq_some_iff.1 hm4).1).trans hm4
              obtain ⟨hp, hc⟩ := hput W3 _ (lp .ready none b.fn tm #[xslot] assign body D) hl3 rfl
              exact Or.inl ⟨rfl, hl3, Or.inl ⟨rfl, ⟨hI _ _ _ _ hi3 hp hc, by rw [World.putObj_size]; exact Nat.le_trans hm3 hb3.size, Ui hl3, (K7 (by omega)).trans ((hk D hD (Array.getElem?_eq_some_iff.1 hm5).1).trans hm5)⟩,
                (hm6.trans hb3).grown hp (Nat.le_trans h0s (Nat.le_trans hm3 hb3.size)) (fun j e => by cases e; omega)⟩⟩
            · have hl3 := (hk (D + 1) (by omega) (Array.getElem?_eq_some_iff.1 hm4).1).trans hm4
              obtain ⟨hp, hc⟩ := hput W3 _ (lp .done (some .ret) b.fn tm #[xslot] assign body D) hl3 rfl
              exact Or.inr ⟨rfl, hl3, Or.inr ⟨rfl, hIx _ _ _ _ hx3 hp hc, by rw [World.putObj_size]; exact Nat.le_trans hm3 hsz, Ui hl3, (K7 (by omega)).trans ((hk D hD (Array.getElem?_eq_some_iff.1 hm5).1).trans hm5)⟩⟩
      · intro v A' h
        show J (G (ato b { tmps := tm, defers := [{ target := .collected D, args := #[] }] } (.endRangeFunc (D + 1) :: k)) cs) A'
        have hst : ∀ (w1 : World) (x : Option Code) (w' : World) (es : Array Event), (Instr.endLoop (D + 1)).runT P w1 #[] = (.ok x w', es) → ∃ es', stepG P Comp.main (G (ato b { tmps := tm, defers := [{ target := .collected D, args := #[] }] } (.endRangeFunc (D + 1) :: k)) cs) w1 =
            .go (G (ato b { tmps := tm, defers := [{ target := .collected D, args := #[] }] } ((x.map Item.code).toList ++ k)) cs) w' es' ∧ ∀ e ∈ es', e ∈ es := fun w1 x w' es hh => ⟨seen P b.fn es, by
          obtain ⟨e1, e2⟩ := Gu hh
          simp [G, stepG, stepG.exec, ato, e1, e2, GStep.after], fun e he => Go.Conc.mem_seen he⟩
        rcases h with ⟨xs, hS, h1, h2, h3, h4⟩ | ⟨pre, hSp, h1, h2, h3, h4⟩
        · obtain ⟨hp, hc⟩ := hput A' _ (lp .exhausted none b.fn tm #[xslot] assign body D) h3 rfl
          exact hJ.turn (x := none) rfl (Nb _) h3 hst (fun A1 h => run_endLoop h (by simp)) (hdone D xs _ hD hS (hI _ _ _ _ h1 hp hc) ((K7 (by omega)).trans h4))
        · obtain ⟨hp, hc⟩ := hput A' _ (lp .exhausted (some .ret) b.fn tm #[xslot] assign body D) h3 rfl
          exact hJ.turn (x := some Code.ret) rfl (Nb _) h3 hst (fun A1 h => run_endLoop h (by simp)) (hstop D pre _ hD hSp (hIx _ _ _ _ h1 hp hc) ((K7 (by omega)).trans h4))
    refine ⟨_, _, run_enterLoop_outer _ _ _ _ _, ?_⟩
    have hg : A1.grownBy ((A1.alloc (.deferred (some []))).alloc (lp .ready none b.fn tm #[xslot] assign body A1.heap.size)) none := Xh (World.grownBy_alloc _ _ _) (World.grownBy_alloc _ _ _)
    refine key _ A1.heap.size hE.size (hE.grow hg) ?_ ?_ ?_
    · show A1.heap.size + 1 < ((A1.heap.push _).push _).size
      simp
    · have h := World.alloc_heap_new (A1.alloc (.deferred (some []))) (lp .ready none b.fn tm #[xslot] assign body A1.heap.size)
      rw [World.size_alloc] at h
      exact h
    · show ((A1.heap.push _).push _)[A1.heap.size]? = _
      rw [Array.getElem?_push_lt (by simp)]
      simp
theorem Td {lo : Nat} {W W' : World} (hg : W.grownBy W' none) : KeepH lo W W' := fun j _ h2 => hg.block j h2 (by simp)
theorem Te {lo B : Nat} {W W' : World} (hg : W.grownBy W' (some B)) (hB : B < lo) : KeepH lo W W' := fun j h1 h2 => hg.block j h2 (fun e => by cases e; omega)
structure EndJ (P : Program) (fn : Func) (R : Value → World → Prop) (J : Goroutine → World → Prop) (b : Frame) (cs : List Frame) : Prop where
  closed : Closed P J
  fnd : P.funcs[b.fn]? = some fn
  kind : b.kind = .normal
  ro : b.roundOf = none
  df : b.defers = []
  back : ∃ c cs0, cs = c :: cs0 ∧ ∀ v A', R v A' → J (G (c.finish v) cs0) A'
variable {fn : Func} {R : Value → World → Prop} {b : Frame} {cs : List Frame} {n : Nat}
theorem EndJ.early (h : EndJ P fn R J b cs) : b.kind ≠ .early := by rw [h.kind]; simp
theorem EndJ.fin (h : EndJ P fn R J b cs) {a : Act} {f : Fr} {A : World} (ha : FEq n a f) (hR : ∃ v, resV P fn f A v ∧ R v A) (k : List Item) : J (G (ato b a (.code .ret :: k)) cs) A := by
  obtain ⟨c, cs0, rfl, hk⟩ := h.back
  obtain ⟨v, hv, hR⟩ := hR
  exact h.closed.move rfl (fun w => Vs h.ro) (h.closed.leave h.kind h.df ha.defers h.fnd (fun A1 hE => hv A1 hE _ ha.at_) (hk v A hR) _)
theorem EndJ.finD (h : EndJ P fn R J b cs) {tm : Array Value} {f : Fr} {A : World} {D : Nat} (ha : FEq n { tmps := tm, defers := [] } f) (hD : A.heap[D]? = some (.deferred (some [])))
    (hR : ∃ v, resV P fn f (A.putObj D (.deferred none)) v ∧ R v (A.putObj D (.deferred none))) (k : List Item) : J (G (ato b { tmps := tm, defers := [{ target := .collected D, args := #[] }] } (.code .ret :: k)) cs) A := by
  obtain ⟨c, cs0, rfl, hk⟩ := h.back
  obtain ⟨v, hv, hR⟩ := hR
  refine h.closed.move rfl (fun w => Vs h.ro) (h.closed.turn (s := Instr.takeDeferred D) (next := fun calls => G { ato b { tmps := tm, defers := calls } (.code .ret :: k) with mode := .returning } (c :: cs0)) (x := []) rfl (Lj D) hD
    (fun w x w' es hh => ⟨seen P b.fn es, ?_, fun e he => Go.Conc.mem_seen he⟩) (fun A1 h1 => run_takeDeferred h1) (h.closed.leave h.kind h.df rfl h.fnd (fun A1 hE => hv A1 hE _ ha.at_) (hk v _ hR) _))
  obtain ⟨e1, e2⟩ := Gu hh
  simp [G, stepG, unwind, ato, h.df, e1, e2, GStep.after]
def WpA [Comp] (P : Program) (n : Nat) (J : Goroutine → World → Prop) (b : Frame) (cs : List Frame) (k : List Item) (c : Code) (f : Fr) (A : World) : Prop := ∀ a, FEq n a f → J (G (ato b a (.code c :: k)) cs) A
theorem Gl (hE : EndJ P fn R J b cs) {k : List Item} {x y : Code} {f : Fr} {A : World} (h : Wpf P n (thn (WpA P n J b cs k y) (endQ P fn R)) x f A) : WpA P n J b cs k (.seq x y) f A := fun a ha => by
  refine hE.closed.move rfl (fun w => stepG_seq) (h J hE.closed b hE.early (.code y :: k) cs a ha fun e a' f' A' hf hQ => ?_)
  cases e with
  | normal => exact hQ a' hf
  | ret => exact fun k2 => hE.fin hf hQ k2
  | exit i => exact hQ.elim
  | goto l => exact hQ.elim
  | panic c => exact hQ.elim
  | outgrown => exact hQ.elim
theorem Ve (hE : EndJ P fn R J b cs) {k : List Item} {id : Nat} {l : List Oper} {y : Code} {f : Fr} {A : World} (h : WpO P n l.toArray (WpA P n J b cs k y) l f A) : WpA P n J b cs k (.seq (.region id l.toArray false) y) f A := Gl hE (Xr h)
theorem Su (hE : EndJ P fn R J b cs) {k : List Item} {x y : Code} {f : Fr} {A : World} (h : WpA P n J b cs (.code y :: k) x f A) : WpA P n J b cs k (.seq x y) f A := fun a ha => hE.closed.move rfl (fun w => stepG_seq) (h a ha)
theorem Mx {k : List Item} {c : Code} {f : Fr} {A : World} (M : Fr → Prop) (h : M f) (hM : ∀ f, M f → WpA P n J b cs k c f A) : WpA P n J b cs k c f A := hM f h
theorem Ow {k : FuncId} {c : Code} {args : Array Value} {A : World} (hf : P.funcs[k]? = some fn) (hb : fn.body = some c) (hn : fn.ntmps = n) (hs : Nat.ble args.size n = true)
    (h : ∀ J b cs, EndJ P fn R J b cs → WpA P n J b cs [] c (f0 args) A) : CallsR P k args A R := fun J hJ cf cs hk => by
  have hs' : args.size ≤ n := by simpa [Nat.ble_eq] using hs
  rw [Go.Conc.enter_at args hf hb, ← Hz (b := Go.Conc.base k) rfl rfl]
  refine h J (Go.Conc.base k) (cf :: cs) ⟨hJ, hf, rfl, rfl, rfl, cf, cs, rfl, hk⟩ _ ⟨rfl, by simp [hn]; omega, fun i => ?_⟩
  simp only [f0, Ux, Array.getD_eq_getD_getElem?, Array.getElem?_toList]
  by_cases hi : i < args.size
  · rw [Array.getElem?_append_left hi]
  · rw [Array.getElem?_append_right (by omega), Array.getElem?_eq_none (by omega : args.size ≤ i)]
    by_cases h2 : i - args.size < fn.ntmps - args.size
    · simp [h2]
    · rw [Array.getElem?_eq_none (by simp; omega)]
theorem Xa0 {f : Fr} {A : World} {v : Value} (hv : resV P fn f A v) (hR : R v A) : endQ P fn R .ret f A := ⟨v, hv, hR⟩
theorem Oz (hE : EndJ P fn R J b cs) {k : List Item} {id : Nat} {a : Act} {fT : Fr} {t B : Nat} {x y : Operand} {T : TypeId} {cs0 cs' : Array Value} {v : Value} {W : World} {ty : TypeId} {pos : String} {aft : Array Edge}
    (he : a.eval = ev fT) (ht : oneTy P t = true) (hx : ev fT x = .pointer (some ⟨B, 0, none⟩)) (hy : ev fT y = v) (h1 : v.oneCell' = true) (hb : Blk W B T cs0) (ho : 0 < cs0.size) (hcs : cs0.setIfInBounds 0 v = cs')
    (h : ∀ W', SetB W W' B T cs' → J (G (ato b a (.code .ret :: k)) cs) W') : J (G (ato b a (.code (.seq (.region id #[⟨none, .store t x y, ty, pos, aft, none⟩] false) .ret) :: k)) cs) W := by
  refine hE.closed.move rfl (fun w => stepG_seq) (hE.closed.move rfl (fun w => stepG_region) ?_)
  show J (G (ato b a (.inRegion #[⟨none, .store t x y, ty, pos, aft, none⟩] [0] :: .code .ret :: k)) cs) W
  refine OpG.run (o := ⟨none, .store t x y, ty, pos, aft, none⟩) (K := fun a' A' => a' = a ∧ SetB W A' B T cs') (Or.inl ⟨by simp [Region.wanted], Or.inl ⟨by rw [he]; exact qu (Kw _ _ _), fun A1 hX => ⟨.skip, undef, A1.setRow B cs', ?_, Or.inr ⟨rfl, rfl⟩, rfl, SetB.of hX (Q7 (hX.blk hb) cs')⟩⟩⟩) hE.closed hE.early rfl fun a' A' ⟨e, hS⟩ => ?_
  · rw [he]
    simp [execOp, hx, hy, Wf ht h1 (hX.blk hb) ho, hcs]
  · subst e
    exact hE.closed.move rfl (fun w => stepG_region_end) (h A' hS)
end
end Go.Dw.J
end
section
namespace Go.Dw.J
open Go.RowKit Go.Dw Go.Proofs
set_option linter.unusedSectionVars false
set_option maxRecDepth 100000
set_option maxHeartbeats 4000000
set_option linter.unusedSimpArgs false
set_option linter.unusedVariables false
theorem Xdf : goFn Try.prog 111 = true := by kernel_rfl
theorem Xev : goFn Try.prog 71 = true := by kernel_rfl
theorem Xew : goFn Try.prog 72 = true := by kernel_rfl
theorem Ko : oneTy Try.prog 23 = true := by kernel_rfl
theorem Xfq : zeroTy Try.prog 4 = some (.bool false) := by kernel_rfl
theorem P2 [Comp] (w : World) (ms : List MTh) (a : Option Addr) (c : Nat) : CallsR Try.prog 72 #[.slice a ms.length c] w (fun v w' => ∃ B : Nat, v = .func (.func 111) #[] #[pt B 0] ∧ w.heap.size ≤ B ∧ Blk w' B 23 #[.slice a ms.length c] ∧ w.grownBy w' none) := by
 refine Xq (n := 4) Try.func72 Z Try.ntmps72 Z ?_
 have ab := World.grownBy.refl w none
 refine Xa (wpo_box (v := .slice a ms.length c) (cs := #[.slice a ms.length c]) Z Z Z ?_)
 intro O ac E
 have V := Xy E ab
 refine wpo_assign (v := .nilFunc) Z Z (wpo_nil (Xa (wpo_makeFunc (vs := [pt O 0]) (Xb Z Xg) Z (wpo_assign (v := .func (.func 111) #[] #[pt O 0]) Z Z (wpo_nil (Xm ?_))))))
 refine ⟨.func (.func 111) #[] #[pt O 0], res1 Z Z, O, Z, V, E.blk, (low0 ab E.grw)⟩
theorem Pd [Comp] (w : World) (B : Nat) (ms : List MTh) (a : Option Addr) (c : Nat) (ht : TabAt w a ms) (hlen : TabLen ms) (hn : ms.length ≤ 1048576) (hB : Blk w B 23 #[.slice a ms.length c]) :
    SeqStops Try.prog 111 #[pt B 0] (fun x : Rt => #[.agg x.cells.toArray]) (Below w.heap.size) (fun xs => xs = allR ms) (fun pre => pre <+: allR ms) (allR ms).length w := by
 intro l J Jx W hW hJ hJx hY h0
 have be := gob hW
 show CallsR Try.prog 111 #[.func (.yield l) #[] #[], pt B 0] W _
 refine Xq (n := 26) (R := fun v w' => (∃ xs, xs = allR ms ∧ J xs w') ∨ (∃ pre, pre <+: allR ms ∧ Jx pre w')) Try.func111 Z Try.ntmps111 Z (Xa (wpo_load1 (v := .slice a ms.length c) Ko Z ((hB.grown0 be).cell Z) Z (wpo_len (by kernel_rfl) Z Z (wpo_move (v := vi 0) Z Z (wpo_nil (Xv (Yg (fun mm f' w' => ∃ (k : Nat), mm = ms.length - k ∧ k ≤ ms.length ∧ J (allR (ms.take k)) w' ∧ f' 9 = vi (k : Int) ∧ f' 0 = .func (.yield l) #[] #[] ∧ f' 7 = .slice a ms.length c ∧ f' 8 = vi (ms.length : Int) ∧ w.grownBy w' none) (ms.length - 0) ⟨0, Z, (Nat.zero_le _), h0, Z, Z, Z, Z, be⟩ ?_)))))))
 rintro mm bp cd ⟨k, bi, hk, hJk, af, bd, al, am, ae⟩
 refine Xa (wpo_lss (q := decide ((k : Int) < (ms.length : Int))) af am Z Z (wpo_nil (Xk (Xt Z (fun ai => ?_) (fun ai => ?_)))))
 have br := of_decide_eq_true ai
 refine Xn (Xo (Xk (Xv (Xa ?_))))
 obtain ⟨bm, ca, bw, av, a8, ba⟩ := SlAt.at (TabAt.low ht ae).1 (Yw (xg ms k))
 have bh := TabLen.at hlen (xg ms k)
 refine X6 Qj al af av a8 (by omega) (by omega) Z (wpo_loadn (vs := [vi (mAt ms k).t.kind, vi (mAt ms k).t.lab.s, vi (mAt ms k).t.lab.v, vi (mAt ms k).t.ve, vi (mAt ms k).t.num, .slice (mAt ms k).sa (mAt ms k).t.slots.length (mAt ms k).sc, .slice (mAt ms k).qa (mAt ms k).t.queue.length (mAt ms k).qc, vi (mAt ms k).t.to]) X0 Z Z (Qh ba 0 8 Z) Z (wpo_alloc (cs := #[vi 0, vi 0, vi 0, vi 0, vi 0, .slice none 0 0, .slice none 0 0, vi 0]) Jb Z Z ?_))
 intro bk ce E
 have bf := Xy E ae
 refine wpo_storen (vs := [vi (mAt ms k).t.kind, vi (mAt ms k).t.lab.s, vi (mAt ms k).t.lab.v, vi (mAt ms k).t.ve, vi (mAt ms k).t.num, .slice (mAt ms k).sa (mAt ms k).t.slots.length (mAt ms k).sc, .slice (mAt ms k).qa (mAt ms k).t.queue.length (mAt ms k).qc, vi (mAt ms k).t.to]) (cs' := #[vi (mAt ms k).t.kind, vi (mAt ms k).t.lab.s, vi (mAt ms k).t.lab.v, vi (mAt ms k).t.ve, vi (mAt ms k).t.num, .slice (mAt ms k).sa (mAt ms k).t.slots.length (mAt ms k).sc, .slice (mAt ms k).qa (mAt ms k).t.queue.length (mAt ms k).qc, vi (mAt ms k).t.to]) X0 Z Z Z (by simp [Value.oneCell']) E.blk (Nat.le_of_ble_eq_true Z) Z ?_
 intro cg ab
 refine wpo_nil (Xa (wpo_fieldAddr (o' := 5) Qe Z Z Z (wpo_load1 (v := .slice (mAt ms k).sa (mAt ms k).t.slots.length (mAt ms k).sc) Jt Z (ab.blk.cell Z) Z (wpo_len (by kernel_rfl) Z Z (wpo_move (v := vi 0) Z Z (wpo_nil (Xv (Yg (fun mm f' w' => ∃ (j : Nat), mm = (mAt ms k).t.slots.length - j ∧ j ≤ (mAt ms k).t.slots.length ∧ J (preR ms k j) w' ∧ f' 16 = vi (j : Int) ∧ f' 0 = .func (.yield l) #[] #[] ∧ f' 7 = .slice a ms.length c ∧ f' 8 = vi (ms.length : Int) ∧ f' 9 = vi (k : Int) ∧ f' 14 = .slice (mAt ms k).sa (mAt ms k).t.slots.length (mAt ms k).sc ∧ f' 15 = vi ((mAt ms k).t.slots.length : Int) ∧ w.grownBy w' none) ((mAt ms k).t.slots.length - 0) ⟨0, Z, (Nat.zero_le _), (by rw [Ip]; exact (hJ _ _ _ none hJk (low1 E.grw ab.grw (nt ((World.grownBy.refl _ none)).size E.ge)) (fun r e => by cases e))), Z, bd, al, am, af, Z, Z, (low1 (low0 ae E.grw) ab.grw (by omega))⟩ ?_))))))))
 rintro mm bq cj ⟨j, bj, hj, hJj, ag, ah, an, ao, ap, aq, ar, V⟩
 refine Xa (wpo_lss (q := decide ((j : Int) < ((mAt ms k).t.slots.length : Int))) ag ar Z Z (wpo_nil (Xk (Xt Z (fun aj => ?_) (fun aj => ?_)))))
 have bt := of_decide_eq_true aj
 refine Xn (Xo (Xk (Xv (Xa ?_))))
 obtain ⟨bn, cc, bz, aw, a9, bc⟩ := SlAt.at (TabAt.th (TabAt.low ht V) (xg ms k)).1 (Yw (xr (mAt ms k).t.slots j))
 refine X6 G2 aq ag aw a9 (by omega) (by omega) Z (wpo_loadn (vs := [vi (rAt (mAt ms k).t.slots j).th, vi (rAt (mAt ms k).t.slots j).ve, vb (rAt (mAt ms k).t.slots j).rd, vb (rAt (mAt ms k).t.slots j).wr, vb (rAt (mAt ms k).t.slots j).wk]) Y9 Z Z (Qh bc 0 5 Z) Z (wpo_alloc (cs := #[vi 0, vi 0, vb false, vb false, vb false]) Lw Z Z ?_))
 intro bl ck O
 have bg := Xy O V
 refine wpo_storen (vs := [vi (rAt (mAt ms k).t.slots j).th, vi (rAt (mAt ms k).t.slots j).ve, vb (rAt (mAt ms k).t.slots j).rd, vb (rAt (mAt ms k).t.slots j).wr, vb (rAt (mAt ms k).t.slots j).wk]) (cs' := #[vi (rAt (mAt ms k).t.slots j).th, vi (rAt (mAt ms k).t.slots j).ve, vb (rAt (mAt ms k).t.slots j).rd, vb (rAt (mAt ms k).t.slots j).wr, vb (rAt (mAt ms k).t.slots j).wk]) Y9 Z Z Z (by simp [Value.oneCell']) O.blk (Nat.le_of_ble_eq_true Z) Z ?_
 intro cm ac
 refine wpo_nil (Xa (wpo_move (v := .func (.yield l) #[] #[]) ah Z (wpo_loadn (vs := [vi (rAt (mAt ms k).t.slots j).th, vi (rAt (mAt ms k).t.slots j).ve, vb (rAt (mAt ms k).t.slots j).rd, vb (rAt (mAt ms k).t.slots j).wr, vb (rAt (mAt ms k).t.slots j).wk]) Y9 Z Z (ac.blk.rangeL 0 5 Z) Z (Ol Z (vs := [.agg #[vi (rAt (mAt ms k).t.slots j).th, vi (rAt (mAt ms k).t.slots j).ve, vb (rAt (mAt ms k).t.slots j).rd, vb (rAt (mAt ms k).t.slots j).wr, vb (rAt (mAt ms k).t.slots j).wk]]) (Xb Z Xg) Z (hY (preR ms k j) _ _ (hJ _ _ _ none hJj (low1 O.grw ac.grw (nt ((World.grownBy.refl _ none)).size O.ge)) (fun r e => by cases e)) (Xbd (by omega) (by omega))) ?_))))
 rintro _ cn (⟨rfl, au, az⟩ | ⟨rfl, ak⟩)
 exact wpo_not (b' := false) Z Z Z (wpo_nil (X5 Z Z (Xn (Y3 (Xo (Xr (wpo_add (c := (j : Int) + 1) ag Z (by omega) (by omega) (by omega) Z (wpo_move (v := vi ((j : Int) + 1)) Z Z (wpo_nil (Xo (⟨(mAt ms k).t.slots.length - (j + 1), by omega, (j + 1), rfl, (by omega), (by rw [← Na (by omega)]; exact au), rfl, ah, an, ao, ap, aq, ar, (Ri (low1 (low0 V O.grw) ac.grw (by omega)) az)⟩)))))))))))
 refine wpo_not (b' := true) Z Z Z (wpo_nil (X8 Z Z (Xm (Qv (Ya (Ya (Qv (Qv (Ya (Ya (Qv (⟨.tuple #[], res0 Z, Or.inr ⟨_, Rx (k := k) (j := j + 1) (by omega), ?_⟩⟩))))))))))))
 rw [← Na (k := k) (j := j) (by omega)]
 exact ak
 have bu := of_decide_eq_false aj
 exact Yo (Yx (Yx (Jm (Y3 (Xo (Xr (wpo_add (c := (k : Int) + 1) ap Z (by omega) (by omega) (by omega) Z (wpo_move (v := vi ((k : Int) + 1)) Z Z (wpo_nil (Xo (⟨ms.length - (k + 1), by omega, (k + 1), rfl, (by omega), (by rw [← Im (j := j) (by omega) (by omega)]; exact hJj), rfl, ah, an, ao, V⟩)))))))))))
 have bv := of_decide_eq_false ai
 refine Yo (Yx (Yx (Jm (⟨.tuple #[], res0 Z, Or.inl ⟨_, Z, ?_⟩⟩))))
 have kk := hJk
 rw [Mz (by omega)] at kk
 exact kk
theorem Gn [Comp] (w : World) (ms : List MTh) (a : Option Addr) (c : Nat) (ht : TabAt w a ms) (hlen : TabLen ms) (hn : ms.length ≤ 1048576) : CallsR Try.prog 37 #[.slice a ms.length c] w (fun v w' => v = vb (tableOk (tabT ms)) ∧ w.grownBy w' none) := by
 refine Ow (n := 53) Try.func37 Z Try.ntmps37 Z ?_
 intro J b cs hEnd
 have fy := World.grownBy.refl w none
 refine Ve hEnd (wpo_box (v := .slice a ms.length c) (cs := #[.slice a ms.length c]) Z Z Z ?_)
 intro aj ij am
 have gc := Xy am fy
 have br := low0 fy am.grw
 refine wpo_alloc (cs := #[vb false]) Xfq Z Z ?_
 intro ab ik af
 have gf := Xy af br
 have cm := Xs af (am.blk).lt
 refine wpo_nil (Gl hEnd (Xa ?_))
 have de := (am.blk.grown0 af.grw)
 refine wpo_load1 (v := .slice a ms.length c) Ko Z (de.cell Z) Z (wpo_len (by kernel_rfl) Z Z (Xi Uf (Xb Z (Xb Z (Xb Z Xg))) Z (Jo (ms.length : Int) 1 8 _) ?_))
 rintro _ il ⟨rfl, ao⟩
 have bt := low0 (low0 br af.grw) ao
 refine wpo_not (b' := !inR (ms.length : Int) 1 8) Z Z Z (wpo_nil (Xt Z (fun aw => ?_) (fun aw => ?_)))
 have fp := Je aw
 refine Xa (wpo_store1 (v := vb false) (cs' := #[vb false]) Vl Z Z Z (af.blk.grown0 ao) (Nat.le_of_ble_eq_true Z) Z ?_)
 intro im bm
 exact wpo_nil (Xm (Ya (Xa0 (resC Z (resCell_mk1 Vl Z (bm.blk.cell Z))) ⟨cB (Z9 fp).symm, (low1 bt bm.grw (by omega))⟩)))
 have az := Qx aw
 have gp := Jj.1 az
 refine Xn (Xo (Gl hEnd (Xa ?_)))
 have dh := (de.grown0 ao)
 refine wpo_load1 (v := .slice a ms.length c) Ko Z (dh.cell Z) Z (wpo_len (by kernel_rfl) Z Z (wpo_move (v := vi 0) Z Z (wpo_nil (Xv (Yg (fun mm f' w' => ∃ (k : Nat), mm = ms.length - k ∧ k ≤ ms.length ∧ (((tabT ms).take k).all (headOk (tabT ms))) = true ∧ f' 12 = vi (k : Int) ∧ f' 0 = .slice a ms.length c ∧ f' 1 = pt aj 0 ∧ f' 2 = pt ab 0 ∧ f' 10 = .slice a ms.length c ∧ f' 11 = vi (ms.length : Int) ∧ w.grownBy w' none ∧ Blk w' aj 23 #[.slice a ms.length c] ∧ Blk w' ab 4 #[vb false]) (ms.length - 0) ⟨0, Z, (Nat.zero_le _), Z, Z, Z, Z, Z, Z, Z, bt, dh, (af.blk.grown0 ao)⟩ ?_)))))
 rintro mm gv io ⟨k, gm, hk, hall, bi, da, au, av, bj, bk, ai, ak, al⟩
 refine Xa (wpo_lss (q := decide ((k : Int) < (ms.length : Int))) bi bk Z Z (wpo_nil (Xk (Xt Z (fun a8 => ?_) (fun a8 => ?_)))))
 have gy := of_decide_eq_true a8
 refine Xn (Xo (Xk (Xv (Xa ?_))))
 obtain ⟨gu, ig, ie, dl, ez, fb⟩ := SlAt.at (TabAt.low ht ai).1 (Yw (xg ms k))
 have gj := TabLen.at hlen (xg ms k)
 refine X6 Qj bj bi dl ez (by omega) (by omega) Z (wpo_loadn (vs := [vi (mAt ms k).t.kind, vi (mAt ms k).t.lab.s, vi (mAt ms k).t.lab.v, vi (mAt ms k).t.ve, vi (mAt ms k).t.num, .slice (mAt ms k).sa (mAt ms k).t.slots.length (mAt ms k).sc, .slice (mAt ms k).qa (mAt ms k).t.queue.length (mAt ms k).qc, vi (mAt ms k).t.to]) X0 Z Z (Qh fb 0 8 Z) Z (wpo_alloc (cs := #[vi 0, vi 0, vi 0, vi 0, vi 0, .slice none 0 0, .slice none 0 0, vi 0]) Jb Z Z ?_))
 intro gt ip V
 have gg := Xy V ai
 have cn := Xs V (ak).lt
 have cw := Xs V (al).lt
 refine wpo_storen (vs := [vi (mAt ms k).t.kind, vi (mAt ms k).t.lab.s, vi (mAt ms k).t.lab.v, vi (mAt ms k).t.ve, vi (mAt ms k).t.num, .slice (mAt ms k).sa (mAt ms k).t.slots.length (mAt ms k).sc, .slice (mAt ms k).qa (mAt ms k).t.queue.length (mAt ms k).qc, vi (mAt ms k).t.to]) (cs' := #[vi (mAt ms k).t.kind, vi (mAt ms k).t.lab.s, vi (mAt ms k).t.lab.v, vi (mAt ms k).t.ve, vi (mAt ms k).t.num, .slice (mAt ms k).sa (mAt ms k).t.slots.length (mAt ms k).sc, .slice (mAt ms k).qa (mAt ms k).t.queue.length (mAt ms k).qc, vi (mAt ms k).t.to]) X0 Z Z Z (by simp [Value.oneCell']) V.blk (Nat.le_of_ble_eq_true Z) Z ?_
 intro iq ac
 have bf := low1 (low0 ai V.grw) ac.grw (by omega)
 refine wpo_nil (Xk (Xa (wpo_loadn (vs := [vi (mAt ms k).t.kind, vi (mAt ms k).t.lab.s, vi (mAt ms k).t.lab.v, vi (mAt ms k).t.ve, vi (mAt ms k).t.num, .slice (mAt ms k).sa (mAt ms k).t.slots.length (mAt ms k).sc, .slice (mAt ms k).qa (mAt ms k).t.queue.length (mAt ms k).qc, vi (mAt ms k).t.to]) X0 Z Z (ac.blk.rangeL 0 8 Z) Z (Xi Rg (Xb Z Xg) Z (Vo (mAt ms k) _ (TabAt.th (TabAt.low ht bf) (xg ms k)).1 (TabAt.th (TabAt.low ht bf) (xg ms k)).2.1 (by first | omega | exact Nat.le_of_ble_eq_true rfl | (simp only [List.length_nil, List.length_cons, List.length_append, List.length_replicate]; omega)) (by first | omega | exact Nat.le_of_ble_eq_true rfl | (simp only [List.length_nil, List.length_cons, List.length_append, List.length_replicate]; omega))) ?_))))
 rintro _ f8 ⟨rfl, ae⟩
 have bg := low0 bf ae
 refine wpo_not (b' := !thingOk (mAt ms k).t) Z Z Z (wpo_nil (Xt Z (fun a9 => ?_) (fun a9 => ?_)))
 have fq := Je a9
 refine Xa (wpo_store1 (v := vb false) (cs' := #[vb false]) Vl av Z Z (((al.grown0 V.grw).gn ac.grw).grown0 ae) (Nat.le_of_ble_eq_true Z) Z ?_)
 intro ir bn
 exact wpo_nil (Xm (Ya (Qv (Ya (Ya (Qv (Ya (Xa0 (resC Z (resCell_mk1 Vl av (bn.blk.cell Z))) ⟨cB (Mu (k := k) (by omega) (by unfold headOk; rw [fq]; rfl)).symm, (low1 bg bn.grw (by omega))⟩))))))))
 have ba := Qx a9
 refine Xn (Xo (Xu (fun f' w' => (f' 0 = .slice a ms.length c ∧ f' 1 = pt aj 0 ∧ f' 2 = pt ab 0 ∧ f' 10 = .slice a ms.length c ∧ f' 11 = vi (ms.length : Int) ∧ f' 12 = vi (k : Int) ∧ f' 28 = vb ((decide ((mAt ms k).t.kind = 5)) && (!kindAt (tabT ms) (mAt ms k).t.to 1))) ∧ f8.grownBy w' none) ?_ ?_))
 refine wpo_fieldAddr (o' := 0) X7 Z Z Z ?_
 have di := (ac.blk.grown0 ae)
 refine wpo_load1 (v := vi (mAt ms k).t.kind) X1 Z (di.cell Z) Z (wpo_eql (q := decide ((mAt ms k).t.kind = 5)) Z Z Z Z (wpo_move (v := vb (decide ((mAt ms k).t.kind = 5))) Z Z ?_))
 rcases Xz (decide ((mAt ms k).t.kind = 5)) with O | O
 have f9 := Hs ba O
 have gz := of_decide_eq_true O
 refine Xd Z Z Z O (wpo_load1 (v := .slice a ms.length c) Ko au ((((ak.grown0 V.grw).gn ac.grw).grown0 ae).cell Z) Z (Xd Z Z Z O (wpo_fieldAddr (o' := 7) Jv Z Z Z (Xd Z Z Z O (wpo_load1 (v := vi (mAt ms k).t.to) X1 Z (di.cell Z) Z (Xd Z Z Z O (Xi Xev (Xb Z (Xb Z (Xb Z Xg))) Z (Ze (mAt ms k).t.to 1 (by omega) _ ms _ _ (TabAt.low ht bg) hlen (by omega)) ?_)))))))
 rintro _ is ⟨rfl, dn⟩
 exact Xd Z Z Z O (wpo_not (b' := !kindAt (tabT ms) (mAt ms k).t.to 1) Z Z Z (wpo_pickt (v := vb (!kindAt (tabT ms) (mAt ms k).t.to 1)) Z O Z Z (wpo_nil ⟨⟨da, au, av, bj, bk, bi, (cB (by simp [aw, az, a8, a9, ba, O]))⟩, dn⟩)))
 have g4 := of_decide_eq_false O
 iterate 5 refine Xe rfl rfl rfl O rfl ?_
 exact wpo_pickf (v := vb false) Z O Z Z (wpo_nil ⟨⟨da, au, av, bj, bk, bi, (cB (by simp [aw, az, a8, a9, ba, O]))⟩, (World.grownBy.refl _ _)⟩)
 rintro gw it ⟨⟨fe, ff, bl, fg, fh, fi, fj⟩, ap⟩
 have bu := low0 bg ap
 refine Xt fj (fun bc => ?_) (fun bc => ?_)
 have db := Oo bc
 have gb := Hs ba db
 have g7 := of_decide_eq_true db
 have ft := Oq bc
 have g8 := Je ft
 refine Xa (wpo_store1 (v := vb false) (cs' := #[vb false]) Vl bl Z Z ((((al.grown0 V.grw).gn ac.grw).grown0 ae).grown0 ap) (Nat.le_of_ble_eq_true Z) Z ?_)
 intro iu bp
 exact wpo_nil (Xm (Qv (Ya (Ya (Qv (Ya (Xa0 (resC Z (resCell_mk1 Vl bl (bp.blk.cell Z))) ⟨cB (Mu (k := k) (by omega) (by unfold headOk; rw [Je (O8.symm.trans bc), Bool.and_false])).symm, (low1 bu bp.grw (by omega))⟩)))))))
 exact Xn (Y3 (Xo (Xr (wpo_add (c := (k : Int) + 1) fi Z (by omega) (by omega) (by omega) Z (wpo_move (v := vi ((k : Int) + 1)) Z Z (wpo_nil (Xo (⟨ms.length - (k + 1), by omega, (k + 1), rfl, (by omega), (Ji (p := headOk (tabT ms)) hall (Wl (by omega)) (by unfold headOk; rw [ba, Qx (O8.symm.trans bc)]; rfl)), rfl, fe, ff, bl, fg, fh, bu, ((((ak.grown0 V.grw).gn ac.grw).grown0 ae).grown0 ap), ((((al.grown0 V.grw).gn ac.grw).grown0 ae).grown0 ap)⟩))))))))
 have g9 := of_decide_eq_false a8
 refine Yo (Yx (Yx (Jm (Xo (Su hEnd (Ve hEnd (wpo_load1 (v := .slice a ms.length c) Ko au (ak.cell Z) Z (Xi Xew (Xb Z Xg) Z (P2 _ ms _ _) ?_))))))))
 rintro _ ck ⟨cy, rfl, ar, f7, bh⟩
 have ag := low0 ai bh
 have gh := nt ai.size ar
 have co := nl (ak).lt ar
 have cx := nl (al).lt ar
 refine wpo_nil ?_
 have dk := (al.grown0 bh)
 refine Mx (fun f' => f' 1 = pt aj 0 ∧ f' 2 = pt ab 0 ∧ f' 31 = .func (.func 111) #[] #[pt cy 0]) ⟨au, av, Z⟩ ?_
 rintro fT ⟨e1, e2, e3⟩ a0 ha
 obtain ⟨tm, df⟩ := a0
 obtain rfl : df = [] := ha.defers
 have fz : ab < ck.heap.size := (dk).lt
 refine hEnd.closed.move Z (fun _ => G8) (I2 hEnd.closed hEnd.early hEnd.ro (n := 53) (encs := fun x : Rt => .agg x.cells.toArray) ha e3 Xdf Z (Pd ck cy ms a c (TabAt.low ht ag) hlen hn f7) (Below.refl _ _) (Nat.le_refl _) (fun pre W => w.grownBy W none ∧ Blk W aj 23 #[.slice a ms.length c] ∧ Blk W ab 4 #[vb false] ∧ pre.all (rightTo (tabT ms)) = true ∧ ck.heap.size ≤ W.heap.size) (fun pre W => w.grownBy W none ∧ Blk W ab 4 #[vb false] ∧ pre.all (rightTo (tabT ms)) = false) (fun s A B row hs hg hr => ⟨L8 hs.1 hg ag.size hr, Hn hs.2.1 hg hr, Hn hs.2.2.1 hg hr, hs.2.2.2.1, nt hs.2.2.2.2 hg.size⟩) (fun s A B row hs hg hr => ⟨L8 hs.1 hg ag.size hr, Hn hs.2.1 hg hr, hs.2.2⟩) ⟨ag, (ak.grown0 bh), dk, Z, Nat.le_refl _⟩ (fun x f' W => ∃ Bx : Nat, Blk W Bx 74 x.cells.toArray ∧ f' 5 = pt Bx 0 ∧ f' 1 = pt aj 0 ∧ f' 2 = pt ab 0) (fun f' x A B row hs hg hr => by obtain ⟨Bx, h1, h2⟩ := hs; exact ⟨Bx, Hn h1 hg hr, h2⟩) ?_ ?_ ?_ ?_)
 intro pre x W hlW hi
 refine Xr (wpo_alloc (cs := #[vi 0, vi 0, vb false, vb false, vb false]) Lw Z Z ?_)
 intro fd iv an
 have gi := Xy an hi.1
 refine wpo_storen (vs := [vi x.th, vi x.ve, vb x.rd, vb x.wr, vb x.wk]) (cs' := #[vi x.th, vi x.ve, vb x.rd, vb x.wr, vb x.wk]) Y9 Z Z Z (by simp [Value.oneCell']) an.blk (Nat.le_of_ble_eq_true Z) Z ?_
 intro iw bq
 exact wpo_nil (⟨Z, (low1 an.grw bq.grw (nt ((World.grownBy.refl _ none)).size an.ge)), fd, bq.blk, Z, e1, e2⟩)
 rintro pre x f' W hlW hi ⟨Bx, hbx, h5, h1, h2⟩ hlt
 refine Wpf.mono (Q := (fun e f'' w' => (e = .normal ∧ W.grownBy w' none ∧ rightTo (tabT ms) x = true) ∨ (e = .ret ∧ W.grownBy w' (some ab) ∧ w.grownBy w' none ∧ Blk w' ab 4 #[vb false] ∧ rightTo (tabT ms) x = false))) ?_ ?_
 refine Xv (Xk (Xa (wpo_fieldAddr (o' := 0) Qp h5 Z Z (wpo_load1 (v := vi x.th) X1 Z (hbx.cell Z) Z (wpo_eql (q := decide (x.th = 0)) Z Z Z Z (wpo_nil (Xt Z (fun ah => ?_) (fun ah => ?_))))))))
 have ia := of_decide_eq_true ah
 exact Yo (Yx (Jm (Or.inl ⟨Z, (World.grownBy.refl _ _), I5 ah⟩)))
 have ib := of_decide_eq_false ah
 refine Xn (Xo (Km (fun f' w' => (f' 2 = pt ab 0 ∧ f' 52 = vb ((!inR x.th 1 (ms.length : Int)) || (decide ((mj ms x.th).t.ve < x.ve)))) ∧ W.grownBy w' none) ?_ ?_))
 rcases Xz (!inR x.th 1 (ms.length : Int)) with E | E
 have fu := Je E
 refine Yl (m := 15) (vals := [(36, .slice a ms.length c), (37, pt Bx 0), (38, vi x.th), (39, vb (inR x.th 1 (ms.length : Int))), (40, vb (!inR x.th 1 (ms.length : Int))), (41, vb (!inR x.th 1 (ms.length : Int))), (42, undef), (43, undef), (44, undef), (45, undef), (46, undef), (47, undef), (48, undef), (49, undef), (50, undef)]) (fun w' => W.grownBy w' none) Yu (by kernel_rfl) (Xx _) ?_ ?_
 refine Xc Z (fun ix bv => ?_) ?_
 exact wpo_load1 (v := .slice a ms.length c) Ko h1 ((hi.2.1.grown0 bv).cell Z) Z (wpo_nil ⟨Z, bv⟩)
 refine Xc Z (fun iy dr => ?_) ?_
 exact wpo_fieldAddr (o' := 0) Qp h5 Z Z (wpo_nil ⟨Z, dr⟩)
 refine Xc Z (fun iz bw => ?_) ?_
 exact wpo_load1 (v := vi x.th) X1 Z ((hbx.grown0 bw).cell Z) Z (wpo_nil ⟨Z, bw⟩)
 refine Xc Z (fun i0 dt => ?_) ?_
 refine Xi Za (Xb Z (Xb Z Xg)) Z (Vn x.th _ _ _ _) ?_
 rintro _ i1 ⟨rfl, dp⟩
 exact wpo_nil ⟨Z, (Xh dt dp)⟩
 refine Xc Z (fun i2 du => ?_) ?_
 exact wpo_not (b' := !inR x.th 1 (ms.length : Int)) Z Z Z (wpo_nil ⟨Z, du⟩)
 refine Xc Z (fun i3 dv => ?_) ?_
 exact wpo_move (v := vb (!inR x.th 1 (ms.length : Int))) Z Z (wpo_nil ⟨Z, dv⟩)
 refine Xc Z (fun i4 dw => ?_) ?_
 exact Xe Z Z Z E Z (wpo_nil ⟨Z, dw⟩)
 refine Xc Z (fun i5 dx => ?_) ?_
 exact Xe Z Z Z E Z (wpo_nil ⟨Z, dx⟩)
 refine Xc Z (fun i6 dz => ?_) ?_
 exact Xe Z Z Z E Z (wpo_nil ⟨Z, dz⟩)
 refine Xc Z (fun i7 d0 => ?_) ?_
 exact Xe Z Z Z E Z (wpo_nil ⟨Z, d0⟩)
 refine Xc Z (fun i8 d5 => ?_) ?_
 exact Xe Z Z Z E Z (wpo_nil ⟨Z, d5⟩)
 refine Xc Z (fun i9 d6 => ?_) ?_
 exact Xe Z Z Z E Z (wpo_nil ⟨Z, d6⟩)
 refine Xc Z (fun ja d7 => ?_) ?_
 exact Xe Z Z Z E Z (wpo_nil ⟨Z, d7⟩)
 refine Xc Z (fun jb d8 => ?_) ?_
 exact Xe Z Z Z E Z (wpo_nil ⟨Z, d8⟩)
 refine Xc Z (fun jc d9 => ?_) ?_
 exact Xe Z Z Z E Z (wpo_nil ⟨Z, d9⟩)
 exact Y2
 intro jd ea
 exact Xe Z Z Z E Z (wpo_pickt (v := vb true) Z E Z Z (wpo_nil (Xo ⟨⟨h2, (cB (by simp [ah, E, fu]))⟩, ea⟩)))
 have dc := Qx E
 have gq := Jj.1 dc
 obtain ⟨cz, ii, cj, dm, fa, fc⟩ := SlAt.at (TabAt.low ht hi.1).1 (Yw (xg ms (x.th - 1).toNat))
 have gl := TabLen.at hlen (xg ms (x.th - 1).toNat)
 refine Yl (m := 15) (vals := [(36, .slice a ms.length c), (37, pt Bx 0), (38, vi x.th), (39, vb (inR x.th 1 (ms.length : Int))), (40, vb (!inR x.th 1 (ms.length : Int))), (41, vb (!inR x.th 1 (ms.length : Int))), (42, pt Bx 1), (43, vi x.ve), (44, .slice a ms.length c), (45, pt Bx 0), (46, vi x.th), (47, vi (x.th - 1)), (48, pt cz cj), (49, pt cz (cj + 3)), (50, vi (mj ms x.th).t.ve)]) (fun w' => W.grownBy w' none) Yu (by kernel_rfl) (Xx _) ?_ ?_
 refine Xc Z (fun je bz => ?_) ?_
 exact wpo_load1 (v := .slice a ms.length c) Ko h1 ((hi.2.1.grown0 bz).cell Z) Z (wpo_nil ⟨Z, bz⟩)
 refine Xc Z (fun jf ed => ?_) ?_
 exact wpo_fieldAddr (o' := 0) Qp h5 Z Z (wpo_nil ⟨Z, ed⟩)
 refine Xc Z (fun jg ca => ?_) ?_
 exact wpo_load1 (v := vi x.th) X1 Z ((hbx.grown0 ca).cell Z) Z (wpo_nil ⟨Z, ca⟩)
 refine Xc Z (fun jh ee => ?_) ?_
 refine Xi Za (Xb Z (Xb Z Xg)) Z (Vn x.th _ _ _ _) ?_
 rintro _ ji ⟨rfl, dq⟩
 exact wpo_nil ⟨Z, (Xh ee dq)⟩
 refine Xc Z (fun jj ef => ?_) ?_
 exact wpo_not (b' := !inR x.th 1 (ms.length : Int)) Z Z Z (wpo_nil ⟨Z, ef⟩)
 refine Xc Z (fun jk eh => ?_) ?_
 exact wpo_move (v := vb (!inR x.th 1 (ms.length : Int))) Z Z (wpo_nil ⟨Z, eh⟩)
 refine Xc Z (fun jl ei => ?_) ?_
 exact Xd Z Z Z E (wpo_fieldAddr (o' := 1) J4 h5 Z Z (wpo_nil ⟨Z, ei⟩))
 refine Xc Z (fun jm cc => ?_) ?_
 exact Xd Z Z Z E (wpo_load1 (v := vi x.ve) X1 Z ((hbx.grown0 cc).cell Z) Z (wpo_nil ⟨Z, cc⟩))
 refine Xc Z (fun jo cd => ?_) ?_
 exact Xd Z Z Z E (wpo_load1 (v := .slice a ms.length c) Ko h1 ((hi.2.1.grown0 cd).cell Z) Z (wpo_nil ⟨Z, cd⟩))
 refine Xc Z (fun jp ej => ?_) ?_
 exact Xd Z Z Z E (wpo_fieldAddr (o' := 0) Qp h5 Z Z (wpo_nil ⟨Z, ej⟩))
 refine Xc Z (fun jq ce => ?_) ?_
 exact Xd Z Z Z E (wpo_load1 (v := vi x.th) X1 Z ((hbx.grown0 ce).cell Z) Z (wpo_nil ⟨Z, ce⟩))
 refine Xc Z (fun jr eu => ?_) ?_
 exact Xd Z Z Z E (wpo_sub (c := x.th - 1) Z Z (by omega) (by omega) (by omega) Z (wpo_nil ⟨Z, eu⟩))
 refine Xc Z (fun js ew => ?_) ?_
 exact Xd Z Z Z E (X6 Qj Z Z dm fa (by omega) (by omega) Z (wpo_nil ⟨Z, ew⟩))
 refine Xc Z (fun jt ex => ?_) ?_
 exact Xd Z Z Z E (wpo_fieldAddr (o' := cj + 3) Q5 Z Z Z (wpo_nil ⟨Z, ex⟩))
 refine Xc Z (fun ju cg => ?_) ?_
 exact Xd Z Z Z E (wpo_load1 (v := vi (mj ms x.th).t.ve) X1 Z ((Y8 fc cg) 3 _ Z) Z (wpo_nil ⟨Z, cg⟩))
 exact Y2
 intro jv ey
 exact Xd Z Z Z E (wpo_gtr (q := decide ((mj ms x.th).t.ve < x.ve)) Z Z Z Z (wpo_pickf (v := vb (decide ((mj ms x.th).t.ve < x.ve))) Z E Z Z (wpo_nil (Xo ⟨⟨h2, (cB (by simp [ah, E, dc]))⟩, ey⟩))))
 rintro gx jw ⟨⟨fk, fm⟩, aq⟩
 refine Xt fm (fun bd => ?_) (fun bd => ?_)
 refine Xa (wpo_store1 (v := vb false) (cs' := #[vb false]) Vl fk Z Z (hi.2.2.1.grown0 aq) (Nat.le_of_ble_eq_true Z) Z ?_)
 intro jy be
 exact wpo_nil (Xm (Qv (Or.inr ⟨Z, (Xh (Tc aq) be.grw), (low1 (low0 hi.1 aq) be.grw (by omega)), be.blk, Je ((Nf ah).symm.trans bd)⟩)))
 have fv := K5 bd
 have fw := Qx fv
 have gr := Jj.1 fw
 have fx := K6 bd
 have ic := of_decide_eq_false fx
 exact Xn (Y3 (Or.inl ⟨Z, aq, Qx ((Nf ah).symm.trans bd)⟩))
 rintro e f2 w2 (⟨rfl, hg, hx⟩ | ⟨rfl, hg, hg0, hb, hx⟩)
 exact Or.inl ⟨Z, Td hg, Sx hg hlW, low0 hi.1 hg, hi.2.1.grown0 hg, hi.2.2.1.grown0 hg, by rw [List.all_append, hi.2.2.2.1]; simp [hx], nt hi.2.2.2.2 hg.size⟩
 exact Or.inr ⟨Z, Te hg fz, hg.size, hg0, hb, by rw [List.all_append]; simp [hx]⟩
 intro D xs W hD hS hi hK
 subst hS
 have hDB : D ≠ ab := by omega
 refine hEnd.closed.move Z (fun _ => U8) (Oz hEnd (fT := fT) (v := vb true) (cs' := #[vb true]) ha.eval Vl e2 Z Z hi.2.2.1 (by simp) Z fun W2 hsb => ?_)
 have hK' : W2.heap[D]? = some (.deferred (some [])) := (hsb.grw.block D (Array.getElem?_eq_some_iff.1 hK).1 (fun e => hDB (Option.some.inj e))).trans hK
 have hgp := grownBy_putObj' W2 D (.deferred none)
 have hb2 := hsb.blk.grown hgp (Qn (Ne.symm hDB))
 refine hEnd.finD ha hK' ⟨vb true, resC Z (resCell_mk1 Vl e2 (hb2.cell Z)), ?_, ?_⟩ _
 rw [Sg az hall (by omega), hi.2.2.2.1]
 exact low1 (low1 hi.1 hsb.grw (by omega)) hgp (nt ag.size hD)
 intro D pre W hD hSp hx hK
 obtain ⟨hg, hb, hf⟩ := hx
 have hDB : D ≠ ab := by omega
 have hgp := grownBy_putObj' W D (.deferred none)
 refine hEnd.finD ha hK ⟨vb false, resC Z (resCell_mk1 Vl e2 ((hb.grown hgp (Qn (Ne.symm hDB))).cell Z)), ?_, ?_⟩ _
 rw [Sg az hall (by omega), Sv hSp hf]
 exact low1 hg hgp (nt ag.size hD)
end Go.Dw.J
end
section
namespace Go.Dw
set_option linter.unusedSimpArgs false
set_option linter.unusedVariables false
def viewTh (t : Th) (l : Lab) : Th := if labelFlow t.lab l = true then t else thingNew t.kind t.lab t.to
theorem Gj {t : Th} {l : Lab} (h : labelFlow t.lab l = true) : viewTh t l = t := if_pos h
theorem Sq {t : Th} {l : Lab} (h : labelFlow t.lab l = false) (h2 : newOk t.kind t.lab t.to = false) : viewTh t l = Th.zero := by
  unfold viewTh thingNew
  rw [if_neg (by rw [h]; simp), if_neg (by rw [h2]; simp)]
theorem Oh {t : Th} {l : Lab} (h : labelFlow t.lab l = false) (h2 : newOk t.kind t.lab t.to = true) (h3 : (decide (t.kind = 2) || decide (t.kind = 3)) = true) : viewTh t l = ⟨t.kind, t.lab, 0, 0, zeros4, [], t.to⟩ := by
  unfold viewTh thingNew newTh
  rw [if_neg (by rw [h]; simp), if_pos h2, if_pos (by unfold has4; exact h3)]
theorem Og {t : Th} {l : Lab} (h : labelFlow t.lab l = false) (h2 : newOk t.kind t.lab t.to = true) (h3 : (decide (t.kind = 2) || decide (t.kind = 3)) = false) : viewTh t l = ⟨t.kind, t.lab, 0, 0, [], [], t.to⟩ := by
  unfold viewTh thingNew newTh
  rw [if_neg (by rw [h]; simp), if_pos h2, if_neg (by unfold has4; rw [h3]; simp)]
end Go.Dw
end
section
namespace Go.Dw.J
open Go.RowKit Go.Dw Go.Proofs
set_option linter.unusedSectionVars false
set_option maxRecDepth 100000
set_option maxHeartbeats 4000000
set_option linter.unusedSimpArgs false
set_option linter.unusedVariables false
theorem Xdg : goFn Try.prog 116 = true := by kernel_rfl
theorem Mf : goFn Try.prog 17 = true := by kernel_rfl
theorem Xei : goFn Try.prog 18 = true := by kernel_rfl
theorem Xex : goFn Try.prog 86 = true := by kernel_rfl
theorem Xaw [Comp] (w : World) (xs : List Int) (a : Option Addr) (c : Nat) (hs : SlAt w a 1 (xs.map icell)) (hc : a = none → c = 0) (hn : xs.length ≤ 1048576) : CallsR Try.prog 116 #[.slice a xs.length c] w (fun v w' => ∃ (a' : Option Addr) (cap' : Nat), v = .slice a' xs.length cap' ∧ OwnN w.heap.size w' a' 3 1 cap' xs.length (xs.flatMap icell) ∧ w.grownBy w' none) := by
 refine Xq (n := 5) Try.func116 Z Try.ntmps116 Z ?_
 have ab := World.grownBy.refl w none
 refine Xa (wpo_assign (v := .slice none 0 0) Z Z (wpo_nil (Xa (wpo_move (v := .slice a xs.length c) Z Z (wpo_appendN (g := icell) (ys := []) (zs := xs) (lo := w.heap.size) Rs Z Ye (by omega) Ug Z Z OwnN.nil (SlAt.low hs ab) hc (by first | omega | exact Nat.le_of_ble_eq_true rfl | (simp only [List.length_nil, List.length_cons, List.length_append, List.length_replicate]; omega)) (by omega) ab.size Z ?_)))))
 intro O E af V ac ae
 refine wpo_assign (v := .slice O xs.length E) Z Z (wpo_nil (Xm ?_))
 refine ⟨.slice O xs.length E, res1 Z Z, O, E, Z, V, (low0 ab ac)⟩
theorem P6 [Comp] (w : World) (q : MTh) (hq : ThAt w q) (hn : q.t.slots.length ≤ 1048576 ∧ q.t.queue.length ≤ 1048576) : CallsR Try.prog 86 #[.agg #[vi q.t.kind, vi q.t.lab.s, vi q.t.lab.v, vi q.t.ve, vi q.t.num, .slice q.sa q.t.slots.length q.sc, .slice q.qa q.t.queue.length q.qc, vi q.t.to]] w (fun v w' => ∃ (sa : Option Addr) (sc : Nat) (qa : Option Addr) (qc : Nat), v = .agg #[vi q.t.kind, vi q.t.lab.s, vi q.t.lab.v, vi q.t.ve, vi q.t.num, .slice sa q.t.slots.length sc, .slice qa q.t.queue.length qc, vi q.t.to] ∧ OwnN w.heap.size w' sa 74 5 sc q.t.slots.length (q.t.slots.flatMap Rt.cells) ∧ OwnN w.heap.size w' qa 3 1 qc q.t.queue.length (q.t.queue.flatMap icell) ∧ w.grownBy w' none) := by
 refine Xq (n := 12) Try.func86 Z Try.ntmps86 Z ?_
 have aw := World.grownBy.refl w none
 refine Xa (wpo_box (v := .agg #[vi q.t.kind, vi q.t.lab.s, vi q.t.lab.v, vi q.t.ve, vi q.t.num, .slice q.sa q.t.slots.length q.sc, .slice q.qa q.t.queue.length q.qc, vi q.t.to]) (cs := #[vi q.t.kind, vi q.t.lab.s, vi q.t.lab.v, vi q.t.ve, vi q.t.num, .slice q.sa q.t.slots.length q.sc, .slice q.qa q.t.queue.length q.qc, vi q.t.to]) Z Z Z ?_)
 intro a9 bc ag
 have az := Xy ag aw
 have am := low0 aw ag.grw
 refine wpo_alloc (cs := #[vi 0, vi 0, vi 0, vi 0, vi 0, .slice none 0 0, .slice none 0 0, vi 0]) Jb Z Z ?_
 intro ba bd ac
 have a8 := Xy ac am
 have ap := Xs ac (ag.blk).lt
 have ai := low0 am ac.grw
 refine wpo_nil (Xa (wpo_fieldAddr (o' := 5) Qe Z Z Z ?_))
 have aq := (ag.blk.grown0 ac.grw)
 refine wpo_load1 (v := .slice q.sa q.t.slots.length q.sc) Jt Z (aq.cell Z) Z (Xi Xcp (Xb Z Xg) Z (Mc _ q.t.slots _ _ (ThAt.low hq ai).1 (ThAt.low hq ai).2.2.1 (by first | omega | exact Nat.le_of_ble_eq_true rfl | (simp only [List.length_nil, List.length_cons, List.length_append, List.length_replicate]; omega))) ?_)
 rintro _ be ⟨V, E, rfl, au, al⟩
 refine wpo_fieldAddr (o' := 5) Qe Z Z Z ?_
 have ar := (aq.grown0 al)
 refine wpo_store1 (v := .slice V q.t.slots.length E) (cs' := #[vi q.t.kind, vi q.t.lab.s, vi q.t.lab.v, vi q.t.ve, vi q.t.num, .slice V q.t.slots.length E, .slice q.qa q.t.queue.length q.qc, vi q.t.to]) Jt Z Z Z ar (Nat.le_of_ble_eq_true Z) Z ?_
 intro bf ae
 have aj := low1 (low0 ai al) ae.grw (by omega)
 refine wpo_nil (Xa (wpo_fieldAddr (o' := 6) Q2 Z Z Z (wpo_load1 (v := .slice q.qa q.t.queue.length q.qc) Kc Z (ae.blk.cell Z) Z (Xi Xdg (Xb Z Xg) Z (Xaw _ q.t.queue _ _ (ThAt.low hq aj).2.1 (ThAt.low hq aj).2.2.2 (by first | omega | exact Nat.le_of_ble_eq_true rfl | (simp only [List.length_nil, List.length_cons, List.length_append, List.length_replicate]; omega))) ?_))))
 rintro _ bg ⟨ab, O, rfl, av, ak⟩
 refine wpo_fieldAddr (o' := 6) Q2 Z Z Z ?_
 have an := (ae.blk.grown0 ak)
 refine wpo_store1 (v := .slice ab q.t.queue.length O) (cs' := #[vi q.t.kind, vi q.t.lab.s, vi q.t.lab.v, vi q.t.ve, vi q.t.num, .slice V q.t.slots.length E, .slice ab q.t.queue.length O, vi q.t.to]) Kc Z Z Z an (Nat.le_of_ble_eq_true Z) Z ?_
 intro bh af
 refine wpo_nil (Xa (wpo_loadn (vs := [vi q.t.kind, vi q.t.lab.s, vi q.t.lab.v, vi q.t.ve, vi q.t.num, .slice V q.t.slots.length E, .slice ab q.t.queue.length O, vi q.t.to]) X0 Z Z (af.blk.rangeL 0 8 Z) Z ?_))
 have ao := ((((ac.blk.grown0 al).gn ae.grw).grown0 ak).gn af.grw)
 refine wpo_storen (vs := [vi q.t.kind, vi q.t.lab.s, vi q.t.lab.v, vi q.t.ve, vi q.t.num, .slice V q.t.slots.length E, .slice ab q.t.queue.length O, vi q.t.to]) (cs' := #[vi q.t.kind, vi q.t.lab.s, vi q.t.lab.v, vi q.t.ve, vi q.t.num, .slice V q.t.slots.length E, .slice ab q.t.queue.length O, vi q.t.to]) X0 Z Z Z (by simp [Value.oneCell']) ao (Nat.le_of_ble_eq_true Z) Z ?_
 intro bi ah
 refine wpo_nil (Xm ?_)
 refine ⟨.agg #[vi q.t.kind, vi q.t.lab.s, vi q.t.lab.v, vi q.t.ve, vi q.t.num, .slice V q.t.slots.length E, .slice ab q.t.queue.length O, vi q.t.to], resC Z (resCell_mk (vs := [vi q.t.kind, vi q.t.lab.s, vi q.t.lab.v, vi q.t.ve, vi q.t.num, .slice V q.t.slots.length E, .slice ab q.t.queue.length O, vi q.t.to]) X0 Z Z (ah.blk.rangeL 0 8 Z)), V, E, ab, O, Z, (OwnN.typB (OwnN.typB ((OwnN.typB (OwnN.mono au ai.size) ae.grw ar (by decide)).grown0 ak) af.grw an (by decide)) ah.grw ao (by decide)), (OwnN.typB (OwnN.typB (OwnN.mono av aj.size) af.grw an (by decide)) ah.grw ao (by decide)), (low1 (low1 (low0 aj ak) af.grw (by omega)) ah.grw (by omega))⟩
theorem Sr [Comp] (l : Lab) (w : World) (q : MTh) (hq : ThAt w q) (hn : q.t.slots.length ≤ 1048576 ∧ q.t.queue.length ≤ 1048576) : CallsR Try.prog 42 #[.agg #[vi q.t.kind, vi q.t.lab.s, vi q.t.lab.v, vi q.t.ve, vi q.t.num, .slice q.sa q.t.slots.length q.sc, .slice q.qa q.t.queue.length q.qc, vi q.t.to], .agg #[vi l.s, vi l.v]] w (fun v w' => ∃ (sa : Option Addr) (sc : Nat) (qa : Option Addr) (qc : Nat), v = .agg #[vi (viewTh q.t l).kind, vi (viewTh q.t l).lab.s, vi (viewTh q.t l).lab.v, vi (viewTh q.t l).ve, vi (viewTh q.t l).num, .slice sa (viewTh q.t l).slots.length sc, .slice qa (viewTh q.t l).queue.length qc, vi (viewTh q.t l).to] ∧ OwnN w.heap.size w' sa 74 5 sc (viewTh q.t l).slots.length ((viewTh q.t l).slots.flatMap Rt.cells) ∧ OwnN w.heap.size w' qa 3 1 qc (viewTh q.t l).queue.length ((viewTh q.t l).queue.flatMap icell) ∧ w.grownBy w' none) := by
 refine Xq (n := 24) Try.func42 Z Try.ntmps42 Z ?_
 have dw := World.grownBy.refl w none
 refine Xa (wpo_box (v := .agg #[vi q.t.kind, vi q.t.lab.s, vi q.t.lab.v, vi q.t.ve, vi q.t.num, .slice q.sa q.t.slots.length q.sc, .slice q.qa q.t.queue.length q.qc, vi q.t.to]) (cs := #[vi q.t.kind, vi q.t.lab.s, vi q.t.lab.v, vi q.t.ve, vi q.t.num, .slice q.sa q.t.slots.length q.sc, .slice q.qa q.t.queue.length q.qc, vi q.t.to]) Z Z Z ?_)
 intro d9 fa ar
 have dx := Xy ar dw
 have bm := low0 dw ar.grw
 refine wpo_box (v := .agg #[vi l.s, vi l.v]) (cs := #[vi l.s, vi l.v]) Z Z Z ?_
 intro ea fb al
 have dz := Xy al bm
 have bz := Xs al (ar.blk).lt
 have bn := low0 bm al.grw
 refine wpo_alloc (cs := #[vi 0, vi 0, vi 0, vi 0, vi 0, .slice none 0 0, .slice none 0 0, vi 0]) Jb Z Z ?_
 intro ed fc V
 have d0 := Xy V bn
 have di := (ar.blk.grown0 al.grw)
 have ca := Xs V (di).lt
 have ck := Xs V (al.blk).lt
 refine wpo_nil (Xk (Xa (wpo_fieldAddr (o' := 1) Ke Z Z Z ?_)))
 have bv := (di.grown0 V.grw)
 refine wpo_loadn (vs := [vi q.t.lab.s, vi q.t.lab.v]) Yd Z Z (bv.rangeL 1 2 Z) Z ?_
 have bd := (al.blk.grown0 V.grw)
 refine wpo_loadn (vs := [vi l.s, vi l.v]) Yd Z Z (bd.rangeL 0 2 Z) Z (Xi Xei (Xb Z (Xb Z Xg)) Z (Pw q.t.lab l _) ?_)
 rintro _ fd ⟨rfl, O⟩
 have ae := low0 (low0 bn V.grw) O
 refine wpo_nil (Xt Z (fun aq => ?_) (fun aq => ?_))
 refine Xa (wpo_loadn (vs := [vi q.t.kind, vi q.t.lab.s, vi q.t.lab.v, vi q.t.ve, vi q.t.num, .slice q.sa q.t.slots.length q.sc, .slice q.qa q.t.queue.length q.qc, vi q.t.to]) X0 Z Z ((bv.grown0 O).rangeL 0 8 Z) Z (Xi Xex (Xb Z Xg) Z (P6 _ q (ThAt.low hq ae) (by omega)) ?_))
 rintro _ fe ⟨ba, aj, bc, ak, rfl, dr, dt, bu⟩
 have bw := ((V.blk.grown0 O).grown0 bu)
 refine wpo_storen (vs := [vi q.t.kind, vi q.t.lab.s, vi q.t.lab.v, vi q.t.ve, vi q.t.num, .slice ba q.t.slots.length aj, .slice bc q.t.queue.length ak, vi q.t.to]) (cs' := #[vi q.t.kind, vi q.t.lab.s, vi q.t.lab.v, vi q.t.ve, vi q.t.num, .slice ba q.t.slots.length aj, .slice bc q.t.queue.length ak, vi q.t.to]) X0 Z Z Z (by simp [Value.oneCell']) bw (Nat.le_of_ble_eq_true Z) Z ?_
 intro ff au
 refine wpo_nil (Xm (Ya ?_))
 have hv : viewTh q.t l = q.t := Gj aq
 rw [hv]
 refine ⟨.agg #[vi q.t.kind, vi q.t.lab.s, vi q.t.lab.v, vi q.t.ve, vi q.t.num, .slice ba q.t.slots.length aj, .slice bc q.t.queue.length ak, vi q.t.to], resC Z (resCell_mk (vs := [vi q.t.kind, vi q.t.lab.s, vi q.t.lab.v, vi q.t.ve, vi q.t.num, .slice ba q.t.slots.length aj, .slice bc q.t.queue.length ak, vi q.t.to]) X0 Z Z (au.blk.rangeL 0 8 Z)), ba, aj, bc, ak, Z, (OwnN.typB (OwnN.mono dr ae.size) au.grw bw (by decide)), (OwnN.typB (OwnN.mono dt ae.size) au.grw bw (by decide)), (low1 (low0 ae bu) au.grw (by omega))⟩
 refine Xn (Xo (Xa (wpo_fieldAddr (o' := 0) X7 Z Z Z ?_)))
 have am := (bv.grown0 O)
 refine wpo_load1 (v := vi q.t.kind) X1 Z (am.cell Z) Z (wpo_fieldAddr (o' := 1) Ke Z Z Z (wpo_loadn (vs := [vi q.t.lab.s, vi q.t.lab.v]) Yd Z Z (am.rangeL 1 2 Z) Z (wpo_fieldAddr (o' := 7) Jv Z Z Z (wpo_load1 (v := vi q.t.to) X1 Z (am.cell Z) Z ?_))))
 rcases Xz ((decide (q.t.kind = 2)) || (decide (q.t.kind = 3))) with ab | ab
 rcases Xz (newOk q.t.kind q.t.lab q.t.to) with ao | ao
 have dk := (bd.grown0 O)
 have dl := (V.blk.grown0 O)
 have ej : thingOk (⟨q.t.kind, q.t.lab, 0, 0, zeros4, [], q.t.to⟩ : Th) = true := (Vj ab).symm.trans ao
 refine Xi Mf (Xb Z (Xb Z (Xb Z Xg))) Z (P1 q.t.kind q.t.to q.t.lab ab ao _) ?_
 rintro _ fg ⟨af, E, rfl, an, bi, aw⟩
 have bp := low0 ae aw
 have dh := nt ae.size an
 have cc := nl (am).lt an
 have cm := nl (dk).lt an
 have cy := nl (dl).lt an
 refine wpo_move (v := .tuple #[.agg #[vi q.t.kind, vi q.t.lab.s, vi q.t.lab.v, vi 0, vi 0, .slice (pa af) 4 E, .slice none 0 0, vi q.t.to], vb true]) Z Z (wpo_extract (v := .agg #[vi q.t.kind, vi q.t.lab.s, vi q.t.lab.v, vi 0, vi 0, .slice (pa af) 4 E, .slice none 0 0, vi q.t.to]) Z Z Z (wpo_extract (v := vb true) Z Z Z (wpo_alloc (cs := #[vi 0, vi 0, vi 0, vi 0, vi 0, .slice none 0 0, .slice none 0 0, vi 0]) Jb Z Z ?_)))
 intro ee fh ac
 have d5 := Xy ac bp
 have cd := Xs ac ((am.grown0 aw)).lt
 have cn := Xs ac ((dk.grown0 aw)).lt
 have dm := (dl.grown0 aw)
 have cz := Xs ac (dm).lt
 have de := Xs ac (bi).lt
 refine wpo_storen (vs := [vi q.t.kind, vi q.t.lab.s, vi q.t.lab.v, vi 0, vi 0, .slice (pa af) 4 E, .slice none 0 0, vi q.t.to]) (cs' := #[vi q.t.kind, vi q.t.lab.s, vi q.t.lab.v, vi 0, vi 0, .slice (pa af) 4 E, .slice none 0 0, vi q.t.to]) X0 Z Z Z (by simp [Value.oneCell']) ac.blk (Nat.le_of_ble_eq_true Z) Z ?_
 intro fi av
 refine wpo_assign (v := vb true) Z Z (wpo_nil (Xa (wpo_loadn (vs := [vi q.t.kind, vi q.t.lab.s, vi q.t.lab.v, vi 0, vi 0, .slice (pa af) 4 E, .slice none 0 0, vi q.t.to]) X0 Z Z (av.blk.rangeL 0 8 Z) Z (wpo_storen (vs := [vi q.t.kind, vi q.t.lab.s, vi q.t.lab.v, vi 0, vi 0, .slice (pa af) 4 E, .slice none 0 0, vi q.t.to]) (cs' := #[vi q.t.kind, vi q.t.lab.s, vi q.t.lab.v, vi 0, vi 0, .slice (pa af) 4 E, .slice none 0 0, vi q.t.to]) X0 Z Z Z (by simp [Value.oneCell']) ((dm.grown0 ac.grw).gn av.grw) (Nat.le_of_ble_eq_true Z) Z ?_))))
 intro fj be
 refine wpo_nil (Xm ?_)
 have hv : viewTh q.t l = ⟨q.t.kind, q.t.lab, 0, 0, zeros4, [], q.t.to⟩ := Oh aq ao ab
 rw [hv]
 refine ⟨.agg #[vi q.t.kind, vi q.t.lab.s, vi q.t.lab.v, vi 0, vi 0, .slice (pa af) 4 E, .slice none 0 0, vi q.t.to], resC Z (resCell_mk (vs := [vi q.t.kind, vi q.t.lab.s, vi q.t.lab.v, vi 0, vi 0, .slice (pa af) 4 E, .slice none 0 0, vi q.t.to]) X0 Z Z (be.blk.rangeL 0 8 Z)), some ⟨af, 0, none⟩, E, none, 0, Z, (OwnN.of (((bi.grown0 ac.grw).gn av.grw).gn be.grw) dh), OwnN.nil, (low1 (low1 (low0 bp ac.grw) av.grw (by omega)) be.grw (by omega))⟩
 have eu : thingOk (⟨q.t.kind, q.t.lab, 0, 0, zeros4, [], q.t.to⟩ : Th) = false := (Vj ab).symm.trans ao
 refine Xi Mf (Xb Z (Xb Z (Xb Z Xg))) Z (P0 q.t.kind q.t.to q.t.lab ab ao _) ?_
 rintro _ fk ⟨rfl, az⟩
 have bq := low0 ae az
 refine wpo_move (v := .tuple #[.agg #[vi 0, vi 0, vi 0, vi 0, vi 0, .slice none 0 0, .slice none 0 0, vi 0], vb false]) Z Z (wpo_extract (v := .agg #[vi 0, vi 0, vi 0, vi 0, vi 0, .slice none 0 0, .slice none 0 0, vi 0]) Z Z Z (wpo_extract (v := vb false) Z Z Z (wpo_alloc (cs := #[vi 0, vi 0, vi 0, vi 0, vi 0, .slice none 0 0, .slice none 0 0, vi 0]) Jb Z Z ?_)))
 intro ef fm ag
 have d6 := Xy ag bq
 have ce := Xs ag ((am.grown0 az)).lt
 have co := Xs ag (((bd.grown0 O).grown0 az)).lt
 have dn := ((V.blk.grown0 O).grown0 az)
 have da := Xs ag (dn).lt
 refine wpo_storen (vs := [vi 0, vi 0, vi 0, vi 0, vi 0, .slice none 0 0, .slice none 0 0, vi 0]) (cs' := #[vi 0, vi 0, vi 0, vi 0, vi 0, .slice none 0 0, .slice none 0 0, vi 0]) X0 Z Z Z (by simp [Value.oneCell']) ag.blk (Nat.le_of_ble_eq_true Z) Z ?_
 intro fp bf
 refine wpo_assign (v := vb false) Z Z (wpo_nil (Xa (wpo_loadn (vs := [vi 0, vi 0, vi 0, vi 0, vi 0, .slice none 0 0, .slice none 0 0, vi 0]) X0 Z Z (bf.blk.rangeL 0 8 Z) Z (wpo_storen (vs := [vi 0, vi 0, vi 0, vi 0, vi 0, .slice none 0 0, .slice none 0 0, vi 0]) (cs' := #[vi 0, vi 0, vi 0, vi 0, vi 0, .slice none 0 0, .slice none 0 0, vi 0]) X0 Z Z Z (by simp [Value.oneCell']) ((dn.grown0 ag.grw).gn bf.grw) (Nat.le_of_ble_eq_true Z) Z ?_))))
 intro fq bj
 refine wpo_nil (Xm ?_)
 have hv : viewTh q.t l = Th.zero := Sq aq ao
 rw [hv]
 refine ⟨.agg #[vi 0, vi 0, vi 0, vi 0, vi 0, .slice none 0 0, .slice none 0 0, vi 0], resC Z (resCell_mk (vs := [vi 0, vi 0, vi 0, vi 0, vi 0, .slice none 0 0, .slice none 0 0, vi 0]) X0 Z Z (bj.blk.rangeL 0 8 Z)), none, 0, none, 0, Z, OwnN.nil, OwnN.nil, (low1 (low1 (low0 bq ag.grw) bf.grw (by omega)) bj.grw (by omega))⟩
 have du := K5 ab
 have ew := of_decide_eq_false du
 have dv := K6 ab
 have ex := of_decide_eq_false dv
 rcases Xz (newOk q.t.kind q.t.lab q.t.to) with ap | ap
 have ey : thingOk (⟨q.t.kind, q.t.lab, 0, 0, [], [], q.t.to⟩ : Th) = true := (J5 ab).symm.trans ap
 refine Xi Mf (Xb Z (Xb Z (Xb Z Xg))) Z (Pz q.t.kind q.t.to q.t.lab ab ap _) ?_
 rintro _ ft ⟨rfl, a8⟩
 have br := low0 ae a8
 refine wpo_move (v := .tuple #[.agg #[vi q.t.kind, vi q.t.lab.s, vi q.t.lab.v, vi 0, vi 0, .slice none 0 0, .slice none 0 0, vi q.t.to], vb true]) Z Z (wpo_extract (v := .agg #[vi q.t.kind, vi q.t.lab.s, vi q.t.lab.v, vi 0, vi 0, .slice none 0 0, .slice none 0 0, vi q.t.to]) Z Z Z (wpo_extract (v := vb true) Z Z Z (wpo_alloc (cs := #[vi 0, vi 0, vi 0, vi 0, vi 0, .slice none 0 0, .slice none 0 0, vi 0]) Jb Z Z ?_)))
 intro eh fu ah
 have d7 := Xy ah br
 have cg := Xs ah ((am.grown0 a8)).lt
 have cw := Xs ah (((bd.grown0 O).grown0 a8)).lt
 have dp := ((V.blk.grown0 O).grown0 a8)
 have db := Xs ah (dp).lt
 refine wpo_storen (vs := [vi q.t.kind, vi q.t.lab.s, vi q.t.lab.v, vi 0, vi 0, .slice none 0 0, .slice none 0 0, vi q.t.to]) (cs' := #[vi q.t.kind, vi q.t.lab.s, vi q.t.lab.v, vi 0, vi 0, .slice none 0 0, .slice none 0 0, vi q.t.to]) X0 Z Z Z (by simp [Value.oneCell']) ah.blk (Nat.le_of_ble_eq_true Z) Z ?_
 intro fv bg
 refine wpo_assign (v := vb true) Z Z (wpo_nil (Xa (wpo_loadn (vs := [vi q.t.kind, vi q.t.lab.s, vi q.t.lab.v, vi 0, vi 0, .slice none 0 0, .slice none 0 0, vi q.t.to]) X0 Z Z (bg.blk.rangeL 0 8 Z) Z (wpo_storen (vs := [vi q.t.kind, vi q.t.lab.s, vi q.t.lab.v, vi 0, vi 0, .slice none 0 0, .slice none 0 0, vi q.t.to]) (cs' := #[vi q.t.kind, vi q.t.lab.s, vi q.t.lab.v, vi 0, vi 0, .slice none 0 0, .slice none 0 0, vi q.t.to]) X0 Z Z Z (by simp [Value.oneCell']) ((dp.grown0 ah.grw).gn bg.grw) (Nat.le_of_ble_eq_true Z) Z ?_))))
 intro fw bk
 refine wpo_nil (Xm ?_)
 have hv : viewTh q.t l = ⟨q.t.kind, q.t.lab, 0, 0, [], [], q.t.to⟩ := Og aq ap ab
 rw [hv]
 refine ⟨.agg #[vi q.t.kind, vi q.t.lab.s, vi q.t.lab.v, vi 0, vi 0, .slice none 0 0, .slice none 0 0, vi q.t.to], resC Z (resCell_mk (vs := [vi q.t.kind, vi q.t.lab.s, vi q.t.lab.v, vi 0, vi 0, .slice none 0 0, .slice none 0 0, vi q.t.to]) X0 Z Z (bk.blk.rangeL 0 8 Z)), none, 0, none, 0, Z, OwnN.nil, OwnN.nil, (low1 (low1 (low0 br ah.grw) bg.grw (by omega)) bk.grw (by omega))⟩
 have ez : thingOk (⟨q.t.kind, q.t.lab, 0, 0, [], [], q.t.to⟩ : Th) = false := (J5 ab).symm.trans ap
 refine Xi Mf (Xb Z (Xb Z (Xb Z Xg))) Z (Py q.t.kind q.t.to q.t.lab ab ap _) ?_
 rintro _ fx ⟨rfl, a9⟩
 have bt := low0 ae a9
 refine wpo_move (v := .tuple #[.agg #[vi 0, vi 0, vi 0, vi 0, vi 0, .slice none 0 0, .slice none 0 0, vi 0], vb false]) Z Z (wpo_extract (v := .agg #[vi 0, vi 0, vi 0, vi 0, vi 0, .slice none 0 0, .slice none 0 0, vi 0]) Z Z Z (wpo_extract (v := vb false) Z Z Z (wpo_alloc (cs := #[vi 0, vi 0, vi 0, vi 0, vi 0, .slice none 0 0, .slice none 0 0, vi 0]) Jb Z Z ?_)))
 intro ei fy ai
 have d8 := Xy ai bt
 have cj := Xs ai ((am.grown0 a9)).lt
 have cx := Xs ai (((bd.grown0 O).grown0 a9)).lt
 have dq := ((V.blk.grown0 O).grown0 a9)
 have dc := Xs ai (dq).lt
 refine wpo_storen (vs := [vi 0, vi 0, vi 0, vi 0, vi 0, .slice none 0 0, .slice none 0 0, vi 0]) (cs' := #[vi 0, vi 0, vi 0, vi 0, vi 0, .slice none 0 0, .slice none 0 0, vi 0]) X0 Z Z Z (by simp [Value.oneCell']) ai.blk (Nat.le_of_ble_eq_true Z) Z ?_
 intro fz bh
 refine wpo_assign (v := vb false) Z Z (wpo_nil (Xa (wpo_loadn (vs := [vi 0, vi 0, vi 0, vi 0, vi 0, .slice none 0 0, .slice none 0 0, vi 0]) X0 Z Z (bh.blk.rangeL 0 8 Z) Z (wpo_storen (vs := [vi 0, vi 0, vi 0, vi 0, vi 0, .slice none 0 0, .slice none 0 0, vi 0]) (cs' := #[vi 0, vi 0, vi 0, vi 0, vi 0, .slice none 0 0, .slice none 0 0, vi 0]) X0 Z Z Z (by simp [Value.oneCell']) ((dq.grown0 ai.grw).gn bh.grw) (Nat.le_of_ble_eq_true Z) Z ?_))))
 intro f7 bl
 refine wpo_nil (Xm ?_)
 have hv : viewTh q.t l = Th.zero := Sq aq ap
 rw [hv]
 refine ⟨.agg #[vi 0, vi 0, vi 0, vi 0, vi 0, .slice none 0 0, .slice none 0 0, vi 0], resC Z (resCell_mk (vs := [vi 0, vi 0, vi 0, vi 0, vi 0, .slice none 0 0, .slice none 0 0, vi 0]) X0 Z Z (bl.blk.rangeL 0 8 Z)), none, 0, none, 0, Z, OwnN.nil, OwnN.nil, (low1 (low1 (low0 bt ai.grw) bh.grw (by omega)) bl.grw (by omega))⟩
end Go.Dw.J
end
section
namespace Go.Dw.J
open Go.RowKit Go.Dw Go.Proofs
set_option linter.unusedSectionVars false
set_option maxRecDepth 100000
set_option maxHeartbeats 4000000
set_option linter.unusedSimpArgs false
set_option linter.unusedVariables false
theorem Xci : goFn Try.prog 37 = true := by kernel_rfl
end Go.Dw.J
end
section
namespace Go.Dw.J
open Go.RowKit Go.Dw Go.Proofs
set_option linter.unusedSectionVars false
set_option maxRecDepth 100000
set_option maxHeartbeats 4000000
set_option linter.unusedSimpArgs false
set_option linter.unusedVariables false
theorem Xdd : goFn Try.prog 109 = true := by kernel_rfl
theorem Xde : goFn Try.prog 110 = true := by kernel_rfl
theorem Vp : goFn Try.prog 15 = true := by kernel_rfl
theorem Xch : goFn Try.prog 36 = true := by kernel_rfl
theorem Xco : goFn Try.prog 70 = true := by kernel_rfl
theorem G4 : goFn Try.prog 93 = true := by kernel_rfl
theorem Tg [Comp] (k to : Int) (p : Int) (hp : 0 ≤ p ∧ p ≤ 1000000000000) (lo R : Nat) (bs : List Int) (a : Option Addr) (c : Nat) (w : World) (hR : Blk w R 97 #[.slice a bs.length c, vi p]) (hlo : lo ≤ R) (hs : SlLt lo w a 1 (bs.map bcell)) (hb : ∀ b ∈ bs, 0 ≤ b ∧ b ≤ 255) (hn : bs.length ≤ 1048576) : CallsR Try.prog 109 #[pt R 0, vi k, vi to] w (fun v w' => ∃ (m : MTh) (p' : Int), v = .agg #[vi m.t.kind, vi m.t.lab.s, vi m.t.lab.v, vi m.t.ve, vi m.t.num, .slice m.sa m.t.slots.length m.sc, .slice m.qa m.t.queue.length m.qc, vi m.t.to] ∧ RowD 74 3 w.heap.size w' m ∧ p ≤ p' ∧ p' ≤ p + 12 ∧ Blk w' R 97 #[.slice a bs.length c, vi p'] ∧ w.grownBy w' (some R)) := by
 refine Xq (n := 59) Try.func109 Z Try.ntmps109 Z ?_
 have ua := World.grownBy.refl w (some R)
 have hRlt := hR.lt
 refine Xa (wpo_alloc (cs := #[vi 0, vi 0, vi 0, vi 0, vi 0, .slice none 0 0, .slice none 0 0, vi 0]) Jb Z Z ?_)
 intro bh x3 bu
 have uz := Xy bu ua
 have qy := Xs bu (hR).lt
 have jg := low0 ua bu.grw
 refine wpo_nil (Xa (wpo_move (v := vi k) Z Z (wpo_move (v := pt R 0) Z Z (Xi Xch (Xb Z Xg) Z (Lb p (by omega) _ R bs _ _ _ (hR.grown0 bu.grw) (by omega) (SlLt.low1 hs jg hlo) (by first | exact hb | exact fun b h => hb b (List.mem_of_mem_take h)) (by first | omega | (rw [List.length_take]; omega))) ?_))))
 rintro _ x4 ⟨E, ak, rfl, wi, wj, wl, wm, wg, wh, cj, fv⟩
 have bv := Xh jg fv
 refine wpo_move (v := vi to) Z Z ?_
 rcases Xz ((decide (k = 2)) || (decide (k = 3))) with bt | bt
 rcases Xz (newOk k E to) with ip | ip
 have j4 := (bu.blk.gn fv)
 have wx : thingOk (⟨k, E, 0, 0, zeros4, [], to⟩ : Th) = true := (Vj bt).symm.trans ip
 refine Xi G4 (Xb Z (Xb Z (Xb Z Xg))) Z (Gf k to E bt ip _) ?_
 rintro _ x5 ⟨ae, O, al, ab, rfl, ii, dv, ij, dw, mg, iz⟩
 have jh := low0 bv iz
 have ez := nt bv.size ii
 have qz := nl (cj).lt ii
 have ko := nl (j4).lt ii
 have fa := nt bv.size ij
 have q1 := nl (cj).lt ij
 have kp := nl (j4).lt ij
 refine wpo_move (v := .tuple #[.agg #[vi k, vi E.s, vi E.v, vi 0, vi 0, .slice (pa ae) 4 O, .slice (pa al) 0 ab, vi to], vb true]) Z Z (wpo_extract (v := .agg #[vi k, vi E.s, vi E.v, vi 0, vi 0, .slice (pa ae) 4 O, .slice (pa al) 0 ab, vi to]) Z Z Z (wpo_extract (v := vb true) Z Z Z (wpo_alloc (cs := #[vi 0, vi 0, vi 0, vi 0, vi 0, .slice none 0 0, .slice none 0 0, vi 0]) Jb Z Z ?_)))
 intro fb x6 af
 have u0 := Xy af jh
 have gz := (cj.grown0 iz)
 have q2 := Xs af (gz).lt
 have g4 := (j4.grown0 iz)
 have kq := Xs af (g4).lt
 have ll := Xs af (dw).lt
 have lh := Xs af (dv).lt
 refine wpo_storen (vs := [vi k, vi E.s, vi E.v, vi 0, vi 0, .slice (pa ae) 4 O, .slice (pa al) 0 ab, vi to]) (cs' := #[vi k, vi E.s, vi E.v, vi 0, vi 0, .slice (pa ae) 4 O, .slice (pa al) 0 ab, vi to]) X0 Z Z Z (by simp [Value.oneCell']) af.blk (Nat.le_of_ble_eq_true Z) Z ?_
 intro x7 ac
 have bf := low1 (low0 jh af.grw) ac.grw (by omega)
 refine wpo_assign (v := vb true) Z Z (wpo_nil (Xk (Xa (wpo_fieldAddr (o' := 0) X7 Z Z Z (wpo_load1 (v := vi k) X1 Z (ac.blk.cell Z) Z (wpo_eql (q := decide (k = 0)) Z Z Z Z (wpo_nil (Xt Z (fun i7 => ?_) (fun i7 => ?_)))))))))
 have wy := of_decide_eq_true i7
 refine Xr (wpo_build (ps := []) (v := .agg #[vi 0, vi 0]) Xw (fun _ => by kernel_rfl) Z ?_)
 have j5 := ((gz.grown0 af.grw).gn ac.grw)
 have j6 := ((g4.grown0 af.grw).gn ac.grw)
 have n5 := ((dw.grown0 af.grw).gn ac.grw)
 have n7 := ((dv.grown0 af.grw).gn ac.grw)
 have wz : thingOk (⟨1, ⟨0, 0⟩, 0, 0, [], [], 0⟩ : Th) = true := (J5 (by decide)).symm.trans (by decide)
 refine Xi G4 (Xb Z (Xb Z (Xb Z Xg))) Z (J1 1 0 ⟨0, 0⟩ (by decide) (by decide) _) ?_
 rintro _ x8 ⟨bi, ao, bj, ap, rfl, ck, o3, cm, o4, mn, ib⟩
 have mz := nt bf.size ck
 have q3 := nl (j5).lt ck
 have kr := nl (j6).lt ck
 have lm := nl (n5).lt ck
 have li := nl (n7).lt ck
 have lu := nl (ac.blk).lt ck
 have m3 := nt bf.size cm
 have q4 := nl (j5).lt cm
 have ks := nl (j6).lt cm
 have ln := nl (n5).lt cm
 have lj := nl (n7).lt cm
 have lv := nl (ac.blk).lt cm
 refine wpo_move (v := .tuple #[.agg #[vi 1, vi 0, vi 0, vi 0, vi 0, .slice (pa bi) 0 ao, .slice (pa bj) 0 ap, vi 0], vb true]) Z Z (wpo_extract (v := .agg #[vi 1, vi 0, vi 0, vi 0, vi 0, .slice (pa bi) 0 ao, .slice (pa bj) 0 ap, vi 0]) Z Z Z (wpo_extract (v := vb true) Z Z Z (wpo_storen (vs := [vi 1, vi 0, vi 0, vi 0, vi 0, .slice (pa bi) 0 ao, .slice (pa bj) 0 ap, vi 0]) (cs' := #[vi 1, vi 0, vi 0, vi 0, vi 0, .slice (pa bi) 0 ao, .slice (pa bj) 0 ap, vi 0]) X0 Z Z Z (by simp [Value.oneCell']) (ac.blk.grown0 ib) (Nat.le_of_ble_eq_true Z) Z ?_)))
 intro x9 cy
 have ji := low1 (low0 bf ib) cy.grw (by omega)
 refine wpo_nil (Xo (Xk (Xa (wpo_fieldAddr (o' := 0) X7 Z Z Z (wpo_load1 (v := vi 1) X1 Z (cy.blk.cell Z) Z (wpo_nil (Xv (Xa (wpo_eql (q := true) Z Z (by decide) Z (wpo_assign (v := vb true) Z Z (wpo_nil (X8 Z Z ?_))))))))))))
 refine Xa (wpo_move (v := pt R 0) Z Z (Xi Y7 (Xb Z (Xb Z Xg)) Z (Yj ak 20 (by omega) _ R bs _ _ _ ((j5.grown0 ib).gn cy.grw) (by omega) (SlLt.low1 hs ji hlo) (by first | exact hb | exact fun b h => hb b (List.mem_of_mem_take h)) (by first | omega | (rw [List.length_take]; omega))) ?_))
 rintro _ ya ⟨dm, rfl, vg, vh, py, fw⟩
 refine wpo_fieldAddr (o' := 4) Q9 Z Z Z (wpo_store1 (v := vi dm) (cs' := #[vi 1, vi 0, vi 0, vi 0, vi dm, .slice (pa bi) 0 ao, .slice (pa bj) 0 ap, vi 0]) X1 Z Z Z (cy.blk.gn fw) (Nat.le_of_ble_eq_true Z) Z ?_)
 intro yb dx
 have jj := low1 (Xh ji fw) dx.grw (by omega)
 refine wpo_nil (Xr (wpo_move (v := pt R 0) Z Z (Xi Y7 (Xb Z (Xb Z Xg)) Z (Yj (ak + 1) 3 (by omega) _ R bs _ _ _ (py.gn dx.grw) (by omega) (SlLt.low1 hs jj hlo) (by first | exact hb | exact fun b h => hb b (List.mem_of_mem_take h)) (by first | omega | (rw [List.length_take]; omega))) ?_)))
 rintro _ yc ⟨bz, rfl, vj, vk, p0, fx⟩
 refine wpo_quo (c := bz / 2) Z Z (by omega) (by omega) (by omega) Z Z (wpo_fieldAddr (o' := 3) Q5 Z Z Z (wpo_store1 (v := vi (bz / 2)) (cs' := #[vi 1, vi 0, vi 0, vi (bz / 2), vi dm, .slice (pa bi) 0 ao, .slice (pa bj) 0 ap, vi 0]) X1 Z Z Z (dx.blk.gn fx) (Nat.le_of_ble_eq_true Z) Z ?_))
 intro yd dz
 refine wpo_nil (Y3 (Xo (Xa (wpo_loadn (vs := [vi 1, vi 0, vi 0, vi (bz / 2), vi dm, .slice (pa bi) 0 ao, .slice (pa bj) 0 ap, vi 0]) X0 Z Z (dz.blk.rangeL 0 8 Z) Z (wpo_storen (vs := [vi 1, vi 0, vi 0, vi (bz / 2), vi dm, .slice (pa bi) 0 ao, .slice (pa bj) 0 ap, vi 0]) (cs' := #[vi 1, vi 0, vi 0, vi (bz / 2), vi dm, .slice (pa bi) 0 ao, .slice (pa bj) 0 ap, vi 0]) X0 Z Z Z (by simp [Value.oneCell']) ((((((j6.grown0 ib).gn cy.grw).gn fw).gn dx.grw).gn fx).gn dz.grw) (Nat.le_of_ble_eq_true Z) Z ?_)))))
 intro ye ff
 refine wpo_nil (Xm (⟨.agg #[vi 1, vi 0, vi 0, vi (bz / 2), vi dm, .slice (pa bi) 0 ao, .slice (pa bj) 0 ap, vi 0], resC Z (resCell_mk (vs := [vi 1, vi 0, vi 0, vi (bz / 2), vi dm, .slice (pa bi) 0 ao, .slice (pa bj) 0 ap, vi 0]) X0 Z Z (ff.blk.rangeL 0 8 Z)), ⟨⟨1, ⟨0, 0⟩, bz / 2, dm, ([] : List Rt), ([] : List Int), 0⟩, some ⟨bi, 0, none⟩, ao, some ⟨bj, 0, none⟩, ap⟩, (ak + 1 + 1), Z, ⟨OwnN.of ((((((o4.gn cy.grw).gn fw).gn dx.grw).gn fx).gn dz.grw).gn ff.grw) m3, ⟨([] : List Rt), OwnN.of ((((((o3.gn cy.grw).gn fw).gn dx.grw).gn fx).gn dz.grw).gn ff.grw) mz, Z, ?_⟩, ?_, ?_, ⟨show (0 : Int) ≤ bz / 2 by omega, show bz / 2 ≤ (1 : Int) by omega⟩⟩, by omega, by omega, ((p0.gn dz.grw).gn ff.grw), (low1 (low1 (Xh jj fx) dz.grw (by omega)) ff.grw (by omega))⟩))
 intro x hx; first | (simp [zeros4] at hx; subst hx; exact ⟨by decide, by decide, by decide, by decide⟩) | simp at hx
 · first | exact Nat.le_of_ble_eq_true rfl | omega | (simp only [List.length_nil]; omega)
 exact Nat.le_of_ble_eq_true Z
 have w8 := of_decide_eq_false i7
 refine Xn (Xo (Xk (Xa (wpo_fieldAddr (o' := 0) X7 Z Z Z (wpo_load1 (v := vi k) X1 Z (ac.blk.cell Z) Z (wpo_nil (Xv (Xa (wpo_eql (q := decide (k = 1)) Z Z Z Z (wpo_assign (v := vb (decide (k = 1))) Z Z (wpo_nil (Xt Z (fun i8 => ?_) (fun i8 => ?_)))))))))))))
 have w9 := of_decide_eq_true i8
 refine Xa (wpo_move (v := pt R 0) Z Z (Xi Y7 (Xb Z (Xb Z Xg)) Z (Yj ak 20 (by omega) _ R bs _ _ _ ((gz.grown0 af.grw).gn ac.grw) (by omega) (SlLt.low1 hs bf hlo) (by first | exact hb | exact fun b h => hb b (List.mem_of_mem_take h)) (by first | omega | (rw [List.length_take]; omega))) ?_))
 rintro _ yf ⟨dn, rfl, vl, vm, p8, fy⟩
 refine wpo_fieldAddr (o' := 4) Q9 Z Z Z (wpo_store1 (v := vi dn) (cs' := #[vi k, vi E.s, vi E.v, vi 0, vi dn, .slice (pa ae) 4 O, .slice (pa al) 0 ab, vi to]) X1 Z Z Z (ac.blk.gn fy) (Nat.le_of_ble_eq_true Z) Z ?_)
 intro yg d0
 have jk := low1 (Xh bf fy) d0.grw (by omega)
 refine wpo_nil (Xr (wpo_move (v := pt R 0) Z Z (Xi Y7 (Xb Z (Xb Z Xg)) Z (Yj (ak + 1) 3 (by omega) _ R bs _ _ _ (p8.gn d0.grw) (by omega) (SlLt.low1 hs jk hlo) (by first | exact hb | exact fun b h => hb b (List.mem_of_mem_take h)) (by first | omega | (rw [List.length_take]; omega))) ?_)))
 rintro _ yh ⟨ca, rfl, vn, vo, p9, fz⟩
 refine wpo_quo (c := ca / 2) Z Z (by omega) (by omega) (by omega) Z Z (wpo_fieldAddr (o' := 3) Q5 Z Z Z (wpo_store1 (v := vi (ca / 2)) (cs' := #[vi k, vi E.s, vi E.v, vi (ca / 2), vi dn, .slice (pa ae) 4 O, .slice (pa al) 0 ab, vi to]) X1 Z Z Z (d0.blk.gn fz) (Nat.le_of_ble_eq_true Z) Z ?_))
 intro yi d5
 refine wpo_nil (Y3 (Xo (Xa (wpo_loadn (vs := [vi k, vi E.s, vi E.v, vi (ca / 2), vi dn, .slice (pa ae) 4 O, .slice (pa al) 0 ab, vi to]) X0 Z Z (d5.blk.rangeL 0 8 Z) Z (wpo_storen (vs := [vi k, vi E.s, vi E.v, vi (ca / 2), vi dn, .slice (pa ae) 4 O, .slice (pa al) 0 ab, vi to]) (cs' := #[vi k, vi E.s, vi E.v, vi (ca / 2), vi dn, .slice (pa ae) 4 O, .slice (pa al) 0 ab, vi to]) X0 Z Z Z (by simp [Value.oneCell']) ((((((g4.grown0 af.grw).gn ac.grw).gn fy).gn d0.grw).gn fz).gn d5.grw) (Nat.le_of_ble_eq_true Z) Z ?_)))))
 intro yj fg
 refine wpo_nil (Xm (⟨.agg #[vi k, vi E.s, vi E.v, vi (ca / 2), vi dn, .slice (pa ae) 4 O, .slice (pa al) 0 ab, vi to], resC Z (resCell_mk (vs := [vi k, vi E.s, vi E.v, vi (ca / 2), vi dn, .slice (pa ae) 4 O, .slice (pa al) 0 ab, vi to]) X0 Z Z (fg.blk.rangeL 0 8 Z)), ⟨⟨k, E, ca / 2, dn, zeros4, ([] : List Int), to⟩, some ⟨ae, 0, none⟩, O, some ⟨al, 0, none⟩, ab⟩, (ak + 1 + 1), Z, ⟨OwnN.of (((((((dw.grown0 af.grw).gn ac.grw).gn fy).gn d0.grw).gn fz).gn d5.grw).gn fg.grw) fa, ⟨zeros4, OwnN.of (((((((dv.grown0 af.grw).gn ac.grw).gn fy).gn d0.grw).gn fz).gn d5.grw).gn fg.grw) ez, Z, ?_⟩, ?_, ?_, ⟨show (0 : Int) ≤ ca / 2 by omega, show ca / 2 ≤ (1 : Int) by omega⟩⟩, by omega, by omega, ((p9.gn d5.grw).gn fg.grw), (low1 (low1 (Xh jk fz) d5.grw (by omega)) fg.grw (by omega))⟩))
 intro x hx; first | (simp [zeros4] at hx; subst hx; exact ⟨by decide, by decide, by decide, by decide⟩) | simp at hx
 · first | exact Nat.le_of_ble_eq_true rfl | omega | (simp only [List.length_nil]; omega)
 exact Nat.le_of_ble_eq_true Z
 have xa := of_decide_eq_false i8
 refine Xa (wpo_eql (q := decide (k = 4)) Z Z Z Z (wpo_assign (v := vb (decide (k = 4))) Z Z (wpo_nil (Xt Z (fun i9 => ?_) (fun i9 => ?_)))))
 have xb := of_decide_eq_true i9
 refine Xa (wpo_move (v := pt R 0) Z Z (Xi Y7 (Xb Z (Xb Z Xg)) Z (Yj ak 4 (by omega) _ R bs _ _ _ ((gz.grown0 af.grw).gn ac.grw) (by omega) (SlLt.low1 hs bf hlo) (by first | exact hb | exact fun b h => hb b (List.mem_of_mem_take h)) (by first | omega | (rw [List.length_take]; omega))) ?_))
 rintro _ ym ⟨j7, rfl, vp, vq, qd, f7⟩
 refine wpo_assign (v := vi j7) Z Z (wpo_nil (Xv (Yg (fun mm f' w' => ∃ (n : Int) (p1 : Int) (Bq : Nat) (cq : Nat) (ys : List Int), mm = n.toNat ∧ (0 ≤ n ∧ n ≤ 3) ∧ (ak + 1 ≤ p1 ∧ p1 ≤ (ak + 1) + 3 - n) ∧ (ys.length : Int) ≤ 3 - n ∧ Dw.Own w' Bq 3 1 cq ys.length (ys.flatMap icell) ∧ w.heap.size ≤ Bq ∧ R ≠ Bq ∧ bh ≠ Bq ∧ ae ≠ Bq ∧ fb ≠ Bq ∧ f' 9 = vi n ∧ f' 0 = pt R 0 ∧ f' 6 = pt bh 0 ∧ f' 7 = pt fb 0 ∧ w.grownBy w' (some R) ∧ Blk w' bh 35 #[vi 0, vi 0, vi 0, vi 0, vi 0, .slice none 0 0, .slice none 0 0, vi 0] ∧ Dw.Own w' ae 74 5 O zeros4.length (zeros4.flatMap Rt.cells) ∧ Blk w' fb 35 #[vi k, vi E.s, vi E.v, vi 0, vi 0, .slice (pa ae) 4 O, .slice (pa Bq) ys.length cq, vi to] ∧ Blk w' R 97 #[.slice a bs.length c, vi p1]) (j7.toNat) ⟨j7, (ak + 1), al, ab, ([] : List Int), Z, (by omega), (by omega), (by simp only [List.length_nil]; omega), (((dw.grown0 af.grw).gn ac.grw).gn f7), fa, (by omega), (by omega), (by omega), (by omega), Z, Z, Z, Z, (Xh bf f7), (((g4.grown0 af.grw).gn ac.grw).gn f7), (((dv.grown0 af.grw).gn ac.grw).gn f7), (ac.blk.gn f7), qd⟩ ?_)))
 rintro mm wv o0 ⟨n, p1, Bq, cq, ys, wd, hnn, hpp, hyl, hOwn, hlBq, ue, uf, ug, uh, nh, rx, i5, ni, g9, j8, j9, i3, n8⟩
 refine Xk (Xa (wpo_move (v := vi n) nh Z (wpo_gtr (q := decide (0 < n)) Z Z Z Z (wpo_nil (Xt Z (fun ja => ?_) (fun ja => ?_))))))
 have xc := of_decide_eq_true ja
 refine Xn (Xo (Xk (Xv (Q8 (m := 5) [[], [0], [], [2], [2, 3], [0, 1, 2, 3, 4], [0, 1, 2, 3, 4, 5], [0, 1, 2, 3, 4, 5, 6]] (fun S F w' => ∃ (am : Int) (a8 : Nat), o0.grownBy w' (some R) ∧ F 0 = pt R 0 ∧ F 6 = pt bh 0 ∧ F 7 = pt fb 0 ∧ F 9 = vi n ∧ (S 3 = false → Blk w' R 97 #[.slice a bs.length c, vi p1]) ∧ (S 3 = true → F 48 = vi am ∧ 0 ≤ am ∧ (am < 20 ∨ am = 0) ∧ Blk w' R 97 #[.slice a bs.length c, vi (p1 + 1)]) ∧ (S 4 = true → F 49 = .slice (pa a8) 1 1 ∧ w.heap.size ≤ a8 ∧ Blk w' a8 3 (([am] : List Int).flatMap icell).toArray ∧ bh < a8 ∧ ae < a8 ∧ fb < a8 ∧ R < a8 ∧ Bq < a8 ∧ o0.heap.size ≤ a8) ∧ Vals S F [(0, 45, pt fb 6), (1, 46, .slice (pa Bq) ys.length cq), (2, 47, pt R 0)]) Yu (by kernel_rfl) ⟨0, 0, Xx _, rx, i5, ni, nh, fun _ => (n8).grown0 (Xx _), X4, X4, Kn _⟩ ?_ ?_))))
 refine Xl (fun S F yn hS hbef hcl hI => ?_) ?_
 obtain ⟨am, a8, pi, ry, rz, nj, r1, c_old_R, bc, br, hvs⟩ := hI
 exact wpo_fieldAddr (o' := 6) Q2 nj Z Z (wpo_nil ⟨am, a8, pi, ry, rz, nj, r1, fun h => c_old_R h, bc, br, Vals.up 0 hvs Z Z Z⟩)
 refine Xl (fun S F yo hS hbef hcl hI => ?_) ?_
 obtain ⟨am, a8, jz, r2, r3, r4, r5, c_old_R, bc, br, hvs⟩ := hI
 exact wpo_load1 (v := .slice (pa Bq) ys.length cq) Kc (Vals.at 0 hvs Z (Xf 0 hbef Z)) ((i3.gn jz).cell Z) Z (wpo_nil ⟨am, a8, jz, r2, r3, r4, r5, fun h => c_old_R h, bc, br, Vals.up 1 hvs Z Z Z⟩)
 refine Xl (fun S F yp hS hbef hcl hI => ?_) ?_
 obtain ⟨am, a8, pj, nk, r6, r7, r8, c_old_R, bc, br, hvs⟩ := hI
 exact wpo_move (v := pt R 0) nk Z (wpo_nil ⟨am, a8, pj, nk, r6, r7, r8, fun h => c_old_R h, Xj 3 hS hcl Z, Xj 4 hS hcl Z, Vals.up 2 hvs Z Z Z⟩)
 refine Xl (fun S F yq hS hbef hcl hI => ?_) ?_
 obtain ⟨am, a8, j1, r9, sb, sd, se, c_old_R, bc, br, hvs⟩ := hI
 refine Xi Y7 (Xb (Vals.at 2 hvs Z (Xf 2 hbef Z)) (Xb Z Xg)) Z (Yj p1 20 (by omega) _ R bs _ _ _ (c_old_R hS) (by omega) (SlLt.low1 hs (Xh g9 j1) hlo) (by first | exact hb | exact fun b h => hb b (List.mem_of_mem_take h)) (by first | omega | (rw [List.length_take]; omega))) ?_
 rintro _ yr ⟨uj, rfl, po, pp, qe, pf⟩
 exact wpo_nil ⟨uj, a8, (Xh j1 pf), r9, sb, sd, se, fun h => Yi h, fun _ => ⟨Z, po, pp, qe⟩, Xj 4 hS hcl Z, Vals.keep hvs Z⟩
 refine Xl (fun S F yu hS hbef hcl hI => ?_) ?_
 obtain ⟨am, a8, dh, sf, sg, si, sk, c_old_R, bc, br, hvs⟩ := hI
 obtain ⟨sn, pm, pn, bg⟩ := bc (Xf 3 hbef rfl)
 refine wpo_buildSlice (ps := [(0, vi am)]) (e := 3) (cs := (([am] : List Int).flatMap icell).toArray) (Xp sn Xw) (fun _ => by kernel_rfl) Z ?_
 intro rr yv bd
 have m4 := Xy bd (Xh g9 dh)
 have gt := Xs bd ((j8.gn dh)).lt
 have gv := Xs bd ((j9.gn dh)).lt
 have gw := Xs bd ((i3.gn dh)).lt
 have iv := Xs bd ((hOwn.gn dh)).lt
 have q6 := Xs bd (bg).lt
 exact wpo_nil ⟨am, rr, (low0 dh bd.grw), sf, sg, si, sk, fun hn => Yi ((Xf 3 hbef Z).symm.trans hn), fun h => let ⟨um, un, uo, uu⟩ := bc h; ⟨um, un, uo, (uu).grown0 bd.grw⟩, fun _ => ⟨Z, m4, bd.blk, gt, gv, gw, (by omega), iv, (nt dh.size bd.ge)⟩, Vals.keep hvs Z⟩
 exact Jp
 intro S F yw hall hI
 obtain ⟨am, a8, gq, so, sq, np, sr, c_old_R, bc, br, hvs⟩ := hI
 have jl := Xh g9 gq
 obtain ⟨wq, pm, pn, bg⟩ := bc (hall 3 (by decide))
 obtain ⟨su, u9, it, kt, lk, lw, q5, oy, uc⟩ := br (hall 4 (by decide))
 have n9 := (j8.gn gq)
 have oa := (j9.gn gq)
 have oc := (i3.gn gq)
 refine wpo_append (g := icell) (ys := ys) (zs := ([am] : List Int)) Rs Z Ye (by omega) Ug (Vals.at 1 hvs Z (hall 1 (by decide))) su (hOwn.gn gq) (Jl Ye it) (by simp only [List.length_cons, List.length_nil]; omega) (by omega) Z ?_
 intro dk g7 yx o5 f8 nf
 have m5 : w.heap.size ≤ dk := by rcases nf with h | h; (rw [h]; exact hlBq); exact nt jl.size h
 have me : bh ≠ dk := by have h := (n9).lt; omega
 have mh : ae ≠ dk := by have h := (oa).lt; omega
 have ml : fb ≠ dk := by have h := (oc).lt; omega
 have rp : R ≠ dk := by have h := (bg).lt; omega
 have mo : a8 ≠ dk := by have h := (it).lt; omega
 refine wpo_fieldAddr (o' := 6) Q2 np Z Z (wpo_store1 (v := .slice (pa dk) (ys ++ ([am] : List Int)).length g7) (cs' := #[vi k, vi E.s, vi E.v, vi 0, vi 0, .slice (pa ae) 4 O, .slice (pa dk) (ys ++ ([am] : List Int)).length g7, vi to]) Kc Z Z Z (oc.gn f8) (Nat.le_of_ble_eq_true Z) Z ?_)
 intro yy d6
 exact wpo_nil (Y3 (Xo (Xr (wpo_move (v := vi n) sr Z (wpo_sub (c := n - 1) Z Z (by omega) (by omega) (by omega) Z (wpo_assign (v := vi (n - 1)) Z Z (wpo_nil (Xo (⟨(n - 1).toNat, by omega, (n - 1), (p1 + 1), dk, g7, (ys ++ ([am] : List Int)), rfl, (by omega), (by omega), (by simp only [List.length_append, List.length_cons, List.length_nil]; omega), (o5.gn d6.grw), m5, (by omega), (by omega), (by omega), (by omega), rfl, so, sq, np, (low1 (low1 jl f8 (by omega)) d6.grw (by omega)), ((n9.gn f8).gn d6.grw), ((oa.gn f8).gn d6.grw), d6.blk, ((bg.gn f8).gn d6.grw)⟩)))))))))
 have xd := of_decide_eq_false ja
 refine Yo (Yx (Yx (Jm (Y3 (Xo (Xa (wpo_loadn (vs := [vi k, vi E.s, vi E.v, vi 0, vi 0, .slice (pa ae) 4 O, .slice (pa Bq) ys.length cq, vi to]) X0 ni Z (i3.rangeL 0 8 Z) Z (wpo_storen (vs := [vi k, vi E.s, vi E.v, vi 0, vi 0, .slice (pa ae) 4 O, .slice (pa Bq) ys.length cq, vi to]) (cs' := #[vi k, vi E.s, vi E.v, vi 0, vi 0, .slice (pa ae) 4 O, .slice (pa Bq) ys.length cq, vi to]) X0 i5 Z Z (by simp [Value.oneCell']) j8 (Nat.le_of_ble_eq_true Z) Z ?_))))))))
 intro yz fh
 refine wpo_nil (Xm (⟨.agg #[vi k, vi E.s, vi E.v, vi 0, vi 0, .slice (pa ae) 4 O, .slice (pa Bq) ys.length cq, vi to], resC Z (resCell_mk (vs := [vi k, vi E.s, vi E.v, vi 0, vi 0, .slice (pa ae) 4 O, .slice (pa Bq) ys.length cq, vi to]) X0 i5 Z (fh.blk.rangeL 0 8 Z)), ⟨⟨k, E, 0, 0, zeros4, ys, to⟩, some ⟨ae, 0, none⟩, O, some ⟨Bq, 0, none⟩, cq⟩, p1, Z, ⟨OwnN.of (hOwn.gn fh.grw) hlBq, ⟨zeros4, OwnN.of (j9.gn fh.grw) ez, Z, ?_⟩, ?_, ?_, ⟨show (0 : Int) ≤ 0 by omega, show 0 ≤ (1 : Int) by omega⟩⟩, by omega, by omega, (n8.gn fh.grw), (low1 g9 fh.grw (by omega))⟩))
 intro x hx; first | (simp [zeros4] at hx; subst hx; exact ⟨by decide, by decide, by decide, by decide⟩) | simp at hx
 · first | exact Nat.le_of_ble_eq_true rfl | omega | (simp only [List.length_nil]; omega)
 exact Nat.le_of_ble_eq_true Z
 have xe := of_decide_eq_false i9
 refine Xa (wpo_eql (q := decide (k = 3)) Z Z Z Z (wpo_assign (v := vb (decide (k = 3))) Z Z (wpo_nil (Xt Z (fun jb => ?_) (fun jb => ?_)))))
 have xf := of_decide_eq_true jb
 refine Xr (wpo_move (v := pt R 0) Z Z (Xi Y7 (Xb Z (Xb Z Xg)) Z (Yj ak 24 (by omega) _ R bs _ _ _ ((gz.grown0 af.grw).gn ac.grw) (by omega) (SlLt.low1 hs bf hlo) (by first | exact hb | exact fun b h => hb b (List.mem_of_mem_take h)) (by first | omega | (rw [List.length_take]; omega))) ?_))
 rintro _ y3 ⟨dp, rfl, vr, vt, qf, f9⟩
 refine wpo_sub (c := dp - 4) Z Z (by omega) (by omega) (by omega) Z (wpo_fieldAddr (o' := 4) Q9 Z Z Z (wpo_store1 (v := vi (dp - 4)) (cs' := #[vi k, vi E.s, vi E.v, vi 0, vi (dp - 4), .slice (pa ae) 4 O, .slice (pa al) 0 ab, vi to]) X1 Z Z Z (ac.blk.gn f9) (Nat.le_of_ble_eq_true Z) Z ?_))
 intro y6 d7
 refine wpo_nil (Y3 (Xo (Xa (wpo_loadn (vs := [vi k, vi E.s, vi E.v, vi 0, vi (dp - 4), .slice (pa ae) 4 O, .slice (pa al) 0 ab, vi to]) X0 Z Z (d7.blk.rangeL 0 8 Z) Z (wpo_storen (vs := [vi k, vi E.s, vi E.v, vi 0, vi (dp - 4), .slice (pa ae) 4 O, .slice (pa al) 0 ab, vi to]) (cs' := #[vi k, vi E.s, vi E.v, vi 0, vi (dp - 4), .slice (pa ae) 4 O, .slice (pa al) 0 ab, vi to]) X0 Z Z Z (by simp [Value.oneCell']) ((((g4.grown0 af.grw).gn ac.grw).gn f9).gn d7.grw) (Nat.le_of_ble_eq_true Z) Z ?_)))))
 intro y7 fi
 refine wpo_nil (Xm (⟨.agg #[vi k, vi E.s, vi E.v, vi 0, vi (dp - 4), .slice (pa ae) 4 O, .slice (pa al) 0 ab, vi to], resC Z (resCell_mk (vs := [vi k, vi E.s, vi E.v, vi 0, vi (dp - 4), .slice (pa ae) 4 O, .slice (pa al) 0 ab, vi to]) X0 Z Z (fi.blk.rangeL 0 8 Z)), ⟨⟨k, E, 0, dp - 4, zeros4, ([] : List Int), to⟩, some ⟨ae, 0, none⟩, O, some ⟨al, 0, none⟩, ab⟩, (ak + 1), Z, ⟨OwnN.of (((((dw.grown0 af.grw).gn ac.grw).gn f9).gn d7.grw).gn fi.grw) fa, ⟨zeros4, OwnN.of (((((dv.grown0 af.grw).gn ac.grw).gn f9).gn d7.grw).gn fi.grw) ez, Z, ?_⟩, ?_, ?_, ⟨show (0 : Int) ≤ 0 by omega, show 0 ≤ (1 : Int) by omega⟩⟩, by omega, by omega, ((qf.gn d7.grw).gn fi.grw), (low1 (low1 (Xh bf f9) d7.grw (by omega)) fi.grw (by omega))⟩))
 intro x hx; first | (simp [zeros4] at hx; subst hx; exact ⟨by decide, by decide, by decide, by decide⟩) | simp at hx
 · first | exact Nat.le_of_ble_eq_true rfl | omega | (simp only [List.length_nil]; omega)
 exact Nat.le_of_ble_eq_true Z
 have xh := of_decide_eq_false jb
 refine Xn (Y3 (Xo (Xa (wpo_loadn (vs := [vi k, vi E.s, vi E.v, vi 0, vi 0, .slice (pa ae) 4 O, .slice (pa al) 0 ab, vi to]) X0 Z Z (ac.blk.rangeL 0 8 Z) Z (wpo_storen (vs := [vi k, vi E.s, vi E.v, vi 0, vi 0, .slice (pa ae) 4 O, .slice (pa al) 0 ab, vi to]) (cs' := #[vi k, vi E.s, vi E.v, vi 0, vi 0, .slice (pa ae) 4 O, .slice (pa al) 0 ab, vi to]) X0 Z Z Z (by simp [Value.oneCell']) ((g4.grown0 af.grw).gn ac.grw) (Nat.le_of_ble_eq_true Z) Z ?_)))))
 intro y8 fj
 refine wpo_nil (Xm (⟨.agg #[vi k, vi E.s, vi E.v, vi 0, vi 0, .slice (pa ae) 4 O, .slice (pa al) 0 ab, vi to], resC Z (resCell_mk (vs := [vi k, vi E.s, vi E.v, vi 0, vi 0, .slice (pa ae) 4 O, .slice (pa al) 0 ab, vi to]) X0 Z Z (fj.blk.rangeL 0 8 Z)), ⟨⟨k, E, 0, 0, zeros4, ([] : List Int), to⟩, some ⟨ae, 0, none⟩, O, some ⟨al, 0, none⟩, ab⟩, ak, Z, ⟨OwnN.of (((dw.grown0 af.grw).gn ac.grw).gn fj.grw) fa, ⟨zeros4, OwnN.of (((dv.grown0 af.grw).gn ac.grw).gn fj.grw) ez, Z, ?_⟩, ?_, ?_, ⟨show (0 : Int) ≤ 0 by omega, show 0 ≤ (1 : Int) by omega⟩⟩, by omega, by omega, (((gz.grown0 af.grw).gn ac.grw).gn fj.grw), (low1 bf fj.grw (by omega))⟩))
 intro x hx; first | (simp [zeros4] at hx; subst hx; exact ⟨by decide, by decide, by decide, by decide⟩) | simp at hx
 · first | exact Nat.le_of_ble_eq_true rfl | omega | (simp only [List.length_nil]; omega)
 exact Nat.le_of_ble_eq_true Z
 have xi : thingOk (⟨k, E, 0, 0, zeros4, [], to⟩ : Th) = false := (Vj bt).symm.trans ip
 refine Xi G4 (Xb Z (Xb Z (Xb Z Xg))) Z (Gd k to E bt ip _) ?_
 rintro _ y9 ⟨rfl, i0⟩
 have jm := low0 bv i0
 refine wpo_move (v := .tuple #[.agg #[vi 0, vi 0, vi 0, vi 0, vi 0, .slice none 0 0, .slice none 0 0, vi 0], vb false]) Z Z (wpo_extract (v := .agg #[vi 0, vi 0, vi 0, vi 0, vi 0, .slice none 0 0, .slice none 0 0, vi 0]) Z Z Z (wpo_extract (v := vb false) Z Z Z (wpo_alloc (cs := #[vi 0, vi 0, vi 0, vi 0, vi 0, .slice none 0 0, .slice none 0 0, vi 0]) Jb Z Z ?_)))
 intro wn za cw
 have va := Xy cw jm
 have oe := (cj.grown0 i0)
 have q7 := Xs cw (oe).lt
 have oh := ((bu.blk.gn fv).grown0 i0)
 have ku := Xs cw (oh).lt
 refine wpo_storen (vs := [vi 0, vi 0, vi 0, vi 0, vi 0, .slice none 0 0, .slice none 0 0, vi 0]) (cs' := #[vi 0, vi 0, vi 0, vi 0, vi 0, .slice none 0 0, .slice none 0 0, vi 0]) X0 Z Z Z (by simp [Value.oneCell']) cw.blk (Nat.le_of_ble_eq_true Z) Z ?_
 intro zb cz
 have ix := low1 (low0 jm cw.grw) cz.grw (by omega)
 refine wpo_assign (v := vb false) Z Z (wpo_nil (Xk (Xa (wpo_fieldAddr (o' := 0) X7 Z Z Z (wpo_load1 (v := vi 0) X1 Z (cz.blk.cell Z) Z (wpo_eql (q := true) Z Z (by decide) Z (wpo_nil (X8 Z Z (Xr (wpo_build (ps := []) (v := .agg #[vi 0, vi 0]) Xw (fun _ => by kernel_rfl) Z ?_))))))))))
 have ka := ((oe.grown0 cw.grw).gn cz.grw)
 have kb := ((oh.grown0 cw.grw).gn cz.grw)
 have xj : thingOk (⟨1, ⟨0, 0⟩, 0, 0, [], [], 0⟩ : Th) = true := (J5 (by decide)).symm.trans (by decide)
 refine Xi G4 (Xb Z (Xb Z (Xb Z Xg))) Z (J1 1 0 ⟨0, 0⟩ (by decide) (by decide) _) ?_
 rintro _ zc ⟨bk, aq, bl, ar, rfl, eu, o6, ew, o7, mp, ic⟩
 have m6 := nt ix.size eu
 have q8 := nl (ka).lt eu
 have kv := nl (kb).lt eu
 have lx := nl (cz.blk).lt eu
 have m7 := nt ix.size ew
 have q9 := nl (ka).lt ew
 have kw := nl (kb).lt ew
 have ly := nl (cz.blk).lt ew
 refine wpo_move (v := .tuple #[.agg #[vi 1, vi 0, vi 0, vi 0, vi 0, .slice (pa bk) 0 aq, .slice (pa bl) 0 ar, vi 0], vb true]) Z Z (wpo_extract (v := .agg #[vi 1, vi 0, vi 0, vi 0, vi 0, .slice (pa bk) 0 aq, .slice (pa bl) 0 ar, vi 0]) Z Z Z (wpo_extract (v := vb true) Z Z Z (wpo_storen (vs := [vi 1, vi 0, vi 0, vi 0, vi 0, .slice (pa bk) 0 aq, .slice (pa bl) 0 ar, vi 0]) (cs' := #[vi 1, vi 0, vi 0, vi 0, vi 0, .slice (pa bk) 0 aq, .slice (pa bl) 0 ar, vi 0]) X0 Z Z Z (by simp [Value.oneCell']) (cz.blk.grown0 ic) (Nat.le_of_ble_eq_true Z) Z ?_)))
 intro zd da
 have jo := low1 (low0 ix ic) da.grw (by omega)
 refine wpo_nil (Xo (Xk (Xa (wpo_fieldAddr (o' := 0) X7 Z Z Z (wpo_load1 (v := vi 1) X1 Z (da.blk.cell Z) Z (wpo_nil (Xv (Xa (wpo_eql (q := true) Z Z (by decide) Z (wpo_assign (v := vb true) Z Z (wpo_nil (X8 Z Z ?_))))))))))))
 refine Xa (wpo_move (v := pt R 0) Z Z (Xi Y7 (Xb Z (Xb Z Xg)) Z (Yj ak 20 (by omega) _ R bs _ _ _ ((ka.grown0 ic).gn da.grw) (by omega) (SlLt.low1 hs jo hlo) (by first | exact hb | exact fun b h => hb b (List.mem_of_mem_take h)) (by first | omega | (rw [List.length_take]; omega))) ?_))
 rintro _ ze ⟨dq, rfl, vu, vv, qg, gb⟩
 refine wpo_fieldAddr (o' := 4) Q9 Z Z Z (wpo_store1 (v := vi dq) (cs' := #[vi 1, vi 0, vi 0, vi 0, vi dq, .slice (pa bk) 0 aq, .slice (pa bl) 0 ar, vi 0]) X1 Z Z Z (da.blk.gn gb) (Nat.le_of_ble_eq_true Z) Z ?_)
 intro zf d8
 have jp := low1 (Xh jo gb) d8.grw (by omega)
 refine wpo_nil (Xr (wpo_move (v := pt R 0) Z Z (Xi Y7 (Xb Z (Xb Z Xg)) Z (Yj (ak + 1) 3 (by omega) _ R bs _ _ _ (qg.gn d8.grw) (by omega) (SlLt.low1 hs jp hlo) (by first | exact hb | exact fun b h => hb b (List.mem_of_mem_take h)) (by first | omega | (rw [List.length_take]; omega))) ?_)))
 rintro _ zg ⟨cc, rfl, vw, vx, qi, gc⟩
 refine wpo_quo (c := cc / 2) Z Z (by omega) (by omega) (by omega) Z Z (wpo_fieldAddr (o' := 3) Q5 Z Z Z (wpo_store1 (v := vi (cc / 2)) (cs' := #[vi 1, vi 0, vi 0, vi (cc / 2), vi dq, .slice (pa bk) 0 aq, .slice (pa bl) 0 ar, vi 0]) X1 Z Z Z (d8.blk.gn gc) (Nat.le_of_ble_eq_true Z) Z ?_))
 intro zh d9
 refine wpo_nil (Y3 (Xo (Xa (wpo_loadn (vs := [vi 1, vi 0, vi 0, vi (cc / 2), vi dq, .slice (pa bk) 0 aq, .slice (pa bl) 0 ar, vi 0]) X0 Z Z (d9.blk.rangeL 0 8 Z) Z (wpo_storen (vs := [vi 1, vi 0, vi 0, vi (cc / 2), vi dq, .slice (pa bk) 0 aq, .slice (pa bl) 0 ar, vi 0]) (cs' := #[vi 1, vi 0, vi 0, vi (cc / 2), vi dq, .slice (pa bk) 0 aq, .slice (pa bl) 0 ar, vi 0]) X0 Z Z Z (by simp [Value.oneCell']) ((((((kb.grown0 ic).gn da.grw).gn gb).gn d8.grw).gn gc).gn d9.grw) (Nat.le_of_ble_eq_true Z) Z ?_)))))
 intro zi fk
 refine wpo_nil (Xm (⟨.agg #[vi 1, vi 0, vi 0, vi (cc / 2), vi dq, .slice (pa bk) 0 aq, .slice (pa bl) 0 ar, vi 0], resC Z (resCell_mk (vs := [vi 1, vi 0, vi 0, vi (cc / 2), vi dq, .slice (pa bk) 0 aq, .slice (pa bl) 0 ar, vi 0]) X0 Z Z (fk.blk.rangeL 0 8 Z)), ⟨⟨1, ⟨0, 0⟩, cc / 2, dq, ([] : List Rt), ([] : List Int), 0⟩, some ⟨bk, 0, none⟩, aq, some ⟨bl, 0, none⟩, ar⟩, (ak + 1 + 1), Z, ⟨OwnN.of ((((((o7.gn da.grw).gn gb).gn d8.grw).gn gc).gn d9.grw).gn fk.grw) m7, ⟨([] : List Rt), OwnN.of ((((((o6.gn da.grw).gn gb).gn d8.grw).gn gc).gn d9.grw).gn fk.grw) m6, Z, ?_⟩, ?_, ?_, ⟨show (0 : Int) ≤ cc / 2 by omega, show cc / 2 ≤ (1 : Int) by omega⟩⟩, by omega, by omega, ((qi.gn d9.grw).gn fk.grw), (low1 (low1 (Xh jp gc) d9.grw (by omega)) fk.grw (by omega))⟩))
 intro x hx; first | (simp [zeros4] at hx; subst hx; exact ⟨by decide, by decide, by decide, by decide⟩) | simp at hx
 · first | exact Nat.le_of_ble_eq_true rfl | omega | (simp only [List.length_nil]; omega)
 exact Nat.le_of_ble_eq_true Z
 have tz := K5 bt
 have xk := of_decide_eq_false tz
 have nz := K6 bt
 have xl := of_decide_eq_false nz
 rcases Xz (newOk k E to) with iq | iq
 have kc := (bu.blk.gn fv)
 have xm : thingOk (⟨k, E, 0, 0, [], [], to⟩ : Th) = true := (J5 bt).symm.trans iq
 refine Xi G4 (Xb Z (Xb Z (Xb Z Xg))) Z (J1 k to E bt iq _) ?_
 rintro _ zj ⟨aj, V, ba, ah, rfl, ik, fd, il, fe, mq, i1⟩
 have jq := low0 bv i1
 have im := nt bv.size ik
 have ra := nl (cj).lt ik
 have kx := nl (kc).lt ik
 have io := nt bv.size il
 have rf := nl (cj).lt il
 have ky := nl (kc).lt il
 refine wpo_move (v := .tuple #[.agg #[vi k, vi E.s, vi E.v, vi 0, vi 0, .slice (pa aj) 0 V, .slice (pa ba) 0 ah, vi to], vb true]) Z Z (wpo_extract (v := .agg #[vi k, vi E.s, vi E.v, vi 0, vi 0, .slice (pa aj) 0 V, .slice (pa ba) 0 ah, vi to]) Z Z Z (wpo_extract (v := vb true) Z Z Z (wpo_alloc (cs := #[vi 0, vi 0, vi 0, vi 0, vi 0, .slice none 0 0, .slice none 0 0, vi 0]) Jb Z Z ?_)))
 intro fc zk ai
 have vc := Xy ai jq
 have ir := (cj.grown0 i1)
 have rg := Xs ai (ir).lt
 have is := (kc.grown0 i1)
 have kz := Xs ai (is).lt
 have l5 := Xs ai (fe).lt
 have lz := Xs ai (fd).lt
 refine wpo_storen (vs := [vi k, vi E.s, vi E.v, vi 0, vi 0, .slice (pa aj) 0 V, .slice (pa ba) 0 ah, vi to]) (cs' := #[vi k, vi E.s, vi E.v, vi 0, vi 0, .slice (pa aj) 0 V, .slice (pa ba) 0 ah, vi to]) X0 Z Z Z (by simp [Value.oneCell']) ai.blk (Nat.le_of_ble_eq_true Z) Z ?_
 intro zl ag
 have bw := low1 (low0 jq ai.grw) ag.grw (by omega)
 refine wpo_assign (v := vb true) Z Z (wpo_nil (Xk (Xa (wpo_fieldAddr (o' := 0) X7 Z Z Z (wpo_load1 (v := vi k) X1 Z (ag.blk.cell Z) Z (wpo_eql (q := decide (k = 0)) Z Z Z Z (wpo_nil (Xt Z (fun jc => ?_) (fun jc => ?_)))))))))
 have xn := of_decide_eq_true jc
 refine Xr (wpo_build (ps := []) (v := .agg #[vi 0, vi 0]) Xw (fun _ => by kernel_rfl) Z ?_)
 have ke := ((ir.grown0 ai.grw).gn ag.grw)
 have kf := ((is.grown0 ai.grw).gn ag.grw)
 have ol := ((fe.grown0 ai.grw).gn ag.grw)
 have om := ((fd.grown0 ai.grw).gn ag.grw)
 have xo : thingOk (⟨1, ⟨0, 0⟩, 0, 0, [], [], 0⟩ : Th) = true := (J5 (by decide)).symm.trans (by decide)
 refine Xi G4 (Xb Z (Xb Z (Xb Z Xg))) Z (J1 1 0 ⟨0, 0⟩ (by decide) (by decide) _) ?_
 rintro _ zm ⟨bm, au, bn, av, rfl, cn, o8, co, o9, mv, ie⟩
 have m8 := nt bw.size cn
 have rh := nl (ke).lt cn
 have k0 := nl (kf).lt cn
 have l6 := nl (ol).lt cn
 have l0 := nl (om).lt cn
 have l8 := nl (ag.blk).lt cn
 have m9 := nt bw.size co
 have ri := nl (ke).lt co
 have la := nl (kf).lt co
 have l7 := nl (ol).lt co
 have l3 := nl (om).lt co
 have l9 := nl (ag.blk).lt co
 refine wpo_move (v := .tuple #[.agg #[vi 1, vi 0, vi 0, vi 0, vi 0, .slice (pa bm) 0 au, .slice (pa bn) 0 av, vi 0], vb true]) Z Z (wpo_extract (v := .agg #[vi 1, vi 0, vi 0, vi 0, vi 0, .slice (pa bm) 0 au, .slice (pa bn) 0 av, vi 0]) Z Z Z (wpo_extract (v := vb true) Z Z Z (wpo_storen (vs := [vi 1, vi 0, vi 0, vi 0, vi 0, .slice (pa bm) 0 au, .slice (pa bn) 0 av, vi 0]) (cs' := #[vi 1, vi 0, vi 0, vi 0, vi 0, .slice (pa bm) 0 au, .slice (pa bn) 0 av, vi 0]) X0 Z Z Z (by simp [Value.oneCell']) (ag.blk.grown0 ie) (Nat.le_of_ble_eq_true Z) Z ?_)))
 intro zn db
 have jr := low1 (low0 bw ie) db.grw (by omega)
 refine wpo_nil (Xo (Xk (Xa (wpo_fieldAddr (o' := 0) X7 Z Z Z (wpo_load1 (v := vi 1) X1 Z (db.blk.cell Z) Z (wpo_nil (Xv (Xa (wpo_eql (q := true) Z Z (by decide) Z (wpo_assign (v := vb true) Z Z (wpo_nil (X8 Z Z ?_))))))))))))
 refine Xa (wpo_move (v := pt R 0) Z Z (Xi Y7 (Xb Z (Xb Z Xg)) Z (Yj ak 20 (by omega) _ R bs _ _ _ ((ke.grown0 ie).gn db.grw) (by omega) (SlLt.low1 hs jr hlo) (by first | exact hb | exact fun b h => hb b (List.mem_of_mem_take h)) (by first | omega | (rw [List.length_take]; omega))) ?_))
 rintro _ zo ⟨dr, rfl, vy, vz, qj, gf⟩
 refine wpo_fieldAddr (o' := 4) Q9 Z Z Z (wpo_store1 (v := vi dr) (cs' := #[vi 1, vi 0, vi 0, vi 0, vi dr, .slice (pa bm) 0 au, .slice (pa bn) 0 av, vi 0]) X1 Z Z Z (db.blk.gn gf) (Nat.le_of_ble_eq_true Z) Z ?_)
 intro zp ea
 have js := low1 (Xh jr gf) ea.grw (by omega)
 refine wpo_nil (Xr (wpo_move (v := pt R 0) Z Z (Xi Y7 (Xb Z (Xb Z Xg)) Z (Yj (ak + 1) 3 (by omega) _ R bs _ _ _ (qj.gn ea.grw) (by omega) (SlLt.low1 hs js hlo) (by first | exact hb | exact fun b h => hb b (List.mem_of_mem_take h)) (by first | omega | (rw [List.length_take]; omega))) ?_)))
 rintro _ zq ⟨cd, rfl, v1, v2, qk, gg⟩
 refine wpo_quo (c := cd / 2) Z Z (by omega) (by omega) (by omega) Z Z (wpo_fieldAddr (o' := 3) Q5 Z Z Z (wpo_store1 (v := vi (cd / 2)) (cs' := #[vi 1, vi 0, vi 0, vi (cd / 2), vi dr, .slice (pa bm) 0 au, .slice (pa bn) 0 av, vi 0]) X1 Z Z Z (ea.blk.gn gg) (Nat.le_of_ble_eq_true Z) Z ?_))
 intro zr ed
 refine wpo_nil (Y3 (Xo (Xa (wpo_loadn (vs := [vi 1, vi 0, vi 0, vi (cd / 2), vi dr, .slice (pa bm) 0 au, .slice (pa bn) 0 av, vi 0]) X0 Z Z (ed.blk.rangeL 0 8 Z) Z (wpo_storen (vs := [vi 1, vi 0, vi 0, vi (cd / 2), vi dr, .slice (pa bm) 0 au, .slice (pa bn) 0 av, vi 0]) (cs' := #[vi 1, vi 0, vi 0, vi (cd / 2), vi dr, .slice (pa bm) 0 au, .slice (pa bn) 0 av, vi 0]) X0 Z Z Z (by simp [Value.oneCell']) ((((((kf.grown0 ie).gn db.grw).gn gf).gn ea.grw).gn gg).gn ed.grw) (Nat.le_of_ble_eq_true Z) Z ?_)))))
 intro zt fm
 refine wpo_nil (Xm (⟨.agg #[vi 1, vi 0, vi 0, vi (cd / 2), vi dr, .slice (pa bm) 0 au, .slice (pa bn) 0 av, vi 0], resC Z (resCell_mk (vs := [vi 1, vi 0, vi 0, vi (cd / 2), vi dr, .slice (pa bm) 0 au, .slice (pa bn) 0 av, vi 0]) X0 Z Z (fm.blk.rangeL 0 8 Z)), ⟨⟨1, ⟨0, 0⟩, cd / 2, dr, ([] : List Rt), ([] : List Int), 0⟩, some ⟨bm, 0, none⟩, au, some ⟨bn, 0, none⟩, av⟩, (ak + 1 + 1), Z, ⟨OwnN.of ((((((o9.gn db.grw).gn gf).gn ea.grw).gn gg).gn ed.grw).gn fm.grw) m9, ⟨([] : List Rt), OwnN.of ((((((o8.gn db.grw).gn gf).gn ea.grw).gn gg).gn ed.grw).gn fm.grw) m8, Z, ?_⟩, ?_, ?_, ⟨show (0 : Int) ≤ cd / 2 by omega, show cd / 2 ≤ (1 : Int) by omega⟩⟩, by omega, by omega, ((qk.gn ed.grw).gn fm.grw), (low1 (low1 (Xh js gg) ed.grw (by omega)) fm.grw (by omega))⟩))
 intro x hx; first | (simp [zeros4] at hx; subst hx; exact ⟨by decide, by decide, by decide, by decide⟩) | simp at hx
 · first | exact Nat.le_of_ble_eq_true rfl | omega | (simp only [List.length_nil]; omega)
 exact Nat.le_of_ble_eq_true Z
 have xp := of_decide_eq_false jc
 refine Xn (Xo (Xk (Xa (wpo_fieldAddr (o' := 0) X7 Z Z Z (wpo_load1 (v := vi k) X1 Z (ag.blk.cell Z) Z (wpo_nil (Xv (Xa (wpo_eql (q := decide (k = 1)) Z Z Z Z (wpo_assign (v := vb (decide (k = 1))) Z Z (wpo_nil (Xt Z (fun jd => ?_) (fun jd => ?_)))))))))))))
 have xq := of_decide_eq_true jd
 refine Xa (wpo_move (v := pt R 0) Z Z (Xi Y7 (Xb Z (Xb Z Xg)) Z (Yj ak 20 (by omega) _ R bs _ _ _ ((ir.grown0 ai.grw).gn ag.grw) (by omega) (SlLt.low1 hs bw hlo) (by first | exact hb | exact fun b h => hb b (List.mem_of_mem_take h)) (by first | omega | (rw [List.length_take]; omega))) ?_))
 rintro _ zu ⟨dt, rfl, v3, v4, qn, gh⟩
 refine wpo_fieldAddr (o' := 4) Q9 Z Z Z (wpo_store1 (v := vi dt) (cs' := #[vi k, vi E.s, vi E.v, vi 0, vi dt, .slice (pa aj) 0 V, .slice (pa ba) 0 ah, vi to]) X1 Z Z Z (ag.blk.gn gh) (Nat.le_of_ble_eq_true Z) Z ?_)
 intro zv ee
 have jt := low1 (Xh bw gh) ee.grw (by omega)
 refine wpo_nil (Xr (wpo_move (v := pt R 0) Z Z (Xi Y7 (Xb Z (Xb Z Xg)) Z (Yj (ak + 1) 3 (by omega) _ R bs _ _ _ (qn.gn ee.grw) (by omega) (SlLt.low1 hs jt hlo) (by first | exact hb | exact fun b h => hb b (List.mem_of_mem_take h)) (by first | omega | (rw [List.length_take]; omega))) ?_)))
 rintro _ zw ⟨ce, rfl, v5, v6, qo, gi⟩
 refine wpo_quo (c := ce / 2) Z Z (by omega) (by omega) (by omega) Z Z (wpo_fieldAddr (o' := 3) Q5 Z Z Z (wpo_store1 (v := vi (ce / 2)) (cs' := #[vi k, vi E.s, vi E.v, vi (ce / 2), vi dt, .slice (pa aj) 0 V, .slice (pa ba) 0 ah, vi to]) X1 Z Z Z (ee.blk.gn gi) (Nat.le_of_ble_eq_true Z) Z ?_))
 intro zx ef
 refine wpo_nil (Y3 (Xo (Xa (wpo_loadn (vs := [vi k, vi E.s, vi E.v, vi (ce / 2), vi dt, .slice (pa aj) 0 V, .slice (pa ba) 0 ah, vi to]) X0 Z Z (ef.blk.rangeL 0 8 Z) Z (wpo_storen (vs := [vi k, vi E.s, vi E.v, vi (ce / 2), vi dt, .slice (pa aj) 0 V, .slice (pa ba) 0 ah, vi to]) (cs' := #[vi k, vi E.s, vi E.v, vi (ce / 2), vi dt, .slice (pa aj) 0 V, .slice (pa ba) 0 ah, vi to]) X0 Z Z Z (by simp [Value.oneCell']) ((((((is.grown0 ai.grw).gn ag.grw).gn gh).gn ee.grw).gn gi).gn ef.grw) (Nat.le_of_ble_eq_true Z) Z ?_)))))
 intro zy fp
 refine wpo_nil (Xm (⟨.agg #[vi k, vi E.s, vi E.v, vi (ce / 2), vi dt, .slice (pa aj) 0 V, .slice (pa ba) 0 ah, vi to], resC Z (resCell_mk (vs := [vi k, vi E.s, vi E.v, vi (ce / 2), vi dt, .slice (pa aj) 0 V, .slice (pa ba) 0 ah, vi to]) X0 Z Z (fp.blk.rangeL 0 8 Z)), ⟨⟨k, E, ce / 2, dt, ([] : List Rt), ([] : List Int), to⟩, some ⟨aj, 0, none⟩, V, some ⟨ba, 0, none⟩, ah⟩, (ak + 1 + 1), Z, ⟨OwnN.of (((((((fe.grown0 ai.grw).gn ag.grw).gn gh).gn ee.grw).gn gi).gn ef.grw).gn fp.grw) io, ⟨([] : List Rt), OwnN.of (((((((fd.grown0 ai.grw).gn ag.grw).gn gh).gn ee.grw).gn gi).gn ef.grw).gn fp.grw) im, Z, ?_⟩, ?_, ?_, ⟨show (0 : Int) ≤ ce / 2 by omega, show ce / 2 ≤ (1 : Int) by omega⟩⟩, by omega, by omega, ((qo.gn ef.grw).gn fp.grw), (low1 (low1 (Xh jt gi) ef.grw (by omega)) fp.grw (by omega))⟩))
 intro x hx; first | (simp [zeros4] at hx; subst hx; exact ⟨by decide, by decide, by decide, by decide⟩) | simp at hx
 · first | exact Nat.le_of_ble_eq_true rfl | omega | (simp only [List.length_nil]; omega)
 exact Nat.le_of_ble_eq_true Z
 have xu := of_decide_eq_false jd
 refine Xa (wpo_eql (q := decide (k = 4)) Z Z Z Z (wpo_assign (v := vb (decide (k = 4))) Z Z (wpo_nil (Xt Z (fun je => ?_) (fun je => ?_)))))
 have xv := of_decide_eq_true je
 refine Xa (wpo_move (v := pt R 0) Z Z (Xi Y7 (Xb Z (Xb Z Xg)) Z (Yj ak 4 (by omega) _ R bs _ _ _ ((ir.grown0 ai.grw).gn ag.grw) (by omega) (SlLt.low1 hs bw hlo) (by first | exact hb | exact fun b h => hb b (List.mem_of_mem_take h)) (by first | omega | (rw [List.length_take]; omega))) ?_))
 rintro _ zz ⟨kg, rfl, v7, v8, qq, gj⟩
 refine wpo_assign (v := vi kg) Z Z (wpo_nil (Xv (Yg (fun mm f' w' => ∃ (n : Int) (p1 : Int) (Bq : Nat) (cq : Nat) (ys : List Int), mm = n.toNat ∧ (0 ≤ n ∧ n ≤ 3) ∧ (ak + 1 ≤ p1 ∧ p1 ≤ (ak + 1) + 3 - n) ∧ (ys.length : Int) ≤ 3 - n ∧ Dw.Own w' Bq 3 1 cq ys.length (ys.flatMap icell) ∧ w.heap.size ≤ Bq ∧ R ≠ Bq ∧ bh ≠ Bq ∧ aj ≠ Bq ∧ fc ≠ Bq ∧ f' 9 = vi n ∧ f' 0 = pt R 0 ∧ f' 6 = pt bh 0 ∧ f' 7 = pt fc 0 ∧ w.grownBy w' (some R) ∧ Blk w' bh 35 #[vi 0, vi 0, vi 0, vi 0, vi 0, .slice none 0 0, .slice none 0 0, vi 0] ∧ Dw.Own w' aj 74 5 V ([] : List Rt).length (([] : List Rt).flatMap Rt.cells) ∧ Blk w' fc 35 #[vi k, vi E.s, vi E.v, vi 0, vi 0, .slice (pa aj) 0 V, .slice (pa Bq) ys.length cq, vi to] ∧ Blk w' R 97 #[.slice a bs.length c, vi p1]) (kg.toNat) ⟨kg, (ak + 1), ba, ah, ([] : List Int), Z, (by omega), (by omega), (by simp only [List.length_nil]; omega), (((fe.grown0 ai.grw).gn ag.grw).gn gj), io, (by omega), (by omega), (by omega), (by omega), Z, Z, Z, Z, (Xh bw gj), (((is.grown0 ai.grw).gn ag.grw).gn gj), (((fd.grown0 ai.grw).gn ag.grw).gn gj), (ag.blk.gn gj), qq⟩ ?_)))
 rintro mm ww o1 ⟨n, p1, Bq, cq, ys, we, hnn, hpp, hyl, hOwn, hlBq, ue, uf, ug, uh, nq, sw, i6, nu, ia, kh, ki, i4, oq⟩
 refine Xk (Xa (wpo_move (v := vi n) nq Z (wpo_gtr (q := decide (0 < n)) Z Z Z Z (wpo_nil (Xt Z (fun jf => ?_) (fun jf => ?_))))))
 have xw := of_decide_eq_true jf
 refine Xn (Xo (Xk (Xv (Q8 (m := 5) [[], [0], [], [2], [2, 3], [0, 1, 2, 3, 4], [0, 1, 2, 3, 4, 5], [0, 1, 2, 3, 4, 5, 6]] (fun S F w' => ∃ (an : Int) (a9 : Nat), o1.grownBy w' (some R) ∧ F 0 = pt R 0 ∧ F 6 = pt bh 0 ∧ F 7 = pt fc 0 ∧ F 9 = vi n ∧ (S 3 = false → Blk w' R 97 #[.slice a bs.length c, vi p1]) ∧ (S 3 = true → F 48 = vi an ∧ 0 ≤ an ∧ (an < 20 ∨ an = 0) ∧ Blk w' R 97 #[.slice a bs.length c, vi (p1 + 1)]) ∧ (S 4 = true → F 49 = .slice (pa a9) 1 1 ∧ w.heap.size ≤ a9 ∧ Blk w' a9 3 (([an] : List Int).flatMap icell).toArray ∧ bh < a9 ∧ aj < a9 ∧ fc < a9 ∧ R < a9 ∧ Bq < a9 ∧ o1.heap.size ≤ a9) ∧ Vals S F [(0, 45, pt fc 6), (1, 46, .slice (pa Bq) ys.length cq), (2, 47, pt R 0)]) Yu (by kernel_rfl) ⟨0, 0, Xx _, sw, i6, nu, nq, fun _ => (oq).grown0 (Xx _), X4, X4, Kn _⟩ ?_ ?_))))
 refine Xl (fun S F z0 hS hbef hcl hI => ?_) ?_
 obtain ⟨an, a9, pk, sx, sy, nw, s3, c_old_R, bc, br, hvs⟩ := hI
 exact wpo_fieldAddr (o' := 6) Q2 nw Z Z (wpo_nil ⟨an, a9, pk, sx, sy, nw, s3, fun h => c_old_R h, bc, br, Vals.up 0 hvs Z Z Z⟩)
 refine Xl (fun S F z2 hS hbef hcl hI => ?_) ?_
 obtain ⟨an, a9, j2, s4, s5, s6, s7, c_old_R, bc, br, hvs⟩ := hI
 exact wpo_load1 (v := .slice (pa Bq) ys.length cq) Kc (Vals.at 0 hvs Z (Xf 0 hbef Z)) ((i4.gn j2).cell Z) Z (wpo_nil ⟨an, a9, j2, s4, s5, s6, s7, fun h => c_old_R h, bc, br, Vals.up 1 hvs Z Z Z⟩)
 refine Xl (fun S F z3 hS hbef hcl hI => ?_) ?_
 obtain ⟨an, a9, pl, nx, s8, s9, ta, c_old_R, bc, br, hvs⟩ := hI
 exact wpo_move (v := pt R 0) nx Z (wpo_nil ⟨an, a9, pl, nx, s8, s9, ta, fun h => c_old_R h, Xj 3 hS hcl Z, Xj 4 hS hcl Z, Vals.up 2 hvs Z Z Z⟩)
 refine Xl (fun S F z6 hS hbef hcl hI => ?_) ?_
 obtain ⟨an, a9, j3, tc, td, te, tf, c_old_R, bc, br, hvs⟩ := hI
 refine Xi Y7 (Xb (Vals.at 2 hvs Z (Xf 2 hbef Z)) (Xb Z Xg)) Z (Yj p1 20 (by omega) _ R bs _ _ _ (c_old_R hS) (by omega) (SlLt.low1 hs (Xh ia j3) hlo) (by first | exact hb | exact fun b h => hb b (List.mem_of_mem_take h)) (by first | omega | (rw [List.length_take]; omega))) ?_
 rintro _ z7 ⟨uk, rfl, pw, px, qr, pg⟩
 exact wpo_nil ⟨uk, a9, (Xh j3 pg), tc, td, te, tf, fun h => Yi h, fun _ => ⟨Z, pw, px, qr⟩, Xj 4 hS hcl Z, Vals.keep hvs Z⟩
 refine Xl (fun S F z8 hS hbef hcl hI => ?_) ?_
 obtain ⟨an, a9, di, tg, ti, tj, tk, c_old_R, bc, br, hvs⟩ := hI
 obtain ⟨tn, pq, pu, bg⟩ := bc (Xf 3 hbef rfl)
 refine wpo_buildSlice (ps := [(0, vi an)]) (e := 3) (cs := (([an] : List Int).flatMap icell).toArray) (Xp tn Xw) (fun _ => by kernel_rfl) Z ?_
 intro ru z9 be
 have na := Xy be (Xh ia di)
 have gu := Xs be ((kh.gn di)).lt
 have gx := Xs be ((ki.gn di)).lt
 have gy := Xs be ((i4.gn di)).lt
 have iw := Xs be ((hOwn.gn di)).lt
 have rk := Xs be (bg).lt
 exact wpo_nil ⟨an, ru, (low0 di be.grw), tg, ti, tj, tk, fun hn => Yi ((Xf 3 hbef Z).symm.trans hn), fun h => let ⟨uv, uw, ux, uy⟩ := bc h; ⟨uv, uw, ux, (uy).grown0 be.grw⟩, fun _ => ⟨Z, na, be.blk, gu, gx, gy, (by omega), iw, (nt di.size be.ge)⟩, Vals.keep hvs Z⟩
 exact Jp
 intro S F Aa hall hI
 obtain ⟨an, a9, gr, tu, tv, ny, tw, c_old_R, bc, br, hvs⟩ := hI
 have ju := Xh ia gr
 obtain ⟨wu, pq, pu, bg⟩ := bc (hall 3 (by decide))
 obtain ⟨tx, vd, iu, lc, l4, ma, rj, oz, ud⟩ := br (hall 4 (by decide))
 have ot := (kh.gn gr)
 have ou := (ki.gn gr)
 have ov := (i4.gn gr)
 refine wpo_append (g := icell) (ys := ys) (zs := ([an] : List Int)) Rs Z Ye (by omega) Ug (Vals.at 1 hvs Z (hall 1 (by decide))) tx (hOwn.gn gr) (Jl Ye iu) (by simp only [List.length_cons, List.length_nil]; omega) (by omega) Z ?_
 intro dl g8 Ab pb gl ng
 have nb : w.heap.size ≤ dl := by rcases ng with h | h; (rw [h]; exact hlBq); exact nt ju.size h
 have mf : bh ≠ dl := by have h := (ot).lt; omega
 have mr : aj ≠ dl := by have h := (ou).lt; omega
 have mu : fc ≠ dl := by have h := (ov).lt; omega
 have rq : R ≠ dl := by have h := (bg).lt; omega
 have mw : a9 ≠ dl := by have h := (iu).lt; omega
 refine wpo_fieldAddr (o' := 6) Q2 ny Z Z (wpo_store1 (v := .slice (pa dl) (ys ++ ([an] : List Int)).length g8) (cs' := #[vi k, vi E.s, vi E.v, vi 0, vi 0, .slice (pa aj) 0 V, .slice (pa dl) (ys ++ ([an] : List Int)).length g8, vi to]) Kc Z Z Z (ov.gn gl) (Nat.le_of_ble_eq_true Z) Z ?_)
 intro Ac eh
 exact wpo_nil (Y3 (Xo (Xr (wpo_move (v := vi n) tw Z (wpo_sub (c := n - 1) Z Z (by omega) (by omega) (by omega) Z (wpo_assign (v := vi (n - 1)) Z Z (wpo_nil (Xo (⟨(n - 1).toNat, by omega, (n - 1), (p1 + 1), dl, g8, (ys ++ ([an] : List Int)), rfl, (by omega), (by omega), (by simp only [List.length_append, List.length_cons, List.length_nil]; omega), (pb.gn eh.grw), nb, (by omega), (by omega), (by omega), (by omega), rfl, tu, tv, ny, (low1 (low1 ju gl (by omega)) eh.grw (by omega)), ((ot.gn gl).gn eh.grw), ((ou.gn gl).gn eh.grw), eh.blk, ((bg.gn gl).gn eh.grw)⟩)))))))))
 have xx := of_decide_eq_false jf
 refine Yo (Yx (Yx (Jm (Y3 (Xo (Xa (wpo_loadn (vs := [vi k, vi E.s, vi E.v, vi 0, vi 0, .slice (pa aj) 0 V, .slice (pa Bq) ys.length cq, vi to]) X0 nu Z (i4.rangeL 0 8 Z) Z (wpo_storen (vs := [vi k, vi E.s, vi E.v, vi 0, vi 0, .slice (pa aj) 0 V, .slice (pa Bq) ys.length cq, vi to]) (cs' := #[vi k, vi E.s, vi E.v, vi 0, vi 0, .slice (pa aj) 0 V, .slice (pa Bq) ys.length cq, vi to]) X0 i6 Z Z (by simp [Value.oneCell']) kh (Nat.le_of_ble_eq_true Z) Z ?_))))))))
 intro Ad fq
 refine wpo_nil (Xm (⟨.agg #[vi k, vi E.s, vi E.v, vi 0, vi 0, .slice (pa aj) 0 V, .slice (pa Bq) ys.length cq, vi to], resC Z (resCell_mk (vs := [vi k, vi E.s, vi E.v, vi 0, vi 0, .slice (pa aj) 0 V, .slice (pa Bq) ys.length cq, vi to]) X0 i6 Z (fq.blk.rangeL 0 8 Z)), ⟨⟨k, E, 0, 0, ([] : List Rt), ys, to⟩, some ⟨aj, 0, none⟩, V, some ⟨Bq, 0, none⟩, cq⟩, p1, Z, ⟨OwnN.of (hOwn.gn fq.grw) hlBq, ⟨([] : List Rt), OwnN.of (ki.gn fq.grw) im, Z, ?_⟩, ?_, ?_, ⟨show (0 : Int) ≤ 0 by omega, show 0 ≤ (1 : Int) by omega⟩⟩, by omega, by omega, (oq.gn fq.grw), (low1 ia fq.grw (by omega))⟩))
 intro x hx; first | (simp [zeros4] at hx; subst hx; exact ⟨by decide, by decide, by decide, by decide⟩) | simp at hx
 · first | exact Nat.le_of_ble_eq_true rfl | omega | (simp only [List.length_nil]; omega)
 exact Nat.le_of_ble_eq_true Z
 have xy := of_decide_eq_false je
 refine Xa (wpo_eql (q := decide (k = 3)) Z Z Z Z (wpo_assign (v := vb (decide (k = 3))) Z Z (wpo_nil (X5 Z nz (Xn (Y3 (Xo (Xa (wpo_loadn (vs := [vi k, vi E.s, vi E.v, vi 0, vi 0, .slice (pa aj) 0 V, .slice (pa ba) 0 ah, vi to]) X0 Z Z (ag.blk.rangeL 0 8 Z) Z (wpo_storen (vs := [vi k, vi E.s, vi E.v, vi 0, vi 0, .slice (pa aj) 0 V, .slice (pa ba) 0 ah, vi to]) (cs' := #[vi k, vi E.s, vi E.v, vi 0, vi 0, .slice (pa aj) 0 V, .slice (pa ba) 0 ah, vi to]) X0 Z Z Z (by simp [Value.oneCell']) ((is.grown0 ai.grw).gn ag.grw) (Nat.le_of_ble_eq_true Z) Z ?_))))))))))
 intro Ae ft
 refine wpo_nil (Xm (⟨.agg #[vi k, vi E.s, vi E.v, vi 0, vi 0, .slice (pa aj) 0 V, .slice (pa ba) 0 ah, vi to], resC Z (resCell_mk (vs := [vi k, vi E.s, vi E.v, vi 0, vi 0, .slice (pa aj) 0 V, .slice (pa ba) 0 ah, vi to]) X0 Z Z (ft.blk.rangeL 0 8 Z)), ⟨⟨k, E, 0, 0, ([] : List Rt), ([] : List Int), to⟩, some ⟨aj, 0, none⟩, V, some ⟨ba, 0, none⟩, ah⟩, ak, Z, ⟨OwnN.of (((fe.grown0 ai.grw).gn ag.grw).gn ft.grw) io, ⟨([] : List Rt), OwnN.of (((fd.grown0 ai.grw).gn ag.grw).gn ft.grw) im, Z, ?_⟩, ?_, ?_, ⟨show (0 : Int) ≤ 0 by omega, show 0 ≤ (1 : Int) by omega⟩⟩, by omega, by omega, (((ir.grown0 ai.grw).gn ag.grw).gn ft.grw), (low1 bw ft.grw (by omega))⟩))
 intro x hx; first | (simp [zeros4] at hx; subst hx; exact ⟨by decide, by decide, by decide, by decide⟩) | simp at hx
 · first | exact Nat.le_of_ble_eq_true rfl | omega | (simp only [List.length_nil]; omega)
 exact Nat.le_of_ble_eq_true Z
 have xz : thingOk (⟨k, E, 0, 0, [], [], to⟩ : Th) = false := (J5 bt).symm.trans iq
 refine Xi G4 (Xb Z (Xb Z (Xb Z Xg))) Z (Gc k to E bt iq _) ?_
 rintro _ Af ⟨rfl, i2⟩
 have jv := low0 bv i2
 refine wpo_move (v := .tuple #[.agg #[vi 0, vi 0, vi 0, vi 0, vi 0, .slice none 0 0, .slice none 0 0, vi 0], vb false]) Z Z (wpo_extract (v := .agg #[vi 0, vi 0, vi 0, vi 0, vi 0, .slice none 0 0, .slice none 0 0, vi 0]) Z Z Z (wpo_extract (v := vb false) Z Z Z (wpo_alloc (cs := #[vi 0, vi 0, vi 0, vi 0, vi 0, .slice none 0 0, .slice none 0 0, vi 0]) Jb Z Z ?_)))
 intro wo Ag cx
 have vf := Xy cx jv
 have ow := (cj.grown0 i2)
 have rl := Xs cx (ow).lt
 have ox := ((bu.blk.gn fv).grown0 i2)
 have ld := Xs cx (ox).lt
 refine wpo_storen (vs := [vi 0, vi 0, vi 0, vi 0, vi 0, .slice none 0 0, .slice none 0 0, vi 0]) (cs' := #[vi 0, vi 0, vi 0, vi 0, vi 0, .slice none 0 0, .slice none 0 0, vi 0]) X0 Z Z Z (by simp [Value.oneCell']) cx.blk (Nat.le_of_ble_eq_true Z) Z ?_
 intro Ah dc
 have iy := low1 (low0 jv cx.grw) dc.grw (by omega)
 refine wpo_assign (v := vb false) Z Z (wpo_nil (Xk (Xa (wpo_fieldAddr (o' := 0) X7 Z Z Z (wpo_load1 (v := vi 0) X1 Z (dc.blk.cell Z) Z (wpo_eql (q := true) Z Z (by decide) Z (wpo_nil (X8 Z Z (Xr (wpo_build (ps := []) (v := .agg #[vi 0, vi 0]) Xw (fun _ => by kernel_rfl) Z ?_))))))))))
 have kl := ((ow.grown0 cx.grw).gn dc.grw)
 have km := ((ox.grown0 cx.grw).gn dc.grw)
 have x0 : thingOk (⟨1, ⟨0, 0⟩, 0, 0, [], [], 0⟩ : Th) = true := (J5 (by decide)).symm.trans (by decide)
 refine Xi G4 (Xb Z (Xb Z (Xb Z Xg))) Z (J1 1 0 ⟨0, 0⟩ (by decide) (by decide) _) ?_
 rintro _ Ai ⟨bp, aw, bq, az, rfl, ex, pc, ey, pe, my, ig⟩
 have nc := nt iy.size ex
 have rm := nl (kl).lt ex
 have lf := nl (km).lt ex
 have mb := nl (dc.blk).lt ex
 have nd := nt iy.size ey
 have rn := nl (kl).lt ey
 have lg := nl (km).lt ey
 have mc := nl (dc.blk).lt ey
 refine wpo_move (v := .tuple #[.agg #[vi 1, vi 0, vi 0, vi 0, vi 0, .slice (pa bp) 0 aw, .slice (pa bq) 0 az, vi 0], vb true]) Z Z (wpo_extract (v := .agg #[vi 1, vi 0, vi 0, vi 0, vi 0, .slice (pa bp) 0 aw, .slice (pa bq) 0 az, vi 0]) Z Z Z (wpo_extract (v := vb true) Z Z Z (wpo_storen (vs := [vi 1, vi 0, vi 0, vi 0, vi 0, .slice (pa bp) 0 aw, .slice (pa bq) 0 az, vi 0]) (cs' := #[vi 1, vi 0, vi 0, vi 0, vi 0, .slice (pa bp) 0 aw, .slice (pa bq) 0 az, vi 0]) X0 Z Z Z (by simp [Value.oneCell']) (dc.blk.grown0 ig) (Nat.le_of_ble_eq_true Z) Z ?_)))
 intro Aj de
 have jw := low1 (low0 iy ig) de.grw (by omega)
 refine wpo_nil (Xo (Xk (Xa (wpo_fieldAddr (o' := 0) X7 Z Z Z (wpo_load1 (v := vi 1) X1 Z (de.blk.cell Z) Z (wpo_nil (Xv (Xa (wpo_eql (q := true) Z Z (by decide) Z (wpo_assign (v := vb true) Z Z (wpo_nil (X8 Z Z ?_))))))))))))
 refine Xa (wpo_move (v := pt R 0) Z Z (Xi Y7 (Xb Z (Xb Z Xg)) Z (Yj ak 20 (by omega) _ R bs _ _ _ ((kl.grown0 ig).gn de.grw) (by omega) (SlLt.low1 hs jw hlo) (by first | exact hb | exact fun b h => hb b (List.mem_of_mem_take h)) (by first | omega | (rw [List.length_take]; omega))) ?_))
 rintro _ Ak ⟨du, rfl, v9, wa, qw, gm⟩
 refine wpo_fieldAddr (o' := 4) Q9 Z Z Z (wpo_store1 (v := vi du) (cs' := #[vi 1, vi 0, vi 0, vi 0, vi du, .slice (pa bp) 0 aw, .slice (pa bq) 0 az, vi 0]) X1 Z Z Z (de.blk.gn gm) (Nat.le_of_ble_eq_true Z) Z ?_)
 intro Al ei
 have jy := low1 (Xh jw gm) ei.grw (by omega)
 refine wpo_nil (Xr (wpo_move (v := pt R 0) Z Z (Xi Y7 (Xb Z (Xb Z Xg)) Z (Yj (ak + 1) 3 (by omega) _ R bs _ _ _ (qw.gn ei.grw) (by omega) (SlLt.low1 hs jy hlo) (by first | exact hb | exact fun b h => hb b (List.mem_of_mem_take h)) (by first | omega | (rw [List.length_take]; omega))) ?_)))
 rintro _ Am ⟨cg, rfl, wb, wc, qx, gp⟩
 refine wpo_quo (c := cg / 2) Z Z (by omega) (by omega) (by omega) Z Z (wpo_fieldAddr (o' := 3) Q5 Z Z Z (wpo_store1 (v := vi (cg / 2)) (cs' := #[vi 1, vi 0, vi 0, vi (cg / 2), vi du, .slice (pa bp) 0 aw, .slice (pa bq) 0 az, vi 0]) X1 Z Z Z (ei.blk.gn gp) (Nat.le_of_ble_eq_true Z) Z ?_))
 intro An ej
 refine wpo_nil (Y3 (Xo (Xa (wpo_loadn (vs := [vi 1, vi 0, vi 0, vi (cg / 2), vi du, .slice (pa bp) 0 aw, .slice (pa bq) 0 az, vi 0]) X0 Z Z (ej.blk.rangeL 0 8 Z) Z (wpo_storen (vs := [vi 1, vi 0, vi 0, vi (cg / 2), vi du, .slice (pa bp) 0 aw, .slice (pa bq) 0 az, vi 0]) (cs' := #[vi 1, vi 0, vi 0, vi (cg / 2), vi du, .slice (pa bp) 0 aw, .slice (pa bq) 0 az, vi 0]) X0 Z Z Z (by simp [Value.oneCell']) ((((((km.grown0 ig).gn de.grw).gn gm).gn ei.grw).gn gp).gn ej.grw) (Nat.le_of_ble_eq_true Z) Z ?_)))))
 intro Ao fu
 refine wpo_nil (Xm (⟨.agg #[vi 1, vi 0, vi 0, vi (cg / 2), vi du, .slice (pa bp) 0 aw, .slice (pa bq) 0 az, vi 0], resC Z (resCell_mk (vs := [vi 1, vi 0, vi 0, vi (cg / 2), vi du, .slice (pa bp) 0 aw, .slice (pa bq) 0 az, vi 0]) X0 Z Z (fu.blk.rangeL 0 8 Z)), ⟨⟨1, ⟨0, 0⟩, cg / 2, du, ([] : List Rt), ([] : List Int), 0⟩, some ⟨bp, 0, none⟩, aw, some ⟨bq, 0, none⟩, az⟩, (ak + 1 + 1), Z, ⟨OwnN.of ((((((pe.gn de.grw).gn gm).gn ei.grw).gn gp).gn ej.grw).gn fu.grw) nd, ⟨([] : List Rt), OwnN.of ((((((pc.gn de.grw).gn gm).gn ei.grw).gn gp).gn ej.grw).gn fu.grw) nc, Z, ?_⟩, ?_, ?_, ⟨show (0 : Int) ≤ cg / 2 by omega, show cg / 2 ≤ (1 : Int) by omega⟩⟩, by omega, by omega, ((qx.gn ej.grw).gn fu.grw), (low1 (low1 (Xh jy gp) ej.grw (by omega)) fu.grw (by omega))⟩))
 intro x hx; first | (simp [zeros4] at hx; subst hx; exact ⟨by decide, by decide, by decide, by decide⟩) | simp at hx
 · first | exact Nat.le_of_ble_eq_true rfl | omega | (simp only [List.length_nil]; omega)
 exact Nat.le_of_ble_eq_true Z
theorem Lc [Comp] (p : Int) (hp : 0 ≤ p ∧ p ≤ 999999990000) (lo R : Nat) (bs : List Int) (a : Option Addr) (c : Nat) (w : World) (hR : Blk w R 97 #[.slice a bs.length c, vi p]) (hlo : lo ≤ R) (hs : SlLt lo w a 1 (bs.map bcell)) (hb : ∀ b ∈ bs, 0 ≤ b ∧ b ≤ 255) (hn : bs.length ≤ 1048576) : CallsR Try.prog 70 #[pt R 0] w (fun v w' => ∃ (B cap : Nat) (ms : List MTh) (p' : Int), v = .slice (pa B) ms.length cap ∧ TabG w.heap.size w' (pa B) ms ∧ Small ms ∧ (3 ≤ ms.length ∧ ms.length ≤ 8) ∧ p ≤ p' ∧ p' ≤ p + 600 ∧ Blk w' R 97 #[.slice a bs.length c, vi p'] ∧ w.grownBy w' (some R)) := by
 refine Xq (n := 142) Try.func70 Z Try.ntmps70 Z ?_
 have nu := World.grownBy.refl w (some R)
 have hRlt := hR.lt
 refine Xa (wpo_assign (v := .slice none 0 0) Z Z (wpo_nil (Xa (wpo_buildSlice (ps := [(0, vi 1), (1, vi 3), (2, vi 3)]) (e := 3) (cs := (([1, 3, 3] : List Int).flatMap icell).toArray) (Xp Z (Xp Z (Xp Z Xw))) (fun _ => by kernel_rfl) Z ?_))))
 intro ix sg bf
 have iq := Xy bf nu
 have li := Xs bf (hR).lt
 have fh := low0 nu bf.grw
 refine wpo_assign (v := .slice (pa ix) 3 3) Z Z (wpo_nil (Xk (Xa (wpo_move (v := pt R 0) Z Z (Xi Y7 (Xb Z (Xb Z Xg)) Z (Yj p 6 (by omega) _ R bs _ _ _ (hR.grown0 bf.grw) (by omega) (SlLt.low1 hs fh hlo) (by first | exact hb | exact fun b h => hb b (List.mem_of_mem_take h)) (by first | omega | (rw [List.length_take]; omega))) ?_)))))
 rintro _ si ⟨gf, rfl, o3, o4, ld, fx⟩
 refine wpo_assign (v := vi gf) Z Z (wpo_nil (Xv (Yg (fun mm f' w' => ∃ (n : Int) (p1 : Int) (Bk : Nat) (ck : Nat) (ks : List Int), mm = n.toNat ∧ (0 ≤ n ∧ n ≤ 5) ∧ (p ≤ p1 ∧ p1 ≤ p + 6 - n) ∧ (3 ≤ ks.length ∧ (ks.length : Int) ≤ 8 - n) ∧ (∀ y ∈ ks, 1 ≤ y ∧ y ≤ 5) ∧ Dw.Own w' Bk 3 1 ck ks.length (ks.flatMap icell) ∧ w.heap.size ≤ Bk ∧ R ≠ Bk ∧ f' 3 = .slice (pa Bk) ks.length ck ∧ f' 4 = vi n ∧ f' 0 = pt R 0 ∧ f' 2 = .slice none 0 0 ∧ w.grownBy w' (some R) ∧ Blk w' R 97 #[.slice a bs.length c, vi p1]) (gf.toNat) ⟨gf, (p + 1), ix, 3, ([1, 3, 3] : List Int), Z, (by omega), (by omega), (by simp only [List.length_nil, List.length_cons]; omega), (by intro y hy; simp at hy; omega), (Own.rows Ye (bf.blk.gn fx) (by simp)), iq, (by omega), Z, Z, Z, Z, (Xh fh fx), ld⟩ ?_)))
 rintro mm qn sk ⟨n, p1, Bk, ck, ks, pm, hnn, hpp, hkl, hks, hOk, hlBk, rx, iz, i0, ef, i1, bw, d8⟩
 refine Xk (Xa (wpo_move (v := vi n) i0 Z (wpo_gtr (q := decide (0 < n)) Z Z Z Z (wpo_nil (Xt Z (fun ez => ?_) (fun ez => ?_))))))
 have qy := of_decide_eq_true ez
 refine Xn (Xo (Xk (Xv (Xr (wpo_move (v := .slice (pa Bk) ks.length ck) iz Z (wpo_buildSlice (ps := [(0, vi 1), (1, vi 2), (2, vi 2), (3, vi 3), (4, vi 4), (5, vi 5)]) (e := 3) (cs := (([1, 2, 2, 3, 4, 5] : List Int).flatMap icell).toArray) (Xp Z (Xp Z (Xp Z (Xp Z (Xp Z (Xp Z Xw)))))) (fun _ => by kernel_rfl) Z ?_))))))
 intro lx sn aq
 have om := Xy aq bw
 have lj := Xs aq (d8).lt
 have j2 := Xs aq (hOk).lt
 have fi := low0 bw aq.grw
 refine wpo_move (v := pt R 0) ef Z (Xi Y7 (Xb Z (Xb Z Xg)) Z (Yj p1 6 (by omega) _ R bs _ _ _ (d8.grown0 aq.grw) (by omega) (SlLt.low1 hs fi hlo) (by first | exact hb | exact fun b h => hb b (List.mem_of_mem_take h)) (by first | omega | (rw [List.length_take]; omega))) ?_)
 rintro _ so ⟨gg, rfl, o5, o6, gm, dc⟩
 have fj := Xh fi dc
 refine wpo_indexAddr (o' := (gg).toNat * 1) K0 Z Z (by omega) (by omega) (by omega) Z ?_
 have gh := (aq.blk.gn dc)
 obtain ⟨bq, gb⟩ := Qo (l := ([1, 2, 2, 3, 4, 5] : List Int)) (i := (gg).toNat) (lq (gg).toNat 6)
 have kz := List.mem_of_getElem? gb
 simp only [List.mem_cons, List.not_mem_nil, or_false] at kz
 refine wpo_load1 (v := vi bq) X1 Z ((Jg Ye gh gb) 0 _ Z) Z (wpo_buildSlice (ps := [(0, vi bq)]) (e := 3) (cs := (([bq] : List Int).flatMap icell).toArray) (Xp Z Xw) (fun _ => by kernel_rfl) Z ?_)
 intro ly sq al
 have oq := Xy al fj
 have lk := Xs al (gm).lt
 have jb := ((hOk.grown0 aq.grw).gn dc)
 have j3 := Xs al (jb).lt
 have gv := Xs al (gh).lt
 have fk := low0 fj al.grw
 have jc := (gm.grown0 al.grw)
 refine wpo_append (g := icell) (ys := ks) (zs := ([bq] : List Int)) Rs Z Ye (by omega) Ug Z Z (jb.grown0 al.grw) (Jl Ye al.blk) (by simp only [List.length_cons, List.length_nil]; omega) (by omega) Z ?_
 intro bl dp sr ka fy iu
 have ir : w.heap.size ≤ bl := by rcases iu with h | h; (rw [h]; exact hlBk); exact nt fk.size h
 have lv : R ≠ bl := by have h := (jc).lt; omega
 have gw : lx ≠ bl := by have h := ((gh.grown0 al.grw)).lt; omega
 have gx : ly ≠ bl := by have h := (al.blk).lt; omega
 exact wpo_assign (v := .slice (pa bl) (ks ++ ([bq] : List Int)).length dp) Z Z (wpo_nil (Y3 (Xo (Xr (wpo_move (v := vi n) i0 Z (wpo_sub (c := n - 1) Z Z (by omega) (by omega) (by omega) Z (wpo_assign (v := vi (n - 1)) Z Z (wpo_nil (Xo (⟨(n - 1).toNat, by omega, (n - 1), (p1 + 1), bl, dp, (ks ++ ([bq] : List Int)), rfl, (by omega), (by omega), (by simp only [List.length_append, List.length_cons, List.length_nil]; omega), (by intro y hy; rcases List.mem_append.1 hy with h | h; exact hks y h; (simp at h; omega)), ka, ir, (by omega), rfl, rfl, ef, i1, (low1 fk fy (by omega)), (jc.gn fy)⟩))))))))))
 have qz := of_decide_eq_false ez
 refine Yo (Yx (Yx (Jm (Xo (Xa (wpo_buildSlice (ps := []) (e := 35) (cs := (([] : List MTh).flatMap MTh.cells).toArray) Xw (fun _ => by kernel_rfl) Z ?_))))))
 intro iy su ar
 have is := Xy ar bw
 have ll := Xs ar (d8).lt
 have j4 := Xs ar (hOk).lt
 refine wpo_assign (v := .slice (pa iy) 0 0) Z Z (wpo_nil (Xk (Xa (wpo_assign (v := vi 0) Z Z (wpo_nil (Xv (Yg (fun mm f' w' => ∃ (i : Nat) (p2 : Int) (Bt : Nat) (ct : Nat) (ms : List MTh), mm = ks.length - i ∧ i ≤ ks.length ∧ (p ≤ p2 ∧ p2 ≤ p + 6 + 12 * (i : Int)) ∧ ms.length = i ∧ RowsD 74 3 w.heap.size w' ms ∧ Dw.Own w' Bt 35 8 ct ms.length (ms.flatMap MTh.cells) ∧ w.heap.size ≤ Bt ∧ R ≠ Bt ∧ Bk ≠ Bt ∧ f' 5 = .slice (pa Bt) ms.length ct ∧ f' 6 = vi (i : Int) ∧ f' 0 = pt R 0 ∧ f' 2 = .slice none 0 0 ∧ f' 3 = .slice (pa Bk) ks.length ck ∧ w.grownBy w' (some R) ∧ Dw.Own w' Bk 3 1 ck ks.length (ks.flatMap icell) ∧ Blk w' R 97 #[.slice a bs.length c, vi p2]) (ks.length - 0) ⟨0, p1, iy, 0, ([] : List MTh), Z, (Nat.zero_le _), (by omega), Z, RowsD.nil, (Own.rows Yf ar.blk (by simp)), is, (by omega), (by omega), Z, Z, ef, i1, iz, (low0 bw ar.grw), (hOk.grown0 ar.grw), (d8.grown0 ar.grw)⟩ ?_)))))))
 rintro mm qo j9 ⟨i, p2, Bt, ct, ms, pn, hi, r1, hml, hRows, hOt, hlBt, ry, rz, eh, dr, ei, ej, dt, bz, gi, jd⟩
 have ru := hkl
 refine Xk (Xa (wpo_move (v := vi (i : Int)) dr Z (wpo_move (v := .slice (pa Bk) ks.length ck) dt Z (wpo_len (by kernel_rfl) Z Z (wpo_lss (q := decide ((i : Int) < (ks.length : Int))) Z Z Z Z (wpo_nil (Xt Z (fun fa => ?_) (fun fa => ?_))))))))
 have q1 := of_decide_eq_true fa
 refine Xn (Xo (Xk (Xv (Xa (wpo_assign (v := vi 0) Z Z (wpo_nil (Xk (Xa (wpo_move (v := .slice (pa Bk) ks.length ck) dt Z (wpo_move (v := vi (i : Int)) dr Z (wpo_indexAddr (o' := i * 1) K0 Z Z (by omega) (by omega) (by omega) Z ?_)))))))))))
 obtain ⟨bj, gc⟩ := Qo (l := ks) (i := i) (by omega)
 refine wpo_load1 (v := vi bj) X1 Z ((Own.range Ye gi gc) 0 _ Z) Z (wpo_eql (q := decide (bj = 5)) Z Z Z Z (wpo_nil (Pv (fun f' w' => (f' 0 = pt R 0 ∧ f' 2 = .slice none 0 0 ∧ f' 3 = .slice (pa Bk) ks.length ck ∧ f' 5 = .slice (pa Bt) ms.length ct ∧ f' 6 = vi (i : Int) ∧ f' 7 = vi (if bj = 5 then 1 else 0)) ∧ j9 = w') ?_ ?_)))
 refine Xt Z (fun cn => ?_) (fun cn => ?_)
 have q2 := of_decide_eq_true cn
 exact Xr (wpo_assign (v := vi 1) Z Z (wpo_nil (Xo (⟨⟨ei, ej, dt, eh, dr, (congrArg (Value.int .i64) (if_pos (of_decide_eq_true cn)).symm)⟩, Z⟩))))
 have q3 := of_decide_eq_false cn
 exact Xn (Xo (⟨⟨ei, ej, dt, eh, dr, (congrArg (Value.int .i64) (if_neg (of_decide_eq_false cn)).symm)⟩, Z⟩))
 rintro qq _ ⟨⟨i2, l0, i4, l3, i5, l4⟩, rfl⟩
 refine Xo (Xr (wpo_move (v := .slice (pa Bt) ms.length ct) l3 Z (wpo_move (v := pt R 0) i2 Z (wpo_move (v := .slice (pa Bk) ks.length ck) i4 Z (wpo_move (v := vi (i : Int)) i5 Z (wpo_indexAddr (o' := i * 1) K0 Z Z (by omega) (by omega) (by omega) Z (wpo_load1 (v := vi bj) X1 Z ((Own.range Ye gi gc) 0 _ Z) Z (wpo_move (v := vi (if bj = 5 then 1 else 0)) l4 Z (Xi Xdd (Xb Z (Xb Z (Xb Z Xg))) Z (Tg bj (if bj = 5 then 1 else 0) p2 (by omega) _ R bs _ _ _ jd (by omega) (SlLt.low1 hs bz hlo) (by first | exact hb | exact fun b h => hb b (List.mem_of_mem_take h)) (by first | omega | (rw [List.length_take]; omega))) ?_)))))))))
 rintro _ sw ⟨aj, n5, rfl, g4, pq, pu, gp, ca⟩
 have fm := Xh bz ca
 have g7 := RowD.mono g4 bz.size
 refine wpo_buildSlice (ps := [(0, .agg #[vi aj.t.kind, vi aj.t.lab.s, vi aj.t.lab.v, vi aj.t.ve, vi aj.t.num, .slice aj.sa aj.t.slots.length aj.sc, .slice aj.qa aj.t.queue.length aj.qc, vi aj.t.to])]) (e := 35) (cs := (([aj] : List MTh).flatMap MTh.cells).toArray) (Xp Z Xw) (fun _ => by kernel_rfl) Z ?_
 intro lz sx ag
 have ot := Xy ag fm
 have je := (gi.gn ca)
 have j5 := Xs ag (je).lt
 have lm := Xs ag (gp).lt
 have jf := (hOt.gn ca)
 have j6 := Xs ag (jf).lt
 have fp := low0 fm ag.grw
 have gj := (jf.grown0 ag.grw)
 have jg := (je.grown0 ag.grw)
 have jh := (gp.grown0 ag.grw)
 refine wpo_append (g := MTh.cells) (ys := ms) (zs := ([aj] : List MTh)) Zk Z Yf (by omega) Wz Z Z gj (Jl Yf ag.blk) (by simp only [List.length_cons, List.length_nil]; omega) (by omega) Z ?_
 intro bm dq sy kb bg iv
 have it : w.heap.size ≤ bm := by rcases iv with h | h; (rw [h]; exact hlBt); exact nt fp.size h
 have j8 : Bk ≠ bm := by have h := (jg).lt; omega
 have lw : R ≠ bm := by have h := (jh).lt; omega
 have gy : lz ≠ bm := by have h := (ag.blk).lt; omega
 refine wpo_assign (v := .slice (pa bm) (ms ++ ([aj] : List MTh)).length dq) Z Z (wpo_nil (Y3 (Xo (Xr (wpo_move (v := vi (i : Int)) i5 Z (wpo_add (c := (i : Int) + 1) Z Z (by omega) (by omega) (by omega) Z (wpo_assign (v := vi ((i : Int) + 1)) Z Z (wpo_nil (Xo ?_)))))))))
 have g8 := (RowsD.typ (RowsD.low (RowsD.lt hRows ca (by omega)) ag.grw) bg gj (by decide) (by decide))
 exact ⟨ks.length - (i + 1), by omega, (i + 1), n5, bm, dq, (ms ++ ([aj] : List MTh)), rfl, (by omega), (by omega), (by rw [List.length_append, hml]; rfl), (RowsD.snoc g8 (RowD.typ (RowD.low g7 ag.grw) bg gj (by decide) (by decide))), kb, it, (by omega), (by omega), rfl, rfl, i2, l0, i4, (low1 fp bg (by omega)), (jg.gn bg), (jh.gn bg)⟩
 have q4 := of_decide_eq_false fa
 refine Yo (Yx (Yx (Jm (Xo (Xk (Xa (wpo_assign (v := vi 0) Z Z (wpo_nil (Xv ?_)))))))))
 obtain ⟨hi, hhi⟩ : ∃ n, n = j9.heap.size := ⟨_, rfl⟩
 have hH := RowsD.hi hRows
 rw [← hhi] at hH
 have hbt := (hOt).lt
 refine Yg (fun mm f' w' => ∃ (i3 : Nat) (p3 : Int), mm = ms.length - i3 ∧ i3 ≤ ms.length ∧ (p ≤ p3 ∧ p3 ≤ p + 102 + 56 * (i3 : Int)) ∧ RowsD 74 3 w.heap.size w' ms ∧ Dw.Own w' Bt 35 8 ct ms.length (ms.flatMap MTh.cells) ∧ hi ≤ w'.heap.size ∧ f' 8 = vi (i3 : Int) ∧ f' 0 = pt R 0 ∧ f' 2 = .slice none 0 0 ∧ f' 5 = .slice (pa Bt) ms.length ct ∧ w.grownBy w' (some R) ∧ Dw.Own w' Bt 35 8 ct ms.length (ms.flatMap MTh.cells) ∧ Blk w' R 97 #[.slice a bs.length c, vi p3]) (ms.length - 0) ⟨0, p2, Z, (Nat.zero_le _), (by omega), hRows, hOt, (Nat.le_of_eq hhi), Z, ei, ej, eh, bz, hOt, jd⟩ ?_
 rintro mm qr s3 ⟨i3, p3, po, hi3, r2, hRows, hOt, hhs, i6, du, l5, bn, co, sd, ji⟩
 refine Xk (Xa (wpo_move (v := vi (i3 : Int)) i6 Z (wpo_move (v := .slice (pa Bt) ms.length ct) bn Z (wpo_len (by kernel_rfl) Z Z (wpo_lss (q := decide ((i3 : Int) < (ms.length : Int))) Z Z Z Z (wpo_nil (Xt Z (fun fb => ?_) (fun fb => ?_))))))))
 have q5 := of_decide_eq_true fb
 refine Xn (Xo (Xk (Xv (Xa (wpo_assign (v := vi 0) Z Z (wpo_nil (Xv (Yg (fun mm f' w' => ∃ (j : Nat) (p4 : Int), mm = (mAt ms i3).t.slots.length - j ∧ j ≤ (mAt ms i3).t.slots.length ∧ (p3 ≤ p4 ∧ p4 ≤ p3 + 14 * (j : Int)) ∧ RowsD 74 3 w.heap.size w' ms ∧ Dw.Own w' Bt 35 8 ct ms.length (ms.flatMap MTh.cells) ∧ hi ≤ w'.heap.size ∧ f' 9 = vi (j : Int) ∧ f' 0 = pt R 0 ∧ f' 2 = .slice none 0 0 ∧ f' 5 = .slice (pa Bt) ms.length ct ∧ f' 8 = vi (i3 : Int) ∧ w.grownBy w' (some R) ∧ Dw.Own w' Bt 35 8 ct ms.length (ms.flatMap MTh.cells) ∧ Blk w' R 97 #[.slice a bs.length c, vi p4]) ((mAt ms i3).t.slots.length - 0) ⟨0, p3, Z, (Nat.zero_le _), (by omega), hRows, hOt, hhs, Z, du, l5, bn, i6, co, hOt, ji⟩ ?_))))))))
 rintro mm qw s4 ⟨j, p4, pp, hj, r3, hRows, hOt, hhs, dv, bp, dw, cd, ce, cw, se, jj⟩
 have sb := (RowsD.at hRows (lq i3 ms.length)).sl
 refine Xk (Xa (wpo_move (v := vi (j : Int)) dv Z (wpo_move (v := .slice (pa Bt) ms.length ct) cd Z (wpo_move (v := vi (i3 : Int)) ce Z (wpo_indexAddr (o' := i3 * 8) Qj Z Z (by omega) (by omega) (by omega) Z (wpo_fieldAddr (o' := i3 * 8 + 5) Qe Z Z Z ?_))))))
 have ox := (RowsD.at hRows (lq i3 ms.length)).ve
 refine wpo_load1 (v := .slice (mAt ms i3).sa (mAt ms i3).t.slots.length (mAt ms i3).sc) Jt Z ((Own.range Yf hOt (xg ms i3)) 5 _ Z) Z (wpo_len (by kernel_rfl) Z Z (wpo_lss (q := decide ((j : Int) < ((mAt ms i3).t.slots.length : Int))) Z Z Z Z (wpo_nil (Xt Z (fun fc => ?_) (fun fc => ?_)))))
 have q6 := of_decide_eq_true fc
 refine Xn (Xo (Xk (Xv (Xa (wpo_move (v := pt R 0) bp Z (Xi Xde (Xb Z Xg) Z (Tf p4 (by omega) _ R bs _ _ _ jj (by omega) (SlLt.low1 hs cw hlo) (by first | exact hb | exact fun b h => hb b (List.mem_of_mem_take h)) (by first | omega | (rw [List.length_take]; omega))) ?_))))))
 rintro _ s5 ⟨E, ap, rfl, py, p0, p8, p9, pw, px, dm, ak⟩
 have fq := Xh cw ak
 refine wpo_alloc (cs := #[vi 0, vi 0, vb false, vb false, vb false]) Lw Z Z ?_
 intro cc s6 ab
 have ou := Xy ab fq
 have nw : hi ≤ cc := nt (nt hhs ak.size) ab.ge
 have d9 := (hOt.gn ak)
 have j7 := Xs ab (d9).lt
 have ln := Xs ab (dm).lt
 refine wpo_storen (vs := [vi E.th, vi E.ve, vb E.rd, vb E.wr, vb E.wk]) (cs' := #[vi E.th, vi E.ve, vb E.rd, vb E.wr, vb E.wk]) Y9 Z Z Z (by simp [Value.oneCell']) ab.blk (Nat.le_of_ble_eq_true Z) Z ?_
 intro s7 ac
 have cx := low1 (low0 fq ab.grw) ac.grw (by omega)
 refine wpo_nil (Km (fun f' w' => ∃ (p5 : Int) (r5 : Rt), (p4 ≤ p5 ∧ p5 ≤ p4 + 12) ∧ RB r5 ∧ RowsD 74 3 w.heap.size w' ms ∧ Dw.Own w' Bt 35 8 ct ms.length (ms.flatMap MTh.cells) ∧ hi ≤ w'.heap.size ∧ f' 0 = pt R 0 ∧ f' 2 = .slice none 0 0 ∧ f' 5 = .slice (pa Bt) ms.length ct ∧ f' 8 = vi (i3 : Int) ∧ f' 9 = vi (j : Int) ∧ f' 10 = pt cc 0 ∧ w.grownBy w' (some R) ∧ Blk w' cc 74 #[vi r5.th, vi r5.ve, vb r5.rd, vb r5.wr, vb r5.wk] ∧ Dw.Own w' Bt 35 8 ct ms.length (ms.flatMap MTh.cells) ∧ Blk w' R 97 #[.slice a bs.length c, vi p5]) ?_ ?_)
 refine Xa (wpo_fieldAddr (o' := 0) Qp Z Z Z (wpo_load1 (v := vi E.th) X1 Z (ac.blk.cell Z) Z (wpo_gtr (q := decide (0 < E.th)) Z Z Z Z (wpo_move (v := vb (decide (0 < E.th))) Z Z ?_))))
 rcases Xz (decide (0 < E.th)) with a8 | a8
 have q7 := of_decide_eq_true a8
 refine Xd Z Z Z a8 (wpo_move (v := pt R 0) bp Z (Xd Z Z Z a8 (Xi Y7 (Xb Z (Xb Z Xg)) Z (Yj ap 40 (by omega) _ R bs _ _ _ ((dm.grown0 ab.grw).gn ac.grw) (by omega) (SlLt.low1 hs cx hlo) (by first | exact hb | exact fun b h => hb b (List.mem_of_mem_take h)) (by first | omega | (rw [List.length_take]; omega))) ?_)))
 rintro _ n7 ⟨jk, rfl, o7, o8, gq, ah⟩
 have cy := Xh cx ah
 refine Xd Z Z Z a8 (wpo_gtr (q := decide (0 < jk)) Z Z Z Z (wpo_pickt (v := vb (decide (0 < jk))) Z a8 Z Z (wpo_nil (Xt Z (fun fd => ?_) (fun fd => ?_)))))
 have q8 := of_decide_eq_true fd
 refine Xk (Q8 (m := 7) [[], [0], [], [2], [0, 1, 2, 3], [], [5], [0, 1, 2, 3, 4, 5, 6], [0, 1, 2, 3, 4, 5, 6, 7], [0, 1, 2, 3, 4, 5, 6, 7, 8], [0, 1, 2, 3, 4, 5, 6, 7, 8, 9]] (fun S F w' => ∃ (O : Int), n7.grownBy w' (some R) ∧ F 0 = pt R 0 ∧ F 2 = .slice none 0 0 ∧ F 5 = .slice (pa Bt) ms.length ct ∧ F 8 = vi (i3 : Int) ∧ F 9 = vi (j : Int) ∧ F 10 = pt cc 0 ∧ (S 3 = false → Blk w' R 97 #[.slice a bs.length c, vi (ap + 1)]) ∧ (S 3 = true → F 77 = vi O ∧ 0 ≤ O ∧ (O < 8 ∨ O = 0) ∧ Blk w' R 97 #[.slice a bs.length c, vi (ap + 1 + 1)]) ∧ (S 4 = true → F 78 = vi (E.th + O)) ∧ Vals S F [(0, 74, pt cc 0), (1, 75, vi E.th), (2, 76, pt R 0), (5, 79, .slice (pa Bt) ms.length ct), (6, 80, vi (ms.length : Int))]) Yu (by kernel_rfl) ⟨0, Xx _, bp, dw, cd, ce, dv, Z, fun _ => (gq).grown0 (Xx _), X4, X4, Kn _⟩ ?_ ?_)
 refine Xl (fun S F s8 hS hbef hcl hI => ?_) ?_
 obtain ⟨O, kg, l6, l7, l8, l9, ma, i7, c_old_R, aw, bk, hvs⟩ := hI
 exact wpo_fieldAddr (o' := 0) Qp i7 Z Z (wpo_nil ⟨O, kg, l6, l7, l8, l9, ma, i7, fun h => c_old_R h, aw, Xj 4 hS hcl Z, Vals.up 0 hvs Z Z Z⟩)
 refine Xl (fun S F s9 hS hbef hcl hI => ?_) ?_
 obtain ⟨O, fz, mb, mc, me, mf, mg, mh, c_old_R, aw, bk, hvs⟩ := hI
 exact wpo_load1 (v := vi E.th) X1 (Vals.at 0 hvs Z (Xf 0 hbef Z)) (((ac.blk.gn ah).gn fz).cell Z) Z (wpo_nil ⟨O, fz, mb, mc, me, mf, mg, mh, fun h => c_old_R h, aw, Xj 4 hS hcl Z, Vals.up 1 hvs Z Z Z⟩)
 refine Xl (fun S F ta hS hbef hcl hI => ?_) ?_
 obtain ⟨O, kh, i8, ml, mn, mo, mp, mq, c_old_R, aw, bk, hvs⟩ := hI
 exact wpo_move (v := pt R 0) i8 Z (wpo_nil ⟨O, kh, i8, ml, mn, mo, mp, mq, fun h => c_old_R h, Xj 3 hS hcl Z, Xj 4 hS hcl Z, Vals.up 2 hvs Z Z Z⟩)
 refine Xl (fun S F tc hS hbef hcl hI => ?_) ?_
 obtain ⟨O, f7, mr, mu, mv, mw, my, mz, c_old_R, aw, bk, hvs⟩ := hI
 refine Xi Y7 (Xb (Vals.at 2 hvs Z (Xf 2 hbef Z)) (Xb Z Xg)) Z (Yj (ap + 1) 8 (by omega) _ R bs _ _ _ (c_old_R hS) (by omega) (SlLt.low1 hs (Xh cy f7) hlo) (by first | exact hb | exact fun b h => hb b (List.mem_of_mem_take h)) (by first | omega | (rw [List.length_take]; omega))) ?_
 rintro _ td ⟨nx, rfl, kw, kx, lf, kf⟩
 exact wpo_nil ⟨nx, (Xh f7 kf), mr, mu, mv, mw, my, mz, fun h => Yi h, fun _ => ⟨Z, kw, kx, lf⟩, Xj 4 hS hcl Z, Vals.keep hvs Z⟩
 refine Xl (fun S F te hS hbef hcl hI => ?_) ?_
 obtain ⟨O, ki, m3, m4, m5, m6, m7, m8, c_old_R, aw, bk, hvs⟩ := hI
 obtain ⟨m9, ku, kv, dn⟩ := aw (Xf 3 hbef rfl)
 exact wpo_add (c := E.th + O) (Vals.at 1 hvs Z (Xf 1 hbef Z)) m9 (by omega) (by omega) (by omega) Z (wpo_nil ⟨O, ki, m3, m4, m5, m6, m7, m8, fun hn => Yi ((Xf 3 hbef Z).symm.trans hn), aw, fun _ => Z, Vals.keep hvs Z⟩)
 refine Xl (fun S F tf hS hbef hcl hI => ?_) ?_
 obtain ⟨O, kl, na, nb, i9, nc, nd, nf, c_old_R, aw, bk, hvs⟩ := hI
 exact wpo_move (v := .slice (pa Bt) ms.length ct) i9 Z (wpo_nil ⟨O, kl, na, nb, i9, nc, nd, nf, fun h => c_old_R h, aw, bk, Vals.up 3 hvs Z Z Z⟩)
 refine Xl (fun S F tg hS hbef hcl hI => ?_) ?_
 obtain ⟨O, km, ng, nh, ni, nj, nk, np, c_old_R, aw, bk, hvs⟩ := hI
 exact wpo_len (by kernel_rfl) (Vals.at 3 hvs Z (Xf 5 hbef Z)) Z (wpo_nil ⟨O, km, ng, nh, ni, nj, nk, np, fun h => c_old_R h, aw, bk, Vals.up 4 hvs Z Z Z⟩)
 exact Jp
 intro S F ti hall hI
 obtain ⟨O, av, dx, eu, dz, ew, ex, az, c_old_R, aw, bk, hvs⟩ := hI
 obtain ⟨qk, ku, kv, dn⟩ := aw (hall 3 (by decide))
 obtain nq := bk (hall 4 (by decide))
 have qd := Int.emod_nonneg (E.th + O) (show (ms.length : Int) ≠ 0 by omega)
 have qe := Int.emod_lt_of_pos (E.th + O) (show 0 < (ms.length : Int) by omega)
 refine wpo_rem (c := (E.th + O) % (ms.length : Int)) nq (Vals.at 4 hvs Z (hall 6 (by decide))) (by omega) (by omega) (by omega) Z Z (wpo_add (c := 1 + ((E.th + O) % (ms.length : Int))) Z Z (by omega) (by omega) (by omega) Z (wpo_fieldAddr (o' := 0) Qp az Z Z (wpo_store1 (v := vi (1 + ((E.th + O) % (ms.length : Int)))) (cs' := #[vi (1 + ((E.th + O) % (ms.length : Int))), vi E.ve, vb E.rd, vb E.wr, vb E.wk]) X1 Z Z Z ((ac.blk.gn ah).gn av) (Nat.le_of_ble_eq_true Z) Z ?_)))
 intro tj am
 refine wpo_nil (Xo (Xa (wpo_move (v := .slice (pa Bt) ms.length ct) dz Z (wpo_fieldAddr (o' := 0) Qp az Z Z (wpo_load1 (v := vi (1 + ((E.th + O) % (ms.length : Int)))) X1 Z (am.blk.cell Z) Z (wpo_sub (c := (1 + ((E.th + O) % (ms.length : Int))) - 1) Z Z (by omega) (by omega) (by omega) Z (wpo_indexAddr (o' := ((1 + ((E.th + O) % (ms.length : Int))) - 1).toNat * 8) Qj Z Z (by omega) (by omega) (by omega) Z (wpo_fieldAddr (o' := ((1 + ((E.th + O) % (ms.length : Int))) - 1).toNat * 8 + 3) Q5 Z Z Z ?_))))))))
 have ea := (((((d9.grown0 ab.grw).gn ac.grw).gn ah).gn av).gn am.grw)
 have be := (RowsD.ge (RowsD.lt (RowsD.lt (RowsD.ge (RowsD.low (RowsD.lt hRows ak (by omega)) ab.grw) ac.grw hH (by omega)) ah (by omega)) av (by omega)) am.grw hH (by omega))
 have oy := (RowsD.at be (show ((1 + ((E.th + O) % (ms.length : Int))) - 1).toNat < ms.length by omega)).ve
 refine wpo_load1 (v := vi (mAt ms ((1 + ((E.th + O) % (ms.length : Int))) - 1).toNat).t.ve) X1 Z ((Own.range Yf ea (xg ms ((1 + ((E.th + O) % (ms.length : Int))) - 1).toNat)) 3 _ Z) Z (wpo_fieldAddr (o' := 1) J4 az Z Z (wpo_store1 (v := vi (mAt ms ((1 + ((E.th + O) % (ms.length : Int))) - 1).toNat).t.ve) (cs' := #[vi (1 + ((E.th + O) % (ms.length : Int))), vi (mAt ms ((1 + ((E.th + O) % (ms.length : Int))) - 1).toNat).t.ve, vb E.rd, vb E.wr, vb E.wk]) X1 Z Z Z am.blk (Nat.le_of_ble_eq_true Z) Z ?_))
 intro tk ae
 have cz := low1 (low1 (Xh cy av) am.grw (by omega)) ae.grw (by omega)
 refine wpo_nil (Xa (wpo_fieldAddr (o' := 1) J4 az Z Z (wpo_load1 (v := vi (mAt ms ((1 + ((E.th + O) % (ms.length : Int))) - 1).toNat).t.ve) X1 Z (ae.blk.cell Z) Z (wpo_gtr (q := decide (0 < (mAt ms ((1 + ((E.th + O) % (ms.length : Int))) - 1).toNat).t.ve)) Z Z Z Z (wpo_move (v := vb (decide (0 < (mAt ms ((1 + ((E.th + O) % (ms.length : Int))) - 1).toNat).t.ve))) Z Z ?_)))))
 rcases Xz (decide (0 < (mAt ms ((1 + ((E.th + O) % (ms.length : Int))) - 1).toNat).t.ve)) with a9 | a9
 have q9 := of_decide_eq_true a9
 refine Xd Z Z Z a9 (wpo_move (v := pt R 0) dx Z (Xd Z Z Z a9 (Xi Y7 (Xb Z (Xb Z Xg)) Z (Yj (ap + 1 + 1) 5 (by omega) _ R bs _ _ _ ((dn.gn am.grw).gn ae.grw) (by omega) (SlLt.low1 hs cz hlo) (by first | exact hb | exact fun b h => hb b (List.mem_of_mem_take h)) (by first | omega | (rw [List.length_take]; omega))) ?_)))
 rintro _ tn ⟨jl, rfl, o9, pb, gr, an⟩
 have ft := Xh cz an
 refine Xd Z Z Z a9 (wpo_eql (q := decide (jl = 0)) Z Z Z Z (wpo_pickt (v := vb (decide (jl = 0))) Z a9 Z Z (wpo_nil (Xt Z (fun fe => ?_) (fun fe => ?_)))))
 have ra := of_decide_eq_true fe
 refine Xr (wpo_fieldAddr (o' := 1) J4 az Z Z ?_)
 have jm := (ae.blk.gn an)
 refine wpo_load1 (v := vi (mAt ms ((1 + ((E.th + O) % (ms.length : Int))) - 1).toNat).t.ve) X1 Z (jm.cell Z) Z (wpo_sub (c := (mAt ms ((1 + ((E.th + O) % (ms.length : Int))) - 1).toNat).t.ve - 1) Z Z (by omega) (by omega) (by omega) Z (wpo_fieldAddr (o' := 1) J4 az Z Z (wpo_store1 (v := vi ((mAt ms ((1 + ((E.th + O) % (ms.length : Int))) - 1).toNat).t.ve - 1)) (cs' := #[vi (1 + ((E.th + O) % (ms.length : Int))), vi ((mAt ms ((1 + ((E.th + O) % (ms.length : Int))) - 1).toNat).t.ve - 1), vb E.rd, vb E.wr, vb E.wk]) X1 Z Z Z jm (Nat.le_of_ble_eq_true Z) Z ?_)))
 intro tu bd
 refine wpo_nil (Xo ?_)
 have g9 := (RowsD.ge (RowsD.lt (RowsD.ge be ae.grw hH (by omega)) an (by omega)) bd.grw hH (by omega))
 have jo := (((ea.gn ae.grw).gn an).gn bd.grw)
 exact ⟨(ap + 1 + 1 + 1), (⟨1 + ((E.th + O) % (ms.length : Int)), (mAt ms ((1 + ((E.th + O) % (ms.length : Int))) - 1).toNat).t.ve - 1, E.rd, E.wr, E.wk⟩ : Rt), (by omega), (rbo (1 + ((E.th + O) % (ms.length : Int))) ((mAt ms ((1 + ((E.th + O) % (ms.length : Int))) - 1).toNat).t.ve - 1) Z Z), g9, jo, (nt (nt (nt (nt (nt (nt (nt (nt (nt hhs ak.size) ab.grw.size) ac.grw.size) ah.size) av.size) am.grw.size) ae.grw.size) an.size) bd.grw.size), dx, eu, dz, ew, ex, az, (low1 ft bd.grw (by omega)), bd.blk, jo, (gr.gn bd.grw)⟩
 have rf := of_decide_eq_false fe
 refine Xn (Xo ?_)
 have ia := (RowsD.lt (RowsD.ge be ae.grw hH (by omega)) an (by omega))
 have jp := ((ea.gn ae.grw).gn an)
 exact ⟨(ap + 1 + 1 + 1), (⟨1 + ((E.th + O) % (ms.length : Int)), (mAt ms ((1 + ((E.th + O) % (ms.length : Int))) - 1).toNat).t.ve, E.rd, E.wr, E.wk⟩ : Rt), (by omega), (rbo (1 + ((E.th + O) % (ms.length : Int))) ((mAt ms ((1 + ((E.th + O) % (ms.length : Int))) - 1).toNat).t.ve) Z Z), ia, jp, (nt (nt (nt (nt (nt (nt (nt (nt hhs ak.size) ab.grw.size) ac.grw.size) ah.size) av.size) am.grw.size) ae.grw.size) an.size), dx, eu, dz, ew, ex, az, ft, (ae.blk.gn an), jp, gr⟩
 have rg := of_decide_eq_false a9
 iterate 3 refine Xe rfl rfl rfl a9 rfl ?_
 refine wpo_pickf (v := vb false) Z a9 Z Z (wpo_nil (X5 Z Z (Xn (Xo ?_))))
 have ib := (RowsD.ge be ae.grw hH (by omega))
 have jq := (ea.gn ae.grw)
 exact ⟨(ap + 1 + 1), (⟨1 + ((E.th + O) % (ms.length : Int)), (mAt ms ((1 + ((E.th + O) % (ms.length : Int))) - 1).toNat).t.ve, E.rd, E.wr, E.wk⟩ : Rt), (by omega), (rbo (1 + ((E.th + O) % (ms.length : Int))) ((mAt ms ((1 + ((E.th + O) % (ms.length : Int))) - 1).toNat).t.ve) Z Z), ib, jq, (nt (nt (nt (nt (nt (nt (nt hhs ak.size) ab.grw.size) ac.grw.size) ah.size) av.size) am.grw.size) ae.grw.size), dx, eu, dz, ew, ex, az, cz, ae.blk, jq, ((dn.gn am.grw).gn ae.grw)⟩
 have rh := of_decide_eq_false fd
 refine Xn (Xo ?_)
 have ic := (RowsD.lt (RowsD.ge (RowsD.low (RowsD.lt hRows ak (by omega)) ab.grw) ac.grw hH (by omega)) ah (by omega))
 have jr := (((d9.grown0 ab.grw).gn ac.grw).gn ah)
 exact ⟨(ap + 1), E, (by omega), (rbo (E.th) (E.ve) Z Z), ic, jr, (nt (nt (nt (nt hhs ak.size) ab.grw.size) ac.grw.size) ah.size), bp, dw, cd, ce, dv, Z, cy, (ac.blk.gn ah), jr, gq⟩
 have ri := of_decide_eq_false a8
 iterate 3 refine Xe rfl rfl rfl a8 rfl ?_
 refine wpo_pickf (v := vb false) Z a8 Z Z (wpo_nil (X5 Z Z (Xn (Xo ?_))))
 have ie := (RowsD.ge (RowsD.low (RowsD.lt hRows ak (by omega)) ab.grw) ac.grw hH (by omega))
 have js := ((d9.grown0 ab.grw).gn ac.grw)
 exact ⟨ap, E, (by omega), (rbo (E.th) (E.ve) Z Z), ie, js, (nt (nt (nt hhs ak.size) ab.grw.size) ac.grw.size), bp, dw, cd, ce, dv, Z, cx, ac.blk, js, ((dm.grown0 ab.grw).gn ac.grw)⟩
 rintro qx n8 ⟨p5, r5, r4, iw, hRows, hOt, hhs, d0, ey, cg, cj, cm, ja, ke, jt, sf, ny⟩
 have r6 := iw.1; have r7 := iw.2.1; have r8 := iw.2.2.1; have r9 := iw.2.2.2
 refine Xk ?_
 obtain ⟨qi, qf, d6, oc, io, oh⟩ := RowD.slot (RowsD.at hRows (lq i3 ms.length)) (by omega)
 have n9 := hH _ (List.mem_of_getElem? (xg ms i3)) _ (Or.inl d6)
 refine Yl (m := 7) (vals := [(104, .slice (pa Bt) ms.length ct), (105, vi (i3 : Int)), (106, pt Bt (i3 * 8)), (107, pt Bt (i3 * 8 + 5)), (108, .slice (mAt ms i3).sa (mAt ms i3).t.slots.length (mAt ms i3).sc), (109, vi (j : Int)), (110, .agg #[vi r5.th, vi r5.ve, vb r5.rd, vb r5.wr, vb r5.wk])]) (fun w' => n8.grownBy w' none) Yu (by kernel_rfl) (Xx _) ?_ ?_
 refine Xc Z (fun tv ko => ?_) ?_
 exact wpo_move (v := .slice (pa Bt) ms.length ct) cg Z (wpo_nil ⟨Z, ko⟩)
 refine Xc Z (fun tw kp => ?_) ?_
 exact wpo_move (v := vi (i3 : Int)) cj Z (wpo_nil ⟨Z, kp⟩)
 refine Xc Z (fun tx kq => ?_) ?_
 exact wpo_indexAddr (o' := i3 * 8) Qj Z Z (by omega) (by omega) (by omega) Z (wpo_nil ⟨Z, kq⟩)
 refine Xc Z (fun tz kr => ?_) ?_
 exact wpo_fieldAddr (o' := i3 * 8 + 5) Qe Z Z Z (wpo_nil ⟨Z, kr⟩)
 refine Xc Z (fun ua dk => ?_) ?_
 have ig := (RowsD.low hRows dk)
 have oz := (RowsD.at ig (lq i3 ms.length)).ve
 exact wpo_load1 (v := .slice (mAt ms i3).sa (mAt ms i3).t.slots.length (mAt ms i3).sc) Jt Z ((Own.range Yf (hOt.grown0 dk) (xg ms i3)) 5 _ Z) Z (wpo_nil ⟨Z, dk⟩)
 refine Xc Z (fun uc kt => ?_) ?_
 exact wpo_move (v := vi (j : Int)) cm Z (wpo_nil ⟨Z, kt⟩)
 refine Xc Z (fun ud f8 => ?_) ?_
 exact wpo_loadn (vs := [vi r5.th, vi r5.ve, vb r5.rd, vb r5.wr, vb r5.wk]) Y9 ja Z ((jt.grown0 f8).rangeL 0 5 Z) Z (wpo_nil ⟨Z, f8⟩)
 exact Y2
 intro ue ao
 refine X6 G2 Z Z d6 (Nat.zero_add _) (by omega) (by omega) Z ?_
 have bc := (io.grown0 ao)
 have br : RB r5 := (rbo (r5.th) (r5.ve) Z Z)
 have ed := (hOt.grown0 ao)
 have ov := Tm ed bc (by decide)
 have ju := (ny.grown0 ao)
 have bt := (RowsD.low hRows ao)
 refine wpo_storeD (z' := r5) Y9 Z Z bc (by omega) Z ?_
 intro uf dl af
 refine wpo_nil (Xo (Xa (wpo_loadn (vs := [vi r5.th, vi r5.ve, vb r5.rd, vb r5.wr, vb r5.wk]) Y9 ja Z (((jt.grown0 ao).gn af).rangeL 0 5 Z) Z (Xi Zb (Xb Z Xg) Z (Wh r5 _) ?_))))
 rintro _ ug ⟨rfl, ai⟩
 have da := low0 (low1 (low0 ke ao) af (by omega)) ai
 refine wpo_not (b' := !rightOk r5) Z Z Z (wpo_move (v := vb (!rightOk r5)) Z Z ?_)
 rcases Xz (!rightOk r5) with ba | ba
 have rj := Je ba
 refine Xd Z Z Z ba (wpo_move (v := pt R 0) d0 Z (Xd Z Z Z ba (Xi Y7 (Xb Z (Xb Z Xg)) Z (Yj p5 3 (by omega) _ R bs _ _ _ ((ju.gn af).grown0 ai) (by omega) (SlLt.low1 hs da hlo) (by first | exact hb | exact fun b h => hb b (List.mem_of_mem_take h)) (by first | omega | (rw [List.length_take]; omega))) ?_)))
 rintro _ uh ⟨jv, rfl, pc, pe, gt, au⟩
 have fu := Xh da au
 refine Xd Z Z Z ba (wpo_gtr (q := decide (0 < jv)) Z Z Z Z (wpo_pickt (v := vb (decide (0 < jv))) Z ba Z Z (wpo_nil (Xt Z (fun ff => ?_) (fun ff => ?_)))))
 have rk := of_decide_eq_true ff
 refine Xr (wpo_move (v := .slice (pa Bt) ms.length ct) cg Z (wpo_move (v := vi (i3 : Int)) cj Z (wpo_indexAddr (o' := i3 * 8) Qj Z Z (by omega) (by omega) (by omega) Z (wpo_fieldAddr (o' := i3 * 8 + 5) Qe Z Z Z ?_))))
 have gl := (((ed.gn af).grown0 ai).gn au)
 have bu := (RowsD.lt (RowsD.low (RowsD.put bt dl af br bc (by decide)) ai) au (by omega))
 have o0 := (RowsD.at bu (lq i3 ms.length)).ve
 refine wpo_load1 (v := .slice (mAt ms i3).sa (mAt ms i3).t.slots.length (mAt ms i3).sc) Jt Z ((Own.range Yf gl (xg ms i3)) 5 _ Z) Z (wpo_move (v := vi (j : Int)) cm Z (wpo_build (ps := []) (v := .agg #[vi 0, vi 0, vb false, vb false, vb false]) Xw (fun _ => by kernel_rfl) Z ?_))
 obtain ⟨qj, qg, d7, oe, ip, ol⟩ := RowD.slot (RowsD.at bu (lq i3 ms.length)) (by omega)
 have oa := hH _ (List.mem_of_getElem? (xg ms i3)) _ (Or.inl d7)
 refine X6 G2 Z Z d7 (Nat.zero_add _) (by omega) (by omega) Z ?_
 have bv := ip
 have gz : RB (⟨0, 0, false, false, false⟩ : Rt) := (rbo (0) (0) Z Z)
 have ow := Tm gl bv (by decide)
 refine wpo_storeD (z' := (⟨0, 0, false, false, false⟩ : Rt)) Y9 Z Z bv (by omega) Z ?_
 intro uj k0 bh
 refine wpo_nil (Y3 (Xo (Xr (wpo_move (v := vi (j : Int)) cm Z (wpo_add (c := (j : Int) + 1) Z Z (by omega) (by omega) (by omega) Z (wpo_assign (v := vi ((j : Int) + 1)) Z Z (wpo_nil (Xo ?_))))))))
 have ii := (RowsD.put bu k0 bh gz bv (by decide))
 have jw := (gl.gn bh)
 exact ⟨(mAt ms i3).t.slots.length - (j + 1), by omega, (j + 1), (p5 + 1), rfl, (by omega), (by omega), ii, jw, (nt (nt (nt (nt (nt hhs ao.size) af.size) ai.size) au.size) bh.size), rfl, d0, ey, cg, cj, (low1 fu bh (by omega)), jw, (gt.gn bh)⟩
 have rl := of_decide_eq_false ff
 refine Xn (Y3 (Xo (Xr (wpo_move (v := vi (j : Int)) cm Z (wpo_add (c := (j : Int) + 1) Z Z (by omega) (by omega) (by omega) Z (wpo_assign (v := vi ((j : Int) + 1)) Z Z (wpo_nil (Xo ?_))))))))
 have ij := (RowsD.lt (RowsD.low (RowsD.put bt dl af br bc (by decide)) ai) au (by omega))
 have jy := (((ed.gn af).grown0 ai).gn au)
 exact ⟨(mAt ms i3).t.slots.length - (j + 1), by omega, (j + 1), (p5 + 1), rfl, (by omega), (by omega), ij, jy, (nt (nt (nt (nt hhs ao.size) af.size) ai.size) au.size), rfl, d0, ey, cg, cj, fu, jy, gt⟩
 have rm := Qx ba
 iterate 3 refine Xe rfl rfl rfl ba rfl ?_
 refine wpo_pickf (v := vb false) Z ba Z Z (wpo_nil (X5 Z Z (Xn (Y3 (Xo (Xr (wpo_move (v := vi (j : Int)) cm Z (wpo_add (c := (j : Int) + 1) Z Z (by omega) (by omega) (by omega) Z (wpo_assign (v := vi ((j : Int) + 1)) Z Z (wpo_nil (Xo ?_)))))))))))
 have ik := (RowsD.low (RowsD.put bt dl af br bc (by decide)) ai)
 have jz := ((ed.gn af).grown0 ai)
 exact ⟨(mAt ms i3).t.slots.length - (j + 1), by omega, (j + 1), p5, rfl, (by omega), (by omega), ik, jz, (nt (nt (nt hhs ao.size) af.size) ai.size), rfl, d0, ey, cg, cj, da, jz, ((ju.gn af).grown0 ai)⟩
 have rn := of_decide_eq_false fc
 exact Yo (Yx (Yx (Jm (Y3 (Xo (Xr (wpo_move (v := vi (i3 : Int)) ce Z (wpo_add (c := (i3 : Int) + 1) Z Z (by omega) (by omega) (by omega) Z (wpo_assign (v := vi ((i3 : Int) + 1)) Z Z (wpo_nil (Xo (⟨ms.length - (i3 + 1), by omega, (i3 + 1), p4, rfl, (by omega), (by omega), hRows, hOt, hhs, rfl, bp, dw, cd, cw, hOt, jj⟩))))))))))))
 have rp := of_decide_eq_false fb
 refine Yo (Yx (Yx (Jm (Xo (Xk (Xa (wpo_move (v := pt R 0) du Z (Xi Y7 (Xb Z (Xb Z Xg)) Z (Yj p3 30 (by omega) _ R bs _ _ _ ji (by omega) (SlLt.low1 hs co hlo) (by first | exact hb | exact fun b h => hb b (List.mem_of_mem_take h)) (by first | omega | (rw [List.length_take]; omega))) ?_))))))))
 rintro _ uk ⟨nz, rfl, pf, pg, gu, bi⟩
 have db := Xh co bi
 refine wpo_eql (q := decide (nz = 0)) Z Z Z Z (wpo_nil (Xt Z (fun fg => ?_) (fun fg => ?_)))
 have rq := of_decide_eq_true fg
 refine Xr (wpo_move (v := .slice (pa Bt) ms.length ct) bn Z (wpo_move (v := pt R 0) du Z (wpo_move (v := .slice (pa Bt) ms.length ct) bn Z (wpo_len (by kernel_rfl) Z Z (Xi Y7 (Xb Z (Xb Z Xg)) Z (Yj (p3 + 1) (ms.length : Int) (by omega) _ R bs _ _ _ gu (by omega) (SlLt.low1 hs db hlo) (by first | exact hb | exact fun b h => hb b (List.mem_of_mem_take h)) (by first | omega | (rw [List.length_take]; omega))) ?_)))))
 rintro _ um ⟨V, rfl, pi, pj, lg, de⟩
 have fv := Xh db de
 refine wpo_move (v := pt R 0) du Z (Xi Y7 (Xb Z (Xb Z Xg)) Z (Yj (p3 + 1 + 1) 5 (by omega) _ R bs _ _ _ lg (by omega) (SlLt.low1 hs fv hlo) (by first | exact hb | exact fun b h => hb b (List.mem_of_mem_take h)) (by first | omega | (rw [List.length_take]; omega))) ?_)
 rintro _ un ⟨ee, rfl, pk, pl, lh, dh⟩
 refine wpo_add (c := 1 + ee) Z Z (by omega) (by omega) (by omega) Z (wpo_indexAddr (o' := (V).toNat * 8) Qj Z Z (by omega) (by omega) (by omega) Z (wpo_fieldAddr (o' := (V).toNat * 8) X7 Z Z Z ?_))
 have j1 := (((hOt.gn bi).gn de).gn dh)
 have d5 := (RowsD.lt (RowsD.lt (RowsD.lt hRows bi (by omega)) de (by omega)) dh (by omega))
 have o1 := (RowsD.at d5 (lq (V).toNat ms.length)).ve
 refine wpo_store1O (g := MTh.cells) (j := 0) (z := (mAt ms (V).toNat)) (z' := (⟨⟨1 + ee, (mAt ms (V).toNat).t.lab, (mAt ms (V).toNat).t.ve, (mAt ms (V).toNat).t.num, (mAt ms (V).toNat).t.slots, (mAt ms (V).toNat).t.queue, (mAt ms (V).toNat).t.to⟩, (mAt ms (V).toNat).sa, (mAt ms (V).toNat).sc, (mAt ms (V).toNat).qa, (mAt ms (V).toNat).qc⟩ : MTh)) (v := vi (1 + ee)) X1 Z Z Z Yf j1 (xg ms (V).toNat) (by omega) Z Z ?_
 intro uo kc di
 refine wpo_nil (Xo (Xa (wpo_move (v := .slice (pa Bt) ms.length ct) bn Z (wpo_assign (v := .slice (pa Bt) ms.length ct) Z Z (wpo_nil (Xm ?_))))))
 have il := (RowsD.typ d5 di j1 (by decide) (by decide))
 obtain ⟨lu, fw, lc, la⟩ := RowsD.tab _ (RowsD.setk (i := (V).toNat) (m' := (⟨⟨1 + ee, (mAt ms (V).toNat).t.lab, (mAt ms (V).toNat).t.ve, (mAt ms (V).toNat).t.num, (mAt ms (V).toNat).t.slots, (mAt ms (V).toNat).t.queue, (mAt ms (V).toNat).t.to⟩, (mAt ms (V).toNat).sa, (mAt ms (V).toNat).sc, (mAt ms (V).toNat).qa, (mAt ms (V).toNat).qc⟩ : MTh)) il (by omega) ⟨rfl, rfl, rfl⟩ ⟨rfl, rfl, rfl⟩ rfl)
 have ky := congrArg List.length fw
 simp only [List.length_map, List.length_set] at ky
 have f9 := kc
 rw [← Sf fw] at f9
 refine ⟨.slice (pa Bt) ms.length ct, res1 Z Z, Bt, ct, lu, (p3 + 1 + 1 + 1), ?_, ⟨SlG.own Yf f9 hlBt, lc⟩, la, by omega, by omega, by omega, (lh.gn di), (low1 (Xh fv dh) di (by omega))⟩
 show Value.slice _ _ _ = Value.slice _ _ _
 congr 1; first | omega | (simp only [List.length_set]; omega)
 have rr := of_decide_eq_false fg
 refine Xn (Xo (Xa (wpo_move (v := .slice (pa Bt) ms.length ct) bn Z (wpo_assign (v := .slice (pa Bt) ms.length ct) Z Z (wpo_nil (Xm ?_))))))
 have im := (RowsD.lt hRows bi (by omega))
 obtain ⟨lu, fw, lc, la⟩ := RowsD.tab _ im
 have ky := congrArg List.length fw
 simp only [List.length_map, List.length_set] at ky
 have f9 := (hOt.gn bi)
 rw [← Sf fw] at f9
 refine ⟨.slice (pa Bt) ms.length ct, res1 Z Z, Bt, ct, lu, (p3 + 1), ?_, ⟨SlG.own Yf f9 hlBt, lc⟩, la, by omega, by omega, by omega, gu, db⟩
 show Value.slice _ _ _ = Value.slice _ _ _
 congr 1; first | omega | (simp only [List.length_set]; omega)
theorem L5 [Comp] (p : Int) (hp : 0 ≤ p ∧ p ≤ 999999980000) (lo R : Nat) (bs : List Int) (a : Option Addr) (c : Nat) (w : World) (hR : Blk w R 97 #[.slice a bs.length c, vi p]) (hlo : lo ≤ R) (hs : SlLt lo w a 1 (bs.map bcell)) (hb : ∀ b ∈ bs, 0 ≤ b ∧ b ≤ 255) (hn : bs.length ≤ 1048576) : CallsR Try.prog 35 #[pt R 0] w (fun v w' => ∃ (B cap : Nat) (ms : List MTh) (p' : Int), v = .slice (pa B) ms.length cap ∧ TabG w.heap.size w' (pa B) ms ∧ Small ms ∧ (3 ≤ ms.length ∧ ms.length ≤ 8) ∧ p ≤ p' ∧ p' ≤ p + 4000 ∧ Blk w' R 97 #[.slice a bs.length c, vi p'] ∧ w.grownBy w' (some R)) := by
 refine Xq (n := 24) Try.func35 Z Try.ntmps35 Z ?_
 have be := World.grownBy.refl w (some R)
 have hRlt := hR.lt
 refine Xa (wpo_assign (v := .slice none 0 0) Z Z (wpo_nil (Xa (wpo_move (v := pt R 0) Z Z (Xi Xco (Xb Z Xg) Z (Lc p (by omega) _ R bs _ _ _ hR (by omega) (SlLt.low1 hs be hlo) (by first | exact hb | exact fun b h => hb b (List.mem_of_mem_take h)) (by first | omega | (rw [List.length_take]; omega))) ?_)))))
 rintro _ ck ⟨a9, ag, aq, bk, rfl, au, ak, az, bt, bu, bh, bf⟩
 have bm := ak.len
 refine wpo_assign (v := .slice (pa a9) aq.length ag) Z Z (wpo_nil (Xk (Xa (wpo_assign (v := vi 0) Z Z (wpo_nil (Xv (Yg (fun mm f' w' => ∃ (i : Nat) (p1 : Int) (B : Nat) (cap : Nat) (ms : List MTh), mm = 4 - i ∧ i ≤ 4 ∧ (p ≤ p1 ∧ p1 ≤ p + 600 + 601 * (i : Int)) ∧ TabG w.heap.size w' (pa B) ms ∧ Small ms ∧ (3 ≤ ms.length ∧ ms.length ≤ 8) ∧ f' 3 = .slice (pa B) ms.length cap ∧ f' 4 = vi (i : Int) ∧ f' 0 = pt R 0 ∧ f' 2 = .slice none 0 0 ∧ w.grownBy w' (some R) ∧ Blk w' R 97 #[.slice a bs.length c, vi p1]) (4 - 0) ⟨0, bk, a9, ag, aq, Z, (Nat.zero_le _), (by omega), (TabG.mono au be.size), ak, az, Z, Z, Z, Z, (Xh be bf), bh⟩ ?_)))))))
 rintro mm bz cm ⟨i, p1, B, cap, ms, br, hi, hpp, hTG, hTS, hTn, ai, bc, an, bj, ac, bd⟩
 have aw := hTS.len
 refine Xk (Xa (wpo_move (v := vi (i : Int)) bc Z (wpo_lss (q := decide ((i : Int) < 4)) Z Z Z Z (wpo_move (v := vb (decide ((i : Int) < 4))) Z Z ?_))))
 rcases Xz (decide ((i : Int) < 4)) with E | E
 have ca := of_decide_eq_true E
 refine Xd Z Z Z E (wpo_move (v := pt R 0) an Z (Xd Z Z Z E (Xi Y7 (Xb Z (Xb Z Xg)) Z (Yj p1 16 (by omega) _ R bs _ _ _ bd (by omega) (SlLt.low1 hs ac hlo) (by first | exact hb | exact fun b h => hb b (List.mem_of_mem_take h)) (by first | omega | (rw [List.length_take]; omega))) ?_)))
 rintro _ cn ⟨am, rfl, bp, bq, af, ae⟩
 have ap := Xh ac ae
 refine Xd Z Z Z E (wpo_gtr (q := decide (0 < am)) Z Z Z Z (wpo_pickt (v := vb (decide (0 < am))) Z E Z Z (wpo_move (v := vb (decide (0 < am))) Z Z ?_)))
 rcases Xz (decide (0 < am)) with O | O
 have cc := of_decide_eq_true O
 refine Xd Z Z Z O (wpo_move (v := .slice (pa B) ms.length cap) ai Z (Xd Z Z Z O ?_))
 have aj := (TabG.lt hTG ae (by omega))
 refine Xi Vp (Xb Z Xg) Z (Qu  _ ms _ _ (TabG.at aj) aw (by omega)) ?_
 rintro _ co ⟨rfl, ab⟩
 have V := low0 ap ab
 refine Xd Z Z Z O (wpo_not (b' := !tableOk (tabT ms)) Z Z Z (wpo_pickt (v := vb (!tableOk (tabT ms))) Z O Z Z (wpo_nil (Xt Z (fun ao => ?_) (fun ao => ?_)))))
 have cd := Je ao
 refine Xn (Xo (Xk (Xv (Xr (wpo_move (v := pt R 0) an Z (Xi Xco (Xb Z Xg) Z (Lc (p1 + 1) (by omega) _ R bs _ _ _ (af.grown0 ab) (by omega) (SlLt.low1 hs V hlo) (by first | exact hb | exact fun b h => hb b (List.mem_of_mem_take h)) (by first | omega | (rw [List.length_take]; omega))) ?_))))))
 rintro _ cw ⟨ba, ah, ar, bl, rfl, av, al, a8, bv, bw, bi, bg⟩
 have bn := al.len
 exact wpo_assign (v := .slice (pa ba) ar.length ah) Z Z (wpo_nil (Y3 (Xo (Xr (wpo_move (v := vi (i : Int)) bc Z (wpo_add (c := (i : Int) + 1) Z Z (by omega) (by omega) (by omega) Z (wpo_assign (v := vi ((i : Int) + 1)) Z Z (wpo_nil (Xo (⟨4 - (i + 1), by omega, (i + 1), bl, ba, ah, ar, rfl, (by omega), (by omega), (TabG.mono av V.size), al, a8, rfl, rfl, an, bj, (Xh V bg), bi⟩))))))))))
 have ce := Qx ao
 exact Yo (Yx (Yx (Jm (Xo (Xa (wpo_move (v := .slice (pa B) ms.length cap) ai Z (wpo_assign (v := .slice (pa B) ms.length cap) Z Z (wpo_nil (Xm (⟨.slice (pa B) ms.length cap, res1 Z Z, B, cap, ms, (p1 + 1), Z, (TabG.low aj ab), hTS, hTn, by omega, by omega, (af.grown0 ab), V⟩))))))))))
 have cg := of_decide_eq_false O
 iterate 3 refine Xe rfl rfl rfl O rfl ?_
 refine wpo_pickf (v := vb false) Z O Z Z (wpo_nil (X5 Z Z (Yo (Yx (Yx (Jm (Xo (Xa (wpo_move (v := .slice (pa B) ms.length cap) ai Z (wpo_assign (v := .slice (pa B) ms.length cap) Z Z (wpo_nil (Xm ?_))))))))))))
 exact ⟨.slice (pa B) ms.length cap, res1 Z Z, B, cap, ms, (p1 + 1), Z, (TabG.lt hTG ae (by omega)), hTS, hTn, by omega, by omega, af, ap⟩
 have cj := of_decide_eq_false E
 iterate 3 refine Xe rfl rfl rfl E rfl ?_
 refine wpo_pickf (v := vb false) Z E Z Z (wpo_move (v := vb false) Z Z ?_)
 iterate 3 refine Xe rfl rfl rfl rfl rfl ?_
 refine wpo_pickf (v := vb false) Z Z Z Z (wpo_nil (X5 Z Z (Yo (Yx (Yx (Jm (Xo (Xa (wpo_move (v := .slice (pa B) ms.length cap) ai Z (wpo_assign (v := .slice (pa B) ms.length cap) Z Z (wpo_nil (Xm ?_))))))))))))
 exact ⟨.slice (pa B) ms.length cap, res1 Z Z, B, cap, ms, p1, Z, hTG, hTS, hTn, by omega, by omega, bd, ac⟩
end Go.Dw.J
end
section
namespace Go.Dw.J
open Go.RowKit Go.Dw Go.Proofs
set_option linter.unusedSectionVars false
set_option maxRecDepth 100000
set_option maxHeartbeats 4000000
set_option linter.unusedSimpArgs false
set_option linter.unusedVariables false
theorem Xem : goFn Try.prog 34 = true := by kernel_rfl
theorem Xcg : goFn Try.prog 35 = true := by kernel_rfl
theorem Rk [Comp] (w : World) (ms : List MTh) (a : Option Addr) (c : Nat) (ht : TabAt w a ms) (hlen : TabLen ms) (hn : ms.length ≤ 1048576) : CallsR Try.prog 59 #[.slice a ms.length c] w (fun v w' => ∃ (B cap : Nat) (ys : List MTh), v = .slice (pa B) ys.length cap ∧ tabT ys = tabT ms ∧ w.heap.size ≤ B ∧ Dw.Own w' B 35 8 cap ys.length (ys.flatMap MTh.cells) ∧ RowsO 74 3 w.heap.size w' ys ∧ w.grownBy w' none) := by
 refine Xq (n := 32) Try.func59 Z Try.ntmps59 Z ?_
 have dk := World.grownBy.refl w none
 refine Xa (wpo_assign (v := .slice none 0 0) Z Z (wpo_nil (Xa (wpo_buildSlice (ps := []) (e := 35) (cs := (([] : List MTh).flatMap MTh.cells).toArray) Xw (fun _ => by kernel_rfl) Z ?_))))
 intro bu eh ar
 have bq := Xy ar dk
 refine wpo_assign (v := .slice (pa bu) 0 0) Z Z (wpo_nil (Xk (Xa (wpo_assign (v := vi 0) Z Z (wpo_nil (Xv (Yg (fun mm f' w' => ∃ (k : Nat) (Bt : Nat) (ct : Nat) (ys : List MTh), mm = ms.length - k ∧ k ≤ ms.length ∧ ys.length = k ∧ tabT ys = (tabT ms).take k ∧ RowsO 74 3 w.heap.size w' ys ∧ Dw.Own w' Bt 35 8 ct ys.length (ys.flatMap MTh.cells) ∧ w.heap.size ≤ Bt ∧ f' 3 = .slice (pa Bt) ys.length ct ∧ f' 4 = vi (k : Int) ∧ f' 0 = .slice a ms.length c ∧ f' 2 = .slice none 0 0 ∧ w.grownBy w' none) (ms.length - 0) ⟨0, bu, 0, ([] : List MTh), Z, (Nat.zero_le _), Z, Z, RowsO.nil, (Own.rows Yf ar.blk (by simp)), bq, Z, Z, Z, Z, (low0 dk ar.grw)⟩ ?_)))))))
 rintro mm d8 dn ⟨k, Bt, ct, ys, d6, hk, hyk, hyt, hRO, hOt, hlBt, cc, a8, a9, di, am⟩
 obtain ⟨hi, hhi⟩ : ∃ n, n = dn.heap.size := ⟨_, rfl⟩
 have aq := RowsO.hi hRO
 rw [← hhi] at aq
 have hhw : w.heap.size ≤ hi := by rw [hhi]; exact am.size
 have ed := hOt.lt
 refine Xk (Xa (wpo_move (v := vi (k : Int)) a8 Z (wpo_move (v := .slice a ms.length c) a9 Z (wpo_len (by kernel_rfl) Z Z (wpo_lss (q := decide ((k : Int) < (ms.length : Int))) Z Z Z Z (wpo_nil (Xt Z (fun ba => ?_) (fun ba => ?_))))))))
 have d9 := of_decide_eq_true ba
 refine Xn (Xo (Xk (Xv (Xa (wpo_move (v := .slice a ms.length c) a9 Z (wpo_move (v := vi (k : Int)) a8 Z ?_))))))
 obtain ⟨d7, ef, ee, da, de, dh⟩ := SlAt.at (TabAt.low ht am).1 (Yw (xg ms k))
 have dz := TabLen.at hlen (xg ms k)
 refine X6 Qj Z Z da de (by omega) (by omega) Z (wpo_loadn (vs := [vi (mAt ms k).t.kind, vi (mAt ms k).t.lab.s, vi (mAt ms k).t.lab.v, vi (mAt ms k).t.ve, vi (mAt ms k).t.num, .slice (mAt ms k).sa (mAt ms k).t.slots.length (mAt ms k).sc, .slice (mAt ms k).qa (mAt ms k).t.queue.length (mAt ms k).qc, vi (mAt ms k).t.to]) X0 Z Z (Qh dh 0 8 Z) Z (wpo_alloc (cs := #[vi 0, vi 0, vi 0, vi 0, vi 0, .slice none 0 0, .slice none 0 0, vi 0]) Jb Z Z ?_))
 intro bv ei ab
 have du := Xy ab am
 have dl : hi ≤ bv := nt (Nat.le_of_eq hhi) ab.ge
 have cm := Xs ab (hOt).lt
 refine wpo_storen (vs := [vi (mAt ms k).t.kind, vi (mAt ms k).t.lab.s, vi (mAt ms k).t.lab.v, vi (mAt ms k).t.ve, vi (mAt ms k).t.num, .slice (mAt ms k).sa (mAt ms k).t.slots.length (mAt ms k).sc, .slice (mAt ms k).qa (mAt ms k).t.queue.length (mAt ms k).qc, vi (mAt ms k).t.to]) (cs' := #[vi (mAt ms k).t.kind, vi (mAt ms k).t.lab.s, vi (mAt ms k).t.lab.v, vi (mAt ms k).t.ve, vi (mAt ms k).t.num, .slice (mAt ms k).sa (mAt ms k).t.slots.length (mAt ms k).sc, .slice (mAt ms k).qa (mAt ms k).t.queue.length (mAt ms k).qc, vi (mAt ms k).t.to]) X0 Z Z Z (by simp [Value.oneCell']) ab.blk (Nat.le_of_ble_eq_true Z) Z ?_
 intro ej af
 have bd := low1 (low0 am ab.grw) af.grw (by omega)
 refine wpo_nil (Xa (wpo_buildSlice (ps := []) (e := 74) (cs := (([] : List Rt).flatMap Rt.cells).toArray) Xw (fun _ => by kernel_rfl) Z ?_))
 intro bw dp O
 have dv := Xy O bd
 have bh : hi ≤ bw := nt (nt (nt (Nat.le_of_eq hhi) ab.grw.size) af.grw.size) O.ge
 have cd := ((hOt.grown0 ab.grw).gn af.grw)
 have cn := Xs O (cd).lt
 have bk := Xs O (af.blk).lt
 have au := low0 bd O.grw
 refine wpo_fieldAddr (o' := 5) Qe Z Z Z ?_
 have ce := (af.blk.grown0 O.grw)
 refine wpo_load1 (v := .slice (mAt ms k).sa (mAt ms k).t.slots.length (mAt ms k).sc) Jt Z (ce.cell Z) Z (wpo_appendN (g := Rt.cells) (ys := ([])) (zs := (mAt ms k).t.slots) (lo := hi) Mm Z Qd (by omega) N2 Z Z (OwnN.of (Own.rows Qd O.blk (by simp)) bh) (TabAt.th (TabAt.low ht au) (xg ms k)).1 (TabAt.th (TabAt.low ht au) (xg ms k)).2.2.1 (by first | omega | exact Nat.le_of_ble_eq_true rfl | (simp only [List.length_nil, List.length_cons, List.length_append, List.length_replicate]; omega) | (simp only [List.length_drop, List.length_nil]; omega)) (by omega) (nt (nt (nt (Nat.le_of_eq hhi) ab.grw.size) af.grw.size) O.grw.size) Z ?_)
 intro ak ac dq bc db d0
 have ai : World.grownBy dp dq (some bw) := db
 refine wpo_fieldAddr (o' := 5) Qe Z Z Z ?_
 have bj := (ce.gn ai)
 refine wpo_store1 (v := .slice ak (mAt ms k).t.slots.length ac) (cs' := #[vi (mAt ms k).t.kind, vi (mAt ms k).t.lab.s, vi (mAt ms k).t.lab.v, vi (mAt ms k).t.ve, vi (mAt ms k).t.num, .slice ak (mAt ms k).t.slots.length ac, .slice (mAt ms k).qa (mAt ms k).t.queue.length (mAt ms k).qc, vi (mAt ms k).t.to]) Jt Z Z Z bj (Nat.le_of_ble_eq_true Z) Z ?_
 intro eu ag
 have be := low1 (low1 au ai (by omega)) ag.grw (by omega)
 refine wpo_nil (Xa (wpo_buildSlice (ps := []) (e := 3) (cs := (([] : List Int).flatMap icell).toArray) Xw (fun _ => by kernel_rfl) Z ?_))
 intro bz dr E
 have dw := Xy E be
 have bi : hi ≤ bz := nt (nt (nt (nt (nt (nt (Nat.le_of_eq hhi) ab.grw.size) af.grw.size) O.grw.size) ai.size) ag.grw.size) E.ge
 have cg := (((cd.grown0 O.grw).gn ai).gn ag.grw)
 have co := Xs E (cg).lt
 have bl := Xs E (ag.blk).lt
 have av := low0 be E.grw
 refine wpo_fieldAddr (o' := 6) Q2 Z Z Z ?_
 have cj := (ag.blk.grown0 E.grw)
 refine wpo_load1 (v := .slice (mAt ms k).qa (mAt ms k).t.queue.length (mAt ms k).qc) Kc Z (cj.cell Z) Z (wpo_appendN (g := icell) (ys := ([])) (zs := (mAt ms k).t.queue) (lo := hi) Rs Z Ye (by omega) Ug Z Z (OwnN.of (Own.rows Ye E.blk (by simp)) bi) (TabAt.th (TabAt.low ht av) (xg ms k)).2.1 (TabAt.th (TabAt.low ht av) (xg ms k)).2.2.2 (by first | omega | exact Nat.le_of_ble_eq_true rfl | (simp only [List.length_nil, List.length_cons, List.length_append, List.length_replicate]; omega) | (simp only [List.length_drop, List.length_nil]; omega)) (by omega) (nt (nt (nt (nt (nt (nt (Nat.le_of_eq hhi) ab.grw.size) af.grw.size) O.grw.size) ai.size) ag.grw.size) E.grw.size) Z ?_)
 intro al ae dt cx dc d5
 have aj : World.grownBy dr dt (some bz) := dc
 refine wpo_fieldAddr (o' := 6) Q2 Z Z Z ?_
 have az := (cj.gn aj)
 refine wpo_store1 (v := .slice al (mAt ms k).t.queue.length ae) (cs' := #[vi (mAt ms k).t.kind, vi (mAt ms k).t.lab.s, vi (mAt ms k).t.lab.v, vi (mAt ms k).t.ve, vi (mAt ms k).t.num, .slice ak (mAt ms k).t.slots.length ac, .slice al (mAt ms k).t.queue.length ae, vi (mAt ms k).t.to]) Kc Z Z Z az (Nat.le_of_ble_eq_true Z) Z ?_
 intro ew ah
 have bf := low1 (low1 av aj (by omega)) ah.grw (by omega)
 refine wpo_nil (Xr (wpo_move (v := .slice (pa Bt) ys.length ct) cc Z (wpo_loadn (vs := [vi (mAt ms k).t.kind, vi (mAt ms k).t.lab.s, vi (mAt ms k).t.lab.v, vi (mAt ms k).t.ve, vi (mAt ms k).t.num, .slice ak (mAt ms k).t.slots.length ac, .slice al (mAt ms k).t.queue.length ae, vi (mAt ms k).t.to]) X0 Z Z (ah.blk.rangeL 0 8 Z) Z (wpo_buildSlice (ps := [(0, .agg #[vi (mAt ms k).t.kind, vi (mAt ms k).t.lab.s, vi (mAt ms k).t.lab.v, vi (mAt ms k).t.ve, vi (mAt ms k).t.num, .slice ak (mAt ms k).t.slots.length ac, .slice al (mAt ms k).t.queue.length ae, vi (mAt ms k).t.to])]) (e := 35) (cs := (([(⟨⟨(mAt ms k).t.kind, (mAt ms k).t.lab, (mAt ms k).t.ve, (mAt ms k).t.num, (mAt ms k).t.slots, (mAt ms k).t.queue, (mAt ms k).t.to⟩, ak, ac, al, ae⟩ : MTh)] : List MTh).flatMap MTh.cells).toArray) (Xp Z Xw) (fun _ => by kernel_rfl) Z ?_))))
 intro ca ex V
 have dx := Xy V bf
 have dm : hi ≤ ca := nt (nt (nt (nt (nt (nt (nt (nt (nt (Nat.le_of_eq hhi) ab.grw.size) af.grw.size) O.grw.size) ai.size) ag.grw.size) E.grw.size) aj.size) ah.grw.size) V.ge
 have ck := (((cg.grown0 E.grw).gn aj).gn ah.grw)
 have cw := Xs V (ck).lt
 have bm := Xs V (ah.blk).lt
 have bg := low0 bf V.grw
 have ap := (ck.grown0 V.grw)
 refine wpo_append (g := MTh.cells) (ys := ys) (zs := ([(⟨⟨(mAt ms k).t.kind, (mAt ms k).t.lab, (mAt ms k).t.ve, (mAt ms k).t.num, (mAt ms k).t.slots, (mAt ms k).t.queue, (mAt ms k).t.to⟩, ak, ac, al, ae⟩ : MTh)] : List MTh)) Zk Z Yf (by omega) Wz Z Z ap (Jl Yf V.blk) (by simp only [List.length_cons, List.length_nil]; omega) (by omega) Z ?_
 intro ao aw ey cy an bt
 have br : w.heap.size ≤ ao := by rcases bt with h | h; (rw [h]; exact hlBt); exact nt bg.size h
 have bn : bv ≠ ao := by have h := ((ah.blk.grown0 V.grw)).lt; omega
 have bp : ca ≠ ao := by have h := (V.blk).lt; omega
 refine wpo_assign (v := .slice (pa ao) (ys ++ ([(⟨⟨(mAt ms k).t.kind, (mAt ms k).t.lab, (mAt ms k).t.ve, (mAt ms k).t.num, (mAt ms k).t.slots, (mAt ms k).t.queue, (mAt ms k).t.to⟩, ak, ac, al, ae⟩ : MTh)] : List MTh)).length aw) Z Z (wpo_nil (Y3 (Xo (Xr (wpo_move (v := vi (k : Int)) a8 Z (wpo_add (c := (k : Int) + 1) Z Z (by omega) (by omega) (by omega) Z (wpo_assign (v := vi ((k : Int) + 1)) Z Z (wpo_nil (Xo ?_)))))))))
 have cz := (OwnN.typ ((OwnN.typB (OwnN.typ ((OwnN.typB bc ag.grw bj (by decide)).grown0 E.grw) aj (Own.rows Ye E.blk (by simp)) (by decide)) ah.grw az (by decide)).grown0 V.grw) an ap (by decide))
 exact ⟨ms.length - (k + 1), by omega, (k + 1), ao, aw, (ys ++ ([(⟨⟨(mAt ms k).t.kind, (mAt ms k).t.lab, (mAt ms k).t.ve, (mAt ms k).t.num, (mAt ms k).t.slots, (mAt ms k).t.queue, (mAt ms k).t.to⟩, ak, ac, al, ae⟩ : MTh)] : List MTh)), rfl, (by omega), (by rw [List.length_append, hyk]; rfl), (Oe hyt (xg ms k) rfl), (RowsO.snoc (RowsO.own (RowsO.low (RowsO.ge (RowsO.ge (RowsO.low (RowsO.ge (RowsO.ge (RowsO.low (RowsO.ge (RowsO.low hRO ab.grw) af.grw aq (by omega)) O.grw) ai aq (by omega)) ag.grw aq (by omega)) E.grw) aj aq (by omega)) ah.grw aq (by omega)) V.grw) an ap (by decide) (by decide)) ⟨OwnN.mono (OwnN.typ ((OwnN.typB (OwnN.typ ((OwnN.typB bc ag.grw bj (by decide)).grown0 E.grw) aj (Own.rows Ye E.blk (by simp)) (by decide)) ah.grw az (by decide)).grown0 V.grw) an ap (by decide)) hhw, OwnN.mono (OwnN.typ ((OwnN.typB cx ah.grw az (by decide)).grown0 V.grw) an ap (by decide)) hhw⟩ aq (fun S e => (N3 cz e).2)), cy, br, rfl, rfl, a9, di, (low1 bg an (by omega))⟩
 have ea := of_decide_eq_false ba
 exact Yo (Yx (Yx (Jm (Xo (Xa (wpo_move (v := .slice (pa Bt) ys.length ct) cc Z (wpo_assign (v := .slice (pa Bt) ys.length ct) Z Z (wpo_nil (Xm (⟨.slice (pa Bt) ys.length ct, res1 Z Z, Bt, ct, ys, Z, Z7 hyt (by omega), hlBt, hOt, hRO, am⟩))))))))))
end Go.Dw.J
end
section
namespace Go.Dw.J
open Go.Dw Go.RowKit
open Go.Conc (G)
set_option linter.unusedVariables false
set_option linter.unusedSimpArgs false
set_option linter.unusedSectionVars false
inductive Tree
  | stop
  | node (kids : World → Tree)
def Tree.Kid (t' t : Tree) : Prop := ∃ k w, t = .node k ∧ t' = k w
theorem Sk : ∀ t : Tree, Acc Tree.Kid t
  | .stop => ⟨_, fun _ ⟨_, _, h, _⟩ => by cases h⟩
  | .node k => ⟨_, fun _ ⟨k', w, h, h'⟩ => by cases h; subst h'; exact Sk (k w)⟩
def chain : Nat → Tree
  | 0 => .stop
  | n + 1 => .node fun _ => chain n
theorem Gq (n : Nat) : Tree.Kid (chain n) (chain (n + 1)) := ⟨fun _ => chain n, default, rfl, rfl⟩
section
variable [Comp] {P : Program}
def Let (A w A' w' : World) (es : Array Event) : Prop := (A'.tape = A.tape ∧ Turns A w A' w' ∧ ∀ e ∈ es, EvOk A' e) ∨ Comp.sp A w A' w' es
def Fits (P : Program) (Stop : Goroutine → World → Prop) : Tree → Goroutine → World → Prop
  | .stop, g, A => Stop g A
  | .node k, g, A => g.status = .running ∧ ∀ w, Sees A w → Comp.inv A w → ∃ g' A' w' es, stepG P Comp.main g w = .go g' w' es ∧ Sees A' w' ∧ Let A w A' w' es ∧ ∃ A0, Ext A0 A' ∧ A'.tape = A0.tape ∧ Fits P Stop (k w) g' A0
def GoJ (P : Program) (Stop : Goroutine → World → Prop) (g : Goroutine) (A : World) : Prop := ∃ T A0, Ext A0 A ∧ A.tape = A0.tape ∧ Fits P Stop T g A0
theorem Zc {Stop : Goroutine → World → Prop} {g : Goroutine} {A : World} (h : Stop g A) : GoJ P Stop g A := ⟨.stop, A, Ext.refl A, rfl, h⟩
theorem Ta {Stop : Goroutine → World → Prop} (hok : Comp.ok (GoJ P Stop)) : Closed P (GoJ P Stop) := by
  refine ⟨fun g A h => ?_, fun g A A1 he ht ⟨T, A0, h1, h2, h3⟩ => ⟨T, A0, h1.trans he, ht.trans h2, h3⟩, hok⟩
  obtain ⟨hr, h⟩ := h
  have hch : ∀ w, ∃ T : Tree, Sees A w → Comp.inv A w → ∃ g' A' w' es, stepG P Comp.main g w = .go g' w' es ∧ Sees A' w' ∧ Let A w A' w' es ∧ ∃ A0, Ext A0 A' ∧ A'.tape = A0.tape ∧ Fits P Stop T g' A0 := fun w => by
    by_cases hs : Sees A w
    · by_cases hi : Comp.inv A w
      · obtain ⟨g', A', w', es, h1, h2, h3, T, A0, h4, h5, h6⟩ := h w hs hi
        exact ⟨T, fun _ _ => ⟨g', A', w', es, h1, h2, h3, A0, h4, h5, h6⟩⟩
      · exact ⟨.stop, fun _ h => absurd h hi⟩
    · exact ⟨.stop, fun h => absurd h hs⟩
  exact ⟨.node fun w => (hch w).choose, A, Ext.refl A, rfl, hr, fun w hs hi => (hch w).choose_spec hs hi⟩
end
def mkT (l : List Nat) : Tape := fun i _ => l.getD i 0
end Go.Dw.J
end
section
namespace Go.Dw.J
open Go.Dw Go.RowKit
open Go.Conc (G)
set_option linter.unusedVariables false
set_option linter.unusedSimpArgs false
set_option linter.unusedSectionVars false
section
variable [Comp] {P : Program}
def EntryR (P : Program) (k : FuncId) (args : Array Value) (A : World) (R : Value → World → Prop) : Prop := ∀ (ops : Array Oper) (o : Oper), Special P ops o (callFunc k args) A R
theorem J6 {k : FuncId} {fn : Func} {args : Array Value} {A : World} {R : Value → World → Prop} {e : Array Value → Sem Value} (hf : P.funcs[k]? = some fn) (hname : (fn.name == "runtime.NumGoroutine") = false) (hb : fn.body.isNone = true) (hn : Extern.findNext fn = none) (he : Extern.find fn = some e)
    (h : ∀ w, Sees A w → Comp.inv A w → ∃ v A' w' evs, (e args).run P w = .ok v w' ∧ (e args).events P w #[⟨.mark (.extern k), false, true⟩] = #[⟨.mark (.extern k), false, true⟩] ++ evs ∧ (∀ x ∈ evs, x.sync = true ∧ ∀ g, x.loc ≠ .mark (.extern g)) ∧ Sees A' w' ∧ Let A w A' w' evs ∧ R v A') :
    EntryR P k args A R := fun ops o J hJ b hbk i rest kk cs a o' ho hd hw hs hk => by
  refine hJ.step _ _ ⟨rfl, fun w h1 h2 => ?_⟩
  obtain ⟨v, A', w', evs, h3, h4, h5, h6, h7, h8⟩ := h w h1 h2
  have hr : (execOp a.eval o').run P w = .ok (.value v) w' := by rw [hs, Go.run_callFunc_extern hf hname hb hn he, h3]; rfl
  refine ⟨_, A', w', evs, ?_, h6, h7, hk v A' h8⟩
  rw [Kl ho hw hbk hr, hd]
  unfold Go.Conc.listed
  rw [hs, Go.Conc.events_callFunc_extern hf hname hb hn he]
  simp only [List.push_toArray, List.nil_append]
  rw [h4, Go.Conc.seen_entry _ _ _ h5]
variable {n : Nat} {ops : Array Oper} {K : Fr → World → Prop} {l : List Oper} {f : Fr} {w : World} {ty : TypeId} {pos : String} {aft : Array Edge} {d : Nat}
theorem Q4 {k : FuncId} {args : Array Operand} {tys : Array TypeId} {vs : List Value} {R : Value → World → Prop} (ha : args.toList.map (ev f) = vs) (hd : Nat.blt d n = true) (hc : EntryR P k vs.toArray w R)
    (h : ∀ v w', R v w' → WpO P n ops K l (up f d v) w') : WpO P n ops K (⟨some d, .call ⟨.value (.func k), args, tys⟩, ty, pos, aft, none⟩ :: l) f w := fun a hfa => by
  have e1 : args.map (ev f) = vs.toArray := by rw [← ha]; apply Array.ext'; simp
  have e2 : execOp a.eval ⟨some d, .call ⟨.value (.func k), args, tys⟩, ty, pos, aft, none⟩ = callFunc k vs.toArray := by
    rw [Go.Conc.execOp_call_func (a := a) rfl, hfa.eval, e1]
  exact Or.inl ⟨by simp [Region.wanted], Or.inr ⟨R, by rw [e2]; exact hc ops _, fun v A' hR => ⟨_, hfa.put hd v, h v A' hR⟩⟩⟩
end
end Go.Dw.J
end
section
namespace Go.Dw.J
open Go.Dw Go.RowKit
open Go.Conc (G crowd Past Leavers EvL Deaf_other mem_ofEvents crowd_pick awake_of woken_quitsD woken_run runT_crowd_go runT_many_ended Deaf_own)
open Go.ConcN (sumTo upd sumTo_upd upd_ne upd_same)
set_option linter.unusedVariables false
set_option linter.unusedSimpArgs false
set_option linter.unusedSectionVars false
def Runs (P : Program) (Post : Value → World → Prop) (m : Machine) (t : Trace) : Prop :=
  ∃ N last o w' t', runNT P (N + 1) m t = (.ended o w', t') ∧ runN P N m = .next last ∧ step P last = .ended o w' ∧ Go.Conc.Good P Post last o w' t'
theorem Runs.step {P : Program} {Post : Value → World → Prop} {m m' : Machine} {t : Trace} {ops : Array MemOp} (hs : stepT P m = (.next m', ops)) (h : Runs P Post m' (t ++ ops)) : Runs P Post m t := by
  obtain ⟨N, last, o, w', t', h1, h2, h3, h4⟩ := h
  exact ⟨N + 1, last, o, w', t', by rw [runNT_succ_next hs]; exact h1, by rw [runN_succ_next hs]; exact h2, h3, h4⟩
theorem Hq {A w : World} (h : Sees A w) (d : Nat) : Sees A (w.at d) := ⟨h.os, h.output, h.size, h.vis, h.nv⟩
class KeepD where
  B0 : Nat
  Wi : World
def Keep [KeepD] (A w : World) : Prop := KeepD.B0 ≤ w.heap.size ∧ ∀ b, b < KeepD.B0 → (Seen A b ∧ A.heap[b]? = w.heap[b]?) ∨ (¬ Seen A b ∧ w.heap[b]? = KeepD.Wi.heap[b]?)
theorem Keep.turns [KeepD] {A w A' w' : World} (h : Keep A w) (hT : Turns A w A' w') : Keep A' w' :=
  ⟨Nat.le_trans h.1 hT.le, fun b hb => (h.2 b hb).elim (fun ⟨h1, h2⟩ => .inl ⟨hT.see b h1, hT.eq b h1 h2⟩) fun ⟨h1, h2⟩ => .inr ⟨(hT.hid b (Nat.lt_of_lt_of_le hb h.1) h1).2, (hT.hid b (Nat.lt_of_lt_of_le hb h.1) h1).1.trans h2⟩⟩
def inBlk (b : Nat) : Loc → Prop
  | .cell a => a.block = b
  | .obj r => r = b
  | _ => False
structure BesInv [KeepD] (P : Program) (g : Goroutine) (A : World) (gs : Array Goroutine) (w : World) (t : Trace) (q : Nat → Nat) (Shun : Loc → Prop) : Prop where
  at0 : gs[0]? = some g
  tape : A.tape = mkT []
  gsz : ∀ op ∈ t, op.g < gs.size
  sees : Sees A w
  old : Leavers P t gs q
  past : Past Shun w.heap.size t
  quiet : Go.Conc.Quiet Shun t
  hid : ∀ l b, Shun l → inBlk b l → b < w.heap.size ∧ ¬ Seen A b
  lies : ∀ l, Shun l → ∃ b, inBlk b l
  keep : Keep A w
def Bes [KeepD] (P : Program) (Post : Value → World → Prop) (g : Goroutine) (A : World) : Prop :=
  ∀ gs w sl t q Shun, BesInv P g A gs w t q Shun → Runs P Post (crowd gs w sl) t
theorem Ww {t : Trace} {n g : Nat} {fn : FuncId} {pos : String} {es : Array Event} (h : ∀ op ∈ t, op.g < n) (hg : g < n) : ∀ op ∈ t ++ MemOp.ofEvents g fn pos es, op.g < n := fun op hop => by
  rcases Array.mem_append.1 hop with h1 | h1
  · exact h op h1
  · obtain ⟨e, _, rfl⟩ := Go.Conc.mem_ofEvents h1
    exact hg
theorem Wv {A w : World} {e : Event} {Shun : Loc → Prop} (h : EvOk A e) (hA : A.heap.size ≤ w.heap.size) (hS : ∀ l b, Shun l → inBlk b l → ¬ Seen A b) : EvL Shun w.heap.size e ∧ ∀ x, (MemAct.ofEvent e).touch? = some x → ¬ Shun x.loc := by
  cases h with
  | read h =>
    rename_i a
    have hn : ¬ Shun (.cell a) := fun hs => hS _ a.block hs rfl h
    refine ⟨⟨fun x hx hs => ?_, by simp, by simp, Nat.lt_of_lt_of_le h.1 hA⟩, fun x hx => ?_⟩ <;> (simp [MemAct.ofEvent, MemAct.touch?] at hx; subst hx)
    · exact absurd hs hn
    · exact hn
  | write h h2 =>
    rename_i a
    have hn : ¬ Shun (.cell a) := fun hs => hS _ a.block hs rfl h
    refine ⟨⟨fun x hx hs => ?_, by simp, by simp, Nat.lt_of_lt_of_le h.1 hA⟩, fun x hx => ?_⟩ <;> (simp [MemAct.ofEvent, MemAct.touch?] at hx; subst hx)
    · exact absurd hs hn
    · exact hn
  | obj h h2 =>
    rename_i r wr
    have hn : ¬ Shun (.obj r) := fun hs => hS _ r hs rfl h
    have e : MemAct.ofEvent ⟨.obj r, wr, false⟩ = .access ⟨.obj r, wr, false⟩ := by cases wr <;> rfl
    refine ⟨⟨fun x hx hs => ?_, by simp, by simp, by rw [e]; exact Nat.lt_of_lt_of_le h.1 hA⟩, fun x hx => ?_⟩ <;> (rw [e] at hx; simp [MemAct.touch?] at hx; subst hx)
    · exact absurd hs hn
    · exact hn
  | room => exact ⟨⟨fun x hx => by simp [MemAct.ofEvent, MemAct.touch?] at hx, by simp, by simp, trivial⟩, fun x hx => by simp [MemAct.ofEvent, MemAct.touch?] at hx⟩
end Go.Dw.J
end
section
namespace Go.Dw.J
open Go.Dw Go.RowKit
open Go.Conc (G crowd Past Leavers EvL Deaf Deaf_other mem_ofEvents crowd_pick awake awake_of woken woken_quitsD woken_run runT_crowd_go runT_many_ended Deaf_own)
open Go.ConcN (sumTo upd sumTo_upd upd_ne upd_same)
set_option linter.unusedVariables false
set_option linter.unusedSimpArgs false
set_option linter.unusedSectionVars false
@[instance_reducible] def comp0 (OK : (Goroutine → World → Prop) → Prop) : Comp := { main := true, inv := fun _ _ => True, sp := fun _ _ _ _ _ => False, ok := OK }
section
variable {P : Program} {Post : Value → World → Prop}
theorem Keep.ext [KeepD] {A A1 w : World} (h : Keep A1 w) (he : Ext A A1) : Keep A w := ⟨h.1, fun b hb => (h.2 b hb).elim (fun ⟨h1, h2⟩ => by
    have h3 : Seen A b := by
      obtain ⟨h4, h5⟩ := h1
      rcases Nat.lt_or_ge b A.heap.size with h6 | h6
      · exact ⟨h6, by rw [← he.get h6]; exact h5⟩
      · exact absurd (he.new h6 h4) h5
    exact .inl ⟨h3, (he.get h3.1).symm.trans h2⟩) fun ⟨h1, h2⟩ => .inr ⟨fun h3 => h1 ⟨Nat.lt_of_lt_of_le h3.1 he.size, by rw [he.get h3.1]; exact h3.2⟩, h2⟩⟩
theorem Of {A w A' w' : World} (h : Turns A w A' w') {Shun : Loc → Prop} (hS : ∀ l b, Shun l → inBlk b l → b < w.heap.size ∧ ¬ Seen A b) : ∀ l b, Shun l → inBlk b l → b < w'.heap.size ∧ ¬ Seen A' b := fun l b h1 h2 =>
  ⟨Nat.lt_of_lt_of_le (hS l b h1 h2).1 h.le, (h.hid b (hS l b h1 h2).1 (hS l b h1 h2).2).2⟩
theorem Uk {Shun : Loc → Prop} {t : Trace} {g : Nat} {fn : FuncId} {pos : String} {es : Array Event} (h : Go.Conc.Quiet Shun t) (hes : ∀ e ∈ es, ∀ x, (MemAct.ofEvent e).touch? = some x → ¬ Shun x.loc) : Go.Conc.Quiet Shun (t ++ MemOp.ofEvents g fn pos es) :=
  h.app fun op hop x hx hs => by
    obtain ⟨e, he, rfl⟩ := Go.Conc.mem_ofEvents hop
    exact absurd hs (hes e he x hx)
theorem Ti {e : Event} (h : e.mute = true) : (MemAct.ofEvent e).touch? = none := Go.Conc.touch_mute h
def Next0 (P : Program) (Post : Value → World → Prop) (gs : Array Goroutine) (w : World) (sl : Option (Nat × Nat)) (t : Trace) : Prop :=
  (∃ m ops, runT P (crowd gs w sl) 0 = (.next m, ops) ∧ Runs P Post m (t ++ ops)) ∨ (∃ o w' ops, runT P (crowd gs w sl) 0 = (.ended o w', ops) ∧ ∀ w0 sl0, Go.Conc.Good P Post (crowd gs w0 sl0) o w' (t ++ ops))
theorem Vm {gs : Array Goroutine} {w w1 : World} {sl sl1 : Option (Nat × Nat)} {t : Trace} (hst : stepT P (crowd gs w sl) = runT P (crowd gs w1 sl1) 0) (h : Next0 P Post gs w1 sl1 t) : Runs P Post (crowd gs w sl) t := by
  rcases h with ⟨m, ops, h1, h2⟩ | ⟨o, w', ops, h1, h2⟩
  · exact Runs.step (hst.trans h1) h2
  · have hs := hst.trans h1
    exact ⟨0, _, o, w', t ++ ops, by simp [runNT, hs], rfl, by simp [step, hs], h2 w sl⟩
variable [KeepD]
theorem H1 {g : Goroutine} {A : World} (hr : g.status = .running) (h : ∀ gs w sl t q Shun, BesInv P g A gs w t q Shun → Next0 P Post gs w sl t) : Bes P Post g A := by
  have key : ∀ (M : Nat) (gs : Array Goroutine) (w : World) (sl : Option (Nat × Nat)) (t : Trace) (q : Nat → Nat) (Shun : Loc → Prop), sumTo gs.size q ≤ M → BesInv P g A gs w t q Shun → Runs P Post (crowd gs w sl) t := by
    intro M
    induction M with
    | zero =>
      intro gs w sl t q Shun hM I
      have haw : ∀ x ∈ gs, awake x := by
        intro x hx
        obtain ⟨i, hi, rfl⟩ := Array.mem_iff_getElem.1 hx
        rcases Nat.eq_zero_or_pos i with rfl | hpos
        · have : gs[0] = g := by simpa [Array.getElem?_eq_getElem hi] using I.at0
          rw [this]; exact awake_of (.inl hr)
        · exact awake_of ((I.old.old i _ hpos (Array.getElem?_eq_getElem hi)).status.elim .inl fun x => .inr (.inr x))
      obtain ⟨i, x, d, sl', hi, hg, hst⟩ := crowd_pick (P := P) (w := w) (sl := sl) haw ⟨0, g, I.at0, hr⟩
      rcases Nat.eq_zero_or_pos i with rfl | hpos
      · exact Vm hst (h gs (w.at d) sl' t q Shun ⟨I.at0, I.tape, I.gsz, Hq I.sees d, I.old, I.past, I.quiet, I.hid, I.lies, I.keep⟩)
      · have hq := I.old.old i x hpos hi
        have hlt : i < gs.size := (Array.getElem?_eq_some_iff.1 hi).1
        have hle := Go.ConcN.le_sumTo (f := q) hlt
        have h0 : q i = 0 := by omega
        rw [h0] at hq
        rw [hq.1] at hg; cases hg
    | succ M ih =>
      intro gs w sl t q Shun hM I
      have haw : ∀ x ∈ gs, awake x := by
        intro x hx
        obtain ⟨i, hi, rfl⟩ := Array.mem_iff_getElem.1 hx
        rcases Nat.eq_zero_or_pos i with rfl | hpos
        · have : gs[0] = g := by simpa [Array.getElem?_eq_getElem hi] using I.at0
          rw [this]; exact awake_of (.inl hr)
        · exact awake_of ((I.old.old i _ hpos (Array.getElem?_eq_getElem hi)).status.elim .inl fun x => .inr (.inr x))
      obtain ⟨i, x, d, sl', hi, hg, hst⟩ := crowd_pick (P := P) (w := w) (sl := sl) haw ⟨0, g, I.at0, hr⟩
      rcases Nat.eq_zero_or_pos i with rfl | hpos
      · exact Vm hst (h gs (w.at d) sl' t q Shun ⟨I.at0, I.tape, I.gsz, Hq I.sees d, I.old, I.past, I.quiet, I.hid, I.lies, I.keep⟩)
      · have hq := I.old.old i x hpos hi
        have hi0 : (i == 0) = false := by simp; omega
        have hlt : i < gs.size := (Array.getElem?_eq_some_iff.1 hi).1
        cases hqi : q i with
        | zero => rw [hqi] at hq; rw [hq.1] at hg; cases hg
        | succ k =>
          rw [hqi] at hq
          rcases hq with ⟨hf, _⟩ | ⟨_, g', es, hm, hstp, hq'⟩
          · rw [hf] at hg; cases hg
          have hrunT := runT_crowd_go (P := P) (sl := sl') (i := i) hi (by rw [hi0]; exact hstp (w.at d))
          have hsz : ((gs.map (woken P x g' (w.at d))).setIfInBounds i g').size = gs.size := by simp
          have hsum : sumTo gs.size (upd q i k) + (k + 1) = sumTo gs.size q + k := by
            have := sumTo_upd q k id hlt
            simpa [hqi] using this
          refine Runs.step (hst.trans hrunT) (ih _ _ _ _ (upd q i k) Shun (by rw [hsz]; omega) ⟨?_, I.tape, Ww (by rw [hsz]; exact I.gsz) (by rw [hsz]; exact hlt), Hq I.sees d, ⟨fun j y hj hy => ?_, fun j hj => ?_⟩, I.past.mute (by omega) hm, Uk I.quiet (fun e he x hx => by rw [Ti (hm e he)] at hx; cases hx), I.hid, I.lies, I.keep⟩)
          · have hne : i ≠ 0 := by omega
            rw [Array.getElem?_setIfInBounds_ne hne, Array.getElem?_map, I.at0]
            simp [woken_run hr]
          · by_cases hji : i = j
            · subst hji
              rw [Array.getElem?_setIfInBounds_self_of_lt (by simpa using hlt)] at hy
              obtain rfl := Option.some.inj hy
              rw [upd_same, Deaf_own]
              exact hq'
            · rw [Array.getElem?_setIfInBounds_ne hji, Array.getElem?_map] at hy
              obtain ⟨z, hz, rfl⟩ := Option.map_eq_some_iff.1 hy
              have hqj := I.old.old j z hj hz
              rw [woken_quitsD hqj, upd_ne q k (Ne.symm hji), Deaf_other t hji _ (fun op hop => by obtain ⟨e, _, rfl⟩ := Go.Conc.mem_ofEvents hop; rfl)]
              exact hqj
          · rw [Deaf_other t (g' := i) (by simp at hj; omega) _ (fun op hop => by obtain ⟨e, _, rfl⟩ := Go.Conc.mem_ofEvents hop; rfl)]
            exact I.old.above j (by simpa using hj)
  exact fun gs w sl t q Shun I => key _ gs w sl t q Shun (Nat.le_refl _) I
theorem Kx (OK : (Goroutine → World → Prop) → Prop) (hok : OK (Bes P Post)) : @Closed (comp0 OK) P (Bes P Post) := by
  letI := comp0 OK
  refine ⟨fun g A ⟨hr, h⟩ => H1 hr fun gs w sl t q Shun I => ?_, fun g A A1 he ht hJ gs w sl t q Shun I => hJ gs w sl t q Shun ⟨I.at0, ht.symm.trans I.tape, I.gsz, I.sees.ext he, I.old, I.past, I.quiet, fun l b h1 h2 => ⟨(I.hid l b h1 h2).1, fun hs => (I.hid l b h1 h2).2 ⟨Nat.lt_of_lt_of_le hs.1 he.size, by rw [he.get hs.1]; exact hs.2⟩⟩, I.lies, I.keep.ext he⟩, hok⟩
  obtain ⟨g', A', w', es, h1, h2, h3, h4⟩ := h w I.sees trivial
  rcases h3 with ⟨hta, hT, hE⟩ | h3
  · have hrunT := runT_crowd_go (P := P) (sl := sl) (i := 0) I.at0 (show stepG P (0 == 0) g w = _ from h1)
    have hlt : 0 < gs.size := (Array.getElem?_eq_some_iff.1 I.at0).1
    have hid' := Of hT I.hid
    have hev := fun e he => Wv (hE e he) h2.size (Shun := Shun) fun l b x y => (hid' l b x y).2
    refine Or.inl ⟨_, _, hrunT, h4 _ _ _ _ q Shun ⟨by simp [hlt], hta.trans I.tape, Ww (by simpa using I.gsz) (by simpa using hlt), h2, ⟨fun j x hj hx => ?_, fun j hj => ?_⟩, (I.past.mono hT.le).own fun e he => (hev e he).1, Uk I.quiet fun e he => (hev e he).2, hid', I.lies, I.keep.turns hT⟩⟩
    · have hne : 0 ≠ j := by omega
      rw [Array.getElem?_setIfInBounds_ne hne, Array.getElem?_map] at hx
      obtain ⟨y, hy, rfl⟩ := Option.map_eq_some_iff.1 hx
      have hq := I.old.old j y hj hy
      rw [woken_quitsD hq, Deaf_other t (by omega) _ (fun op hop => by obtain ⟨e, _, rfl⟩ := Go.Conc.mem_ofEvents hop; rfl)]
      exact hq
    · rw [Deaf_other t (g' := 0) (by simp at hj; omega) _ (fun op hop => by obtain ⟨e, _, rfl⟩ := Go.Conc.mem_ofEvents hop; rfl)]
      exact I.old.above j (by simpa using hj)
  · exact h3.elim
theorem Xat {g : Goroutine} {A : World} {v : Value} (hr : g.status = .running) (h : ∀ w, Sees A w → Keep A w → ∃ w' es, stepG P true g w = .ended (.done v) w' es ∧ (∀ e ∈ es, EvOk A e) ∧ Post v w') : Bes P Post g A :=
  H1 hr fun gs w sl t q Shun I => by
    obtain ⟨w', es, h1, h2, h3⟩ := h w I.sees I.keep
    have hrunT := runT_many_ended (P := P) (sl := sl) (i := 0) I.at0 (show stepG P (0 == 0) g w = _ from h1)
    have hev := fun e he => Wv (h2 e he) I.sees.size (Shun := Shun) fun l b x y => (I.hid l b x y).2
    have hP' := I.past.own (fn := g.frame.fn) (pos := g.frame.place) (es := es) fun e he => (hev e he).1
    refine Or.inr ⟨_, _, _, hrunT, fun w0 sl0 => ⟨v, rfl, h3, hP'.clean, hP'.over, ⟨fun x hx => ?_, rfl⟩, fun j x hx hj => ?_⟩⟩
    · obtain ⟨j, hj⟩ := List.mem_iff_getElem?.1 hx
      rw [List.getElem?_drop] at hj
      exact ⟨_, (I.old.old (1 + j) x (by omega) (by simpa [crowd] using hj)).leaves⟩
    · have hq := I.old.old j x (by omega) hx
      refine ⟨q j, ?_⟩
      have e : (t ++ MemOp.ofEvents 0 g.frame.fn g.frame.place es).deaf j (t ++ MemOp.ofEvents 0 g.frame.fn g.frame.place es).size = Deaf t j :=
        Deaf_other t (g := j) (g' := 0) (by omega) _ (fun op hop => by obtain ⟨e, _, rfl⟩ := Go.Conc.mem_ofEvents hop; rfl)
      rw [e]
      exact hq.hears _
end
end Go.Dw.J
end
section
namespace Go.Dw.J
open Go.Dw Go.RowKit
open Go.Conc (G crowd solo Past Leavers)
set_option linter.unusedVariables false
set_option linter.unusedSimpArgs false
set_option linter.unusedSectionVars false
def seeO : Obj → Obj
  | .view _ _ => pz
  | o => o
def seeAll (W : World) : World := { W with heap := W.heap.map seeO, tape := mkT [] }
theorem J8 (W : World) (b : Nat) : (seeAll W).heap[b]? = (W.heap[b]?).map seeO := by simp [seeAll]
theorem Sd (W : World) : Sees (seeAll W) W := by
  refine ⟨rfl, rfl, by simp [seeAll], fun b hb => ?_, fun b at_ u e => ?_⟩
  · rw [J8]
    cases h : W.heap[b]? with
    | none => exact Or.inl rfl
    | some o => cases o <;> first | exact Or.inl rfl | exact Or.inr (Or.inl rfl)
  · rw [J8] at e
    cases h : W.heap[b]? with
    | none => rw [h] at e; cases e
    | some o => rw [h] at e; cases o <;> cases e
theorem Pf {W : World} {b : Nat} {c : Array Value} {T : TypeId} {fr : Nat × Nat} (h : W.heap[b]? = some (.cells c T fr)) : (seeAll W).heap[b]? = some (.cells c T fr) := by
  rw [J8, h]; rfl
theorem Sb {W : World} {a : Addr} {v : Value} (h : W.cell? a = some v) : (seeAll W).cell? a = some v := by
  obtain ⟨c, T, fr, h1, h2, h3⟩ := Ky h
  exact Uu (Pf h1) h2 h3
section
variable [KeepD] {P : Program} {Post : Value → World → Prop}
theorem Tx {g : Goroutine} {W : World} (hk : Keep (seeAll W) W) (h : Bes P Post g (seeAll W)) : Runs P Post (solo g W) #[] := by
  rw [Go.Conc.solo_eq_crowd]
  exact h #[g] W none #[] (fun _ => 0) (fun _ => False) ⟨rfl, rfl, by simp, Sd W, Go.Conc.leavers_one P g, Go.Conc.past_nil.mono (Nat.zero_le _), fun i op x hi => by simp at hi, fun l b h => h.elim, fun l h => h.elim, hk⟩
theorem Xav (OK : (Goroutine → World → Prop) → Prop) (hok : OK (Bes P Post)) {k : FuncId} {fn : Func} {c : Code} {args : Array Value} {A : World} {R : Value → World → Prop} {n : Nat}
    (hf : P.funcs[k]? = some fn) (hb : fn.body = some c) (hn : fn.ntmps = n) (hs : Nat.ble args.size n = true) (hin : P.inits.idxOf? k = none) (hpost : ∀ v A' w, R v A' → Sees A' w → Keep A' w → Post v w)
    (h : @Wpf (comp0 OK) P n (endQ P fn R) c (f0 args) A) : Bes P Post (G (Frame.enter P k args .normal) []) A := by
  letI := comp0 OK
  have hJ : Closed P (Bes P Post) := Kx OK hok
  have hs' : args.size ≤ n := by simpa [Nat.ble_eq] using hs
  rw [Go.Conc.enter_at args hf hb, ← Hz (b := Go.Conc.base k) rfl rfl]
  have leave : ∀ (a' : Act) (f' : Fr) (A' : World) (todo : List Item), FEq n a' f' → (∃ v, resV P fn f' A' v ∧ R v A') → Bes P Post (G { ato (Go.Conc.base k) a' todo with mode := .returning } []) A' := fun a' f' A' todo hf' ⟨v, hv, hR⟩ => by
    refine Xat (v := v) rfl fun w hsee hkeep => ?_
    have hr := hv (runW A' w) (Qi A' w) _ hf'.at_
    have h1 := Sem.runT_fst P (results fn a'.tmps) (runW A' w) #[]
    rw [hr] at h1
    obtain ⟨w', k1, k2, k3, k4⟩ := frame (results fn a'.tmps) (Nc fn a'.tmps) hsee.hid (x := v) (A' := runW A' w) (es' := ((results fn a'.tmps).runT P (runW A' w) #[]).2) (Prod.ext h1 rfl)
    obtain ⟨e1, e2⟩ := Gu k1
    refine ⟨w', seen P k ((results fn a'.tmps).runT P (runW A' w) #[]).2, ?_, fun e he => ?_, hpost v A' w' hR (Sees.ext k2.sees (Qi A' w)) ((hkeep.turns (Ur hsee k3 k2)).ext (Qi A' w).norm)⟩
    · have hd : a'.defers = [] := hf'.defers
      have hd0 : (default : Frame).defers = [] := rfl
      simp [G, stepG, unwind, doReturn, ato, Go.Conc.base, hd, hd0, hf, e1, e2, GStep.after, hin]
    · have h5 := Go.Conc.mem_seen he
      obtain ⟨r, h6, h7⟩ := k4
      rw [h6] at h5
      have h8 := h7 e (by simpa using h5)
      cases h8 with
      | read h => exact .read ((Um _).1 h)
      | write h h2 => exact .write ((Um _).1 h) (fun x => h2 (Tv x))
      | obj h h2 => exact .obj ((Um _).1 h) (fun x => h2 (Tv x))
      | room => exact .room
  refine h (Bes P Post) hJ (Go.Conc.base k) (by simp [Go.Conc.base]) [] [] _ ⟨rfl, by simp [hn]; omega, fun i => ?_⟩ fun e a' f' A' hf' hQ => ?_
  · simp only [f0, Ux, Array.getD_eq_getD_getElem?, Array.getElem?_toList]
    by_cases hi : i < args.size
    · rw [Array.getElem?_append_left hi]
    · rw [Array.getElem?_append_right (by omega), Array.getElem?_eq_none (by omega : args.size ≤ i)]
      by_cases h2 : i - args.size < fn.ntmps - args.size
      · simp [h2]
      · rw [Array.getElem?_eq_none (by simp; omega)]
  · cases e with
    | normal => exact hJ.move rfl (fun w => Gx rfl) (leave a' f' A' _ hf' hQ)
    | ret => exact fun k2 => hJ.move rfl (fun w => Vs rfl) (leave a' f' A' _ hf' hQ)
    | exit i => exact hQ.elim
    | goto l => exact hQ.elim
    | panic c => exact hQ.elim
    | outgrown => exact hQ.elim
end
end Go.Dw.J
end
section
namespace Go.Dw.J
open Go.Dw Go.RowKit
open Go.Conc (G)
set_option linter.unusedVariables false
set_option linter.unusedSimpArgs false
set_option linter.unusedSectionVars false
def RBlk (w : World) (b : Nat) (T : TypeId) (cs : Array Value) : Prop := ∃ fr, w.heap[b]? = some (.cells cs T fr)
section
variable {w w' : World} {b : Nat} {T : TypeId} {cs : Array Value}
theorem RBlk.lt (h : RBlk w b T cs) : b < w.heap.size := let ⟨_, e⟩ := h; (Array.getElem?_eq_some_iff.1 e).1
theorem RBlk.cell (h : RBlk w b T cs) {i : Nat} {v : Value} (hv : cs[i]? = some v) : w.cell? ⟨b, i, none⟩ = some v := let ⟨_, e⟩ := h; Uu e rfl hv
theorem RBlk.range (h : RBlk w b T cs) {o : Nat} {vs : List Value} (hv : ∀ j v, vs[j]? = some v → cs[o + j]? = some v) : w.rangeAt b o vs := fun j v hj => h.cell (hv j v hj)
theorem RBlk.grown (h : RBlk w b T cs) {r : Option Nat} (hg : w.grownBy w' r) (hne : some b ≠ r) : RBlk w' b T cs := let ⟨fr, e⟩ := h; ⟨fr, (hg.block b h.lt hne).trans e⟩
theorem RBlk.grown0 (h : RBlk w b T cs) (hg : w.grownBy w' none) : RBlk w' b T cs := h.grown hg (by simp)
theorem RBlk.rangeL (h : RBlk w b T cs) (o k : Nat) {vs : List Value} (e : (cs.toList.drop o).take k = vs) : w.rangeAt b o vs :=
  h.range fun j v hj => by
    rw [← e, List.getElem?_take] at hj
    split at hj
    · rw [List.getElem?_drop] at hj; simpa using hj
    · cases hj
end
def g0 (A : World) : Nat := A.tape 0 .zeroSizeEq
def putRow (cs : Array Value) (sz k : Nat) (vs : List Value) : Array Value := (cs.toList.take (k * sz) ++ vs ++ cs.toList.drop (k * sz + sz)).toArray
def blind (A : World) : World := { A with heap := Array.replicate A.heap.size pz, tape := mkT [1] }
theorem S0 {A w w' : World} (h : Sees A w) (ho : w'.os = w.os) (hp : w'.output = w.output) (hs : w.heap.size ≤ w'.heap.size) : Sees (blind A) w' := by
  refine ⟨h.os.trans ho.symm, h.output.trans hp.symm, ?_, fun b hb => Or.inr (Or.inl ?_), fun b at_ u e => ?_⟩
  · simpa [blind] using Nat.le_trans h.size hs
  · have : b < A.heap.size := by simpa [blind] using hb
    simp [blind, this]
  · by_cases hb : b < A.heap.size
    · simp [blind, hb, pz] at e
    · simp [blind, hb] at e
theorem Sy {A : World} {b : Nat} : ¬ Seen (blind A) b := by
  rintro ⟨h1, h2⟩
  have : b < A.heap.size := by simpa [blind] using h1
  exact h2 (by simp [blind, this])
def hideB (A : World) (b : Nat) : World := { A with heap := A.heap.setIfInBounds b pz }
theorem Kh {A : World} {b c : Nat} (h : c ≠ b) : (hideB A b).heap[c]? = A.heap[c]? := by simp [hideB, Array.getElem?_setIfInBounds_ne (Ne.symm h)]
theorem La {A w : World} (h : Sees A w) (b : Nat) : Sees (hideB A b) w := by
  refine ⟨h.os, h.output, by simpa [hideB] using h.size, fun c hc => ?_, fun c at_ u e => ?_⟩
  · by_cases e : c = b
    · subst e
      exact Or.inr (Or.inl (by simp [hideB] at hc; simp [hideB, hc]))
    · rw [Kh e]; exact h.vis c (by simpa [hideB] using hc)
  · by_cases e2 : c = b
    · subst e2
      by_cases hc : c < A.heap.size
      · simp [hideB, hc, pz] at e
      · simp [hideB, hc] at e
    · rw [Kh e2] at e; exact h.nv _ _ _ e
theorem J7 {A : World} {b c : Nat} (h : Seen (hideB A b) c) : Seen A c ∧ c ≠ b := by
  obtain ⟨h1, h2⟩ := h
  have h3 : c < A.heap.size := by simpa [hideB] using h1
  by_cases e : c = b
  · subst e; exact absurd (by simp [hideB, h3]) h2
  · rw [Kh e] at h2; exact ⟨⟨h3, h2⟩, e⟩
structure RowStep (C n sz k : Nat) (TT : TypeId) (Out : List Value → World → Prop) (bx : Nat) (val : Value) (ety : TypeId) (A w A' w' : World) (es : Array Event) : Prop where
  g0 : g0 A = 0
  new : A' = blind A
  box : A.heap[bx]? = some (.cells #[val] ety (0, 0))
  row : ∃ cs vs, w.heap[C]? = some (.cells cs TT (0, 0)) ∧ cs.size = n * sz ∧ vs.length = sz ∧ Out vs (hideB A bx) ∧ w' = w.setRow C (putRow cs sz k vs)
  evs : ∀ e ∈ es, ∃ j, j < sz ∧ e = ⟨.cell ⟨C, k * sz + j, none⟩, true, false⟩
@[instance_reducible] def compW (C n sz k : Nat) (TT : TypeId) (Out : List Value → World → Prop) (bx : Nat) (val : Value) (ety : TypeId) : Comp where
  main := false
  inv A w := g0 A = 0 → n ≠ 0 → ∃ cs, w.heap[C]? = some (.cells cs TT (0, 0)) ∧ cs.size = n * sz
  sp := RowStep C n sz k TT Out bx val ety
  ok _ := True
theorem Lk {P : Program} {C o : Nat} {T : TypeId} : ∀ (vs : List Value) (i : Nat) (cur : Array Value) (w : World) (es : Array Event), w.heap[C]? = some (.cells cur T (0, 0)) → o + i + vs.length ≤ cur.size → (∀ v ∈ vs, v.oneCell' = true) →
    ∀ e ∈ (storeCells ⟨C, o, none⟩ vs i).events P w es, e ∈ es ∨ ∃ j, j < i + vs.length ∧ e = ⟨.cell ⟨C, o + j, none⟩, true, false⟩
  | [], i, cur, w, es, _, _, _, e, he => Or.inl (by simpa [storeCells] using he)
  | v :: vs, i, cur, w, es, hb, hl, h1, e, he => by
    have hlt : o + i < cur.size := by simp at hl; omega
    have hB : Blk w C T cur := hb
    have hc := hB.cell (i := o + i) (v := cur[o + i]) (by simp [hlt])
    have ha : (⟨C, o, none⟩ : Addr).add i = ⟨C, o + i, none⟩ := Addr.add_mid _ _ _
    have hr : (store ((⟨C, o, none⟩ : Addr).add i) v).run P w = .ok () (w.setRow C (cur.setIfInBounds (o + i) v)) := by
      rw [ha, run_store P w _ v _ (h1 v (by simp)), hc]
      simp [hB.froz (o + i), setCell_eq_setRow w C (o + i) cur T (0, 0) v hb]
    have hev : (store ((⟨C, o, none⟩ : Addr).add i) v).events P w es = es.push ⟨.cell ⟨C, o + i, none⟩, true, false⟩ := by
      rw [ha, Go.events_store P w es _ v _ (h1 v (by simp)), hc]
      simp only [hB.froz (o + i), Bool.false_eq_true, if_false]
      rfl
    unfold storeCells at he
    simp only [Sem.events_bind, hr, Result.evThen_ok, hev] at he
    rcases Lk vs (i + 1) _ _ _ (Q7 hB (cur.setIfInBounds (o + i) v)).blk (by simp at hl ⊢; omega) (fun u hu => h1 u (by simp [hu])) e he with h | ⟨j, hj, h⟩
    · rcases Array.mem_push.1 h with h | h
      · exact Or.inl h
      · exact Or.inr ⟨i, by simp, h⟩
    · exact Or.inr ⟨j, by simp; omega, h⟩
theorem He {P : Program} {t k C o : Nat} {T : TypeId} {cs : Array Value} {vs : List Value} {w : World} (h : rowTy P t = some k) (hl : vs.length = k) (h1 : ∀ v ∈ vs, v.oneCell' = true) (hb : w.heap[C]? = some (.cells cs T (0, 0))) (ho : o + k ≤ cs.size) {e : Event}
    (he : e ∈ (Instr.storeAt t (.pointer (some ⟨C, o, none⟩)) (.agg vs.toArray)).events P w #[]) : ∃ j, j < k ∧ e = ⟨.cell ⟨C, o + j, none⟩, true, false⟩ := by
  obtain ⟨d, _, _, hs⟩ := K8 h
  cases hq : P.info? t with
  | none => simp [hq] at hs
  | some i =>
    have hi : i.size = k := by simpa [hq] using hs
    have e2 : (Instr.storeAt t (.pointer (some ⟨C, o, none⟩)) (.agg vs.toArray)).events P w #[] = (storeCells ⟨C, o, none⟩ vs 0).events P w #[] := by
      simp [Instr.storeAt, Instr.sureAddr, storeVar, sizeOf, typeInfo, hq, hi, Value.cells, hl]
    rw [e2] at he
    rcases Lk vs 0 cs w #[] hb (by omega) h1 e he with h | ⟨j, hj, h⟩
    · simp at h
    · exact ⟨j, by omega, h⟩
section
variable {P : Program} {C n sz k : Nat} {TT : TypeId} {Out : List Value → World → Prop} {bx : Nat} {val : Value} {ety : TypeId}
theorem Xb3 {nn : Nat} {ops : Array Oper} {K : Fr → World → Prop} {l : List Oper} {f : Fr} {w : World} {ty : TypeId} {pos : String} {aft : Array Edge} {t : TypeId} {x y : Operand} {vs : List Value} (ht : rowTy P t = some sz) (hx : ev f x = .pointer (some ⟨C, k * sz, none⟩)) (hy : ev f y = .agg vs.toArray) (hl : vs.length = sz)
    (h1 : ∀ v ∈ vs, v.oneCell' = true) (hk : k < n) (hg : g0 w = 0) (hbx : w.heap[bx]? = some (.cells #[val] ety (0, 0))) (hO : Out vs (hideB w bx)) (h : @WpO (compW C n sz k TT Out bx val ety) P nn ops K l f (blind w)) : @WpO (compW C n sz k TT Out bx val ety) P nn ops K (⟨none, .store t x y, ty, pos, aft, none⟩ :: l) f w := by
  letI := compW C n sz k TT Out bx val ety
  intro a ha
  refine Or.inl ⟨by simp [Region.wanted], Or.inr ⟨fun v A' => A' = blind w, ?_, fun v A' hR => ⟨f, ha, by rw [hR]; exact h⟩⟩⟩
  intro J hJ b hb i rest kk cs a2 o' ho hd hw hs hk'
  refine hJ.step _ _ ⟨rfl, fun w1 hsee hinv => ?_⟩
  obtain ⟨cur, hC, hsz⟩ := hinv hg (by omega)
  have hB : Blk w1 C TT cur := hC
  have hle : k * sz + sz ≤ cur.size := by
    rw [hsz]
    have : (k + 1) * sz ≤ n * sz := Nat.mul_le_mul_right _ hk
    rwa [Nat.add_mul, Nat.one_mul] at this
  have he : execOp a.eval ⟨none, .store t x y, ty, pos, aft, none⟩ = (do Instr.storeAt t (.pointer (some ⟨C, k * sz, none⟩)) (.agg vs.toArray); pure .skip : Sem Next) := by
    rw [ha.eval]
    show (do Instr.storeAt t (ev f x) (ev f y); pure .skip : Sem Next) = _
    rw [hx, hy]
  have hr : (execOp a2.eval o').run P w1 = .ok .skip (w1.setRow C (putRow cur sz k vs)) := by
    rw [hs, he, Sem.run_bind, K9 ht hl h1 hB hle]
    rfl
  refine ⟨_, blind w, w1.setRow C (putRow cur sz k vs), _, Lp ho hw hb hr, S0 hsee rfl rfl (Nat.le_of_eq (size_setRow _ _ _).symm), Or.inr ⟨hg, rfl, hbx, ⟨cur, vs, hC, hsz, hl, hO, rfl⟩, fun e hev => ?_⟩, ?_⟩
  · have h5 := Go.Conc.mem_seen hev
    rw [hs, he] at h5
    refine He ht hl h1 hC hle (e := e) ?_
    rw [Sem.events_bind, K9 ht hl h1 hB hle] at h5
    exact h5
  · rw [hd]; exact hk' undef _ rfl
end
end Go.Dw.J
end
section
namespace Go.Dw.J
open Go.Dw Go.RowKit
open Go.Conc (G)
set_option linter.unusedVariables false
set_option linter.unusedSimpArgs false
set_option linter.unusedSectionVars false
section
variable {α : Type} (r : α → α → Prop)
def FamR (N : Nat) (F' F : Nat → α) : Prop := ∃ i, i < N ∧ r (F' i) (F i) ∧ ∀ j, j ≠ i → F' j = F j
theorem H6 (hr : ∀ x, Acc r x) : ∀ (N : Nat) (F : Nat → α), Acc (FamR r N) F
  | 0, F => ⟨_, fun _ ⟨i, h, _⟩ => by omega⟩
  | N + 1, F => by
    have key : ∀ t, Acc r t → ∀ F : Nat → α, F N = t → Acc (FamR r (N + 1)) F := by
      intro t ht
      induction ht with
      | intro t _ ih =>
        intro F hF
        have inner : ∀ F, Acc (FamR r N) F → F N = t → Acc (FamR r (N + 1)) F := by
          intro F hF
          induction hF with
          | intro F _ ih2 =>
            intro hN
            refine ⟨_, fun F' ⟨i, hi, hk, ho⟩ => ?_⟩
            rcases Nat.lt_or_ge i N with h | h
            · exact ih2 F' ⟨i, h, hk, ho⟩ ((ho N (by omega)).trans hN)
            · have : i = N := by omega
              subst this
              exact ih (F' i) (hN ▸ hk) F' rfl
        exact inner F (H6 hr N F) hF
    exact key (F N) (hr _) F rfl
end
abbrev Sz := Nat × Tree
def Lo : Sz → Sz → Prop := Prod.Lex (· < ·) Tree.Kid
theorem Zi : ∀ x, Acc Lo x := (Prod.lex ⟨_, Nat.lt_wfRel.wf⟩ ⟨Tree.Kid, ⟨Sk⟩⟩).wf.apply
theorem Lo.stage {s s' : Nat} {t t' : Tree} (h : s' < s) : Lo (s', t') (s, t) := Prod.Lex.left _ _ h
theorem Lo.kid {s : Nat} {t t' : Tree} (h : Tree.Kid t' t) : Lo (s, t') (s, t) := Prod.Lex.right _ h
section
variable {A B w A' w' : World} {N0 : Nat}
theorem Sees.still (h : Sees B w) (ho : w'.os = w.os) (hp : w'.output = w.output) (hs : w.heap.size ≤ w'.heap.size) (hb : ∀ b, Seen B b → w'.heap[b]? = w.heap[b]?) : Sees B w' := by
  refine ⟨h.os.trans ho.symm, h.output.trans hp.symm, Nat.le_trans h.size hs, fun b hlt => ?_, h.nv⟩
  by_cases hse : B.heap[b]? = some pz
  · exact Or.inr (Or.inl hse)
  · rw [hb b ⟨hlt, hse⟩]; exact h.vis b hlt
def Rds (N0 : Nat) (A : World) : Prop := ∀ b, b < N0 → Ro A b ∨ ¬ Seen A b
theorem Rds.turns (h : Rds N0 A) (hN : N0 ≤ w.heap.size) (hT : Turns A w A' w') : Rds N0 A' := fun b hb => by
  rcases h b hb with hr | hn
  · obtain ⟨c, T, e, h2⟩ := hr
    exact Or.inl ⟨c, T, ((hT.read b ⟨c, T, e, h2⟩).2).trans e, h2⟩
  · exact Or.inr (hT.hid b (Nat.lt_of_lt_of_le hb hN) hn).2
theorem Rds.still (h : Rds N0 A) (hT : Turns A w A' w') (hN : N0 ≤ w.heap.size) {b : Nat} (hb : b < N0) : w'.heap[b]? = w.heap[b]? := by
  rcases h b hb with hr | hn
  · exact (hT.read b hr).1
  · exact (hT.hid b (Nat.lt_of_lt_of_le hb hN) hn).1
theorem Sees.other (hB : Sees B w) (hT : Turns A w A' w') (hlo : Rds N0 A) (hN : N0 ≤ w.heap.size) (hap : ∀ b, N0 ≤ b → Seen B b → ¬ Seen A b) : Sees B w' :=
  hB.still hT.os hT.output hT.le fun b hse => by
    rcases Nat.lt_or_ge b N0 with h | h
    · exact hlo.still hT hN h
    · exact (hT.hid b (Nat.lt_of_lt_of_le hse.1 hB.size) (hap b h hse)).1
theorem Turns.grow (hT : Turns A w A' w') {b : Nat} (h : Seen A' b) : Seen A b ∨ w.heap.size ≤ b := by
  rcases Nat.lt_or_ge b w.heap.size with h1 | h1
  · exact Or.inl (Classical.byContradiction fun hn => (hT.hid b h1 hn).2 h)
  · exact Or.inr h1
theorem Seen.ext {A A1 : World} (he : Ext A A1) {b : Nat} : Seen A1 b ↔ Seen A b := by
  constructor
  · rintro ⟨h1, h2⟩
    rcases Nat.lt_or_ge b A.heap.size with h3 | h3
    · exact ⟨h3, by rw [← he.get h3]; exact h2⟩
    · exact absurd (he.new h3 h1) h2
  · rintro ⟨h1, h2⟩
    exact ⟨Nat.lt_of_lt_of_le h1 he.size, by rw [he.get h1]; exact h2⟩
theorem Ro.ext {A A1 : World} (he : Ext A A1) {b : Nat} : Ro A b → Ro A1 b := fun h => let ⟨c, T, e, h2⟩ := h; ⟨c, T, by rw [he.get (Mq h)]; exact e, h2⟩
theorem Ro.ext' {A A1 : World} (he : Ext A A1) {b : Nat} (h : Ro A1 b) : Ro A b := by
  have hs := (Seen.ext he).1 (Xbn h)
  obtain ⟨c, T, e, h2⟩ := h
  exact ⟨c, T, by rw [← he.get hs.1]; exact e, h2⟩
theorem Rds.ext {A1 : World} (he : Ext A A1) (h : Rds N0 A) : Rds N0 A1 := fun b hb => (h b hb).imp (Ro.ext he) fun hn hs => hn ((Seen.ext he).1 hs)
theorem Rds.ext' {A1 : World} (he : Ext A A1) (h : Rds N0 A1) : Rds N0 A := fun b hb => (h b hb).imp (Ro.ext' he) fun hn hs => hn ((Seen.ext he).2 hs)
end
end Go.Dw.J
end
section
namespace Go.CJ
open Go.Conc Go.ConcN
set_option linter.unusedVariables false
set_option linter.unusedSimpArgs false
set_option linter.unusedSectionVars false
structure Apart (s0 : Nat) (Sh : Loc → Prop) (Own Rd : Nat → Loc → Prop) : Prop where
  own : ∀ k k' l, s0 ≤ k → s0 ≤ k' → Own k l → Own k' l → k = k'
  ownRd : ∀ k k' l, s0 ≤ k → s0 ≤ k' → Own k l → ¬ Rd k' l
  ownSh : ∀ k l, s0 ≤ k → Own k l → ¬ Sh l
  rdSh : ∀ k l, s0 ≤ k → Rd k l → ¬ Sh l
structure CJ (s0 : Nat) (Sh : Loc → Prop) (Own Rd : Nat → Loc → Prop) (a : Addr) (t : Trace) (N : Nat) : Prop where
  quiet : Quiet Sh t
  own : ∀ k, s0 ≤ k → k < N → ∀ l, l.isMemory = true → Own k l → Perm t k l
  rd : ∀ k, s0 ≤ k → k < N → ∀ l, l.isMemory = true → Rd k l → PermW t k l
  free : ∀ l, l.isMemory = true → ¬ Sh l → (∀ k, s0 ≤ k → k < N → ¬ Own k l ∧ ¬ Rd k l) → Perm t 0 l
  mine : ∀ l, l.isMemory = true → ¬ Sh l → (∀ k, s0 ≤ k → k < N → ¬ Own k l) → PermW t 0 l
  nr : ∀ said, ¬ Race said t
  gs : ∀ op ∈ t, op.g < N
  old : ∀ (i : Nat) (x : Touch) (g : Nat), touchAt t i = some x → x.loc.isMemory = true → t.g? i = some g → g < s0 → Knows t 0 i ∨ (Sh x.loc ∧ x.kind = .atomic)
  new : ∀ (i : Nat) (x : Touch) (g : Nat), touchAt t i = some x → t.g? i = some g → s0 ≤ g → x.kind = .atomic → Sh x.loc
  over : ∀ i g, t.g? i = some g → g ≠ 0 → g < s0 → t.counts i → ∃ j, t.g? j = some 0 ∧ HappensBefore t i j
  norel : NoRelease a t
def Ok0 (s0 : Nat) (Sh : Loc → Prop) (Own Rd : Nat → Loc → Prop) (N : Nat) (op : MemOp) : Prop :=
  op.g = 0 ∧ ∀ x, op.act.touch? = some x → (Sh x.loc ∧ x.kind ≠ .plain) ∨ (¬ Sh x.loc ∧ (∀ k, s0 ≤ k → k < N → ¬ Own k x.loc) ∧ (x.write = true → ∀ k, s0 ≤ k → k < N → ¬ Rd k x.loc))
def OkW (Sh : Loc → Prop) (Own Rd : Nat → Loc → Prop) (k : Nat) (op : MemOp) : Prop :=
  op.g = k ∧ ∀ x, op.act.touch? = some x → (Sh x.loc ∧ x.kind ≠ .plain ∧ x.kind ≠ .said) ∨ (Own k x.loc ∧ x.kind ≠ .atomic) ∨ (Rd k x.loc ∧ x.write = false ∧ x.kind ≠ .atomic)
section
variable {s0 N : Nat} {Sh : Loc → Prop} {Own Rd : Nat → Loc → Prop} {a : Addr} {t u : Trace}
theorem Hm (h : CJ s0 Sh Own Rd a t N) (hu : ∀ op ∈ u, ∀ x, op.act.touch? = some x → op.g = 0 ∨ s0 ≤ op.g) : ∀ (i : Nat) (x : Touch) (g : Nat), touchAt (t ++ u) i = some x → x.loc.isMemory = true → (t ++ u).g? i = some g → g < s0 → Knows (t ++ u) 0 i ∨ (Sh x.loc ∧ x.kind = .atomic) := by
  intro i x g hx hm hg hs
  obtain ⟨op, ho, hox⟩ := touch_of hx
  rcases getElem?_append_cases ho with ⟨hlt, ho'⟩ | ⟨hge, hou⟩
  · exact (h.old i x g (by rw [touchAt_of ho']; exact hox) hm (by unfold Trace.g? at hg ⊢; rw [ho] at hg; rw [ho']; exact hg) hs).imp (·.app u) id
  · have e : op.g = g := by unfold Trace.g? at hg; rw [ho] at hg; simpa using hg
    rcases hu op hou x hox with h0 | h0
    · have := knows_own ho
      rw [h0] at this
      exact Or.inl this
    · omega
theorem Hl (h : CJ s0 Sh Own Rd a t N) (hu : ∀ op ∈ u, s0 ≤ op.g → ∀ x, op.act.touch? = some x → x.kind = .atomic → Sh x.loc) : ∀ (i : Nat) (x : Touch) (g : Nat), touchAt (t ++ u) i = some x → (t ++ u).g? i = some g → s0 ≤ g → x.kind = .atomic → Sh x.loc := by
  intro i x g hx hg hs hk
  obtain ⟨op, ho, hox⟩ := touch_of hx
  rcases getElem?_append_cases ho with ⟨hlt, ho'⟩ | ⟨hge, hou⟩
  · exact h.new i x g (by rw [touchAt_of ho']; exact hox) (by unfold Trace.g? at hg ⊢; rw [ho] at hg; rw [ho']; exact hg) hs hk
  · have e : op.g = g := by unfold Trace.g? at hg; rw [ho] at hg; simpa using hg
    exact hu op hou (by omega) x hox hk
theorem W4 (h : CJ s0 Sh Own Rd a t N) (hu : ∀ op ∈ u, ∀ x, op.act.touch? = some x → op.g = 0 ∨ s0 ≤ op.g) : ∀ i g, (t ++ u).g? i = some g → g ≠ 0 → g < s0 → (t ++ u).counts i → ∃ j, (t ++ u).g? j = some 0 ∧ HappensBefore (t ++ u) i j := by
  intro i g hg hne hs hc
  obtain ⟨x, hx, hc'⟩ := hc
  obtain ⟨op, hop, hox⟩ := touch_of hx
  rcases getElem?_append_cases hop with ⟨hi, hop'⟩ | ⟨_, hopu⟩
  · obtain ⟨j, hj, hb⟩ := h.over i g (by simpa [Trace.g?, getElem?_append_old hi] using hg) hne hs ((counts_old hi).1 ⟨x, hx, hc'⟩)
    have hjl : j < t.size := by
      unfold Trace.g? at hj
      obtain ⟨z, hz, _⟩ := Option.map_eq_some_iff.1 hj
      exact lt_size_of_getElem? hz
    exact ⟨j, by simpa [Trace.g?, getElem?_append_old hjl] using hj, hb_app u hb⟩
  · have e : op.g = g := by unfold Trace.g? at hg; rw [hop] at hg; simpa using hg
    rcases hu op hopu x hox with h0 | h0 <;> omega
theorem Uy (h : NoRelease a t) (hu : ∀ op ∈ u, op.act ≠ .mark (.release a)) : NoRelease a (t ++ u) := by
  intro i e
  unfold Trace.act? at e
  obtain ⟨op, ho, ha⟩ := Option.map_eq_some_iff.1 e
  rcases getElem?_append_cases ho with ⟨_, ho'⟩ | ⟨_, hou⟩
  · exact h i (by unfold Trace.act?; rw [ho']; simp [ha])
  · exact hu op hou ha
theorem CJ.app0 (A : Apart s0 Sh Own Rd) (hs : 1 ≤ s0) (hN : s0 ≤ N) (h : CJ s0 Sh Own Rd a t N) (hu : ∀ op ∈ u, Ok0 s0 Sh Own Rd N op) (hr : ∀ op ∈ u, op.act ≠ .mark (.release a)) : CJ s0 Sh Own Rd a (t ++ u) N := by
  refine ⟨h.quiet.app fun op hop x hx hs => ?_, fun k k1 kj l hm hl => (h.own k k1 kj l hm hl).app fun op hop b hb e => ?_, fun k k1 kj l hm hl => (h.rd k k1 kj l hm hl).app fun op hop b hb e hw => ?_,
    fun l hm hs hl => (h.free l hm hs hl).app fun op hop _ _ _ => (hu op hop).1, fun l hm hs hl => (h.mine l hm hs hl).app fun op hop _ _ _ _ => (hu op hop).1, fun said => ?_, fun op hop => ?_,
    Hm h fun op hop _ _ => Or.inl (hu op hop).1, Hl h fun op hop hs' => by have := (hu op hop).1; omega, W4 h fun op hop _ _ => Or.inl (hu op hop).1, Uy h.norel hr⟩
  · rcases (hu op hop).2 x hx with ⟨_, hk⟩ | ⟨hn, _⟩
    · exact ⟨hk, fun _ => (hu op hop).1⟩
    · exact absurd hs hn
  · rcases (hu op hop).2 b hb with ⟨hs, _⟩ | ⟨_, hn, _⟩
    · exact absurd (e ▸ hs) (A.ownSh k l k1 hl)
    · exact absurd (e ▸ hl) (hn k k1 kj)
  · rcases (hu op hop).2 b hb with ⟨hs, _⟩ | ⟨_, _, hn⟩
    · exact absurd (e ▸ hs) (A.rdSh k l k1 hl)
    · exact absurd (e ▸ hl) (hn hw k k1 kj)
  · refine noRace_append (h.nr said) (fun op hop => (hu op hop).1) (fun i x ha op hop b hb hc => ?_)
    rcases (hu op hop).2 b hb with ⟨hs, hk⟩ | ⟨hs, hno, hnr⟩
    · exact h.quiet.known hs hk (fun _ => rfl) i x ha hc
    · have hm : b.loc.isMemory = true := by rw [← hc.1]; exact hc.2.1
      cases hbw : b.write with
      | true => exact h.free b.loc hm hs (fun k k1 kj => ⟨hno k k1 kj, hnr hbw k k1 kj⟩) i x ha hc.1
      | false => exact h.mine b.loc hm hs hno i x ha hc.1 (hc.2.2.1.resolve_right (by simp [hbw]))
  · rcases Array.mem_append.1 hop with h1 | h1
    · exact h.gs op h1
    · rw [(hu op h1).1]; omega
theorem CJ.appW (A : Apart s0 Sh Own Rd) (h : CJ s0 Sh Own Rd a t N) {k : Nat} (k1 : s0 ≤ k) (kj : k < N) (hu : ∀ op ∈ u, OkW Sh Own Rd k op) (hr : ∀ op ∈ u, op.act ≠ .mark (.release a)) : CJ s0 Sh Own Rd a (t ++ u) N := by
  refine ⟨h.quiet.app fun op hop x hx hs => ?_, fun k' k1' kj' l hm hl => (h.own k' k1' kj' l hm hl).app fun op hop b hb e => ?_, fun k' k1' kj' l hm hl => (h.rd k' k1' kj' l hm hl).app fun op hop b hb e hw => ?_,
    fun l hm hs hl => (h.free l hm hs hl).app fun op hop b hb e => ?_, fun l hm hs hl => (h.mine l hm hs hl).app fun op hop b hb e hw => ?_, fun said => ?_, fun op hop => ?_,
    Hm h fun op hop _ _ => Or.inr (by rw [(hu op hop).1]; exact k1), Hl h fun op hop _ x hx hk => ?_, W4 h fun op hop _ _ => Or.inr (by rw [(hu op hop).1]; exact k1), Uy h.norel hr⟩
  · rcases (hu op hop).2 x hx with ⟨_, hk, hn⟩ | ⟨ho, _⟩ | ⟨hr, _⟩
    · exact ⟨hk, fun e => absurd e hn⟩
    · exact absurd hs (A.ownSh k _ k1 ho)
    · exact absurd hs (A.rdSh k _ k1 hr)
  · rcases (hu op hop).2 b hb with ⟨hs, _⟩ | ⟨ho, _⟩ | ⟨hr, _⟩
    · exact absurd (e ▸ hs) (A.ownSh k' l k1' hl)
    · rw [(hu op hop).1]; exact A.own k k' l k1 k1' (e ▸ ho) hl
    · exact absurd (e ▸ hr) (A.ownRd k' k l k1' k1 hl)
  · rcases (hu op hop).2 b hb with ⟨hs, _⟩ | ⟨ho, _⟩ | ⟨_, hr, _⟩
    · exact absurd (e ▸ hs) (A.rdSh k' l k1' hl)
    · exact absurd hl (A.ownRd k k' l k1 k1' (e ▸ ho))
    · rw [hr] at hw; cases hw
  · rcases (hu op hop).2 b hb with ⟨hs', _⟩ | ⟨ho, _⟩ | ⟨hr, _⟩
    · exact absurd (e ▸ hs') hs
    · exact absurd (e ▸ ho) (hl k k1 kj).1
    · exact absurd (e ▸ hr) (hl k k1 kj).2
  · rcases (hu op hop).2 b hb with ⟨hs', _⟩ | ⟨ho, _⟩ | ⟨_, hr, _⟩
    · exact absurd (e ▸ hs') hs
    · exact absurd (e ▸ ho) (hl k k1 kj)
    · rw [hr] at hw; cases hw
  · refine noRace_append (h.nr said) (fun op hop => (hu op hop).1) (fun i x ha op hop b hb hc => ?_)
    have hm : b.loc.isMemory = true := by rw [← hc.1]; exact hc.2.1
    rcases (hu op hop).2 b hb with ⟨hs, hk, hn⟩ | ⟨ho, _⟩ | ⟨hr, hbw, _⟩
    · exact h.quiet.known hs hk (fun e => absurd e hn) i x ha hc
    · exact h.own k k1 kj b.loc hm ho i x ha hc.1
    · exact h.rd k k1 kj b.loc hm hr i x ha hc.1 (hc.2.2.1.resolve_right (by simp [hbw]))
  · rcases Array.mem_append.1 hop with h1 | h1
    · exact h.gs op h1
    · rw [(hu op h1).1]; exact kj
  · rcases (hu op hop).2 x hx with ⟨hs, _⟩ | ⟨_, hn⟩ | ⟨_, _, hn⟩
    · exact hs
    · exact absurd hk hn
    · exact absurd hk hn
theorem CJ.appMute (h : CJ s0 Sh Own Rd a t N) {k : Nat} (hk : k < N) (hu : ∀ op ∈ u, op.g = k) (hn : ∀ op ∈ u, op.act.touch? = none) (hr : ∀ op ∈ u, op.act ≠ .mark (.release a)) : CJ s0 Sh Own Rd a (t ++ u) N := by
  have no : ∀ op ∈ u, ∀ b, op.act.touch? = some b → False := fun op hop b hb => by rw [hn op hop] at hb; cases hb
  exact ⟨h.quiet.app fun op hop x hx _ => (no op hop x hx).elim, fun k' k1' kj' l hm hl => (h.own k' k1' kj' l hm hl).app fun op hop b hb e => (no op hop b hb).elim, fun k' k1' kj' l hm hl => (h.rd k' k1' kj' l hm hl).app fun op hop b hb e hw => (no op hop b hb).elim,
    fun l hm hs hl => (h.free l hm hs hl).app fun op hop b hb e => (no op hop b hb).elim, fun l hm hs hl => (h.mine l hm hs hl).app fun op hop b hb e hw => (no op hop b hb).elim, fun said => noRace_append (h.nr said) hu fun i x ha op hop b hb hc => (no op hop b hb).elim, fun op hop => (Array.mem_append.1 hop).elim (h.gs op) fun h1 => by rw [hu op h1]; exact hk,
    Hm h fun op hop b hb => (no op hop b hb).elim, Hl h fun op hop _ x hx hk => (no op hop x hx).elim, W4 h fun op hop b hb => (no op hop b hb).elim, Uy h.norel hr⟩
theorem CJ.grow {Own' : Nat → Loc → Prop} (h : CJ s0 Sh Own Rd a t N) (hm : ∀ k l, Own k l → Own' k l) (hn : ∀ k l, Own' k l → Own k l ∨ ∀ i x, touchAt t i = some x → x.loc ≠ l) : CJ s0 Sh Own' Rd a t N := by
  refine ⟨h.quiet, fun k k1 kj l hmem hl => ?_, h.rd, fun l hmem hs hl => ?_, fun l hmem hs hl => ?_, h.nr, h.gs, h.old, h.new, h.over, h.norel⟩
  · rcases hn k l hl with h1 | h1
    · exact h.own k k1 kj l hmem h1
    · exact fun i x hx e => absurd e (h1 i x hx)
  · exact h.free l hmem hs fun k k1 kj => ⟨fun ho => (hl k k1 kj).1 (hm k l ho), (hl k k1 kj).2⟩
  · exact h.mine l hmem hs fun k k1 kj ho => hl k k1 kj (hm k l ho)
theorem CJ.fork (A : Apart s0 Sh Own Rd) (hs : s0 ≤ N) (h : CJ s0 Sh Own Rd a t N) {x y : MemOp} (hx : x.g = 0 ∧ x.act = .go N) (hy : y.g = N ∧ y.act = .start) (h0 : Deaf t 0 = 0) (hp : 1 ≤ N) : CJ s0 Sh Own Rd a (t ++ #[x, y]) (N + 1) := by
  have hk : Deaf t N = 0 := Deaf_absent fun i op hi e => by have := h.gs op (Array.mem_of_getElem? hi); omega
  have hnt : ∀ op ∈ #[x, y], ∀ b, op.act.touch? = some b → False := by
    intro op hop b hb
    simp only [List.mem_toArray, List.mem_cons, List.not_mem_nil, or_false] at hop
    rcases hop with rfl | rfl
    · rw [hx.2] at hb; cases hb
    · rw [hy.2] at hb; cases hb
  have old : ∀ {i : Nat} {b : Touch}, touchAt (t ++ #[x, y]) i = some b → touchAt t i = some b := by
    intro i b hb
    obtain ⟨z, hz, hza⟩ := touch_of hb
    rcases getElem?_append_cases hz with ⟨_, hz'⟩ | ⟨_, hzu⟩
    · rw [touchAt_of hz']; exact hza
    · exact (hnt z hzu b hza).elim
  refine ⟨h.quiet.app fun op hop b hb _ => (hnt op hop b hb).elim, fun k k1 kj l hm hl => ?_, fun k k1 kj l hm hl => ?_,
    fun l hm hs' hl => (h.free l hm hs' fun k k1 kj => hl k k1 (by omega)).app fun op hop b hb _ => (hnt op hop b hb).elim, fun l hm hs' hl => (h.mine l hm hs' fun k k1 kj => hl k k1 (by omega)).app fun op hop b hb _ _ => (hnt op hop b hb).elim, fun said => ?_, fun op hop => ?_,
    Hm h fun op hop b hb => (hnt op hop b hb).elim, Hl h fun op hop _ b hb _ => (hnt op hop b hb).elim, W4 h fun op hop b hb => (hnt op hop b hb).elim, Uy h.norel fun op hop e => ?_⟩
  · rcases Nat.lt_or_ge k N with hlt | hge
    · exact (h.own k k1 hlt l hm hl).app fun op hop b hb _ => (hnt op hop b hb).elim
    · obtain rfl : k = N := by omega
      exact fun i b ha e => fork_knows hx hy h0 hk (h.free l hm (A.ownSh _ l k1 hl) (fun k' k1' k'j => ⟨fun ho => by have := A.own _ _ l k1' k1 ho hl; omega, A.ownRd _ _ l k1 k1' hl⟩) i b (old ha) e)
  · rcases Nat.lt_or_ge k N with hlt | hge
    · exact (h.rd k k1 hlt l hm hl).app fun op hop b hb _ _ => (hnt op hop b hb).elim
    · obtain rfl : k = N := by omega
      exact fun i b ha e hw => fork_knows hx hy h0 hk (h.mine l hm (A.rdSh _ l k1 hl) (fun k' k1' _ ho => A.ownRd _ _ l k1' k1 ho hl) i b (old ha) e hw)
  · have e : t ++ #[x, y] = (t ++ #[x]) ++ #[y] := by apply Array.ext'; simp
    rw [e]
    refine noRace_append (g := N) (noRace_append (g := 0) (h.nr said) (fun op hop => by simp at hop; rw [hop]; exact hx.1) (fun i b _ op hop c hc _ => (hnt op (by simp at hop ⊢; exact .inl hop) c hc).elim))
      (fun op hop => by simp at hop; rw [hop]; exact hy.1) (fun i b _ op hop c hc _ => (hnt op (by simp at hop ⊢; exact .inr hop) c hc).elim)
  · rcases Array.mem_append.1 hop with h1 | h1
    · exact Nat.lt_succ_of_lt (h.gs op h1)
    · simp only [List.mem_toArray, List.mem_cons, List.not_mem_nil, or_false] at h1
      rcases h1 with rfl | rfl
      · rw [hx.1]; omega
      · rw [hy.1]; omega
  · simp only [List.mem_toArray, List.mem_cons, List.not_mem_nil, or_false] at hop
    rcases hop with rfl | rfl
    · rw [hx.2] at e; cases e
    · rw [hy.2] at e; cases e
end
end Go.CJ
end
section
namespace Go.CJ
open Go.Conc Go.ConcN
set_option linter.unusedVariables false
set_option linter.unusedSimpArgs false
set_option linter.unusedSectionVars false
section
variable {s0 N B : Nat} {Sh Shun : Loc → Prop} {Own Rd : Nat → Loc → Prop} {a : Addr} {t u : Trace}
theorem Nn {x : MemAct} {y : Touch} (h : x.touch? = some y) (hl : x.low B) : y.loc.low B := by
  cases x with
  | access e => simp only [MemAct.touch?, Option.some.injEq] at h; subst h; exact hl
  | mark m => cases m <;> simp only [MemAct.touch?, Option.some.injEq, reduceCtorEq] at h <;> (subst h; exact hl)
  | _ => cases h
theorem touchAt_low (hl : ∀ op ∈ t, op.act.low B) {i : Nat} {x : Touch} (h : touchAt t i = some x) : x.loc.low B := by
  obtain ⟨op, ho, hx⟩ := touch_of h
  exact Nn hx (hl op (Array.mem_of_getElem? ho))
theorem Xdb (hg : ∀ op ∈ t, op.g < N) {i g : Nat} (h : t.g? i = some g) : g < N := by
  obtain ⟨op, ho, rfl⟩ := Option.map_eq_some_iff.1 h
  exact hg op (Array.mem_of_getElem? ho)
theorem CJ.start (hP : Past Shun B t) (hq : Quiet Shun t) (hg : ∀ op ∈ t, op.g < s0) (h1 : ∀ l, Sh l → Shun l ∨ ¬ l.low B) (h2 : ∀ l, Shun l → Sh l) (ha : B ≤ a.block) : CJ s0 Sh Own Rd a t s0 := by
  have kn : ∀ l, l.isMemory = true → ¬ Sh l → Perm t 0 l := fun l hm hs i x hx e => by
    subst e
    exact (hP.known i x hx hm).resolve_right fun h => hs (h2 _ h.1)
  refine ⟨fun i op x hi hx hs => ?_, fun k k1 kj => by omega, fun k k1 kj => by omega, fun l hm hs _ => kn l hm hs, fun l hm hs _ => PermW.of (kn l hm hs), hP.clean, hg, fun i x g hx hm hgi _ => (hP.known i x hx hm).imp id fun h => ⟨h2 _ h.1, h.2⟩, fun i x g hx hgi hs => ?_, fun i g hgi hne _ hc => hP.over i g hgi hne hc, fun i e => ?_⟩
  · rcases h1 _ hs with h | h
    · exact hq i op x hi hx h
    · exact absurd (Nn hx (hP.seen op (Array.mem_of_getElem? hi))) h
  · have := Xdb hg hgi; omega
  · unfold Trace.act? at e
    obtain ⟨op, ho, ha'⟩ := Option.map_eq_some_iff.1 e
    have := hP.seen op (Array.mem_of_getElem? ho)
    rw [ha'] at this
    have : a.block < B := this
    omega
theorem CJ.past (h : CJ s0 Sh Own Rd a t N) (hl : ∀ op ∈ t, op.act.low B) (hd : Deaf t 0 = 0) {q : Nat} (hall : ∀ k, s0 ≤ k → k < N → ∃ r, RelBy a t k r ∧ r < q)
    (hq : t.act? q = some (.mark (.acquire a))) (hg : t.g? q = some 0) (hh : t.heard q) (hs0 : 1 ≤ s0) : Past Sh B t := by
  have edge : ∀ {k r : Nat}, RelBy a t k r → r < q → HappensBefore t r q := fun hr hrq => .single (.inr ⟨.marked hrq (.inr hr.act) hq (fun k _ _ => h.norel k), hr.heard, hh⟩)
  have before : ∀ {k r i : Nat}, RelBy a t k r → r < q → t.g? i = some k → i ≤ r → HappensBefore t i q := fun {k r i} hr hrq hi hle => by
    rcases Nat.lt_or_ge i r with hlt | hge
    · exact .trans (.single (.inl ⟨hlt, k, hi, hr.g⟩)) (edge hr hrq)
    · obtain rfl : i = r := by omega
      exact edge hr hrq
  obtain ⟨z, hz, hzg⟩ := Option.map_eq_some_iff.1 hg
  refine ⟨h.nr, fun i x hx hm => ?_, fun i g hgi hne hc => ?_, hd, hl⟩
  · obtain ⟨op, ho, hox⟩ := touch_of hx
    have hgi : t.g? i = some op.g := by unfold Trace.g?; rw [ho]; rfl
    rcases Nat.lt_or_ge op.g s0 with hlt | hge
    · exact h.old i x op.g hx hm hgi hlt
    · obtain ⟨r, hr, hrq⟩ := hall op.g hge (Xdb h.gs hgi)
      by_cases hc : t.counts i
      · have hle : i ≤ r := Nat.le_of_not_lt fun hlt => hr.after i hlt hgi hc
        exact Or.inl ⟨q, z, hz, hzg, .inr (before hr hrq hgi hle)⟩
      · have hk : x.kind = .atomic := Classical.byContradiction fun hk => hc ⟨x, hx, hm, .inl hk⟩
        exact Or.inr ⟨h.new i x op.g hx hgi hge hk, hk⟩
  · rcases Nat.lt_or_ge g s0 with hlt | hge
    · exact h.over i g hgi hne hlt hc
    · obtain ⟨r, hr, hrq⟩ := hall g hge (Xdb h.gs hgi)
      exact ⟨q, hg, before hr hrq hgi (Nat.le_of_not_lt fun hlt => hr.after i hlt hgi hc)⟩
end
end Go.CJ
end
section
namespace Go.Dw.J
open Go.Dw Go.RowKit
open Go.Conc (G crowd Goes Deaf QuitsD woken awake woken_run woken_quitsD Aside)
open Go.ConcR (KK WgAt stA smA Payload DC0)
open Go.ConcN (RW DWs AtR0 AtK1 AtD1 AtD2 AtD3 AtD4 WgLive Has RelBy PayAt AsideCell upd upd_same upd_ne)
set_option linter.unusedVariables false
set_option linter.unusedSimpArgs false
set_option linter.unusedSectionVars false
theorem Fits.status [Comp] {P : Program} {Stop : Goroutine → World → Prop} (hs : ∀ g A, Stop g A → g.status = .running) {T : Tree} {g : Goroutine} {A : World} (h : Fits P Stop T g A) : g.status = .running := by
  cases T with
  | stop => exact hs _ _ h
  | node k => exact h.1
theorem Ka {P : Program} {main : Bool} {R : World → World → Prop} {D : World → World → Array Event → Prop} {Stop : Goroutine → World → Prop} (hR : ∀ w, R w w) (hs : ∀ g w, Stop g w → g.status = .running) {m : Nat} {g : Goroutine} {w : World} (h : Goes P main R D Stop m g w) : g.status = .running := by
  cases m with
  | zero => exact hs _ _ (h w (hR w))
  | succ m => exact h.elim (fun h => hs _ _ (h w (hR w))) (fun h => h.1)
structure Ph where
  P : Program
  Post : Value → World → Prop
  ty : TypeId
  n : Nat
  C : Nat
  sz : Nat
  TT : TypeId
  Out : Nat → List Value → World → Prop
  Wg : Nat
  s0 : Nat
  Shun : Loc → Prop
  A0 : World
  W0 : World
structure WS where
  stage : Nat
  tr : Tree
  A : World
  AR : World
  row : List Value
  ob : Nat → Prop
  bx : Nat
  val : Value
section
variable [Payload] (ph : Ph)
def Ph.N0 : Nat := ph.Wg + 1
def ShP (l : Loc) : Prop := ph.Shun l ∨ inBlk ph.Wg l
def OwnP (D : Nat → WS) (k : Nat) (l : Loc) : Prop := (∃ b, inBlk b l ∧ (D k).ob b) ∨ ∃ j, j < ph.sz ∧ l = .cell ⟨ph.C, (k - ph.s0) * ph.sz + j, none⟩
def RdP (_ : Nat) (l : Loc) : Prop := ∃ b, inBlk b l ∧ b < ph.Wg ∧ b ≠ ph.C ∧ Seen ph.A0 b
def StopW (bx : Nat) (val : Value) (g : Goroutine) (A : World) : Prop :=
  g0 A = 1 ∧ g.status = .running ∧ ∀ w, WgLive ph.ty ph.Wg w ∧ Has bx 0 val w → ∃ m, Goes ph.P false (RW ph.ty ph.Wg bx 1 0 0) DC0 (AtR0 ph.P ph.ty ph.Wg bx 1 0 1 val) m g w
def FitsW (k : Nat) (x : WS) (g : Goroutine) (A : World) : Prop :=
  @Fits (compW ph.C ph.n ph.sz (k - ph.s0) ph.TT (ph.Out (k - ph.s0)) x.bx x.val Payload.ety) ph.P (StopW ph x.bx x.val) x.tr g A
inductive Sit (k : Nat) (x : WS) : Nat → Goroutine → World → Nat → Prop
  | go {g : Goroutine} {w : World} : FitsW ph k x g x.A → Sees x.A w → Rds ph.N0 x.A → ¬ Seen x.A ph.C → ¬ Seen x.A ph.Wg → (g0 x.A = 0 ∨ g0 x.A = 1) → (∀ b, ph.N0 ≤ b → Seen x.A b → x.ob b) → (∀ b, b < ph.N0 → Seen x.A b → Seen ph.A0 b) → Sit k x 8 g w 0
  | r0 {g : Goroutine} {w : World} {m : Nat} : x.tr = chain m → Goes ph.P false (RW ph.ty ph.Wg x.bx 1 0 0) DC0 (AtR0 ph.P ph.ty ph.Wg x.bx 1 0 1 x.val) m g w → Sit k x 7 g w 0
  | k1 {g : Goroutine} {w : World} {m : Nat} : x.tr = chain m → Goes ph.P false (RW ph.ty ph.Wg x.bx 1 0 0) DC0 (AtK1 ph.P ph.ty ph.Wg x.bx 1 0 1) m g w → Sit k x 6 g w 0
  | d1 {g : Goroutine} {w : World} {m : Nat} : x.tr = chain m → Goes ph.P false (RW ph.ty ph.Wg x.bx 1 0 0) DC0 (AtD1 ph.P ph.ty ph.Wg x.bx 1 0 1) m g w → Sit k x 5 g w 1
  | d2 {g : Goroutine} {w : World} {m : Nat} : x.tr = chain m → Goes ph.P false (RW ph.ty ph.Wg x.bx 1 0 0) DC0 (AtD2 ph.P ph.ty ph.Wg x.bx 1 0 1) m g w → Sit k x 4 g w 1
  | d3 {g : Goroutine} {w : World} {m : Nat} : x.tr = chain m → Goes ph.P false (RW ph.ty ph.Wg x.bx 1 0 0) DC0 (AtD3 ph.P ph.ty ph.Wg x.bx 1 0 1) m g w → Sit k x 3 g w 1
  | d4 {g : Goroutine} {w : World} {m : Nat} : x.tr = chain m → Goes ph.P false (RW ph.ty ph.Wg x.bx 1 0 0) DC0 (AtD4 ph.P ph.ty ph.Wg) m g w → Sit k x 2 g w 1
  | quit {g : Goroutine} {w : World} {m d : Nat} : x.tr = chain m → QuitsD ph.P m d g → Sit k x 1 g w d
structure Rec (k : Nat) (x : WS) (w : World) : Prop where
  sees : Sees x.AR w
  rds : Rds ph.N0 x.AR
  noC : ¬ Seen x.AR ph.C
  noWg : ¬ Seen x.AR ph.Wg
  out : ph.Out (k - ph.s0) x.row x.AR
  len : x.row.length = ph.sz
  laid : ∀ j v, x.row[j]? = some v → w.cell? ⟨ph.C, (k - ph.s0) * ph.sz + j, none⟩ = some v
  ob : ∀ b, ph.N0 ≤ b → Seen x.AR b → x.ob b
  fresh : x.stage = 8 → ∀ b, Seen x.A b → x.AR.heap.size ≤ b
  box : x.stage = 8 → w.heap[x.bx]? = some (.cells #[x.val] Payload.ety (0, 0)) ∧ ¬ Seen x.A x.bx
  nobx : ¬ Seen x.AR x.bx
  low0 : ∀ b, b < ph.N0 → Seen x.AR b → Seen ph.A0 b
end
section
variable [Payload] {ph : Ph} {k : Nat} {x : WS} {s d : Nat} {g : Goroutine} {w w' : World}
theorem Sit.status (h : Sit ph k x s g w d) : g.status = .running ∨ (s = 1 ∧ g.status = .finished) := by
  cases h with
  | go h => exact .inl (@Fits.status (compW ph.C ph.n ph.sz (k - ph.s0) ph.TT (ph.Out (k - ph.s0)) x.bx x.val Payload.ety) _ _ (fun _ _ h => h.2.1) _ _ _ h)
  | r0 _ h => exact .inl (Ka RW.refl (fun _ _ h => h.1) h)
  | k1 _ h => exact .inl (Ka RW.refl (fun _ _ h => h.1) h)
  | d1 _ h => exact .inl (Ka RW.refl (fun _ _ h => h.1) h)
  | d2 _ h => exact .inl (Ka RW.refl (fun _ _ h => h.1) h)
  | d3 _ h => exact .inl (Ka RW.refl (fun _ _ h => h.1) h)
  | d4 _ h => exact .inl (Ka RW.refl (fun _ _ h => h.1) h)
  | quit _ h => exact h.status.imp id fun h => ⟨rfl, h⟩
theorem Sit.woken (h : Sit ph k x s g w d) {a a' : Goroutine} : Go.Conc.woken ph.P a a' w' g = g := by
  unfold Go.Conc.woken
  split
  · exact Go.Conc.again_running _ (h.status.imp id fun h => h.2)
  · rfl
theorem Sit.other (h : Sit ph k x s g w d) (ho : w'.os = w.os) (hp : w'.output = w.output) (hs : w.heap.size ≤ w'.heap.size) (hlo : ∀ b, b < ph.N0 → b ≠ ph.C → b ≠ ph.Wg → w'.heap[b]? = w.heap[b]?) (hob : ∀ b, ph.N0 ≤ b → b < w.heap.size → x.ob b → w'.heap[b]? = w.heap[b]?)
    (hl : WgLive ph.ty ph.Wg w → WgLive ph.ty ph.Wg w') (hbx : s ≠ 1 → s ≠ 8 → w'.heap[x.bx]? = w.heap[x.bx]?) : Sit ph k x s g w' d := by
  have hR : s ≠ 1 → s ≠ 8 → RW ph.ty ph.Wg x.bx 1 0 0 w w' := fun h1 h8 => ⟨fun b hb => by omega, hl, fun ⟨cs, h2, h3⟩ => ⟨cs, (hbx h1 h8).trans h2, h3⟩, Go.ConcN.cell_of_block (hbx h1 h8) 0⟩
  have tr : ∀ a b c, RW ph.ty ph.Wg x.bx 1 0 0 a b → RW ph.ty ph.Wg x.bx 1 0 0 b c → RW ph.ty ph.Wg x.bx 1 0 0 a c := fun _ _ _ => RW.trans
  cases h with
  | go h1 h2 h3 h4 h5 h6 h7 h8 =>
    refine .go h1 (h2.still ho hp hs fun b hb => ?_) h3 h4 h5 h6 h7 h8
    rcases Nat.lt_or_ge b ph.N0 with hlt | hge
    · exact hlo b hlt (fun e => h4 (e ▸ hb)) (fun e => h5 (e ▸ hb))
    · exact hob b hge (Nat.lt_of_lt_of_le hb.1 h2.size) (h7 b hge hb)
  | r0 e h => exact .r0 e (h.rely tr (hR (by omega) (by omega)))
  | k1 e h => exact .k1 e (h.rely tr (hR (by omega) (by omega)))
  | d1 e h => exact .d1 e (h.rely tr (hR (by omega) (by omega)))
  | d2 e h => exact .d2 e (h.rely tr (hR (by omega) (by omega)))
  | d3 e h => exact .d3 e (h.rely tr (hR (by omega) (by omega)))
  | d4 e h => exact .d4 e (h.rely tr (hR (by omega) (by omega)))
  | quit e h => exact .quit e h
theorem Rec.other (h : Rec ph k x w) (ho : w'.os = w.os) (hp : w'.output = w.output) (hs : w.heap.size ≤ w'.heap.size) (hlo : ∀ b, b < ph.N0 → b ≠ ph.C → b ≠ ph.Wg → w'.heap[b]? = w.heap[b]?) (hob : ∀ b, ph.N0 ≤ b → b < w.heap.size → x.ob b → w'.heap[b]? = w.heap[b]?)
    (hC : ∀ j v, x.row[j]? = some v → w'.cell? ⟨ph.C, (k - ph.s0) * ph.sz + j, none⟩ = w.cell? ⟨ph.C, (k - ph.s0) * ph.sz + j, none⟩) (hbx : x.stage = 8 → w'.heap[x.bx]? = w.heap[x.bx]?) : Rec ph k x w' := by
  refine ⟨h.sees.still ho hp hs fun b hb => ?_, h.rds, h.noC, h.noWg, h.out, h.len, fun j v hj => (hC j v hj).trans (h.laid j v hj), h.ob, h.fresh, fun e => ⟨(hbx e).trans (h.box e).1, (h.box e).2⟩, h.nobx, h.low0⟩
  rcases Nat.lt_or_ge b ph.N0 with hlt | hge
  · exact hlo b hlt (fun e => h.noC (e ▸ hb)) (fun e => h.noWg (e ▸ hb))
  · exact hob b hge (Nat.lt_of_lt_of_le hb.1 h.sees.size) (h.ob b hge hb)
end
end Go.Dw.J
end
section
namespace Go.Dw.J
open Go.Dw Go.RowKit
open Go.Conc (G crowd Goes Deaf QuitsD woken awake woken_run woken_quitsD Aside Deaf_other Deaf_own)
open Go.ConcR (KK WgAt stA smA Payload DC0)
open Go.ConcN (RW DWs AtR0 AtK1 AtD1 AtD2 AtD3 AtD4 WgLive Has RelBy PayAt AsideCell upd upd_same upd_ne)
open Go.CJ (CJ OkW Ok0)
set_option linter.unusedVariables false
set_option linter.unusedSimpArgs false
set_option linter.unusedSectionVars false
theorem Kb {b b' : Nat} {l : Loc} (h : inBlk b l) (h' : inBlk b' l) : b = b' := by
  cases l with
  | cell a => exact h.symm.trans h'
  | obj r => exact h.symm.trans h'
  | _ => exact h.elim
theorem Mj {B b : Nat} {l : Loc} (h : inBlk b l) (hl : l.low B) : b < B := by
  cases l with
  | cell a => cases h; exact hl
  | obj r => cases h; exact hl
  | _ => exact h.elim
end Go.Dw.J
end
