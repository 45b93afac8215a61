/- Laws and walks: my templates, and what a program of mine (gen.py) printed out of the functions; only what the row reaches. -/
import Derived.Test.YtjpgffmkcmcolabDoorT51
section
namespace Go.Proofs.YtjpgffmkcmcolabDoor
open Go.RowKit Go.Dw
set_option maxRecDepth 100000
set_option maxHeartbeats 4000000
set_option linter.unusedSimpArgs false
set_option linter.unusedVariables false
theorem He (k to : Int) (l : Lab) (hk : ((decide (k = 2)) || (decide (k = 3))) = false) (hok : newOk k l to = false) (w : World) : CallsR Tryd.prog 67 #[vi k, .agg #[vi l.s, vi l.v], vi to] w (fun v w' => v = .tuple #[.agg #[vi 0, vi 0, vi 0, vi 0, vi 0, .slice none 0 0, .slice none 0 0, vi 0], vb false] ∧ w.grownBy w' none) := by
 refine X0 (n := 24) Tryd.func67 Z Tryd.ntmps67 Z ?_
 have bc := World.grownBy.refl w none
 have hlit : thingOk (⟨k, l, 0, 0, [], [], to⟩ : Th) = false := (Kv hk).symm.trans hok
 have bl : decide (k = 2) = false := Jm hk
 have bm : decide (k = 3) = false := Jn hk
 refine Xa (Yr (v := .agg #[vi l.s, vi l.v]) (cs := #[vi l.s, vi l.v]) Z Z Z ?_)
 intro bi bn ae
 have bd := X9 ae bc
 have ag := low0 bc ae.grw
 refine Yd (cs := #[vi 0, vi 0, vi 0, vi 0, vi 0, .slice none 0 0, .slice none 0 0, vi 0]) Kr Z Z ?_
 intro bj bp O
 have be := X9 O ag
 have am := Xn O (ae.blk).lt
 have ah := low0 ag O.grw
 refine Xg (v := vb false) Z Z (Xb (Xa (Xc (v := vi k) Z Z ?_)))
 have al := (ae.blk.grown0 O.grw)
 refine Xp (vs := [vi l.s, vi l.v]) Ji Z Z (al.rangeL 0 2 Z) Z (Xy (ps := []) (e := 38) (cs := (([] : List Rt).flatMap Rt.cells).toArray) Xz (fun _ => by kernel_rfl) Z ?_)
 intro ac bq J
 have bf := X9 J ah
 have an := Xn J (al).lt
 have aq := Xn J (O.blk).lt
 have ai := low0 ah J.grw
 refine Xy (ps := []) (e := 3) (cs := (([] : List Int).flatMap icell).toArray) Xz (fun _ => by kernel_rfl) Z ?_
 intro ad br E
 have bg := X9 E ai
 have a8 := (al.grown0 J.grw)
 have ao := Xn E (a8).lt
 have a9 := (O.blk.grown0 J.grw)
 have ar := Xn E (a9).lt
 have av := Xn E (J.blk).lt
 have aj := low0 ai E.grw
 refine Xc (v := vi to) Z Z (Yk (ps := [(0, vi k), (1, .agg #[vi l.s, vi l.v]), (4, .slice (pa ac) 0 0), (5, .slice (pa ad) 0 0), (6, vi to)]) (v := .agg #[vi k, vi l.s, vi l.v, vi 0, vi 0, .slice (pa ac) 0 0, .slice (pa ad) 0 0, vi to]) (Xk Z (Xk Z (Xk Z (Xk Z (Xk Z Xz))))) (by kernel_rfl) Z (Yd (cs := #[vi 0, vi 0, vi 0, vi 0, vi 0, .slice none 0 0, .slice none 0 0, vi 0]) Kr Z Z ?_))
 intro bk bt G
 have bh := X9 G aj
 have ap := Xn G ((a8.grown0 E.grw)).lt
 have ba := (a9.grown0 E.grw)
 have au := Xn G (ba).lt
 have bb := (J.blk.grown0 E.grw)
 have aw := Xn G (bb).lt
 have az := Xn G (E.blk).lt
 refine Xt (vs := [vi k, vi l.s, vi l.v, vi 0, vi 0, .slice (pa ac) 0 0, .slice (pa ad) 0 0, vi to]) (cs' := #[vi k, vi l.s, vi l.v, vi 0, vi 0, .slice (pa ac) 0 0, .slice (pa ad) 0 0, vi to]) Yz Z Z Z (by simp [Value.oneCell']) G.blk (Nat.le_of_ble_eq_true Z) Z ?_
 intro bu V
 refine Xb (Xs (Xa (Xc (v := vi k) Z Z (Xm Wi (Xf Z Xl) Z (J8 k _) ?_))))
 rintro _ bv ⟨rfl, ab⟩
 refine Xb (Qm Z hk (Xv (Xr (Xs (Xa (Xp (vs := [vi k, vi l.s, vi l.v, vi 0, vi 0, .slice (pa ac) 0 0, .slice (pa ad) 0 0, vi to]) Yz Z Z ((V.blk.grown0 ab).rangeL 0 8 Z) Z (Xm H1 (Xf Z Xl) Z (Kn (⟨⟨k, l, 0, 0, [], [], to⟩, some ⟨ac, 0, none⟩, 0, some ⟨ad, 0, none⟩, 0⟩ : MTh) _ (Jh Qs (((bb.grown0 G.grw).gn V.grw).grown0 ab)) (Jh Yn (((E.blk.grown0 G.grw).gn V.grw).grown0 ab)) (by first | omega | exact Nat.le_of_ble_eq_true rfl | (simp only [List.length_nil, List.length_cons, List.length_append, List.length_replicate]; omega)) (by first | omega | exact Nat.le_of_ble_eq_true rfl | (simp only [List.length_nil, List.length_cons, List.length_append, List.length_replicate]; omega))) ?_)))))))
 rintro _ bw ⟨rfl, ak⟩
 refine Yg (b' := !thingOk (⟨k, l, 0, 0, [], [], to⟩ : Th)) Z Z Z (Xb (Y3 Z (Q6 hlit) (Xa (Yk (ps := []) (v := .agg #[vi 0, vi 0, vi 0, vi 0, vi 0, .slice none 0 0, .slice none 0 0, vi 0]) Xz (by kernel_rfl) Z (Xt (vs := [vi 0, vi 0, vi 0, vi 0, vi 0, .slice none 0 0, .slice none 0 0, vi 0]) (cs' := #[vi 0, vi 0, vi 0, vi 0, vi 0, .slice none 0 0, .slice none 0 0, vi 0]) Yz Z Z Z (by simp [Value.oneCell']) ((((ba.grown0 G.grw).gn V.grw).grown0 ab).grown0 ak) (Nat.le_of_ble_eq_true Z) Z ?_)))))
 intro bx af
 refine Xg (v := vb false) Z Z (Xb (Xq (Ye ?_)))
 refine ⟨.tuple #[.agg #[vi 0, vi 0, vi 0, vi 0, vi 0, .slice none 0 0, .slice none 0 0, vi 0], vb false], N0 Z (X7 (vs := [vi 0, vi 0, vi 0, vi 0, vi 0, .slice none 0 0, .slice none 0 0, vi 0]) Yz Z Z (af.blk.rangeL 0 8 Z)) Z, Z, (low1 (low0 (low0 (low1 (low0 aj G.grw) V.grw (by omega)) ab) ak) af.grw (by omega))⟩
end Go.Proofs.YtjpgffmkcmcolabDoor
end
section
namespace Go.Proofs.YtjpgffmkcmcolabDoor
open Go.RowKit Go.Dw
set_option maxRecDepth 100000
set_option maxHeartbeats 4000000
set_option linter.unusedSimpArgs false
set_option linter.unusedVariables false
theorem Tk : zeroTy Tryd.prog 32 = some (.agg #[.int .i64 0, .int .i64 0]) := by kernel_rfl
theorem Na (p : Int) (hp : 0 ≤ p ∧ p ≤ 1000000000000) (lo R : Nat) (bs : List Int) (a : Option Addr) (c : Nat) (w : World) (hR : Blk w R 63 #[.slice a bs.length c, vi p]) (hlo : lo ≤ R) (hs : SlLt lo w a 1 (bs.map bcell)) (hb : ∀ b ∈ bs, 0 ≤ b ∧ b ≤ 255) (hn : bs.length ≤ 1048576) : CallsR Tryd.prog 68 #[pt R 0] w (fun v w' => ∃ (l : Lab) (p' : Int), v = .agg #[vi l.s, vi l.v] ∧ -1 ≤ l.s ∧ l.s ≤ 4 ∧ 0 ≤ l.v ∧ l.v ≤ 3 ∧ p ≤ p' ∧ p' ≤ p + 4 ∧ Blk w' R 63 #[.slice a bs.length c, vi p'] ∧ w.grownBy w' (some R)) := by
 refine X0 (n := 25) Tryd.func68 Z Tryd.ntmps68 Z ?_
 have gl := World.grownBy.refl w (some R)
 have hRlt := hR.lt
 refine Xa (Yd (cs := #[vi 0, vi 0]) Tk Z Z ?_)
 intro cw c8 ba
 have k5 := X9 ba gl
 have eu := Xn ba (hR).lt
 have bj := low0 gl ba.grw
 refine Xb (Xs ?_)
 have gp := (hR.grown0 ba.grw)
 refine J3 (m := 12) [[], [], [1], [0, 1, 2], [0, 1, 2, 3], [], [], [1, 2, 6], [1, 2, 5, 6, 7], [1, 2, 5, 6, 7, 8], [0, 1, 2, 3, 4, 5, 6, 7, 8, 9], [], [0, 1, 2, 3, 4, 5, 6, 7, 8, 9, 10, 11]] (fun S F w' => ∃ (ab : Nat) (ad : Int) (V : Int) (ac : Nat) (ae : Int) (O : Int) (af : Nat), c8.grownBy w' (some R) ∧ F 0 = pt R 0 ∧ F 2 = pt cw 0 ∧ (S 2 = false → Blk w' R 63 #[.slice a bs.length c, vi p]) ∧ (S 0 = true → F 4 = .slice (pa ab) 5 5 ∧ w.heap.size ≤ ab ∧ Blk w' ab 3 (([0, 0, 1, 2, 3] : List Int).flatMap icell).toArray ∧ R < ab ∧ cw < ab ∧ c8.heap.size ≤ ab) ∧ (S 1 = true → F 5 = pt R 0) ∧ (S 2 = true → F 6 = vi ad ∧ 0 ≤ ad ∧ (ad < 5 ∨ ad = 0) ∧ (S 7 = false → Blk w' R 63 #[.slice a bs.length c, vi (p + 1)])) ∧ (S 3 = true → F 7 = pt ab ((ad).toNat * 1)) ∧ (S 4 = true → F 8 = vi V ∧ ([0, 0, 1, 2, 3] : List Int)[(ad).toNat]? = some V ∧ (V = 0 ∨ V = 0 ∨ V = 1 ∨ V = 2 ∨ V = 3)) ∧ (S 5 = true → F 9 = .slice (pa ac) 4 4 ∧ w.heap.size ≤ ac ∧ Blk w' ac 3 (([0, 0, 3, 1] : List Int).flatMap icell).toArray ∧ R < ac ∧ cw < ac ∧ c8.heap.size ≤ ac) ∧ (S 6 = true → F 10 = pt R 0) ∧ (S 7 = true → F 11 = vi ae ∧ 0 ≤ ae ∧ (ae < 4 ∨ ae = 0) ∧ Blk w' R 63 #[.slice a bs.length c, vi (p + 1 + 1)]) ∧ (S 8 = true → F 12 = pt ac ((ae).toNat * 1)) ∧ (S 9 = true → F 13 = vi O ∧ ([0, 0, 3, 1] : List Int)[(ae).toNat]? = some O ∧ (O = 0 ∨ O = 0 ∨ O = 3 ∨ O = 1)) ∧ (S 10 = true → F 14 = .agg #[vi V, vi O]) ∧ (S 11 = true → F 3 = pt af 0 ∧ w.heap.size ≤ af ∧ Blk w' af 32 #[vi 0, vi 0] ∧ R < af ∧ cw < af ∧ c8.heap.size ≤ af) ∧ (S 0 = true → S 5 = true → ab ≠ ac) ∧ (S 0 = true → S 11 = true → ab ≠ af) ∧ (S 5 = true → S 11 = true → ac ≠ af)) Qb (by kernel_rfl) ⟨0, 0, 0, 0, 0, 0, 0, Yf _, Z, Z, fun _ => (gp).grown0 (Yf _), Y4, Y4, Y4, Y4, Y4, Y4, Y4, Y4, Y4, Y4, Y4, Y4, Y4, Y4, Y4⟩ ?_ ?_
 refine X5 (fun S F mn hS hbef hcl hI => ?_) ?_
 obtain ⟨ab, ad, V, ac, ae, O, af, bz, fb, fc, c_old_R, ai, ah, aj, aq, av, ak, al, ap, aw, a9, au, ag, E, G, J⟩ := hI
 refine Xy (ps := [(0, vi 0), (1, vi 0), (2, vi 1), (3, vi 2), (4, vi 3)]) (e := 3) (cs := (([0, 0, 1, 2, 3] : List Int).flatMap icell).toArray) (Xk Z (Xk Z (Xk Z (Xk Z (Xk Z Xz))))) (fun _ => by kernel_rfl) Z ?_
 intro ez mo am
 have du := X9 am (grown_trans bj bz)
 have bp := Xn am ((ba.blk.gn bz)).lt
 exact Xb ⟨ez, ad, V, ac, ae, O, af, (low0 bz am.grw), fb, fc, fun h => (c_old_R h).grown0 am.grw, fun _ => ⟨Z, du, am.blk, (by omega), bp, (nt bz.size (Nat.le_of_eq am.eq.symm))⟩, ah, fun h => let ⟨gu, gv, gw, gx⟩ := aj h; ⟨gu, gv, gw, fun hn => (gx hn).grown0 am.grw⟩, Y1 3 hS hcl Z, Y1 4 hS hcl Z, fun h => let ⟨gy, gz, g0, g5, g6, g7⟩ := ak h; ⟨gy, gz, (g0).grown0 am.grw, g5, g6, g7⟩, al, fun h => let ⟨g8, g9, ia, ib⟩ := ap h; ⟨g8, g9, ia, (ib).grown0 am.grw⟩, aw, a9, Y1 10 hS hcl Z, fun h => let ⟨ic, ie, ig, ii, ij, ik⟩ := ag h; ⟨ic, ie, (ig).grown0 am.grw, ii, ij, ik⟩, fun _ h => let ⟨nh, ni, il, nj, nk, nn⟩ := ak h; Nat.ne_of_gt (nl (il).lt (Nat.le_of_eq am.eq.symm)), fun _ h => let ⟨no, np, im, nq, nr, nu⟩ := ag h; Nat.ne_of_gt (nl (im).lt (Nat.le_of_eq am.eq.symm)), J⟩
 refine X5 (fun S F mp hS hbef hcl hI => ?_) ?_
 obtain ⟨ab, ad, V, ac, ae, O, af, d4, dx, fd, c_old_R, ai, ah, aj, aq, av, ak, al, ap, aw, a9, au, ag, E, G, J⟩ := hI
 exact Xc (v := pt R 0) dx Z (Xb ⟨ab, ad, V, ac, ae, O, af, d4, dx, fd, fun h => c_old_R h, ai, fun _ => Z, Y1 2 hS hcl Z, Y1 3 hS hcl Z, Y1 4 hS hcl Z, ak, al, Y1 7 hS hcl Z, Y1 8 hS hcl Z, Y1 9 hS hcl Z, Y1 10 hS hcl Z, ag, E, G, J⟩)
 refine X5 (fun S F mq hS hbef hcl hI => ?_) ?_
 obtain ⟨ab, ad, V, ac, ae, O, af, dc, fe, ff, c_old_R, ai, ah, aj, aq, av, ak, al, ap, aw, a9, au, ag, E, G, J⟩ := hI
 obtain fg := ah (X4 1 hbef rfl)
 refine Xm Yt (Xf fg (Xf Z Xl)) Z (Yh p 5 (by omega) _ R bs _ _ _ (c_old_R hS) (by omega) (SlLt.low1 hs (grown_trans bj dc) hlo) (by first | exact hb | exact fun b h => hb b (List.mem_of_mem_take h)) (by first | omega | (rw [List.length_take]; omega))) ?_
 rintro _ mr ⟨gq, rfl, eb, ed, em, bv⟩
 exact Xb ⟨ab, gq, V, ac, ae, O, af, (grown_trans dc bv), fe, ff, fun h => Q7 h, fun h => let ⟨io, ip, iq, ir, it, iu⟩ := ai h; ⟨io, ip, (iq).gn bv, ir, it, iu⟩, ah, fun _ => ⟨Z, eb, ed, fun _ => em⟩, Y1 3 hS hcl Z, Y1 4 hS hcl Z, fun h => let ⟨iv, iw, ix, iy, iz, i0⟩ := ak h; ⟨iv, iw, (ix).gn bv, iy, iz, i0⟩, al, Y1 7 hS hcl Z, Y1 8 hS hcl Z, Y1 9 hS hcl Z, Y1 10 hS hcl Z, fun h => let ⟨i1, i2, i3, i4, i5, i6⟩ := ag h; ⟨i1, i2, (i3).gn bv, i4, i5, i6⟩, E, G, J⟩
 refine X5 (fun S F mt hS hbef hcl hI => ?_) ?_
 obtain ⟨ab, ad, V, ac, ae, O, af, d5, fh, fi, c_old_R, ai, ah, aj, aq, av, ak, al, ap, aw, a9, au, ag, E, G, J⟩ := hI
 obtain ⟨fj, cd, bc, bh, az, bm⟩ := ai (X4 0 hbef rfl)
 obtain le := ah (X4 1 hbef rfl)
 obtain ⟨fk, bk, bl, bg⟩ := aj (X4 2 hbef rfl)
 exact X1 (o' := (ad).toNat * 1) Je fj fk (by omega) (by omega) (by omega) Z (Xb ⟨ab, ad, V, ac, ae, O, af, d5, fh, fi, fun hn => Q7 ((X4 2 hbef Z).symm.trans hn), ai, ah, aj, fun _ => Z, Y1 4 hS hcl Z, ak, al, ap, aw, a9, Y1 10 hS hcl Z, ag, E, G, J⟩)
 refine X5 (fun S F mu hS hbef hcl hI => ?_) ?_
 obtain ⟨ab, ad, V, ac, ae, O, af, d6, fm, fo, c_old_R, ai, ah, aj, aq, av, ak, al, ap, aw, a9, au, ag, E, G, J⟩ := hI
 obtain ⟨lf, cd, bc, bh, az, bm⟩ := ai (X4 0 hbef rfl)
 obtain lg := ah (X4 1 hbef rfl)
 obtain ⟨lh, bk, bl, bg⟩ := aj (X4 2 hbef rfl)
 obtain fp := aq (X4 3 hbef rfl)
 obtain ⟨d2, co⟩ := Qa (l := ([0, 0, 1, 2, 3] : List Int)) (i := (ad).toNat) (lq (ad).toNat 5)
 have df := List.mem_of_getElem? co
 simp only [List.mem_cons, List.not_mem_nil, or_false] at df
 exact Xh (v := vi d2) X3 fp ((Y2 Yn bc co) 0 _ Z) Z (Xb ⟨ab, ad, d2, ac, ae, O, af, d6, fm, fo, fun hn => Q7 ((X4 2 hbef Z).symm.trans hn), ai, ah, aj, aq, fun _ => ⟨Z, co, df⟩, ak, al, ap, aw, a9, Y1 10 hS hcl Z, ag, E, G, J⟩)
 refine X5 (fun S F mv hS hbef hcl hI => ?_) ?_
 obtain ⟨ab, ad, V, ac, ae, O, af, ca, fq, fr, c_old_R, ai, ah, aj, aq, av, ak, al, ap, aw, a9, au, ag, E, G, J⟩ := hI
 refine Xy (ps := [(0, vi 0), (1, vi 0), (2, vi 3), (3, vi 1)]) (e := 3) (cs := (([0, 0, 3, 1] : List Int).flatMap icell).toArray) (Xk Z (Xk Z (Xk Z (Xk Z Xz)))) (fun _ => by kernel_rfl) Z ?_
 intro e0 mw an
 have dv := X9 an (grown_trans bj ca)
 have bq := Xn an ((ba.blk.gn ca)).lt
 exact Xb ⟨ab, ad, V, e0, ae, O, af, (low0 ca an.grw), fq, fr, fun h => (c_old_R h).grown0 an.grw, fun h => let ⟨i7, i8, i9, ja, jb, jc⟩ := ai h; ⟨i7, i8, (i9).grown0 an.grw, ja, jb, jc⟩, ah, fun h => let ⟨jd, je, jf, jg⟩ := aj h; ⟨jd, je, jf, fun hn => (jg hn).grown0 an.grw⟩, aq, av, fun _ => ⟨Z, dv, an.blk, (by omega), bq, (nt ca.size (Nat.le_of_eq an.eq.symm))⟩, al, fun h => let ⟨jh, ji, jj, jk⟩ := ap h; ⟨jh, ji, jj, (jk).grown0 an.grw⟩, Y1 8 hS hcl Z, Y1 9 hS hcl Z, Y1 10 hS hcl Z, fun h => let ⟨jl, jm, jo, jp, jq, jr⟩ := ag h; ⟨jl, jm, (jo).grown0 an.grw, jp, jq, jr⟩, fun h _ => let ⟨nv, nw, js, nx, ny, nz⟩ := ai h; Nat.ne_of_lt (nl (js).lt (Nat.le_of_eq an.eq.symm)), G, fun _ h => let ⟨n5, n7, jt, n9, oa, ob⟩ := ag h; Nat.ne_of_gt (nl (jt).lt (Nat.le_of_eq an.eq.symm))⟩
 refine X5 (fun S F my hS hbef hcl hI => ?_) ?_
 obtain ⟨ab, ad, V, ac, ae, O, af, d7, dy, ft, c_old_R, ai, ah, aj, aq, av, ak, al, ap, aw, a9, au, ag, E, G, J⟩ := hI
 exact Xc (v := pt R 0) dy Z (Xb ⟨ab, ad, V, ac, ae, O, af, d7, dy, ft, fun h => c_old_R h, ai, ah, aj, aq, av, ak, fun _ => Z, Y1 7 hS hcl Z, Y1 8 hS hcl Z, Y1 9 hS hcl Z, Y1 10 hS hcl Z, ag, E, G, J⟩)
 refine X5 (fun S F mz hS hbef hcl hI => ?_) ?_
 obtain ⟨ab, ad, V, ac, ae, O, af, de, fu, fv, c_old_R, ai, ah, aj, aq, av, ak, al, ap, aw, a9, au, ag, E, G, J⟩ := hI
 obtain li := ah (X4 1 hbef rfl)
 obtain ⟨lj, bk, bl, bg⟩ := aj (X4 2 hbef rfl)
 obtain fw := al (X4 6 hbef rfl)
 refine Xm Yt (Xf fw (Xf Z Xl)) Z (Yh (p + 1) 4 (by omega) _ R bs _ _ _ (bg hS) (by omega) (SlLt.low1 hs (grown_trans bj de) hlo) (by first | exact hb | exact fun b h => hb b (List.mem_of_mem_take h)) (by first | omega | (rw [List.length_take]; omega))) ?_
 rintro _ m3 ⟨gr, rfl, ee, ef, eo, bw⟩
 exact Xb ⟨ab, ad, V, ac, gr, O, af, (grown_trans de bw), fu, fv, fun hn => Q7 ((X4 2 hbef Z).symm.trans hn), fun h => let ⟨ju, jv, jw, jx, jy, jz⟩ := ai h; ⟨ju, jv, (jw).gn bw, jx, jy, jz⟩, ah, fun h => let ⟨j1, j2, j3, oc⟩ := aj h; ⟨j1, j2, j3, fun h => Q7 h⟩, aq, av, fun h => let ⟨j4, j5, j6, j7, j8, j9⟩ := ak h; ⟨j4, j5, (j6).gn bw, j7, j8, j9⟩, al, fun _ => ⟨Z, ee, ef, eo⟩, Y1 8 hS hcl Z, Y1 9 hS hcl Z, Y1 10 hS hcl Z, fun h => let ⟨ka, kb, kc, ke, kf, kg⟩ := ag h; ⟨ka, kb, (kc).gn bw, ke, kf, kg⟩, E, G, J⟩
 refine X5 (fun S F m4 hS hbef hcl hI => ?_) ?_
 obtain ⟨ab, ad, V, ac, ae, O, af, d8, fx, fy, c_old_R, ai, ah, aj, aq, av, ak, al, ap, aw, a9, au, ag, E, G, J⟩ := hI
 obtain lk := ah (X4 1 hbef rfl)
 obtain ⟨ll, bk, bl, bg⟩ := aj (X4 2 hbef rfl)
 obtain ⟨fz, ce, bd, bi, a8, bn⟩ := ak (X4 5 hbef rfl)
 obtain lm := al (X4 6 hbef rfl)
 obtain ⟨f8, cm, cn, cf⟩ := ap (X4 7 hbef rfl)
 exact X1 (o' := (ae).toNat * 1) Je fz f8 (by omega) (by omega) (by omega) Z (Xb ⟨ab, ad, V, ac, ae, O, af, d8, fx, fy, fun hn => Q7 ((X4 2 hbef Z).symm.trans hn), ai, ah, aj, aq, av, ak, al, ap, fun _ => Z, Y1 9 hS hcl Z, Y1 10 hS hcl Z, ag, E, G, J⟩)
 refine X5 (fun S F m5 hS hbef hcl hI => ?_) ?_
 obtain ⟨ab, ad, V, ac, ae, O, af, d9, f9, ga, c_old_R, ai, ah, aj, aq, av, ak, al, ap, aw, a9, au, ag, E, G, J⟩ := hI
 obtain ln := ah (X4 1 hbef rfl)
 obtain ⟨lp, bk, bl, bg⟩ := aj (X4 2 hbef rfl)
 obtain ⟨lu, ce, bd, bi, a8, bn⟩ := ak (X4 5 hbef rfl)
 obtain lv := al (X4 6 hbef rfl)
 obtain ⟨lw, cm, cn, cf⟩ := ap (X4 7 hbef rfl)
 obtain gb := aw (X4 8 hbef rfl)
 obtain ⟨d3, ct⟩ := Qa (l := ([0, 0, 3, 1] : List Int)) (i := (ae).toNat) (lq (ae).toNat 4)
 have dg := List.mem_of_getElem? ct
 simp only [List.mem_cons, List.not_mem_nil, or_false] at dg
 exact Xh (v := vi d3) X3 gb ((Y2 Yn bd ct) 0 _ Z) Z (Xb ⟨ab, ad, V, ac, ae, d3, af, d9, f9, ga, fun hn => Q7 ((X4 2 hbef Z).symm.trans hn), ai, ah, aj, aq, av, ak, al, ap, aw, fun _ => ⟨Z, ct, dg⟩, Y1 10 hS hcl Z, ag, E, G, J⟩)
 refine X5 (fun S F m6 hS hbef hcl hI => ?_) ?_
 obtain ⟨ab, ad, V, ac, ae, O, af, ea, gc, gf, c_old_R, ai, ah, aj, aq, av, ak, al, ap, aw, a9, au, ag, E, G, J⟩ := hI
 obtain ⟨lx, cd, bc, bh, az, bm⟩ := ai (X4 0 hbef rfl)
 obtain ly := ah (X4 1 hbef rfl)
 obtain ⟨lz, bk, bl, bg⟩ := aj (X4 2 hbef rfl)
 obtain l0 := aq (X4 3 hbef rfl)
 obtain ⟨gg, ej, eg⟩ := av (X4 4 hbef rfl)
 obtain ⟨l3, ce, bd, bi, a8, bn⟩ := ak (X4 5 hbef rfl)
 obtain l4 := al (X4 6 hbef rfl)
 obtain ⟨l5, cm, cn, cf⟩ := ap (X4 7 hbef rfl)
 obtain l6 := aw (X4 8 hbef rfl)
 obtain ⟨gh, ek, eh⟩ := a9 (X4 9 hbef rfl)
 have bt := E (X4 0 hbef rfl) (X4 5 hbef rfl)
 exact Yk (ps := [(0, vi V), (1, vi O)]) (v := .agg #[vi V, vi O]) (Xk gg (Xk gh Xz)) (by kernel_rfl) Z (Xb ⟨ab, ad, V, ac, ae, O, af, ea, gc, gf, fun hn => Q7 ((X4 2 hbef Z).symm.trans hn), ai, ah, aj, aq, av, ak, al, ap, aw, a9, fun _ => Z, ag, E, G, J⟩)
 refine X5 (fun S F m7 hS hbef hcl hI => ?_) ?_
 obtain ⟨ab, ad, V, ac, ae, O, af, cc, gi, gj, c_old_R, ai, ah, aj, aq, av, ak, al, ap, aw, a9, au, ag, E, G, J⟩ := hI
 refine Yd (cs := #[vi 0, vi 0]) Tk Z Z ?_
 intro fa m8 ao
 have dw := X9 ao (grown_trans bj cc)
 have br := Xn ao ((ba.blk.gn cc)).lt
 exact Xb ⟨ab, ad, V, ac, ae, O, fa, (low0 cc ao.grw), gi, gj, fun h => (c_old_R h).grown0 ao.grw, fun h => let ⟨kh, ki, kj, kk, kl, km⟩ := ai h; ⟨kh, ki, (kj).grown0 ao.grw, kk, kl, km⟩, ah, fun h => let ⟨kn, ko, kp, kq⟩ := aj h; ⟨kn, ko, kp, fun hn => (kq hn).grown0 ao.grw⟩, aq, av, fun h => let ⟨kr, ks, kt, ku, kv, kw⟩ := ak h; ⟨kr, ks, (kt).grown0 ao.grw, ku, kv, kw⟩, al, fun h => let ⟨kx, ky, kz, k0⟩ := ap h; ⟨kx, ky, kz, (k0).grown0 ao.grw⟩, aw, a9, au, fun _ => ⟨Z, dw, ao.blk, (by omega), br, (nt cc.size (Nat.le_of_eq ao.eq.symm))⟩, E, fun h _ => let ⟨od, oe, k3, og, oh, ol⟩ := ai h; Nat.ne_of_lt (nl (k3).lt (Nat.le_of_eq ao.eq.symm)), fun h _ => let ⟨om, oo, k4, oq, ot, ou⟩ := ak h; Nat.ne_of_lt (nl (k4).lt (Nat.le_of_eq ao.eq.symm))⟩
 exact Ke
 intro S F m9 hall hI
 obtain ⟨ab, ad, V, ac, ae, O, af, cl, dz, cy, c_old_R, ai, ah, aj, aq, av, ak, al, ap, aw, a9, au, ag, E, G, J⟩ := hI
 obtain ⟨l7, cd, bc, bh, az, bm⟩ := ai (hall 0 (by decide))
 obtain l8 := ah (hall 1 (by decide))
 obtain ⟨l9, bk, bl, bg⟩ := aj (hall 2 (by decide))
 obtain ma := aq (hall 3 (by decide))
 obtain ⟨mb, ej, eg⟩ := av (hall 4 (by decide))
 obtain ⟨mc, ce, bd, bi, a8, bn⟩ := ak (hall 5 (by decide))
 obtain me := al (hall 6 (by decide))
 obtain ⟨mf, cm, cn, cf⟩ := ap (hall 7 (by decide))
 obtain mg := aw (hall 8 (by decide))
 obtain ⟨mh, ek, eh⟩ := a9 (hall 9 (by decide))
 obtain gk := au (hall 10 (by decide))
 obtain ⟨cz, k6, dk, ew, dl, gm⟩ := ag (hall 11 (by decide))
 have bt := E (hall 0 (by decide)) (hall 5 (by decide))
 have dr := G (hall 0 (by decide)) (hall 11 (by decide))
 have dt := J (hall 5 (by decide)) (hall 11 (by decide))
 refine Xt (vs := [vi V, vi O]) (cs' := #[vi V, vi O]) Ji cz gk Z (by simp [Value.oneCell']) dk (Nat.le_of_ble_eq_true Z) Z ?_
 intro na bb
 have da := low1 (grown_trans bj cl) bb.grw (by omega)
 refine Xb (Xr (Xs (Xa (Xc (v := pt R 0) dz Z (Xm Yt (Xf Z (Xf Z Xl)) Z (Yh (p + 1 + 1) 60 (by omega) _ R bs _ _ _ (cf.gn bb.grw) (by omega) (SlLt.low1 hs da hlo) (by first | exact hb | exact fun b h => hb b (List.mem_of_mem_take h)) (by first | omega | (rw [List.length_take]; omega))) ?_)))))
 rintro _ nb ⟨gt, rfl, k8, k9, cv, bf⟩
 have ck := grown_trans da bf
 refine Xw (q := decide (gt = 0)) Z Z Z Z (Xb (Xu Z (fun c9 => ?_) (fun c9 => ?_)))
 have ml := of_decide_eq_true c9
 refine Xx (Xy (ps := [(0, vi (-1)), (1, vi 4)]) (e := 3) (cs := (([(-1), 4] : List Int).flatMap icell).toArray) (Xk Z (Xk Z Xz)) (fun _ => by kernel_rfl) Z ?_)
 intro ld nc ar
 have k7 := X9 ar ck
 have d0 := (((ba.blk.gn cl).gn bb.grw).gn bf)
 have dm := Xn ar (d0).lt
 have dn := Xn ar (((bc.gn bb.grw).gn bf)).lt
 have dp := Xn ar (((bd.gn bb.grw).gn bf)).lt
 have ex := Xn ar (cv).lt
 have d1 := (bb.blk.gn bf)
 have dq := Xn ar (d1).lt
 have db := low0 ck ar.grw
 refine Xc (v := pt R 0) dz Z (Xm Yt (Xf Z (Xf Z Xl)) Z (Yh (p + 1 + 1 + 1) 2 (by omega) _ R bs _ _ _ (cv.grown0 ar.grw) (by omega) (SlLt.low1 hs db hlo) (by first | exact hb | exact fun b h => hb b (List.mem_of_mem_take h)) (by first | omega | (rw [List.length_take]; omega))) ?_)
 rintro _ nd ⟨di, rfl, la, lc, ep, bx⟩
 refine X1 (o' := (di).toNat * 1) Je Z Z (by omega) (by omega) (by omega) Z ?_
 obtain ⟨be, dh⟩ := Qa (l := ([(-1), 4] : List Int)) (i := (di).toNat) (lq (di).toNat 2)
 have ei := List.mem_of_getElem? dh
 simp only [List.mem_cons, List.not_mem_nil, or_false] at ei
 refine Xh (v := vi be) X3 Z ((Y2 Yn (ar.blk.gn bx) dh) 0 _ Z) Z (Xd (o' := 0) K7 cz Z Z (Yb (v := vi be) (cs' := #[vi be, vi O]) X3 Z Z Z ((d1.grown0 ar.grw).gn bx) (Nat.le_of_ble_eq_true Z) Z ?_))
 intro ne bu
 refine Xb (Xr (Xa (Xp (vs := [vi be, vi O]) Ji cz Z (bu.blk.rangeL 0 2 Z) Z (Xt (vs := [vi be, vi O]) (cs' := #[vi be, vi O]) Ji cy Z Z (by simp [Value.oneCell']) (((d0.grown0 ar.grw).gn bx).gn bu.grw) (Nat.le_of_ble_eq_true Z) Z ?_))))
 intro nf cg
 refine Xb (Xq ?_)
 refine ⟨.agg #[vi be, vi O], Qo Z (X7 (vs := [vi be, vi O]) Ji cy Z (cg.blk.rangeL 0 2 Z)), ⟨be, O⟩, (p + 1 + 1 + 1 + 1), Z, show (-1 : Int) ≤ be by omega, show be ≤ (4 : Int) by omega, show (0 : Int) ≤ O by omega, show O ≤ (3 : Int) by omega, by omega, by omega, ((ep.gn bu.grw).gn cg.grw), (low1 (low1 (grown_trans db bx) bu.grw (by omega)) cg.grw (by omega))⟩
 have mm := of_decide_eq_false c9
 refine Xv (Xr (Xa (Xp (vs := [vi V, vi O]) Ji cz Z ((bb.blk.gn bf).rangeL 0 2 Z) Z (Xt (vs := [vi V, vi O]) (cs' := #[vi V, vi O]) Ji cy Z Z (by simp [Value.oneCell']) (((ba.blk.gn cl).gn bb.grw).gn bf) (Nat.le_of_ble_eq_true Z) Z ?_))))
 intro ng cj
 refine Xb (Xq ?_)
 refine ⟨.agg #[vi V, vi O], Qo Z (X7 (vs := [vi V, vi O]) Ji cy Z (cj.blk.rangeL 0 2 Z)), ⟨V, O⟩, (p + 1 + 1 + 1), Z, show (-1 : Int) ≤ V by omega, show V ≤ (4 : Int) by omega, show (0 : Int) ≤ O by omega, show O ≤ (3 : Int) by omega, by omega, by omega, (cv.gn cj.grw), (low1 ck cj.grw (by omega))⟩
end Go.Proofs.YtjpgffmkcmcolabDoor
end
section
namespace Go.Dw
def MTh.zero : MTh := ⟨Th.zero, none, 0, none, 0⟩
def mAt (ms : List MTh) (i : Nat) : MTh := ms.getD i MTh.zero
theorem Qw {ms : List MTh} {i : Nat} (h : i < ms.length) : ms[i]? = some (mAt ms i) := by
  unfold mAt
  rw [List.getD_eq_getElem?_getD, List.getElem?_eq_getElem h]
  rfl
def rAt (xs : List Rt) (i : Nat) : Rt := xs.getD i Rt.zero
theorem Kb {xs : List Rt} {i : Nat} (h : i < xs.length) : xs[i]? = some (rAt xs i) := by
  unfold rAt
  rw [List.getD_eq_getElem?_getD, List.getElem?_eq_getElem h]
  rfl
def thAt (ts : List Th) (k : Int) : Th := ts.getD (k - 1).toNat Th.zero
def tabT (ms : List MTh) : List Th := ms.map (·.t)
theorem Q9 (ms : List MTh) : (tabT ms).length = ms.length := List.length_map _
theorem M2 (ms : List MTh) (i : Nat) : (mAt ms i).t = (tabT ms).getD i Th.zero := by
  unfold mAt tabT
  rw [List.getD_eq_getElem?_getD, List.getD_eq_getElem?_getD, List.getElem?_map]
  cases ms[i]? <;> rfl
theorem J9 (ms : List MTh) (k : Int) : (mAt ms (k - 1).toNat).t = thAt (tabT ms) k := M2 ms _
def kindAt (ts : List Th) (k kd : Int) : Bool := inR k 1 (ts.length : Int) && decide ((thAt ts k).kind = kd)
def gateOk (ts : List Th) (t : Th) : Bool := !(decide (t.kind = 5)) || kindAt ts t.to 1
def rightTo (ts : List Th) (r : Rt) : Bool := decide (r.th = 0) || (inR r.th 1 (ts.length : Int) && decide (r.ve ≤ (thAt ts r.th).ve))
def tableOk (ts : List Th) : Bool := inR (ts.length : Int) 1 8 && (ts.all (fun t => thingOk t && gateOk ts t) && ts.all (fun t => t.slots.all (rightTo ts)))
theorem Qg {t : Th} (h : thingOk t = true) : inR t.kind 1 5 = true ∧ labelOk t.lab = true ∧ versOk t = true ∧ numOk t = true ∧ slotsOk t = true ∧ queueOk t = true ∧ targetOk t = true := by
  unfold thingOk at h
  simp only [Bool.and_eq_true] at h
  obtain ⟨⟨⟨⟨⟨⟨h1, h2⟩, h3⟩, h4⟩, h5⟩, h6⟩, h7⟩ := h
  exact ⟨h1, h2, h3, h4, h5, h6, h7⟩
theorem Yu {n lo hi : Int} : inR n lo hi = true ↔ lo ≤ n ∧ n ≤ hi := by simp [inR]
theorem U2 {t : Th} (h : thingOk t = true) (hk : decide (t.kind = 5) = true) : 1 ≤ t.to ∧ t.to ≤ 8 := by
  have h7 := (Qg h).2.2.2.2.2.2
  unfold targetOk at h7
  rw [if_pos (of_decide_eq_true hk)] at h7
  exact Yu.1 h7
theorem Wx {t : Th} (h : thingOk t = true) : t.slots.all rightOk = true := by
  rw [J1] at h
  simp only [Bool.and_eq_true] at h
  exact h.1.1.2
theorem Lc {r : Rt} (h : rightOk r = true) : 0 ≤ r.th ∧ r.th ≤ 8 := by
  unfold rightOk at h
  simp only [Bool.or_eq_true, Bool.and_eq_true, decide_eq_true_eq] at h
  rcases h with rfl | ⟨⟨h1, _⟩, _⟩
  · exact ⟨by decide, by decide⟩
  · have := Yu.1 h1
    omega
theorem Ww {t : Th} {k : Nat} {r : Rt} (h : thingOk t = true) (hk : t.slots[k]? = some r) : 0 ≤ r.th ∧ r.th ≤ 8 :=
  Lc (List.all_eq_true.1 (Wx h) r (List.mem_of_getElem? hk))
def rowOk (ts : List Th) (t : Th) : Bool := (thingOk t && gateOk ts t) && t.slots.all (rightTo ts)
theorem J6 (ts : List Th) : tableOk ts = (inR (ts.length : Int) 1 8 && ts.all (rowOk ts)) := by
  unfold tableOk rowOk
  congr 1
  generalize rightTo ts = p
  rw [Bool.eq_iff_iff]
  simp only [Bool.and_eq_true, List.all_eq_true]
  exact ⟨fun h x hx => ⟨h.1 x hx, h.2 x hx⟩, fun h => ⟨fun x hx => (h x hx).1, fun x hx => (h x hx).2⟩⟩
theorem Wu {ms : List MTh} {k : Nat} (h : k < ms.length) : (tabT ms)[k]? = some (mAt ms k).t := by
  unfold tabT
  rw [List.getElem?_map, Qw h]
  rfl
theorem R1 {ms : List MTh} {k : Nat} (h : k < ms.length) (hr : rowOk (tabT ms) (mAt ms k).t = false) : false = tableOk (tabT ms) := by
  rw [J6, Jf (p := rowOk (tabT ms)) (Wu h) hr, Bool.and_false]
theorem Sw {ms : List MTh} {k : Nat} (h : (((tabT ms).take k).all (rowOk (tabT ms))) = true) (hk : ms.length ≤ k) : inR (ms.length : Int) 1 8 = tableOk (tabT ms) := by
  rw [J6, Jl h (by rw [Q9]; exact hk), Bool.and_true, Q9]
theorem Kz {ms : List MTh} {t : Th} {z : Bool} (hz : z = ((!thingOk t) || ((decide (t.kind = 5)) && ((decide ((ms.length : Int) < t.to)) || (!(decide ((mAt ms (t.to - 1).toNat).t.kind = 1))))))) :
    (z = true → rowOk (tabT ms) t = false) ∧ (z = false → thingOk t = true ∧ gateOk (tabT ms) t = true) := by
  subst hz
  cases ht : thingOk t with
  | false => simp [rowOk, ht]
  | true =>
    by_cases h5 : t.kind = 5
    · have hb := U2 ht (decide_eq_true h5)
      simp only [rowOk, gateOk, kindAt, ht, h5, J9, Q9, inR]
      by_cases hl : t.to ≤ (ms.length : Int)
      · have h1 : ¬ (ms.length : Int) < t.to := by omega
        by_cases hk : (thAt (tabT ms) t.to).kind = 1 <;> simp [h1, hl, hb.1, hk]
      · have h1 : (ms.length : Int) < t.to := by omega
        simp [h1, hl]
    · simp [gateOk, h5]
theorem Gj {ms : List MTh} {r : Rt} (h0 : 0 ≤ r.th) : ((decide ((ms.length : Int) < r.th)) || ((decide (0 < r.th)) && (decide ((mAt ms (r.th - 1).toNat).t.ve < r.ve)))) = !rightTo (tabT ms) r := by
  unfold rightTo inR
  rw [J9, Q9, Bool.eq_iff_iff]
  simp
  omega
theorem Sq {ms : List MTh} {t : Th} {k : Nat} {r : Rt} (hr : t.slots[k]? = some r) (h : rightTo (tabT ms) r = false) : rowOk (tabT ms) t = false := by
  unfold rowOk
  rw [Jf hr h, Bool.and_false]
theorem Sr {ms : List MTh} {t : Th} {j : Nat} (ht : thingOk t = true) (hg : gateOk (tabT ms) t = true) (h : ((t.slots.take j).all (rightTo (tabT ms))) = true) (hj : t.slots.length ≤ j) : rowOk (tabT ms) t = true := by
  unfold rowOk
  rw [ht, hg, Jl h hj]
  rfl
def TabLen (ms : List MTh) : Prop := ∀ m ∈ ms, m.t.slots.length ≤ 1048576 ∧ m.t.queue.length ≤ 1048576
theorem TabLen.at {ms : List MTh} (h : TabLen ms) {k : Nat} {m : MTh} (hk : ms[k]? = some m) : m.t.slots.length ≤ 1048576 ∧ m.t.queue.length ≤ 1048576 := h m (List.mem_of_getElem? hk)
end Go.Dw
end
section
namespace Go.Dw
abbrev mj (ms : List MTh) (k : Int) : MTh := mAt ms (k - 1).toNat
abbrev sj (ms : List MTh) (q : Cl) : Rt := rAt (mAt ms (q.run - 1).toNat).t.slots q.a.toNat
theorem xg (ms : List MTh) (i : Nat) (h : i < ms.length := by omega) : ms[i]? = some (mAt ms i) := Qw h
theorem xr (xs : List Rt) (i : Nat) (h : i < xs.length := by omega) : xs[i]? = some (rAt xs i) := Kb h
end Go.Dw
end
section
namespace Go.Dw
def SlX (X : Option Nat) (w : World) (a : Option Addr) (sz : Nat) (xs : List (List Value)) : Prop := ∀ k x, xs[k]? = some x → ∃ b o, a = some ⟨b, o, none⟩ ∧ some b ≠ X ∧ w.rangeAt b (o + k * sz) x
section
variable {X : Option Nat} {w w' : World} {a : Option Addr} {sz : Nat} {xs : List (List Value)}
theorem SlX.sl (h : SlX X w a sz xs) : SlAt w a sz xs := fun k x hk => by
  obtain ⟨b, o, ha, _, hr⟩ := h k x hk
  exact ⟨b, o, ha, hr⟩
theorem SlX.low (h : SlX X w a sz xs) (hg : w.grownBy w' none) : SlX X w' a sz xs := fun k x hk => by
  obtain ⟨b, o, ha, hb, hr⟩ := h k x hk
  exact ⟨b, o, ha, hb, Qy hr hg (by simp)⟩
theorem SlX.grown (h : SlX X w a sz xs) (hg : w.grownBy w' X) : SlX X w' a sz xs := fun k x hk => by
  obtain ⟨b, o, ha, hb, hr⟩ := h k x hk
  exact ⟨b, o, ha, hb, Qy hr hg hb⟩
theorem SlX.nil : SlX X w a sz [] := fun k x hk => by simp at hk
theorem SlX.rows {α : Type} {g : α → List Value} (hg : Wide g sz) {ys : List α} {B : Nat} {T : TypeId} (h : Blk w B T (ys.flatMap g).toArray) (hB : some B ≠ X) : SlX X w (some ⟨B, 0, none⟩) sz (ys.map g) := fun k x hk => by
  obtain ⟨b, o, ha, hr⟩ := Jh hg h k x hk
  simp only [Option.some.injEq, Addr.mk.injEq] at ha
  obtain ⟨rfl, rfl, _⟩ := ha
  exact ⟨_, _, rfl, hB, hr⟩
theorem SlX.own {α : Type} {g : α → List Value} (hg : Wide g sz) {ys : List α} {B cap n : Nat} {T : TypeId} (h : Own w B T sz cap n (ys.flatMap g)) (hB : some B ≠ X) : SlX X w (some ⟨B, 0, none⟩) sz (ys.map g) := fun k x hk => by
  obtain ⟨b, o, ha, hr⟩ := Own.sl hg h k x hk
  simp only [Option.some.injEq, Addr.mk.injEq] at ha
  obtain ⟨rfl, rfl, _⟩ := ha
  exact ⟨_, _, rfl, hB, hr⟩
theorem SlX.ownN {α : Type} {g : α → List Value} (hg : Wide g sz) (h0 : 0 < sz) {ys : List α} {cap n lo : Nat} {T : TypeId} (h : OwnN lo w a T sz cap n (ys.flatMap g)) (hB : ∀ b, X = some b → b < lo) : SlX X w a sz (ys.map g) := fun k x hk => by
  obtain ⟨b, o, ha, hr⟩ := OwnN.sl hg h0 h k x hk
  refine ⟨b, o, ha, fun e => ?_, hr⟩
  have h1 := hB b e.symm
  rcases h.form with ⟨h2, _⟩ | ⟨B, h2, h3, _⟩
  · rw [h2] at ha; cases ha
  · rw [h2] at ha
    simp only [Option.some.injEq, Addr.mk.injEq] at ha
    omega
end
def ThX (X : Option Nat) (w : World) (m : MTh) : Prop := SlX X w m.sa 5 (m.t.slots.map Rt.cells) ∧ SlX X w m.qa 1 (m.t.queue.map icell) ∧ (m.sa = none → m.sc = 0) ∧ (m.qa = none → m.qc = 0)
def TabX (X : Option Nat) (w : World) (a : Option Addr) (ms : List MTh) : Prop := SlX X w a 8 (ms.map MTh.cells) ∧ ∀ m ∈ ms, ThX X w m
section
variable {X : Option Nat} {w w' : World} {a : Option Addr} {m : MTh} {ms : List MTh}
theorem ThX.at (h : ThX X w m) : ThAt w m := ⟨h.1.sl, h.2.1.sl, h.2.2⟩
theorem ThX.low (h : ThX X w m) (hg : w.grownBy w' none) : ThX X w' m := ⟨h.1.low hg, h.2.1.low hg, h.2.2⟩
theorem ThX.grown (h : ThX X w m) (hg : w.grownBy w' X) : ThX X w' m := ⟨h.1.grown hg, h.2.1.grown hg, h.2.2⟩
theorem TabX.at (h : TabX X w a ms) : TabAt w a ms := ⟨h.1.sl, fun m hm => (h.2 m hm).at⟩
theorem TabX.low (h : TabX X w a ms) (hg : w.grownBy w' none) : TabX X w' a ms := ⟨h.1.low hg, fun m hm => (h.2 m hm).low hg⟩
theorem TabX.grown (h : TabX X w a ms) (hg : w.grownBy w' X) : TabX X w' a ms := ⟨h.1.grown hg, fun m hm => (h.2 m hm).grown hg⟩
theorem TabX.th (h : TabX X w a ms) {k : Nat} (hk : ms[k]? = some m) : ThX X w m := h.2 m (List.mem_of_getElem? hk)
end
theorem TabLen.of {ys ms : List MTh} (h : tabT ys = tabT ms) (hl : TabLen ms) : TabLen ys := fun m hm => by
  have h1 : m.t ∈ tabT ms := by rw [← h]; exact List.mem_map.2 ⟨m, hm, rfl⟩
  obtain ⟨m', hm', e⟩ := List.mem_map.1 h1
  have := hl m' hm'
  rwa [e] at this
def TabBig (ms : List MTh) : Prop := ∀ m ∈ ms, m.t.slots.length ≤ 9223372036854775807 ∧ m.t.queue.length ≤ 9223372036854775807
theorem TabBig.at {ms : List MTh} (h : TabBig ms) {k : Nat} {m : MTh} (hk : ms[k]? = some m) : m.t.slots.length ≤ 9223372036854775807 ∧ m.t.queue.length ≤ 9223372036854775807 := h m (List.mem_of_getElem? hk)
theorem N2 {ms : List MTh} (h : tableOk (tabT ms) = true) {i : Nat} (hi : i < ms.length) : rowOk (tabT ms) (mAt ms i).t = true := by
  rw [J6] at h
  exact List.all_eq_true.1 (Bool.and_eq_true_iff.1 h).2 _ (List.mem_of_getElem? (Wu hi))
theorem Gm {ms : List MTh} (h : tableOk (tabT ms) = true) {i : Nat} (hi : i < ms.length) : thingOk (mAt ms i).t = true := by
  have h1 := N2 h hi
  unfold rowOk at h1
  simp only [Bool.and_eq_true] at h1
  exact h1.1.1
theorem Kw {ms : List MTh} (h : tableOk (tabT ms) = true) {i : Nat} (hi : i < ms.length) : labelOk (mAt ms i).t.lab = true := (Qg (Gm h hi)).2.1
theorem Hi {ms : List MTh} (h : tableOk (tabT ms) = true) : 1 ≤ ms.length ∧ ms.length ≤ 8 := by
  unfold tableOk at h
  have h1 := Yu.1 (Bool.and_eq_true_iff.1 h).1
  rw [Q9] at h1
  omega
theorem Ua {ms : List MTh} {k kd : Int} : (inR k 1 (ms.length : Int) && decide ((mAt ms (k - 1).toNat).t.kind = kd)) = kindAt (tabT ms) k kd := by
  unfold kindAt
  rw [J9, Q9]
end Go.Dw
end
section
namespace Go.Proofs.YtjpgffmkcmcolabDoor
open Go.RowKit Go.Dw
set_option maxRecDepth 100000
set_option maxHeartbeats 4000000
set_option linter.unusedSimpArgs false
set_option linter.unusedVariables false
theorem Y7 : elemSz Tryd.prog 23 = some 8 := by kernel_rfl
theorem Gb : goFn Tryd.prog 25 = true := by kernel_rfl
theorem Jk (k : Int) (w : World) (a : Option Addr) (n c : Nat) : CallsR Tryd.prog 25 #[.slice a n c, vi k] w (fun v w' => v = vb (inR k 1 (n : Int)) ∧ w.grownBy w' none) := by
 refine X0 (n := 9) Tryd.func25 Z Tryd.ntmps25 Z (Xa (Xg (v := vb false) Z Z (Xb (Xa (Xc (v := vi k) Z Z (Xc (v := .slice a n c) Z Z (Yj (by kernel_rfl) Z Z (Xm Kg (Xf Z (Xf Z (Xf Z Xl))) Z (Qt k 1 (n : Int) _) ?_))))))))
 rintro _ G ⟨rfl, E⟩
 refine Xg (v := vb (inR k 1 (n : Int))) Z Z (Xb (Xq (⟨vb (inR k 1 (n : Int)), Yy Z Z, ?_, (low0 (World.grownBy.refl w none) E)⟩)))
 rfl
theorem Wj (k kd : Int) (hk : -9223372036854775807 ≤ k) (w : World) (ms : List MTh) (a : Option Addr) (c : Nat) (ht : TabAt w a ms) (hlen : TabLen ms) (hn : ms.length ≤ 1048576) : CallsR Tryd.prog 24 #[.slice a ms.length c, vi k, vi kd] w (fun v w' => v = vb (kindAt (tabT ms) k kd) ∧ w.grownBy w' none) := by
 refine X0 (n := 20) Tryd.func24 Z Tryd.ntmps24 Z ?_
 have ae := World.grownBy.refl w none
 refine Xa (Xg (v := vb false) Z Z (Xb (X2 (fun f' w' => (f' 6 = vb (inR k 1 (ms.length : Int) && (decide ((mj ms k).t.kind = kd)))) ∧ w.grownBy w' none) ?_ ?_)))
 refine Xc (v := .slice a ms.length c) Z Z (Xc (v := vi k) Z Z (Xm Gb (Xf Z (Xf Z Xl)) Z (Jk k _ _ _ _) ?_))
 rintro _ al ⟨rfl, G⟩
 have O := low0 ae G
 refine Xc (v := vb (inR k 1 (ms.length : Int))) Z Z ?_
 rcases X6 (inR k 1 (ms.length : Int)) with E | E
 have ah := Yu.1 E
 refine Xe Z Z Z E (Xc (v := .slice a ms.length c) Z Z (Xe Z Z Z E (Xc (v := vi k) Z Z (Xe Z Z Z E (Y0 (c := k - 1) Z Z (by omega) (by omega) (by omega) Z (Xe Z Z Z E ?_))))))
 obtain ⟨ai, ak, af, J, ab, ac⟩ := SlAt.at (TabAt.low ht O).1 (Yi (xg ms (k - 1).toNat))
 have ag := TabLen.at hlen (xg ms (k - 1).toNat)
 exact X8 Y7 Z Z J ab (by omega) (by omega) Z (Xe Z Z Z E (Xd (o' := af) Yl Z Z Z (Xe Z Z Z E (Xh (v := vi (mj ms k).t.kind) X3 Z (ac 0 _ Z) Z (Xe Z Z Z E (Xc (v := vi kd) Z Z (Xe Z Z Z E (Xw (q := decide ((mj ms k).t.kind = kd)) Z Z Z Z (Xo (v := vb (decide ((mj ms k).t.kind = kd))) Z E Z Z (Xg (v := vb (decide ((mj ms k).t.kind = kd))) Z Z (Xb ⟨(cB (by simp [E])), G⟩)))))))))))
 iterate 8 refine Xi rfl rfl rfl E rfl ?_
 exact Xj (v := vb false) Z E Z Z (Xg (v := vb false) Z Z (Xb ⟨(cB (by simp [E])), G⟩))
 rintro aj am ⟨ad, V⟩
 refine Xq (⟨vb (inR k 1 (ms.length : Int) && (decide ((mj ms k).t.kind = kd))), Yy Z ad, ?_, (low0 ae V)⟩)
 exact cB Ua
theorem Vc (w : World) (ms : List MTh) (a : Option Addr) (c : Nat) (ht : TabAt w a ms) (hlen : TabLen ms) (hn : ms.length ≤ 1048576) : CallsR Tryd.prog 8 #[.slice a ms.length c] w (fun v w' => v = vb (tableOk (tabT ms)) ∧ w.grownBy w' none) := by
 refine X0 (n := 92) Tryd.func8 Z Tryd.ntmps8 Z (Xa (Xg (v := vb false) Z Z (Xb (Xs (Xa (Xg (v := vi 0) Z Z (Xb (Ya (Qj (fun mm f' w' => ∃ (k : Nat), mm = ms.length - k ∧ k ≤ ms.length ∧ (((tabT ms).take k).all (rowOk (tabT ms))) = true ∧ f' 3 = vi (k : Int) ∧ f' 0 = .slice a ms.length c ∧ w.grownBy w' none) (ms.length - 0) ⟨0, Z, (Nat.zero_le _), Z, Z, Z, (World.grownBy.refl w none)⟩ ?_)))))))))
 rintro mm dt dc ⟨k, dl, hk, hall, ah, ab, ai⟩
 refine Xs (Xa (Xc (v := vi (k : Int)) ah Z (Xc (v := .slice a ms.length c) ab Z (Yj (by kernel_rfl) Z Z (Qh (q := decide ((k : Int) < (ms.length : Int))) Z Z Z Z (Xb (Xu Z (fun ag => ?_) (fun ag => ?_))))))))
 have dx := of_decide_eq_true ag
 refine Xv (Xr (Xs (Ya (Xs (X2 (fun f' w' => (f' 0 = .slice a ms.length c ∧ f' 3 = vi (k : Int) ∧ f' 48 = vb ((!thingOk (mAt ms k).t) || ((decide ((mAt ms k).t.kind = 5)) && ((decide ((ms.length : Int) < (mAt ms k).t.to)) || (!(decide ((mj ms (mAt ms k).t.to).t.kind = 1))))))) ∧ dc.grownBy w' none) ?_ ?_)))))
 refine Xc (v := .slice a ms.length c) ab Z (Xc (v := vi (k : Int)) ah Z ?_)
 obtain ⟨dn, ed, bg, an, ao, ap⟩ := SlAt.at (TabAt.low ht ai).1 (Yi (xg ms k))
 have dg := TabLen.at hlen (xg ms k)
 refine X8 Y7 Z Z an ao (by omega) (by omega) Z (Xp (vs := [vi (mAt ms k).t.kind, vi (mAt ms k).t.lab.s, vi (mAt ms k).t.lab.v, vi (mAt ms k).t.ve, vi (mAt ms k).t.num, .slice (mAt ms k).sa (mAt ms k).t.slots.length (mAt ms k).sc, .slice (mAt ms k).qa (mAt ms k).t.queue.length (mAt ms k).qc, vi (mAt ms k).t.to]) Yz Z Z (Qi ap 0 8 Z) Z (Xm H1 (Xf Z Xl) Z (Kn (mAt ms k) _ (TabAt.th (TabAt.low ht ai) (xg ms k)).1 (TabAt.th (TabAt.low ht ai) (xg ms k)).2.1 (by first | omega | exact Nat.le_of_ble_eq_true rfl | (simp only [List.length_nil, List.length_cons, List.length_append, List.length_replicate]; omega)) (by first | omega | exact Nat.le_of_ble_eq_true rfl | (simp only [List.length_nil, List.length_cons, List.length_append, List.length_replicate]; omega))) ?_))
 rintro _ ei ⟨rfl, ae⟩
 have bn := low0 ai ae
 refine Yg (b' := !thingOk (mAt ms k).t) Z Z Z (Xc (v := vb (!thingOk (mAt ms k).t)) Z Z ?_)
 rcases X6 (!thingOk (mAt ms k).t) with J | J
 have c9 := Q8 J
 iterate 7 refine Xi rfl rfl rfl J rfl ?_
 iterate 21 refine Yc rfl rfl rfl rfl ?_
 exact Xi Z Z Z J Z (Xo (v := vb true) Z J Z Z (Xb ⟨⟨ab, ah, (cB (by simp [ag, J, c9]))⟩, ae⟩))
 have av := Qp J
 refine Xe Z Z Z J (Xc (v := .slice a ms.length c) ab Z (Xe Z Z Z J (Xc (v := vi (k : Int)) ah Z (Xe Z Z Z J (X8 Y7 Z Z an ao (by omega) (by omega) Z (Xe Z Z Z J (Xd (o' := bg) Yl Z Z Z (Xe Z Z Z J (Xh (v := vi (mAt ms k).t.kind) X3 Z ((Yo ap ae) 0 _ Z) Z (Xe Z Z Z J (Xw (q := decide ((mAt ms k).t.kind = 5)) Z Z Z Z (Xe Z Z Z J ?_))))))))))))
 refine Xc (v := vb (decide ((mAt ms k).t.kind = 5))) Z Z ?_
 rcases X6 (decide ((mAt ms k).t.kind = 5)) with O | O
 have de := U2 av O
 have dy := of_decide_eq_true O
 refine Xe Z Z Z O (Xc (v := .slice a ms.length c) ab Z (Xe Z Z Z O (Xc (v := vi (k : Int)) ah Z (Xe Z Z Z O (X8 Y7 Z Z an ao (by omega) (by omega) Z (Xe Z Z Z O (Xd (o' := bg + 7) Kh Z Z Z (Xe Z Z Z O (Xh (v := vi (mAt ms k).t.to) X3 Z ((Yo ap ae) 7 _ Z) Z (Xe Z Z Z O (Xc (v := .slice a ms.length c) ab Z (Xe Z Z Z O ?_))))))))))))
 refine Yj (by kernel_rfl) Z Z (Xe Z Z Z O (Qe (q := decide ((ms.length : Int) < (mAt ms k).t.to)) Z Z Z Z (Xe Z Z Z O (Xc (v := vb (decide ((ms.length : Int) < (mAt ms k).t.to))) Z Z ?_))))
 rcases X6 (decide ((ms.length : Int) < (mAt ms k).t.to)) with V | V
 have dz := of_decide_eq_true V
 iterate 11 refine Xi rfl rfl rfl V rfl ?_
 exact Xe Z Z Z O (Xo (v := vb true) Z V Z Z (Xe Z Z Z J (Xo (v := vb true) Z O Z Z (Xj (v := vb true) Z J Z Z (Xb ⟨⟨ab, ah, (cB (by simp [ag, J, av, O, V]))⟩, ae⟩)))))
 have d0 := of_decide_eq_false V
 refine Xe Z Z Z V (Xc (v := .slice a ms.length c) ab Z (Xe Z Z Z V (Xc (v := .slice a ms.length c) ab Z (Xe Z Z Z V (Xc (v := vi (k : Int)) ah Z (Xe Z Z Z V (X8 Y7 Z Z an ao (by omega) (by omega) Z (Xe Z Z Z V (Xd (o' := bg + 7) Kh Z Z Z (Xe Z Z Z V (Xh (v := vi (mAt ms k).t.to) X3 Z ((Yo ap ae) 7 _ Z) Z (Xe Z Z Z V ?_))))))))))))
 refine Y0 (c := (mAt ms k).t.to - 1) Z Z (by omega) (by omega) (by omega) Z (Xe Z Z Z V ?_)
 obtain ⟨dp, ee, db, bk, cg, cl⟩ := SlAt.at (TabAt.low ht bn).1 (Yi (xg ms ((mAt ms k).t.to - 1).toNat))
 have dh := TabLen.at hlen (xg ms ((mAt ms k).t.to - 1).toNat)
 exact X8 Y7 Z Z bk cg (by omega) (by omega) Z (Xe Z Z Z V (Xd (o' := db) Yl Z Z Z (Xe Z Z Z V (Xh (v := vi (mj ms (mAt ms k).t.to).t.kind) X3 Z (cl 0 _ Z) Z (Xe Z Z Z V (Q4 (q := !(decide ((mj ms (mAt ms k).t.to).t.kind = 1))) Z Z Z Z (Xe Z Z Z O (Xj (v := vb (!(decide ((mj ms (mAt ms k).t.to).t.kind = 1)))) Z V Z Z (Xe Z Z Z J (Xo (v := vb (!(decide ((mj ms (mAt ms k).t.to).t.kind = 1)))) Z O Z Z (Xj (v := vb (!(decide ((mj ms (mAt ms k).t.to).t.kind = 1)))) Z J Z Z (Xb ⟨⟨ab, ah, (cB (by simp [ag, J, av, O, V]))⟩, ae⟩))))))))))))
 have d1 := of_decide_eq_false O
 iterate 9 refine Xi rfl rfl rfl O rfl ?_
 iterate 11 refine Yc rfl rfl rfl rfl ?_
 exact Xi Z Z Z O Z (Xe Z Z Z J (Xj (v := vb false) Z O Z Z (Xj (v := vb false) Z J Z Z (Xb ⟨⟨ab, ah, (cB (by simp [ag, J, av, O]))⟩, ae⟩))))
 rintro du ej ⟨⟨co, ct, cv⟩, bp⟩
 have bb := low0 ai bp
 refine Xu cv (fun ac => ?_) (fun ac => ?_)
 refine Xa (Xg (v := vb false) Z Z (Xb (Xq (Ye (Y5 (Ye (Ye (Y5 (Ye (⟨vb false, Yy Z Z, ?_, bb⟩))))))))))
 exact cB (R1 (by omega) ((Kz Z).1 ac))
 have aw := Jm ac
 have a8 := Qp aw
 have a9 := Jn ac
 refine Xv (Xr (Xa (Xg (v := vi 0) Z Z (Xb (Ya (Qj (fun mm f' w' => ∃ (j : Nat), mm = (mAt ms k).t.slots.length - j ∧ j ≤ (mAt ms k).t.slots.length ∧ (((mAt ms k).t.slots.take j).all (rightTo (tabT ms))) = true ∧ f' 4 = vi (j : Int) ∧ f' 0 = .slice a ms.length c ∧ f' 3 = vi (k : Int) ∧ w.grownBy w' none) ((mAt ms k).t.slots.length - 0) ⟨0, Z, (Nat.zero_le _), Z, Z, co, ct, bb⟩ ?_))))))
 rintro mm dv ek ⟨j, dm, hj, hrs, aq, af, al, ak⟩
 have ez : ∀ j, j < (mAt ms k).t.slots.length → 0 ≤ (rAt (mAt ms k).t.slots j).th ∧ (rAt (mAt ms k).t.slots j).th ≤ 8 := fun j hj => Ww ((Kz rfl).2 ac).1 (Kb hj)
 refine Xs (Xa (Xc (v := vi (j : Int)) aq Z (Xc (v := .slice a ms.length c) af Z (Xc (v := vi (k : Int)) al Z ?_))))
 obtain ⟨dq, ef, bj, ba, be, bf⟩ := SlAt.at (TabAt.low ht ak).1 (Yi (xg ms k))
 have di := TabLen.at hlen (xg ms k)
 refine X8 Y7 Z Z ba be (by omega) (by omega) Z (Xd (o' := bj + 5) Qr Z Z Z (Xh (v := .slice (mAt ms k).sa (mAt ms k).t.slots.length (mAt ms k).sc) Jo Z (bf 5 _ Z) Z (Yj (by kernel_rfl) Z Z (Qh (q := decide ((j : Int) < ((mAt ms k).t.slots.length : Int))) Z Z Z Z (Xb (Xu Z (fun am => ?_) (fun am => ?_)))))))
 have d2 := of_decide_eq_true am
 refine Xv (Xr (Xs (Ya (Xa (Xc (v := .slice a ms.length c) af Z (Xc (v := vi (k : Int)) al Z (X8 Y7 Z Z ba be (by omega) (by omega) Z (Xd (o' := bj + 5) Qr Z Z Z (Xh (v := .slice (mAt ms k).sa (mAt ms k).t.slots.length (mAt ms k).sc) Jo Z (bf 5 _ Z) Z (Xc (v := vi (j : Int)) aq Z ?_))))))))))
 obtain ⟨dr, eg, eb, bl, cj, cm⟩ := SlAt.at (TabAt.th (TabAt.low ht ak) (xg ms k)).1 (Yi (xr (mAt ms k).t.slots j))
 refine X8 V1 Z Z bl cj (by omega) (by omega) Z (Xp (vs := [vi (rAt (mAt ms k).t.slots j).th, vi (rAt (mAt ms k).t.slots j).ve, vb (rAt (mAt ms k).t.slots j).rd, vb (rAt (mAt ms k).t.slots j).wr, vb (rAt (mAt ms k).t.slots j).wk]) Yv Z Z (Qi cm 0 5 Z) Z (Yd (cs := #[vi 0, vi 0, vb false, vb false, vb false]) Ks Z Z ?_))
 intro aj em au
 have df := X9 au ak
 refine Xt (vs := [vi (rAt (mAt ms k).t.slots j).th, vi (rAt (mAt ms k).t.slots j).ve, vb (rAt (mAt ms k).t.slots j).rd, vb (rAt (mAt ms k).t.slots j).wr, vb (rAt (mAt ms k).t.slots j).wk]) (cs' := #[vi (rAt (mAt ms k).t.slots j).th, vi (rAt (mAt ms k).t.slots j).ve, vb (rAt (mAt ms k).t.slots j).rd, vb (rAt (mAt ms k).t.slots j).wr, vb (rAt (mAt ms k).t.slots j).wk]) Yv Z Z Z (by simp [Value.oneCell']) au.blk (Nat.le_of_ble_eq_true Z) Z ?_
 intro az ad
 have bc := low1 (low0 ak au.grw) ad.grw (by omega)
 refine Xb (Jp (fun f' w' => (f' 0 = .slice a ms.length c ∧ f' 3 = vi (k : Int) ∧ f' 4 = vi (j : Int) ∧ f' 88 = vb ((decide ((ms.length : Int) < (rAt (mAt ms k).t.slots j).th)) || ((decide (0 < (rAt (mAt ms k).t.slots j).th)) && (decide ((mj ms (rAt (mAt ms k).t.slots j).th).t.ve < (rAt (mAt ms k).t.slots j).ve))))) ∧ az.grownBy w' none) ?_ ?_)
 rcases X6 (decide ((ms.length : Int) < (rAt (mAt ms k).t.slots j).th)) with G | G
 have d3 := of_decide_eq_true G
 refine Y8 (m := 19) (vals := [(67, pt aj 0), (68, vi (rAt (mAt ms k).t.slots j).th), (69, .slice a ms.length c), (70, vi (ms.length : Int)), (71, vb (decide ((ms.length : Int) < (rAt (mAt ms k).t.slots j).th))), (72, vb (decide ((ms.length : Int) < (rAt (mAt ms k).t.slots j).th))), (73, undef), (74, undef), (75, undef), (76, undef), (77, undef), (78, undef), (79, undef), (80, undef), (81, undef), (82, undef), (83, undef), (84, undef), (85, undef)]) (fun w' => az.grownBy w' none) Qb (by kernel_rfl) (Yf _) ?_ ?_
 refine yl Z (fun _ _ k => Xd (o' := 0) Ym Z Z Z k) (yl Z (fun _ bt kq => Xh (v := vi (rAt (mAt ms k).t.slots j).th) X3 Z ((ad.blk.grown0 bt).cell Z) Z kq) (yl Z (fun _ _ k => Xc (v := .slice a ms.length c) af Z k) (yl Z (fun _ _ k => Yj (by kernel_rfl) Z Z k) (yl Z (fun _ _ kq => Qe (q := decide ((ms.length : Int) < (rAt (mAt ms k).t.slots j).th)) Z Z Z Z kq) (yl Z (fun _ _ kq => Xc (v := vb (decide ((ms.length : Int) < (rAt (mAt ms k).t.slots j).th))) Z Z kq) (yl Z (fun _ _ k => Xi Z Z Z G Z k) (yl Z (fun _ _ k => Xi Z Z Z G Z k) (yl Z (fun _ _ k => Xi Z Z Z G Z k) (yl Z (fun _ _ k => Xi Z Z Z G Z k) (yl Z (fun _ _ k => Yc Z Z Z Z k) ?_))))))))))
 exact yl Z (fun _ _ k => Yc Z Z Z Z k) (yl Z (fun _ _ k => Yc Z Z Z Z k) (yl Z (fun _ _ k => Yc Z Z Z Z k) (yl Z (fun _ _ k => Yc Z Z Z Z k) (yl Z (fun _ _ k => Yc Z Z Z Z k) (yl Z (fun _ _ k => Yc Z Z Z Z k) (yl Z (fun _ _ k => Yc Z Z Z Z k) (yl Z (fun _ _ k => Yc Z Z Z Z k) Qd)))))))
 intro eo bu
 exact Yc Z Z Z Z (Xi Z Z Z G Z (Xo (v := vb true) Z G Z Z (Xb (Xr ⟨⟨af, al, aq, (cB (by simp [ag, ac, aw, a8, a9, am, G]))⟩, bu⟩))))
 have d4 := of_decide_eq_false G
 rcases X6 (decide (0 < (rAt (mAt ms k).t.slots j).th)) with E | E
 have d5 := of_decide_eq_true E
 obtain ⟨bi, eh, bh, bm, ck, cn⟩ := SlAt.at (TabAt.low ht bc).1 (Yi (xg ms ((rAt (mAt ms k).t.slots j).th - 1).toNat))
 have dk := TabLen.at hlen (xg ms ((rAt (mAt ms k).t.slots j).th - 1).toNat)
 refine Y8 (m := 19) (vals := [(67, pt aj 0), (68, vi (rAt (mAt ms k).t.slots j).th), (69, .slice a ms.length c), (70, vi (ms.length : Int)), (71, vb (decide ((ms.length : Int) < (rAt (mAt ms k).t.slots j).th))), (72, vb (decide ((ms.length : Int) < (rAt (mAt ms k).t.slots j).th))), (73, pt aj 0), (74, vi (rAt (mAt ms k).t.slots j).th), (75, vb (decide (0 < (rAt (mAt ms k).t.slots j).th))), (76, vb (decide (0 < (rAt (mAt ms k).t.slots j).th))), (77, pt aj 1), (78, vi (rAt (mAt ms k).t.slots j).ve), (79, .slice a ms.length c), (80, pt aj 0), (81, vi (rAt (mAt ms k).t.slots j).th), (82, vi ((rAt (mAt ms k).t.slots j).th - 1)), (83, pt bi bh), (84, pt bi (bh + 3)), (85, vi (mj ms (rAt (mAt ms k).t.slots j).th).t.ve)]) (fun w' => az.grownBy w' none) Qb (by kernel_rfl) (Yf _) ?_ ?_
 refine yl Z (fun _ _ k => Xd (o' := 0) Ym Z Z Z k) (yl Z (fun _ bv kq => Xh (v := vi (rAt (mAt ms k).t.slots j).th) X3 Z ((ad.blk.grown0 bv).cell Z) Z kq) (yl Z (fun _ _ k => Xc (v := .slice a ms.length c) af Z k) (yl Z (fun _ _ k => Yj (by kernel_rfl) Z Z k) (yl Z (fun _ _ kq => Qe (q := decide ((ms.length : Int) < (rAt (mAt ms k).t.slots j).th)) Z Z Z Z kq) (yl Z (fun _ _ kq => Xc (v := vb (decide ((ms.length : Int) < (rAt (mAt ms k).t.slots j).th))) Z Z kq) (yl Z (fun _ _ k => Xe Z Z Z G (Xd (o' := 0) Ym Z Z Z k)) (yl Z (fun _ bw kq => Xe Z Z Z G (Xh (v := vi (rAt (mAt ms k).t.slots j).th) X3 Z ((ad.blk.grown0 bw).cell Z) Z kq)) (yl Z (fun _ _ kq => Xe Z Z Z G (Qe (q := decide (0 < (rAt (mAt ms k).t.slots j).th)) Z Z Z Z kq)) (yl Z (fun _ _ kq => Xe Z Z Z G (Xc (v := vb (decide (0 < (rAt (mAt ms k).t.slots j).th))) Z Z kq)) (yl Z (fun _ _ k => Xe Z Z Z E (Xd (o' := 1) Jr Z Z Z k)) ?_))))))))))
 exact yl Z (fun _ bx kq => Xe Z Z Z E (Xh (v := vi (rAt (mAt ms k).t.slots j).ve) X3 Z ((ad.blk.grown0 bx).cell Z) Z kq)) (yl Z (fun _ _ k => Xe Z Z Z E (Xc (v := .slice a ms.length c) af Z k)) (yl Z (fun _ _ k => Xe Z Z Z E (Xd (o' := 0) Ym Z Z Z k)) (yl Z (fun _ bz kq => Xe Z Z Z E (Xh (v := vi (rAt (mAt ms k).t.slots j).th) X3 Z ((ad.blk.grown0 bz).cell Z) Z kq)) (yl Z (fun _ _ kq => Xe Z Z Z E (Y0 (c := (rAt (mAt ms k).t.slots j).th - 1) Z Z (by omega) (by omega) (by omega) Z kq)) (yl Z (fun _ _ k => Xe Z Z Z E (X8 Y7 Z Z bm ck (by omega) (by omega) Z k)) (yl Z (fun _ _ k => Xe Z Z Z E (Xd (o' := bh + 3) Qv Z Z Z k)) (yl Z (fun _ ca kq => Xe Z Z Z E (Xh (v := vi (mj ms (rAt (mAt ms k).t.slots j).th).t.ve) X3 Z ((Yo cn ca) 3 _ Z) Z kq)) Qd)))))))
 intro ep cc
 exact Xe Z Z Z E (Qe (q := decide ((mj ms (rAt (mAt ms k).t.slots j).th).t.ve < (rAt (mAt ms k).t.slots j).ve)) Z Z Z Z (Xe Z Z Z G (Xo (v := vb (decide ((mj ms (rAt (mAt ms k).t.slots j).th).t.ve < (rAt (mAt ms k).t.slots j).ve))) Z E Z Z (Xj (v := vb (decide ((mj ms (rAt (mAt ms k).t.slots j).th).t.ve < (rAt (mAt ms k).t.slots j).ve))) Z G Z Z (Xb (Xr ⟨⟨af, al, aq, (cB (by simp [ag, ac, aw, a8, a9, am, G, E]))⟩, cc⟩))))))
 have d6 := of_decide_eq_false E
 refine Y8 (m := 19) (vals := [(67, pt aj 0), (68, vi (rAt (mAt ms k).t.slots j).th), (69, .slice a ms.length c), (70, vi (ms.length : Int)), (71, vb (decide ((ms.length : Int) < (rAt (mAt ms k).t.slots j).th))), (72, vb (decide ((ms.length : Int) < (rAt (mAt ms k).t.slots j).th))), (73, pt aj 0), (74, vi (rAt (mAt ms k).t.slots j).th), (75, vb (decide (0 < (rAt (mAt ms k).t.slots j).th))), (76, vb (decide (0 < (rAt (mAt ms k).t.slots j).th))), (77, undef), (78, undef), (79, undef), (80, undef), (81, undef), (82, undef), (83, undef), (84, undef), (85, undef)]) (fun w' => az.grownBy w' none) Qb (by kernel_rfl) (Yf _) ?_ ?_
 refine yl Z (fun _ _ k => Xd (o' := 0) Ym Z Z Z k) (yl Z (fun _ cd kq => Xh (v := vi (rAt (mAt ms k).t.slots j).th) X3 Z ((ad.blk.grown0 cd).cell Z) Z kq) (yl Z (fun _ _ k => Xc (v := .slice a ms.length c) af Z k) (yl Z (fun _ _ k => Yj (by kernel_rfl) Z Z k) (yl Z (fun _ _ kq => Qe (q := decide ((ms.length : Int) < (rAt (mAt ms k).t.slots j).th)) Z Z Z Z kq) (yl Z (fun _ _ kq => Xc (v := vb (decide ((ms.length : Int) < (rAt (mAt ms k).t.slots j).th))) Z Z kq) (yl Z (fun _ _ k => Xe Z Z Z G (Xd (o' := 0) Ym Z Z Z k)) (yl Z (fun _ ce kq => Xe Z Z Z G (Xh (v := vi (rAt (mAt ms k).t.slots j).th) X3 Z ((ad.blk.grown0 ce).cell Z) Z kq)) (yl Z (fun _ _ kq => Xe Z Z Z G (Qe (q := decide (0 < (rAt (mAt ms k).t.slots j).th)) Z Z Z Z kq)) (yl Z (fun _ _ kq => Xe Z Z Z G (Xc (v := vb (decide (0 < (rAt (mAt ms k).t.slots j).th))) Z Z kq)) (yl Z (fun _ _ k => Xi Z Z Z E Z k) ?_))))))))))
 exact yl Z (fun _ _ k => Xi Z Z Z E Z k) (yl Z (fun _ _ k => Xi Z Z Z E Z k) (yl Z (fun _ _ k => Xi Z Z Z E Z k) (yl Z (fun _ _ k => Xi Z Z Z E Z k) (yl Z (fun _ _ k => Xi Z Z Z E Z k) (yl Z (fun _ _ k => Xi Z Z Z E Z k) (yl Z (fun _ _ k => Xi Z Z Z E Z k) (yl Z (fun _ _ k => Xi Z Z Z E Z k) Qd)))))))
 intro eu cf
 exact Xi Z Z Z E Z (Xe Z Z Z G (Xj (v := vb false) Z E Z Z (Xj (v := vb false) Z G Z Z (Xb (Xr ⟨⟨af, al, aq, (cB (by simp [ag, ac, aw, a8, a9, am, G, E]))⟩, cf⟩)))))
 rintro dw ew ⟨⟨cw, cy, cz, c8⟩, bq⟩
 have bd := low0 bc bq
 refine Xu c8 (fun ar => ?_) (fun ar => ?_)
 refine Xa (Xg (v := vb false) Z Z (Xb (Xq (Y5 (Ye (Ye (Y5 (Y5 (Ye (Ye (Y5 (Ye ?_))))))))))))
 refine ⟨vb false, Yy Z Z, ?_, bd⟩
 exact cB (R1 (by omega) (Sq (Kb (by omega)) (Q8 ((Gj (Ww ((Kz Z).2 ac).1 (Kb (by omega))).1).symm.trans ar))))
 have da := Jm ar
 have d7 := of_decide_eq_false da
 have d8 := Jn ar
 exact Xv (Ys (Xr (Xx (Xc (v := vi (j : Int)) cz Z (Yw (c := (j : Int) + 1) Z Z (by omega) (by omega) (by omega) Z (Xg (v := vi ((j : Int) + 1)) Z Z (Xb (Xr (⟨(mAt ms k).t.slots.length - (j + 1), by omega, (j + 1), Z, (by omega), (Jc hrs (Kb (by omega)) (Qp ((Gj (Ww ((Kz Z).2 ac).1 (Kb (by omega))).1).symm.trans ar))), Z, cw, cy, bd⟩)))))))))
 have d9 := of_decide_eq_false am
 exact Y9 (Y6 (Y6 (Jd (Ys (Xr (Xx (Xc (v := vi (k : Int)) al Z (Yw (c := (k : Int) + 1) Z Z (by omega) (by omega) (by omega) Z (Xg (v := vi ((k : Int) + 1)) Z Z (Xb (Xr (⟨ms.length - (k + 1), by omega, (k + 1), Z, (by omega), (Jc hall (Wu (by omega)) (Sr ((Kz Z).2 ac).1 ((Kz Z).2 ac).2 hrs (by omega))), Z, af, ak⟩))))))))))))
 have ea := of_decide_eq_false ag
 refine Y9 (Y6 (Y6 (Jd (Xr (Xa (Xc (v := .slice a ms.length c) ab Z (Yj (by kernel_rfl) Z Z (Xm Jw (Xf Z (Xf Z (Xf Z Xl))) Z (Jb (ms.length : Int) 1 8 _) ?_))))))))
 rintro _ ex ⟨rfl, br⟩
 refine Xg (v := vb (inR (ms.length : Int) 1 8)) Z Z (Xb (Xq (⟨vb (inR (ms.length : Int) 1 8), Yy Z Z, ?_, (low0 ai br)⟩)))
 exact cB (Sw hall (by omega))
end Go.Proofs.YtjpgffmkcmcolabDoor
end
section
namespace Go.Dw
set_option linter.unusedSimpArgs false
set_option linter.unusedVariables false
open Go.RowKit Go.Shelf
structure Wd (F : Fence) : Prop where
  fn : ∀ k, F.fn k
  calls : ∀ {n : Nat} {P : Program} {k : FuncId} {args : Array Value} {w : World} {R : Ending → World → Prop}, Calls P k args w R → CallsIn F n P k args w R
  rows : ∀ {n : Nat} {P : Program} {row : String} {args : Array Value} {w : World} {R : Value → World → Prop}, Rows P row args w R → RowsIn F n P row args w R
  depth : F.depth = none
theorem Jt : Wd Fence.wide :=
  ⟨fun _ => trivial, fun h => callsIn_wide.2 h, fun h => fun c cs _ => let ⟨v, w', r, s⟩ := h c cs; ⟨v, w', r, stepsIn_wide.2 s⟩, rfl⟩
theorem Vo (l : Nat) : Wd (Fence.wide.inRound l) :=
  ⟨fun _ => trivial, fun h => CallsIn.inRound l (callsIn_wide.2 h), fun h => fun c cs _ => let ⟨v, w', r, s⟩ := h c cs; ⟨v, w', r, stepsIn_wide.2 s⟩, rfl⟩
def noDefer : List Oper → Bool
  | [] => true
  | o :: l => (match o.op with | .defer _ => false | _ => true) && noDefer l
theorem Kj {o : Oper} {l : List Oper} (h : noDefer (o :: l) = true) : (∀ c, o.op ≠ .defer c) ∧ noDefer l = true := by
  unfold noDefer at h
  rw [Bool.and_eq_true] at h
  refine ⟨fun c hc => ?_, h.2⟩
  rw [hc] at h
  exact absurd h.1 (by simp)
theorem Wm : ∀ {l : List Oper}, noDefer l = true → ∀ (i : Nat) (o : Oper), l[i]? = some o → ∀ c, o.op ≠ .defer c
  | [], _, i, o, hi => by simp at hi
  | p :: l, h, i, o, hi => by
    obtain ⟨h1, h2⟩ := Kj h
    cases i with
    | zero => simp at hi; subst hi; exact h1
    | succ i => exact Wm h2 i o (by simpa using hi)
section
variable {F : Fence} {m : Nat} {P : Program}
theorem M3 (hF : Wd F) {o : Oper} {a : Act} {w : World} {next next' : Act → World → Prop} {Q Q' : Exit → Act → World → Prop} (hd : ∀ c, o.op ≠ .defer c) (hQ : ∀ e a w, e ≠ .normal → ¬ Q e a w) (hn : ∀ a w, next a w → next' a w) (h : o.wp P a w next Q) : o.wpIn F m P a w next' Q' := by
  refine ⟨fun f _ => hF.fn f, ?_⟩
  rw [Oper.semAt_eq _ _ _ hd]
  unfold Oper.wp at h
  generalize (execOp a.eval o).run P w = r at h ⊢
  cases r with
  | ok x w' =>
    cases x <;> simp only [Oper.upon, Oper.uponIn] at h ⊢
    case value v => exact hn _ _ h
    case skip => exact hn _ _ h
    case defer dd => exact hn _ _ h
    case enter k args =>
      refine ⟨(fun e => by (rw [hF.depth] at e; cases e)), hF.calls (h.mono fun e w'' he => ?_)⟩
      cases e with
      | returned v => exact hn _ _ he
      | panicked c => exact absurd he (hQ _ _ _ (by simp))
      | outgrown => obtain ⟨_, _, h0⟩ := he; exact absurd h0 (hQ _ _ _ (by simp))
    case row rw args => exact ⟨(fun e => by (rw [hF.depth] at e; cases e)), hF.rows (h.mono fun v w'' he => hn _ _ he)⟩
  | halt x w' => cases x <;> simp only [Oper.upon, Oper.uponIn] at h ⊢; exact absurd h (hQ _ _ _ (by simp))
def onlyN (K : Act → World → Prop) : Exit → Act → World → Prop
  | .normal, a, w => K a w
  | _, _, _ => False
theorem H6 {K : Act → World → Prop} : ∀ e a w, e ≠ .normal → ¬ onlyN K e a w := fun e a w he h => by cases e <;> first | exact he rfl | exact h
theorem G7 (hF : Wd F) {ops : Array Oper} {Q : Exit → Act → World → Prop} {K : Act → World → Prop} (hK : ∀ a w, K a w → Q .normal a w) : ∀ (l : List Oper) (a : Act) (w : World), noDefer l = true → wpList P ops (onlyN K) l a w → wpListIn F m P ops Q l a w
  | [], a, w, _, h => hK _ _ h
  | o :: l, a, w, hd, h => by
    obtain ⟨h1, h2⟩ := Kj hd
    unfold wpList at h
    unfold wpListIn
    split
    · rename_i hw
      rw [if_pos hw] at h
      rcases h with h | ⟨_, _, _, h0⟩
      · exact M3 hF h1 H6 (fun a w ha => G7 hF hK l a w h2 ha) h
      · exact h0.elim
    · rename_i hw
      rw [if_neg hw] at h
      exact ⟨fun f _ => hF.fn f, G7 hF hK l _ _ h2 h⟩
theorem Nr (hF : Wd F) {md : Region.Mode} {ops : Array Oper} {Q : Exit → Act → World → Prop} {K : Act → World → Prop} (hd : noDefer ops.toList = true) (hK : ∀ a w, K a w → Q .normal a w) : ∀ (fuel : Nat) (listed : Array Bool) (a : Act) (w : World),
    wpAny P md ops (onlyN K) fuel listed a w → wpAnyIn F m P md ops Q fuel listed a w
  | 0, _, _, _, h => ⟨h.1, hK _ _ h.2⟩
  | fuel + 1, listed, a, w, h => by
    refine ⟨fun hr => hK _ _ (h.1 hr), fun i hi => ?_⟩
    have h1 := h.2 i hi
    unfold wpOp at h1
    unfold wpOpIn
    cases ho : ops[i]? with
    | none => rw [ho] at h1; exact Nr hF hd hK fuel _ _ _ h1
    | some o =>
      rw [ho] at h1
      simp only at h1 ⊢
      have hdo := Wm hd i o (by simpa using ho)
      split
      · rename_i hw
        rw [if_pos hw] at h1
        rcases h1 with h1 | ⟨_, _, _, h0⟩
        · exact M3 hF hdo H6 (fun a w ha => Nr hF hd hK fuel _ a w ha) h1
        · exact h0.elim
      · rename_i hw
        rw [if_neg hw] at h1
        exact ⟨fun f _ => hF.fn f, Nr hF hd hK fuel _ _ _ h1⟩
end
def Wpg (F : Fence) (m : Nat) (P : Program) (n : Nat) (Q : Exit → Fr → World → Prop) (c : Code) (f : Fr) (w : World) : Prop :=
  ∀ a, FEq n a f → c.wpIn F m P (fun e a' w' => ∃ f', FEq n a' f' ∧ Q e f' w') a w
def WpOG (F : Fence) (m : Nat) (P : Program) (n : Nat) (ops : Array Oper) (K : Fr → World → Prop) (l : List Oper) (f : Fr) (w : World) : Prop :=
  ∀ a, FEq n a f → ∀ Q : Exit → Act → World → Prop, (∀ a' w' f', FEq n a' f' → K f' w' → Q .normal a' w') → wpListIn F m P ops Q l a w
section
variable {F : Fence} {m : Nat} {P : Program} {n : Nat} {Q : Exit → Fr → World → Prop} {f : Fr} {w : World}
theorem Wpg.mono {Q' : Exit → Fr → World → Prop} {c : Code} (h : Wpg F m P n Q c f w) (hq : ∀ e f w, Q e f w → Q' e f w) : Wpg F m P n Q' c f w :=
  fun a ha => wpIn_mono (h a ha) fun _ _ _ ⟨f', hf, hQ⟩ => ⟨f', hf, hq _ _ _ hQ⟩
theorem Vq (h : Q .normal f w) : Wpg F m P n Q .skip f w := fun _ ha => wpIn_skip ⟨f, ha, h⟩
theorem N7 (h : Q .ret f w) : Wpg F m P n Q .ret f w := fun _ ha => wpIn_ret ⟨f, ha, h⟩
theorem Wz {id : Nat} (h : Q (.exit id) f w) : Wpg F m P n Q (.exit id) f w := fun _ ha => wpIn_exit ⟨f, ha, h⟩
theorem Kx {x y : Code} (h : Wpg F m P n (thn (Wpg F m P n Q y) Q) x f w) : Wpg F m P n Q (.seq x y) f w := fun a ha =>
  wpIn_seq (wpIn_mono (h a ha) fun e a' w' ⟨f', hf, hQ⟩ => by
    cases e with
    | normal => exact hQ a' hf
    | exit i => exact ⟨f', hf, hQ⟩
    | goto l => exact ⟨f', hf, hQ⟩
    | ret => exact ⟨f', hf, hQ⟩
    | panic c => exact ⟨f', hf, hQ⟩
    | outgrown => exact ⟨f', hf, hQ⟩)
theorem Lo {x y : Code} (M : Fr → World → Prop) (h : Wpg F m P n (thn M Q) x f w) (hM : ∀ f w, M f w → Wpg F m P n Q y f w) : Wpg F m P n Q (.seq x y) f w :=
  Kx (h.mono fun e f w hq => by cases e <;> first | exact hM _ _ hq | exact hq)
theorem K2 {id : Nat} {c : Code} (h : Wpg F m P n (blk id Q) c f w) : Wpg F m P n Q (.block id c) f w := fun a ha =>
  wpIn_block (wpIn_mono (h a ha) fun e a' w' ⟨f', hf, hQ⟩ => by
    cases e with
    | exit i =>
      simp only [blk] at hQ
      simp only [Exit.inBlock]
      by_cases hi : i = id
      · rw [if_pos hi] at hQ ⊢; exact ⟨f', hf, hQ⟩
      · rw [if_neg hi] at hQ ⊢; exact ⟨f', hf, hQ⟩
    | normal => exact ⟨f', hf, hQ⟩
    | goto l => exact ⟨f', hf, hQ⟩
    | ret => exact ⟨f', hf, hQ⟩
    | panic c => exact ⟨f', hf, hQ⟩
    | outgrown => exact ⟨f', hf, hQ⟩)
theorem K3 {c : Operand} {x y : Code} {b : Bool} (hc : ev f c = .bool b) (ht : b = true → Wpg F m P n Q x f w) (hf : b = false → Wpg F m P n Q y f w) : Wpg F m P n Q (.cond c x y) f w := fun a ha =>
  wpIn_cond_split (t := b) (by rw [ha.eval]; exact hc) (fun h => ht h a ha) (fun h => hf h a ha)
theorem P2 {c : Operand} {x y : Code} {b : Bool} (hc : ev f c = .bool b) (hb : b = true) (h : Wpg F m P n Q x f w) : Wpg F m P n Q (.cond c x y) f w :=
  K3 hc (fun _ => h) (fun e => by rw [hb] at e; cases e)
theorem P1 {c : Operand} {x y : Code} {b : Bool} (hc : ev f c = .bool b) (hb : b = false) (h : Wpg F m P n Q y f w) : Wpg F m P n Q (.cond c x y) f w :=
  K3 hc (fun e => by rw [hb] at e; cases e) (fun _ => h)
theorem Gs {c : Code} (I : Nat → Fr → World → Prop) (m₀ : Nat) (h₀ : I m₀ f w)
    (round : ∀ k f w, I k f w → Wpg F m P n (thn (fun f' w' => ∃ k', k' < k ∧ I k' f' w') Q) c f w) : Wpg F m P n Q (.loop c) f w := by
  intro a ha
  refine wpIn_loop_rounds (m₀ + 1) ?_
  have key : ∀ N k f a w, k ≤ N → I k f w → FEq n a f → Code.roundsIn F m P c (fun e a' w' => ∃ f', FEq n a' f' ∧ Q e f' w') (N + 1) a w := by
    intro N
    induction N with
    | zero =>
      intro k f a w hk hI ha
      refine wpIn_mono (round k f w hI a ha) fun e a' w' ⟨f', hf, hQ⟩ => ?_
      cases e with
      | normal => obtain ⟨k', hlt, _⟩ := hQ; omega
      | exit i => exact ⟨f', hf, hQ⟩
      | goto l => exact ⟨f', hf, hQ⟩
      | ret => exact ⟨f', hf, hQ⟩
      | panic c => exact ⟨f', hf, hQ⟩
      | outgrown => exact ⟨f', hf, hQ⟩
    | succ N ih =>
      intro k f a w hk hI ha
      refine wpIn_mono (round k f w hI a ha) fun e a' w' ⟨f', hf, hQ⟩ => ?_
      cases e with
      | normal => obtain ⟨k', hlt, hI'⟩ := hQ; exact ih k' f' a' w' (by omega) hI' hf
      | exit i => exact ⟨f', hf, hQ⟩
      | goto l => exact ⟨f', hf, hQ⟩
      | ret => exact ⟨f', hf, hQ⟩
      | panic c => exact ⟨f', hf, hQ⟩
      | outgrown => exact ⟨f', hf, hQ⟩
  exact key m₀ m₀ f a w (Nat.le_refl _) h₀ ha
end
section
variable {F : Fence} {m : Nat} {P : Program} {n : Nat} {ops : Array Oper} {K : Fr → World → Prop} {l : List Oper} {f : Fr} {w w' : World} {o : Oper} {v : Value} {Q : Exit → Fr → World → Prop}
theorem WpOG.mono {K' : Fr → World → Prop} (h : WpOG F m P n ops K l f w) (hk : ∀ f w, K f w → K' f w) : WpOG F m P n ops K' l f w :=
  fun a ha Q hQ => h a ha Q fun a' w' f' hf hK => hQ a' w' f' hf (hk _ _ hK)
theorem Ho (hF : Wd F) (hd : noDefer l = true) (h : WpO P n ops K l f w) : WpOG F m P n ops K l f w := fun a ha Q hQ =>
  G7 hF (K := fun a' w' => ∃ f', FEq n a' f' ∧ K f' w') (fun a' w' ⟨f', hf, hK⟩ => hQ a' w' f' hf hK) l a w hd (h a ha _ fun a' w' f' hf hK => ⟨f', hf, hK⟩)
theorem Uw {id : Nat} (h : WpOG F m P n l.toArray (Q .normal) l f w) : Wpg F m P n Q (.region id l.toArray false) f w := fun a ha =>
  wpIn_region_lit (h a ha _ fun _ _ f' hf hK => ⟨f', hf, hK⟩)
theorem Ve {id : Nat} (hF : Wd F) (h : WpO P n l.toArray (Q .normal) l f w) (hd : noDefer l = true := by kernel_rfl) : Wpg F m P n Q (.region id l.toArray false) f w := Uw (Ho hF hd h)
theorem Q0 {id : Nat} {y : Code} (hF : Wd F) (h : WpO P n l.toArray (Wpg F m P n Q y) l f w) (hd : noDefer l = true := by kernel_rfl) : Wpg F m P n Q (.seq (.region id l.toArray false) y) f w :=
  Kx (Ve hF h hd)
theorem R6 (hF : Wd F) {l' : List Oper} (hd : noDefer l = true) (h : WpO P n ops (WpOG F m P n ops K l') l f w) : WpOG F m P n ops K (l ++ l') f w := by
  intro a ha Q hQ
  have h1 : wpListIn F m P ops (onlyN (wpListIn F m P ops Q l')) l a w := G7 hF (K := wpListIn F m P ops Q l') (fun a' w' h => h) l a w hd (h a ha _ fun a' w' f' hf hK => hK a' hf Q hQ)
  clear h ha
  induction l generalizing a w with
  | nil => exact h1
  | cons o l ih =>
    simp only [List.cons_append, wpListIn] at h1 ⊢
    split
    · rename_i hw
      rw [if_pos hw] at h1
      refine ⟨h1.1, ?_⟩
      have h2 := h1.2
      have hl := (Kj hd).2
      generalize (o.semAt F.round a.eval).run P w = r at h2 ⊢
      cases r with
      | ok x w' =>
        cases x <;> simp only [Oper.uponIn] at h2 ⊢
        case value v => exact ih hl _ h2
        case skip => exact ih hl _ h2
        case defer dd => exact ih hl _ h2
        case enter k args =>
          refine ⟨h2.1, h2.2.mono fun e w'' he => ?_⟩
          cases e with
          | returned v => exact ih hl _ he
          | panicked c => exact he.elim
          | outgrown => obtain ⟨_, _, h0⟩ := he; exact h0.elim
        case row rw args => exact ⟨h2.1, h2.2.mono fun v w'' he => ih hl _ he⟩
        case round l f tmps assign body =>
          refine ⟨h2.1, h2.2.mono fun e w'' he => ?_⟩
          cases e with
          | returned v => exact ih hl _ he
          | panicked c => exact he.elim
          | outgrown => obtain ⟨_, _, h0⟩ := he; exact h0.elim
      | halt x w' => cases x <;> simp only [Oper.uponIn] at h2 ⊢; exact h2.elim
    · rename_i hw
      rw [if_neg hw] at h1
      exact ⟨h1.1, ih (Kj hd).2 _ h1.2⟩
theorem Nn (hF : Wd F) (hro : F.round = none) {d : Nat} {x : Operand} {args : Array Operand} {ats : Array TypeId} {ty : TypeId} {pos : String} {aft : Array Edge} {lr : Nat} {vs : List Value} {R : Ending → World → Prop}
    (hx : ev f x = .func (.yield lr) #[] #[]) (ha : args.toList.map (ev f) = vs) (hd : Nat.blt d n = true) (hy : YieldAt F (m - 1) P lr vs.toArray w R)
    (h : ∀ e w', R e w' → ∃ b : Bool, e = .returned (.bool b) ∧ WpOG F m P n ops K l (up f d (.bool b)) w') :
    WpOG F m P n ops K (⟨some d, .call ⟨.value x, args, ats⟩, ty, pos, aft, none⟩ :: l) f w := fun a hfa Q hQ => by
  obtain ⟨fn, tmps, assign, body, hr, hR⟩ := hy
  unfold wpListIn
  rw [if_pos (by simp [Region.wanted])]
  refine ⟨fun k _ => hF.fn k, ?_⟩
  have he : ((⟨some d, .call ⟨.value x, args, ats⟩, ty, pos, aft, none⟩ : Oper).semAt F.round a.eval).run P w = .ok (.round lr fn tmps assign body) w := by
    rw [hro, Oper.semAt_none, hfa.eval]
    have e1 : args.map (ev f) = vs.toArray := by rw [← ha]; apply Array.ext'; simp
    simp [execOp, resolve, Deferred.ofValue, invoke, hx, e1, hr]
  rw [he]
  refine ⟨(fun e => by (rw [hF.depth] at e; cases e)), hR.mono fun e w' hw => ?_⟩
  obtain ⟨b, rfl, hk⟩ := h e w' hw
  exact hk _ (hfa.put hd _) Q hQ
end
theorem Wb {P : Program} {k : FuncId} {fn : Func} {c : Code} {args : Array Value} {w : World} {R : Value → World → Prop} {n m : Nat}
    (hf : P.funcs[k]? = some fn) (hb : fn.body = some c) (hn : fn.ntmps = n) (hs : Nat.ble args.size n = true)
    (h : Wpg Fence.wide m P n (endQ P fn R) c (f0 args) w) : CallsIn Fence.wide m P k args w fun e w' => ∃ v, e = .returned v ∧ R v w' := by
  have hs' : args.size ≤ n := by simpa [Nat.ble_eq] using hs
  refine callsIn_of_wp hf hb trivial ?_
  refine wpIn_mono (h _ ⟨rfl, by simp [hn]; omega, fun i => ?_⟩) fun e a w ⟨f', hf', hQ⟩ => ?_
  · simp only [f0, Ux, Array.getD_eq_getD_getElem?, Array.getElem?_toList]
    by_cases hi : i < args.size
    · rw [Array.getElem?_append_left hi]
    · rw [Array.getElem?_append_right (by omega), Array.getElem?_eq_none (by omega : args.size ≤ i)]
      by_cases h2 : i - args.size < fn.ntmps - args.size
      · simp [h2]
      · rw [Array.getElem?_eq_none (by simp; omega)]
  · cases e with
    | normal => obtain ⟨v, hv, hR⟩ := hQ; exact ⟨hf'.defers, v, hv _ hf'.at_, v, rfl, hR⟩
    | ret => obtain ⟨v, hv, hR⟩ := hQ; exact ⟨hf'.defers, v, hv _ hf'.at_, v, rfl, hR⟩
    | exit i => exact hQ.elim
    | goto l => exact hQ.elim
    | panic c => exact hQ.elim
    | outgrown => exact hQ.elim
section
variable {P : Program} {n : Nat} {ops : List Oper} {f : Fr}
theorem Ln {F : Fence} {m0 : Nat} {id : Nat} {w : World} {Q : Exit → Fr → World → Prop} (hF : Wd F) (m : Nat) (vals : List (Nat × Value)) (Inv : World → Prop) (hmx : P.follows .mixedOrders = true) (hck : drawOk n m ops (befores ops) = true) (h0 : Inv w.drew)
    (hpre : YlL P n ops.toArray Inv (ups f vals) (ops.take m) vals) (htail : ∀ w', Inv w' → WpO P n ops.toArray (Q .normal) (ops.drop m) (ups f vals) w') (hdf : noDefer ops = true := by kernel_rfl) : Wpg F m0 P n Q (.region id ops.toArray true) f w := fun a ha => by
  obtain ⟨hm, _, hone⟩ := Vj hck
  obtain ⟨hlen, hget⟩ := U3 _ _ hpre
  obtain ⟨aF, haF⟩ := Hj vals a f ha fun p hp => by
    obtain ⟨j, hj⟩ := List.getElem?_of_mem hp
    have hjm : j < m := by
      have := (List.getElem?_eq_some_iff.1 hj).1
      rw [← hlen] at this
      simp at this
      omega
    obtain ⟨oj, hoj⟩ : ∃ oj, ops[j]? = some oj := ⟨_, List.getElem?_eq_getElem (by omega)⟩
    obtain ⟨d, v, hv, hd, _⟩ := hget j oj (by rw [List.getElem?_take, if_pos hjm]; exact hoj)
    rw [hj] at hv
    have := Option.some.inj hv
    subst this
    have h1 := hone j oj hoj
    unfold drawOne at h1
    simp only [Bool.and_eq_true, if_pos hjm, hd] at h1
    simpa using h1.2.1.2
  refine wpIn_region_any hmx (Nr hF (K := fun a' w' => ∃ f', FEq n a' f' ∧ Q .normal f' w') (by simpa using hdf) (fun _ _ h => h) _ _ _ _ ?_)
  have hrep : ∀ j, (Array.replicate ops.toArray.size false).getD j false = false := fun j => by
    rw [Array.getD_eq_getD_getElem?]
    cases h : (Array.replicate ops.toArray.size false)[j]? with
    | none => rfl
    | some b => rw [Array.getElem?_replicate] at h; split at h <;> simp_all
  refine Wy (K := Q .normal) hck rfl haF hpre htail (fun a' w' f' hf hK => ⟨f', hf, hK⟩) _ _ a _ ha.defers ha.size (by simp) h0 (fun j _ => hrep j) (fun j hj => by rw [hrep j] at hj; cases hj) (fun t _ => ha.at_ t) (fun j o t _ hj => by rw [hrep j] at hj; cases hj) ?_
  rw [show ops.toArray.size = ops.length by simp, V8]
  exact Nat.le_refl _
end
theorem Kf {P : Program} {f : Fr} {w : World} {t T b o : Nat} {v : Value} (ht : oneTy P T = true) (hf : f t = .pointer (some ⟨b, o, none⟩)) (hc : w.cell? ⟨b, o, none⟩ = some v) : resCell P f w t T v :=
  ⟨_, hf, by simp [loadVar, Ws ht, hc]⟩
def WpA (m : Nat) (P : Program) (n : Nat) (QA : Exit → Act → World → Prop) (c : Code) (f : Fr) (w : World) : Prop := ∀ a, FEq n a f → c.wpIn Fence.wide m P QA a w
def toQ (n : Nat) (QA : Exit → Act → World → Prop) : Exit → Fr → World → Prop := fun e f w => ∀ a, FEq n a f → QA e a w
section
variable {m : Nat} {P : Program} {n : Nat} {QA : Exit → Act → World → Prop} {f : Fr} {w : World}
theorem Hl {x y : Code} (h : Wpf P n (thn (WpA m P n QA y) (toQ n QA)) x f w) : WpA m P n QA (.seq x y) f w := fun a ha =>
  wpIn_seq (wpIn_wide.2 (wp_mono (h a ha) fun e a' w' ⟨f', hf, hQ⟩ => by
    cases e with
    | normal => exact hQ a' hf
    | exit i => exact hQ a' hf
    | goto l => exact hQ a' hf
    | ret => exact hQ a' hf
    | panic c => exact hQ a' hf
    | outgrown => exact hQ a' hf))
theorem Vp {id : Nat} {l : List Oper} {y : Code} (h : WpO P n l.toArray (WpA m P n QA y) l f w) : WpA m P n QA (.seq (.region id l.toArray false) y) f w := Hl (Xx h)
theorem R5 {x y : Code} (h : WpA m P n (Exit.then (y.wpIn Fence.wide m P QA) QA) x f w) : WpA m P n QA (.seq x y) f w := fun a ha => wpIn_seq (h a ha)
end
theorem Sy {m : Nat} {P : Program} {n : Nat} {QA : Exit → Act → World → Prop} {c : Code} {f : Fr} {w : World} (M : Fr → Prop) (h : M f) (hM : ∀ f, M f → WpA m P n QA c f w) : WpA m P n QA c f w := hM f h
section
end
theorem Tq {P : Program} {k : FuncId} {fn : Func} {c : Code} {args : Array Value} {w : World} {R : Value → World → Prop} {n m : Nat}
    (hf : P.funcs[k]? = some fn) (hb : fn.body = some c) (hn : fn.ntmps = n) (hs : Nat.ble args.size n = true)
    (h : WpA m P n (bodyPostM Fence.wide m P fn (fun e w' => ∃ v, e = .returned v ∧ R v w')) c (f0 args) w) : Calls P k args w fun e w' => ∃ v, e = .returned v ∧ R v w' := by
  have hs' : args.size ≤ n := by simpa [Nat.ble_eq] using hs
  refine callsIn_wide.1 (callsIn_of_wp_marks hf hb trivial (h _ ⟨rfl, by simp [hn]; omega, fun i => ?_⟩))
  simp only [f0, Ux, Array.getD_eq_getD_getElem?, Array.getElem?_toList]
  by_cases hi : i < args.size
  · rw [Array.getElem?_append_left hi]
  · rw [Array.getElem?_append_right (by omega), Array.getElem?_eq_none (by omega : args.size ≤ i)]
    by_cases h2 : i - args.size < fn.ntmps - args.size
    · simp [h2]
    · rw [Array.getElem?_eq_none (by simp; omega)]
theorem Tr {m n : Nat} {P : Program} {fn : Func} {R : Value → World → Prop} {f : Fr} {w : World} {v : Value} (hv : resV P fn f w v) (hR : R v w) : toQ n (bodyPostM Fence.wide m P fn (fun e w' => ∃ v, e = .returned v ∧ R v w')) .ret f w := fun a ha => by
  show LeavesInM Fence.wide m P fn a.tmps _ a.defers .returning w
  rw [ha.defers]
  exact ⟨v, hv _ ha.at_, v, rfl, hR⟩
theorem T8 {m n D : Nat} {P : Program} {fn : Func} {R : Value → World → Prop} {a : Act} {f : Fr} {w : World} {v : Value} (ha : FEq n a f) (hK : w.heap[D]? = some (.deferred (some []))) (hv : resV P fn f (w.putObj D (.deferred none)) v) (hR : R v (w.putObj D (.deferred none))) :
    bodyPostM Fence.wide m P fn (fun e w' => ∃ v, e = .returned v ∧ R v w') .ret { a with defers := { target := .collected D, args := #[] } :: a.defers } w := by
  show LeavesInM Fence.wide m P fn a.tmps _ ({ target := .collected D, args := #[] } :: a.defers) .returning w
  rw [ha.defers]
  exact ⟨by simp, .inl ⟨D, _, rfl, run_takeDeferred hK, v, hv _ ha.at_, v, rfl, hR⟩⟩
theorem Hc {F : Fence} {m : Nat} {P : Program} {id : Nat} {o : Oper} {Q : Exit → Act → World → Prop} {a : Act} {w w' : World} (hF : Wd F) (hd : ∀ c, o.op ≠ .defer c) (hg : o.guard = none) (hr : (execOp a.eval o).run P w = .ok .skip w') (hdst : o.dst = none) (hQ : Q .normal a w') : (Code.region id #[o] false).wpIn F m P Q a w := by
  refine wpIn_region_lit (l := [o]) ?_
  unfold wpListIn
  rw [if_pos (by simp [Region.wanted, hg])]
  refine ⟨fun k _ => hF.fn k, ?_⟩
  rw [Oper.semAt_eq _ _ _ hd, hr]
  show wpListIn F m P #[o] Q [] (a.put o.dst undef) w'
  rw [hdst]
  exact hQ
theorem Gd {w A B : World} {row : Option Nat} {n0 : Nat} (h : w.grownBy A none) (hg : A.grownBy B row) (hn : w.heap.size ≤ n0) (hr : ∀ r, row = some r → n0 ≤ r ∧ ∃ o : Obj, A.heap[r]? = some o ∧ o.isCells = false) : w.grownBy B none :=
  ⟨hg.os.trans h.os, hg.tape.trans h.tape, hg.output.trans h.output, Nat.le_trans h.size hg.size, fun i hi _ => (hg.block i (Nat.lt_of_lt_of_le hi h.size) (fun e => by have := (hr i e.symm).1; omega)).trans (h.block i hi (by simp))⟩
theorem U1 {A B : World} {row : Option Nat} {b n0 : Nat} {T : TypeId} {cs : Array Value} (h : Blk A b T cs) (hg : A.grownBy B row) (hr : ∀ r, row = some r → n0 ≤ r ∧ ∃ o : Obj, A.heap[r]? = some o ∧ o.isCells = false) : Blk B b T cs :=
  h.grown hg (fun e => by
    obtain ⟨o, ho, hc⟩ := (hr b e.symm).2
    rw [show A.heap[b]? = _ from h] at ho
    cases ho
    cases hc)
theorem gob {w w' : World} (h : Below w.heap.size w w') : w.grownBy w' none := ⟨h.os, h.tape, h.output, h.size, fun k hk _ => h.block k hk⟩
theorem H2 {w A B : World} (h : w.grownBy A none) (k : Below w.heap.size A B) : w.grownBy B none :=
  ⟨k.os.trans h.os, k.tape.trans h.tape, k.output.trans h.output, Nat.le_trans h.size k.size, fun i hi _ => (k.block i hi).trans (h.block i hi (by simp))⟩
theorem L7 {w w' : World} {r : Option Nat} (h : w.grownBy w' none) : w.grownBy w' r := ⟨h.os, h.tape, h.output, h.size, fun i hi _ => h.block i hi (by simp)⟩
theorem S2 {F : Fence} {m : Nat} {P : Program} {n : Nat} {ops : Array Oper} {K : Fr → World → Prop} {l : List Oper} {f : Fr} {w : World} (k : Nat) (hF : Wd F) (hd : noDefer (l.take k) = true) (h : WpO P n ops (WpOG F m P n ops K (l.drop k)) (l.take k) f w) : WpOG F m P n ops K l f w := by
  have := R6 (K := K) hF hd h
  rwa [List.take_append_drop] at this
def allR (ms : List MTh) : List Rt := ms.flatMap (fun m => m.t.slots)
def preR (ms : List MTh) (k j : Nat) : List Rt := allR (ms.take k) ++ (mAt ms k).t.slots.take j
theorem Pq (ms : List MTh) (k : Nat) : preR ms k 0 = allR (ms.take k) := by simp [preR]
theorem Gg {ms : List MTh} {k j : Nat} (hj : j < (mAt ms k).t.slots.length) : preR ms k j ++ [rAt (mAt ms k).t.slots j] = preR ms k (j + 1) := by
  unfold preR
  rw [List.take_add_one, Kb hj, List.append_assoc]
  rfl
theorem Pp {ms : List MTh} {k j : Nat} (hk : k < ms.length) (hj : (mAt ms k).t.slots.length ≤ j) : preR ms k j = allR (ms.take (k + 1)) := by
  unfold preR allR
  rw [List.take_add_one, Qw hk, List.take_of_length_le hj, List.flatMap_append]
  simp
theorem U4 {ms : List MTh} {k : Nat} (hk : k < ms.length) : allR ms = allR (ms.take k) ++ ((mAt ms k).t.slots ++ allR (ms.drop (k + 1))) := by
  unfold allR
  conv => lhs; rw [← List.take_append_drop k ms, List.flatMap_append, K5 (Qw hk), List.flatMap_cons]
theorem H8 {ms : List MTh} {k j : Nat} (hk : k < ms.length) : preR ms k j <+: allR ms := by
  rw [U4 hk]
  unfold preR
  refine List.prefix_append_right_inj _ |>.2 ?_
  exact (List.take_prefix _ _).trans (List.prefix_append _ _)
theorem Sl {ms : List MTh} {k j : Nat} (hk : k < ms.length) (hj : j < (mAt ms k).t.slots.length) : (preR ms k j).length < (allR ms).length := by
  rw [U4 hk]
  unfold preR
  simp only [List.length_append, List.length_take]
  omega
theorem Pb {ms : List MTh} {k : Nat} (hk : ms.length ≤ k) : allR (ms.take k) = allR ms := by rw [List.take_of_length_le hk]
theorem Rc {ms : List MTh} {t : Th} : (decide (t.kind = 5) && !kindAt (tabT ms) t.to 1) = !gateOk (tabT ms) t := by
  unfold gateOk
  cases decide (t.kind = 5) <;> simp
def headOk (ts : List Th) (t : Th) : Bool := thingOk t && gateOk ts t
theorem R2 {ms : List MTh} (h : inR (ms.length : Int) 1 8 = false) : tableOk (tabT ms) = false := by
  unfold tableOk
  rw [Q9, h]
  rfl
theorem N3 {ms : List MTh} {k : Nat} (hk : k < ms.length) (h : headOk (tabT ms) (mAt ms k).t = false) : tableOk (tabT ms) = false := by
  have h1 : (tabT ms).all (fun t => thingOk t && gateOk (tabT ms) t) = false := Jf (p := headOk (tabT ms)) (Wu hk) h
  unfold tableOk
  rw [h1, Bool.false_and, Bool.and_false]
theorem Lj {ms : List MTh} {k : Nat} (hl : inR (ms.length : Int) 1 8 = true) (h : ((tabT ms).take k).all (headOk (tabT ms)) = true) (hk : ms.length ≤ k) : tableOk (tabT ms) = (allR ms).all (rightTo (tabT ms)) := by
  have h1 : (tabT ms).all (fun t => thingOk t && gateOk (tabT ms) t) = true := Jl (p := headOk (tabT ms)) h (by rw [Q9]; exact hk)
  unfold tableOk
  rw [h1, Q9, hl, Bool.true_and, Bool.true_and]
  generalize rightTo (tabT ms) = p
  unfold tabT allR
  rw [List.all_map, List.all_flatMap]
  rfl
theorem Pt {ts : List Th} {r : Rt} (h : decide (r.th = 0) = true) : rightTo ts r = true := by unfold rightTo; rw [h]; rfl
theorem Gi {ms : List MTh} {r : Rt} (h : decide (r.th = 0) = false) : ((!inR r.th 1 (ms.length : Int)) || (decide ((mAt ms (r.th - 1).toNat).t.ve < r.ve))) = !rightTo (tabT ms) r := by
  unfold rightTo
  rw [h, Bool.false_or, J9, Q9]
  cases inR r.th 1 (ms.length : Int)
  · rfl
  · have e : decide ((thAt (tabT ms) r.th).ve < r.ve) = !decide (r.ve ≤ (thAt (tabT ms) r.th).ve) := by
      rw [Bool.eq_iff_iff]; simp
    simp only [e, Bool.not_true, Bool.false_or, Bool.true_and]
theorem Ls {p : Rt → Bool} {a b : List Rt} (h : a <+: b) (ha : a.all p = false) : b.all p = false := by
  obtain ⟨c, rfl⟩ := h
  rw [List.all_append, ha, Bool.false_and]
end Go.Dw
end
section
namespace Go.Proofs.YtjpgffmkcmcolabDoor
open Go.RowKit Go.Dw
set_option maxRecDepth 100000
set_option maxHeartbeats 4000000
set_option linter.unusedSimpArgs false
set_option linter.unusedVariables false
theorem Rf : goFn Tryd.prog 24 = true := by kernel_rfl
theorem Mp : goFn Tryd.prog 48 = true := by kernel_rfl
theorem Mq : goFn Tryd.prog 49 = true := by kernel_rfl
theorem Ut : oneTy Tryd.prog 23 = true := by kernel_rfl
theorem Bp : zeroTy Tryd.prog 4 = some (.bool false) := by kernel_rfl
theorem Ht (w : World) (ms : List MTh) (a : Option Addr) (c : Nat) : CallsR Tryd.prog 49 #[.slice a ms.length c] w (fun v w' => ∃ B : Nat, v = .func (.func 64) #[] #[pt B 0] ∧ w.heap.size ≤ B ∧ Blk w' B 23 #[.slice a ms.length c] ∧ w.grownBy w' none) := by
 refine X0 (n := 4) Tryd.func49 Z Tryd.ntmps49 Z ?_
 have O := World.grownBy.refl w none
 refine Xa (Yr (v := .slice a ms.length c) (cs := #[.slice a ms.length c]) Z Z Z ?_)
 intro G V E
 have J := X9 E O
 refine Xg (v := .nilFunc) Z Z (Xb (Xa (Hn (vs := [pt G 0]) (Xf Z Xl) Z (Xg (v := .func (.func 64) #[] #[pt G 0]) Z Z (Xb (Xq ?_))))))
 refine ⟨.func (.func 64) #[] #[pt G 0], Yy Z Z, G, Z, J, E.blk, (low0 O E.grw)⟩
theorem Hd (m : Nat) (w : World) (B : Nat) (ms : List MTh) (a : Option Addr) (c : Nat) (ht : TabAt w a ms) (hlen : TabLen ms) (hn : ms.length ≤ 1048576) (hB : Blk w B 23 #[.slice a ms.length c]) :
    SeqStopsK Fence.wide m Tryd.prog 64 #[pt B 0] (fun x : Rt => #[.agg x.cells.toArray]) (Below w.heap.size) (fun xs => xs = allR ms) (fun pre => pre <+: allR ms) (allR ms).length w := by
 intro l J Jx W hW hJ hJx hY h0
 have bb := gob hW
 show CallsIn Fence.wide m Tryd.prog 64 #[.func (.yield l) #[] #[], pt B 0] W _
 refine (Wb (n := 26) (m := m) (R := fun v w' => (∃ xs, xs = allR ms ∧ J xs w') ∨ (∃ pre, pre <+: allR ms ∧ Jx pre w')) Tryd.func64 Z Tryd.ntmps64 Z ?_).mono (fun e w' ⟨v, he, h⟩ => ⟨⟨v, he⟩, h⟩)
 refine Q0 Jt (Xh (v := .slice a ms.length c) Ut Z ((hB.grown0 bb).cell Z) Z (Yj (by kernel_rfl) Z Z (Xc (v := vi 0) Z Z (Xb (K2 (Gs (fun mm f' w' => ∃ (k : Nat), mm = ms.length - k ∧ k ≤ ms.length ∧ J (allR (ms.take k)) w' ∧ f' 9 = vi (k : Int) ∧ f' 0 = .func (.yield l) #[] #[] ∧ f' 7 = .slice a ms.length c ∧ f' 8 = vi (ms.length : Int) ∧ w.grownBy w' none) (ms.length - 0) ⟨0, Z, (Nat.zero_le _), h0, Z, Z, Z, Z, bb⟩ ?_))))))
 rintro mm bl bx ⟨k, bf, hk, hJk, ad, ba, aj, ak, ac⟩
 refine Q0 Jt (Qh (q := decide ((k : Int) < (ms.length : Int))) ad ak Z Z (Xb (Kx (K3 Z (fun ag => ?_) (fun ag => ?_)))))
 have bn := of_decide_eq_true ag
 refine Vq (Xr (Kx (K2 (Q0 Jt ?_))))
 obtain ⟨bj, bv, bt, ar, aw, a8⟩ := SlAt.at (TabAt.low ht ac).1 (Yi (xg ms k))
 have be := TabLen.at hlen (xg ms k)
 refine X8 Y7 aj ad ar aw (by omega) (by omega) Z (Xp (vs := [vi (mAt ms k).t.kind, vi (mAt ms k).t.lab.s, vi (mAt ms k).t.lab.v, vi (mAt ms k).t.ve, vi (mAt ms k).t.num, .slice (mAt ms k).sa (mAt ms k).t.slots.length (mAt ms k).sc, .slice (mAt ms k).qa (mAt ms k).t.queue.length (mAt ms k).qc, vi (mAt ms k).t.to]) Yz Z Z (Qi a8 0 8 Z) Z (Yd (cs := #[vi 0, vi 0, vi 0, vi 0, vi 0, .slice none 0 0, .slice none 0 0, vi 0]) Kr Z Z ?_))
 intro bh bz E
 have bc := X9 E ac
 refine Xt (vs := [vi (mAt ms k).t.kind, vi (mAt ms k).t.lab.s, vi (mAt ms k).t.lab.v, vi (mAt ms k).t.ve, vi (mAt ms k).t.num, .slice (mAt ms k).sa (mAt ms k).t.slots.length (mAt ms k).sc, .slice (mAt ms k).qa (mAt ms k).t.queue.length (mAt ms k).qc, vi (mAt ms k).t.to]) (cs' := #[vi (mAt ms k).t.kind, vi (mAt ms k).t.lab.s, vi (mAt ms k).t.lab.v, vi (mAt ms k).t.ve, vi (mAt ms k).t.num, .slice (mAt ms k).sa (mAt ms k).t.slots.length (mAt ms k).sc, .slice (mAt ms k).qa (mAt ms k).t.queue.length (mAt ms k).qc, vi (mAt ms k).t.to]) Yz Z Z Z (by simp [Value.oneCell']) E.blk (Nat.le_of_ble_eq_true Z) Z ?_
 intro ca V
 refine Xb (Q0 Jt (Xd (o' := 5) Qr Z Z Z (Xh (v := .slice (mAt ms k).sa (mAt ms k).t.slots.length (mAt ms k).sc) Jo Z (V.blk.cell Z) Z (Yj (by kernel_rfl) Z Z (Xc (v := vi 0) Z Z (Xb (K2 (Gs (fun mm f' w' => ∃ (j : Nat), mm = (mAt ms k).t.slots.length - j ∧ j ≤ (mAt ms k).t.slots.length ∧ J (preR ms k j) w' ∧ f' 16 = vi (j : Int) ∧ f' 0 = .func (.yield l) #[] #[] ∧ f' 7 = .slice a ms.length c ∧ f' 8 = vi (ms.length : Int) ∧ f' 9 = vi (k : Int) ∧ f' 14 = .slice (mAt ms k).sa (mAt ms k).t.slots.length (mAt ms k).sc ∧ f' 15 = vi ((mAt ms k).t.slots.length : Int) ∧ w.grownBy w' none) ((mAt ms k).t.slots.length - 0) ⟨0, Z, (Nat.zero_le _), (by rw [Pq]; exact (hJ _ _ _ none hJk (low1 E.grw V.grw (nt ((World.grownBy.refl _ none)).size (Nat.le_of_eq E.eq.symm))) (fun r e => by cases e))), Z, ba, aj, ak, ad, Z, Z, (low1 (low0 ac E.grw) V.grw (by omega))⟩ ?_))))))))
 rintro mm bm cc ⟨j, bg, hj, hJj, ae, af, al, am, an, ao, ap, O⟩
 refine Q0 Jt (Qh (q := decide ((j : Int) < ((mAt ms k).t.slots.length : Int))) ae ap Z Z (Xb (Kx (K3 Z (fun ah => ?_) (fun ah => ?_)))))
 have bp := of_decide_eq_true ah
 refine Vq (Xr (Kx (K2 (Q0 Jt ?_))))
 obtain ⟨bk, bw, bu, au, az, a9⟩ := SlAt.at (TabAt.th (TabAt.low ht O) (xg ms k)).1 (Yi (xr (mAt ms k).t.slots j))
 refine X8 V1 ao ae au az (by omega) (by omega) Z (Xp (vs := [vi (rAt (mAt ms k).t.slots j).th, vi (rAt (mAt ms k).t.slots j).ve, vb (rAt (mAt ms k).t.slots j).rd, vb (rAt (mAt ms k).t.slots j).wr, vb (rAt (mAt ms k).t.slots j).wk]) Yv Z Z (Qi a9 0 5 Z) Z (Yd (cs := #[vi 0, vi 0, vb false, vb false, vb false]) Ks Z Z ?_))
 intro bi cd G
 have bd := X9 G O
 refine Xt (vs := [vi (rAt (mAt ms k).t.slots j).th, vi (rAt (mAt ms k).t.slots j).ve, vb (rAt (mAt ms k).t.slots j).rd, vb (rAt (mAt ms k).t.slots j).wr, vb (rAt (mAt ms k).t.slots j).wk]) (cs' := #[vi (rAt (mAt ms k).t.slots j).th, vi (rAt (mAt ms k).t.slots j).ve, vb (rAt (mAt ms k).t.slots j).rd, vb (rAt (mAt ms k).t.slots j).wr, vb (rAt (mAt ms k).t.slots j).wk]) Yv Z Z Z (by simp [Value.oneCell']) G.blk (Nat.le_of_ble_eq_true Z) Z ?_
 intro ce ab
 refine Xb (Kx (Uw (S2 2 Jt (by kernel_rfl) ?_)))
 simp only [List.take_succ_cons, List.take_zero]
 refine Xc (v := .func (.yield l) #[] #[]) af Z (Xp (vs := [vi (rAt (mAt ms k).t.slots j).th, vi (rAt (mAt ms k).t.slots j).ve, vb (rAt (mAt ms k).t.slots j).rd, vb (rAt (mAt ms k).t.slots j).wr, vb (rAt (mAt ms k).t.slots j).wk]) Yv Z Z (ab.blk.rangeL 0 5 Z) Z (Xb ?_))
 simp only [List.drop_succ_cons, List.drop_zero]
 refine Nn Jt Z Z (vs := [.agg #[vi (rAt (mAt ms k).t.slots j).th, vi (rAt (mAt ms k).t.slots j).ve, vb (rAt (mAt ms k).t.slots j).rd, vb (rAt (mAt ms k).t.slots j).wr, vb (rAt (mAt ms k).t.slots j).wk]]) (Xf Z Xl) Z (hY (preR ms k j) _ _ (hJ _ _ _ none hJj (low1 G.grw ab.grw (nt ((World.grownBy.refl _ none)).size (Nat.le_of_eq G.eq.symm))) (fun r e => by cases e)) (Sl (by omega) (by omega))) ?_
 rintro _ cf (⟨rfl, aq, av⟩ | ⟨rfl, ai⟩)
 refine ⟨true, Z, ?_⟩
 refine Ho Jt (by kernel_rfl) (Yg (b' := false) Z Z Z (Xb (Xr (P1 Z Z (Vq (Ys (Xr (Ve Jt (Yw (c := (j : Int) + 1) ae Z (by omega) (by omega) (by omega) Z (Xc (v := vi ((j : Int) + 1)) Z Z (Xb (Xr ?_))))))))))))
 exact ⟨(mAt ms k).t.slots.length - (j + 1), by omega, (j + 1), Z, (by omega), (by rw [← Gg (by omega)]; exact aq), Z, af, al, am, an, ao, ap, (H2 (low1 (low0 O G.grw) ab.grw (by omega)) av)⟩
 refine ⟨false, Z, ?_⟩
 refine Ho Jt (by kernel_rfl) (Yg (b' := true) Z Z Z (Xb (Xr (P2 Z Z (N7 (Y5 (Ye (Ye (Y5 (Y5 (Ye (Ye ?_))))))))))))
 refine Y5 (⟨.tuple #[], M5 Z, Or.inr ⟨_, H8 (k := k) (j := j + 1) (by omega), ?_⟩⟩)
 rw [← Gg (k := k) (j := j) (by omega)]
 exact ai
 have bq := of_decide_eq_false ah
 exact Wz (Y6 (Y6 (Jd (Ys (Xr (Ve Jt (Yw (c := (k : Int) + 1) an Z (by omega) (by omega) (by omega) Z (Xc (v := vi ((k : Int) + 1)) Z Z (Xb (Xr (⟨ms.length - (k + 1), by omega, (k + 1), Z, (by omega), (by rw [← Pp (j := j) (by omega) (by omega)]; exact hJj), Z, af, al, am, O⟩)))))))))))
 have br := of_decide_eq_false ag
 refine Wz (Y6 (Y6 (Jd (⟨.tuple #[], M5 Z, Or.inl ⟨_, Z, ?_⟩⟩))))
 have kk := hJk
 rw [Pb (by omega)] at kk
 exact kk
theorem W8 (w : World) (ms : List MTh) (a : Option Addr) (c : Nat) (ht : TabAt w a ms) (hlen : TabLen ms) (hn : ms.length ≤ 1048576) : CallsR Tryd.prog 23 #[.slice a ms.length c] w (fun v w' => v = .bool (tableOk (tabT ms)) ∧ w.grownBy w' none) := by
 refine Tq (n := 53) (m := 9) Tryd.func23 rfl Tryd.ntmps23 rfl ?_
 have fi := World.grownBy.refl w none
 refine Vp ?_
 refine Yr (v := .slice a ms.length c) (cs := #[.slice a ms.length c]) rfl rfl rfl ?_
 intro af jl ap
 have gi := X9 ap fi
 have bz := low0 fi ap.grw
 refine Yd (cs := #[.bool false]) Bp rfl rfl ?_
 intro G jm ad
 have gj := X9 ad bz
 have dq := Xn ad (ap.blk).lt
 have d6 := low0 bz ad.grw
 refine Xb ?_
 refine Hl ?_
 refine Xa ?_
 have d0 := (ap.blk.grown0 ad.grw)
 refine Xh (v := .slice a ms.length c) Ut rfl (d0.cell rfl) rfl ?_
 refine Yj (by kernel_rfl) rfl rfl ?_
 refine Xm (vs := [.int .i64 (ms.length : Int), .int .i64 1, .int .i64 8]) Kg (Xf rfl (Xf rfl (Xf rfl Xl))) rfl (Qt (ms.length : Int) 1 8 _) ?_
 rintro _ jo ⟨rfl, ar⟩
 have ca := low0 d6 ar
 refine Yg (b' := !inR (ms.length : Int) 1 8) rfl rfl rfl ?_
 refine Xb ?_
 refine Xu rfl (fun ag => ?_) (fun ag => ?_)
 ·
  have fc := Q8 ag
  refine Xa ?_
  have fk := (ad.blk.grown0 ar)
  refine Yb (v := .bool false) (cs' := #[.bool false]) Q3 rfl rfl rfl fk (Nat.le_of_ble_eq_true rfl) rfl ?_
  intro jp bv
  have d7 := low1 ca bv.grw (by omega)
  refine Xb ?_
  refine Xq ?_
  refine Ye ?_
  exact Tr (Qo rfl (Kf Q3 rfl (bv.blk.cell rfl))) ⟨congrArg Value.bool (R2 fc).symm, d7⟩
 ·
  have ah := Qp ag
  have i1 := Yu.1 ah
  refine Xv ?_
  refine Xr ?_
  refine Hl ?_
  refine Xa ?_
  have d1 := (d0.grown0 ar)
  refine Xh (v := .slice a ms.length c) Ut rfl (d1.cell rfl) rfl ?_
  refine Yj (by kernel_rfl) rfl rfl ?_
  refine Xc (v := .int .i64 0) rfl rfl ?_
  refine Xb ?_
  refine Ya ?_
  have fm := (ad.blk.grown0 ar)
  refine Qj (fun mm f' w' => ∃ (k : Nat), mm = ms.length - k ∧ k ≤ ms.length ∧ (((tabT ms).take k).all (headOk (tabT ms))) = true ∧ f' 12 = .int .i64 (k : Int) ∧ f' 0 = .slice a ms.length c ∧ f' 1 = .pointer (some ⟨af, 0, none⟩) ∧ f' 2 = .pointer (some ⟨G, 0, none⟩) ∧ f' 10 = .slice a ms.length c ∧ f' 11 = .int .i64 (ms.length : Int) ∧ w.grownBy w' none ∧ Blk w' af 23 #[.slice a ms.length c] ∧ Blk w' G 4 #[.bool false]) (ms.length - 0) ⟨0, rfl, (Nat.zero_le _), rfl, rfl, rfl, rfl, rfl, rfl, rfl, ca, d1, fm⟩ ?_
  rintro mm i6 jq ⟨k, i0, hk, hall, bn, dx, az, a8, bq, br, am, an, ao⟩
  refine Xa ?_
  refine Qh (q := decide ((k : Int) < (ms.length : Int))) bn br rfl rfl ?_
  refine Xb ?_
  refine Xs ?_
  refine Xu rfl (fun ai => ?_) (fun ai => ?_)
  ·
   have i9 := of_decide_eq_true ai
   refine Xv ?_
   refine Xr ?_
   refine Xs ?_
   refine Ya ?_
   refine Xa ?_
   obtain ⟨i5, jj, ji, d4, ei, ek⟩ := SlAt.at (TabAt.low ht am).1 (Yi (Qw (show k < ms.length by omega)))
   have gp := TabLen.at hlen (Qw (show k < ms.length by omega))
   refine X8 Y7 bq bn d4 ei (by omega) (by omega) rfl ?_
   refine Xp (vs := [.int .i64 (mAt ms k).t.kind, .int .i64 (mAt ms k).t.lab.s, .int .i64 (mAt ms k).t.lab.v, .int .i64 (mAt ms k).t.ve, .int .i64 (mAt ms k).t.num, .slice (mAt ms k).sa (mAt ms k).t.slots.length (mAt ms k).sc, .slice (mAt ms k).qa (mAt ms k).t.queue.length (mAt ms k).qc, .int .i64 (mAt ms k).t.to]) Yz rfl rfl (Qi ek 0 8 rfl) rfl ?_
   refine Yd (cs := #[.int .i64 0, .int .i64 0, .int .i64 0, .int .i64 0, .int .i64 0, .slice none 0 0, .slice none 0 0, .int .i64 0]) Kr rfl rfl ?_
   intro i4 jr O
   have gk := X9 O am
   have dr := Xn O (an).lt
   have du := Xn O (ao).lt
   have d8 := low0 am O.grw
   refine Xt (vs := [.int .i64 (mAt ms k).t.kind, .int .i64 (mAt ms k).t.lab.s, .int .i64 (mAt ms k).t.lab.v, .int .i64 (mAt ms k).t.ve, .int .i64 (mAt ms k).t.num, .slice (mAt ms k).sa (mAt ms k).t.slots.length (mAt ms k).sc, .slice (mAt ms k).qa (mAt ms k).t.queue.length (mAt ms k).qc, .int .i64 (mAt ms k).t.to]) (cs' := #[.int .i64 (mAt ms k).t.kind, .int .i64 (mAt ms k).t.lab.s, .int .i64 (mAt ms k).t.lab.v, .int .i64 (mAt ms k).t.ve, .int .i64 (mAt ms k).t.num, .slice (mAt ms k).sa (mAt ms k).t.slots.length (mAt ms k).sc, .slice (mAt ms k).qa (mAt ms k).t.queue.length (mAt ms k).qc, .int .i64 (mAt ms k).t.to]) Yz rfl rfl rfl (by simp [Value.oneCell']) O.blk (Nat.le_of_ble_eq_true rfl) rfl ?_
   intro js V
   have bd := low1 d8 V.grw (by omega)
   refine Xb ?_
   refine Xs ?_
   refine Xa ?_
   refine Xp (vs := [.int .i64 (mAt ms k).t.kind, .int .i64 (mAt ms k).t.lab.s, .int .i64 (mAt ms k).t.lab.v, .int .i64 (mAt ms k).t.ve, .int .i64 (mAt ms k).t.num, .slice (mAt ms k).sa (mAt ms k).t.slots.length (mAt ms k).sc, .slice (mAt ms k).qa (mAt ms k).t.queue.length (mAt ms k).qc, .int .i64 (mAt ms k).t.to]) Yz rfl rfl (V.blk.rangeL 0 8 rfl) rfl ?_
   refine Xm (vs := [.agg #[.int .i64 (mAt ms k).t.kind, .int .i64 (mAt ms k).t.lab.s, .int .i64 (mAt ms k).t.lab.v, .int .i64 (mAt ms k).t.ve, .int .i64 (mAt ms k).t.num, .slice (mAt ms k).sa (mAt ms k).t.slots.length (mAt ms k).sc, .slice (mAt ms k).qa (mAt ms k).t.queue.length (mAt ms k).qc, .int .i64 (mAt ms k).t.to]]) Mp (Xf rfl Xl) rfl (Pa (mAt ms k) _ (TabAt.th (TabAt.low ht bd) (Qw (show k < ms.length by omega))).1 (TabAt.th (TabAt.low ht bd) (Qw (show k < ms.length by omega))).2.1 (by first | omega | exact Nat.le_of_ble_eq_true rfl | (simp only [List.length_nil, List.length_cons, List.length_append, List.length_replicate]; omega)) (by first | omega | exact Nat.le_of_ble_eq_true rfl | (simp only [List.length_nil, List.length_cons, List.length_append, List.length_replicate]; omega))) ?_
   rintro _ gc ⟨rfl, ac⟩
   have aq := low0 bd ac
   refine Yg (b' := !thingOk (mAt ms k).t) rfl rfl rfl ?_
   refine Xb ?_
   refine Xu rfl (fun aj => ?_) (fun aj => ?_)
   ·
    have fd := Q8 aj
    refine Xa ?_
    have fo := (((ao.grown0 O.grw).gn V.grw).grown0 ac)
    refine Yb (v := .bool false) (cs' := #[.bool false]) Q3 a8 rfl rfl fo (Nat.le_of_ble_eq_true rfl) rfl ?_
    intro jt bw
    have d9 := low1 aq bw.grw (by omega)
    refine Xb ?_
    refine Xq ?_
    refine Ye ?_
    refine Y5 ?_
    refine Ye ?_
    refine Ye ?_
    refine Y5 ?_
    refine Ye ?_
    exact Tr (Qo rfl (Kf Q3 a8 (bw.blk.cell rfl))) ⟨congrArg Value.bool (N3 (k := k) (by omega) (by unfold headOk; rw [fd]; rfl)).symm, d9⟩
   ·
    have ak := Qp aj
    refine Xv ?_
    refine Xr ?_
    refine X2 (fun f' w' => (f' 0 = .slice a ms.length c ∧ f' 1 = .pointer (some ⟨af, 0, none⟩) ∧ f' 2 = .pointer (some ⟨G, 0, none⟩) ∧ f' 10 = .slice a ms.length c ∧ f' 11 = .int .i64 (ms.length : Int) ∧ f' 12 = .int .i64 (k : Int) ∧ f' 28 = .bool ((decide ((mAt ms k).t.kind = 5)) && (!kindAt (tabT ms) (mAt ms k).t.to 1))) ∧ gc.grownBy w' none) ?_ ?_
    ·
     refine Xd (o' := 0) Yl rfl rfl rfl ?_
     have d2 := (V.blk.grown0 ac)
     refine Xh (v := .int .i64 (mAt ms k).t.kind) X3 rfl (d2.cell rfl) rfl ?_
     refine Xw (q := decide ((mAt ms k).t.kind = 5)) rfl rfl rfl rfl ?_
     refine Xc (v := .bool (decide ((mAt ms k).t.kind = 5))) rfl rfl ?_
     rcases X6 (decide ((mAt ms k).t.kind = 5)) with J | J
     ·
      have gg := U2 ak J
      have ja := of_decide_eq_true J
      refine Xe rfl rfl rfl J ?_
      have fp := (((an.grown0 O.grw).gn V.grw).grown0 ac)
      refine Xh (v := .slice a ms.length c) Ut az (fp.cell rfl) rfl ?_
      refine Xe rfl rfl rfl J ?_
      refine Xd (o' := 7) Kh rfl rfl rfl ?_
      refine Xe rfl rfl rfl J ?_
      refine Xh (v := .int .i64 (mAt ms k).t.to) X3 rfl (d2.cell rfl) rfl ?_
      refine Xe rfl rfl rfl J ?_
      refine Xm (vs := [.slice a ms.length c, .int .i64 (mAt ms k).t.to, .int .i64 1]) Rf (Xf rfl (Xf rfl (Xf rfl Xl))) rfl (Wj (mAt ms k).t.to 1 (by omega) _ ms _ _ (TabAt.low ht aq) hlen (by omega)) ?_
      rintro _ ju ⟨rfl, cd⟩
      have gr := low0 aq cd
      refine Xe rfl rfl rfl J ?_
      refine Yg (b' := !kindAt (tabT ms) (mAt ms k).t.to 1) rfl rfl rfl ?_
      refine Xo (v := .bool (!kindAt (tabT ms) (mAt ms k).t.to 1)) rfl J rfl rfl ?_
      exact Xb ⟨⟨dx, az, a8, bq, br, bn, (congrArg Value.bool (by first | (simp only [ag, ah, ai, aj, ak, J, b0, b1, b2, b3, b4, b5, b6, b7, b8, b9]; done) | simp [ag, ah, ai, aj, ak, J]))⟩, cd⟩
     ·
      have jb := of_decide_eq_false J
      iterate 5 refine Xi rfl rfl rfl J rfl ?_
      refine Xj (v := .bool false) rfl J rfl rfl ?_
      exact Xb ⟨⟨dx, az, a8, bq, br, bn, (congrArg Value.bool (by first | (simp only [ag, ah, ai, aj, ak, J, b0, b1, b2, b3, b4, b5, b6, b7, b8, b9]; done) | simp [ag, ah, ai, aj, ak, J]))⟩, (World.grownBy.refl _ _)⟩
    ·
     rintro i7 jv ⟨⟨ep, eu, bt, ew, ex, ez, e0⟩, au⟩
     have cc := low0 aq au
     refine Xu e0 (fun a9 => ?_) (fun a9 => ?_)
     ·
      have dy := Np a9
      have gh := U2 ak dy
      have jc := of_decide_eq_true dy
      have fe := Nq a9
      have jd := Q8 fe
      refine Xa ?_
      have fq := ((((ao.grown0 O.grw).gn V.grw).grown0 ac).grown0 au)
      refine Yb (v := .bool false) (cs' := #[.bool false]) Q3 bt rfl rfl fq (Nat.le_of_ble_eq_true rfl) rfl ?_
      intro jw bx
      have ea := low1 cc bx.grw (by omega)
      refine Xb ?_
      refine Xq ?_
      refine Y5 ?_
      refine Ye ?_
      refine Ye ?_
      refine Y5 ?_
      refine Ye ?_
      exact Tr (Qo rfl (Kf Q3 bt (bx.blk.cell rfl))) ⟨congrArg Value.bool (N3 (k := k) (by omega) (by unfold headOk; rw [Q8 (Rc.symm.trans a9), Bool.and_false])).symm, ea⟩
     ·
      refine Xv ?_
      refine Ys ?_
      refine Xr ?_
      refine Xx ?_
      refine Yw (c := (k : Int) + 1) ez rfl (by omega) (by omega) (by omega) rfl ?_
      refine Xc (v := .int .i64 ((k : Int) + 1)) rfl rfl ?_
      refine Xb ?_
      refine Xr ?_
      have fr := ((((an.grown0 O.grw).gn V.grw).grown0 ac).grown0 au)
      have ft := ((((ao.grown0 O.grw).gn V.grw).grown0 ac).grown0 au)
      exact ⟨ms.length - (k + 1), by omega, (k + 1), rfl, (by omega), (Jc (p := headOk (tabT ms)) hall (Wu (by omega)) (by unfold headOk; rw [ak, Qp (Rc.symm.trans a9)]; rfl)), rfl, ep, eu, bt, ew, ex, cc, fr, ft⟩
  ·
   have je := of_decide_eq_false ai
   refine Y9 ?_
   refine Y6 ?_
   refine Y6 ?_
   refine Jd ?_
   refine Xr ?_
   refine R5 ?_
   refine Vp ?_
   refine Xh (v := .slice a ms.length c) Ut az (an.cell rfl) rfl ?_
   refine Xm (vs := [.slice a ms.length c]) Mq (Xf rfl Xl) rfl (Ht _ ms _ _) ?_
   rintro _ dp ⟨bp, rfl, aw, fu, be⟩
   have ae := low0 am be
   have gl := Nat.le_trans am.size aw
   have dt := Nat.lt_of_lt_of_le (an).lt aw
   have dv := Nat.lt_of_lt_of_le (ao).lt aw
   refine Xb ?_
   have fv := (an.grown0 be)
   have d3 := (ao.grown0 be)
   refine Sy (fun f' => f' 1 = .pointer (some ⟨af, 0, none⟩) ∧ f' 2 = .pointer (some ⟨G, 0, none⟩) ∧ f' 31 = .func (.func 64) #[] #[.pointer (some ⟨bp, 0, none⟩)]) ⟨az, a8, rfl⟩ ?_
   rintro fT ⟨e1, e2, e3⟩ a0 ha
   obtain ⟨tm, df⟩ := a0
   obtain rfl : df = [] := ha.defers
   have fj : G < dp.heap.size := (d3).lt
   refine wpIn_block ?_
   refine wpIn_rangeFunc_ownH (F := Fence.wide) (n := 9) rfl (by omega) (gf := 64) (lb := #[.pointer (some ⟨bp, 0, none⟩)]) (by rw [ha.eval]; exact e3) trivial (enters_of Tryd.func64 (by kernel_rfl) rfl) (Hd 8 dp bp ms a c (TabAt.low ht ae) hlen hn fu) belowK_t (belowK_b (Nat.le_refl _)) (Below.refl _ _) (fun _ => rfl) (fun pre W => w.grownBy W none ∧ Blk W af 23 #[.slice a ms.length c] ∧ Blk W G 4 #[.bool false] ∧ pre.all (rightTo (tabT ms)) = true ∧ dp.heap.size ≤ W.heap.size) (fun c pre W => c = .ret ∧ w.grownBy W none ∧ Blk W G 4 #[.bool false] ∧ pre.all (rightTo (tabT ms)) = false) (fun s A B row hs hg hr => ⟨Gd hs.1 hg ae.size hr, U1 hs.2.1 hg hr, U1 hs.2.2.1 hg hr, hs.2.2.2.1, Nat.le_trans hs.2.2.2.2 hg.size⟩) (fun c s A B row hs hg hr => ⟨hs.1, Gd hs.2.1 hg ae.size hr, U1 hs.2.2.1 hg hr, hs.2.2.2⟩) ⟨ae, fv, d3, rfl, Nat.le_refl _⟩ (fun x a' W => ∃ (Bx : Nat) (f' : Fr), Blk W Bx 38 x.cells.toArray ∧ FEq 53 a' f' ∧ f' 5 = .pointer (some ⟨Bx, 0, none⟩) ∧ f' 1 = .pointer (some ⟨af, 0, none⟩) ∧ f' 2 = .pointer (some ⟨G, 0, none⟩)) (fun x a' _ A B row hs hg hr => by obtain ⟨Bx, f', h1, h2⟩ := hs; exact ⟨Bx, f', U1 h1 hg hr, h2⟩) ?assign ?body ?done ?stop
   case assign =>
    intro l pre x W K hi hK
    refine wpIn_mono ((?_ : Wpg (Fence.wide.inRound l) (9 - 1 - 1) Tryd.prog 53 (fun e f' w' => e = .normal ∧ ∃ Bx : Nat, W.grownBy w' none ∧ Blk w' Bx 38 x.cells.toArray ∧ f' 5 = .pointer (some ⟨Bx, 0, none⟩) ∧ f' 1 = .pointer (some ⟨af, 0, none⟩) ∧ f' 2 = .pointer (some ⟨G, 0, none⟩)) _ (up fT 32 (.agg x.cells.toArray)) W) _ (by have hp := ha.put (d := 32) rfl (.agg x.cells.toArray); simpa [Act.put] using hp)) ?_
    ·
     have hlW := hi.2.2.2.2
     refine Ve (Vo l) ?_
     refine Yd (cs := #[.int .i64 0, .int .i64 0, .bool false, .bool false, .bool false]) Ks rfl rfl ?_
     intro eo jx al
     have gm := X9 al hi.1
     have ed := low0 hi.1 al.grw
     refine Xt (vs := [.int .i64 x.th, .int .i64 x.ve, .bool x.rd, .bool x.wr, .bool x.wk]) (cs' := #[.int .i64 x.th, .int .i64 x.ve, .bool x.rd, .bool x.wr, .bool x.wk]) Yv rfl rfl rfl (by simp [Value.oneCell']) al.blk (Nat.le_of_ble_eq_true rfl) rfl ?_
     intro jy bb
     have gt := low1 ed bb.grw (by omega)
     refine Xb ?_
     exact ⟨rfl, eo, (low1 al.grw bb.grw (Nat.le_trans ((World.grownBy.refl _ none)).size (Nat.le_of_eq al.eq.symm))), bb.blk, rfl, e1, e2⟩
    ·
     rintro e a' w' ⟨f', hf', rfl, Bx, hg, hb, h5, h1, h2⟩
     exact hK a' w' (KeepsFrom.of_grownBy hg (fun j e => by cases e)) (K4 hg hi.2.2.2.2) ⟨low0 hi.1 hg, hi.2.1.grown0 hg, hi.2.2.1.grown0 hg, hi.2.2.2.1, Nat.le_trans hi.2.2.2.2 hg.size⟩ ⟨Bx, f', hb, hf', h5, h1, h2⟩
   case body =>
    rintro l pre x a' W hl hr hi ⟨Bx, f', hbx, hf', h5, h1, h2⟩ hlt
    refine wpIn_mono ((?_ : Wpg (Fence.wide.inRound l) (9 - 1 - 1) Tryd.prog 53 (fun e f'' w' => (e = .normal ∧ W.grownBy w' none ∧ rightTo (tabT ms) x = true) ∨ (e = .ret ∧ W.grownBy w' (some G) ∧ w.grownBy w' none ∧ Blk w' G 4 #[.bool false] ∧ rightTo (tabT ms) x = false)) _ f' W) a' hf') ?_
    ·
     refine K2 ?_
     refine Kx ?_
     refine Q0 (Vo l) ?_
     refine Xd (o' := 0) Ym h5 rfl rfl ?_
     refine Xh (v := .int .i64 x.th) X3 rfl (hbx.cell rfl) rfl ?_
     refine Xw (q := decide (x.th = 0)) rfl rfl rfl rfl ?_
     refine Xb ?_
     refine K3 rfl (fun ab => ?_) (fun ab => ?_)
     ·
      have jf := of_decide_eq_true ab
      refine Wz ?_
      refine Y6 ?_
      refine Jd ?_
      exact Or.inl ⟨rfl, (World.grownBy.refl _ _), Pt ab⟩
     ·
      have jg := of_decide_eq_false ab
      refine Vq ?_
      refine Xr ?_
      refine Lo (fun f' w' => (f' 2 = .pointer (some ⟨G, 0, none⟩) ∧ f' 52 = .bool ((!inR x.th 1 (ms.length : Int)) || (decide ((mAt ms (x.th - 1).toNat).t.ve < x.ve)))) ∧ W.grownBy w' none) ?_ ?_
      ·
       rcases X6 (!inR x.th 1 (ms.length : Int)) with E | E
       ·
        have dz := Q8 E
        refine Ln (Vo l) (m := 15) (vals := [(36, .slice a ms.length c), (37, .pointer (some ⟨Bx, 0, none⟩)), (38, .int .i64 x.th), (39, .bool (inR x.th 1 (ms.length : Int))), (40, .bool (!inR x.th 1 (ms.length : Int))), (41, .bool (!inR x.th 1 (ms.length : Int))), (42, undef), (43, undef), (44, undef), (45, undef), (46, undef), (47, undef), (48, undef), (49, undef), (50, undef)]) (fun w' => W.grownBy w' none) Qb (by kernel_rfl) (Yf _) ?_ ?_
        ·
         refine Yq rfl (fun jz bf => ?_) ?_
         ·
          have gu := low0 hi.1 bf
          have fw := (hi.2.1.grown0 bf)
          refine Xh (v := .slice a ms.length c) Ut h1 (fw.cell rfl) rfl ?_
          exact Xb ⟨rfl, bf⟩
         refine Yq rfl (fun j1 cg => ?_) ?_
         ·
          have gv := low0 hi.1 cg
          refine Xd (o' := 0) Ym h5 rfl rfl ?_
          exact Xb ⟨rfl, cg⟩
         refine Yq rfl (fun j2 bg => ?_) ?_
         ·
          have gw := low0 hi.1 bg
          have fx := (hbx.grown0 bg)
          refine Xh (v := .int .i64 x.th) X3 rfl (fx.cell rfl) rfl ?_
          exact Xb ⟨rfl, bg⟩
         refine Yq rfl (fun j3 cj => ?_) ?_
         ·
          have ee := low0 hi.1 cj
          refine Xm (vs := [.slice a ms.length c, .int .i64 x.th]) Gb (Xf rfl (Xf rfl Xl)) rfl (Jk x.th _ _ _ _) ?_
          rintro _ j4 ⟨rfl, ce⟩
          have gx := low0 ee ce
          exact Xb ⟨rfl, (grown_trans cj ce)⟩
         refine Yq rfl (fun j5 ck => ?_) ?_
         ·
          have gy := low0 hi.1 ck
          refine Yg (b' := !inR x.th 1 (ms.length : Int)) rfl rfl rfl ?_
          exact Xb ⟨rfl, ck⟩
         refine Yq rfl (fun j6 cl => ?_) ?_
         ·
          have gz := low0 hi.1 cl
          refine Xc (v := .bool (!inR x.th 1 (ms.length : Int))) rfl rfl ?_
          exact Xb ⟨rfl, cl⟩
         refine Yq rfl (fun j7 cm => ?_) ?_
         ·
          have g0 := low0 hi.1 cm
          refine Xi rfl rfl rfl E rfl ?_
          exact Xb ⟨rfl, cm⟩
         refine Yq rfl (fun j8 cn => ?_) ?_
         ·
          have g5 := low0 hi.1 cn
          refine Xi rfl rfl rfl E rfl ?_
          exact Xb ⟨rfl, cn⟩
         refine Yq rfl (fun j9 co => ?_) ?_
         ·
          have g6 := low0 hi.1 co
          refine Xi rfl rfl rfl E rfl ?_
          exact Xb ⟨rfl, co⟩
         refine Yq rfl (fun ka ct => ?_) ?_
         ·
          have g7 := low0 hi.1 ct
          refine Xi rfl rfl rfl E rfl ?_
          exact Xb ⟨rfl, ct⟩
         refine Yq rfl (fun kb cv => ?_) ?_
         ·
          have g8 := low0 hi.1 cv
          refine Xi rfl rfl rfl E rfl ?_
          exact Xb ⟨rfl, cv⟩
         refine Yq rfl (fun kc cw => ?_) ?_
         ·
          have g9 := low0 hi.1 cw
          refine Xi rfl rfl rfl E rfl ?_
          exact Xb ⟨rfl, cw⟩
         refine Yq rfl (fun ke cy => ?_) ?_
         ·
          have ia := low0 hi.1 cy
          refine Xi rfl rfl rfl E rfl ?_
          exact Xb ⟨rfl, cy⟩
         refine Yq rfl (fun kf cz => ?_) ?_
         ·
          have ib := low0 hi.1 cz
          refine Xi rfl rfl rfl E rfl ?_
          exact Xb ⟨rfl, cz⟩
         refine Yq rfl (fun kg c8 => ?_) ?_
         ·
          have ic := low0 hi.1 c8
          refine Xi rfl rfl rfl E rfl ?_
          exact Xb ⟨rfl, c8⟩
         exact Qd
        ·
         intro kh c9
         have ie := low0 hi.1 c9
         refine Xi rfl rfl rfl E rfl ?_
         refine Xo (v := .bool true) rfl E rfl rfl ?_
         exact Xb (Xr ⟨⟨h2, (congrArg Value.bool (by first | (simp only [ab, E, dz, b0, b1, b2, b3, b4, b5, b6, b7, b8, b9]; done) | simp [ab, E, dz]))⟩, c9⟩)
       ·
        have bu := Qp E
        have i2 := Yu.1 bu
        obtain ⟨dw, jk, dn, d5, ej, em⟩ := SlAt.at (TabAt.low ht hi.1).1 (Yi (Qw (show (x.th - 1).toNat < ms.length by omega)))
        have gq := TabLen.at hlen (Qw (show (x.th - 1).toNat < ms.length by omega))
        refine Ln (Vo l) (m := 15) (vals := [(36, .slice a ms.length c), (37, .pointer (some ⟨Bx, 0, none⟩)), (38, .int .i64 x.th), (39, .bool (inR x.th 1 (ms.length : Int))), (40, .bool (!inR x.th 1 (ms.length : Int))), (41, .bool (!inR x.th 1 (ms.length : Int))), (42, .pointer (some ⟨Bx, 1, none⟩)), (43, .int .i64 x.ve), (44, .slice a ms.length c), (45, .pointer (some ⟨Bx, 0, none⟩)), (46, .int .i64 x.th), (47, .int .i64 (x.th - 1)), (48, .pointer (some ⟨dw, dn, none⟩)), (49, .pointer (some ⟨dw, dn + 3, none⟩)), (50, .int .i64 (mAt ms (x.th - 1).toNat).t.ve)]) (fun w' => W.grownBy w' none) Qb (by kernel_rfl) (Yf _) ?_ ?_
        ·
         refine Yq rfl (fun ki bh => ?_) ?_
         ·
          have ig := low0 hi.1 bh
          have fy := (hi.2.1.grown0 bh)
          refine Xh (v := .slice a ms.length c) Ut h1 (fy.cell rfl) rfl ?_
          exact Xb ⟨rfl, bh⟩
         refine Yq rfl (fun kj da => ?_) ?_
         ·
          have ii := low0 hi.1 da
          refine Xd (o' := 0) Ym h5 rfl rfl ?_
          exact Xb ⟨rfl, da⟩
         refine Yq rfl (fun kk bi => ?_) ?_
         ·
          have ij := low0 hi.1 bi
          have fz := (hbx.grown0 bi)
          refine Xh (v := .int .i64 x.th) X3 rfl (fz.cell rfl) rfl ?_
          exact Xb ⟨rfl, bi⟩
         refine Yq rfl (fun kl db => ?_) ?_
         ·
          have ef := low0 hi.1 db
          refine Xm (vs := [.slice a ms.length c, .int .i64 x.th]) Gb (Xf rfl (Xf rfl Xl)) rfl (Jk x.th _ _ _ _) ?_
          rintro _ km ⟨rfl, cf⟩
          have ik := low0 ef cf
          exact Xb ⟨rfl, (grown_trans db cf)⟩
         refine Yq rfl (fun kn dc => ?_) ?_
         ·
          have il := low0 hi.1 dc
          refine Yg (b' := !inR x.th 1 (ms.length : Int)) rfl rfl rfl ?_
          exact Xb ⟨rfl, dc⟩
         refine Yq rfl (fun ko de => ?_) ?_
         ·
          have im := low0 hi.1 de
          refine Xc (v := .bool (!inR x.th 1 (ms.length : Int))) rfl rfl ?_
          exact Xb ⟨rfl, de⟩
         refine Yq rfl (fun kp dg => ?_) ?_
         ·
          have io := low0 hi.1 dg
          refine Xe rfl rfl rfl E ?_
          refine Xd (o' := 1) Jr h5 rfl rfl ?_
          exact Xb ⟨rfl, dg⟩
         refine Yq rfl (fun kq bj => ?_) ?_
         ·
          have ip := low0 hi.1 bj
          refine Xe rfl rfl rfl E ?_
          have f8 := (hbx.grown0 bj)
          refine Xh (v := .int .i64 x.ve) X3 rfl (f8.cell rfl) rfl ?_
          exact Xb ⟨rfl, bj⟩
         refine Yq rfl (fun kr bk => ?_) ?_
         ·
          have iq := low0 hi.1 bk
          refine Xe rfl rfl rfl E ?_
          have f9 := (hi.2.1.grown0 bk)
          refine Xh (v := .slice a ms.length c) Ut h1 (f9.cell rfl) rfl ?_
          exact Xb ⟨rfl, bk⟩
         refine Yq rfl (fun ks dh => ?_) ?_
         ·
          have ir := low0 hi.1 dh
          refine Xe rfl rfl rfl E ?_
          refine Xd (o' := 0) Ym h5 rfl rfl ?_
          exact Xb ⟨rfl, dh⟩
         refine Yq rfl (fun kt bl => ?_) ?_
         ·
          have it := low0 hi.1 bl
          refine Xe rfl rfl rfl E ?_
          have ga := (hbx.grown0 bl)
          refine Xh (v := .int .i64 x.th) X3 rfl (ga.cell rfl) rfl ?_
          exact Xb ⟨rfl, bl⟩
         refine Yq rfl (fun ku di => ?_) ?_
         ·
          have iu := low0 hi.1 di
          refine Xe rfl rfl rfl E ?_
          refine Y0 (c := x.th - 1) rfl rfl (by omega) (by omega) (by omega) rfl ?_
          exact Xb ⟨rfl, di⟩
         refine Yq rfl (fun kv dk => ?_) ?_
         ·
          have iv := low0 hi.1 dk
          refine Xe rfl rfl rfl E ?_
          refine X8 Y7 rfl rfl d5 ej (by omega) (by omega) rfl ?_
          exact Xb ⟨rfl, dk⟩
         refine Yq rfl (fun kw dl => ?_) ?_
         ·
          have iw := low0 hi.1 dl
          refine Xe rfl rfl rfl E ?_
          refine Xd (o' := dn + 3) Qv rfl rfl rfl ?_
          exact Xb ⟨rfl, dl⟩
         refine Yq rfl (fun kx bm => ?_) ?_
         ·
          have ix := low0 hi.1 bm
          refine Xe rfl rfl rfl E ?_
          refine Xh (v := .int .i64 (mAt ms (x.th - 1).toNat).t.ve) X3 rfl ((Yo em bm) 3 _ rfl) rfl ?_
          exact Xb ⟨rfl, bm⟩
         exact Qd
        ·
         intro ky dm
         have iy := low0 hi.1 dm
         refine Xe rfl rfl rfl E ?_
         refine Qe (q := decide ((mAt ms (x.th - 1).toNat).t.ve < x.ve)) rfl rfl rfl rfl ?_
         refine Xj (v := .bool (decide ((mAt ms (x.th - 1).toNat).t.ve < x.ve))) rfl E rfl rfl ?_
         exact Xb (Xr ⟨⟨h2, (congrArg Value.bool (by first | (simp only [ab, E, bu, b0, b1, b2, b3, b4, b5, b6, b7, b8, b9]; done) | simp [ab, E, bu]))⟩, dm⟩)
      ·
       rintro i8 kz ⟨⟨fa, fb⟩, av⟩
       have eg := low0 hi.1 av
       refine K3 fb (fun ba => ?_) (fun ba => ?_)
       ·
        refine Q0 (Vo l) ?_
        have gb := (hi.2.2.1.grown0 av)
        refine Yb (v := .bool false) (cs' := #[.bool false]) Q3 fa rfl rfl gb (Nat.le_of_ble_eq_true rfl) rfl ?_
        intro k0 bc
        have eh := low1 eg bc.grw (by omega)
        refine Xb ?_
        refine N7 ?_
        refine Y5 ?_
        exact Or.inr ⟨rfl, (grown_trans (L7 av) bc.grw), eh, bc.blk, Q8 ((Gi ab).symm.trans ba)⟩
       ·
        have ff := Jm ba
        have fg := Qp ff
        have i3 := Yu.1 fg
        have fh := Jn ba
        have jh := of_decide_eq_false fh
        refine Vq ?_
        refine Ys ?_
        exact Or.inl ⟨rfl, av, Qp ((Gi ab).symm.trans ba)⟩
    ·
     rintro e a2 w2 ⟨f2, k3, (⟨rfl, hg, hx⟩ | ⟨rfl, hg, iz, hb, hx⟩)⟩
     ·
      exact ⟨KeepsFrom.of_grownBy hg (fun j e => by cases e), K4 hg hi.2.2.2.2, low0 hi.1 hg, hi.2.1.grown0 hg, hi.2.2.1.grown0 hg, by rw [List.all_append, hi.2.2.2.1]; simp [hx], Nat.le_trans hi.2.2.2.2 hg.size⟩
     ·
      exact ⟨KeepsFrom.of_grownBy hg (fun j e => by cases e; exact fj), rfl, iz, hb, by rw [List.all_append]; simp [hx]⟩
   case done =>
    intro D xs W hD hS hi hK
    subst hS
    have hDB : D ≠ G := by omega
    have hDl : D < W.heap.size := (Array.getElem?_eq_some_iff.1 hK).1
    have hsb := setB_setRow hi.2.2.1 #[.bool true]
    refine wpIn_seq ?_
    refine Hc Jt (fun c h => by cases h) rfl (w' := W.setRow G #[.bool true]) ?_ rfl ?_
    ·
     have he : Act.eval { tmps := tm, defers := [{ target := .collected D, args := #[] }] } = ev fT := ha.eval
     rw [he]
     have hst := V5 (w := W) (v := .bool true) (o := 0) Q3 rfl hi.2.2.1 (by simp)
     simp [execOp, show ev fT (.tmp 2) = _ from e2, show ev fT (.const (.bool true)) = .bool true from rfl, hst]
    ·
     refine wpIn_ret ?_
     have hK' : (W.setRow G #[.bool true]).heap[D]? = some (.deferred (some [])) := (hsb.grw.block D hDl (fun e => hDB (Option.some.inj e))).trans hK
     have hgp := grownBy_putObj' (W.setRow G #[.bool true]) D (.deferred none)
     have eb := hsb.blk.grown hgp (Q1 (Ne.symm hDB))
     refine T8 (v := .bool true) (a := { tmps := tm, defers := [] }) ha hK' (Qo rfl (Kf Q3 e2 (eb.cell rfl))) ⟨?_, ?_⟩
     ·
      rw [Lj ah hall (by omega), hi.2.2.2.1]
     ·
      exact low1 (low1 hi.1 hsb.grw (by omega)) hgp (Nat.le_trans ae.size hD)
   case stop =>
    intro D c pre W hD hSp hx hK
    obtain ⟨rfl, hg, hb, hf⟩ := hx
    have hDB : D ≠ G := by omega
    have hgp := grownBy_putObj' W D (.deferred none)
    have eb := hb.grown hgp (Q1 (Ne.symm hDB))
    refine wpIn_ret ?_
    refine T8 (v := .bool false) (a := { tmps := tm, defers := [] }) ha hK (Qo rfl (Kf Q3 e2 (eb.cell rfl))) ⟨?_, ?_⟩
    ·
     rw [Lj ah hall (by omega), Ls hSp hf]
    ·
     exact low1 hg hgp (Nat.le_trans ae.size hD)
end Go.Proofs.YtjpgffmkcmcolabDoor
end
section
namespace Go.Dw
def Cl.zero : Cl := ⟨0, 0, 0, 0, 0⟩
def callOk (c : Cl) : Bool := (((inR c.kind 1 9 && inR c.run 1 8) && inR c.a 0 3) && inR c.b 0 3) && inR c.n 0 99
theorem Q2 {c : Cl} (h : callOk c = true) : (1 ≤ c.kind ∧ c.kind ≤ 9) ∧ (1 ≤ c.run ∧ c.run ≤ 8) ∧ (0 ≤ c.a ∧ c.a ≤ 3) ∧ (0 ≤ c.b ∧ c.b ≤ 3) ∧ 0 ≤ c.n ∧ c.n ≤ 99 := by
  unfold callOk at h
  simp only [Bool.and_eq_true] at h
  exact ⟨Yu.1 h.1.1.1.1, Yu.1 h.1.1.1.2, Yu.1 h.1.1.2, Yu.1 h.1.2, Yu.1 h.2⟩
def callPoss (ts : List Th) (c : Cl) : Bool := (tableOk ts && callOk c) && kindAt ts c.run 3
end Go.Dw
end
section
namespace Go.Proofs.YtjpgffmkcmcolabDoor
open Go.RowKit Go.Dw
set_option maxRecDepth 100000
set_option maxHeartbeats 4000000
set_option linter.unusedSimpArgs false
set_option linter.unusedVariables false
theorem Qu : fieldOff Tryd.prog 25 0 = some 0 := by kernel_rfl
theorem Qn : fieldOff Tryd.prog 25 1 = some 1 := by kernel_rfl
theorem Jq : fieldOff Tryd.prog 25 2 = some 2 := by kernel_rfl
theorem Nv : fieldOff Tryd.prog 25 3 = some 3 := by kernel_rfl
theorem K6 : fieldOff Tryd.prog 25 4 = some 4 := by kernel_rfl
theorem S8 : goFn Tryd.prog 23 = true := by kernel_rfl
theorem Mt : goFn Tryd.prog 56 = true := by kernel_rfl
theorem Yp : rowTy Tryd.prog 25 = some 5 := by kernel_rfl
theorem P3 (c : Cl) (w : World) : CallsR Tryd.prog 56 #[.agg #[vi c.kind, vi c.run, vi c.a, vi c.b, vi c.n]] w (fun v w' => v = vb (callOk c) ∧ w.grownBy w' none) := by
 refine X0 (n := 26) Tryd.func56 Z Tryd.ntmps56 Z ?_
 have al := World.grownBy.refl w none
 refine Xa (Yr (v := .agg #[vi c.kind, vi c.run, vi c.a, vi c.b, vi c.n]) (cs := #[vi c.kind, vi c.run, vi c.a, vi c.b, vi c.n]) Z Z Z ?_)
 intro au am ac
 have an := X9 ac al
 refine Xg (v := vb false) Z Z (Xb (X2 (fun f' w' => (f' 2 = vb ((((inR c.kind 1 9 && inR c.run 1 8) && inR c.a 0 3) && inR c.b 0 3) && inR c.n 0 99)) ∧ am.grownBy w' none) ?_ ?_))
 refine Xd (o' := 0) Qu Z Z Z (Xh (v := vi c.kind) X3 Z (ac.blk.cell Z) Z (Xm Kg (Xf Z (Xf Z (Xf Z Xl))) Z (Qt c.kind 1 9 _) ?_))
 rintro _ aw ⟨rfl, V⟩
 refine Xc (v := vb (inR c.kind 1 9)) Z Z ?_
 rcases X6 (inR c.kind 1 9) with E | E
 have ao := Yu.1 E
 refine Xe Z Z Z E (Xd (o' := 1) Qn Z Z Z (Xe Z Z Z E ?_))
 have af := (ac.blk.grown0 V)
 refine Xh (v := vi c.run) X3 Z (af.cell Z) Z (Xe Z Z Z E (Xm Kg (Xf Z (Xf Z (Xf Z Xl))) Z (Qt c.run 1 8 _) ?_))
 rintro _ az ⟨rfl, ab⟩
 refine Xo (v := vb (inR c.run 1 8)) Z E Z Z (Xc (v := vb (inR c.run 1 8)) Z Z ?_)
 rcases X6 (inR c.run 1 8) with G | G
 have ap := Yu.1 G
 refine Xe Z Z Z G (Xd (o' := 2) Jq Z Z Z (Xe Z Z Z G ?_))
 have ag := (af.grown0 ab)
 refine Xh (v := vi c.a) X3 Z (ag.cell Z) Z (Xe Z Z Z G (Xm Kg (Xf Z (Xf Z (Xf Z Xl))) Z (Qt c.a 0 3 _) ?_))
 rintro _ a8 ⟨rfl, ad⟩
 refine Xo (v := vb (inR c.a 0 3)) Z G Z Z (Xc (v := vb (inR c.a 0 3)) Z Z ?_)
 rcases X6 (inR c.a 0 3) with J | J
 have aq := Yu.1 J
 refine Xe Z Z Z J (Xd (o' := 3) Nv Z Z Z (Xe Z Z Z J ?_))
 have ah := (ag.grown0 ad)
 refine Xh (v := vi c.b) X3 Z (ah.cell Z) Z (Xe Z Z Z J (Xm Kg (Xf Z (Xf Z (Xf Z Xl))) Z (Qt c.b 0 3 _) ?_))
 rintro _ a9 ⟨rfl, ae⟩
 refine Xo (v := vb (inR c.b 0 3)) Z J Z Z (Xc (v := vb (inR c.b 0 3)) Z Z ?_)
 rcases X6 (inR c.b 0 3) with O | O
 have ar := Yu.1 O
 refine Xe Z Z Z O (Xd (o' := 4) K6 Z Z Z (Xe Z Z Z O (Xh (v := vi c.n) X3 Z ((ah.grown0 ae).cell Z) Z (Xe Z Z Z O (Xm Kg (Xf Z (Xf Z (Xf Z Xl))) Z (Qt c.n 0 99 _) ?_)))))
 rintro _ ba ⟨rfl, ai⟩
 exact Xo (v := vb (inR c.n 0 99)) Z O Z Z (Xg (v := vb (inR c.n 0 99)) Z Z (Xb ⟨(cB (by simp [E, G, J, O])), (grown_trans (grown_trans (grown_trans (grown_trans V ab) ad) ae) ai)⟩))
 iterate 3 refine Xi rfl rfl rfl O rfl ?_
 exact Xj (v := vb false) Z O Z Z (Xg (v := vb false) Z Z (Xb ⟨(cB (by simp [E, G, J, O])), (grown_trans (grown_trans (grown_trans V ab) ad) ae)⟩))
 iterate 3 refine Xi rfl rfl rfl J rfl ?_
 refine Xj (v := vb false) Z J Z Z (Xc (v := vb false) Z Z ?_)
 iterate 3 refine Xi rfl rfl rfl rfl rfl ?_
 exact Xj (v := vb false) Z Z Z Z (Xg (v := vb false) Z Z (Xb ⟨(cB (by simp [E, G, J])), (grown_trans (grown_trans V ab) ad)⟩))
 iterate 3 refine Xi rfl rfl rfl G rfl ?_
 refine Xj (v := vb false) Z G Z Z (Xc (v := vb false) Z Z ?_)
 iterate 3 refine Xi rfl rfl rfl rfl rfl ?_
 refine Xj (v := vb false) Z Z Z Z (Xc (v := vb false) Z Z ?_)
 iterate 3 refine Xi rfl rfl rfl rfl rfl ?_
 exact Xj (v := vb false) Z Z Z Z (Xg (v := vb false) Z Z (Xb ⟨(cB (by simp [E, G])), (grown_trans V ab)⟩))
 iterate 3 refine Xi rfl rfl rfl E rfl ?_
 refine Xj (v := vb false) Z E Z Z (Xc (v := vb false) Z Z ?_)
 iterate 3 refine Xi rfl rfl rfl rfl rfl ?_
 refine Xj (v := vb false) Z Z Z Z (Xc (v := vb false) Z Z ?_)
 iterate 3 refine Xi rfl rfl rfl rfl rfl ?_
 refine Xj (v := vb false) Z Z Z Z (Xc (v := vb false) Z Z ?_)
 iterate 3 refine Xi rfl rfl rfl rfl rfl ?_
 exact Xj (v := vb false) Z Z Z Z (Xg (v := vb false) Z Z (Xb ⟨(cB (by simp [E])), V⟩))
 rintro av bb ⟨ak, aj⟩
 refine Xq (⟨vb ((((inR c.kind 1 9 && inR c.run 1 8) && inR c.a 0 3) && inR c.b 0 3) && inR c.n 0 99), Yy Z ak, ?_, (low0 (low0 al ac.grw) aj)⟩)
 rfl
theorem Uh (c : Cl) (w : World) : CallsR Tryd.prog 9 #[.agg #[vi c.kind, vi c.run, vi c.a, vi c.b, vi c.n]] w (fun v w' => v = vb (callOk c) ∧ w.grownBy w' none) := by
 refine X0 (n := 26) Tryd.func9 Z Tryd.ntmps9 Z ?_
 have al := World.grownBy.refl w none
 refine Xa (Yr (v := .agg #[vi c.kind, vi c.run, vi c.a, vi c.b, vi c.n]) (cs := #[vi c.kind, vi c.run, vi c.a, vi c.b, vi c.n]) Z Z Z ?_)
 intro au am ac
 have an := X9 ac al
 refine Xg (v := vb false) Z Z (Xb (X2 (fun f' w' => (f' 2 = vb ((((inR c.kind 1 9 && inR c.run 1 8) && inR c.a 0 3) && inR c.b 0 3) && inR c.n 0 99)) ∧ am.grownBy w' none) ?_ ?_))
 refine Xd (o' := 0) Qu Z Z Z (Xh (v := vi c.kind) X3 Z (ac.blk.cell Z) Z (Xm Jw (Xf Z (Xf Z (Xf Z Xl))) Z (Jb c.kind 1 9 _) ?_))
 rintro _ aw ⟨rfl, V⟩
 refine Xc (v := vb (inR c.kind 1 9)) Z Z ?_
 rcases X6 (inR c.kind 1 9) with E | E
 have ao := Yu.1 E
 refine Xe Z Z Z E (Xd (o' := 1) Qn Z Z Z (Xe Z Z Z E ?_))
 have af := (ac.blk.grown0 V)
 refine Xh (v := vi c.run) X3 Z (af.cell Z) Z (Xe Z Z Z E (Xm Jw (Xf Z (Xf Z (Xf Z Xl))) Z (Jb c.run 1 8 _) ?_))
 rintro _ az ⟨rfl, ab⟩
 refine Xo (v := vb (inR c.run 1 8)) Z E Z Z (Xc (v := vb (inR c.run 1 8)) Z Z ?_)
 rcases X6 (inR c.run 1 8) with G | G
 have ap := Yu.1 G
 refine Xe Z Z Z G (Xd (o' := 2) Jq Z Z Z (Xe Z Z Z G ?_))
 have ag := (af.grown0 ab)
 refine Xh (v := vi c.a) X3 Z (ag.cell Z) Z (Xe Z Z Z G (Xm Jw (Xf Z (Xf Z (Xf Z Xl))) Z (Jb c.a 0 3 _) ?_))
 rintro _ a8 ⟨rfl, ad⟩
 refine Xo (v := vb (inR c.a 0 3)) Z G Z Z (Xc (v := vb (inR c.a 0 3)) Z Z ?_)
 rcases X6 (inR c.a 0 3) with J | J
 have aq := Yu.1 J
 refine Xe Z Z Z J (Xd (o' := 3) Nv Z Z Z (Xe Z Z Z J ?_))
 have ah := (ag.grown0 ad)
 refine Xh (v := vi c.b) X3 Z (ah.cell Z) Z (Xe Z Z Z J (Xm Jw (Xf Z (Xf Z (Xf Z Xl))) Z (Jb c.b 0 3 _) ?_))
 rintro _ a9 ⟨rfl, ae⟩
 refine Xo (v := vb (inR c.b 0 3)) Z J Z Z (Xc (v := vb (inR c.b 0 3)) Z Z ?_)
 rcases X6 (inR c.b 0 3) with O | O
 have ar := Yu.1 O
 refine Xe Z Z Z O (Xd (o' := 4) K6 Z Z Z (Xe Z Z Z O (Xh (v := vi c.n) X3 Z ((ah.grown0 ae).cell Z) Z (Xe Z Z Z O (Xm Jw (Xf Z (Xf Z (Xf Z Xl))) Z (Jb c.n 0 99 _) ?_)))))
 rintro _ ba ⟨rfl, ai⟩
 exact Xo (v := vb (inR c.n 0 99)) Z O Z Z (Xg (v := vb (inR c.n 0 99)) Z Z (Xb ⟨(cB (by simp [E, G, J, O])), (grown_trans (grown_trans (grown_trans (grown_trans V ab) ad) ae) ai)⟩))
 iterate 3 refine Xi rfl rfl rfl O rfl ?_
 exact Xj (v := vb false) Z O Z Z (Xg (v := vb false) Z Z (Xb ⟨(cB (by simp [E, G, J, O])), (grown_trans (grown_trans (grown_trans V ab) ad) ae)⟩))
 iterate 3 refine Xi rfl rfl rfl J rfl ?_
 refine Xj (v := vb false) Z J Z Z (Xc (v := vb false) Z Z ?_)
 iterate 3 refine Xi rfl rfl rfl rfl rfl ?_
 exact Xj (v := vb false) Z Z Z Z (Xg (v := vb false) Z Z (Xb ⟨(cB (by simp [E, G, J])), (grown_trans (grown_trans V ab) ad)⟩))
 iterate 3 refine Xi rfl rfl rfl G rfl ?_
 refine Xj (v := vb false) Z G Z Z (Xc (v := vb false) Z Z ?_)
 iterate 3 refine Xi rfl rfl rfl rfl rfl ?_
 refine Xj (v := vb false) Z Z Z Z (Xc (v := vb false) Z Z ?_)
 iterate 3 refine Xi rfl rfl rfl rfl rfl ?_
 exact Xj (v := vb false) Z Z Z Z (Xg (v := vb false) Z Z (Xb ⟨(cB (by simp [E, G])), (grown_trans V ab)⟩))
 iterate 3 refine Xi rfl rfl rfl E rfl ?_
 refine Xj (v := vb false) Z E Z Z (Xc (v := vb false) Z Z ?_)
 iterate 3 refine Xi rfl rfl rfl rfl rfl ?_
 refine Xj (v := vb false) Z Z Z Z (Xc (v := vb false) Z Z ?_)
 iterate 3 refine Xi rfl rfl rfl rfl rfl ?_
 refine Xj (v := vb false) Z Z Z Z (Xc (v := vb false) Z Z ?_)
 iterate 3 refine Xi rfl rfl rfl rfl rfl ?_
 exact Xj (v := vb false) Z Z Z Z (Xg (v := vb false) Z Z (Xb ⟨(cB (by simp [E])), V⟩))
 rintro av bb ⟨ak, aj⟩
 refine Xq (⟨vb ((((inR c.kind 1 9 && inR c.run 1 8) && inR c.a 0 3) && inR c.b 0 3) && inR c.n 0 99), Yy Z ak, ?_, (low0 (low0 al ac.grw) aj)⟩)
 rfl
theorem H3 (k : Int) (hk : -9223372036854775807 ≤ k) (w : World) (ms : List MTh) (a : Option Addr) (c : Nat) (ht : TabAt w a ms) (hlen : TabLen ms) (hn : ms.length ≤ 1048576) : CallsR Tryd.prog 17 #[.slice a ms.length c, vi k] w (fun v w' => v = vb (kindAt (tabT ms) k 3) ∧ w.grownBy w' none) := by
 refine X0 (n := 18) Tryd.func17 Z Tryd.ntmps17 Z ?_
 have ae := World.grownBy.refl w none
 refine Xa (Xg (v := vb false) Z Z (Xb (X2 (fun f' w' => (f' 4 = vb (inR k 1 (ms.length : Int) && (decide ((mj ms k).t.kind = 3)))) ∧ w.grownBy w' none) ?_ ?_)))
 refine Xc (v := vi k) Z Z (Xc (v := .slice a ms.length c) Z Z (Yj (by kernel_rfl) Z Z (Xm Jw (Xf Z (Xf Z (Xf Z Xl))) Z (Jb k 1 (ms.length : Int) _) ?_)))
 rintro _ al ⟨rfl, G⟩
 have O := low0 ae G
 refine Xc (v := vb (inR k 1 (ms.length : Int))) Z Z ?_
 rcases X6 (inR k 1 (ms.length : Int)) with E | E
 have ah := Yu.1 E
 refine Xe Z Z Z E (Xc (v := .slice a ms.length c) Z Z (Xe Z Z Z E (Xc (v := vi k) Z Z (Xe Z Z Z E (Y0 (c := k - 1) Z Z (by omega) (by omega) (by omega) Z (Xe Z Z Z E ?_))))))
 obtain ⟨ai, ak, af, J, ab, ac⟩ := SlAt.at (TabAt.low ht O).1 (Yi (xg ms (k - 1).toNat))
 have ag := TabLen.at hlen (xg ms (k - 1).toNat)
 exact X8 Y7 Z Z J ab (by omega) (by omega) Z (Xe Z Z Z E (Xd (o' := af) Yl Z Z Z (Xe Z Z Z E (Xh (v := vi (mj ms k).t.kind) X3 Z (ac 0 _ Z) Z (Xe Z Z Z E (Xw (q := decide ((mj ms k).t.kind = 3)) Z Z Z Z (Xo (v := vb (decide ((mj ms k).t.kind = 3))) Z E Z Z (Xg (v := vb (decide ((mj ms k).t.kind = 3))) Z Z (Xb ⟨(cB (by simp [E])), G⟩)))))))))
 iterate 7 refine Xi rfl rfl rfl E rfl ?_
 exact Xj (v := vb false) Z E Z Z (Xg (v := vb false) Z Z (Xb ⟨(cB (by simp [E])), G⟩))
 rintro aj am ⟨ad, V⟩
 refine Xq (⟨vb (inR k 1 (ms.length : Int) && (decide ((mj ms k).t.kind = 3))), Yy Z ad, ?_, (low0 ae V)⟩)
 exact cB Ua
theorem L2 (q : Cl) (w : World) (ms : List MTh) (a : Option Addr) (c : Nat) (ht : TabAt w a ms) (hlen : TabLen ms) (hn : ms.length ≤ 1048576) : CallsR Tryd.prog 35 #[.slice a ms.length c, .agg #[vi q.kind, vi q.run, vi q.a, vi q.b, vi q.n]] w (fun v w' => v = vb (callPoss (tabT ms) q) ∧ w.grownBy w' none) := by
 refine X0 (n := 17) Tryd.func35 Z Tryd.ntmps35 Z ?_
 have ag := World.grownBy.refl w none
 refine Xa (Yr (v := .agg #[vi q.kind, vi q.run, vi q.a, vi q.b, vi q.n]) (cs := #[vi q.kind, vi q.run, vi q.a, vi q.b, vi q.n]) Z Z Z ?_)
 intro ak ah V
 have aj := X9 V ag
 have ab := low0 ag V.grw
 refine Xg (v := vb false) Z Z (Xb (X2 (fun f' w' => (f' 4 = vb ((tableOk (tabT ms) && callOk q) && kindAt (tabT ms) q.run 3)) ∧ ah.grownBy w' none) ?_ ?_))
 refine Xc (v := .slice a ms.length c) Z Z (Xm S8 (Xf Z Xl) Z (W8  _ ms _ _ (TabAt.low ht ab) hlen (by omega)) ?_)
 rintro _ am ⟨rfl, J⟩
 refine Xc (v := vb (tableOk (tabT ms))) Z Z ?_
 rcases X6 (tableOk (tabT ms)) with G | G
 refine Xe Z Z Z G ?_
 have ac := (V.blk.grown0 J)
 refine Xp (vs := [vi q.kind, vi q.run, vi q.a, vi q.b, vi q.n]) Yp Z Z (ac.rangeL 0 5 Z) Z (Xe Z Z Z G (Xm Mt (Xf Z Xl) Z (P3 q _) ?_))
 rintro _ an ⟨rfl, O⟩
 refine Xo (v := vb (callOk q)) Z G Z Z (Xc (v := vb (callOk q)) Z Z ?_)
 rcases X6 (callOk q) with E | E
 have ai := Q2 E
 refine Xe Z Z Z E (Xc (v := .slice a ms.length c) Z Z (Xe Z Z Z E (Xd (o' := 1) Qn Z Z Z (Xe Z Z Z E (Xh (v := vi q.run) X3 Z ((ac.grown0 O).cell Z) Z (Xe Z Z Z E (Xm Rf (Xf Z (Xf Z (Xf Z Xl))) Z (Wj q.run 3 (by omega) _ ms _ _ (TabAt.low ht (low0 (low0 ab J) O)) hlen (by omega)) ?_)))))))
 rintro _ ao ⟨rfl, ad⟩
 exact Xo (v := vb (kindAt (tabT ms) q.run 3)) Z E Z Z (Xg (v := vb (kindAt (tabT ms) q.run 3)) Z Z (Xb ⟨(cB (by simp [G, E])), (grown_trans (grown_trans J O) ad)⟩))
 iterate 4 refine Xi rfl rfl rfl E rfl ?_
 exact Xj (v := vb false) Z E Z Z (Xg (v := vb false) Z Z (Xb ⟨(cB (by simp [G, E])), (grown_trans J O)⟩))
 refine Xi Z Z Z G Z (Xi Z Z Z G Z (Xj (v := vb false) Z G Z Z (Xc (v := vb false) Z Z ?_)))
 iterate 4 refine Xi rfl rfl rfl rfl rfl ?_
 exact Xj (v := vb false) Z Z Z Z (Xg (v := vb false) Z Z (Xb ⟨(cB (by simp [G])), J⟩))
 rintro al ap ⟨af, ae⟩
 refine Xq (⟨vb ((tableOk (tabT ms) && callOk q) && kindAt (tabT ms) q.run 3), Yy Z af, ?_, (low0 ab ae)⟩)
 rfl
end Go.Proofs.YtjpgffmkcmcolabDoor
end
section
namespace Go.Dw
def RB (r : Rt) : Prop := -1 ≤ r.th ∧ r.th ≤ 9 ∧ -1 ≤ r.ve ∧ r.ve ≤ 9
structure RowD (TR TI lo : Nat) (w : World) (m : MTh) : Prop where
  q : OwnN lo w m.qa TI 1 m.qc m.t.queue.length (m.t.queue.flatMap icell)
  s : ∃ xs : List Rt, OwnN lo w m.sa TR 5 m.sc m.t.slots.length (xs.flatMap Rt.cells) ∧ xs.length = m.t.slots.length ∧ ∀ x ∈ xs, RB x
  ql : m.t.queue.length ≤ 3
  sl : m.t.slots.length ≤ 4
  ve : 0 ≤ m.t.ve ∧ m.t.ve ≤ 1
def RowsD (TR TI lo : Nat) (w : World) (ms : List MTh) : Prop := ∀ m ∈ ms, RowD TR TI lo w m
theorem G9 {w : World} {B C : Nat} {T U : TypeId} {sz sz' cap cap' n n' : Nat} {vs us : List Value} (h : Own w B T sz cap n vs) (k : Own w C U sz' cap' n' us) (hT : T ≠ U) : B ≠ C := fun e => by
  subst e
  obtain ⟨_, c1, h1, _⟩ := h.blk
  obtain ⟨_, c2, h2, _⟩ := k.blk
  have : some (Obj.cells c1 T (0, 0)) = some (Obj.cells c2 U (0, 0)) := h1.symm.trans h2
  simp only [Option.some.injEq, Obj.cells.injEq] at this
  exact hT this.2.1
theorem OwnN.typ {lo : Nat} {w w' : World} {a : Option Addr} {T U : TypeId} {sz sz' cap cap' n n' B : Nat} {vs us : List Value} (h : OwnN lo w a T sz cap n vs) (hg : w.grownBy w' (some B)) (k : Own w B U sz' cap' n' us) (hT : T ≠ U) : OwnN lo w' a T sz cap n vs := by
  rcases h.form with ⟨rfl, rfl, rfl, rfl⟩ | ⟨C, rfl, h2, _, h3⟩
  · exact OwnN.nil
  · exact OwnN.of (h3.grown hg (Q1 (G9 h3 k hT))) h2
section
variable {TR TI lo : Nat} {w w' : World} {m : MTh} {ms : List MTh}
theorem RowD.low (h : RowD TR TI lo w m) (hg : w.grownBy w' none) : RowD TR TI lo w' m :=
  ⟨h.q.grown0 hg, let ⟨xs, h1, h2⟩ := h.s; ⟨xs, h1.grown0 hg, h2⟩, h.ql, h.sl, h.ve⟩
theorem RowD.lt {R : Nat} (h : RowD TR TI lo w m) (hg : w.grownBy w' (some R)) (hR : R < lo) : RowD TR TI lo w' m :=
  ⟨h.q.grown_lt hg hR, let ⟨xs, h1, h2⟩ := h.s; ⟨xs, h1.grown_lt hg hR, h2⟩, h.ql, h.sl, h.ve⟩
theorem RowD.typ {B U sz cap n : Nat} {us : List Value} (h : RowD TR TI lo w m) (hg : w.grownBy w' (some B)) (k : Own w B U sz cap n us) (h1 : TR ≠ U) (h2 : TI ≠ U) : RowD TR TI lo w' m :=
  ⟨h.q.typ hg k h2, let ⟨xs, h3, h4⟩ := h.s; ⟨xs, h3.typ hg k h1, h4⟩, h.ql, h.sl, h.ve⟩
theorem RowD.mono {lo' : Nat} (h : RowD TR TI lo w m) (hl : lo' ≤ lo) : RowD TR TI lo' w m :=
  ⟨h.q.mono hl, let ⟨xs, h1, h2⟩ := h.s; ⟨xs, h1.mono hl, h2⟩, h.ql, h.sl, h.ve⟩
theorem RowsD.low (h : RowsD TR TI lo w ms) (hg : w.grownBy w' none) : RowsD TR TI lo w' ms := fun m hm => (h m hm).low hg
theorem RowsD.lt {R : Nat} (h : RowsD TR TI lo w ms) (hg : w.grownBy w' (some R)) (hR : R < lo) : RowsD TR TI lo w' ms := fun m hm => (h m hm).lt hg hR
theorem RowsD.typ {B U sz cap n : Nat} {us : List Value} (h : RowsD TR TI lo w ms) (hg : w.grownBy w' (some B)) (k : Own w B U sz cap n us) (h1 : TR ≠ U) (h2 : TI ≠ U) : RowsD TR TI lo w' ms := fun m hm => (h m hm).typ hg k h1 h2
theorem RowsD.ge {b hi : Nat} (h : RowsD TR TI lo w ms) (hg : w.grownBy w' (some b)) (hH : ∀ m ∈ ms, ∀ c, (m.sa = some ⟨c, 0, none⟩ ∨ m.qa = some ⟨c, 0, none⟩) → c < hi) (hb : hi ≤ b) : RowsD TR TI lo w' ms := fun m hm =>
  ⟨(h m hm).q.grown hg (fun B e => Q1 (by have := hH m hm B (Or.inr e); omega)), let ⟨xs, h1, h2⟩ := (h m hm).s; ⟨xs, h1.grown hg (fun B e => Q1 (by have := hH m hm B (Or.inl e); omega)), h2⟩, (h m hm).ql, (h m hm).sl, (h m hm).ve⟩
theorem RowsD.hi (h : RowsD TR TI lo w ms) : ∀ m ∈ ms, ∀ c, (m.sa = some ⟨c, 0, none⟩ ∨ m.qa = some ⟨c, 0, none⟩) → c < w.heap.size := fun m hm c hc => by
  rcases hc with e | e
  · obtain ⟨xs, h1, _⟩ := (h m hm).s
    rcases h1.form with ⟨e2, _⟩ | ⟨B, e2, _, h3, _⟩
    · rw [e2] at e; cases e
    · rw [e2] at e
      simp only [Option.some.injEq, Addr.mk.injEq, and_true] at e
      omega
  · rcases (h m hm).q.form with ⟨e2, _⟩ | ⟨B, e2, _, h3, _⟩
    · rw [e2] at e; cases e
    · rw [e2] at e
      simp only [Option.some.injEq, Addr.mk.injEq, and_true] at e
      omega
theorem RowsD.snoc (h : RowsD TR TI lo w ms) (hm : RowD TR TI lo w m) : RowsD TR TI lo w (ms ++ [m]) := fun x hx => by
  rcases List.mem_append.1 hx with h1 | h1
  · exact h x h1
  · simp at h1; subst h1; exact hm
theorem RowsD.nil : RowsD TR TI lo w [] := fun x hx => by simp at hx
theorem RowsD.at (h : RowsD TR TI lo w ms) {i : Nat} (hi : i < ms.length) : RowD TR TI lo w (mAt ms i) := h _ (List.mem_of_getElem? (Qw hi))
theorem RowsD.setk (h : RowsD TR TI lo w ms) {i : Nat} (hi : i < ms.length) {m' : MTh} (hq : m'.qa = (mAt ms i).qa ∧ m'.qc = (mAt ms i).qc ∧ m'.t.queue = (mAt ms i).t.queue) (hs : m'.sa = (mAt ms i).sa ∧ m'.sc = (mAt ms i).sc ∧ m'.t.slots = (mAt ms i).t.slots) (hv : m'.t.ve = (mAt ms i).t.ve) : RowsD TR TI lo w (ms.set i m') := fun x hx => by
  rcases List.mem_or_eq_of_mem_set hx with h1 | rfl
  · exact h x h1
  · have h0 := h.at hi
    obtain ⟨h1, h2, h3⟩ := hq
    obtain ⟨h4, h5, h6⟩ := hs
    refine ⟨?_, ?_, ?_, ?_, ?_⟩
    · rw [h1, h2, h3]; exact h0.q
    · rw [h4, h5, h6]; exact h0.s
    · rw [h3]; exact h0.ql
    · rw [h6]; exact h0.sl
    · rw [hv]; exact h0.ve
theorem RowD.slot (h : RowD TR TI lo w m) (hs : 0 < m.t.slots.length) : ∃ (S : Nat) (xs : List Rt), m.sa = some ⟨S, 0, none⟩ ∧ lo ≤ S ∧ Own w S TR 5 m.sc xs.length (xs.flatMap Rt.cells) ∧ xs.length = m.t.slots.length := by
  obtain ⟨xs, h1, h2, h3⟩ := h.s
  obtain ⟨S, ha, hl, ho⟩ := h1.some_ hs
  exact ⟨S, xs, ha, hl, by rw [h2]; exact ho, h2⟩
def PutR (T : TypeId) (S k : Nat) (x : Rt) (w w' : World) : Prop := ∀ cap n (ys : List Rt), Own w S T 5 cap n (ys.flatMap Rt.cells) → Own w' S T 5 cap n ((ys.set k x).flatMap Rt.cells)
theorem RowD.put {S k : Nat} {x : Rt} (h : RowD TR TI lo w m) (hp : PutR TR S k x w w') (hg : w.grownBy w' (some S)) (hx : RB x) {cap n : Nat} {us : List Value} (ho : Own w S TR 5 cap n us) (hT : TI ≠ TR) : RowD TR TI lo w' m := by
  refine ⟨h.q.typ hg ho hT, ?_, h.ql, h.sl, h.ve⟩
  obtain ⟨xs, h1, h2, h3⟩ := h.s
  rcases h1.form with ⟨e1, e2, e3, e4⟩ | ⟨C, e1, e2, e3, e4⟩
  · refine ⟨xs, ?_, h2, h3⟩
    rw [e1, e2, e3, e4]
    exact OwnN.nil
  · by_cases hC : C = S
    · subst hC
      refine ⟨xs.set k x, ?_, by rw [List.length_set, h2], fun y hy => ?_⟩
      · rw [e1]; exact OwnN.of (hp _ _ _ e4) e2
      · rcases List.mem_or_eq_of_mem_set hy with h4 | rfl
        · exact h3 y h4
        · exact hx
    · refine ⟨xs, ?_, h2, h3⟩
      rw [e1]
      exact OwnN.of (e4.grown hg (Q1 hC)) e2
theorem RowsD.put {S k : Nat} {x : Rt} (h : RowsD TR TI lo w ms) (hp : PutR TR S k x w w') (hg : w.grownBy w' (some S)) (hx : RB x) {cap n : Nat} {us : List Value} (ho : Own w S TR 5 cap n us) (hT : TI ≠ TR) : RowsD TR TI lo w' ms :=
  fun m hm => (h m hm).put hp hg hx ho hT
end
theorem Sm {cur : List Value} {o m : Nat} {us : List Value} (ho : m ≤ o) (hc : o + us.length ≤ cur.length) : (cur.take o ++ us ++ cur.drop (o + us.length)).take m = cur.take m := by
  rw [List.append_assoc, List.take_append, List.take_take, Nat.min_eq_left ho, List.length_take, Nat.min_eq_left (by omega), show m - o = 0 by omega, List.take_zero, List.append_nil]
section
variable {P : Program} {n : Nat} {ops : Array Oper} {K : Fr → World → Prop} {l : List Oper} {f : Fr} {w : World} {ty : TypeId} {pos : String} {aft : Array Edge} {d : Nat}
theorem W1 {t b o cap k : Nat} {T : TypeId} {x y : Operand} {ys : List Rt} {z' : Rt} (ht : rowTy P t = some 5) (hx : ev f x = .pointer (some ⟨b, o, none⟩)) (hy : ev f y = .agg z'.cells.toArray)
    (ho : Own w b T 5 cap ys.length (ys.flatMap Rt.cells)) (hk : k < ys.length) (e : o = k * 5)
    (h : ∀ w', PutR T b k z' w w' → w.grownBy w' (some b) → WpO P n ops K l f w') : WpO P n ops K (⟨none, .store t x y, ty, pos, aft, none⟩ :: l) f w := by
  obtain ⟨hl, cur, hb, h2, h3, h4, h5⟩ := ho.blk
  have hlt : k * 5 + 5 ≤ ys.length * 5 := by omega
  have hin : k * 5 + 5 ≤ cur.size := by rw [h4]; omega
  have hsz : cur.toList.length = cap * 5 := by rw [Array.length_toList]; exact h4
  have hz : (Rt.cells z').length = 5 := rfl
  subst e
  refine Vt (w' := w.setRow b (cur.toList.take (k * 5) ++ Rt.cells z' ++ cur.toList.drop (k * 5 + 5)).toArray) rfl rfl (by simp only [execOp, hx, hy, Sem.run_bind, V6 ht (Qs z') (G8 z') hb hin, Result.andThen_ok]; rfl) (h _ ?_ (setB_setRow hb _).grw)
  intro cap' n' ys' ho'
  obtain ⟨hl', cur', hb', h2', h3', h4', h5'⟩ := ho'.blk
  have ec : cur' = cur := by
    have : some (Obj.cells cur' T (0, 0)) = some (Obj.cells cur T (0, 0)) := hb'.symm.trans hb
    simpa using this
  subst ec
  have hn' : ys'.length = n' := by
    rw [Qz Qs] at hl'
    omega
  refine Own.ofBlk ?_ (setB_setRow hb _).blk h2' h3' ?_ ?_
  · rw [Qz Qs, List.length_set, hn']
  · rw [List.size_toArray, List.length_append, List.length_append, List.length_take, List.length_drop, hz, hsz, Nat.min_eq_left (by omega)]
    omega
  · have ecap : cap' * 5 = cap * 5 := h4'.symm.trans h4
    by_cases hkn : k < n'
    · have hset := congrArg Array.toList (Gk Qs (ys := ys') (k := k) (by omega) z')
      have hq := Lk (cur := cur'.toList) (us := Rt.cells z') (o := k * 5) h5' (by omega) (by rw [hz]; omega)
      rw [hz] at hq
      rw [hq]
      simpa using hset
    · have hq := Sm (cur := cur'.toList) (us := Rt.cells z') (o := k * 5) (m := n' * 5) (by omega) (by rw [hz]; omega)
      rw [hz] at hq
      rw [List.toList_toArray, hq, h5', List.set_eq_of_length_le (by omega)]
end
def SlG (lo : Nat) (w : World) (a : Option Addr) (sz : Nat) (xs : List (List Value)) : Prop := ∀ k x, xs[k]? = some x → ∃ b o, a = some ⟨b, o, none⟩ ∧ lo ≤ b ∧ w.rangeAt b (o + k * sz) x
section
variable {lo : Nat} {w w' : World} {a : Option Addr} {sz : Nat} {xs : List (List Value)}
theorem SlG.sl (h : SlG lo w a sz xs) : SlAt w a sz xs := fun k x hk => by
  obtain ⟨b, o, ha, _, hr⟩ := h k x hk
  exact ⟨b, o, ha, hr⟩
theorem SlG.low (h : SlG lo w a sz xs) (hg : w.grownBy w' none) : SlG lo w' a sz xs := fun k x hk => by
  obtain ⟨b, o, ha, hb, hr⟩ := h k x hk
  exact ⟨b, o, ha, hb, Qy hr hg (by simp)⟩
theorem SlG.lt {R : Nat} (h : SlG lo w a sz xs) (hg : w.grownBy w' (some R)) (hR : R < lo) : SlG lo w' a sz xs := fun k x hk => by
  obtain ⟨b, o, ha, hb, hr⟩ := h k x hk
  exact ⟨b, o, ha, hb, Qy hr hg (Q1 (by omega))⟩
theorem SlG.mono {lo' : Nat} (h : SlG lo w a sz xs) (hl : lo' ≤ lo) : SlG lo' w a sz xs := fun k x hk => by
  obtain ⟨b, o, ha, hb, hr⟩ := h k x hk
  exact ⟨b, o, ha, Nat.le_trans hl hb, hr⟩
theorem SlG.own {α : Type} {g : α → List Value} (hg : Wide g sz) {ys : List α} {B cap n : Nat} {T : TypeId} (h : Own w B T sz cap n (ys.flatMap g)) (hB : lo ≤ B) : SlG lo w (some ⟨B, 0, none⟩) sz (ys.map g) := fun k x hk => by
  obtain ⟨b, o, ha, hr⟩ := Own.sl hg h k x hk
  simp only [Option.some.injEq, Addr.mk.injEq] at ha
  obtain ⟨rfl, rfl, _⟩ := ha
  exact ⟨_, _, rfl, hB, hr⟩
theorem SlG.ownN {α : Type} {g : α → List Value} (hg : Wide g sz) (h0 : 0 < sz) {ys : List α} {cap n : Nat} {T : TypeId} (h : OwnN lo w a T sz cap n (ys.flatMap g)) : SlG lo w a sz (ys.map g) := fun k x hk => by
  obtain ⟨b, o, ha, hr⟩ := OwnN.sl hg h0 h k x hk
  refine ⟨b, o, ha, ?_, hr⟩
  rcases h.form with ⟨h2, _⟩ | ⟨B, h2, h3, _⟩
  · rw [h2] at ha; cases ha
  · rw [h2] at ha
    simp only [Option.some.injEq, Addr.mk.injEq] at ha
    omega
end
def ThG (lo : Nat) (w : World) (m : MTh) : Prop := SlG lo w m.sa 5 (m.t.slots.map Rt.cells) ∧ SlG lo w m.qa 1 (m.t.queue.map icell) ∧ (m.sa = none → m.sc = 0) ∧ (m.qa = none → m.qc = 0)
def TabG (lo : Nat) (w : World) (a : Option Addr) (ms : List MTh) : Prop := SlG lo w a 8 (ms.map MTh.cells) ∧ ∀ m ∈ ms, ThG lo w m
section
variable {lo : Nat} {w w' : World} {a : Option Addr} {m : MTh} {ms : List MTh}
theorem TabG.at (h : TabG lo w a ms) : TabAt w a ms := ⟨h.1.sl, fun m hm => ⟨(h.2 m hm).1.sl, (h.2 m hm).2.1.sl, (h.2 m hm).2.2⟩⟩
theorem TabG.low (h : TabG lo w a ms) (hg : w.grownBy w' none) : TabG lo w' a ms := ⟨h.1.low hg, fun m hm => ⟨(h.2 m hm).1.low hg, (h.2 m hm).2.1.low hg, (h.2 m hm).2.2⟩⟩
theorem TabG.lt {R : Nat} (h : TabG lo w a ms) (hg : w.grownBy w' (some R)) (hR : R < lo) : TabG lo w' a ms := ⟨h.1.lt hg hR, fun m hm => ⟨(h.2 m hm).1.lt hg hR, (h.2 m hm).2.1.lt hg hR, (h.2 m hm).2.2⟩⟩
theorem TabG.mono {lo' : Nat} (h : TabG lo w a ms) (hl : lo' ≤ lo) : TabG lo' w a ms := ⟨h.1.mono hl, fun m hm => ⟨(h.2 m hm).1.mono hl, (h.2 m hm).2.1.mono hl, (h.2 m hm).2.2⟩⟩
end
def TabHi (hi : Nat) (a : Option Addr) (ms : List MTh) : Prop := (∀ b o, a = some ⟨b, o, none⟩ → 0 < ms.length → b < hi) ∧ ∀ m ∈ ms, (∀ b o, m.sa = some ⟨b, o, none⟩ → 0 < m.t.slots.length → b < hi) ∧ ∀ b o, m.qa = some ⟨b, o, none⟩ → 0 < m.t.queue.length → b < hi
theorem R0 {α : Type} {g : α → List Value} {sz lo : Nat} (hg : Wide g sz) (h0 : 0 < sz) {w : World} {a : Option Addr} {ys : List α} (h : SlG lo w a sz (ys.map g)) : ∀ b o, a = some ⟨b, o, none⟩ → 0 < ys.length → b < w.heap.size := fun b o ha hn => by
  obtain ⟨y, hy⟩ := Qa hn
  obtain ⟨b', o', ha', _, hr⟩ := h 0 (g y) (Yi hy)
  rw [ha] at ha'
  simp only [Option.some.injEq, Addr.mk.injEq] at ha'
  obtain ⟨rfl, rfl, _⟩ := ha'
  obtain ⟨v, hv⟩ : ∃ v, (g y)[0]? = some v := ⟨_, List.getElem?_eq_getElem (by rw [hg y]; exact h0)⟩
  exact World.block_lt_of_cell? w _ (hr 0 v hv)
theorem TabG.hi {lo : Nat} {w : World} {a : Option Addr} {ms : List MTh} (h : TabG lo w a ms) : TabHi w.heap.size a ms :=
  ⟨R0 Qf (by omega) h.1, fun m hm => ⟨R0 Qs (by omega) (h.2 m hm).1, R0 Yn (by omega) (h.2 m hm).2.1⟩⟩
theorem SlG.ge {α : Type} {g : α → List Value} {sz lo hi b : Nat} {w w' : World} {a : Option Addr} {ys : List α} (h : SlG lo w a sz (ys.map g)) (hg : w.grownBy w' (some b)) (hH : ∀ c o, a = some ⟨c, o, none⟩ → 0 < ys.length → c < hi) (hb : hi ≤ b) : SlG lo w' a sz (ys.map g) := fun k x hk => by
  obtain ⟨c, o, ha, hc, hr⟩ := h k x hk
  have hn : 0 < ys.length := by
    have := (List.getElem?_eq_some_iff.1 hk).1
    rw [List.length_map] at this
    omega
  have := hH c o ha hn
  exact ⟨c, o, ha, hc, Qy hr hg (Q1 (by omega))⟩
theorem TabG.ge {lo hi b : Nat} {w w' : World} {a : Option Addr} {ms : List MTh} (h : TabG lo w a ms) (hg : w.grownBy w' (some b)) (hH : TabHi hi a ms) (hb : hi ≤ b) : TabG lo w' a ms :=
  ⟨h.1.ge hg hH.1 hb, fun m hm => ⟨(h.2 m hm).1.ge hg (hH.2 m hm).1 hb, (h.2 m hm).2.1.ge hg (hH.2 m hm).2 hb, (h.2 m hm).2.2⟩⟩
def Small (ms : List MTh) : Prop := ∀ m ∈ ms, m.t.slots.length ≤ 4 ∧ m.t.queue.length ≤ 3
theorem Small.len {ms : List MTh} (h : Small ms) : TabLen ms := fun m hm => ⟨by have := h m hm; omega, by have := h m hm; omega⟩
theorem RowsD.tab {TR TI lo : Nat} {w : World} : ∀ (ms : List MTh), RowsD TR TI lo w ms → ∃ ms' : List MTh, ms'.map MTh.cells = ms.map MTh.cells ∧ (∀ m ∈ ms', ThG lo w m) ∧ Small ms'
  | [], _ => ⟨[], rfl, fun m hm => by simp at hm, fun m hm => by simp at hm⟩
  | m :: ms, h => by
    obtain ⟨ms', h1, h2, h5⟩ := RowsD.tab ms fun x hx => h x (List.mem_cons_of_mem _ hx)
    have hm := h m (List.mem_cons_self ..)
    obtain ⟨xs, h3, h4, _⟩ := hm.s
    refine ⟨⟨{ m.t with slots := xs }, m.sa, m.sc, m.qa, m.qc⟩ :: ms', ?_, ?_, ?_⟩
    · rw [List.map_cons, List.map_cons, h1]
      simp only [MTh.cells, h4]
    · intro x hx
      rcases List.mem_cons.1 hx with rfl | hx
      · exact ⟨SlG.ownN Qs (by omega) h3, SlG.ownN Yn (by omega) hm.q, fun e => h3.cap0 e, fun e => hm.q.cap0 e⟩
      · exact h2 x hx
    · intro x hx
      rcases List.mem_cons.1 hx with rfl | hx
      · refine ⟨?_, hm.ql⟩
        show xs.length ≤ 4
        rw [h4]; exact hm.sl
      · exact h5 x hx
theorem Lg {ms ms' : List MTh} (h : ms'.map MTh.cells = ms.map MTh.cells) : ms'.flatMap MTh.cells = ms.flatMap MTh.cells := by
  rw [List.flatMap_def, List.flatMap_def, h]
end Go.Dw
end
section
namespace Go.Dw
theorem rbo {r : Rt} (a b : Int) (e1 : r.th = a) (e2 : r.ve = b) (h1 : (-1 : Int) ≤ a := by omega) (h2 : a ≤ (9 : Int) := by omega) (h3 : (-1 : Int) ≤ b := by omega) (h4 : b ≤ (9 : Int) := by omega) : RB r := by subst e1; subst e2; exact ⟨h1, h2, h3, h4⟩
end Go.Dw
end
section
namespace Go.Proofs.YtjpgffmkcmcolabDoor
open Go.RowKit Go.Dw
set_option maxRecDepth 100000
set_option maxHeartbeats 4000000
set_option linter.unusedSimpArgs false
set_option linter.unusedVariables false
theorem Ta : goFn Tryd.prog 27 = true := by kernel_rfl
theorem Mr : goFn Tryd.prog 51 = true := by kernel_rfl
theorem Ms : goFn Tryd.prog 52 = true := by kernel_rfl
theorem Uo : goFn Tryd.prog 67 = true := by kernel_rfl
theorem Mz : goFn Tryd.prog 68 = true := by kernel_rfl
theorem Sg : goFn Tryd.prog 8 = true := by kernel_rfl
theorem Rs : mkTy Tryd.prog 23 = some (36, 8, 96, some (.agg #[.int .i64 0, .int .i64 0, .int .i64 0, .int .i64 0, .int .i64 0, .slice none 0 0, .slice none 0 0, .int .i64 0])) := by kernel_rfl
theorem Rv : mkTy Tryd.prog 34 = some (3, 1, 8, some (.int .i64 0)) := by kernel_rfl
theorem Nc (k to : Int) (p : Int) (hp : 0 ≤ p ∧ p ≤ 1000000000000) (lo R : Nat) (bs : List Int) (a : Option Addr) (c : Nat) (w : World) (hR : Blk w R 63 #[.slice a bs.length c, vi p]) (hlo : lo ≤ R) (hs : SlLt lo w a 1 (bs.map bcell)) (hb : ∀ b ∈ bs, 0 ≤ b ∧ b ≤ 255) (hn : bs.length ≤ 1048576) : CallsR Tryd.prog 51 #[pt R 0, vi k, vi to] w (fun v w' => ∃ (m : MTh) (p' : Int), v = .agg #[vi m.t.kind, vi m.t.lab.s, vi m.t.lab.v, vi m.t.ve, vi m.t.num, .slice m.sa m.t.slots.length m.sc, .slice m.qa m.t.queue.length m.qc, vi m.t.to] ∧ RowD 38 3 w.heap.size w' m ∧ p ≤ p' ∧ p' ≤ p + 12 ∧ Blk w' R 63 #[.slice a bs.length c, vi p'] ∧ w.grownBy w' (some R)) := by
 refine X0 (n := 59) Tryd.func51 Z Tryd.ntmps51 Z ?_
 have rb := World.grownBy.refl w (some R)
 have hRlt := hR.lt
 refine Xa (Yd (cs := #[vi 0, vi 0, vi 0, vi 0, vi 0, .slice none 0 0, .slice none 0 0, vi 0]) Kr Z Z ?_)
 intro bd uo bp
 have rz := X9 bp rb
 have ou := Xn bp (hR).lt
 have io := low0 rb bp.grw
 refine Xb (Xa (Xc (v := vi k) Z Z (Xc (v := pt R 0) Z Z (Xm Mz (Xf Z Xl) Z (Na p (by omega) _ R bs _ _ _ (hR.grown0 bp.grw) (by omega) (SlLt.low1 hs io hlo) (by first | exact hb | exact fun b h => hb b (List.mem_of_mem_take h)) (by first | omega | (rw [List.length_take]; omega))) ?_))))
 rintro _ ut ⟨E, ah, rfl, tf, tg, ti, tj, td, te, ca, eo⟩
 have bq := grown_trans io eo
 refine Xc (v := vi to) Z Z ?_
 rcases X6 ((decide (k = 2)) || (decide (k = 3))) with bn | bn
 rcases X6 (newOk k E to) with gm | gm
 have ja := (bp.blk.gn eo)
 have tt : thingOk (⟨k, E, 0, 0, zeros4, [], to⟩ : Th) = true := (Uz bn).symm.trans gm
 refine Xm Uo (Xf Z (Xf Z (Xf Z Xl))) Z (Hg k to E bn gm _) ?_
 rintro _ uu ⟨ab, G, ai, O, rfl, gg, dg, gh, dh, k3, gz⟩
 have ip := low0 bq gz
 have d4 := nt bq.size gg
 have ov := nl (ca).lt gg
 have jr := nl (ja).lt gg
 have d5 := nt bq.size gh
 have ow := nl (ca).lt gh
 have js := nl (ja).lt gh
 refine Xc (v := .tuple #[.agg #[vi k, vi E.s, vi E.v, vi 0, vi 0, .slice (pa ab) 4 G, .slice (pa ai) 0 O, vi to], vb true]) Z Z (Yx (v := .agg #[vi k, vi E.s, vi E.v, vi 0, vi 0, .slice (pa ab) 4 G, .slice (pa ai) 0 O, vi to]) Z Z Z (Yx (v := vb true) Z Z Z (Yd (cs := #[vi 0, vi 0, vi 0, vi 0, vi 0, .slice none 0 0, .slice none 0 0, vi 0]) Kr Z Z ?_)))
 intro d6 uv ac
 have r0 := X9 ac ip
 have fw := (ca.grown0 gz)
 have ox := Xn ac (fw).lt
 have fx := (ja.grown0 gz)
 have jt := Xn ac (fx).lt
 have kf := Xn ac (dh).lt
 have ka := Xn ac (dg).lt
 refine Xt (vs := [vi k, vi E.s, vi E.v, vi 0, vi 0, .slice (pa ab) 4 G, .slice (pa ai) 0 O, vi to]) (cs' := #[vi k, vi E.s, vi E.v, vi 0, vi 0, .slice (pa ab) 4 G, .slice (pa ai) 0 O, vi to]) Yz Z Z Z (by simp [Value.oneCell']) ac.blk (Nat.le_of_ble_eq_true Z) Z ?_
 intro uw V
 have bb := low1 (low0 ip ac.grw) V.grw (by omega)
 refine Xg (v := vb true) Z Z (Xb (Xs (Xa (Xd (o' := 0) Yl Z Z Z (Xh (v := vi k) X3 Z (V.blk.cell Z) Z (Xw (q := decide (k = 0)) Z Z Z Z (Xb (Xu Z (fun ib => ?_) (fun ib => ?_)))))))))
 have tu := of_decide_eq_true ib
 refine Xx (Yk (ps := []) (v := .agg #[vi 0, vi 0]) Xz (by kernel_rfl) Z ?_)
 have jb := ((fw.grown0 ac.grw).gn V.grw)
 have jc := ((fx.grown0 ac.grw).gn V.grw)
 have mc := ((dh.grown0 ac.grw).gn V.grw)
 have me := ((dg.grown0 ac.grw).gn V.grw)
 have tv : thingOk (⟨1, ⟨0, 0⟩, 0, 0, [], [], 0⟩ : Th) = true := (Kv (by decide)).symm.trans (by decide)
 refine Xm Uo (Xf Z (Xf Z (Xf Z Xl))) Z (J5 1 0 ⟨0, 0⟩ (by decide) (by decide) _) ?_
 rintro _ ux ⟨be, al, bf, am, rfl, cc, m6, cd, m7, k6, ga⟩
 have lg := nt bb.size cc
 have oy := nl (jb).lt cc
 have ju := nl (jc).lt cc
 have kg := nl (mc).lt cc
 have kb := nl (me).lt cc
 have ki := nl (V.blk).lt cc
 have lh := nt bb.size cd
 have oz := nl (jb).lt cd
 have jv := nl (jc).lt cd
 have kh := nl (mc).lt cd
 have kc := nl (me).lt cd
 have kj := nl (V.blk).lt cd
 refine Xc (v := .tuple #[.agg #[vi 1, vi 0, vi 0, vi 0, vi 0, .slice (pa be) 0 al, .slice (pa bf) 0 am, vi 0], vb true]) Z Z (Yx (v := .agg #[vi 1, vi 0, vi 0, vi 0, vi 0, .slice (pa be) 0 al, .slice (pa bf) 0 am, vi 0]) Z Z Z (Yx (v := vb true) Z Z Z (Xt (vs := [vi 1, vi 0, vi 0, vi 0, vi 0, .slice (pa be) 0 al, .slice (pa bf) 0 am, vi 0]) (cs' := #[vi 1, vi 0, vi 0, vi 0, vi 0, .slice (pa be) 0 al, .slice (pa bf) 0 am, vi 0]) Yz Z Z Z (by simp [Value.oneCell']) (V.blk.grown0 ga) (Nat.le_of_ble_eq_true Z) Z ?_)))
 intro uy ck
 have iq := low1 (low0 bb ga) ck.grw (by omega)
 refine Xb (Xr (Xs (Xa (Xd (o' := 0) Yl Z Z Z (Xh (v := vi 1) X3 Z (ck.blk.cell Z) Z (Xb (Ya (Xa (Xw (q := true) Z Z (by decide) Z (Xg (v := vb true) Z Z (Xb (Y3 Z Z ?_))))))))))))
 refine Xa (Xc (v := pt R 0) Z Z (Xm Yt (Xf Z (Xf Z Xl)) Z (Yh ah 20 (by omega) _ R bs _ _ _ ((jb.grown0 ga).gn ck.grw) (by omega) (SlLt.low1 hs iq hlo) (by first | exact hb | exact fun b h => hb b (List.mem_of_mem_take h)) (by first | omega | (rw [List.length_take]; omega))) ?_))
 rintro _ uz ⟨c8, rfl, r6, r7, ny, ep⟩
 refine Xd (o' := 4) Jg Z Z Z (Yb (v := vi c8) (cs' := #[vi 1, vi 0, vi 0, vi 0, vi c8, .slice (pa be) 0 al, .slice (pa bf) 0 am, vi 0]) X3 Z Z Z (ck.blk.gn ep) (Nat.le_of_ble_eq_true Z) Z ?_)
 intro u0 di
 have ir := low1 (grown_trans iq ep) di.grw (by omega)
 refine Xb (Xx (Xc (v := pt R 0) Z Z (Xm Yt (Xf Z (Xf Z Xl)) Z (Yh (ah + 1) 3 (by omega) _ R bs _ _ _ (ny.gn di.grw) (by omega) (SlLt.low1 hs ir hlo) (by first | exact hb | exact fun b h => hb b (List.mem_of_mem_take h)) (by first | omega | (rw [List.length_take]; omega))) ?_)))
 rintro _ u1 ⟨bt, rfl, r8, r9, nz, eu⟩
 refine Jz (c := bt / 2) Z Z (by omega) (by omega) (by omega) Z Z (Xd (o' := 3) Qv Z Z Z (Yb (v := vi (bt / 2)) (cs' := #[vi 1, vi 0, vi 0, vi (bt / 2), vi c8, .slice (pa be) 0 al, .slice (pa bf) 0 am, vi 0]) X3 Z Z Z (di.blk.gn eu) (Nat.le_of_ble_eq_true Z) Z ?_))
 intro u2 dk
 refine Xb (Ys (Xr (Xa (Xp (vs := [vi 1, vi 0, vi 0, vi (bt / 2), vi c8, .slice (pa be) 0 al, .slice (pa bf) 0 am, vi 0]) Yz Z Z (dk.blk.rangeL 0 8 Z) Z (Xt (vs := [vi 1, vi 0, vi 0, vi (bt / 2), vi c8, .slice (pa be) 0 al, .slice (pa bf) 0 am, vi 0]) (cs' := #[vi 1, vi 0, vi 0, vi (bt / 2), vi c8, .slice (pa be) 0 al, .slice (pa bf) 0 am, vi 0]) Yz Z Z Z (by simp [Value.oneCell']) ((((((jc.grown0 ga).gn ck.grw).gn ep).gn di.grw).gn eu).gn dk.grw) (Nat.le_of_ble_eq_true Z) Z ?_)))))
 intro u3 ea
 refine Xb (Xq (⟨.agg #[vi 1, vi 0, vi 0, vi (bt / 2), vi c8, .slice (pa be) 0 al, .slice (pa bf) 0 am, vi 0], Qo Z (X7 (vs := [vi 1, vi 0, vi 0, vi (bt / 2), vi c8, .slice (pa be) 0 al, .slice (pa bf) 0 am, vi 0]) Yz Z Z (ea.blk.rangeL 0 8 Z)), ⟨⟨1, ⟨0, 0⟩, bt / 2, c8, ([] : List Rt), ([] : List Int), 0⟩, some ⟨be, 0, none⟩, al, some ⟨bf, 0, none⟩, am⟩, (ah + 1 + 1), Z, ⟨OwnN.of ((((((m7.gn ck.grw).gn ep).gn di.grw).gn eu).gn dk.grw).gn ea.grw) lh, ⟨([] : List Rt), OwnN.of ((((((m6.gn ck.grw).gn ep).gn di.grw).gn eu).gn dk.grw).gn ea.grw) lg, Z, ?_⟩, ?_, ?_, ⟨show (0 : Int) ≤ bt / 2 by omega, show bt / 2 ≤ (1 : Int) by omega⟩⟩, by omega, by omega, ((nz.gn dk.grw).gn ea.grw), (low1 (low1 (grown_trans ir eu) dk.grw (by omega)) ea.grw (by omega))⟩))
 intro x hx; first | (simp [zeros4] at hx; subst hx; exact ⟨by decide, by decide, by decide, by decide⟩) | simp at hx
 · first | exact Nat.le_of_ble_eq_true rfl | omega | (simp only [List.length_nil]; omega)
 exact Nat.le_of_ble_eq_true Z
 have tw := of_decide_eq_false ib
 refine Xv (Xr (Xs (Xa (Xd (o' := 0) Yl Z Z Z (Xh (v := vi k) X3 Z (V.blk.cell Z) Z (Xb (Ya (Xa (Xw (q := decide (k = 1)) Z Z Z Z (Xg (v := vb (decide (k = 1))) Z Z (Xb (Xu Z (fun ic => ?_) (fun ic => ?_)))))))))))))
 have tx := of_decide_eq_true ic
 refine Xa (Xc (v := pt R 0) Z Z (Xm Yt (Xf Z (Xf Z Xl)) Z (Yh ah 20 (by omega) _ R bs _ _ _ ((fw.grown0 ac.grw).gn V.grw) (by omega) (SlLt.low1 hs bb hlo) (by first | exact hb | exact fun b h => hb b (List.mem_of_mem_take h)) (by first | omega | (rw [List.length_take]; omega))) ?_))
 rintro _ u4 ⟨c9, rfl, sb, sd, n5, ew⟩
 refine Xd (o' := 4) Jg Z Z Z (Yb (v := vi c9) (cs' := #[vi k, vi E.s, vi E.v, vi 0, vi c9, .slice (pa ab) 4 G, .slice (pa ai) 0 O, vi to]) X3 Z Z Z (V.blk.gn ew) (Nat.le_of_ble_eq_true Z) Z ?_)
 intro u5 dl
 have it := low1 (grown_trans bb ew) dl.grw (by omega)
 refine Xb (Xx (Xc (v := pt R 0) Z Z (Xm Yt (Xf Z (Xf Z Xl)) Z (Yh (ah + 1) 3 (by omega) _ R bs _ _ _ (n5.gn dl.grw) (by omega) (SlLt.low1 hs it hlo) (by first | exact hb | exact fun b h => hb b (List.mem_of_mem_take h)) (by first | omega | (rw [List.length_take]; omega))) ?_)))
 rintro _ u6 ⟨bu, rfl, se, sf, n7, ex⟩
 refine Jz (c := bu / 2) Z Z (by omega) (by omega) (by omega) Z Z (Xd (o' := 3) Qv Z Z Z (Yb (v := vi (bu / 2)) (cs' := #[vi k, vi E.s, vi E.v, vi (bu / 2), vi c9, .slice (pa ab) 4 G, .slice (pa ai) 0 O, vi to]) X3 Z Z Z (dl.blk.gn ex) (Nat.le_of_ble_eq_true Z) Z ?_))
 intro u7 dm
 refine Xb (Ys (Xr (Xa (Xp (vs := [vi k, vi E.s, vi E.v, vi (bu / 2), vi c9, .slice (pa ab) 4 G, .slice (pa ai) 0 O, vi to]) Yz Z Z (dm.blk.rangeL 0 8 Z) Z (Xt (vs := [vi k, vi E.s, vi E.v, vi (bu / 2), vi c9, .slice (pa ab) 4 G, .slice (pa ai) 0 O, vi to]) (cs' := #[vi k, vi E.s, vi E.v, vi (bu / 2), vi c9, .slice (pa ab) 4 G, .slice (pa ai) 0 O, vi to]) Yz Z Z Z (by simp [Value.oneCell']) ((((((fx.grown0 ac.grw).gn V.grw).gn ew).gn dl.grw).gn ex).gn dm.grw) (Nat.le_of_ble_eq_true Z) Z ?_)))))
 intro u9 eb
 refine Xb (Xq (⟨.agg #[vi k, vi E.s, vi E.v, vi (bu / 2), vi c9, .slice (pa ab) 4 G, .slice (pa ai) 0 O, vi to], Qo Z (X7 (vs := [vi k, vi E.s, vi E.v, vi (bu / 2), vi c9, .slice (pa ab) 4 G, .slice (pa ai) 0 O, vi to]) Yz Z Z (eb.blk.rangeL 0 8 Z)), ⟨⟨k, E, bu / 2, c9, zeros4, ([] : List Int), to⟩, some ⟨ab, 0, none⟩, G, some ⟨ai, 0, none⟩, O⟩, (ah + 1 + 1), Z, ⟨OwnN.of (((((((dh.grown0 ac.grw).gn V.grw).gn ew).gn dl.grw).gn ex).gn dm.grw).gn eb.grw) d5, ⟨zeros4, OwnN.of (((((((dg.grown0 ac.grw).gn V.grw).gn ew).gn dl.grw).gn ex).gn dm.grw).gn eb.grw) d4, Z, ?_⟩, ?_, ?_, ⟨show (0 : Int) ≤ bu / 2 by omega, show bu / 2 ≤ (1 : Int) by omega⟩⟩, by omega, by omega, ((n7.gn dm.grw).gn eb.grw), (low1 (low1 (grown_trans it ex) dm.grw (by omega)) eb.grw (by omega))⟩))
 intro x hx; first | (simp [zeros4] at hx; subst hx; exact ⟨by decide, by decide, by decide, by decide⟩) | simp at hx
 · first | exact Nat.le_of_ble_eq_true rfl | omega | (simp only [List.length_nil]; omega)
 exact Nat.le_of_ble_eq_true Z
 have tz := of_decide_eq_false ic
 refine Xa (Xw (q := decide (k = 4)) Z Z Z Z (Xg (v := vb (decide (k = 4))) Z Z (Xb (Xu Z (fun ie => ?_) (fun ie => ?_)))))
 have t0 := of_decide_eq_true ie
 refine Xa (Xc (v := pt R 0) Z Z (Xm Yt (Xf Z (Xf Z Xl)) Z (Yh ah 4 (by omega) _ R bs _ _ _ ((fw.grown0 ac.grw).gn V.grw) (by omega) (SlLt.low1 hs bb hlo) (by first | exact hb | exact fun b h => hb b (List.mem_of_mem_take h)) (by first | omega | (rw [List.length_take]; omega))) ?_))
 rintro _ va ⟨jd, rfl, sg, sh, n9, ez⟩
 refine Xg (v := vi jd) Z Z (Xb (Ya (Qj (fun mm f' w' => ∃ (n : Int) (p1 : Int) (Bq : Nat) (cq : Nat) (ys : List Int), mm = n.toNat ∧ (0 ≤ n ∧ n ≤ 3) ∧ (ah + 1 ≤ p1 ∧ p1 ≤ (ah + 1) + 3 - n) ∧ (ys.length : Int) ≤ 3 - n ∧ Dw.Own w' Bq 3 1 cq ys.length (ys.flatMap icell) ∧ w.heap.size ≤ Bq ∧ R ≠ Bq ∧ bd ≠ Bq ∧ ab ≠ Bq ∧ d6 ≠ Bq ∧ f' 9 = vi n ∧ f' 0 = pt R 0 ∧ f' 6 = pt bd 0 ∧ f' 7 = pt d6 0 ∧ w.grownBy w' (some R) ∧ Blk w' bd 36 #[vi 0, vi 0, vi 0, vi 0, vi 0, .slice none 0 0, .slice none 0 0, vi 0] ∧ Dw.Own w' ab 38 5 G zeros4.length (zeros4.flatMap Rt.cells) ∧ Blk w' d6 36 #[vi k, vi E.s, vi E.v, vi 0, vi 0, .slice (pa ab) 4 G, .slice (pa Bq) ys.length cq, vi to] ∧ Blk w' R 63 #[.slice a bs.length c, vi p1]) (jd.toNat) ⟨jd, (ah + 1), ai, O, ([] : List Int), Z, (by omega), (by omega), (by simp only [List.length_nil]; omega), (((dh.grown0 ac.grw).gn V.grw).gn ez), d5, (by omega), (by omega), (by omega), (by omega), Z, Z, Z, Z, (grown_trans bb ez), (((fx.grown0 ac.grw).gn V.grw).gn ez), (((dg.grown0 ac.grw).gn V.grw).gn ez), (V.blk.gn ez), n9⟩ ?_)))
 rintro mm tq m4 ⟨n, p1, Bq, cq, ys, s9, hnn, hpp, hyl, hOwn, hlBq, rh, ri, rj, rk, lz, pl, g9, l0, f8, je, jf, g7, mf⟩
 refine Xs (Xa (Xc (v := vi n) lz Z (Qe (q := decide (0 < n)) Z Z Z Z (Xb (Xu Z (fun ig => ?_) (fun ig => ?_))))))
 have t1 := of_decide_eq_true ig
 refine Xv (Xr (Xs (Ya (J3 (m := 5) [[], [0], [], [2], [2, 3], [0, 1, 2, 3, 4], [0, 1, 2, 3, 4, 5], [0, 1, 2, 3, 4, 5, 6]] (fun S F w' => ∃ (aj : Int) (av : Nat), m4.grownBy w' (some R) ∧ F 0 = pt R 0 ∧ F 6 = pt bd 0 ∧ F 7 = pt d6 0 ∧ F 9 = vi n ∧ (S 3 = false → Blk w' R 63 #[.slice a bs.length c, vi p1]) ∧ (S 3 = true → F 48 = vi aj ∧ 0 ≤ aj ∧ (aj < 20 ∨ aj = 0) ∧ Blk w' R 63 #[.slice a bs.length c, vi (p1 + 1)]) ∧ (S 4 = true → F 49 = .slice (pa av) 1 1 ∧ w.heap.size ≤ av ∧ Blk w' av 3 (([aj] : List Int).flatMap icell).toArray ∧ bd < av ∧ ab < av ∧ d6 < av ∧ R < av ∧ Bq < av ∧ m4.heap.size ≤ av) ∧ Vals S F [(0, 45, pt d6 6), (1, 46, .slice (pa Bq) ys.length cq), (2, 47, pt R 0)]) Qb (by kernel_rfl) ⟨0, 0, Yf _, pl, g9, l0, lz, fun _ => (mf).grown0 (Yf _), Y4, Y4, Vn _⟩ ?_ ?_))))
 refine X5 (fun S F vc hS hbef hcl hI => ?_) ?_
 obtain ⟨aj, av, ni, pm, pn, l3, po, c_old_R, a8, bm, hvs⟩ := hI
 exact Xd (o' := 6) Jy l3 Z Z (Xb ⟨aj, av, ni, pm, pn, l3, po, fun h => c_old_R h, a8, bm, Vals.up 0 hvs Z Z Z⟩)
 refine X5 (fun S F vd hS hbef hcl hI => ?_) ?_
 obtain ⟨aj, av, i6, pp, pq, pr, pu, c_old_R, a8, bm, hvs⟩ := hI
 exact Xh (v := .slice (pa Bq) ys.length cq) Ky (Vals.at 0 hvs Z (X4 0 hbef Z)) ((g7.gn i6).cell Z) Z (Xb ⟨aj, av, i6, pp, pq, pr, pu, fun h => c_old_R h, a8, bm, Vals.up 1 hvs Z Z Z⟩)
 refine X5 (fun S F vf hS hbef hcl hI => ?_) ?_
 obtain ⟨aj, av, nj, l4, pv, pw, px, c_old_R, a8, bm, hvs⟩ := hI
 exact Xc (v := pt R 0) l4 Z (Xb ⟨aj, av, nj, l4, pv, pw, px, fun h => c_old_R h, Y1 3 hS hcl Z, Y1 4 hS hcl Z, Vals.up 2 hvs Z Z Z⟩)
 refine X5 (fun S F vg hS hbef hcl hI => ?_) ?_
 obtain ⟨aj, av, i7, py, pz, p0, p8, c_old_R, a8, bm, hvs⟩ := hI
 refine Xm Yt (Xf (Vals.at 2 hvs Z (X4 2 hbef Z)) (Xf Z Xl)) Z (Yh p1 20 (by omega) _ R bs _ _ _ (c_old_R hS) (by omega) (SlLt.low1 hs (grown_trans f8 i7) hlo) (by first | exact hb | exact fun b h => hb b (List.mem_of_mem_take h)) (by first | omega | (rw [List.length_take]; omega))) ?_
 rintro _ vh ⟨rl, rfl, nq, nr, oa, ng⟩
 exact Xb ⟨rl, av, (grown_trans i7 ng), py, pz, p0, p8, fun h => Q7 h, fun _ => ⟨Z, nq, nr, oa⟩, Y1 4 hS hcl Z, Vals.keep hvs Z⟩
 refine X5 (fun S F vj hS hbef hcl hI => ?_) ?_
 obtain ⟨aj, av, cv, p9, qb, qd, qe, c_old_R, a8, bm, hvs⟩ := hI
 obtain ⟨qf, no, np, bc⟩ := a8 (X4 3 hbef rfl)
 refine Xy (ps := [(0, vi aj)]) (e := 3) (cs := (([aj] : List Int).flatMap icell).toArray) (Xk qf Xz) (fun _ => by kernel_rfl) Z ?_
 intro pj vk a9
 have li := X9 a9 (grown_trans f8 cv)
 have fp := Xn a9 ((je.gn cv)).lt
 have fr := Xn a9 ((jf.gn cv)).lt
 have ft := Xn a9 ((g7.gn cv)).lt
 have gv := Xn a9 ((hOwn.gn cv)).lt
 have o1 := Xn a9 (bc).lt
 exact Xb ⟨aj, pj, (low0 cv a9.grw), p9, qb, qd, qe, fun hn => Q7 ((X4 3 hbef Z).symm.trans hn), fun h => let ⟨rn, ro, rp, rq⟩ := a8 h; ⟨rn, ro, rp, (rq).grown0 a9.grw⟩, fun _ => ⟨Z, li, a9.blk, fp, fr, ft, (by omega), gv, (nt cv.size (Nat.le_of_eq a9.eq.symm))⟩, Vals.keep hvs Z⟩
 exact Ke
 intro S F vl hall hI
 obtain ⟨aj, av, fm, qg, qh, l5, qi, c_old_R, a8, bm, hvs⟩ := hI
 have iu := grown_trans f8 fm
 obtain ⟨tn, no, np, bc⟩ := a8 (hall 3 (by decide))
 obtain ⟨qj, r1, gt, jw, ke, kk, o0, mz, rf⟩ := bm (hall 4 (by decide))
 have mg := (je.gn fm)
 have mh := (jf.gn fm)
 have ml := (g7.gn fm)
 refine Vf (g := icell) (ys := ys) (zs := ([aj] : List Int)) Rv Z Yn (by omega) Wo (Vals.at 1 hvs Z (hall 1 (by decide))) qj (hOwn.gn fm) (Jh Yn gt) (by simp only [List.length_cons, List.length_nil]; omega) (by omega) Z ?_
 intro cy fy vm m8 e0 lx
 have lj : w.heap.size ≤ cy := by rcases lx with h | h; (rw [h]; exact hlBq); (rw [h]; exact iu.size)
 have kz : bd ≠ cy := by have h := (mg).lt; omega
 have k4 : ab ≠ cy := by have h := (mh).lt; omega
 have k5 : d6 ≠ cy := by have h := (ml).lt; omega
 have ph : R ≠ cy := by have h := (bc).lt; omega
 have k7 : av ≠ cy := by have h := (gt).lt; omega
 refine Xd (o' := 6) Jy l5 Z Z (Yb (v := .slice (pa cy) (ys ++ ([aj] : List Int)).length fy) (cs' := #[vi k, vi E.s, vi E.v, vi 0, vi 0, .slice (pa ab) 4 G, .slice (pa cy) (ys ++ ([aj] : List Int)).length fy, vi to]) Ky Z Z Z (ml.gn e0) (Nat.le_of_ble_eq_true Z) Z ?_)
 intro vn dn
 exact Xb (Ys (Xr (Xx (Xc (v := vi n) qi Z (Y0 (c := n - 1) Z Z (by omega) (by omega) (by omega) Z (Xg (v := vi (n - 1)) Z Z (Xb (Xr (⟨(n - 1).toNat, by omega, (n - 1), (p1 + 1), cy, fy, (ys ++ ([aj] : List Int)), Z, (by omega), (by omega), (by simp only [List.length_append, List.length_cons, List.length_nil]; omega), (m8.gn dn.grw), lj, (by omega), (by omega), (by omega), (by omega), Z, qg, qh, l5, (low1 (low1 iu e0 (by omega)) dn.grw (by omega)), ((mg.gn e0).gn dn.grw), ((mh.gn e0).gn dn.grw), dn.blk, ((bc.gn e0).gn dn.grw)⟩)))))))))
 have t2 := of_decide_eq_false ig
 refine Y9 (Y6 (Y6 (Jd (Ys (Xr (Xa (Xp (vs := [vi k, vi E.s, vi E.v, vi 0, vi 0, .slice (pa ab) 4 G, .slice (pa Bq) ys.length cq, vi to]) Yz l0 Z (g7.rangeL 0 8 Z) Z (Xt (vs := [vi k, vi E.s, vi E.v, vi 0, vi 0, .slice (pa ab) 4 G, .slice (pa Bq) ys.length cq, vi to]) (cs' := #[vi k, vi E.s, vi E.v, vi 0, vi 0, .slice (pa ab) 4 G, .slice (pa Bq) ys.length cq, vi to]) Yz g9 Z Z (by simp [Value.oneCell']) je (Nat.le_of_ble_eq_true Z) Z ?_))))))))
 intro vo ed
 refine Xb (Xq (⟨.agg #[vi k, vi E.s, vi E.v, vi 0, vi 0, .slice (pa ab) 4 G, .slice (pa Bq) ys.length cq, vi to], Qo Z (X7 (vs := [vi k, vi E.s, vi E.v, vi 0, vi 0, .slice (pa ab) 4 G, .slice (pa Bq) ys.length cq, vi to]) Yz g9 Z (ed.blk.rangeL 0 8 Z)), ⟨⟨k, E, 0, 0, zeros4, ys, to⟩, some ⟨ab, 0, none⟩, G, some ⟨Bq, 0, none⟩, cq⟩, p1, Z, ⟨OwnN.of (hOwn.gn ed.grw) hlBq, ⟨zeros4, OwnN.of (jf.gn ed.grw) d4, Z, ?_⟩, ?_, ?_, ⟨show (0 : Int) ≤ 0 by omega, show 0 ≤ (1 : Int) by omega⟩⟩, by omega, by omega, (mf.gn ed.grw), (low1 f8 ed.grw (by omega))⟩))
 intro x hx; first | (simp [zeros4] at hx; subst hx; exact ⟨by decide, by decide, by decide, by decide⟩) | simp at hx
 · first | exact Nat.le_of_ble_eq_true rfl | omega | (simp only [List.length_nil]; omega)
 exact Nat.le_of_ble_eq_true Z
 have t3 := of_decide_eq_false ie
 refine Xa (Xw (q := decide (k = 3)) Z Z Z Z (Xg (v := vb (decide (k = 3))) Z Z (Xb (Xu Z (fun ii => ?_) (fun ii => ?_)))))
 have t4 := of_decide_eq_true ii
 refine Xx (Xc (v := pt R 0) Z Z (Xm Yt (Xf Z (Xf Z Xl)) Z (Yh ah 24 (by omega) _ R bs _ _ _ ((fw.grown0 ac.grw).gn V.grw) (by omega) (SlLt.low1 hs bb hlo) (by first | exact hb | exact fun b h => hb b (List.mem_of_mem_take h)) (by first | omega | (rw [List.length_take]; omega))) ?_))
 rintro _ vp ⟨da, rfl, si, sk, ob, fa⟩
 refine Y0 (c := da - 4) Z Z (by omega) (by omega) (by omega) Z (Xd (o' := 4) Jg Z Z Z (Yb (v := vi (da - 4)) (cs' := #[vi k, vi E.s, vi E.v, vi 0, vi (da - 4), .slice (pa ab) 4 G, .slice (pa ai) 0 O, vi to]) X3 Z Z Z (V.blk.gn fa) (Nat.le_of_ble_eq_true Z) Z ?_))
 intro vq dp
 refine Xb (Ys (Xr (Xa (Xp (vs := [vi k, vi E.s, vi E.v, vi 0, vi (da - 4), .slice (pa ab) 4 G, .slice (pa ai) 0 O, vi to]) Yz Z Z (dp.blk.rangeL 0 8 Z) Z (Xt (vs := [vi k, vi E.s, vi E.v, vi 0, vi (da - 4), .slice (pa ab) 4 G, .slice (pa ai) 0 O, vi to]) (cs' := #[vi k, vi E.s, vi E.v, vi 0, vi (da - 4), .slice (pa ab) 4 G, .slice (pa ai) 0 O, vi to]) Yz Z Z Z (by simp [Value.oneCell']) ((((fx.grown0 ac.grw).gn V.grw).gn fa).gn dp.grw) (Nat.le_of_ble_eq_true Z) Z ?_)))))
 intro vr ee
 refine Xb (Xq (⟨.agg #[vi k, vi E.s, vi E.v, vi 0, vi (da - 4), .slice (pa ab) 4 G, .slice (pa ai) 0 O, vi to], Qo Z (X7 (vs := [vi k, vi E.s, vi E.v, vi 0, vi (da - 4), .slice (pa ab) 4 G, .slice (pa ai) 0 O, vi to]) Yz Z Z (ee.blk.rangeL 0 8 Z)), ⟨⟨k, E, 0, da - 4, zeros4, ([] : List Int), to⟩, some ⟨ab, 0, none⟩, G, some ⟨ai, 0, none⟩, O⟩, (ah + 1), Z, ⟨OwnN.of (((((dh.grown0 ac.grw).gn V.grw).gn fa).gn dp.grw).gn ee.grw) d5, ⟨zeros4, OwnN.of (((((dg.grown0 ac.grw).gn V.grw).gn fa).gn dp.grw).gn ee.grw) d4, Z, ?_⟩, ?_, ?_, ⟨show (0 : Int) ≤ 0 by omega, show 0 ≤ (1 : Int) by omega⟩⟩, by omega, by omega, ((ob.gn dp.grw).gn ee.grw), (low1 (low1 (grown_trans bb fa) dp.grw (by omega)) ee.grw (by omega))⟩))
 intro x hx; first | (simp [zeros4] at hx; subst hx; exact ⟨by decide, by decide, by decide, by decide⟩) | simp at hx
 · first | exact Nat.le_of_ble_eq_true rfl | omega | (simp only [List.length_nil]; omega)
 exact Nat.le_of_ble_eq_true Z
 have t5 := of_decide_eq_false ii
 refine Xv (Ys (Xr (Xa (Xp (vs := [vi k, vi E.s, vi E.v, vi 0, vi 0, .slice (pa ab) 4 G, .slice (pa ai) 0 O, vi to]) Yz Z Z (V.blk.rangeL 0 8 Z) Z (Xt (vs := [vi k, vi E.s, vi E.v, vi 0, vi 0, .slice (pa ab) 4 G, .slice (pa ai) 0 O, vi to]) (cs' := #[vi k, vi E.s, vi E.v, vi 0, vi 0, .slice (pa ab) 4 G, .slice (pa ai) 0 O, vi to]) Yz Z Z Z (by simp [Value.oneCell']) ((fx.grown0 ac.grw).gn V.grw) (Nat.le_of_ble_eq_true Z) Z ?_)))))
 intro vt ef
 refine Xb (Xq (⟨.agg #[vi k, vi E.s, vi E.v, vi 0, vi 0, .slice (pa ab) 4 G, .slice (pa ai) 0 O, vi to], Qo Z (X7 (vs := [vi k, vi E.s, vi E.v, vi 0, vi 0, .slice (pa ab) 4 G, .slice (pa ai) 0 O, vi to]) Yz Z Z (ef.blk.rangeL 0 8 Z)), ⟨⟨k, E, 0, 0, zeros4, ([] : List Int), to⟩, some ⟨ab, 0, none⟩, G, some ⟨ai, 0, none⟩, O⟩, ah, Z, ⟨OwnN.of (((dh.grown0 ac.grw).gn V.grw).gn ef.grw) d5, ⟨zeros4, OwnN.of (((dg.grown0 ac.grw).gn V.grw).gn ef.grw) d4, Z, ?_⟩, ?_, ?_, ⟨show (0 : Int) ≤ 0 by omega, show 0 ≤ (1 : Int) by omega⟩⟩, by omega, by omega, (((fw.grown0 ac.grw).gn V.grw).gn ef.grw), (low1 bb ef.grw (by omega))⟩))
 intro x hx; first | (simp [zeros4] at hx; subst hx; exact ⟨by decide, by decide, by decide, by decide⟩) | simp at hx
 · first | exact Nat.le_of_ble_eq_true rfl | omega | (simp only [List.length_nil]; omega)
 exact Nat.le_of_ble_eq_true Z
 have t6 : thingOk (⟨k, E, 0, 0, zeros4, [], to⟩ : Th) = false := (Uz bn).symm.trans gm
 refine Xm Uo (Xf Z (Xf Z (Xf Z Xl))) Z (Hf k to E bn gm _) ?_
 rintro _ vu ⟨rfl, g0⟩
 have iv := low0 bq g0
 refine Xc (v := .tuple #[.agg #[vi 0, vi 0, vi 0, vi 0, vi 0, .slice none 0 0, .slice none 0 0, vi 0], vb false]) Z Z (Yx (v := .agg #[vi 0, vi 0, vi 0, vi 0, vi 0, .slice none 0 0, .slice none 0 0, vi 0]) Z Z Z (Yx (v := vb false) Z Z Z (Yd (cs := #[vi 0, vi 0, vi 0, vi 0, vi 0, .slice none 0 0, .slice none 0 0, vi 0]) Kr Z Z ?_)))
 intro tk vv cg
 have r2 := X9 cg iv
 have mn := (ca.grown0 g0)
 have o3 := Xn cg (mn).lt
 have mo := ((bp.blk.gn eo).grown0 g0)
 have jx := Xn cg (mo).lt
 refine Xt (vs := [vi 0, vi 0, vi 0, vi 0, vi 0, .slice none 0 0, .slice none 0 0, vi 0]) (cs' := #[vi 0, vi 0, vi 0, vi 0, vi 0, .slice none 0 0, .slice none 0 0, vi 0]) Yz Z Z Z (by simp [Value.oneCell']) cg.blk (Nat.le_of_ble_eq_true Z) Z ?_
 intro vw cl
 have gx := low1 (low0 iv cg.grw) cl.grw (by omega)
 refine Xg (v := vb false) Z Z (Xb (Xs (Xa (Xd (o' := 0) Yl Z Z Z (Xh (v := vi 0) X3 Z (cl.blk.cell Z) Z (Xw (q := true) Z Z (by decide) Z (Xb (Y3 Z Z (Xx (Yk (ps := []) (v := .agg #[vi 0, vi 0]) Xz (by kernel_rfl) Z ?_))))))))))
 have jg := ((mn.grown0 cg.grw).gn cl.grw)
 have jh := ((mo.grown0 cg.grw).gn cl.grw)
 have t7 : thingOk (⟨1, ⟨0, 0⟩, 0, 0, [], [], 0⟩ : Th) = true := (Kv (by decide)).symm.trans (by decide)
 refine Xm Uo (Xf Z (Xf Z (Xf Z Xl))) Z (J5 1 0 ⟨0, 0⟩ (by decide) (by decide) _) ?_
 rintro _ vx ⟨bg, an, bh, ao, rfl, d0, m9, d1, na, k8, gb⟩
 have lk := nt gx.size d0
 have o4 := nl (jg).lt d0
 have jy := nl (jh).lt d0
 have kl := nl (cl.blk).lt d0
 have ll := nt gx.size d1
 have o5 := nl (jg).lt d1
 have jz := nl (jh).lt d1
 have km := nl (cl.blk).lt d1
 refine Xc (v := .tuple #[.agg #[vi 1, vi 0, vi 0, vi 0, vi 0, .slice (pa bg) 0 an, .slice (pa bh) 0 ao, vi 0], vb true]) Z Z (Yx (v := .agg #[vi 1, vi 0, vi 0, vi 0, vi 0, .slice (pa bg) 0 an, .slice (pa bh) 0 ao, vi 0]) Z Z Z (Yx (v := vb true) Z Z Z (Xt (vs := [vi 1, vi 0, vi 0, vi 0, vi 0, .slice (pa bg) 0 an, .slice (pa bh) 0 ao, vi 0]) (cs' := #[vi 1, vi 0, vi 0, vi 0, vi 0, .slice (pa bg) 0 an, .slice (pa bh) 0 ao, vi 0]) Yz Z Z Z (by simp [Value.oneCell']) (cl.blk.grown0 gb) (Nat.le_of_ble_eq_true Z) Z ?_)))
 intro vy cm
 have iw := low1 (low0 gx gb) cm.grw (by omega)
 refine Xb (Xr (Xs (Xa (Xd (o' := 0) Yl Z Z Z (Xh (v := vi 1) X3 Z (cm.blk.cell Z) Z (Xb (Ya (Xa (Xw (q := true) Z Z (by decide) Z (Xg (v := vb true) Z Z (Xb (Y3 Z Z ?_))))))))))))
 refine Xa (Xc (v := pt R 0) Z Z (Xm Yt (Xf Z (Xf Z Xl)) Z (Yh ah 20 (by omega) _ R bs _ _ _ ((jg.grown0 gb).gn cm.grw) (by omega) (SlLt.low1 hs iw hlo) (by first | exact hb | exact fun b h => hb b (List.mem_of_mem_take h)) (by first | omega | (rw [List.length_take]; omega))) ?_))
 rintro _ vz ⟨db, rfl, sm, sn, oc, fb⟩
 refine Xd (o' := 4) Jg Z Z Z (Yb (v := vi db) (cs' := #[vi 1, vi 0, vi 0, vi 0, vi db, .slice (pa bg) 0 an, .slice (pa bh) 0 ao, vi 0]) X3 Z Z Z (cm.blk.gn fb) (Nat.le_of_ble_eq_true Z) Z ?_)
 intro v1 dq
 have ix := low1 (grown_trans iw fb) dq.grw (by omega)
 refine Xb (Xx (Xc (v := pt R 0) Z Z (Xm Yt (Xf Z (Xf Z Xl)) Z (Yh (ah + 1) 3 (by omega) _ R bs _ _ _ (oc.gn dq.grw) (by omega) (SlLt.low1 hs ix hlo) (by first | exact hb | exact fun b h => hb b (List.mem_of_mem_take h)) (by first | omega | (rw [List.length_take]; omega))) ?_)))
 rintro _ v2 ⟨bv, rfl, so, sp, od, fc⟩
 refine Jz (c := bv / 2) Z Z (by omega) (by omega) (by omega) Z Z (Xd (o' := 3) Qv Z Z Z (Yb (v := vi (bv / 2)) (cs' := #[vi 1, vi 0, vi 0, vi (bv / 2), vi db, .slice (pa bg) 0 an, .slice (pa bh) 0 ao, vi 0]) X3 Z Z Z (dq.blk.gn fc) (Nat.le_of_ble_eq_true Z) Z ?_))
 intro v3 dr
 refine Xb (Ys (Xr (Xa (Xp (vs := [vi 1, vi 0, vi 0, vi (bv / 2), vi db, .slice (pa bg) 0 an, .slice (pa bh) 0 ao, vi 0]) Yz Z Z (dr.blk.rangeL 0 8 Z) Z (Xt (vs := [vi 1, vi 0, vi 0, vi (bv / 2), vi db, .slice (pa bg) 0 an, .slice (pa bh) 0 ao, vi 0]) (cs' := #[vi 1, vi 0, vi 0, vi (bv / 2), vi db, .slice (pa bg) 0 an, .slice (pa bh) 0 ao, vi 0]) Yz Z Z Z (by simp [Value.oneCell']) ((((((jh.grown0 gb).gn cm.grw).gn fb).gn dq.grw).gn fc).gn dr.grw) (Nat.le_of_ble_eq_true Z) Z ?_)))))
 intro v4 eg
 refine Xb (Xq (⟨.agg #[vi 1, vi 0, vi 0, vi (bv / 2), vi db, .slice (pa bg) 0 an, .slice (pa bh) 0 ao, vi 0], Qo Z (X7 (vs := [vi 1, vi 0, vi 0, vi (bv / 2), vi db, .slice (pa bg) 0 an, .slice (pa bh) 0 ao, vi 0]) Yz Z Z (eg.blk.rangeL 0 8 Z)), ⟨⟨1, ⟨0, 0⟩, bv / 2, db, ([] : List Rt), ([] : List Int), 0⟩, some ⟨bg, 0, none⟩, an, some ⟨bh, 0, none⟩, ao⟩, (ah + 1 + 1), Z, ⟨OwnN.of ((((((na.gn cm.grw).gn fb).gn dq.grw).gn fc).gn dr.grw).gn eg.grw) ll, ⟨([] : List Rt), OwnN.of ((((((m9.gn cm.grw).gn fb).gn dq.grw).gn fc).gn dr.grw).gn eg.grw) lk, Z, ?_⟩, ?_, ?_, ⟨show (0 : Int) ≤ bv / 2 by omega, show bv / 2 ≤ (1 : Int) by omega⟩⟩, by omega, by omega, ((od.gn dr.grw).gn eg.grw), (low1 (low1 (grown_trans ix fc) dr.grw (by omega)) eg.grw (by omega))⟩))
 intro x hx; first | (simp [zeros4] at hx; subst hx; exact ⟨by decide, by decide, by decide, by decide⟩) | simp at hx
 · first | exact Nat.le_of_ble_eq_true rfl | omega | (simp only [List.length_nil]; omega)
 exact Nat.le_of_ble_eq_true Z
 have ra := Jm bn
 have t8 := of_decide_eq_false ra
 have mb := Jn bn
 have t9 := of_decide_eq_false mb
 rcases X6 (newOk k E to) with gp | gp
 have ji := (bp.blk.gn eo)
 have ua : thingOk (⟨k, E, 0, 0, [], [], to⟩ : Th) = true := (Kv bn).symm.trans gp
 refine Xm Uo (Xf Z (Xf Z (Xf Z Xl))) Z (J5 k to E bn gp _) ?_
 rintro _ v5 ⟨ag, J, az, ae, rfl, gi, d8, gj, d9, k9, g5⟩
 have iy := low0 bq g5
 have gk := nt bq.size gi
 have o6 := nl (ca).lt gi
 have j1 := nl (ji).lt gi
 have gl := nt bq.size gj
 have o7 := nl (ca).lt gj
 have j2 := nl (ji).lt gj
 refine Xc (v := .tuple #[.agg #[vi k, vi E.s, vi E.v, vi 0, vi 0, .slice (pa ag) 0 J, .slice (pa az) 0 ae, vi to], vb true]) Z Z (Yx (v := .agg #[vi k, vi E.s, vi E.v, vi 0, vi 0, .slice (pa ag) 0 J, .slice (pa az) 0 ae, vi to]) Z Z Z (Yx (v := vb true) Z Z Z (Yd (cs := #[vi 0, vi 0, vi 0, vi 0, vi 0, .slice none 0 0, .slice none 0 0, vi 0]) Kr Z Z ?_)))
 intro d7 v6 af
 have r3 := X9 af iy
 have gq := (ca.grown0 g5)
 have o8 := Xn af (gq).lt
 have gr := (ji.grown0 g5)
 have j3 := Xn af (gr).lt
 have kr := Xn af (d9).lt
 have kn := Xn af (d8).lt
 refine Xt (vs := [vi k, vi E.s, vi E.v, vi 0, vi 0, .slice (pa ag) 0 J, .slice (pa az) 0 ae, vi to]) (cs' := #[vi k, vi E.s, vi E.v, vi 0, vi 0, .slice (pa ag) 0 J, .slice (pa az) 0 ae, vi to]) Yz Z Z Z (by simp [Value.oneCell']) af.blk (Nat.le_of_ble_eq_true Z) Z ?_
 intro v7 ad
 have br := low1 (low0 iy af.grw) ad.grw (by omega)
 refine Xg (v := vb true) Z Z (Xb (Xs (Xa (Xd (o' := 0) Yl Z Z Z (Xh (v := vi k) X3 Z (ad.blk.cell Z) Z (Xw (q := decide (k = 0)) Z Z Z Z (Xb (Xu Z (fun ij => ?_) (fun ij => ?_)))))))))
 have uc := of_decide_eq_true ij
 refine Xx (Yk (ps := []) (v := .agg #[vi 0, vi 0]) Xz (by kernel_rfl) Z ?_)
 have jj := ((gq.grown0 af.grw).gn ad.grw)
 have jk := ((gr.grown0 af.grw).gn ad.grw)
 have mp := ((d9.grown0 af.grw).gn ad.grw)
 have mq := ((d8.grown0 af.grw).gn ad.grw)
 have ud : thingOk (⟨1, ⟨0, 0⟩, 0, 0, [], [], 0⟩ : Th) = true := (Kv (by decide)).symm.trans (by decide)
 refine Xm Uo (Xf Z (Xf Z (Xf Z Xl))) Z (J5 1 0 ⟨0, 0⟩ (by decide) (by decide) _) ?_
 rintro _ v8 ⟨bi, ap, bj, aq, rfl, ce, nb, cf, nc, ld, gc⟩
 have lm := nt br.size ce
 have o9 := nl (jj).lt ce
 have j4 := nl (jk).lt ce
 have ks := nl (mp).lt ce
 have ko := nl (mq).lt ce
 have ku := nl (ad.blk).lt ce
 have ln := nt br.size cf
 have pb := nl (jj).lt cf
 have j5 := nl (jk).lt cf
 have kt := nl (mp).lt cf
 have kp := nl (mq).lt cf
 have kv := nl (ad.blk).lt cf
 refine Xc (v := .tuple #[.agg #[vi 1, vi 0, vi 0, vi 0, vi 0, .slice (pa bi) 0 ap, .slice (pa bj) 0 aq, vi 0], vb true]) Z Z (Yx (v := .agg #[vi 1, vi 0, vi 0, vi 0, vi 0, .slice (pa bi) 0 ap, .slice (pa bj) 0 aq, vi 0]) Z Z Z (Yx (v := vb true) Z Z Z (Xt (vs := [vi 1, vi 0, vi 0, vi 0, vi 0, .slice (pa bi) 0 ap, .slice (pa bj) 0 aq, vi 0]) (cs' := #[vi 1, vi 0, vi 0, vi 0, vi 0, .slice (pa bi) 0 ap, .slice (pa bj) 0 aq, vi 0]) Yz Z Z Z (by simp [Value.oneCell']) (ad.blk.grown0 gc) (Nat.le_of_ble_eq_true Z) Z ?_)))
 intro v9 cn
 have iz := low1 (low0 br gc) cn.grw (by omega)
 refine Xb (Xr (Xs (Xa (Xd (o' := 0) Yl Z Z Z (Xh (v := vi 1) X3 Z (cn.blk.cell Z) Z (Xb (Ya (Xa (Xw (q := true) Z Z (by decide) Z (Xg (v := vb true) Z Z (Xb (Y3 Z Z ?_))))))))))))
 refine Xa (Xc (v := pt R 0) Z Z (Xm Yt (Xf Z (Xf Z Xl)) Z (Yh ah 20 (by omega) _ R bs _ _ _ ((jj.grown0 gc).gn cn.grw) (by omega) (SlLt.low1 hs iz hlo) (by first | exact hb | exact fun b h => hb b (List.mem_of_mem_take h)) (by first | omega | (rw [List.length_take]; omega))) ?_))
 rintro _ wa ⟨dc, rfl, sq, sr, oe, fd⟩
 refine Xd (o' := 4) Jg Z Z Z (Yb (v := vi dc) (cs' := #[vi 1, vi 0, vi 0, vi 0, vi dc, .slice (pa bi) 0 ap, .slice (pa bj) 0 aq, vi 0]) X3 Z Z Z (cn.blk.gn fd) (Nat.le_of_ble_eq_true Z) Z ?_)
 intro wb dt
 have i0 := low1 (grown_trans iz fd) dt.grw (by omega)
 refine Xb (Xx (Xc (v := pt R 0) Z Z (Xm Yt (Xf Z (Xf Z Xl)) Z (Yh (ah + 1) 3 (by omega) _ R bs _ _ _ (oe.gn dt.grw) (by omega) (SlLt.low1 hs i0 hlo) (by first | exact hb | exact fun b h => hb b (List.mem_of_mem_take h)) (by first | omega | (rw [List.length_take]; omega))) ?_)))
 rintro _ wc ⟨bw, rfl, su, sv, og, fe⟩
 refine Jz (c := bw / 2) Z Z (by omega) (by omega) (by omega) Z Z (Xd (o' := 3) Qv Z Z Z (Yb (v := vi (bw / 2)) (cs' := #[vi 1, vi 0, vi 0, vi (bw / 2), vi dc, .slice (pa bi) 0 ap, .slice (pa bj) 0 aq, vi 0]) X3 Z Z Z (dt.blk.gn fe) (Nat.le_of_ble_eq_true Z) Z ?_))
 intro wd du
 refine Xb (Ys (Xr (Xa (Xp (vs := [vi 1, vi 0, vi 0, vi (bw / 2), vi dc, .slice (pa bi) 0 ap, .slice (pa bj) 0 aq, vi 0]) Yz Z Z (du.blk.rangeL 0 8 Z) Z (Xt (vs := [vi 1, vi 0, vi 0, vi (bw / 2), vi dc, .slice (pa bi) 0 ap, .slice (pa bj) 0 aq, vi 0]) (cs' := #[vi 1, vi 0, vi 0, vi (bw / 2), vi dc, .slice (pa bi) 0 ap, .slice (pa bj) 0 aq, vi 0]) Yz Z Z Z (by simp [Value.oneCell']) ((((((jk.grown0 gc).gn cn.grw).gn fd).gn dt.grw).gn fe).gn du.grw) (Nat.le_of_ble_eq_true Z) Z ?_)))))
 intro we eh
 refine Xb (Xq (⟨.agg #[vi 1, vi 0, vi 0, vi (bw / 2), vi dc, .slice (pa bi) 0 ap, .slice (pa bj) 0 aq, vi 0], Qo Z (X7 (vs := [vi 1, vi 0, vi 0, vi (bw / 2), vi dc, .slice (pa bi) 0 ap, .slice (pa bj) 0 aq, vi 0]) Yz Z Z (eh.blk.rangeL 0 8 Z)), ⟨⟨1, ⟨0, 0⟩, bw / 2, dc, ([] : List Rt), ([] : List Int), 0⟩, some ⟨bi, 0, none⟩, ap, some ⟨bj, 0, none⟩, aq⟩, (ah + 1 + 1), Z, ⟨OwnN.of ((((((nc.gn cn.grw).gn fd).gn dt.grw).gn fe).gn du.grw).gn eh.grw) ln, ⟨([] : List Rt), OwnN.of ((((((nb.gn cn.grw).gn fd).gn dt.grw).gn fe).gn du.grw).gn eh.grw) lm, Z, ?_⟩, ?_, ?_, ⟨show (0 : Int) ≤ bw / 2 by omega, show bw / 2 ≤ (1 : Int) by omega⟩⟩, by omega, by omega, ((og.gn du.grw).gn eh.grw), (low1 (low1 (grown_trans i0 fe) du.grw (by omega)) eh.grw (by omega))⟩))
 intro x hx; first | (simp [zeros4] at hx; subst hx; exact ⟨by decide, by decide, by decide, by decide⟩) | simp at hx
 · first | exact Nat.le_of_ble_eq_true rfl | omega | (simp only [List.length_nil]; omega)
 exact Nat.le_of_ble_eq_true Z
 have ue := of_decide_eq_false ij
 refine Xv (Xr (Xs (Xa (Xd (o' := 0) Yl Z Z Z (Xh (v := vi k) X3 Z (ad.blk.cell Z) Z (Xb (Ya (Xa (Xw (q := decide (k = 1)) Z Z Z Z (Xg (v := vb (decide (k = 1))) Z Z (Xb (Xu Z (fun ik => ?_) (fun ik => ?_)))))))))))))
 have uf := of_decide_eq_true ik
 refine Xa (Xc (v := pt R 0) Z Z (Xm Yt (Xf Z (Xf Z Xl)) Z (Yh ah 20 (by omega) _ R bs _ _ _ ((gq.grown0 af.grw).gn ad.grw) (by omega) (SlLt.low1 hs br hlo) (by first | exact hb | exact fun b h => hb b (List.mem_of_mem_take h)) (by first | omega | (rw [List.length_take]; omega))) ?_))
 rintro _ wg ⟨de, rfl, sw, sy, oh, ff⟩
 refine Xd (o' := 4) Jg Z Z Z (Yb (v := vi de) (cs' := #[vi k, vi E.s, vi E.v, vi 0, vi de, .slice (pa ag) 0 J, .slice (pa az) 0 ae, vi to]) X3 Z Z Z (ad.blk.gn ff) (Nat.le_of_ble_eq_true Z) Z ?_)
 intro wh dv
 have i1 := low1 (grown_trans br ff) dv.grw (by omega)
 refine Xb (Xx (Xc (v := pt R 0) Z Z (Xm Yt (Xf Z (Xf Z Xl)) Z (Yh (ah + 1) 3 (by omega) _ R bs _ _ _ (oh.gn dv.grw) (by omega) (SlLt.low1 hs i1 hlo) (by first | exact hb | exact fun b h => hb b (List.mem_of_mem_take h)) (by first | omega | (rw [List.length_take]; omega))) ?_)))
 rintro _ wi ⟨bx, rfl, s0, s1, ol, fg⟩
 refine Jz (c := bx / 2) Z Z (by omega) (by omega) (by omega) Z Z (Xd (o' := 3) Qv Z Z Z (Yb (v := vi (bx / 2)) (cs' := #[vi k, vi E.s, vi E.v, vi (bx / 2), vi de, .slice (pa ag) 0 J, .slice (pa az) 0 ae, vi to]) X3 Z Z Z (dv.blk.gn fg) (Nat.le_of_ble_eq_true Z) Z ?_))
 intro wj dw
 refine Xb (Ys (Xr (Xa (Xp (vs := [vi k, vi E.s, vi E.v, vi (bx / 2), vi de, .slice (pa ag) 0 J, .slice (pa az) 0 ae, vi to]) Yz Z Z (dw.blk.rangeL 0 8 Z) Z (Xt (vs := [vi k, vi E.s, vi E.v, vi (bx / 2), vi de, .slice (pa ag) 0 J, .slice (pa az) 0 ae, vi to]) (cs' := #[vi k, vi E.s, vi E.v, vi (bx / 2), vi de, .slice (pa ag) 0 J, .slice (pa az) 0 ae, vi to]) Yz Z Z Z (by simp [Value.oneCell']) ((((((gr.grown0 af.grw).gn ad.grw).gn ff).gn dv.grw).gn fg).gn dw.grw) (Nat.le_of_ble_eq_true Z) Z ?_)))))
 intro wl ei
 refine Xb (Xq (⟨.agg #[vi k, vi E.s, vi E.v, vi (bx / 2), vi de, .slice (pa ag) 0 J, .slice (pa az) 0 ae, vi to], Qo Z (X7 (vs := [vi k, vi E.s, vi E.v, vi (bx / 2), vi de, .slice (pa ag) 0 J, .slice (pa az) 0 ae, vi to]) Yz Z Z (ei.blk.rangeL 0 8 Z)), ⟨⟨k, E, bx / 2, de, ([] : List Rt), ([] : List Int), to⟩, some ⟨ag, 0, none⟩, J, some ⟨az, 0, none⟩, ae⟩, (ah + 1 + 1), Z, ⟨OwnN.of (((((((d9.grown0 af.grw).gn ad.grw).gn ff).gn dv.grw).gn fg).gn dw.grw).gn ei.grw) gl, ⟨([] : List Rt), OwnN.of (((((((d8.grown0 af.grw).gn ad.grw).gn ff).gn dv.grw).gn fg).gn dw.grw).gn ei.grw) gk, Z, ?_⟩, ?_, ?_, ⟨show (0 : Int) ≤ bx / 2 by omega, show bx / 2 ≤ (1 : Int) by omega⟩⟩, by omega, by omega, ((ol.gn dw.grw).gn ei.grw), (low1 (low1 (grown_trans i1 fg) dw.grw (by omega)) ei.grw (by omega))⟩))
 intro x hx; first | (simp [zeros4] at hx; subst hx; exact ⟨by decide, by decide, by decide, by decide⟩) | simp at hx
 · first | exact Nat.le_of_ble_eq_true rfl | omega | (simp only [List.length_nil]; omega)
 exact Nat.le_of_ble_eq_true Z
 have ug := of_decide_eq_false ik
 refine Xa (Xw (q := decide (k = 4)) Z Z Z Z (Xg (v := vb (decide (k = 4))) Z Z (Xb (Xu Z (fun il => ?_) (fun il => ?_)))))
 have uh := of_decide_eq_true il
 refine Xa (Xc (v := pt R 0) Z Z (Xm Yt (Xf Z (Xf Z Xl)) Z (Yh ah 4 (by omega) _ R bs _ _ _ ((gq.grown0 af.grw).gn ad.grw) (by omega) (SlLt.low1 hs br hlo) (by first | exact hb | exact fun b h => hb b (List.mem_of_mem_take h)) (by first | omega | (rw [List.length_take]; omega))) ?_))
 rintro _ wm ⟨jl, rfl, s3, s4, om, fh⟩
 refine Xg (v := vi jl) Z Z (Xb (Ya (Qj (fun mm f' w' => ∃ (n : Int) (p1 : Int) (Bq : Nat) (cq : Nat) (ys : List Int), mm = n.toNat ∧ (0 ≤ n ∧ n ≤ 3) ∧ (ah + 1 ≤ p1 ∧ p1 ≤ (ah + 1) + 3 - n) ∧ (ys.length : Int) ≤ 3 - n ∧ Dw.Own w' Bq 3 1 cq ys.length (ys.flatMap icell) ∧ w.heap.size ≤ Bq ∧ R ≠ Bq ∧ bd ≠ Bq ∧ ag ≠ Bq ∧ d7 ≠ Bq ∧ f' 9 = vi n ∧ f' 0 = pt R 0 ∧ f' 6 = pt bd 0 ∧ f' 7 = pt d7 0 ∧ w.grownBy w' (some R) ∧ Blk w' bd 36 #[vi 0, vi 0, vi 0, vi 0, vi 0, .slice none 0 0, .slice none 0 0, vi 0] ∧ Dw.Own w' ag 38 5 J ([] : List Rt).length (([] : List Rt).flatMap Rt.cells) ∧ Blk w' d7 36 #[vi k, vi E.s, vi E.v, vi 0, vi 0, .slice (pa ag) 0 J, .slice (pa Bq) ys.length cq, vi to] ∧ Blk w' R 63 #[.slice a bs.length c, vi p1]) (jl.toNat) ⟨jl, (ah + 1), az, ae, ([] : List Int), Z, (by omega), (by omega), (by simp only [List.length_nil]; omega), (((d9.grown0 af.grw).gn ad.grw).gn fh), gl, (by omega), (by omega), (by omega), (by omega), Z, Z, Z, Z, (grown_trans br fh), (((gr.grown0 af.grw).gn ad.grw).gn fh), (((d8.grown0 af.grw).gn ad.grw).gn fh), (ad.blk.gn fh), om⟩ ?_)))
 rintro mm tr m5 ⟨n, p1, Bq, cq, ys, tc, hnn, hpp, hyl, hOwn, hlBq, rh, ri, rj, rk, l6, qk, ia, l7, f9, jm, jo, g8, mr⟩
 refine Xs (Xa (Xc (v := vi n) l6 Z (Qe (q := decide (0 < n)) Z Z Z Z (Xb (Xu Z (fun im => ?_) (fun im => ?_))))))
 have uj := of_decide_eq_true im
 refine Xv (Xr (Xs (Ya (J3 (m := 5) [[], [0], [], [2], [2, 3], [0, 1, 2, 3, 4], [0, 1, 2, 3, 4, 5], [0, 1, 2, 3, 4, 5, 6]] (fun S F w' => ∃ (ak : Int) (aw : Nat), m5.grownBy w' (some R) ∧ F 0 = pt R 0 ∧ F 6 = pt bd 0 ∧ F 7 = pt d7 0 ∧ F 9 = vi n ∧ (S 3 = false → Blk w' R 63 #[.slice a bs.length c, vi p1]) ∧ (S 3 = true → F 48 = vi ak ∧ 0 ≤ ak ∧ (ak < 20 ∨ ak = 0) ∧ Blk w' R 63 #[.slice a bs.length c, vi (p1 + 1)]) ∧ (S 4 = true → F 49 = .slice (pa aw) 1 1 ∧ w.heap.size ≤ aw ∧ Blk w' aw 3 (([ak] : List Int).flatMap icell).toArray ∧ bd < aw ∧ ag < aw ∧ d7 < aw ∧ R < aw ∧ Bq < aw ∧ m5.heap.size ≤ aw) ∧ Vals S F [(0, 45, pt d7 6), (1, 46, .slice (pa Bq) ys.length cq), (2, 47, pt R 0)]) Qb (by kernel_rfl) ⟨0, 0, Yf _, qk, ia, l7, l6, fun _ => (mr).grown0 (Yf _), Y4, Y4, Vn _⟩ ?_ ?_))))
 refine X5 (fun S F wn hS hbef hcl hI => ?_) ?_
 obtain ⟨ak, aw, nk, qm, qn, l8, qo, c_old_R, a8, bm, hvs⟩ := hI
 exact Xd (o' := 6) Jy l8 Z Z (Xb ⟨ak, aw, nk, qm, qn, l8, qo, fun h => c_old_R h, a8, bm, Vals.up 0 hvs Z Z Z⟩)
 refine X5 (fun S F wo hS hbef hcl hI => ?_) ?_
 obtain ⟨ak, aw, i8, qp, qq, qr, qt, c_old_R, a8, bm, hvs⟩ := hI
 exact Xh (v := .slice (pa Bq) ys.length cq) Ky (Vals.at 0 hvs Z (X4 0 hbef Z)) ((g8.gn i8).cell Z) Z (Xb ⟨ak, aw, i8, qp, qq, qr, qt, fun h => c_old_R h, a8, bm, Vals.up 1 hvs Z Z Z⟩)
 refine X5 (fun S F wq hS hbef hcl hI => ?_) ?_
 obtain ⟨ak, aw, nn, l9, qu, qv, qw, c_old_R, a8, bm, hvs⟩ := hI
 exact Xc (v := pt R 0) l9 Z (Xb ⟨ak, aw, nn, l9, qu, qv, qw, fun h => c_old_R h, Y1 3 hS hcl Z, Y1 4 hS hcl Z, Vals.up 2 hvs Z Z Z⟩)
 refine X5 (fun S F ws hS hbef hcl hI => ?_) ?_
 obtain ⟨ak, aw, i9, qx, qy, qz, q0, c_old_R, a8, bm, hvs⟩ := hI
 refine Xm Yt (Xf (Vals.at 2 hvs Z (X4 2 hbef Z)) (Xf Z Xl)) Z (Yh p1 20 (by omega) _ R bs _ _ _ (c_old_R hS) (by omega) (SlLt.low1 hs (grown_trans f9 i9) hlo) (by first | exact hb | exact fun b h => hb b (List.mem_of_mem_take h)) (by first | omega | (rw [List.length_take]; omega))) ?_
 rintro _ wt ⟨rm, rfl, nw, nx, oo, nh⟩
 exact Xb ⟨rm, aw, (grown_trans i9 nh), qx, qy, qz, q0, fun h => Q7 h, fun _ => ⟨Z, nw, nx, oo⟩, Y1 4 hS hcl Z, Vals.keep hvs Z⟩
 refine X5 (fun S F wu hS hbef hcl hI => ?_) ?_
 obtain ⟨ak, aw, cw, q1, q2, q3, q4, c_old_R, a8, bm, hvs⟩ := hI
 obtain ⟨q5, nu, nv, bc⟩ := a8 (X4 3 hbef rfl)
 refine Xy (ps := [(0, vi ak)]) (e := 3) (cs := (([ak] : List Int).flatMap icell).toArray) (Xk q5 Xz) (fun _ => by kernel_rfl) Z ?_
 intro pk wv ba
 have lp := X9 ba (grown_trans f9 cw)
 have fq := Xn ba ((jm.gn cw)).lt
 have fu := Xn ba ((jo.gn cw)).lt
 have fv := Xn ba ((g8.gn cw)).lt
 have gw := Xn ba ((hOwn.gn cw)).lt
 have pd := Xn ba (bc).lt
 exact Xb ⟨ak, pk, (low0 cw ba.grw), q1, q2, q3, q4, fun hn => Q7 ((X4 3 hbef Z).symm.trans hn), fun h => let ⟨rr, ru, rx, ry⟩ := a8 h; ⟨rr, ru, rx, (ry).grown0 ba.grw⟩, fun _ => ⟨Z, lp, ba.blk, fq, fu, fv, (by omega), gw, (nt cw.size (Nat.le_of_eq ba.eq.symm))⟩, Vals.keep hvs Z⟩
 exact Ke
 intro S F ww hall hI
 obtain ⟨ak, aw, fo, q6, q7, ma, q8, c_old_R, a8, bm, hvs⟩ := hI
 have i2 := grown_trans f9 fo
 obtain ⟨tp, nu, nv, bc⟩ := a8 (hall 3 (by decide))
 obtain ⟨q9, r4, gu, j6, kq, kw, pc, m3, rg⟩ := bm (hall 4 (by decide))
 have mt := (jm.gn fo)
 have mu := (jo.gn fo)
 have mv := (g8.gn fo)
 refine Vf (g := icell) (ys := ys) (zs := ([ak] : List Int)) Rv Z Yn (by omega) Wo (Vals.at 1 hvs Z (hall 1 (by decide))) q9 (hOwn.gn fo) (Jh Yn gu) (by simp only [List.length_cons, List.length_nil]; omega) (by omega) Z ?_
 intro cz fz wx nd fi ly
 have lu : w.heap.size ≤ cz := by rcases ly with h | h; (rw [h]; exact hlBq); (rw [h]; exact i2.size)
 have k0 : bd ≠ cz := by have h := (mt).lt; omega
 have la : ag ≠ cz := by have h := (mu).lt; omega
 have lc : d7 ≠ cz := by have h := (mv).lt; omega
 have pi : R ≠ cz := by have h := (bc).lt; omega
 have le : aw ≠ cz := by have h := (gu).lt; omega
 refine Xd (o' := 6) Jy ma Z Z (Yb (v := .slice (pa cz) (ys ++ ([ak] : List Int)).length fz) (cs' := #[vi k, vi E.s, vi E.v, vi 0, vi 0, .slice (pa ag) 0 J, .slice (pa cz) (ys ++ ([ak] : List Int)).length fz, vi to]) Ky Z Z Z (mv.gn fi) (Nat.le_of_ble_eq_true Z) Z ?_)
 intro wy dx
 exact Xb (Ys (Xr (Xx (Xc (v := vi n) q8 Z (Y0 (c := n - 1) Z Z (by omega) (by omega) (by omega) Z (Xg (v := vi (n - 1)) Z Z (Xb (Xr (⟨(n - 1).toNat, by omega, (n - 1), (p1 + 1), cz, fz, (ys ++ ([ak] : List Int)), Z, (by omega), (by omega), (by simp only [List.length_append, List.length_cons, List.length_nil]; omega), (nd.gn dx.grw), lu, (by omega), (by omega), (by omega), (by omega), Z, q6, q7, ma, (low1 (low1 i2 fi (by omega)) dx.grw (by omega)), ((mt.gn fi).gn dx.grw), ((mu.gn fi).gn dx.grw), dx.blk, ((bc.gn fi).gn dx.grw)⟩)))))))))
 have uk := of_decide_eq_false im
 refine Y9 (Y6 (Y6 (Jd (Ys (Xr (Xa (Xp (vs := [vi k, vi E.s, vi E.v, vi 0, vi 0, .slice (pa ag) 0 J, .slice (pa Bq) ys.length cq, vi to]) Yz l7 Z (g8.rangeL 0 8 Z) Z (Xt (vs := [vi k, vi E.s, vi E.v, vi 0, vi 0, .slice (pa ag) 0 J, .slice (pa Bq) ys.length cq, vi to]) (cs' := #[vi k, vi E.s, vi E.v, vi 0, vi 0, .slice (pa ag) 0 J, .slice (pa Bq) ys.length cq, vi to]) Yz ia Z Z (by simp [Value.oneCell']) jm (Nat.le_of_ble_eq_true Z) Z ?_))))))))
 intro wz ej
 refine Xb (Xq (⟨.agg #[vi k, vi E.s, vi E.v, vi 0, vi 0, .slice (pa ag) 0 J, .slice (pa Bq) ys.length cq, vi to], Qo Z (X7 (vs := [vi k, vi E.s, vi E.v, vi 0, vi 0, .slice (pa ag) 0 J, .slice (pa Bq) ys.length cq, vi to]) Yz ia Z (ej.blk.rangeL 0 8 Z)), ⟨⟨k, E, 0, 0, ([] : List Rt), ys, to⟩, some ⟨ag, 0, none⟩, J, some ⟨Bq, 0, none⟩, cq⟩, p1, Z, ⟨OwnN.of (hOwn.gn ej.grw) hlBq, ⟨([] : List Rt), OwnN.of (jo.gn ej.grw) gk, Z, ?_⟩, ?_, ?_, ⟨show (0 : Int) ≤ 0 by omega, show 0 ≤ (1 : Int) by omega⟩⟩, by omega, by omega, (mr.gn ej.grw), (low1 f9 ej.grw (by omega))⟩))
 intro x hx; first | (simp [zeros4] at hx; subst hx; exact ⟨by decide, by decide, by decide, by decide⟩) | simp at hx
 · first | exact Nat.le_of_ble_eq_true rfl | omega | (simp only [List.length_nil]; omega)
 exact Nat.le_of_ble_eq_true Z
 have ul := of_decide_eq_false il
 refine Xa (Xw (q := decide (k = 3)) Z Z Z Z (Xg (v := vb (decide (k = 3))) Z Z (Xb (Qm Z mb (Xv (Ys (Xr (Xa (Xp (vs := [vi k, vi E.s, vi E.v, vi 0, vi 0, .slice (pa ag) 0 J, .slice (pa az) 0 ae, vi to]) Yz Z Z (ad.blk.rangeL 0 8 Z) Z (Xt (vs := [vi k, vi E.s, vi E.v, vi 0, vi 0, .slice (pa ag) 0 J, .slice (pa az) 0 ae, vi to]) (cs' := #[vi k, vi E.s, vi E.v, vi 0, vi 0, .slice (pa ag) 0 J, .slice (pa az) 0 ae, vi to]) Yz Z Z Z (by simp [Value.oneCell']) ((gr.grown0 af.grw).gn ad.grw) (Nat.le_of_ble_eq_true Z) Z ?_))))))))))
 intro w5 ek
 refine Xb (Xq (⟨.agg #[vi k, vi E.s, vi E.v, vi 0, vi 0, .slice (pa ag) 0 J, .slice (pa az) 0 ae, vi to], Qo Z (X7 (vs := [vi k, vi E.s, vi E.v, vi 0, vi 0, .slice (pa ag) 0 J, .slice (pa az) 0 ae, vi to]) Yz Z Z (ek.blk.rangeL 0 8 Z)), ⟨⟨k, E, 0, 0, ([] : List Rt), ([] : List Int), to⟩, some ⟨ag, 0, none⟩, J, some ⟨az, 0, none⟩, ae⟩, ah, Z, ⟨OwnN.of (((d9.grown0 af.grw).gn ad.grw).gn ek.grw) gl, ⟨([] : List Rt), OwnN.of (((d8.grown0 af.grw).gn ad.grw).gn ek.grw) gk, Z, ?_⟩, ?_, ?_, ⟨show (0 : Int) ≤ 0 by omega, show 0 ≤ (1 : Int) by omega⟩⟩, by omega, by omega, (((gq.grown0 af.grw).gn ad.grw).gn ek.grw), (low1 br ek.grw (by omega))⟩))
 intro x hx; first | (simp [zeros4] at hx; subst hx; exact ⟨by decide, by decide, by decide, by decide⟩) | simp at hx
 · first | exact Nat.le_of_ble_eq_true rfl | omega | (simp only [List.length_nil]; omega)
 exact Nat.le_of_ble_eq_true Z
 have um : thingOk (⟨k, E, 0, 0, [], [], to⟩ : Th) = false := (Kv bn).symm.trans gp
 refine Xm Uo (Xf Z (Xf Z (Xf Z Xl))) Z (He k to E bn gp _) ?_
 rintro _ w7 ⟨rfl, g6⟩
 have i3 := low0 bq g6
 refine Xc (v := .tuple #[.agg #[vi 0, vi 0, vi 0, vi 0, vi 0, .slice none 0 0, .slice none 0 0, vi 0], vb false]) Z Z (Yx (v := .agg #[vi 0, vi 0, vi 0, vi 0, vi 0, .slice none 0 0, .slice none 0 0, vi 0]) Z Z Z (Yx (v := vb false) Z Z Z (Yd (cs := #[vi 0, vi 0, vi 0, vi 0, vi 0, .slice none 0 0, .slice none 0 0, vi 0]) Kr Z Z ?_)))
 intro tl w8 cj
 have r5 := X9 cj i3
 have mw := (ca.grown0 g6)
 have pe := Xn cj (mw).lt
 have my := ((bp.blk.gn eo).grown0 g6)
 have j7 := Xn cj (my).lt
 refine Xt (vs := [vi 0, vi 0, vi 0, vi 0, vi 0, .slice none 0 0, .slice none 0 0, vi 0]) (cs' := #[vi 0, vi 0, vi 0, vi 0, vi 0, .slice none 0 0, .slice none 0 0, vi 0]) Yz Z Z Z (by simp [Value.oneCell']) cj.blk (Nat.le_of_ble_eq_true Z) Z ?_
 intro w9 co
 have gy := low1 (low0 i3 cj.grw) co.grw (by omega)
 refine Xg (v := vb false) Z Z (Xb (Xs (Xa (Xd (o' := 0) Yl Z Z Z (Xh (v := vi 0) X3 Z (co.blk.cell Z) Z (Xw (q := true) Z Z (by decide) Z (Xb (Y3 Z Z (Xx (Yk (ps := []) (v := .agg #[vi 0, vi 0]) Xz (by kernel_rfl) Z ?_))))))))))
 have jp := ((mw.grown0 cj.grw).gn co.grw)
 have jq := ((my.grown0 cj.grw).gn co.grw)
 have un : thingOk (⟨1, ⟨0, 0⟩, 0, 0, [], [], 0⟩ : Th) = true := (Kv (by decide)).symm.trans (by decide)
 refine Xm Uo (Xf Z (Xf Z (Xf Z Xl))) Z (J5 1 0 ⟨0, 0⟩ (by decide) (by decide) _) ?_
 rintro _ xa ⟨bk, ar, bl, au, rfl, d2, ne, d3, nf, lf, gf⟩
 have lv := nt gy.size d2
 have pf := nl (jp).lt d2
 have j8 := nl (jq).lt d2
 have kx := nl (co.blk).lt d2
 have lw := nt gy.size d3
 have pg := nl (jp).lt d3
 have j9 := nl (jq).lt d3
 have ky := nl (co.blk).lt d3
 refine Xc (v := .tuple #[.agg #[vi 1, vi 0, vi 0, vi 0, vi 0, .slice (pa bk) 0 ar, .slice (pa bl) 0 au, vi 0], vb true]) Z Z (Yx (v := .agg #[vi 1, vi 0, vi 0, vi 0, vi 0, .slice (pa bk) 0 ar, .slice (pa bl) 0 au, vi 0]) Z Z Z (Yx (v := vb true) Z Z Z (Xt (vs := [vi 1, vi 0, vi 0, vi 0, vi 0, .slice (pa bk) 0 ar, .slice (pa bl) 0 au, vi 0]) (cs' := #[vi 1, vi 0, vi 0, vi 0, vi 0, .slice (pa bk) 0 ar, .slice (pa bl) 0 au, vi 0]) Yz Z Z Z (by simp [Value.oneCell']) (co.blk.grown0 gf) (Nat.le_of_ble_eq_true Z) Z ?_)))
 intro xb ct
 have i4 := low1 (low0 gy gf) ct.grw (by omega)
 refine Xb (Xr (Xs (Xa (Xd (o' := 0) Yl Z Z Z (Xh (v := vi 1) X3 Z (ct.blk.cell Z) Z (Xb (Ya (Xa (Xw (q := true) Z Z (by decide) Z (Xg (v := vb true) Z Z (Xb (Y3 Z Z ?_))))))))))))
 refine Xa (Xc (v := pt R 0) Z Z (Xm Yt (Xf Z (Xf Z Xl)) Z (Yh ah 20 (by omega) _ R bs _ _ _ ((jp.grown0 gf).gn ct.grw) (by omega) (SlLt.low1 hs i4 hlo) (by first | exact hb | exact fun b h => hb b (List.mem_of_mem_take h)) (by first | omega | (rw [List.length_take]; omega))) ?_))
 rintro _ xc ⟨df, rfl, s5, s6, oq, fj⟩
 refine Xd (o' := 4) Jg Z Z Z (Yb (v := vi df) (cs' := #[vi 1, vi 0, vi 0, vi 0, vi df, .slice (pa bk) 0 ar, .slice (pa bl) 0 au, vi 0]) X3 Z Z Z (ct.blk.gn fj) (Nat.le_of_ble_eq_true Z) Z ?_)
 intro xd dy
 have i5 := low1 (grown_trans i4 fj) dy.grw (by omega)
 refine Xb (Xx (Xc (v := pt R 0) Z Z (Xm Yt (Xf Z (Xf Z Xl)) Z (Yh (ah + 1) 3 (by omega) _ R bs _ _ _ (oq.gn dy.grw) (by omega) (SlLt.low1 hs i5 hlo) (by first | exact hb | exact fun b h => hb b (List.mem_of_mem_take h)) (by first | omega | (rw [List.length_take]; omega))) ?_)))
 rintro _ xe ⟨bz, rfl, s7, s8, ot, fk⟩
 refine Jz (c := bz / 2) Z Z (by omega) (by omega) (by omega) Z Z (Xd (o' := 3) Qv Z Z Z (Yb (v := vi (bz / 2)) (cs' := #[vi 1, vi 0, vi 0, vi (bz / 2), vi df, .slice (pa bk) 0 ar, .slice (pa bl) 0 au, vi 0]) X3 Z Z Z (dy.blk.gn fk) (Nat.le_of_ble_eq_true Z) Z ?_))
 intro xf dz
 refine Xb (Ys (Xr (Xa (Xp (vs := [vi 1, vi 0, vi 0, vi (bz / 2), vi df, .slice (pa bk) 0 ar, .slice (pa bl) 0 au, vi 0]) Yz Z Z (dz.blk.rangeL 0 8 Z) Z (Xt (vs := [vi 1, vi 0, vi 0, vi (bz / 2), vi df, .slice (pa bk) 0 ar, .slice (pa bl) 0 au, vi 0]) (cs' := #[vi 1, vi 0, vi 0, vi (bz / 2), vi df, .slice (pa bk) 0 ar, .slice (pa bl) 0 au, vi 0]) Yz Z Z Z (by simp [Value.oneCell']) ((((((jq.grown0 gf).gn ct.grw).gn fj).gn dy.grw).gn fk).gn dz.grw) (Nat.le_of_ble_eq_true Z) Z ?_)))))
 intro xh em
 refine Xb (Xq (⟨.agg #[vi 1, vi 0, vi 0, vi (bz / 2), vi df, .slice (pa bk) 0 ar, .slice (pa bl) 0 au, vi 0], Qo Z (X7 (vs := [vi 1, vi 0, vi 0, vi (bz / 2), vi df, .slice (pa bk) 0 ar, .slice (pa bl) 0 au, vi 0]) Yz Z Z (em.blk.rangeL 0 8 Z)), ⟨⟨1, ⟨0, 0⟩, bz / 2, df, ([] : List Rt), ([] : List Int), 0⟩, some ⟨bk, 0, none⟩, ar, some ⟨bl, 0, none⟩, au⟩, (ah + 1 + 1), Z, ⟨OwnN.of ((((((nf.gn ct.grw).gn fj).gn dy.grw).gn fk).gn dz.grw).gn em.grw) lw, ⟨([] : List Rt), OwnN.of ((((((ne.gn ct.grw).gn fj).gn dy.grw).gn fk).gn dz.grw).gn em.grw) lv, Z, ?_⟩, ?_, ?_, ⟨show (0 : Int) ≤ bz / 2 by omega, show bz / 2 ≤ (1 : Int) by omega⟩⟩, by omega, by omega, ((ot.gn dz.grw).gn em.grw), (low1 (low1 (grown_trans i5 fk) dz.grw (by omega)) em.grw (by omega))⟩))
 intro x hx; first | (simp [zeros4] at hx; subst hx; exact ⟨by decide, by decide, by decide, by decide⟩) | simp at hx
 · first | exact Nat.le_of_ble_eq_true rfl | omega | (simp only [List.length_nil]; omega)
 exact Nat.le_of_ble_eq_true Z
theorem Wl (p : Int) (hp : 0 ≤ p ∧ p ≤ 999999990000) (lo R : Nat) (bs : List Int) (a : Option Addr) (c : Nat) (w : World) (hR : Blk w R 63 #[.slice a bs.length c, vi p]) (hlo : lo ≤ R) (hs : SlLt lo w a 1 (bs.map bcell)) (hb : ∀ b ∈ bs, 0 ≤ b ∧ b ≤ 255) (hn : bs.length ≤ 1048576) : CallsR Tryd.prog 27 #[pt R 0] w (fun v w' => ∃ (B cap : Nat) (ms : List MTh) (p' : Int), v = .slice (pa B) ms.length cap ∧ TabG w.heap.size w' (pa B) ms ∧ Small ms ∧ (3 ≤ ms.length ∧ ms.length ≤ 8) ∧ p ≤ p' ∧ p' ≤ p + 600 ∧ Blk w' R 63 #[.slice a bs.length c, vi p'] ∧ w.grownBy w' (some R)) := by
 refine X0 (n := 142) Tryd.func27 Z Tryd.ntmps27 Z ?_
 have l3 := World.grownBy.refl w (some R)
 have hRlt := hR.lt
 refine Xa (Xg (v := .slice none 0 0) Z Z (Xb (Xa (Xy (ps := [(0, vi 1), (1, vi 3), (2, vi 3)]) (e := 3) (cs := (([1, 3, 3] : List Int).flatMap icell).toArray) (Xk Z (Xk Z (Xk Z Xz))) (fun _ => by kernel_rfl) Z ?_))))
 intro gx py bb
 have gp := X9 bb l3
 have j6 := Xn bb (hR).lt
 have ee := low0 l3 bb.grw
 refine Xg (v := .slice (pa gx) 3 3) Z Z (Xb (Xs (Xa (Xc (v := pt R 0) Z Z (Xm Yt (Xf Z (Xf Z Xl)) Z (Yh p 6 (by omega) _ R bs _ _ _ (hR.grown0 bb.grw) (by omega) (SlLt.low1 hs ee hlo) (by first | exact hb | exact fun b h => hb b (List.mem_of_mem_take h)) (by first | omega | (rw [List.length_take]; omega))) ?_)))))
 rintro _ pz ⟨fd, rfl, mz, m3, j2, ew⟩
 refine Xg (v := vi fd) Z Z (Xb (Ya (Qj (fun mm f' w' => ∃ (n : Int) (p1 : Int) (Bk : Nat) (ck : Nat) (ks : List Int), mm = n.toNat ∧ (0 ≤ n ∧ n ≤ 5) ∧ (p ≤ p1 ∧ p1 ≤ p + 6 - n) ∧ (3 ≤ ks.length ∧ (ks.length : Int) ≤ 8 - n) ∧ (∀ y ∈ ks, 1 ≤ y ∧ y ≤ 5) ∧ Dw.Own w' Bk 3 1 ck ks.length (ks.flatMap icell) ∧ w.heap.size ≤ Bk ∧ R ≠ Bk ∧ f' 3 = .slice (pa Bk) ks.length ck ∧ f' 4 = vi n ∧ f' 0 = pt R 0 ∧ f' 2 = .slice none 0 0 ∧ w.grownBy w' (some R) ∧ Blk w' R 63 #[.slice a bs.length c, vi p1]) (fd.toNat) ⟨fd, (p + 1), gx, 3, ([1, 3, 3] : List Int), Z, (by omega), (by omega), (by simp only [List.length_nil, List.length_cons]; omega), (by intro y hy; simp at hy; omega), (Own.rows Yn (bb.blk.gn ew) (by simp)), gp, (by omega), Z, Z, Z, Z, (grown_trans ee ew), j2⟩ ?_)))
 rintro mm oc p0 ⟨n, p1, Bk, ck, ks, ni, hnn, hpp, hkl, hks, hOk, hlBk, ph, gz, g0, dx, g5, br, dr⟩
 refine Xs (Xa (Xc (v := vi n) g0 Z (Qe (q := decide (0 < n)) Z Z Z Z (Xb (Xu Z (fun d5 => ?_) (fun d5 => ?_))))))
 have om := of_decide_eq_true d5
 refine Xv (Xr (Xs (Ya (Xx (Xc (v := .slice (pa Bk) ks.length ck) gz Z (Xy (ps := [(0, vi 1), (1, vi 2), (2, vi 2), (3, vi 3), (4, vi 4), (5, vi 5)]) (e := 3) (cs := (([1, 2, 2, 3, 4, 5] : List Int).flatMap icell).toArray) (Xk Z (Xk Z (Xk Z (Xk Z (Xk Z (Xk Z Xz)))))) (fun _ => by kernel_rfl) Z ?_))))))
 intro kg p8 an
 have ml := X9 an br
 have j7 := Xn an (dr).lt
 have i8 := Xn an (hOk).lt
 have ef := low0 br an.grw
 refine Xc (v := pt R 0) dx Z (Xm Yt (Xf Z (Xf Z Xl)) Z (Yh p1 6 (by omega) _ R bs _ _ _ (dr.grown0 an.grw) (by omega) (SlLt.low1 hs ef hlo) (by first | exact hb | exact fun b h => hb b (List.mem_of_mem_take h)) (by first | omega | (rw [List.length_take]; omega))) ?_)
 rintro _ p9 ⟨fe, rfl, m4, m5, fj, co⟩
 have eg := grown_trans ef co
 refine X1 (o' := (fe).toNat * 1) Je Z Z (by omega) (by omega) (by omega) Z ?_
 have ff := (an.blk.gn co)
 obtain ⟨bl, fb⟩ := Qa (l := ([1, 2, 2, 3, 4, 5] : List Int)) (i := (fe).toNat) (lq (fe).toNat 6)
 have jx := List.mem_of_getElem? fb
 simp only [List.mem_cons, List.not_mem_nil, or_false] at jx
 refine Xh (v := vi bl) X3 Z ((Y2 Yn ff fb) 0 _ Z) Z (Xy (ps := [(0, vi bl)]) (e := 3) (cs := (([bl] : List Int).flatMap icell).toArray) (Xk Z Xz) (fun _ => by kernel_rfl) Z ?_)
 intro kh qb ai
 have mn := X9 ai eg
 have j8 := Xn ai (fj).lt
 have ig := ((hOk.grown0 an.grw).gn co)
 have i9 := Xn ai (ig).lt
 have fr := Xn ai (ff).lt
 have eh := low0 eg ai.grw
 have ii := (fj.grown0 ai.grw)
 refine Vf (g := icell) (ys := ks) (zs := ([bl] : List Int)) Rv Z Yn (by omega) Wo Z Z (ig.grown0 ai.grw) (Jh Yn ai.blk) (by simp only [List.length_cons, List.length_nil]; omega) (by omega) Z ?_
 intro bh db qd jg ex gu
 have gq : w.heap.size ≤ bh := by rcases gu with h | h; (rw [h]; exact hlBk); (rw [h]; exact eh.size)
 have ke : R ≠ bh := by have h := (ii).lt; omega
 have ft : kg ≠ bh := by have h := ((ff.grown0 ai.grw)).lt; omega
 have fu : kh ≠ bh := by have h := (ai.blk).lt; omega
 exact Xg (v := .slice (pa bh) (ks ++ ([bl] : List Int)).length db) Z Z (Xb (Ys (Xr (Xx (Xc (v := vi n) g0 Z (Y0 (c := n - 1) Z Z (by omega) (by omega) (by omega) Z (Xg (v := vi (n - 1)) Z Z (Xb (Xr (⟨(n - 1).toNat, by omega, (n - 1), (p1 + 1), bh, db, (ks ++ ([bl] : List Int)), Z, (by omega), (by omega), (by simp only [List.length_append, List.length_cons, List.length_nil]; omega), (by intro y hy; rcases List.mem_append.1 hy with h | h; exact hks y h; (simp at h; omega)), jg, gq, (by omega), Z, Z, dx, g5, (low1 eh ex (by omega)), (ii.gn ex)⟩))))))))))
 have oo := of_decide_eq_false d5
 refine Y9 (Y6 (Y6 (Jd (Xr (Xa (Xy (ps := []) (e := 36) (cs := (([] : List MTh).flatMap MTh.cells).toArray) Xz (fun _ => by kernel_rfl) Z ?_))))))
 intro gy qe ao
 have gr := X9 ao br
 have j9 := Xn ao (dr).lt
 have ja := Xn ao (hOk).lt
 refine Xg (v := .slice (pa gy) 0 0) Z Z (Xb (Xs (Xa (Xg (v := vi 0) Z Z (Xb (Ya (Qj (fun mm f' w' => ∃ (i : Nat) (p2 : Int) (Bt : Nat) (ct : Nat) (ms : List MTh), mm = ks.length - i ∧ i ≤ ks.length ∧ (p ≤ p2 ∧ p2 ≤ p + 6 + 12 * (i : Int)) ∧ ms.length = i ∧ RowsD 38 3 w.heap.size w' ms ∧ Dw.Own w' Bt 36 8 ct ms.length (ms.flatMap MTh.cells) ∧ w.heap.size ≤ Bt ∧ R ≠ Bt ∧ Bk ≠ Bt ∧ f' 5 = .slice (pa Bt) ms.length ct ∧ f' 6 = vi (i : Int) ∧ f' 0 = pt R 0 ∧ f' 2 = .slice none 0 0 ∧ f' 3 = .slice (pa Bk) ks.length ck ∧ w.grownBy w' (some R) ∧ Dw.Own w' Bk 3 1 ck ks.length (ks.flatMap icell) ∧ Blk w' R 63 #[.slice a bs.length c, vi p2]) (ks.length - 0) ⟨0, p1, gy, 0, ([] : List MTh), Z, (Nat.zero_le _), (by omega), Z, RowsD.nil, (Own.rows Qf ao.blk (by simp)), gr, (by omega), (by omega), Z, Z, dx, g5, gz, (low0 br ao.grw), (hOk.grown0 ao.grw), (dr.grown0 ao.grw)⟩ ?_)))))))
 rintro mm od jf ⟨i, p2, Bt, ct, ms, nj, hi, pk, hml, hRows, hOt, hlBt, pi, pj, dy, de, dz, d0, df, bt, fg, ij⟩
 have pg := hkl
 refine Xs (Xa (Xc (v := vi (i : Int)) de Z (Xc (v := .slice (pa Bk) ks.length ck) df Z (Yj (by kernel_rfl) Z Z (Qh (q := decide ((i : Int) < (ks.length : Int))) Z Z Z Z (Xb (Xu Z (fun d6 => ?_) (fun d6 => ?_))))))))
 have oq := of_decide_eq_true d6
 refine Xv (Xr (Xs (Ya (Xa (Xg (v := vi 0) Z Z (Xb (Xs (Xa (Xc (v := .slice (pa Bk) ks.length ck) df Z (Xc (v := vi (i : Int)) de Z (X1 (o' := i * 1) Je Z Z (by omega) (by omega) (by omega) Z ?_)))))))))))
 obtain ⟨bf, fc⟩ := Qa (l := ks) (i := i) (by omega)
 refine Xh (v := vi bf) X3 Z ((Own.range Yn fg fc) 0 _ Z) Z (Xw (q := decide (bf = 5)) Z Z Z Z (Xb (N6 (fun f' w' => (f' 0 = pt R 0 ∧ f' 2 = .slice none 0 0 ∧ f' 3 = .slice (pa Bk) ks.length ck ∧ f' 5 = .slice (pa Bt) ms.length ct ∧ f' 6 = vi (i : Int) ∧ f' 7 = vi (if bf = 5 then 1 else 0)) ∧ jf = w') ?_ ?_)))
 refine Xu Z (fun cd => ?_) (fun cd => ?_)
 have ot := of_decide_eq_true cd
 exact Xx (Xg (v := vi 1) Z Z (Xb (Xr (⟨⟨dz, d0, df, dy, de, (congrArg (Value.int .i64) (if_pos (of_decide_eq_true cd)).symm)⟩, Z⟩))))
 have ou := of_decide_eq_false cd
 exact Xv (Xr (⟨⟨dz, d0, df, dy, de, (congrArg (Value.int .i64) (if_neg (of_decide_eq_false cd)).symm)⟩, Z⟩))
 rintro oe _ ⟨⟨g6, kj, g7, kk, g8, kl⟩, rfl⟩
 refine Xr (Xx (Xc (v := .slice (pa Bt) ms.length ct) kk Z (Xc (v := pt R 0) g6 Z (Xc (v := .slice (pa Bk) ks.length ck) g7 Z (Xc (v := vi (i : Int)) g8 Z (X1 (o' := i * 1) Je Z Z (by omega) (by omega) (by omega) Z (Xh (v := vi bf) X3 Z ((Own.range Yn fg fc) 0 _ Z) Z (Xc (v := vi (if bf = 5 then 1 else 0)) kl Z (Xm Mr (Xf Z (Xf Z (Xf Z Xl))) Z (Nc bf (if bf = 5 then 1 else 0) p2 (by omega) _ R bs _ _ _ ij (by omega) (SlLt.low1 hs bt hlo) (by first | exact hb | exact fun b h => hb b (List.mem_of_mem_take h)) (by first | omega | (rw [List.length_take]; omega))) ?_)))))))))
 rintro _ qf ⟨ag, l8, rfl, fx, no, np, fk, bu⟩
 have ei := grown_trans bt bu
 have fy := RowD.mono fx bt.size
 refine Xy (ps := [(0, .agg #[vi ag.t.kind, vi ag.t.lab.s, vi ag.t.lab.v, vi ag.t.ve, vi ag.t.num, .slice ag.sa ag.t.slots.length ag.sc, .slice ag.qa ag.t.queue.length ag.qc, vi ag.t.to])]) (e := 36) (cs := (([ag] : List MTh).flatMap MTh.cells).toArray) (Xk Z Xz) (fun _ => by kernel_rfl) Z ?_
 intro ki qg ad
 have mo := X9 ad ei
 have ik := (fg.gn bu)
 have jb := Xn ad (ik).lt
 have ka := Xn ad (fk).lt
 have il := (hOt.gn bu)
 have jc := Xn ad (il).lt
 have ej := low0 ei ad.grw
 have fh := (il.grown0 ad.grw)
 have im := (ik.grown0 ad.grw)
 have io := (fk.grown0 ad.grw)
 refine Vf (g := MTh.cells) (ys := ms) (zs := ([ag] : List MTh)) Rs Z Qf (by omega) Wq Z Z fh (Jh Qf ad.blk) (by simp only [List.length_cons, List.length_nil]; omega) (by omega) Z ?_
 intro bi dc qh jh bc gv
 have gt : w.heap.size ≤ bi := by rcases gv with h | h; (rw [h]; exact hlBt); (rw [h]; exact ej.size)
 have je : Bk ≠ bi := by have h := (im).lt; omega
 have kf : R ≠ bi := by have h := (io).lt; omega
 have fv : ki ≠ bi := by have h := (ad.blk).lt; omega
 refine Xg (v := .slice (pa bi) (ms ++ ([ag] : List MTh)).length dc) Z Z (Xb (Ys (Xr (Xx (Xc (v := vi (i : Int)) g8 Z (Yw (c := (i : Int) + 1) Z Z (by omega) (by omega) (by omega) Z (Xg (v := vi ((i : Int) + 1)) Z Z (Xb (Xr ?_)))))))))
 have fz := (RowsD.typ (RowsD.low (RowsD.lt hRows bu (by omega)) ad.grw) bc fh (by decide) (by decide))
 exact ⟨ks.length - (i + 1), by omega, (i + 1), l8, bi, dc, (ms ++ ([ag] : List MTh)), Z, (by omega), (by omega), (by rw [List.length_append, hml]; rfl), (RowsD.snoc fz (RowD.typ (RowD.low fy ad.grw) bc fh (by decide) (by decide))), jh, gt, (by omega), (by omega), Z, Z, g6, kj, g7, (low1 ej bc (by omega)), (im.gn bc), (io.gn bc)⟩
 have ov := of_decide_eq_false d6
 refine Y9 (Y6 (Y6 (Jd (Xr (Xs (Xa (Xg (v := vi 0) Z Z (Xb (Ya ?_)))))))))
 obtain ⟨hi, hhi⟩ : ∃ n, n = jf.heap.size := ⟨_, rfl⟩
 have hH := RowsD.hi hRows
 rw [← hhi] at hH
 have hbt := (hOt).lt
 refine Qj (fun mm f' w' => ∃ (i3 : Nat) (p3 : Int), mm = ms.length - i3 ∧ i3 ≤ ms.length ∧ (p ≤ p3 ∧ p3 ≤ p + 102 + 56 * (i3 : Int)) ∧ RowsD 38 3 w.heap.size w' ms ∧ Dw.Own w' Bt 36 8 ct ms.length (ms.flatMap MTh.cells) ∧ hi ≤ w'.heap.size ∧ f' 8 = vi (i3 : Int) ∧ f' 0 = pt R 0 ∧ f' 2 = .slice none 0 0 ∧ f' 5 = .slice (pa Bt) ms.length ct ∧ w.grownBy w' (some R) ∧ Dw.Own w' Bt 36 8 ct ms.length (ms.flatMap MTh.cells) ∧ Blk w' R 63 #[.slice a bs.length c, vi p3]) (ms.length - 0) ⟨0, p2, Z, (Nat.zero_le _), (by omega), hRows, hOt, (Nat.le_of_eq hhi), Z, dz, d0, dy, bt, hOt, ij⟩ ?_
 rintro mm og qi ⟨i3, p3, nk, rf, pl, hRows, hOt, hhs, g9, dg, km, bj, ce, pv, ip⟩
 refine Xs (Xa (Xc (v := vi (i3 : Int)) g9 Z (Xc (v := .slice (pa Bt) ms.length ct) bj Z (Yj (by kernel_rfl) Z Z (Qh (q := decide ((i3 : Int) < (ms.length : Int))) Z Z Z Z (Xb (Xu Z (fun d7 => ?_) (fun d7 => ?_))))))))
 have ow := of_decide_eq_true d7
 refine Xv (Xr (Xs (Ya (Xa (Xg (v := vi 0) Z Z (Xb (Ya (Qj (fun mm f' w' => ∃ (j : Nat) (p4 : Int), mm = (mAt ms i3).t.slots.length - j ∧ j ≤ (mAt ms i3).t.slots.length ∧ (p3 ≤ p4 ∧ p4 ≤ p3 + 14 * (j : Int)) ∧ RowsD 38 3 w.heap.size w' ms ∧ Dw.Own w' Bt 36 8 ct ms.length (ms.flatMap MTh.cells) ∧ hi ≤ w'.heap.size ∧ f' 9 = vi (j : Int) ∧ f' 0 = pt R 0 ∧ f' 2 = .slice none 0 0 ∧ f' 5 = .slice (pa Bt) ms.length ct ∧ f' 8 = vi (i3 : Int) ∧ w.grownBy w' (some R) ∧ Dw.Own w' Bt 36 8 ct ms.length (ms.flatMap MTh.cells) ∧ Blk w' R 63 #[.slice a bs.length c, vi p4]) ((mAt ms i3).t.slots.length - 0) ⟨0, p3, Z, (Nat.zero_le _), (by omega), hRows, hOt, hhs, Z, dg, km, bj, g9, ce, hOt, ip⟩ ?_))))))))
 rintro mm oh qj ⟨j, p4, nn, hj, pm, hRows, hOt, hhs, dh, bk, di, bw, bx, cf, pw, iq⟩
 have pu := (RowsD.at hRows (lq i3 ms.length)).sl
 refine Xs (Xa (Xc (v := vi (j : Int)) dh Z (Xc (v := .slice (pa Bt) ms.length ct) bw Z (Xc (v := vi (i3 : Int)) bx Z (X1 (o' := i3 * 8) Y7 Z Z (by omega) (by omega) (by omega) Z (Xd (o' := i3 * 8 + 5) Qr Z Z Z ?_))))))
 have mt := (RowsD.at hRows (lq i3 ms.length)).ve
 refine Xh (v := .slice (mAt ms i3).sa (mAt ms i3).t.slots.length (mAt ms i3).sc) Jo Z ((Own.range Qf hOt (xg ms i3)) 5 _ Z) Z (Yj (by kernel_rfl) Z Z (Qh (q := decide ((j : Int) < ((mAt ms i3).t.slots.length : Int))) Z Z Z Z (Xb (Xu Z (fun d8 => ?_) (fun d8 => ?_)))))
 have ox := of_decide_eq_true d8
 refine Xv (Xr (Xs (Ya (Xa (Xc (v := pt R 0) bk Z (Xm Ms (Xf Z Xl) Z (Nb p4 (by omega) _ R bs _ _ _ iq (by omega) (SlLt.low1 hs cf hlo) (by first | exact hb | exact fun b h => hb b (List.mem_of_mem_take h)) (by first | omega | (rw [List.length_take]; omega))) ?_))))))
 rintro _ qk ⟨E, am, rfl, nu, nv, nw, nx, nq, nr, c9, ah⟩
 have ek := grown_trans cf ah
 refine Yd (cs := #[vi 0, vi 0, vb false, vb false, vb false]) Ks Z Z ?_
 intro bv qm O
 have mp := X9 O ek
 have l4 : hi ≤ bv := nt (nt hhs ah.size) (Nat.le_of_eq O.eq.symm)
 have dt := (hOt.gn ah)
 have jd := Xn O (dt).lt
 have kb := Xn O (c9).lt
 refine Xt (vs := [vi E.th, vi E.ve, vb E.rd, vb E.wr, vb E.wk]) (cs' := #[vi E.th, vi E.ve, vb E.rd, vb E.wr, vb E.wk]) Yv Z Z Z (by simp [Value.oneCell']) O.blk (Nat.le_of_ble_eq_true Z) Z ?_
 intro qn V
 have cg := low1 (low0 ek O.grw) V.grw (by omega)
 refine Xb (Jp (fun f' w' => ∃ (p5 : Int) (r5 : Rt), (p4 ≤ p5 ∧ p5 ≤ p4 + 12) ∧ RB r5 ∧ RowsD 38 3 w.heap.size w' ms ∧ Dw.Own w' Bt 36 8 ct ms.length (ms.flatMap MTh.cells) ∧ hi ≤ w'.heap.size ∧ f' 0 = pt R 0 ∧ f' 2 = .slice none 0 0 ∧ f' 5 = .slice (pa Bt) ms.length ct ∧ f' 8 = vi (i3 : Int) ∧ f' 9 = vi (j : Int) ∧ f' 10 = pt bv 0 ∧ w.grownBy w' (some R) ∧ Blk w' bv 38 #[vi r5.th, vi r5.ve, vb r5.rd, vb r5.wr, vb r5.wk] ∧ Dw.Own w' Bt 36 8 ct ms.length (ms.flatMap MTh.cells) ∧ Blk w' R 63 #[.slice a bs.length c, vi p5]) ?_ ?_)
 refine Xa (Xd (o' := 0) Ym Z Z Z (Xh (v := vi E.th) X3 Z (V.blk.cell Z) Z (Qe (q := decide (0 < E.th)) Z Z Z Z (Xc (v := vb (decide (0 < E.th))) Z Z ?_))))
 rcases X6 (decide (0 < E.th)) with av | av
 have oy := of_decide_eq_true av
 refine Xe Z Z Z av (Xc (v := pt R 0) bk Z (Xe Z Z Z av (Xm Yt (Xf Z (Xf Z Xl)) Z (Yh am 40 (by omega) _ R bs _ _ _ ((c9.grown0 O.grw).gn V.grw) (by omega) (SlLt.low1 hs cg hlo) (by first | exact hb | exact fun b h => hb b (List.mem_of_mem_take h)) (by first | omega | (rw [List.length_take]; omega))) ?_)))
 rintro _ l9 ⟨ir, rfl, m6, m7, fm, ae⟩
 have cj := grown_trans cg ae
 refine Xe Z Z Z av (Qe (q := decide (0 < ir)) Z Z Z Z (Xo (v := vb (decide (0 < ir))) Z av Z Z (Xb (Xu Z (fun d9 => ?_) (fun d9 => ?_)))))
 have oz := of_decide_eq_true d9
 refine Xs (J3 (m := 7) [[], [0], [], [2], [0, 1, 2, 3], [], [5], [0, 1, 2, 3, 4, 5, 6], [0, 1, 2, 3, 4, 5, 6, 7], [0, 1, 2, 3, 4, 5, 6, 7, 8], [0, 1, 2, 3, 4, 5, 6, 7, 8, 9]] (fun S F w' => ∃ (G : Int), l9.grownBy w' (some R) ∧ F 0 = pt R 0 ∧ F 2 = .slice none 0 0 ∧ F 5 = .slice (pa Bt) ms.length ct ∧ F 8 = vi (i3 : Int) ∧ F 9 = vi (j : Int) ∧ F 10 = pt bv 0 ∧ (S 3 = false → Blk w' R 63 #[.slice a bs.length c, vi (am + 1)]) ∧ (S 3 = true → F 77 = vi G ∧ 0 ≤ G ∧ (G < 8 ∨ G = 0) ∧ Blk w' R 63 #[.slice a bs.length c, vi (am + 1 + 1)]) ∧ (S 4 = true → F 78 = vi (E.th + G)) ∧ Vals S F [(0, 74, pt bv 0), (1, 75, vi E.th), (2, 76, pt R 0), (5, 79, .slice (pa Bt) ms.length ct), (6, 80, vi (ms.length : Int))]) Qb (by kernel_rfl) ⟨0, Yf _, bk, di, bw, bx, dh, Z, fun _ => (fm).grown0 (Yf _), Y4, Y4, Vn _⟩ ?_ ?_)
 refine X5 (fun S F qo hS hbef hcl hI => ?_) ?_
 obtain ⟨G, jl, kn, ko, kp, kq, kr, ia, c_old_R, ar, bg, hvs⟩ := hI
 exact Xd (o' := 0) Ym ia Z Z (Xb ⟨G, jl, kn, ko, kp, kq, kr, ia, fun h => c_old_R h, ar, Y1 4 hS hcl Z, Vals.up 0 hvs Z Z Z⟩)
 refine X5 (fun S F qp hS hbef hcl hI => ?_) ?_
 obtain ⟨G, ez, kt, ku, kv, kw, kx, ky, c_old_R, ar, bg, hvs⟩ := hI
 exact Xh (v := vi E.th) X3 (Vals.at 0 hvs Z (X4 0 hbef Z)) (((V.blk.gn ae).gn ez).cell Z) Z (Xb ⟨G, ez, kt, ku, kv, kw, kx, ky, fun h => c_old_R h, ar, Y1 4 hS hcl Z, Vals.up 1 hvs Z Z Z⟩)
 refine X5 (fun S F qq hS hbef hcl hI => ?_) ?_
 obtain ⟨G, jm, ib, kz, k0, k3, k4, k5, c_old_R, ar, bg, hvs⟩ := hI
 exact Xc (v := pt R 0) ib Z (Xb ⟨G, jm, ib, kz, k0, k3, k4, k5, fun h => c_old_R h, Y1 3 hS hcl Z, Y1 4 hS hcl Z, Vals.up 2 hvs Z Z Z⟩)
 refine X5 (fun S F qr hS hbef hcl hI => ?_) ?_
 obtain ⟨G, e0, k6, k7, k8, k9, la, lc, c_old_R, ar, bg, hvs⟩ := hI
 refine Xm Yt (Xf (Vals.at 2 hvs Z (X4 2 hbef Z)) (Xf Z Xl)) Z (Yh (am + 1) 8 (by omega) _ R bs _ _ _ (c_old_R hS) (by omega) (SlLt.low1 hs (grown_trans cj e0) hlo) (by first | exact hb | exact fun b h => hb b (List.mem_of_mem_take h)) (by first | omega | (rw [List.length_take]; omega))) ?_
 rintro _ qt ⟨l5, rfl, ju, jv, j3, jk⟩
 exact Xb ⟨l5, (grown_trans e0 jk), k6, k7, k8, k9, la, lc, fun h => Q7 h, fun _ => ⟨Z, ju, jv, j3⟩, Y1 4 hS hcl Z, Vals.keep hvs Z⟩
 refine X5 (fun S F qu hS hbef hcl hI => ?_) ?_
 obtain ⟨G, jo, ld, le, lf, lg, lh, li, c_old_R, ar, bg, hvs⟩ := hI
 obtain ⟨lj, js, jt, da⟩ := ar (X4 3 hbef rfl)
 exact Yw (c := E.th + G) (Vals.at 1 hvs Z (X4 1 hbef Z)) lj (by omega) (by omega) (by omega) Z (Xb ⟨G, jo, ld, le, lf, lg, lh, li, fun hn => Q7 ((X4 3 hbef Z).symm.trans hn), ar, fun _ => Z, Vals.keep hvs Z⟩)
 refine X5 (fun S F qv hS hbef hcl hI => ?_) ?_
 obtain ⟨G, jp, lk, ll, ic, lm, ln, lp, c_old_R, ar, bg, hvs⟩ := hI
 exact Xc (v := .slice (pa Bt) ms.length ct) ic Z (Xb ⟨G, jp, lk, ll, ic, lm, ln, lp, fun h => c_old_R h, ar, bg, Vals.up 3 hvs Z Z Z⟩)
 refine X5 (fun S F qw hS hbef hcl hI => ?_) ?_
 obtain ⟨G, jq, lu, lv, lw, lx, ly, lz, c_old_R, ar, bg, hvs⟩ := hI
 exact Yj (by kernel_rfl) (Vals.at 3 hvs Z (X4 5 hbef Z)) Z (Xb ⟨G, jq, lu, lv, lw, lx, ly, lz, fun h => c_old_R h, ar, bg, Vals.up 4 hvs Z Z Z⟩)
 exact Ke
 intro S F qx hall hI
 obtain ⟨G, aq, dk, d1, dl, d2, d3, au, c_old_R, ar, bg, hvs⟩ := hI
 obtain ⟨ob, js, jt, da⟩ := ar (hall 3 (by decide))
 obtain l0 := bg (hall 4 (by decide))
 have ny := Int.emod_nonneg (E.th + G) (show (ms.length : Int) ≠ 0 by omega)
 have nz := Int.emod_lt_of_pos (E.th + G) (show 0 < (ms.length : Int) by omega)
 refine J0 (c := (E.th + G) % (ms.length : Int)) l0 (Vals.at 4 hvs Z (hall 6 (by decide))) (by omega) (by omega) (by omega) Z Z (Yw (c := 1 + ((E.th + G) % (ms.length : Int))) Z Z (by omega) (by omega) (by omega) Z (Xd (o' := 0) Ym au Z Z (Yb (v := vi (1 + ((E.th + G) % (ms.length : Int)))) (cs' := #[vi (1 + ((E.th + G) % (ms.length : Int))), vi E.ve, vb E.rd, vb E.wr, vb E.wk]) X3 Z Z Z ((V.blk.gn ae).gn aq) (Nat.le_of_ble_eq_true Z) Z ?_)))
 intro qy aj
 refine Xb (Xr (Xa (Xc (v := .slice (pa Bt) ms.length ct) dl Z (Xd (o' := 0) Ym au Z Z (Xh (v := vi (1 + ((E.th + G) % (ms.length : Int)))) X3 Z (aj.blk.cell Z) Z (Y0 (c := (1 + ((E.th + G) % (ms.length : Int))) - 1) Z Z (by omega) (by omega) (by omega) Z (X1 (o' := ((1 + ((E.th + G) % (ms.length : Int))) - 1).toNat * 8) Y7 Z Z (by omega) (by omega) (by omega) Z (Xd (o' := ((1 + ((E.th + G) % (ms.length : Int))) - 1).toNat * 8 + 3) Qv Z Z Z ?_))))))))
 have du := (((((dt.grown0 O.grw).gn V.grw).gn ae).gn aq).gn aj.grw)
 have ba := (RowsD.ge (RowsD.lt (RowsD.lt (RowsD.ge (RowsD.low (RowsD.lt hRows ah (by omega)) O.grw) V.grw hH (by omega)) ae (by omega)) aq (by omega)) aj.grw hH (by omega))
 have mu := (RowsD.at ba (show ((1 + ((E.th + G) % (ms.length : Int))) - 1).toNat < ms.length by omega)).ve
 refine Xh (v := vi (mAt ms ((1 + ((E.th + G) % (ms.length : Int))) - 1).toNat).t.ve) X3 Z ((Own.range Qf du (xg ms ((1 + ((E.th + G) % (ms.length : Int))) - 1).toNat)) 3 _ Z) Z (Xd (o' := 1) Jr au Z Z (Yb (v := vi (mAt ms ((1 + ((E.th + G) % (ms.length : Int))) - 1).toNat).t.ve) (cs' := #[vi (1 + ((E.th + G) % (ms.length : Int))), vi (mAt ms ((1 + ((E.th + G) % (ms.length : Int))) - 1).toNat).t.ve, vb E.rd, vb E.wr, vb E.wk]) X3 Z Z Z aj.blk (Nat.le_of_ble_eq_true Z) Z ?_))
 intro qz ab
 have cl := low1 (low1 (grown_trans cj aq) aj.grw (by omega)) ab.grw (by omega)
 refine Xb (Xa (Xd (o' := 1) Jr au Z Z (Xh (v := vi (mAt ms ((1 + ((E.th + G) % (ms.length : Int))) - 1).toNat).t.ve) X3 Z (ab.blk.cell Z) Z (Qe (q := decide (0 < (mAt ms ((1 + ((E.th + G) % (ms.length : Int))) - 1).toNat).t.ve)) Z Z Z Z (Xc (v := vb (decide (0 < (mAt ms ((1 + ((E.th + G) % (ms.length : Int))) - 1).toNat).t.ve))) Z Z ?_)))))
 rcases X6 (decide (0 < (mAt ms ((1 + ((E.th + G) % (ms.length : Int))) - 1).toNat).t.ve)) with aw | aw
 have o0 := of_decide_eq_true aw
 refine Xe Z Z Z aw (Xc (v := pt R 0) dk Z (Xe Z Z Z aw (Xm Yt (Xf Z (Xf Z Xl)) Z (Yh (am + 1 + 1) 5 (by omega) _ R bs _ _ _ ((da.gn aj.grw).gn ab.grw) (by omega) (SlLt.low1 hs cl hlo) (by first | exact hb | exact fun b h => hb b (List.mem_of_mem_take h)) (by first | omega | (rw [List.length_take]; omega))) ?_)))
 rintro _ q0 ⟨it, rfl, m8, m9, fo, ak⟩
 have em := grown_trans cl ak
 refine Xe Z Z Z aw (Xw (q := decide (it = 0)) Z Z Z Z (Xo (v := vb (decide (it = 0))) Z aw Z Z (Xb (Xu Z (fun ea => ?_) (fun ea => ?_)))))
 have o1 := of_decide_eq_true ea
 refine Xx (Xd (o' := 1) Jr au Z Z ?_)
 have iu := (ab.blk.gn ak)
 refine Xh (v := vi (mAt ms ((1 + ((E.th + G) % (ms.length : Int))) - 1).toNat).t.ve) X3 Z (iu.cell Z) Z (Y0 (c := (mAt ms ((1 + ((E.th + G) % (ms.length : Int))) - 1).toNat).t.ve - 1) Z Z (by omega) (by omega) (by omega) Z (Xd (o' := 1) Jr au Z Z (Yb (v := vi ((mAt ms ((1 + ((E.th + G) % (ms.length : Int))) - 1).toNat).t.ve - 1)) (cs' := #[vi (1 + ((E.th + G) % (ms.length : Int))), vi ((mAt ms ((1 + ((E.th + G) % (ms.length : Int))) - 1).toNat).t.ve - 1), vb E.rd, vb E.wr, vb E.wk]) X3 Z Z Z iu (Nat.le_of_ble_eq_true Z) Z ?_)))
 intro q1 a9
 refine Xb (Xr ?_)
 have f8 := (RowsD.ge (RowsD.lt (RowsD.ge ba ab.grw hH (by omega)) ak (by omega)) a9.grw hH (by omega))
 have iv := (((du.gn ab.grw).gn ak).gn a9.grw)
 exact ⟨(am + 1 + 1 + 1), (⟨1 + ((E.th + G) % (ms.length : Int)), (mAt ms ((1 + ((E.th + G) % (ms.length : Int))) - 1).toNat).t.ve - 1, E.rd, E.wr, E.wk⟩ : Rt), (by omega), (rbo (1 + ((E.th + G) % (ms.length : Int))) ((mAt ms ((1 + ((E.th + G) % (ms.length : Int))) - 1).toNat).t.ve - 1) Z Z), f8, iv, (nt (nt (nt (nt (nt (nt (nt (nt (nt hhs ah.size) O.grw.size) V.grw.size) ae.size) aq.size) aj.grw.size) ab.grw.size) ak.size) a9.grw.size), dk, d1, dl, d2, d3, au, (low1 em a9.grw (by omega)), a9.blk, iv, (fo.gn a9.grw)⟩
 have o3 := of_decide_eq_false ea
 refine Xv (Xr ?_)
 have f9 := (RowsD.lt (RowsD.ge ba ab.grw hH (by omega)) ak (by omega))
 have iw := ((du.gn ab.grw).gn ak)
 exact ⟨(am + 1 + 1 + 1), (⟨1 + ((E.th + G) % (ms.length : Int)), (mAt ms ((1 + ((E.th + G) % (ms.length : Int))) - 1).toNat).t.ve, E.rd, E.wr, E.wk⟩ : Rt), (by omega), (rbo (1 + ((E.th + G) % (ms.length : Int))) ((mAt ms ((1 + ((E.th + G) % (ms.length : Int))) - 1).toNat).t.ve) Z Z), f9, iw, (nt (nt (nt (nt (nt (nt (nt (nt hhs ah.size) O.grw.size) V.grw.size) ae.size) aq.size) aj.grw.size) ab.grw.size) ak.size), dk, d1, dl, d2, d3, au, em, (ab.blk.gn ak), iw, fo⟩
 have o4 := of_decide_eq_false aw
 iterate 3 refine Xi rfl rfl rfl aw rfl ?_
 refine Xj (v := vb false) Z aw Z Z (Xb (Qm Z Z (Xv (Xr ?_))))
 have ga := (RowsD.ge ba ab.grw hH (by omega))
 have ix := (du.gn ab.grw)
 exact ⟨(am + 1 + 1), (⟨1 + ((E.th + G) % (ms.length : Int)), (mAt ms ((1 + ((E.th + G) % (ms.length : Int))) - 1).toNat).t.ve, E.rd, E.wr, E.wk⟩ : Rt), (by omega), (rbo (1 + ((E.th + G) % (ms.length : Int))) ((mAt ms ((1 + ((E.th + G) % (ms.length : Int))) - 1).toNat).t.ve) Z Z), ga, ix, (nt (nt (nt (nt (nt (nt (nt hhs ah.size) O.grw.size) V.grw.size) ae.size) aq.size) aj.grw.size) ab.grw.size), dk, d1, dl, d2, d3, au, cl, ab.blk, ix, ((da.gn aj.grw).gn ab.grw)⟩
 have o5 := of_decide_eq_false d9
 refine Xv (Xr ?_)
 have gb := (RowsD.lt (RowsD.ge (RowsD.low (RowsD.lt hRows ah (by omega)) O.grw) V.grw hH (by omega)) ae (by omega))
 have iy := (((dt.grown0 O.grw).gn V.grw).gn ae)
 exact ⟨(am + 1), E, (by omega), (rbo (E.th) (E.ve) Z Z), gb, iy, (nt (nt (nt (nt hhs ah.size) O.grw.size) V.grw.size) ae.size), bk, di, bw, bx, dh, Z, cj, (V.blk.gn ae), iy, fm⟩
 have o6 := of_decide_eq_false av
 iterate 3 refine Xi rfl rfl rfl av rfl ?_
 refine Xj (v := vb false) Z av Z Z (Xb (Qm Z Z (Xv (Xr ?_))))
 have gc := (RowsD.ge (RowsD.low (RowsD.lt hRows ah (by omega)) O.grw) V.grw hH (by omega))
 have iz := ((dt.grown0 O.grw).gn V.grw)
 exact ⟨am, E, (by omega), (rbo (E.th) (E.ve) Z Z), gc, iz, (nt (nt (nt hhs ah.size) O.grw.size) V.grw.size), bk, di, bw, bx, dh, Z, cg, V.blk, iz, ((c9.grown0 O.grw).gn V.grw)⟩
 rintro ol ma ⟨p5, r5, pn, gw, hRows, hOt, hhs, dm, d4, bz, ca, cc, ie, jj, i0, px, l6⟩
 have po := gw.1; have pp := gw.2.1; have pq := gw.2.2.1; have pr := gw.2.2.2
 refine Xs ?_
 obtain ⟨n9, n5, dp, me, gl, mg⟩ := RowD.slot (RowsD.at hRows (lq i3 ms.length)) (by omega)
 have mb := hH _ (List.mem_of_getElem? (xg ms i3)) _ (Or.inl dp)
 refine Y8 (m := 7) (vals := [(104, .slice (pa Bt) ms.length ct), (105, vi (i3 : Int)), (106, pt Bt (i3 * 8)), (107, pt Bt (i3 * 8 + 5)), (108, .slice (mAt ms i3).sa (mAt ms i3).t.slots.length (mAt ms i3).sc), (109, vi (j : Int)), (110, .agg #[vi r5.th, vi r5.ve, vb r5.rd, vb r5.wr, vb r5.wk])]) (fun w' => ma.grownBy w' none) Qb (by kernel_rfl) (Yf _) ?_ ?_
 refine yl Z (fun _ _ k => Xc (v := .slice (pa Bt) ms.length ct) bz Z k) (yl Z (fun _ _ k => Xc (v := vi (i3 : Int)) ca Z k) (yl Z (fun _ _ k => X1 (o' := i3 * 8) Y7 Z Z (by omega) (by omega) (by omega) Z k) (yl Z (fun _ _ k => Xd (o' := i3 * 8 + 5) Qr Z Z Z k) ?_)))
 refine Yq Z (fun q2 cz => ?_) ?_
 have gf := (RowsD.low hRows cz)
 have mv := (RowsD.at gf (lq i3 ms.length)).ve
 exact Xh (v := .slice (mAt ms i3).sa (mAt ms i3).t.slots.length (mAt ms i3).sc) Jo Z ((Own.range Qf (hOt.grown0 cz) (xg ms i3)) 5 _ Z) Z (Xb ⟨Z, cz⟩)
 exact yl Z (fun _ _ k => Xc (v := vi (j : Int)) cc Z k) (yl Z (fun _ jr k => Xp (vs := [vi r5.th, vi r5.ve, vb r5.rd, vb r5.wr, vb r5.wk]) Yv ie Z ((i0.grown0 jr).rangeL 0 5 Z) Z k) Qd)
 intro q3 al
 refine X8 V1 Z Z dp (Nat.zero_add _) (by omega) (by omega) Z ?_
 have a8 := (gl.grown0 al)
 have bm : RB r5 := (rbo (r5.th) (r5.ve) Z Z)
 have dv := (hOt.grown0 al)
 have mq := G9 dv a8 (by decide)
 have i1 := (l6.grown0 al)
 have bn := (RowsD.low hRows al)
 refine W1 (z' := r5) Yv Z Z a8 (by omega) Z ?_
 intro q4 c8 ac
 refine Xb (Xr (Xa (Xp (vs := [vi r5.th, vi r5.ve, vb r5.rd, vb r5.wr, vb r5.wk]) Yv ie Z (((i0.grown0 al).gn ac).rangeL 0 5 Z) Z (Xm Td (Xf Z Xl) Z (Wt r5 _) ?_))))
 rintro _ q5 ⟨rfl, af⟩
 have cm := low0 (low1 (low0 jj al) ac (by omega)) af
 refine Yg (b' := !rightOk r5) Z Z Z (Xc (v := vb (!rightOk r5)) Z Z ?_)
 rcases X6 (!rightOk r5) with az | az
 have o7 := Q8 az
 refine Xe Z Z Z az (Xc (v := pt R 0) dm Z (Xe Z Z Z az (Xm Yt (Xf Z (Xf Z Xl)) Z (Yh p5 3 (by omega) _ R bs _ _ _ ((i1.gn ac).grown0 af) (by omega) (SlLt.low1 hs cm hlo) (by first | exact hb | exact fun b h => hb b (List.mem_of_mem_take h)) (by first | omega | (rw [List.length_take]; omega))) ?_)))
 rintro _ q6 ⟨i2, rfl, na, nb, fp, ap⟩
 have eo := grown_trans cm ap
 refine Xe Z Z Z az (Qe (q := decide (0 < i2)) Z Z Z Z (Xo (v := vb (decide (0 < i2))) Z az Z Z (Xb (Xu Z (fun eb => ?_) (fun eb => ?_)))))
 have o8 := of_decide_eq_true eb
 refine Xx (Xc (v := .slice (pa Bt) ms.length ct) bz Z (Xc (v := vi (i3 : Int)) ca Z (X1 (o' := i3 * 8) Y7 Z Z (by omega) (by omega) (by omega) Z (Xd (o' := i3 * 8 + 5) Qr Z Z Z ?_))))
 have fi := (((dv.gn ac).grown0 af).gn ap)
 have bp := (RowsD.lt (RowsD.low (RowsD.put bn c8 ac bm a8 (by decide)) af) ap (by omega))
 have mw := (RowsD.at bp (lq i3 ms.length)).ve
 refine Xh (v := .slice (mAt ms i3).sa (mAt ms i3).t.slots.length (mAt ms i3).sc) Jo Z ((Own.range Qf fi (xg ms i3)) 5 _ Z) Z (Xc (v := vi (j : Int)) cc Z (Yk (ps := []) (v := .agg #[vi 0, vi 0, vb false, vb false, vb false]) Xz (by kernel_rfl) Z ?_))
 obtain ⟨oa, n7, dq, mf, gm, mh⟩ := RowD.slot (RowsD.at bp (lq i3 ms.length)) (by omega)
 have mc := hH _ (List.mem_of_getElem? (xg ms i3)) _ (Or.inl dq)
 refine X8 V1 Z Z dq (Nat.zero_add _) (by omega) (by omega) Z ?_
 have bq := gm
 have fw : RB (⟨0, 0, false, false, false⟩ : Rt) := (rbo (0) (0) Z Z)
 have mr := G9 fi bq (by decide)
 refine W1 (z' := (⟨0, 0, false, false, false⟩ : Rt)) Yv Z Z bq (by omega) Z ?_
 intro q7 jy bd
 refine Xb (Ys (Xr (Xx (Xc (v := vi (j : Int)) cc Z (Yw (c := (j : Int) + 1) Z Z (by omega) (by omega) (by omega) Z (Xg (v := vi ((j : Int) + 1)) Z Z (Xb (Xr ?_))))))))
 have gg := (RowsD.put bp jy bd fw bq (by decide))
 have i4 := (fi.gn bd)
 exact ⟨(mAt ms i3).t.slots.length - (j + 1), by omega, (j + 1), (p5 + 1), Z, (by omega), (by omega), gg, i4, (nt (nt (nt (nt (nt hhs al.size) ac.size) af.size) ap.size) bd.size), Z, dm, d4, bz, ca, (low1 eo bd (by omega)), i4, (fp.gn bd)⟩
 have o9 := of_decide_eq_false eb
 refine Xv (Ys (Xr (Xx (Xc (v := vi (j : Int)) cc Z (Yw (c := (j : Int) + 1) Z Z (by omega) (by omega) (by omega) Z (Xg (v := vi ((j : Int) + 1)) Z Z (Xb (Xr ?_))))))))
 have gh := (RowsD.lt (RowsD.low (RowsD.put bn c8 ac bm a8 (by decide)) af) ap (by omega))
 have i5 := (((dv.gn ac).grown0 af).gn ap)
 exact ⟨(mAt ms i3).t.slots.length - (j + 1), by omega, (j + 1), (p5 + 1), Z, (by omega), (by omega), gh, i5, (nt (nt (nt (nt hhs al.size) ac.size) af.size) ap.size), Z, dm, d4, bz, ca, eo, i5, fp⟩
 have pb := Qp az
 iterate 3 refine Xi rfl rfl rfl az rfl ?_
 refine Xj (v := vb false) Z az Z Z (Xb (Qm Z Z (Xv (Ys (Xr (Xx (Xc (v := vi (j : Int)) cc Z (Yw (c := (j : Int) + 1) Z Z (by omega) (by omega) (by omega) Z (Xg (v := vi ((j : Int) + 1)) Z Z (Xb (Xr ?_)))))))))))
 have gi := (RowsD.low (RowsD.put bn c8 ac bm a8 (by decide)) af)
 have i6 := ((dv.gn ac).grown0 af)
 exact ⟨(mAt ms i3).t.slots.length - (j + 1), by omega, (j + 1), p5, Z, (by omega), (by omega), gi, i6, (nt (nt (nt hhs al.size) ac.size) af.size), Z, dm, d4, bz, ca, cm, i6, ((i1.gn ac).grown0 af)⟩
 have pc := of_decide_eq_false d8
 exact Y9 (Y6 (Y6 (Jd (Ys (Xr (Xx (Xc (v := vi (i3 : Int)) bx Z (Yw (c := (i3 : Int) + 1) Z Z (by omega) (by omega) (by omega) Z (Xg (v := vi ((i3 : Int) + 1)) Z Z (Xb (Xr (⟨ms.length - (i3 + 1), by omega, (i3 + 1), p4, Z, (by omega), (by omega), hRows, hOt, hhs, Z, bk, di, bw, cf, hOt, iq⟩))))))))))))
 have pd := of_decide_eq_false d7
 refine Y9 (Y6 (Y6 (Jd (Xr (Xs (Xa (Xc (v := pt R 0) dg Z (Xm Yt (Xf Z (Xf Z Xl)) Z (Yh p3 30 (by omega) _ R bs _ _ _ ip (by omega) (SlLt.low1 hs ce hlo) (by first | exact hb | exact fun b h => hb b (List.mem_of_mem_take h)) (by first | omega | (rw [List.length_take]; omega))) ?_))))))))
 rintro _ q8 ⟨l7, rfl, nc, nd, fq, be⟩
 have cn := grown_trans ce be
 refine Xw (q := decide (l7 = 0)) Z Z Z Z (Xb (Xu Z (fun ed => ?_) (fun ed => ?_)))
 have pe := of_decide_eq_true ed
 refine Xx (Xc (v := .slice (pa Bt) ms.length ct) bj Z (Xc (v := pt R 0) dg Z (Xc (v := .slice (pa Bt) ms.length ct) bj Z (Yj (by kernel_rfl) Z Z (Xm Yt (Xf Z (Xf Z Xl)) Z (Yh (p3 + 1) (ms.length : Int) (by omega) _ R bs _ _ _ fq (by omega) (SlLt.low1 hs cn hlo) (by first | exact hb | exact fun b h => hb b (List.mem_of_mem_take h)) (by first | omega | (rw [List.length_take]; omega))) ?_)))))
 rintro _ q9 ⟨J, rfl, ne, nf, j4, cv⟩
 have ep := grown_trans cn cv
 refine Xc (v := pt R 0) dg Z (Xm Yt (Xf Z (Xf Z Xl)) Z (Yh (p3 + 1 + 1) 5 (by omega) _ R bs _ _ _ j4 (by omega) (SlLt.low1 hs ep hlo) (by first | exact hb | exact fun b h => hb b (List.mem_of_mem_take h)) (by first | omega | (rw [List.length_take]; omega))) ?_)
 rintro _ ra ⟨dw, rfl, ng, nh, j5, cw⟩
 refine Yw (c := 1 + dw) Z Z (by omega) (by omega) (by omega) Z (X1 (o' := (J).toNat * 8) Y7 Z Z (by omega) (by omega) (by omega) Z (Xd (o' := (J).toNat * 8) Yl Z Z Z ?_))
 have i7 := (((hOt.gn be).gn cv).gn cw)
 have dn := (RowsD.lt (RowsD.lt (RowsD.lt hRows be (by omega)) cv (by omega)) cw (by omega))
 have my := (RowsD.at dn (lq (J).toNat ms.length)).ve
 refine J4 (g := MTh.cells) (j := 0) (z := (mAt ms (J).toNat)) (z' := (⟨⟨1 + dw, (mAt ms (J).toNat).t.lab, (mAt ms (J).toNat).t.ve, (mAt ms (J).toNat).t.num, (mAt ms (J).toNat).t.slots, (mAt ms (J).toNat).t.queue, (mAt ms (J).toNat).t.to⟩, (mAt ms (J).toNat).sa, (mAt ms (J).toNat).sc, (mAt ms (J).toNat).qa, (mAt ms (J).toNat).qc⟩ : MTh)) (v := vi (1 + dw)) X3 Z Z Z Qf i7 (xg ms (J).toNat) (by omega) Z Z ?_
 intro rb ji cy
 refine Xb (Xr (Xa (Xc (v := .slice (pa Bt) ms.length ct) bj Z (Xg (v := .slice (pa Bt) ms.length ct) Z Z (Xb (Xq ?_))))))
 have gj := (RowsD.typ dn cy i7 (by decide) (by decide))
 obtain ⟨kc, eu, j1, jz⟩ := RowsD.tab _ (RowsD.setk (i := (J).toNat) (m' := (⟨⟨1 + dw, (mAt ms (J).toNat).t.lab, (mAt ms (J).toNat).t.ve, (mAt ms (J).toNat).t.num, (mAt ms (J).toNat).t.slots, (mAt ms (J).toNat).t.queue, (mAt ms (J).toNat).t.to⟩, (mAt ms (J).toNat).sa, (mAt ms (J).toNat).sc, (mAt ms (J).toNat).qa, (mAt ms (J).toNat).qc⟩ : MTh)) gj (by omega) ⟨rfl, rfl, rfl⟩ ⟨rfl, rfl, rfl⟩ rfl)
 have jw := congrArg List.length eu
 simp only [List.length_map, List.length_set] at jw
 have fa := ji
 rw [← Lg eu] at fa
 refine ⟨.slice (pa Bt) ms.length ct, Yy Z Z, Bt, ct, kc, (p3 + 1 + 1 + 1), ?_, ⟨SlG.own Qf fa hlBt, j1⟩, jz, by omega, by omega, by omega, (j5.gn cy), (low1 (grown_trans ep cw) cy (by omega))⟩
 show Value.slice _ _ _ = Value.slice _ _ _
 congr 1; first | omega | (simp only [List.length_set]; omega)
 have pf := of_decide_eq_false ed
 refine Xv (Xr (Xa (Xc (v := .slice (pa Bt) ms.length ct) bj Z (Xg (v := .slice (pa Bt) ms.length ct) Z Z (Xb (Xq ?_))))))
 have gk := (RowsD.lt hRows be (by omega))
 obtain ⟨kc, eu, j1, jz⟩ := RowsD.tab _ gk
 have jw := congrArg List.length eu
 simp only [List.length_map, List.length_set] at jw
 have fa := (hOt.gn be)
 rw [← Lg eu] at fa
 refine ⟨.slice (pa Bt) ms.length ct, Yy Z Z, Bt, ct, kc, (p3 + 1), ?_, ⟨SlG.own Qf fa hlBt, j1⟩, jz, by omega, by omega, by omega, fq, cn⟩
 show Value.slice _ _ _ = Value.slice _ _ _
 congr 1; first | omega | (simp only [List.length_set]; omega)
theorem Pn (p : Int) (hp : 0 ≤ p ∧ p ≤ 999999980000) (lo R : Nat) (bs : List Int) (a : Option Addr) (c : Nat) (w : World) (hR : Blk w R 63 #[.slice a bs.length c, vi p]) (hlo : lo ≤ R) (hs : SlLt lo w a 1 (bs.map bcell)) (hb : ∀ b ∈ bs, 0 ≤ b ∧ b ≤ 255) (hn : bs.length ≤ 1048576) : CallsR Tryd.prog 13 #[pt R 0] w (fun v w' => ∃ (B cap : Nat) (ms : List MTh) (p' : Int), v = .slice (pa B) ms.length cap ∧ TabG w.heap.size w' (pa B) ms ∧ Small ms ∧ (3 ≤ ms.length ∧ ms.length ≤ 8) ∧ p ≤ p' ∧ p' ≤ p + 4000 ∧ Blk w' R 63 #[.slice a bs.length c, vi p'] ∧ w.grownBy w' (some R)) := by
 refine X0 (n := 24) Tryd.func13 Z Tryd.ntmps13 Z ?_
 have ba := World.grownBy.refl w (some R)
 have hRlt := hR.lt
 refine Xa (Xg (v := .slice none 0 0) Z Z (Xb (Xa (Xc (v := pt R 0) Z Z (Xm Ta (Xf Z Xl) Z (Wl p (by omega) _ R bs _ _ _ hR (by omega) (SlLt.low1 hs ba hlo) (by first | exact hb | exact fun b h => hb b (List.mem_of_mem_take h)) (by first | omega | (rw [List.length_take]; omega))) ?_)))))
 rintro _ cc ⟨aw, ad, an, bg, rfl, ap, ah, au, bn, bp, bd, bb⟩
 have bi := ah.len
 refine Xg (v := .slice (pa aw) an.length ad) Z Z (Xb (Xs (Xa (Xg (v := vi 0) Z Z (Xb (Ya (Qj (fun mm f' w' => ∃ (i : Nat) (p1 : Int) (B : Nat) (cap : Nat) (ms : List MTh), mm = 4 - i ∧ i ≤ 4 ∧ (p ≤ p1 ∧ p1 ≤ p + 600 + 601 * (i : Int)) ∧ TabG w.heap.size w' (pa B) ms ∧ Small ms ∧ (3 ≤ ms.length ∧ ms.length ≤ 8) ∧ f' 3 = .slice (pa B) ms.length cap ∧ f' 4 = vi (i : Int) ∧ f' 0 = pt R 0 ∧ f' 2 = .slice none 0 0 ∧ w.grownBy w' (some R) ∧ Blk w' R 63 #[.slice a bs.length c, vi p1]) (4 - 0) ⟨0, bg, aw, ad, an, Z, (Nat.zero_le _), (by omega), (TabG.mono ap ba.size), ah, au, Z, Z, Z, Z, (grown_trans ba bb), bd⟩ ?_)))))))
 rintro mm bt cd ⟨i, p1, B, cap, ms, bm, hi, hpp, hTG, hTS, hTn, af, a8, ak, bf, V, a9⟩
 have ar := hTS.len
 refine Xs (Xa (Xc (v := vi (i : Int)) a8 Z (Qh (q := decide ((i : Int) < 4)) Z Z Z Z (Xc (v := vb (decide ((i : Int) < 4))) Z Z ?_))))
 rcases X6 (decide ((i : Int) < 4)) with E | E
 have bu := of_decide_eq_true E
 refine Xe Z Z Z E (Xc (v := pt R 0) ak Z (Xe Z Z Z E (Xm Yt (Xf Z (Xf Z Xl)) Z (Yh p1 16 (by omega) _ R bs _ _ _ a9 (by omega) (SlLt.low1 hs V hlo) (by first | exact hb | exact fun b h => hb b (List.mem_of_mem_take h)) (by first | omega | (rw [List.length_take]; omega))) ?_)))
 rintro _ ce ⟨aj, rfl, bk, bl, ac, ab⟩
 have am := grown_trans V ab
 refine Xe Z Z Z E (Qe (q := decide (0 < aj)) Z Z Z Z (Xo (v := vb (decide (0 < aj))) Z E Z Z (Xc (v := vb (decide (0 < aj))) Z Z ?_)))
 rcases X6 (decide (0 < aj)) with G | G
 have bv := of_decide_eq_true G
 refine Xe Z Z Z G (Xc (v := .slice (pa B) ms.length cap) af Z (Xe Z Z Z G ?_))
 have ag := (TabG.lt hTG ab (by omega))
 refine Xm Sg (Xf Z Xl) Z (Vc  _ ms _ _ (TabG.at ag) ar (by omega)) ?_
 rintro _ cf ⟨rfl, O⟩
 have J := low0 am O
 refine Xe Z Z Z G (Yg (b' := !tableOk (tabT ms)) Z Z Z (Xo (v := vb (!tableOk (tabT ms))) Z G Z Z (Xb (Xu Z (fun al => ?_) (fun al => ?_)))))
 have bw := Q8 al
 refine Xv (Xr (Xs (Ya (Xx (Xc (v := pt R 0) ak Z (Xm Ta (Xf Z Xl) Z (Wl (p1 + 1) (by omega) _ R bs _ _ _ (ac.grown0 O) (by omega) (SlLt.low1 hs J hlo) (by first | exact hb | exact fun b h => hb b (List.mem_of_mem_take h)) (by first | omega | (rw [List.length_take]; omega))) ?_))))))
 rintro _ cg ⟨az, ae, ao, bh, rfl, aq, ai, av, bq, br, be, bc⟩
 have bj := ai.len
 exact Xg (v := .slice (pa az) ao.length ae) Z Z (Xb (Ys (Xr (Xx (Xc (v := vi (i : Int)) a8 Z (Yw (c := (i : Int) + 1) Z Z (by omega) (by omega) (by omega) Z (Xg (v := vi ((i : Int) + 1)) Z Z (Xb (Xr (⟨4 - (i + 1), by omega, (i + 1), bh, az, ae, ao, Z, (by omega), (by omega), (TabG.mono aq J.size), ai, av, Z, Z, ak, bf, (grown_trans J bc), be⟩))))))))))
 have bx := Qp al
 exact Y9 (Y6 (Y6 (Jd (Xr (Xa (Xc (v := .slice (pa B) ms.length cap) af Z (Xg (v := .slice (pa B) ms.length cap) Z Z (Xb (Xq (⟨.slice (pa B) ms.length cap, Yy Z Z, B, cap, ms, (p1 + 1), Z, (TabG.low ag O), hTS, hTn, by omega, by omega, (ac.grown0 O), J⟩))))))))))
 have bz := of_decide_eq_false G
 iterate 3 refine Xi rfl rfl rfl G rfl ?_
 refine Xj (v := vb false) Z G Z Z (Xb (Qm Z Z (Y9 (Y6 (Y6 (Jd (Xr (Xa (Xc (v := .slice (pa B) ms.length cap) af Z (Xg (v := .slice (pa B) ms.length cap) Z Z (Xb (Xq ?_))))))))))))
 exact ⟨.slice (pa B) ms.length cap, Yy Z Z, B, cap, ms, (p1 + 1), Z, (TabG.lt hTG ab (by omega)), hTS, hTn, by omega, by omega, ac, am⟩
 have ca := of_decide_eq_false E
 iterate 3 refine Xi rfl rfl rfl E rfl ?_
 refine Xj (v := vb false) Z E Z Z (Xc (v := vb false) Z Z ?_)
 iterate 3 refine Xi rfl rfl rfl rfl rfl ?_
 refine Xj (v := vb false) Z Z Z Z (Xb (Qm Z Z (Y9 (Y6 (Y6 (Jd (Xr (Xa (Xc (v := .slice (pa B) ms.length cap) af Z (Xg (v := .slice (pa B) ms.length cap) Z Z (Xb (Xq ?_))))))))))))
 exact ⟨.slice (pa B) ms.length cap, Yy Z Z, B, cap, ms, p1, Z, hTG, hTS, hTn, by omega, by omega, a9, V⟩
end Go.Proofs.YtjpgffmkcmcolabDoor
end
section
namespace Go.Dw
def sees (ts : List Th) (run thing : Int) : Bool := flow (thAt ts thing).lab (thAt ts run).lab
def touches (ts : List Th) (run thing : Int) : Bool := flow (thAt ts run).lab (thAt ts thing).lab
theorem Rz {ms : List MTh} {run thing : Int} : flow (mAt ms (thing - 1).toNat).t.lab (mAt ms (run - 1).toNat).t.lab = sees (tabT ms) run thing := by unfold sees; rw [J9, J9]
theorem Gp {ms : List MTh} {run thing : Int} : flow (mAt ms (run - 1).toNat).t.lab (mAt ms (thing - 1).toNat).t.lab = touches (tabT ms) run thing := by unfold touches; rw [J9, J9]
def kindFor (c k : Int) : Bool :=
  if c = 1 ∨ c = 2 then decide (k = 1) else if c = 4 ∨ c = 5 then decide (k = 2) else if c = 6 ∨ c = 7 then decide (k = 4) else if c = 9 then decide (k = 5) else (decide (k = 1) || decide (k = 2)) || decide (k = 4)
def need0 (c : Int) : Bool := if c = 1 ∨ c = 4 then true else if c = 7 then true else false
def need1 (c : Int) : Bool := if c = 1 ∨ c = 4 then false else true
def live (ts : List Th) (r : Rt) : Bool := inR r.th 1 (ts.length : Int) && decide ((thAt ts r.th).ve = r.ve)
theorem Rr {ms : List MTh} {r : Rt} : (inR r.th 1 (ms.length : Int) && decide ((mAt ms (r.th - 1).toNat).t.ve = r.ve)) = live (tabT ms) r := by unfold live; rw [J9, Q9]
def slotAt (ts : List Th) (k j : Int) : Rt := rAt (thAt ts k).slots j.toNat
theorem Ko {ms : List MTh} {k j : Int} : rAt (mAt ms (k - 1).toNat).t.slots j.toNat = slotAt (tabT ms) k j := by unfold slotAt; rw [J9]
def chk1 (ts : List Th) (q : Cl) (r : Rt) : Bool := (((decide (r.th = 0)) || (!kindFor q.kind (thAt ts r.th).kind)) || (need0 q.kind && !r.rd)) || (need1 q.kind && !r.wr)
def chk1m (ms : List MTh) (q : Cl) (r : Rt) : Bool := (((decide (r.th = 0)) || (!kindFor q.kind (mAt ms (r.th - 1).toNat).t.kind)) || (need0 q.kind && !r.rd)) || (need1 q.kind && !r.wr)
theorem G0 {ms : List MTh} {q : Cl} {r : Rt} : chk1m ms q r = chk1 (tabT ms) q r := by unfold chk1m chk1; rw [J9]
def chk2 (ts : List Th) (q : Cl) (r : Rt) : Bool := (need0 q.kind && !sees ts q.run r.th) || (need1 q.kind && !touches ts q.run r.th)
def chk3 (ts : List Th) (q : Cl) (r : Rt) : Bool := sees ts q.run r.th && !live ts r
def check1 (ts : List Th) (q : Cl) : Int :=
  if q.kind = 3 then 0 else if chk1 ts q (slotAt ts q.run q.a) = true then -1 else if chk2 ts q (slotAt ts q.run q.a) = true then -2 else if chk3 ts q (slotAt ts q.run q.a) = true then -3 else 0
section
variable {ms : List MTh} {q : Cl}
theorem Wc (h : decide (q.kind = 3) = true) : (0 : Int) = check1 (tabT ms) q := by unfold check1; rw [if_pos (of_decide_eq_true h)]
theorem Gz (h : decide (q.kind = 3) = false) (h1 : chk1m ms q (rAt (mAt ms (q.run - 1).toNat).t.slots q.a.toNat) = true) : (-1 : Int) = check1 (tabT ms) q := by
  rw [G0, Ko] at h1
  unfold check1
  rw [if_neg (of_decide_eq_false h), if_pos h1]
theorem Nt (h : decide (q.kind = 3) = false) (h1 : chk1m ms q (rAt (mAt ms (q.run - 1).toNat).t.slots q.a.toNat) = false) (h2 : chk2 (tabT ms) q (rAt (mAt ms (q.run - 1).toNat).t.slots q.a.toNat) = true) : (-2 : Int) = check1 (tabT ms) q := by
  rw [G0, Ko] at h1
  rw [Ko] at h2
  unfold check1
  rw [if_neg (of_decide_eq_false h), if_neg (by rw [h1]; exact Bool.false_ne_true), if_pos h2]
theorem Nu (h : decide (q.kind = 3) = false) (h1 : chk1m ms q (rAt (mAt ms (q.run - 1).toNat).t.slots q.a.toNat) = false) (h2 : chk2 (tabT ms) q (rAt (mAt ms (q.run - 1).toNat).t.slots q.a.toNat) = false) (h3 : chk3 (tabT ms) q (rAt (mAt ms (q.run - 1).toNat).t.slots q.a.toNat) = true) : (-3 : Int) = check1 (tabT ms) q := by
  rw [G0, Ko] at h1
  rw [Ko] at h2 h3
  unfold check1
  rw [if_neg (of_decide_eq_false h), if_neg (by rw [h1]; exact Bool.false_ne_true), if_neg (by rw [h2]; exact Bool.false_ne_true), if_pos h3]
theorem Ns (h : decide (q.kind = 3) = false) (h1 : chk1m ms q (rAt (mAt ms (q.run - 1).toNat).t.slots q.a.toNat) = false) (h2 : chk2 (tabT ms) q (rAt (mAt ms (q.run - 1).toNat).t.slots q.a.toNat) = false) (h3 : chk3 (tabT ms) q (rAt (mAt ms (q.run - 1).toNat).t.slots q.a.toNat) = false) : (0 : Int) = check1 (tabT ms) q := by
  rw [G0, Ko] at h1
  rw [Ko] at h2 h3
  unfold check1
  rw [if_neg (of_decide_eq_false h), if_neg (by rw [h1]; exact Bool.false_ne_true), if_neg (by rw [h2]; exact Bool.false_ne_true), if_neg (by rw [h3]; exact Bool.false_ne_true)]
theorem Lh (h : tableOk (tabT ms) = true) {i j : Nat} (hi : i < ms.length) (hj : j < (mAt ms i).t.slots.length) : 0 ≤ (rAt (mAt ms i).t.slots j).th ∧ (rAt (mAt ms i).t.slots j).th ≤ (ms.length : Int) ∧ (rAt (mAt ms i).t.slots j).th ≤ 8 ∧ rightOk (rAt (mAt ms i).t.slots j) = true := by
  have h1 := N2 h hi
  unfold rowOk at h1
  rw [Bool.and_eq_true] at h1
  have hr := List.all_eq_true.1 h1.2 _ (List.mem_of_getElem? (Kb hj))
  have hok := List.all_eq_true.1 (Wx (Bool.and_eq_true_iff.1 h1.1).1) _ (List.mem_of_getElem? (Kb hj))
  have h8 := Lc hok
  refine ⟨h8.1, ?_, h8.2, hok⟩
  unfold rightTo at hr
  rw [Bool.or_eq_true] at hr
  rcases hr with h0 | h0
  · have := of_decide_eq_true h0
    omega
  · have := Yu.1 (Bool.and_eq_true_iff.1 h0).1
    rw [Q9] at this
    omega
theorem Js {k kd : Int} (h : kindAt (tabT ms) k kd = true) : (1 ≤ k ∧ k ≤ (ms.length : Int)) ∧ (mAt ms (k - 1).toNat).t.kind = kd := by
  rw [← Ua] at h
  rw [Bool.and_eq_true] at h
  exact ⟨Yu.1 h.1, of_decide_eq_true h.2⟩
theorem N4 {t : Th} (h : thingOk t = true) (hk : t.kind = 2 ∨ t.kind = 3) : t.slots.length = 4 := by
  have h5 := (Qg h).2.2.2.2.1
  unfold slotsOk at h5
  rw [if_pos hk] at h5
  exact of_decide_eq_true (Bool.and_eq_true_iff.1 h5).1
theorem Vy (hT : tableOk (tabT ms) = true) {k : Int} (h : kindAt (tabT ms) k 3 = true) : (mAt ms (k - 1).toNat).t.slots.length = 4 := by
  have h1 := Js h
  exact N4 (Gm hT (by omega)) (Or.inr h1.2)
end
end Go.Dw
end
section
namespace Go.Proofs.YtjpgffmkcmcolabDoor
open Go.RowKit Go.Dw
set_option maxRecDepth 100000
set_option maxHeartbeats 4000000
set_option linter.unusedSimpArgs false
set_option linter.unusedVariables false
theorem S6 : goFn Tryd.prog 17 = true := by kernel_rfl
theorem Mf : goFn Tryd.prog 29 = true := by kernel_rfl
theorem Wh : goFn Tryd.prog 30 = true := by kernel_rfl
theorem Tf : goFn Tryd.prog 57 = true := by kernel_rfl
theorem Lr : zeroTy Tryd.prog 25 = some (.agg #[.int .i64 0, .int .i64 0, .int .i64 0, .int .i64 0, .int .i64 0]) := by kernel_rfl
theorem Pk (run thing : Int) (w : World) (ms : List MTh) (a : Option Addr) (c : Nat) (ht : TabAt w a ms) (hlen : TabLen ms) (hn : ms.length ≤ 1048576) (hT : tableOk (tabT ms) = true) (hr : 1 ≤ run ∧ run ≤ (ms.length : Int)) (hth : 1 ≤ thing ∧ thing ≤ (ms.length : Int)) : CallsR Tryd.prog 41 #[.slice a ms.length c, vi run, vi thing] w (fun v w' => v = vb (sees (tabT ms) run thing) ∧ w.grownBy w' none) := by
 refine X0 (n := 20) Tryd.func41 Z Tryd.ntmps41 Z ?_
 have ac := World.grownBy.refl w none
 refine Xa (Xg (v := vb false) Z Z (Xb (Xs ?_)))
 obtain ⟨J, ap, E, V, aj, al⟩ := SlAt.at (TabAt.low ht ac).1 (Yi (xg ms (thing - 1).toNat))
 have an := TabLen.at hlen (xg ms (thing - 1).toNat)
 obtain ⟨O, aq, G, ab, ak, am⟩ := SlAt.at (TabAt.low ht ac).1 (Yi (xg ms (run - 1).toNat))
 have ao := TabLen.at hlen (xg ms (run - 1).toNat)
 refine Y8 (m := 12) (vals := [(7, .slice a ms.length c), (8, vi thing), (9, vi (thing - 1)), (10, pt J E), (11, pt J (E + 1)), (12, .agg #[vi (mj ms thing).t.lab.s, vi (mj ms thing).t.lab.v]), (13, .slice a ms.length c), (14, vi run), (15, vi (run - 1)), (16, pt O G), (17, pt O (G + 1)), (18, .agg #[vi (mj ms run).t.lab.s, vi (mj ms run).t.lab.v])]) (fun w' => w.grownBy w' none) Qb (by kernel_rfl) (Yf _) ?_ ?_
 refine yl Z (fun _ _ k => Xc (v := .slice a ms.length c) Z Z k) (yl Z (fun _ _ k => Xc (v := vi thing) Z Z k) (yl Z (fun _ _ k => Y0 (c := thing - 1) Z Z (by omega) (by omega) (by omega) Z k) (yl Z (fun _ _ k => X8 Y7 Z Z V aj (by omega) (by omega) Z k) (yl Z (fun _ _ k => Xd (o' := E + 1) Ka Z Z Z k) (yl Z (fun _ ae k => Xp (vs := [vi (mj ms thing).t.lab.s, vi (mj ms thing).t.lab.v]) Ji Z Z (Qi (Yo al ae) 1 2 Z) Z k) (yl Z (fun _ _ k => Xc (v := .slice a ms.length c) Z Z k) (yl Z (fun _ _ k => Xc (v := vi run) Z Z k) (yl Z (fun _ _ k => Y0 (c := run - 1) Z Z (by omega) (by omega) (by omega) Z k) (yl Z (fun _ _ k => X8 Y7 Z Z ab ak (by omega) (by omega) Z k) (yl Z (fun _ _ k => Xd (o' := G + 1) Ka Z Z Z k) ?_))))))))))
 exact yl Z (fun _ af k => Xp (vs := [vi (mj ms run).t.lab.s, vi (mj ms run).t.lab.v]) Ji Z Z (Qi (Yo am af) 1 2 Z) Z k) Qd
 intro ar ag
 have ah : labelOk (mj ms thing).t.lab = true := Kw hT (lq (thing - 1).toNat ms.length)
 have ai : labelOk (mj ms run).t.lab = true := Kw hT (lq (run - 1).toNat ms.length)
 refine Xm Tf (Xf Z (Xf Z Xl)) Z (H4 (mj ms thing).t.lab (mj ms run).t.lab ah ai _) ?_
 rintro _ au ⟨rfl, ad⟩
 refine Xg (v := vb (flow (mj ms thing).t.lab (mj ms run).t.lab)) Z Z (Xb (Xr (Xq (⟨vb (flow (mj ms thing).t.lab (mj ms run).t.lab), Yy Z Z, ?_, (low0 (low0 ac ag) ad)⟩))))
 exact cB Rz
theorem Ub (run thing : Int) (w : World) (ms : List MTh) (a : Option Addr) (c : Nat) (ht : TabAt w a ms) (hlen : TabLen ms) (hn : ms.length ≤ 1048576) (hT : tableOk (tabT ms) = true) (hr : 1 ≤ run ∧ run ≤ (ms.length : Int)) (hth : 1 ≤ thing ∧ thing ≤ (ms.length : Int)) : CallsR Tryd.prog 42 #[.slice a ms.length c, vi run, vi thing] w (fun v w' => v = vb (touches (tabT ms) run thing) ∧ w.grownBy w' none) := by
 refine X0 (n := 20) Tryd.func42 Z Tryd.ntmps42 Z ?_
 have ac := World.grownBy.refl w none
 refine Xa (Xg (v := vb false) Z Z (Xb (Xs ?_)))
 obtain ⟨J, ap, E, V, aj, al⟩ := SlAt.at (TabAt.low ht ac).1 (Yi (xg ms (run - 1).toNat))
 have an := TabLen.at hlen (xg ms (run - 1).toNat)
 obtain ⟨O, aq, G, ab, ak, am⟩ := SlAt.at (TabAt.low ht ac).1 (Yi (xg ms (thing - 1).toNat))
 have ao := TabLen.at hlen (xg ms (thing - 1).toNat)
 refine Y8 (m := 12) (vals := [(7, .slice a ms.length c), (8, vi run), (9, vi (run - 1)), (10, pt J E), (11, pt J (E + 1)), (12, .agg #[vi (mj ms run).t.lab.s, vi (mj ms run).t.lab.v]), (13, .slice a ms.length c), (14, vi thing), (15, vi (thing - 1)), (16, pt O G), (17, pt O (G + 1)), (18, .agg #[vi (mj ms thing).t.lab.s, vi (mj ms thing).t.lab.v])]) (fun w' => w.grownBy w' none) Qb (by kernel_rfl) (Yf _) ?_ ?_
 refine yl Z (fun _ _ k => Xc (v := .slice a ms.length c) Z Z k) (yl Z (fun _ _ k => Xc (v := vi run) Z Z k) (yl Z (fun _ _ k => Y0 (c := run - 1) Z Z (by omega) (by omega) (by omega) Z k) (yl Z (fun _ _ k => X8 Y7 Z Z V aj (by omega) (by omega) Z k) (yl Z (fun _ _ k => Xd (o' := E + 1) Ka Z Z Z k) (yl Z (fun _ ae k => Xp (vs := [vi (mj ms run).t.lab.s, vi (mj ms run).t.lab.v]) Ji Z Z (Qi (Yo al ae) 1 2 Z) Z k) (yl Z (fun _ _ k => Xc (v := .slice a ms.length c) Z Z k) (yl Z (fun _ _ k => Xc (v := vi thing) Z Z k) (yl Z (fun _ _ k => Y0 (c := thing - 1) Z Z (by omega) (by omega) (by omega) Z k) (yl Z (fun _ _ k => X8 Y7 Z Z ab ak (by omega) (by omega) Z k) (yl Z (fun _ _ k => Xd (o' := G + 1) Ka Z Z Z k) ?_))))))))))
 exact yl Z (fun _ af k => Xp (vs := [vi (mj ms thing).t.lab.s, vi (mj ms thing).t.lab.v]) Ji Z Z (Qi (Yo am af) 1 2 Z) Z k) Qd
 intro ar ag
 have ah : labelOk (mj ms run).t.lab = true := Kw hT (lq (run - 1).toNat ms.length)
 have ai : labelOk (mj ms thing).t.lab = true := Kw hT (lq (thing - 1).toNat ms.length)
 refine Xm Tf (Xf Z (Xf Z Xl)) Z (H4 (mj ms run).t.lab (mj ms thing).t.lab ah ai _) ?_
 rintro _ au ⟨rfl, ad⟩
 refine Xg (v := vb (flow (mj ms run).t.lab (mj ms thing).t.lab)) Z Z (Xb (Xr (Xq (⟨vb (flow (mj ms run).t.lab (mj ms thing).t.lab), Yy Z Z, ?_, (low0 (low0 ac ag) ad)⟩))))
 exact cB Gp
theorem J7 (q k : Int) (w : World) : CallsR Tryd.prog 30 #[vi q, vi k] w (fun v w' => v = vb (kindFor q k) ∧ w.grownBy w' none) := by
 refine X0 (n := 35) Tryd.func30 Z Tryd.ntmps30 Z ?_
 have ai := World.grownBy.refl w none
 refine Xa (Xg (v := vb false) Z Z (Xb (Xs (Xa (Xc (v := vi q) Z Z (Xb (Ya (Xs (Xa (Xw (q := decide (q = 1)) Z Z Z Z (Xg (v := vb (decide (q = 1))) Z Z (Xb ?_))))))))))))
 refine Xu Z (fun J => ?_) (fun J => ?_)
 have an := of_decide_eq_true J
 refine Xv (Xr (Y3 Z J (Xa (Xc (v := vi k) Z Z (Xw (q := decide (k = 1)) Z Z Z Z (Xg (v := vb (decide (k = 1))) Z Z (Xb (Xq (Y5 (Ye (⟨vb (decide (k = 1)), Yy Z Z, ?_, ai⟩)))))))))))
 · first | (simp [kindFor, an]; done) | (unfold kindFor; repeat (first | rw [if_pos (by omega)] | rw [if_neg (by omega)]))
 have O := of_decide_eq_false J
 refine Xx (Xw (q := decide (q = 2)) Z Z Z Z (Xg (v := vb (decide (q = 2))) Z Z (Xb (Xr (Xu Z (fun ac => ?_) (fun ac => ?_))))))
 have ao := of_decide_eq_true ac
 refine Xa (Xc (v := vi k) Z Z (Xw (q := decide (k = 1)) Z Z Z Z (Xg (v := vb (decide (k = 1))) Z Z (Xb (Xq (Y5 (Ye (⟨vb (decide (k = 1)), Yy Z Z, ?_, ai⟩))))))))
 · first | (simp [kindFor, O, ao]; done) | (unfold kindFor; repeat (first | rw [if_pos (by omega)] | rw [if_neg (by omega)]))
 have ad := of_decide_eq_false ac
 refine Xs (Xa (Xw (q := decide (q = 4)) Z Z Z Z (Xg (v := vb (decide (q = 4))) Z Z (Xb (Xu Z (fun V => ?_) (fun V => ?_))))))
 have ap := of_decide_eq_true V
 refine Xv (Xr (Y3 Z V (Xa (Xc (v := vi k) Z Z (Xw (q := decide (k = 2)) Z Z Z Z (Xg (v := vb (decide (k = 2))) Z Z (Xb (Xq (Y5 (Ye (⟨vb (decide (k = 2)), Yy Z Z, ?_, ai⟩)))))))))))
 · first | (simp [kindFor, O, ad, ap]; done) | (unfold kindFor; repeat (first | rw [if_pos (by omega)] | rw [if_neg (by omega)]))
 have ah := of_decide_eq_false V
 refine Xx (Xw (q := decide (q = 5)) Z Z Z Z (Xg (v := vb (decide (q = 5))) Z Z (Xb (Xr (Xu Z (fun ae => ?_) (fun ae => ?_))))))
 have aq := of_decide_eq_true ae
 refine Xa (Xc (v := vi k) Z Z (Xw (q := decide (k = 2)) Z Z Z Z (Xg (v := vb (decide (k = 2))) Z Z (Xb (Xq (Y5 (Ye (⟨vb (decide (k = 2)), Yy Z Z, ?_, ai⟩))))))))
 · first | (simp [kindFor, O, ad, ah, aq]; done) | (unfold kindFor; repeat (first | rw [if_pos (by omega)] | rw [if_neg (by omega)]))
 have aj := of_decide_eq_false ae
 refine Xs (Xa (Xw (q := decide (q = 6)) Z Z Z Z (Xg (v := vb (decide (q = 6))) Z Z (Xb (Xu Z (fun ab => ?_) (fun ab => ?_))))))
 have ar := of_decide_eq_true ab
 refine Xv (Xr (Y3 Z ab (Xa (Xc (v := vi k) Z Z (Xw (q := decide (k = 4)) Z Z Z Z (Xg (v := vb (decide (k = 4))) Z Z (Xb (Xq (Y5 (Ye (⟨vb (decide (k = 4)), Yy Z Z, ?_, ai⟩)))))))))))
 · first | (simp [kindFor, O, ad, ah, aj, ar]; done) | (unfold kindFor; repeat (first | rw [if_pos (by omega)] | rw [if_neg (by omega)]))
 have ak := of_decide_eq_false ab
 refine Xx (Xw (q := decide (q = 7)) Z Z Z Z (Xg (v := vb (decide (q = 7))) Z Z (Xb (Xr (Xu Z (fun af => ?_) (fun af => ?_))))))
 have au := of_decide_eq_true af
 refine Xa (Xc (v := vi k) Z Z (Xw (q := decide (k = 4)) Z Z Z Z (Xg (v := vb (decide (k = 4))) Z Z (Xb (Xq (Y5 (Ye (⟨vb (decide (k = 4)), Yy Z Z, ?_, ai⟩))))))))
 · first | (simp [kindFor, O, ad, ah, aj, ak, au]; done) | (unfold kindFor; repeat (first | rw [if_pos (by omega)] | rw [if_neg (by omega)]))
 have al := of_decide_eq_false af
 refine Xa (Xw (q := decide (q = 9)) Z Z Z Z (Xg (v := vb (decide (q = 9))) Z Z (Xb (Xu Z (fun ag => ?_) (fun ag => ?_)))))
 have av := of_decide_eq_true ag
 refine Xa (Xc (v := vi k) Z Z (Xw (q := decide (k = 5)) Z Z Z Z (Xg (v := vb (decide (k = 5))) Z Z (Xb (Xq (Y5 (Ye (⟨vb (decide (k = 5)), Yy Z Z, ?_, ai⟩))))))))
 · first | (simp [kindFor, O, ad, ah, aj, ak, al, av]; done) | (unfold kindFor; repeat (first | rw [if_pos (by omega)] | rw [if_neg (by omega)]))
 have aw := of_decide_eq_false ag
 refine Xv (Ys (Xr (X2 (fun f' w' => (f' 4 = vb (((decide (k = 1)) || (decide (k = 2))) || (decide (k = 4)))) ∧ w = w') ?_ ?_)))
 refine Xc (v := vi k) Z Z (Xw (q := decide (k = 1)) Z Z Z Z (Xc (v := vb (decide (k = 1))) Z Z ?_))
 rcases X6 (decide (k = 1)) with E | E
 have a8 := of_decide_eq_true E
 exact Xi Z Z Z E Z (Xi Z Z Z E Z (Xo (v := vb true) Z E Z Z (Xc (v := vb true) Z Z (Xi Z Z Z Z Z (Xi Z Z Z Z Z (Xo (v := vb true) Z Z Z Z (Xg (v := vb true) Z Z (Xb ⟨(cB (by simp [J, ac, V, ae, ab, af, ag, E])), Z⟩))))))))
 have a9 := of_decide_eq_false E
 refine Xe Z Z Z E (Xc (v := vi k) Z Z (Xe Z Z Z E (Xw (q := decide (k = 2)) Z Z Z Z (Xj (v := vb (decide (k = 2))) Z E Z Z (Xc (v := vb (decide (k = 2))) Z Z ?_)))))
 rcases X6 (decide (k = 2)) with G | G
 have ba := of_decide_eq_true G
 exact Xi Z Z Z G Z (Xi Z Z Z G Z (Xo (v := vb true) Z G Z Z (Xg (v := vb true) Z Z (Xb ⟨(cB (by simp [J, ac, V, ae, ab, af, ag, E, G])), Z⟩))))
 have bb := of_decide_eq_false G
 exact Xe Z Z Z G (Xc (v := vi k) Z Z (Xe Z Z Z G (Xw (q := decide (k = 4)) Z Z Z Z (Xj (v := vb (decide (k = 4))) Z G Z Z (Xg (v := vb (decide (k = 4))) Z Z (Xb ⟨(cB (by simp [J, ac, V, ae, ab, af, ag, E, G])), Z⟩))))))
 rintro az bc ⟨am, rfl⟩
 refine Xq (⟨vb (((decide (k = 1)) || (decide (k = 2))) || (decide (k = 4))), Yy Z am, ?_, ai⟩)
 · first | (simp [kindFor, O, ad, ah, aj, ak, al, aw]; done) | (unfold kindFor; repeat (first | rw [if_pos (by omega)] | rw [if_neg (by omega)]))
theorem Rm (r : Rt) (hr : -9223372036854775807 ≤ r.th) (w : World) (ms : List MTh) (a : Option Addr) (c : Nat) (ht : TabAt w a ms) (hlen : TabLen ms) (hn : ms.length ≤ 1048576) : CallsR Tryd.prog 43 #[.slice a ms.length c, .agg #[vi r.th, vi r.ve, vb r.rd, vb r.wr, vb r.wk]] w (fun v w' => v = vb (live (tabT ms) r) ∧ w.grownBy w' none) := by
 refine X0 (n := 22) Tryd.func43 Z Tryd.ntmps43 Z ?_
 have av := World.grownBy.refl w none
 refine Xa (Yr (v := .agg #[vi r.th, vi r.ve, vb r.rd, vb r.wr, vb r.wk]) (cs := #[vi r.th, vi r.ve, vb r.rd, vb r.wr, vb r.wk]) Z Z Z ?_)
 intro J ab G
 have aw := X9 G av
 have O := low0 av G.grw
 refine Xg (v := vb false) Z Z (Xb (Jp (fun f' w' => (f' 4 = vb (inR r.th 1 (ms.length : Int) && (decide ((mj ms r.th).t.ve = r.ve)))) ∧ ab.grownBy w' none) ?_ ?_))
 rcases X6 (inR r.th 1 (ms.length : Int)) with E | E
 have a8 := Yu.1 E
 obtain ⟨ac, ba, V, ad, aq, ar⟩ := SlAt.at (TabAt.low ht O).1 (Yi (xg ms (r.th - 1).toNat))
 have az := TabLen.at hlen (xg ms (r.th - 1).toNat)
 refine Y8 (m := 15) (vals := [(5, pt J 0), (6, vi r.th), (7, .slice a ms.length c), (8, vi (ms.length : Int)), (9, vb (inR r.th 1 (ms.length : Int))), (10, vb (inR r.th 1 (ms.length : Int))), (11, .slice a ms.length c), (12, pt J 0), (13, vi r.th), (14, vi (r.th - 1)), (15, pt ac V), (16, pt ac (V + 3)), (17, vi (mj ms r.th).t.ve), (18, pt J 1), (19, vi r.ve)]) (fun w' => ab.grownBy w' none) Qb (by kernel_rfl) (Yf _) ?_ ?_
 refine yl Z (fun _ _ k => Xd (o' := 0) Ym Z Z Z k) (yl Z (fun _ ah k => Xh (v := vi r.th) X3 Z ((G.blk.grown0 ah).cell Z) Z k) (yl Z (fun _ _ k => Xc (v := .slice a ms.length c) Z Z k) (yl Z (fun _ _ k => Yj (by kernel_rfl) Z Z k) ?_)))
 refine Yq Z (fun bb ai => ?_) ?_
 refine Xm Jw (Xf Z (Xf Z (Xf Z Xl))) Z (Jb r.th 1 (ms.length : Int) _) ?_
 rintro _ bc ⟨rfl, ae⟩
 exact Xb ⟨Z, (grown_trans ai ae)⟩
 exact yl Z (fun _ _ k => Xc (v := vb (inR r.th 1 (ms.length : Int))) Z Z k) (yl Z (fun _ _ k => Xe Z Z Z E (Xc (v := .slice a ms.length c) Z Z k)) (yl Z (fun _ _ k => Xe Z Z Z E (Xd (o' := 0) Ym Z Z Z k)) (yl Z (fun _ aj k => Xe Z Z Z E (Xh (v := vi r.th) X3 Z ((G.blk.grown0 aj).cell Z) Z k)) (yl Z (fun _ _ k => Xe Z Z Z E (Y0 (c := r.th - 1) Z Z (by omega) (by omega) (by omega) Z k)) (yl Z (fun _ _ k => Xe Z Z Z E (X8 Y7 Z Z ad aq (by omega) (by omega) Z k)) (yl Z (fun _ _ k => Xe Z Z Z E (Xd (o' := V + 3) Qv Z Z Z k)) (yl Z (fun _ ak k => Xe Z Z Z E (Xh (v := vi (mj ms r.th).t.ve) X3 Z ((Yo ar ak) 3 _ Z) Z k)) (yl Z (fun _ _ k => Xe Z Z Z E (Xd (o' := 1) Jr Z Z Z k)) (yl Z (fun _ al k => Xe Z Z Z E (Xh (v := vi r.ve) X3 Z ((G.blk.grown0 al).cell Z) Z k)) Qd)))))))))
 intro bd am
 exact Xe Z Z Z E (Xw (q := decide ((mj ms r.th).t.ve = r.ve)) Z Z Z Z (Xo (v := vb (decide ((mj ms r.th).t.ve = r.ve))) Z E Z Z (Xg (v := vb (decide ((mj ms r.th).t.ve = r.ve))) Z Z (Xb (Xr ⟨(cB (by simp [E])), am⟩)))))
 refine Y8 (m := 15) (vals := [(5, pt J 0), (6, vi r.th), (7, .slice a ms.length c), (8, vi (ms.length : Int)), (9, vb (inR r.th 1 (ms.length : Int))), (10, vb (inR r.th 1 (ms.length : Int))), (11, undef), (12, undef), (13, undef), (14, undef), (15, undef), (16, undef), (17, undef), (18, undef), (19, undef)]) (fun w' => ab.grownBy w' none) Qb (by kernel_rfl) (Yf _) ?_ ?_
 refine yl Z (fun _ _ k => Xd (o' := 0) Ym Z Z Z k) (yl Z (fun _ an k => Xh (v := vi r.th) X3 Z ((G.blk.grown0 an).cell Z) Z k) (yl Z (fun _ _ k => Xc (v := .slice a ms.length c) Z Z k) (yl Z (fun _ _ k => Yj (by kernel_rfl) Z Z k) ?_)))
 refine Yq Z (fun be ao => ?_) ?_
 refine Xm Jw (Xf Z (Xf Z (Xf Z Xl))) Z (Jb r.th 1 (ms.length : Int) _) ?_
 rintro _ bf ⟨rfl, af⟩
 exact Xb ⟨Z, (grown_trans ao af)⟩
 exact yl Z (fun _ _ k => Xc (v := vb (inR r.th 1 (ms.length : Int))) Z Z k) (yl Z (fun _ _ k => Xi Z Z Z E Z k) (yl Z (fun _ _ k => Xi Z Z Z E Z k) (yl Z (fun _ _ k => Xi Z Z Z E Z k) (yl Z (fun _ _ k => Xi Z Z Z E Z k) (yl Z (fun _ _ k => Xi Z Z Z E Z k) (yl Z (fun _ _ k => Xi Z Z Z E Z k) (yl Z (fun _ _ k => Xi Z Z Z E Z k) (yl Z (fun _ _ k => Xi Z Z Z E Z k) (yl Z (fun _ _ k => Xi Z Z Z E Z k) Qd)))))))))
 intro bg ap
 exact Xi Z Z Z E Z (Xj (v := vb false) Z E Z Z (Xg (v := vb false) Z Z (Xb (Xr ⟨(cB (by simp [E])), ap⟩))))
 rintro a9 bh ⟨au, ag⟩
 refine Xq (⟨vb (inR r.th 1 (ms.length : Int) && (decide ((mj ms r.th).t.ve = r.ve))), Yy Z au, ?_, (low0 O ag)⟩)
 exact cB Rr
theorem Ro (p : Int) (hp : 0 ≤ p ∧ p ≤ 999999990000) (lo R : Nat) (bs : List Int) (a : Option Addr) (c : Nat) (w : World) (hR : Blk w R 63 #[.slice a bs.length c, vi p]) (hlo : lo ≤ R) (hs : SlLt lo w a 1 (bs.map bcell)) (hb : ∀ b ∈ bs, 0 ≤ b ∧ b ≤ 255) (hn : bs.length ≤ 1048576) (ms : List MTh) (ta : Option Addr) (tc tlo : Nat) (hG : TabG tlo w ta ms) (hRl : R < tlo) (hlen : TabLen ms) (hmn : 1 ≤ ms.length ∧ ms.length ≤ 8) : CallsR Tryd.prog 29 #[pt R 0, .slice ta ms.length tc] w (fun v w' => ∃ (k : Int) (p' : Int), v = vi k ∧ (1 ≤ k ∧ k ≤ (ms.length : Int)) ∧ p ≤ p' ∧ p' ≤ p + 20 ∧ Blk w' R 63 #[.slice a bs.length c, vi p'] ∧ w.grownBy w' (some R)) := by
 refine X0 (n := 34) Tryd.func29 Z Tryd.ntmps29 Z ?_
 have hRlt := hR.lt
 obtain ⟨hi, hhi⟩ : ∃ n, n = w.heap.size := ⟨_, rfl⟩
 have hTH := TabG.hi hG
 rw [← hhi] at hTH
 refine Xa (Xg (v := vi 0) Z Z (Xb (Xs (Xa (Xg (v := vi 0) Z Z (Xb (Ya (Qj (fun mm f' w' => ∃ (i : Nat) (p1 : Int), mm = 6 - i ∧ i ≤ 6 ∧ (p ≤ p1 ∧ p1 ≤ p + 2 * (i : Int)) ∧ TabG tlo w' ta ms ∧ hi ≤ w'.heap.size ∧ f' 5 = vi (i : Int) ∧ f' 0 = pt R 0 ∧ f' 1 = .slice ta ms.length tc ∧ w.grownBy w' (some R) ∧ Blk w' R 63 #[.slice a bs.length c, vi p1]) (6 - 0) ⟨0, p, Z, (Nat.zero_le _), (by omega), hG, (Nat.le_of_eq hhi), Z, Z, Z, (World.grownBy.refl w (some R)), hR⟩ ?_))))))))
 rintro mm bk bu ⟨i, p1, bi, ca, hpp, hGl, hhs, am, V, ab, J, an⟩
 refine Xs (Xa (Xc (v := vi (i : Int)) am Z (Qh (q := decide ((i : Int) < 6)) Z Z Z Z (Xc (v := vb (decide ((i : Int) < 6))) Z Z ?_))))
 rcases X6 (decide ((i : Int) < 6)) with G | G
 have bl := of_decide_eq_true G
 refine Xe Z Z Z G (Xc (v := pt R 0) V Z (Xe Z Z Z G (Xm Yt (Xf Z (Xf Z Xl)) Z (Yh p1 24 (by omega) _ R bs _ _ _ an (by omega) (SlLt.low1 hs J hlo) (by first | exact hb | exact fun b h => hb b (List.mem_of_mem_take h)) (by first | omega | (rw [List.length_take]; omega))) ?_)))
 rintro _ bv ⟨ao, rfl, ba, bb, ak, ac⟩
 have O := grown_trans J ac
 refine Xe Z Z Z G (Qe (q := decide (0 < ao)) Z Z Z Z (Xo (v := vb (decide (0 < ao))) Z G Z Z (Xb (Xu Z (fun ah => ?_) (fun ah => ?_)))))
 have bm := of_decide_eq_true ah
 refine Xv (Xr (Xs (Ya (Xa (Xc (v := pt R 0) V Z (Xc (v := .slice ta ms.length tc) ab Z (Yj (by kernel_rfl) Z Z (Xm Yt (Xf Z (Xf Z Xl)) Z (Yh (p1 + 1) (ms.length : Int) (by omega) _ R bs _ _ _ ak (by omega) (SlLt.low1 hs O hlo) (by first | exact hb | exact fun b h => hb b (List.mem_of_mem_take h)) (by first | omega | (rw [List.length_take]; omega))) ?_))))))))
 rintro _ bw ⟨E, rfl, bc, bd, al, ad⟩
 have aj := grown_trans O ad
 refine Yw (c := 1 + E) Z Z (by omega) (by omega) (by omega) Z (Xg (v := vi (1 + E)) Z Z (Xb (Xa (Xc (v := .slice ta ms.length tc) ab Z (Xc (v := vi (1 + E)) Z Z (Y0 (c := (1 + E) - 1) Z Z (by omega) (by omega) (by omega) Z ?_))))))
 have ae := (TabG.lt (TabG.lt hGl ac (by omega)) ad (by omega))
 obtain ⟨bj, bt, a8, ap, au, av⟩ := SlAt.at (TabG.at ae).1 (Yi (xg ms ((1 + E) - 1).toNat))
 have a9 := TabLen.at hlen (xg ms ((1 + E) - 1).toNat)
 refine X8 Y7 Z Z ap au (by omega) (by omega) Z (Xd (o' := a8) Yl Z Z Z (Xh (v := vi (mj ms (1 + E)).t.kind) X3 Z (av 0 _ Z) Z (Xw (q := decide ((mj ms (1 + E)).t.kind = 3)) Z Z Z Z (Xb (Xu Z (fun ai => ?_) (fun ai => ?_))))))
 have bn := of_decide_eq_true ai
 refine Xa (Xc (v := vi (1 + E)) Z Z (Xg (v := vi (1 + E)) Z Z (Xb (Xq (Y5 (Ye (Ye (Y5 (Ye ?_)))))))))
 refine ⟨vi (1 + E), Yy Z Z, (1 + E), (p1 + 1 + 1), Z, by omega, by omega, by omega, al, aj⟩
 have bp := of_decide_eq_false ai
 exact Xv (Ys (Xr (Xx (Xc (v := vi (i : Int)) am Z (Yw (c := (i : Int) + 1) Z Z (by omega) (by omega) (by omega) Z (Xg (v := vi ((i : Int) + 1)) Z Z (Xb (Xr (⟨6 - (i + 1), by omega, (i + 1), (p1 + 1 + 1), Z, (by omega), (by omega), ae, (nt (nt hhs ac.size) ad.size), Z, V, ab, aj, al⟩)))))))))
 have bq := of_decide_eq_false ah
 refine Y9 (Y6 (Y6 (Jd (Xr (Xa (Xc (v := pt R 0) V Z (Xc (v := .slice ta ms.length tc) ab Z (Yj (by kernel_rfl) Z Z (Xm Yt (Xf Z (Xf Z Xl)) Z (Yh (p1 + 1) (ms.length : Int) (by omega) _ R bs _ _ _ ak (by omega) (SlLt.low1 hs O hlo) (by first | exact hb | exact fun b h => hb b (List.mem_of_mem_take h)) (by first | omega | (rw [List.length_take]; omega))) ?_)))))))))
 rintro _ bx ⟨af, rfl, be, bf, aw, aq⟩
 refine Yw (c := 1 + af) Z Z (by omega) (by omega) (by omega) Z (Xg (v := vi (1 + af)) Z Z (Xb (Xq ?_)))
 refine ⟨vi (1 + af), Yy Z Z, (1 + af), (p1 + 1 + 1), Z, by omega, by omega, by omega, aw, (grown_trans O aq)⟩
 have br := of_decide_eq_false G
 iterate 3 refine Xi rfl rfl rfl G rfl ?_
 refine Xj (v := vb false) Z G Z Z (Xb (Qm Z Z (Y9 (Y6 (Y6 (Jd (Xr (Xa (Xc (v := pt R 0) V Z (Xc (v := .slice ta ms.length tc) ab Z (Yj (by kernel_rfl) Z Z (Xm Yt (Xf Z (Xf Z Xl)) Z (Yh p1 (ms.length : Int) (by omega) _ R bs _ _ _ an (by omega) (SlLt.low1 hs J hlo) (by first | exact hb | exact fun b h => hb b (List.mem_of_mem_take h)) (by first | omega | (rw [List.length_take]; omega))) ?_))))))))))))
 rintro _ bz ⟨ag, rfl, bg, bh, az, ar⟩
 refine Yw (c := 1 + ag) Z Z (by omega) (by omega) (by omega) Z (Xg (v := vi (1 + ag)) Z Z (Xb (Xq ?_)))
 refine ⟨vi (1 + ag), Yy Z Z, (1 + ag), (p1 + 1), Z, by omega, by omega, by omega, az, (grown_trans J ar)⟩
end Go.Proofs.YtjpgffmkcmcolabDoor
end
