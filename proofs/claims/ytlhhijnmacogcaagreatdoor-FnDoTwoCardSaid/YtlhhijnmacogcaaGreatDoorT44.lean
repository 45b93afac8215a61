/- Laws and walks: my templates, and what a program of mine (gen.py) printed out of the functions; only what the row reaches. -/
import Derived.Test.YtlhhijnmacogcaaGreatDoorT43
section
namespace Go.Proofs.YtlhhijnmacogcaaGreatDoor
open Go.RowKit Go.Dw
set_option maxRecDepth 100000
set_option maxHeartbeats 4000000
set_option linter.unusedSimpArgs false
set_option linter.unusedVariables false
theorem O4 (q : Cl) (lo B cap : Nat) (ms : List MTh) (w : World) (hB : Dw.Own w B 39 8 cap ms.length (ms.flatMap MTh.cells)) (hR : RowsO 33 3 lo w ms) (hlo : lo ≤ B) (hp : callPoss (tabT ms) q = true) : CallsR Tryz.prog 33 #[.slice (pa B) ms.length cap, .agg #[vi q.kind, vi q.run, vi q.a, vi q.b, vi q.n]] w (fun v w' => ∃ ms' : List MTh, v = .tuple #[.slice (pa B) ms.length cap, vi (doCall (tabT ms) q).2] ∧ ms'.length = ms.length ∧ Dw.Own w' B 39 8 cap ms'.length (ms'.flatMap MTh.cells) ∧ RowsO 33 3 lo w' ms' ∧ tabT ms' = (doCall (tabT ms) q).1 ∧ KeepsI lo w.heap.size [39, 33, 3] w w') := by
 refine Xx (n := 79) Tryz.func33 Z Tryz.ntmps33 Z ?_
 have g0 : KeepsI lo w.heap.size [39, 33, 3] w w := KeepsI.refl w
 have hBlt := hB.lt
 have hH := RowsO.hi hR
 have hlow : lo ≤ w.heap.size := by omega
 obtain ⟨hT, hc, hk⟩ := Yw hp
 have hco := Yx hc
 have hkp := (Qe hk).1
 have h4 := Qt hT hk
 have hml := Jk hT
 have hTL := TabLen.ok hT
 have hck := Kh (tabT ms) q
 have hts := Us hT (i := (q.run - 1).toNat) (j := q.a.toNat) (by omega) (by omega)
 refine Xa (Y7 (v := .agg #[vi q.kind, vi q.run, vi q.a, vi q.b, vi q.n]) (cs := #[vi q.kind, vi q.run, vi q.a, vi q.b, vi q.n]) Z Z Z ?_)
 intro aj it V
 have ii := K8 V g0
 have eb := Xo V (hB).lt
 refine Xe (v := .slice none 0 0) Z Z (Xe (v := vi 0) Z Z (Xb (Xa (Xd (v := .slice (pa B) ms.length cap) Z Z (Xr (vs := [vi q.kind, vi q.run, vi q.a, vi q.b, vi q.n]) Y6 Z Z (V.blk.rangeL 0 5 Z) Z ?_)))))
 have bl := (RowsO.low hR V.grw)
 have dh := (hB.grown0 V.grw)
 refine Xn Xae (Xf Z (Xf Z Xm)) Z (Lc q _ ms _ _ (RowsO.tab bl dh) hTL (by omega) hT hc hk) ?_
 rintro _ dl ⟨rfl, ae⟩
 have bn := KeepsI.low (KeepsI.low g0 V.grw) ae
 refine Xe (v := vi (check1 (tabT ms) q)) Z Z (Xb (Xq ?_))
 have ao := (RowsO.low bl ae)
 obtain ⟨dc, aq, c9, ap⟩ := RowsO.slot ao (lq (q.run - 1).toNat ms.length) (by omega)
 have ie := hH _ (List.mem_of_getElem? (xg ms (q.run - 1).toNat)) _ (Or.inl aq)
 have aw := (dh.grown0 ae)
 have ig := K9 aw ap (by decide)
 refine Qv (m := 12) [[], [], [1], [1, 2], [0, 1, 2, 3], [0, 1, 2, 3, 4], [0, 1, 2, 3, 4, 5], [], [7], [0, 1, 2, 3, 4, 5, 6, 7, 8], [0, 1, 2, 3, 4, 5, 6, 7, 8, 9], [], [0, 1, 2, 3, 4, 5, 6, 7, 8, 9, 10, 11]] (fun S F w' => ∃ (G : Nat), dl.grownBy w' none ∧ F 0 = .slice (pa B) ms.length cap ∧ F 3 = pt aj 0 ∧ F 4 = .slice none 0 0 ∧ F 5 = vi 0 ∧ F 6 = vi (check1 (tabT ms) q) ∧ (S 11 = true → F 7 = pt G 0 ∧ w.heap.size ≤ G ∧ Blk w' G 33 #[vi 0, vi 0, vb false, vb false, vb false] ∧ B < G ∧ aj < G ∧ dc < G ∧ dl.heap.size ≤ G) ∧ Vals S F [(0, 11, .slice (pa B) ms.length cap), (1, 12, pt aj 1), (2, 13, vi q.run), (3, 14, vi (q.run - 1)), (4, 15, pt B ((q.run - 1).toNat * 8)), (5, 16, pt B ((q.run - 1).toNat * 8 + 5)), (6, 17, .slice (mAt ms (q.run - 1).toNat).sa (mAt ms (q.run - 1).toNat).t.slots.length (mAt ms (q.run - 1).toNat).sc), (7, 18, pt aj 2), (8, 19, vi q.a), (9, 20, pt dc ((q.a).toNat * 5)), (10, 21, .agg #[vi (rAt (mAt ms (q.run - 1).toNat).t.slots (q.a).toNat).th, vi (rAt (mAt ms (q.run - 1).toNat).t.slots (q.a).toNat).ve, vb (rAt (mAt ms (q.run - 1).toNat).t.slots (q.a).toNat).rd, vb (rAt (mAt ms (q.run - 1).toNat).t.slots (q.a).toNat).wr, vb (rAt (mAt ms (q.run - 1).toNat).t.slots (q.a).toNat).wk])]) Yz (by kernel_rfl) ⟨0, X8 _, Z, Z, Z, Z, Z, Ym, J2 _⟩ ?_ ?_
 refine Xi (fun S F iu hS hbef hcl hI => ?_) ?_
 obtain ⟨G, dw, de, ef, eg, eh, ei, J, hvs⟩ := hI
 exact Xd (v := .slice (pa B) ms.length cap) de Z (Xb ⟨G, dw, de, ef, eg, eh, ei, J, Vals.up 0 hvs Z Z Z⟩)
 refine Xi (fun S F iv hS hbef hcl hI => ?_) ?_
 obtain ⟨G, dx, ej, df, ek, em, eo, J, hvs⟩ := hI
 exact Xc (o' := 1) Q5 df Z Z (Xb ⟨G, dx, ej, df, ek, em, eo, J, Vals.up 1 hvs Z Z Z⟩)
 refine Xi (fun S F iw hS hbef hcl hI => ?_) ?_
 obtain ⟨G, bw, ep, eu, ew, ez, e0, J, hvs⟩ := hI
 exact Xh (v := vi q.run) X1 (Vals.at 1 hvs Z (Xl 1 hbef Z)) (((V.blk.grown0 ae).grown0 bw).cell Z) Z (Xb ⟨G, bw, ep, eu, ew, ez, e0, J, Vals.up 2 hvs Z Z Z⟩)
 refine Xi (fun S F ix hS hbef hcl hI => ?_) ?_
 obtain ⟨G, dy, fa, fb, fc, fd, fe, J, hvs⟩ := hI
 exact Yr (c := q.run - 1) (Vals.at 2 hvs Z (Xl 2 hbef Z)) Z (by omega) (by omega) (by omega) Z (Xb ⟨G, dy, fa, fb, fc, fd, fe, J, Vals.up 3 hvs Z Z Z⟩)
 refine Xi (fun S F iy hS hbef hcl hI => ?_) ?_
 obtain ⟨G, dz, ff, fg, fh, fi, fj, J, hvs⟩ := hI
 exact X4 (o' := (q.run - 1).toNat * 8) Qc (Vals.at 0 hvs Z (Xl 0 hbef Z)) (Vals.at 3 hvs Z (Xl 3 hbef Z)) (by omega) (by omega) (by omega) Z (Xb ⟨G, dz, ff, fg, fh, fi, fj, J, Vals.up 4 hvs Z Z Z⟩)
 refine Xi (fun S F iz hS hbef hcl hI => ?_) ?_
 obtain ⟨G, d0, fk, fm, fo, fp, fq, J, hvs⟩ := hI
 exact Xc (o' := (q.run - 1).toNat * 8 + 5) Qj (Vals.at 4 hvs Z (Xl 4 hbef Z)) Z Z (Xb ⟨G, d0, fk, fm, fo, fp, fq, J, Vals.up 5 hvs Z Z Z⟩)
 refine Xi (fun S F i0 hS hbef hcl hI => ?_) ?_
 obtain ⟨G, bx, fr, ft, fu, fv, fw, J, hvs⟩ := hI
 exact Xh (v := .slice (mAt ms (q.run - 1).toNat).sa (mAt ms (q.run - 1).toNat).t.slots.length (mAt ms (q.run - 1).toNat).sc) Jd (Vals.at 5 hvs Z (Xl 5 hbef Z)) ((Own.range Yj (aw.grown0 bx) (xg ms (q.run - 1).toNat)) 5 _ Z) Z (Xb ⟨G, bx, fr, ft, fu, fv, fw, J, Vals.up 6 hvs Z Z Z⟩)
 refine Xi (fun S F i1 hS hbef hcl hI => ?_) ?_
 obtain ⟨G, d1, fx, dg, fy, fz, f8, J, hvs⟩ := hI
 exact Xc (o' := 2) Kr dg Z Z (Xb ⟨G, d1, fx, dg, fy, fz, f8, J, Vals.up 7 hvs Z Z Z⟩)
 refine Xi (fun S F i2 hS hbef hcl hI => ?_) ?_
 obtain ⟨G, bz, f9, ga, gb, gc, gf, J, hvs⟩ := hI
 exact Xh (v := vi q.a) X1 (Vals.at 7 hvs Z (Xl 7 hbef Z)) (((V.blk.grown0 ae).grown0 bz).cell Z) Z (Xb ⟨G, bz, f9, ga, gb, gc, gf, J, Vals.up 8 hvs Z Z Z⟩)
 refine Xi (fun S F i3 hS hbef hcl hI => ?_) ?_
 obtain ⟨G, d2, gg, gh, gi, gj, gk, J, hvs⟩ := hI
 exact X3 J9 (Vals.at 6 hvs Z (Xl 6 hbef Z)) (Vals.at 8 hvs Z (Xl 8 hbef Z)) aq (Nat.zero_add _) (by omega) (by omega) Z (Xb ⟨G, d2, gg, gh, gi, gj, gk, J, Vals.up 9 hvs Z Z Z⟩)
 refine Xi (fun S F i4 hS hbef hcl hI => ?_) ?_
 obtain ⟨G, ca, gl, gm, gp, gq, gr, J, hvs⟩ := hI
 exact Xr (vs := [vi (rAt (mAt ms (q.run - 1).toNat).t.slots (q.a).toNat).th, vi (rAt (mAt ms (q.run - 1).toNat).t.slots (q.a).toNat).ve, vb (rAt (mAt ms (q.run - 1).toNat).t.slots (q.a).toNat).rd, vb (rAt (mAt ms (q.run - 1).toNat).t.slots (q.a).toNat).wr, vb (rAt (mAt ms (q.run - 1).toNat).t.slots (q.a).toNat).wk]) Y0 (Vals.at 9 hvs Z (Xl 9 hbef Z)) Z (Y2 (Own.range Qx (ap.grown0 ca) (xr (mAt ms (q.run - 1).toNat).t.slots (q.a).toNat)) 0 5 Z) Z (Xb ⟨G, ca, gl, gm, gp, gq, gr, J, Vals.up 10 hvs Z Z Z⟩)
 refine Xi (fun S F i5 hS hbef hcl hI => ?_) ?_
 obtain ⟨G, am, gt, gu, gv, gw, gx, J, hvs⟩ := hI
 refine Yf (cs := #[vi 0, vi 0, vb false, vb false, vb false]) K3 Z Z ?_
 intro ee i6 ag
 have db := K8 ag (KeepsI.low bn am)
 have bk := Xo ag ((aw.grown0 am)).lt
 have az := Xo ag (((V.blk.grown0 ae).grown0 am)).lt
 have a8 := Xo ag ((ap.grown0 am)).lt
 exact Xb ⟨ee, (low0 am ag.grw), gt, gu, gv, gw, gx, fun _ => ⟨Z, db, ag.blk, bk, az, a8, (nt am.size (Nat.le_of_eq ag.eq.symm))⟩, Vals.keep hvs Z⟩
 exact Jb
 intro S F i7 hall hI
 obtain ⟨G, ab, ac, ad, il, im, ar, J, hvs⟩ := hI
 obtain ⟨bc, ij, cm, ed, cn, co, g5⟩ := J (hall 11 (by decide))
 refine Xy (vs := [vi (rAt (mAt ms (q.run - 1).toNat).t.slots (q.a).toNat).th, vi (rAt (mAt ms (q.run - 1).toNat).t.slots (q.a).toNat).ve, vb (rAt (mAt ms (q.run - 1).toNat).t.slots (q.a).toNat).rd, vb (rAt (mAt ms (q.run - 1).toNat).t.slots (q.a).toNat).wr, vb (rAt (mAt ms (q.run - 1).toNat).t.slots (q.a).toNat).wk]) (cs' := #[vi (rAt (mAt ms (q.run - 1).toNat).t.slots (q.a).toNat).th, vi (rAt (mAt ms (q.run - 1).toNat).t.slots (q.a).toNat).ve, vb (rAt (mAt ms (q.run - 1).toNat).t.slots (q.a).toNat).rd, vb (rAt (mAt ms (q.run - 1).toNat).t.slots (q.a).toNat).wr, vb (rAt (mAt ms (q.run - 1).toNat).t.slots (q.a).toNat).wk]) Y0 bc (Vals.at 10 hvs Z (hall 10 (by decide))) Z (by simp [Value.oneCell']) cm (Nat.le_of_ble_eq_true Z) Z ?_
 intro g7 O
 have bi := KeepsI.new (KeepsI.low bn ab) O.grw (by omega)
 refine Xb (Xu (Xq (X9 (Xa (Xd (v := vi (check1 (tabT ms) q)) ar Z (Qg (q := decide (check1 (tabT ms) q < 0)) Z Z Z Z (Xe (v := vb (decide (check1 (tabT ms) q < 0))) Z Z (Xb (X0 Z (fun ak => ?_) (fun ak => ?_))))))))))
 have io := of_decide_eq_true ak
 refine Xz (Y3 (Xu (Xa (Xd (v := .slice (pa B) ms.length cap) ac Z (Xc (o' := 1) Q5 ad Z Z (Xh (v := vi q.run) X1 Z ((((V.blk.grown0 ae).grown0 ab).gn O.grw).cell Z) Z (Yr (c := q.run - 1) Z Z (by omega) (by omega) (by omega) Z (Xd (v := vi (check1 (tabT ms) q)) ar Z (X4 (o' := (q.run - 1).toNat * 8) Qc Z Z (by omega) (by omega) (by omega) Z (Xc (o' := (q.run - 1).toNat * 8 + 4) Qw Z Z Z ?_))))))))))
 have cc := ((aw.grown0 ab).gn O.grw)
 refine Q7 (g := MTh.cells) (j := 4) (z := (mAt ms (q.run - 1).toNat)) (z' := (⟨⟨(mAt ms (q.run - 1).toNat).t.kind, (mAt ms (q.run - 1).toNat).t.lab, (mAt ms (q.run - 1).toNat).t.ve, check1 (tabT ms) q, (mAt ms (q.run - 1).toNat).t.slots, (mAt ms (q.run - 1).toNat).t.queue, (mAt ms (q.run - 1).toNat).t.to⟩, (mAt ms (q.run - 1).toNat).sa, (mAt ms (q.run - 1).toNat).sc, (mAt ms (q.run - 1).toNat).qa, (mAt ms (q.run - 1).toNat).qc⟩ : MTh)) (v := vi (check1 (tabT ms) q)) X1 Z Z Z Yj cc (xg ms (q.run - 1).toNat) (by omega) Z Z ?_
 intro g8 dm bq
 have ct : RowsO 33 3 lo g8 (ms.set (q.run - 1).toNat (⟨⟨(mAt ms (q.run - 1).toNat).t.kind, (mAt ms (q.run - 1).toNat).t.lab, (mAt ms (q.run - 1).toNat).t.ve, check1 (tabT ms) q, (mAt ms (q.run - 1).toNat).t.slots, (mAt ms (q.run - 1).toNat).t.queue, (mAt ms (q.run - 1).toNat).t.to⟩, (mAt ms (q.run - 1).toNat).sa, (mAt ms (q.run - 1).toNat).sc, (mAt ms (q.run - 1).toNat).qa, (mAt ms (q.run - 1).toNat).qc⟩ : MTh)) := RowsO.set (RowsO.own (RowsO.ge (RowsO.low ao ab) O.grw hH (by omega)) bq cc (by decide) (by decide)) (lq (q.run - 1).toNat ms.length) ⟨rfl, rfl, rfl⟩ ⟨rfl, rfl, rfl⟩
 refine Xb (Xa (Xd (v := .slice (pa B) ms.length cap) ac Z (Xd (v := vi (check1 (tabT ms) q)) ar Z (Xe (v := .slice (pa B) ms.length cap) Z Z (Xe (v := vi (check1 (tabT ms) q)) Z Z (Xb (Xt ?_)))))))
 have hf : doCall (tabT ms) q = (tabT (ms.set (q.run - 1).toNat (⟨⟨(mAt ms (q.run - 1).toNat).t.kind, (mAt ms (q.run - 1).toNat).t.lab, (mAt ms (q.run - 1).toNat).t.ve, check1 (tabT ms) q, (mAt ms (q.run - 1).toNat).t.slots, (mAt ms (q.run - 1).toNat).t.queue, (mAt ms (q.run - 1).toNat).t.to⟩, (mAt ms (q.run - 1).toNat).sa, (mAt ms (q.run - 1).toNat).sc, (mAt ms (q.run - 1).toNat).qa, (mAt ms (q.run - 1).toNat).qc⟩ : MTh)), check1 (tabT ms) q) := Xbh ak rfl
 exact ⟨.tuple #[.slice (pa B) ms.length cap, vi (check1 (tabT ms) q)], Gv Z Z Z, ms.set (q.run - 1).toNat (⟨⟨(mAt ms (q.run - 1).toNat).t.kind, (mAt ms (q.run - 1).toNat).t.lab, (mAt ms (q.run - 1).toNat).t.ve, check1 (tabT ms) q, (mAt ms (q.run - 1).toNat).t.slots, (mAt ms (q.run - 1).toNat).t.queue, (mAt ms (q.run - 1).toNat).t.to⟩, (mAt ms (q.run - 1).toNat).sa, (mAt ms (q.run - 1).toNat).sc, (mAt ms (q.run - 1).toNat).qa, (mAt ms (q.run - 1).toNat).qc⟩ : MTh), by rw [hf], by first | omega | (simp only [List.length_set, Yb]; try omega), dm, ct, by rw [hf], (KeepsI.own bi bq cc (by decide) (by omega) (by omega))⟩
 have ip := of_decide_eq_false ak
 refine Xa (Xc (o' := 0) Ji ad Z Z ?_)
 have al := (((V.blk.grown0 ae).grown0 ab).gn O.grw)
 refine Xh (v := vi q.kind) X1 Z (al.cell Z) Z (X6 (q := decide (q.kind = 3)) Z Z Z Z (Xe (v := vb (decide (q.kind = 3))) Z Z (Xb (X0 Z (fun an => ?_) (fun an => ?_)))))
 have iq := of_decide_eq_true an
 refine Yy (m := 25) (vals := [(29, .slice (pa B) ms.length cap), (30, pt aj 1), (31, vi q.run), (32, vi (q.run - 1)), (33, pt B ((q.run - 1).toNat * 8)), (34, pt B ((q.run - 1).toNat * 8 + 5)), (35, .slice (mAt ms (q.run - 1).toNat).sa (mAt ms (q.run - 1).toNat).t.slots.length (mAt ms (q.run - 1).toNat).sc), (36, pt aj 3), (37, vi q.b), (38, .agg #[vi (rAt (mAt ms (q.run - 1).toNat).t.slots (q.a).toNat).th, vi (rAt (mAt ms (q.run - 1).toNat).t.slots (q.a).toNat).ve, vb (rAt (mAt ms (q.run - 1).toNat).t.slots (q.a).toNat).rd, vb (rAt (mAt ms (q.run - 1).toNat).t.slots (q.a).toNat).wr, vb (rAt (mAt ms (q.run - 1).toNat).t.slots (q.a).toNat).wk]), (39, pt aj 4), (40, vi q.n), (41, vi (q.n % 2)), (42, vb (decide (q.n % 2 = 1))), (43, pt aj 4), (44, vi q.n), (45, vi (q.n / 2)), (46, vi ((q.n / 2) % 2)), (47, vb (decide ((q.n / 2) % 2 = 1))), (48, pt aj 4), (49, vi q.n), (50, vi (q.n / 4)), (51, vi ((q.n / 4) % 2)), (52, vb (decide ((q.n / 4) % 2 = 1))), (53, .agg #[vi (l2Less (rAt (mAt ms (q.run - 1).toNat).t.slots (q.a).toNat) (decide (q.n % 2 = 1)) (decide ((q.n / 2) % 2 = 1)) (decide ((q.n / 4) % 2 = 1))).th, vi (l2Less (rAt (mAt ms (q.run - 1).toNat).t.slots (q.a).toNat) (decide (q.n % 2 = 1)) (decide ((q.n / 2) % 2 = 1)) (decide ((q.n / 4) % 2 = 1))).ve, vb (l2Less (rAt (mAt ms (q.run - 1).toNat).t.slots (q.a).toNat) (decide (q.n % 2 = 1)) (decide ((q.n / 2) % 2 = 1)) (decide ((q.n / 4) % 2 = 1))).rd, vb (l2Less (rAt (mAt ms (q.run - 1).toNat).t.slots (q.a).toNat) (decide (q.n % 2 = 1)) (decide ((q.n / 2) % 2 = 1)) (decide ((q.n / 4) % 2 = 1))).wr, vb (l2Less (rAt (mAt ms (q.run - 1).toNat).t.slots (q.a).toNat) (decide (q.n % 2 = 1)) (decide ((q.n / 2) % 2 = 1)) (decide ((q.n / 4) % 2 = 1))).wk])]) (fun w' => g7.grownBy w' none) Yz (by kernel_rfl) (X8 _) ?_ ?_
 refine yl Z (fun _ _ k => Xd (v := .slice (pa B) ms.length cap) ac Z k) (yl Z (fun _ _ k => Xc (o' := 1) Q5 ad Z Z k) (yl Z (fun _ d3 k => Xh (v := vi q.run) X1 Z ((al.grown0 d3).cell Z) Z k) (yl Z (fun _ _ k => Yr (c := q.run - 1) Z Z (by omega) (by omega) (by omega) Z k) (yl Z (fun _ _ k => X4 (o' := (q.run - 1).toNat * 8) Qc Z Z (by omega) (by omega) (by omega) Z k) (yl Z (fun _ _ k => Xc (o' := (q.run - 1).toNat * 8 + 5) Qj Z Z Z k) (yl Z (fun _ d4 k => Xh (v := .slice (mAt ms (q.run - 1).toNat).sa (mAt ms (q.run - 1).toNat).t.slots.length (mAt ms (q.run - 1).toNat).sc) Jd Z ((Own.range Yj (((aw.grown0 ab).gn O.grw).grown0 d4) (xg ms (q.run - 1).toNat)) 5 _ Z) Z k) (yl Z (fun _ _ k => Xc (o' := 3) Vo ad Z Z k) (yl Z (fun _ d5 k => Xh (v := vi q.b) X1 Z ((al.grown0 d5).cell Z) Z k) (yl Z (fun _ d6 k => Xr (vs := [vi (rAt (mAt ms (q.run - 1).toNat).t.slots (q.a).toNat).th, vi (rAt (mAt ms (q.run - 1).toNat).t.slots (q.a).toNat).ve, vb (rAt (mAt ms (q.run - 1).toNat).t.slots (q.a).toNat).rd, vb (rAt (mAt ms (q.run - 1).toNat).t.slots (q.a).toNat).wr, vb (rAt (mAt ms (q.run - 1).toNat).t.slots (q.a).toNat).wk]) Y0 bc Z ((O.blk.grown0 d6).rangeL 0 5 Z) Z k) (yl Z (fun _ _ k => Xc (o' := 4) Js ad Z Z k) ?_))))))))))
 refine yl Z (fun _ d7 k => Xh (v := vi q.n) X1 Z ((al.grown0 d7).cell Z) Z k) (yl Z (fun _ _ k => Q9 (c := q.n % 2) Z Z (by omega) (by omega) (by omega) Z Z k) (yl Z (fun _ _ k => X6 (q := decide (q.n % 2 = 1)) Z Z Z Z k) (yl Z (fun _ _ k => Xc (o' := 4) Js ad Z Z k) (yl Z (fun _ d8 k => Xh (v := vi q.n) X1 Z ((al.grown0 d8).cell Z) Z k) (yl Z (fun _ _ k => K5 (c := q.n / 2) Z Z (by omega) (by omega) (by omega) Z Z k) (yl Z (fun _ _ k => Q9 (c := (q.n / 2) % 2) Z Z (by omega) (by omega) (by omega) Z Z k) (yl Z (fun _ _ k => X6 (q := decide ((q.n / 2) % 2 = 1)) Z Z Z Z k) (yl Z (fun _ _ k => Xc (o' := 4) Js ad Z Z k) (yl Z (fun _ d9 k => Xh (v := vi q.n) X1 Z ((al.grown0 d9).cell Z) Z k) (yl Z (fun _ _ k => K5 (c := q.n / 4) Z Z (by omega) (by omega) (by omega) Z Z k) ?_))))))))))
 refine yl Z (fun _ _ k => Q9 (c := (q.n / 4) % 2) Z Z (by omega) (by omega) (by omega) Z Z k) (yl Z (fun _ _ k => X6 (q := decide ((q.n / 4) % 2 = 1)) Z Z Z Z k) ?_)
 refine Qh Z (fun i8 ea => ?_) ?_
 refine Xn Xaf (Xf Z (Xf Z (Xf Z (Xf Z Xm)))) Z (Rn (rAt (mAt ms (q.run - 1).toNat).t.slots (q.a).toNat) (decide (q.n % 2 = 1)) (decide ((q.n / 2) % 2 = 1)) (decide ((q.n / 4) % 2 = 1)) _) ?_
 rintro _ i9 ⟨rfl, dv⟩
 exact Xb ⟨Z, (grown_trans ea dv)⟩
 exact Y8
 intro ja au
 refine X3 J9 Z Z aq (Nat.zero_add _) (by omega) (by omega) Z ?_
 have cd := (((ap.grown0 ab).gn O.grw).grown0 au)
 refine Qy (g := Rt.cells) (z' := (l2Less (rAt (mAt ms (q.run - 1).toNat).t.slots (q.a).toNat) (decide (q.n % 2 = 1)) (decide ((q.n / 2) % 2 = 1)) (decide ((q.n / 4) % 2 = 1)))) Y0 Z Z (Vf _) Qx cd (by omega) Z ?_
 intro jb dn bb
 have cv := RowsO.put (RowsO.low (RowsO.ge (RowsO.low ao ab) O.grw hH (by omega)) au) (lq (q.run - 1).toNat ms.length) aq c9 cd rfl dn bb (by decide)
 have ce := Vt (i := (q.run - 1).toNat) (j := (q.b).toNat) (x := (l2Less (rAt (mAt ms (q.run - 1).toNat).t.slots (q.a).toNat) (decide (q.n % 2 = 1)) (decide ((q.n / 2) % 2 = 1)) (decide ((q.n / 4) % 2 = 1)))) ((((aw.grown0 ab).gn O.grw).grown0 au).gn bb) (by omega)
 refine Xb (Y3 (Xu (Xa (Xd (v := .slice (pa B) ms.length cap) ac Z (Xc (o' := 1) Q5 ad Z Z (Xh (v := vi q.run) X1 Z (((al.grown0 au).gn bb).cell Z) Z (Yr (c := q.run - 1) Z Z (by omega) (by omega) (by omega) Z (Xd (v := vi (check1 (tabT ms) q)) ar Z (X4 (o' := (q.run - 1).toNat * 8) Qc Z Z (by omega) (by omega) (by omega) Z (Xc (o' := (q.run - 1).toNat * 8 + 4) Qw Z Z Z ?_))))))))))
 refine Q7 (g := MTh.cells) (j := 4) (z := (mAt (putT ms (q.run - 1).toNat (q.b).toNat (l2Less (rAt (mAt ms (q.run - 1).toNat).t.slots (q.a).toNat) (decide (q.n % 2 = 1)) (decide ((q.n / 2) % 2 = 1)) (decide ((q.n / 4) % 2 = 1)))) (q.run - 1).toNat)) (z' := (⟨⟨(mAt (putT ms (q.run - 1).toNat (q.b).toNat (l2Less (rAt (mAt ms (q.run - 1).toNat).t.slots (q.a).toNat) (decide (q.n % 2 = 1)) (decide ((q.n / 2) % 2 = 1)) (decide ((q.n / 4) % 2 = 1)))) (q.run - 1).toNat).t.kind, (mAt (putT ms (q.run - 1).toNat (q.b).toNat (l2Less (rAt (mAt ms (q.run - 1).toNat).t.slots (q.a).toNat) (decide (q.n % 2 = 1)) (decide ((q.n / 2) % 2 = 1)) (decide ((q.n / 4) % 2 = 1)))) (q.run - 1).toNat).t.lab, (mAt (putT ms (q.run - 1).toNat (q.b).toNat (l2Less (rAt (mAt ms (q.run - 1).toNat).t.slots (q.a).toNat) (decide (q.n % 2 = 1)) (decide ((q.n / 2) % 2 = 1)) (decide ((q.n / 4) % 2 = 1)))) (q.run - 1).toNat).t.ve, check1 (tabT ms) q, (mAt (putT ms (q.run - 1).toNat (q.b).toNat (l2Less (rAt (mAt ms (q.run - 1).toNat).t.slots (q.a).toNat) (decide (q.n % 2 = 1)) (decide ((q.n / 2) % 2 = 1)) (decide ((q.n / 4) % 2 = 1)))) (q.run - 1).toNat).t.slots, (mAt (putT ms (q.run - 1).toNat (q.b).toNat (l2Less (rAt (mAt ms (q.run - 1).toNat).t.slots (q.a).toNat) (decide (q.n % 2 = 1)) (decide ((q.n / 2) % 2 = 1)) (decide ((q.n / 4) % 2 = 1)))) (q.run - 1).toNat).t.queue, (mAt (putT ms (q.run - 1).toNat (q.b).toNat (l2Less (rAt (mAt ms (q.run - 1).toNat).t.slots (q.a).toNat) (decide (q.n % 2 = 1)) (decide ((q.n / 2) % 2 = 1)) (decide ((q.n / 4) % 2 = 1)))) (q.run - 1).toNat).t.to⟩, (mAt (putT ms (q.run - 1).toNat (q.b).toNat (l2Less (rAt (mAt ms (q.run - 1).toNat).t.slots (q.a).toNat) (decide (q.n % 2 = 1)) (decide ((q.n / 2) % 2 = 1)) (decide ((q.n / 4) % 2 = 1)))) (q.run - 1).toNat).sa, (mAt (putT ms (q.run - 1).toNat (q.b).toNat (l2Less (rAt (mAt ms (q.run - 1).toNat).t.slots (q.a).toNat) (decide (q.n % 2 = 1)) (decide ((q.n / 2) % 2 = 1)) (decide ((q.n / 4) % 2 = 1)))) (q.run - 1).toNat).sc, (mAt (putT ms (q.run - 1).toNat (q.b).toNat (l2Less (rAt (mAt ms (q.run - 1).toNat).t.slots (q.a).toNat) (decide (q.n % 2 = 1)) (decide ((q.n / 2) % 2 = 1)) (decide ((q.n / 4) % 2 = 1)))) (q.run - 1).toNat).qa, (mAt (putT ms (q.run - 1).toNat (q.b).toNat (l2Less (rAt (mAt ms (q.run - 1).toNat).t.slots (q.a).toNat) (decide (q.n % 2 = 1)) (decide ((q.n / 2) % 2 = 1)) (decide ((q.n / 4) % 2 = 1)))) (q.run - 1).toNat).qc⟩ : MTh)) (v := vi (check1 (tabT ms) q)) X1 Z Z Z Yj ce (Q0 (show (q.run - 1).toNat < (putT ms (q.run - 1).toNat (q.b).toNat (l2Less (rAt (mAt ms (q.run - 1).toNat).t.slots (q.a).toNat) (decide (q.n % 2 = 1)) (decide ((q.n / 2) % 2 = 1)) (decide ((q.n / 4) % 2 = 1)))).length by (simp only [List.length_set, Yb]; omega))) (by omega) Z Z ?_
 intro g9 dp br
 have du := KeepsI.own (KeepsI.own (KeepsI.low bi au) bb cd (by decide) (by omega) (by omega)) br ce (by decide) (by omega) (by omega)
 have cw : RowsO 33 3 lo g9 ((putT ms (q.run - 1).toNat (q.b).toNat (l2Less (rAt (mAt ms (q.run - 1).toNat).t.slots (q.a).toNat) (decide (q.n % 2 = 1)) (decide ((q.n / 2) % 2 = 1)) (decide ((q.n / 4) % 2 = 1)))).set (q.run - 1).toNat (⟨⟨(mAt (putT ms (q.run - 1).toNat (q.b).toNat (l2Less (rAt (mAt ms (q.run - 1).toNat).t.slots (q.a).toNat) (decide (q.n % 2 = 1)) (decide ((q.n / 2) % 2 = 1)) (decide ((q.n / 4) % 2 = 1)))) (q.run - 1).toNat).t.kind, (mAt (putT ms (q.run - 1).toNat (q.b).toNat (l2Less (rAt (mAt ms (q.run - 1).toNat).t.slots (q.a).toNat) (decide (q.n % 2 = 1)) (decide ((q.n / 2) % 2 = 1)) (decide ((q.n / 4) % 2 = 1)))) (q.run - 1).toNat).t.lab, (mAt (putT ms (q.run - 1).toNat (q.b).toNat (l2Less (rAt (mAt ms (q.run - 1).toNat).t.slots (q.a).toNat) (decide (q.n % 2 = 1)) (decide ((q.n / 2) % 2 = 1)) (decide ((q.n / 4) % 2 = 1)))) (q.run - 1).toNat).t.ve, check1 (tabT ms) q, (mAt (putT ms (q.run - 1).toNat (q.b).toNat (l2Less (rAt (mAt ms (q.run - 1).toNat).t.slots (q.a).toNat) (decide (q.n % 2 = 1)) (decide ((q.n / 2) % 2 = 1)) (decide ((q.n / 4) % 2 = 1)))) (q.run - 1).toNat).t.slots, (mAt (putT ms (q.run - 1).toNat (q.b).toNat (l2Less (rAt (mAt ms (q.run - 1).toNat).t.slots (q.a).toNat) (decide (q.n % 2 = 1)) (decide ((q.n / 2) % 2 = 1)) (decide ((q.n / 4) % 2 = 1)))) (q.run - 1).toNat).t.queue, (mAt (putT ms (q.run - 1).toNat (q.b).toNat (l2Less (rAt (mAt ms (q.run - 1).toNat).t.slots (q.a).toNat) (decide (q.n % 2 = 1)) (decide ((q.n / 2) % 2 = 1)) (decide ((q.n / 4) % 2 = 1)))) (q.run - 1).toNat).t.to⟩, (mAt (putT ms (q.run - 1).toNat (q.b).toNat (l2Less (rAt (mAt ms (q.run - 1).toNat).t.slots (q.a).toNat) (decide (q.n % 2 = 1)) (decide ((q.n / 2) % 2 = 1)) (decide ((q.n / 4) % 2 = 1)))) (q.run - 1).toNat).sa, (mAt (putT ms (q.run - 1).toNat (q.b).toNat (l2Less (rAt (mAt ms (q.run - 1).toNat).t.slots (q.a).toNat) (decide (q.n % 2 = 1)) (decide ((q.n / 2) % 2 = 1)) (decide ((q.n / 4) % 2 = 1)))) (q.run - 1).toNat).sc, (mAt (putT ms (q.run - 1).toNat (q.b).toNat (l2Less (rAt (mAt ms (q.run - 1).toNat).t.slots (q.a).toNat) (decide (q.n % 2 = 1)) (decide ((q.n / 2) % 2 = 1)) (decide ((q.n / 4) % 2 = 1)))) (q.run - 1).toNat).qa, (mAt (putT ms (q.run - 1).toNat (q.b).toNat (l2Less (rAt (mAt ms (q.run - 1).toNat).t.slots (q.a).toNat) (decide (q.n % 2 = 1)) (decide ((q.n / 2) % 2 = 1)) (decide ((q.n / 4) % 2 = 1)))) (q.run - 1).toNat).qc⟩ : MTh)) := RowsO.set (RowsO.own cv br ce (by decide) (by decide)) (show (q.run - 1).toNat < (putT ms (q.run - 1).toNat (q.b).toNat (l2Less (rAt (mAt ms (q.run - 1).toNat).t.slots (q.a).toNat) (decide (q.n % 2 = 1)) (decide ((q.n / 2) % 2 = 1)) (decide ((q.n / 4) % 2 = 1)))).length by (simp only [List.length_set, Yb]; omega)) ⟨rfl, rfl, rfl⟩ ⟨rfl, rfl, rfl⟩
 refine Xb (Xa (Xd (v := .slice (pa B) ms.length cap) ac Z (Xd (v := vi (check1 (tabT ms) q)) ar Z (Xe (v := .slice (pa B) ms.length cap) Z Z (Xe (v := vi (check1 (tabT ms) q)) Z Z (Xb (Xt ?_)))))))
 have hf : doCall (tabT ms) q = (tabT ((putT ms (q.run - 1).toNat (q.b).toNat (l2Less (rAt (mAt ms (q.run - 1).toNat).t.slots (q.a).toNat) (decide (q.n % 2 = 1)) (decide ((q.n / 2) % 2 = 1)) (decide ((q.n / 4) % 2 = 1)))).set (q.run - 1).toNat (⟨⟨(mAt (putT ms (q.run - 1).toNat (q.b).toNat (l2Less (rAt (mAt ms (q.run - 1).toNat).t.slots (q.a).toNat) (decide (q.n % 2 = 1)) (decide ((q.n / 2) % 2 = 1)) (decide ((q.n / 4) % 2 = 1)))) (q.run - 1).toNat).t.kind, (mAt (putT ms (q.run - 1).toNat (q.b).toNat (l2Less (rAt (mAt ms (q.run - 1).toNat).t.slots (q.a).toNat) (decide (q.n % 2 = 1)) (decide ((q.n / 2) % 2 = 1)) (decide ((q.n / 4) % 2 = 1)))) (q.run - 1).toNat).t.lab, (mAt (putT ms (q.run - 1).toNat (q.b).toNat (l2Less (rAt (mAt ms (q.run - 1).toNat).t.slots (q.a).toNat) (decide (q.n % 2 = 1)) (decide ((q.n / 2) % 2 = 1)) (decide ((q.n / 4) % 2 = 1)))) (q.run - 1).toNat).t.ve, check1 (tabT ms) q, (mAt (putT ms (q.run - 1).toNat (q.b).toNat (l2Less (rAt (mAt ms (q.run - 1).toNat).t.slots (q.a).toNat) (decide (q.n % 2 = 1)) (decide ((q.n / 2) % 2 = 1)) (decide ((q.n / 4) % 2 = 1)))) (q.run - 1).toNat).t.slots, (mAt (putT ms (q.run - 1).toNat (q.b).toNat (l2Less (rAt (mAt ms (q.run - 1).toNat).t.slots (q.a).toNat) (decide (q.n % 2 = 1)) (decide ((q.n / 2) % 2 = 1)) (decide ((q.n / 4) % 2 = 1)))) (q.run - 1).toNat).t.queue, (mAt (putT ms (q.run - 1).toNat (q.b).toNat (l2Less (rAt (mAt ms (q.run - 1).toNat).t.slots (q.a).toNat) (decide (q.n % 2 = 1)) (decide ((q.n / 2) % 2 = 1)) (decide ((q.n / 4) % 2 = 1)))) (q.run - 1).toNat).t.to⟩, (mAt (putT ms (q.run - 1).toNat (q.b).toNat (l2Less (rAt (mAt ms (q.run - 1).toNat).t.slots (q.a).toNat) (decide (q.n % 2 = 1)) (decide ((q.n / 2) % 2 = 1)) (decide ((q.n / 4) % 2 = 1)))) (q.run - 1).toNat).sa, (mAt (putT ms (q.run - 1).toNat (q.b).toNat (l2Less (rAt (mAt ms (q.run - 1).toNat).t.slots (q.a).toNat) (decide (q.n % 2 = 1)) (decide ((q.n / 2) % 2 = 1)) (decide ((q.n / 4) % 2 = 1)))) (q.run - 1).toNat).sc, (mAt (putT ms (q.run - 1).toNat (q.b).toNat (l2Less (rAt (mAt ms (q.run - 1).toNat).t.slots (q.a).toNat) (decide (q.n % 2 = 1)) (decide ((q.n / 2) % 2 = 1)) (decide ((q.n / 4) % 2 = 1)))) (q.run - 1).toNat).qa, (mAt (putT ms (q.run - 1).toNat (q.b).toNat (l2Less (rAt (mAt ms (q.run - 1).toNat).t.slots (q.a).toNat) (decide (q.n % 2 = 1)) (decide ((q.n / 2) % 2 = 1)) (decide ((q.n / 4) % 2 = 1)))) (q.run - 1).toNat).qc⟩ : MTh)), check1 (tabT ms) q) := Ox ak an rfl rfl
 exact ⟨.tuple #[.slice (pa B) ms.length cap, vi (check1 (tabT ms) q)], Gv Z Z Z, (putT ms (q.run - 1).toNat (q.b).toNat (l2Less (rAt (mAt ms (q.run - 1).toNat).t.slots (q.a).toNat) (decide (q.n % 2 = 1)) (decide ((q.n / 2) % 2 = 1)) (decide ((q.n / 4) % 2 = 1)))).set (q.run - 1).toNat (⟨⟨(mAt (putT ms (q.run - 1).toNat (q.b).toNat (l2Less (rAt (mAt ms (q.run - 1).toNat).t.slots (q.a).toNat) (decide (q.n % 2 = 1)) (decide ((q.n / 2) % 2 = 1)) (decide ((q.n / 4) % 2 = 1)))) (q.run - 1).toNat).t.kind, (mAt (putT ms (q.run - 1).toNat (q.b).toNat (l2Less (rAt (mAt ms (q.run - 1).toNat).t.slots (q.a).toNat) (decide (q.n % 2 = 1)) (decide ((q.n / 2) % 2 = 1)) (decide ((q.n / 4) % 2 = 1)))) (q.run - 1).toNat).t.lab, (mAt (putT ms (q.run - 1).toNat (q.b).toNat (l2Less (rAt (mAt ms (q.run - 1).toNat).t.slots (q.a).toNat) (decide (q.n % 2 = 1)) (decide ((q.n / 2) % 2 = 1)) (decide ((q.n / 4) % 2 = 1)))) (q.run - 1).toNat).t.ve, check1 (tabT ms) q, (mAt (putT ms (q.run - 1).toNat (q.b).toNat (l2Less (rAt (mAt ms (q.run - 1).toNat).t.slots (q.a).toNat) (decide (q.n % 2 = 1)) (decide ((q.n / 2) % 2 = 1)) (decide ((q.n / 4) % 2 = 1)))) (q.run - 1).toNat).t.slots, (mAt (putT ms (q.run - 1).toNat (q.b).toNat (l2Less (rAt (mAt ms (q.run - 1).toNat).t.slots (q.a).toNat) (decide (q.n % 2 = 1)) (decide ((q.n / 2) % 2 = 1)) (decide ((q.n / 4) % 2 = 1)))) (q.run - 1).toNat).t.queue, (mAt (putT ms (q.run - 1).toNat (q.b).toNat (l2Less (rAt (mAt ms (q.run - 1).toNat).t.slots (q.a).toNat) (decide (q.n % 2 = 1)) (decide ((q.n / 2) % 2 = 1)) (decide ((q.n / 4) % 2 = 1)))) (q.run - 1).toNat).t.to⟩, (mAt (putT ms (q.run - 1).toNat (q.b).toNat (l2Less (rAt (mAt ms (q.run - 1).toNat).t.slots (q.a).toNat) (decide (q.n % 2 = 1)) (decide ((q.n / 2) % 2 = 1)) (decide ((q.n / 4) % 2 = 1)))) (q.run - 1).toNat).sa, (mAt (putT ms (q.run - 1).toNat (q.b).toNat (l2Less (rAt (mAt ms (q.run - 1).toNat).t.slots (q.a).toNat) (decide (q.n % 2 = 1)) (decide ((q.n / 2) % 2 = 1)) (decide ((q.n / 4) % 2 = 1)))) (q.run - 1).toNat).sc, (mAt (putT ms (q.run - 1).toNat (q.b).toNat (l2Less (rAt (mAt ms (q.run - 1).toNat).t.slots (q.a).toNat) (decide (q.n % 2 = 1)) (decide ((q.n / 2) % 2 = 1)) (decide ((q.n / 4) % 2 = 1)))) (q.run - 1).toNat).qa, (mAt (putT ms (q.run - 1).toNat (q.b).toNat (l2Less (rAt (mAt ms (q.run - 1).toNat).t.slots (q.a).toNat) (decide (q.n % 2 = 1)) (decide ((q.n / 2) % 2 = 1)) (decide ((q.n / 4) % 2 = 1)))) (q.run - 1).toNat).qc⟩ : MTh), by rw [hf], by first | omega | (simp only [List.length_set, Yb]; try omega), dp, cw, by rw [hf], du⟩
 have ir := of_decide_eq_false an
 refine Xa (Xd (v := .slice (pa B) ms.length cap) ac Z (Xr (vs := [vi (rAt (mAt ms (q.run - 1).toNat).t.slots (q.a).toNat).th, vi (rAt (mAt ms (q.run - 1).toNat).t.slots (q.a).toNat).ve, vb (rAt (mAt ms (q.run - 1).toNat).t.slots (q.a).toNat).rd, vb (rAt (mAt ms (q.run - 1).toNat).t.slots (q.a).toNat).wr, vb (rAt (mAt ms (q.run - 1).toNat).t.slots (q.a).toNat).wk]) Y0 bc Z (O.blk.rangeL 0 5 Z) Z ?_))
 have a9 := (RowsO.ge (RowsO.low ao ab) O.grw hH (by omega))
 have cf := ((aw.grown0 ab).gn O.grw)
 refine Xn Xag (Xf Z (Xf Z Xm)) Z (Rq (rAt (mAt ms (q.run - 1).toNat).t.slots (q.a).toNat) (by omega) _ ms _ _ (RowsO.tab a9 cf) hTL (by omega)) ?_
 rintro _ jc ⟨rfl, af⟩
 have bj := KeepsI.low bi af
 refine Xe (v := vb (live (tabT ms) (rAt (mAt ms (q.run - 1).toNat).t.slots (q.a).toNat))) Z Z (Xb (X0 Z (fun bd => ?_) (fun bd => ?_)))
 refine Xa (Xd (v := .slice (pa B) ms.length cap) ac Z ?_)
 have di := (al.grown0 af)
 refine Xr (vs := [vi q.kind, vi q.run, vi q.a, vi q.b, vi q.n]) Y6 ad Z (di.rangeL 0 5 Z) Z ?_
 have dk := (O.blk.grown0 af)
 refine Xr (vs := [vi (rAt (mAt ms (q.run - 1).toNat).t.slots (q.a).toNat).th, vi (rAt (mAt ms (q.run - 1).toNat).t.slots (q.a).toNat).ve, vb (rAt (mAt ms (q.run - 1).toNat).t.slots (q.a).toNat).rd, vb (rAt (mAt ms (q.run - 1).toNat).t.slots (q.a).toNat).wr, vb (rAt (mAt ms (q.run - 1).toNat).t.slots (q.a).toNat).wk]) Y0 bc Z (dk.rangeL 0 5 Z) Z ?_
 have be := O1 hp ak an bd
 have g6 := be.th
 rw [Y5] at g6
 refine Xn Xcq (Xf Z (Xf Z (Xf Z Xm))) Z (Ig q (rAt (mAt ms (q.run - 1).toNat).t.slots (q.a).toNat) lo B cap ms _ (cf.grown0 af) (RowsO.low a9 af) hlo _ hH hBlt bj.size be) ?_
 rintro _ jd ⟨E, rfl, ai, bg, ba, av, bf⟩
 have bh : tableOk (tabT E) = true := by rw [av]; exact (N0 be).1
 have da := TabLen.ok bh
 have ik := Jk bh
 refine Xe (v := vi (far (tabT ms) q (rAt (mAt ms (q.run - 1).toNat).t.slots (q.a).toNat)).2) Z Z (Xb (Xa (Xd (v := .slice (pa B) E.length cap) (ac.trans (congrArg (fun n : Nat => Value.slice (pa B) n cap) ai.symm)) Z (Xc (o' := 1) Q5 ad Z Z ?_))))
 have cg := (Blk.keepsI di bf (Or.inr (Or.inr (by decide))))
 refine Xh (v := vi q.run) X1 Z (cg.cell Z) Z (Xc (o' := 0) Yo bc Z Z (Xh (v := vi (rAt (mAt ms (q.run - 1).toNat).t.slots (q.a).toNat).th) X1 Z ((Blk.keepsI dk bf (by omega)).cell Z) Z (Xn Xah (Xf Z (Xf Z (Xf Z Xm))) Z (L6 q.run (rAt (mAt ms (q.run - 1).toNat).t.slots (q.a).toNat).th _ E _ _ (RowsO.tab ba bg) da (by omega) bh (by omega) (by omega)) ?_)))
 rintro _ je ⟨rfl, ah⟩
 have bp := KeepsI.low (KeepsI.trans bj bf) ah
 refine Yn (b' := !sees (tabT E) q.run (rAt (mAt ms (q.run - 1).toNat).t.slots (q.a).toNat).th) Z Z Z (Xb (X0 Z (fun bm => ?_) (fun bm => ?_)))
 have gy := Jr bm
 refine X2 (Xe (v := vi 0) Z Z (Xb (Y3 (Xu (Xa (Xd (v := .slice (pa B) E.length cap) (ac.trans (congrArg (fun n : Nat => Value.slice (pa B) n cap) ai.symm)) Z (Xc (o' := 1) Q5 ad Z Z (Xh (v := vi q.run) X1 Z ((cg.grown0 ah).cell Z) Z (Yr (c := q.run - 1) Z Z (by omega) (by omega) (by omega) Z (Xd (v := vi 0) Z Z (X4 (o' := (q.run - 1).toNat * 8) Qc Z Z (by omega) (by omega) (by omega) Z (Xc (o' := (q.run - 1).toNat * 8 + 4) Qw Z Z Z ?_))))))))))))
 have cj := (bg.grown0 ah)
 refine Q7 (g := MTh.cells) (j := 4) (z := (mAt E (q.run - 1).toNat)) (z' := (⟨⟨(mAt E (q.run - 1).toNat).t.kind, (mAt E (q.run - 1).toNat).t.lab, (mAt E (q.run - 1).toNat).t.ve, 0, (mAt E (q.run - 1).toNat).t.slots, (mAt E (q.run - 1).toNat).t.queue, (mAt E (q.run - 1).toNat).t.to⟩, (mAt E (q.run - 1).toNat).sa, (mAt E (q.run - 1).toNat).sc, (mAt E (q.run - 1).toNat).qa, (mAt E (q.run - 1).toNat).qc⟩ : MTh)) (v := vi 0) X1 Z Z Z Yj cj (xg E (q.run - 1).toNat) (by omega) Z Z ?_
 intro ia dq bt
 have cy : RowsO 33 3 lo ia (E.set (q.run - 1).toNat (⟨⟨(mAt E (q.run - 1).toNat).t.kind, (mAt E (q.run - 1).toNat).t.lab, (mAt E (q.run - 1).toNat).t.ve, 0, (mAt E (q.run - 1).toNat).t.slots, (mAt E (q.run - 1).toNat).t.queue, (mAt E (q.run - 1).toNat).t.to⟩, (mAt E (q.run - 1).toNat).sa, (mAt E (q.run - 1).toNat).sc, (mAt E (q.run - 1).toNat).qa, (mAt E (q.run - 1).toNat).qc⟩ : MTh)) := RowsO.set (RowsO.own (RowsO.low ba ah) bt cj (by decide) (by decide)) (lq (q.run - 1).toNat E.length) ⟨rfl, rfl, rfl⟩ ⟨rfl, rfl, rfl⟩
 refine Xb (Xa (Xd (v := .slice (pa B) E.length cap) (ac.trans (congrArg (fun n : Nat => Value.slice (pa B) n cap) ai.symm)) Z (Xd (v := vi 0) Z Z (Xe (v := .slice (pa B) E.length cap) Z Z (Xe (v := vi 0) Z Z (Xb (Xt ?_)))))))
 have hf : doCall (tabT ms) q = (tabT (E.set (q.run - 1).toNat (⟨⟨(mAt E (q.run - 1).toNat).t.kind, (mAt E (q.run - 1).toNat).t.lab, (mAt E (q.run - 1).toNat).t.ve, 0, (mAt E (q.run - 1).toNat).t.slots, (mAt E (q.run - 1).toNat).t.queue, (mAt E (q.run - 1).toNat).t.to⟩, (mAt E (q.run - 1).toNat).sa, (mAt E (q.run - 1).toNat).sc, (mAt E (q.run - 1).toNat).qa, (mAt E (q.run - 1).toNat).qc⟩ : MTh)), 0) := M2 ak an bd av gy rfl
 exact ⟨.tuple #[.slice (pa B) E.length cap, vi 0], Gv Z Z Z, E.set (q.run - 1).toNat (⟨⟨(mAt E (q.run - 1).toNat).t.kind, (mAt E (q.run - 1).toNat).t.lab, (mAt E (q.run - 1).toNat).t.ve, 0, (mAt E (q.run - 1).toNat).t.slots, (mAt E (q.run - 1).toNat).t.queue, (mAt E (q.run - 1).toNat).t.to⟩, (mAt E (q.run - 1).toNat).sa, (mAt E (q.run - 1).toNat).sc, (mAt E (q.run - 1).toNat).qa, (mAt E (q.run - 1).toNat).qc⟩ : MTh), by rw [hf, ai], by first | omega | (simp only [List.length_set, Yb]; try omega), dq, cy, by rw [hf], (KeepsI.own bp bt cj (by decide) (by omega) (by omega))⟩
 have gz := Q3 bm
 refine Xz (Y3 (Xu (Xa (Xd (v := .slice (pa B) E.length cap) (ac.trans (congrArg (fun n : Nat => Value.slice (pa B) n cap) ai.symm)) Z (Xc (o' := 1) Q5 ad Z Z (Xh (v := vi q.run) X1 Z ((cg.grown0 ah).cell Z) Z (Yr (c := q.run - 1) Z Z (by omega) (by omega) (by omega) Z (Xd (v := vi (far (tabT ms) q (rAt (mAt ms (q.run - 1).toNat).t.slots (q.a).toNat)).2) Z Z (X4 (o' := (q.run - 1).toNat * 8) Qc Z Z (by omega) (by omega) (by omega) Z (Xc (o' := (q.run - 1).toNat * 8 + 4) Qw Z Z Z ?_))))))))))
 have ck := (bg.grown0 ah)
 refine Q7 (g := MTh.cells) (j := 4) (z := (mAt E (q.run - 1).toNat)) (z' := (⟨⟨(mAt E (q.run - 1).toNat).t.kind, (mAt E (q.run - 1).toNat).t.lab, (mAt E (q.run - 1).toNat).t.ve, (far (tabT ms) q (rAt (mAt ms (q.run - 1).toNat).t.slots (q.a).toNat)).2, (mAt E (q.run - 1).toNat).t.slots, (mAt E (q.run - 1).toNat).t.queue, (mAt E (q.run - 1).toNat).t.to⟩, (mAt E (q.run - 1).toNat).sa, (mAt E (q.run - 1).toNat).sc, (mAt E (q.run - 1).toNat).qa, (mAt E (q.run - 1).toNat).qc⟩ : MTh)) (v := vi (far (tabT ms) q (rAt (mAt ms (q.run - 1).toNat).t.slots (q.a).toNat)).2) X1 Z Z Z Yj ck (xg E (q.run - 1).toNat) (by omega) Z Z ?_
 intro ib dr bu
 have cz : RowsO 33 3 lo ib (E.set (q.run - 1).toNat (⟨⟨(mAt E (q.run - 1).toNat).t.kind, (mAt E (q.run - 1).toNat).t.lab, (mAt E (q.run - 1).toNat).t.ve, (far (tabT ms) q (rAt (mAt ms (q.run - 1).toNat).t.slots (q.a).toNat)).2, (mAt E (q.run - 1).toNat).t.slots, (mAt E (q.run - 1).toNat).t.queue, (mAt E (q.run - 1).toNat).t.to⟩, (mAt E (q.run - 1).toNat).sa, (mAt E (q.run - 1).toNat).sc, (mAt E (q.run - 1).toNat).qa, (mAt E (q.run - 1).toNat).qc⟩ : MTh)) := RowsO.set (RowsO.own (RowsO.low ba ah) bu ck (by decide) (by decide)) (lq (q.run - 1).toNat E.length) ⟨rfl, rfl, rfl⟩ ⟨rfl, rfl, rfl⟩
 refine Xb (Xa (Xd (v := .slice (pa B) E.length cap) (ac.trans (congrArg (fun n : Nat => Value.slice (pa B) n cap) ai.symm)) Z (Xd (v := vi (far (tabT ms) q (rAt (mAt ms (q.run - 1).toNat).t.slots (q.a).toNat)).2) Z Z (Xe (v := .slice (pa B) E.length cap) Z Z (Xe (v := vi (far (tabT ms) q (rAt (mAt ms (q.run - 1).toNat).t.slots (q.a).toNat)).2) Z Z (Xb (Xt ?_)))))))
 have hf : doCall (tabT ms) q = (tabT (E.set (q.run - 1).toNat (⟨⟨(mAt E (q.run - 1).toNat).t.kind, (mAt E (q.run - 1).toNat).t.lab, (mAt E (q.run - 1).toNat).t.ve, (far (tabT ms) q (rAt (mAt ms (q.run - 1).toNat).t.slots (q.a).toNat)).2, (mAt E (q.run - 1).toNat).t.slots, (mAt E (q.run - 1).toNat).t.queue, (mAt E (q.run - 1).toNat).t.to⟩, (mAt E (q.run - 1).toNat).sa, (mAt E (q.run - 1).toNat).sc, (mAt E (q.run - 1).toNat).qa, (mAt E (q.run - 1).toNat).qc⟩ : MTh)), (far (tabT ms) q (rAt (mAt ms (q.run - 1).toNat).t.slots (q.a).toNat)).2) := Oz ak an bd av gz rfl
 exact ⟨.tuple #[.slice (pa B) E.length cap, vi (far (tabT ms) q (rAt (mAt ms (q.run - 1).toNat).t.slots (q.a).toNat)).2], Gv Z Z Z, E.set (q.run - 1).toNat (⟨⟨(mAt E (q.run - 1).toNat).t.kind, (mAt E (q.run - 1).toNat).t.lab, (mAt E (q.run - 1).toNat).t.ve, (far (tabT ms) q (rAt (mAt ms (q.run - 1).toNat).t.slots (q.a).toNat)).2, (mAt E (q.run - 1).toNat).t.slots, (mAt E (q.run - 1).toNat).t.queue, (mAt E (q.run - 1).toNat).t.to⟩, (mAt E (q.run - 1).toNat).sa, (mAt E (q.run - 1).toNat).sc, (mAt E (q.run - 1).toNat).qa, (mAt E (q.run - 1).toNat).qc⟩ : MTh), by rw [hf, ai], by first | omega | (simp only [List.length_set, Yb]; try omega), dr, cz, by rw [hf], (KeepsI.own bp bu ck (by decide) (by omega) (by omega))⟩
 refine Xz (Y3 (Xu (Xa (Xd (v := .slice (pa B) ms.length cap) ac Z (Xc (o' := 1) Q5 ad Z Z (Xh (v := vi q.run) X1 Z ((al.grown0 af).cell Z) Z (Yr (c := q.run - 1) Z Z (by omega) (by omega) (by omega) Z (Xd (v := vi (check1 (tabT ms) q)) ar Z (X4 (o' := (q.run - 1).toNat * 8) Qc Z Z (by omega) (by omega) (by omega) Z (Xc (o' := (q.run - 1).toNat * 8 + 4) Qw Z Z Z ?_))))))))))
 have cl := (cf.grown0 af)
 refine Q7 (g := MTh.cells) (j := 4) (z := (mAt ms (q.run - 1).toNat)) (z' := (⟨⟨(mAt ms (q.run - 1).toNat).t.kind, (mAt ms (q.run - 1).toNat).t.lab, (mAt ms (q.run - 1).toNat).t.ve, check1 (tabT ms) q, (mAt ms (q.run - 1).toNat).t.slots, (mAt ms (q.run - 1).toNat).t.queue, (mAt ms (q.run - 1).toNat).t.to⟩, (mAt ms (q.run - 1).toNat).sa, (mAt ms (q.run - 1).toNat).sc, (mAt ms (q.run - 1).toNat).qa, (mAt ms (q.run - 1).toNat).qc⟩ : MTh)) (v := vi (check1 (tabT ms) q)) X1 Z Z Z Yj cl (xg ms (q.run - 1).toNat) (by omega) Z Z ?_
 intro ic dt bv
 have c8 : RowsO 33 3 lo ic (ms.set (q.run - 1).toNat (⟨⟨(mAt ms (q.run - 1).toNat).t.kind, (mAt ms (q.run - 1).toNat).t.lab, (mAt ms (q.run - 1).toNat).t.ve, check1 (tabT ms) q, (mAt ms (q.run - 1).toNat).t.slots, (mAt ms (q.run - 1).toNat).t.queue, (mAt ms (q.run - 1).toNat).t.to⟩, (mAt ms (q.run - 1).toNat).sa, (mAt ms (q.run - 1).toNat).sc, (mAt ms (q.run - 1).toNat).qa, (mAt ms (q.run - 1).toNat).qc⟩ : MTh)) := RowsO.set (RowsO.own (RowsO.low a9 af) bv cl (by decide) (by decide)) (lq (q.run - 1).toNat ms.length) ⟨rfl, rfl, rfl⟩ ⟨rfl, rfl, rfl⟩
 refine Xb (Xa (Xd (v := .slice (pa B) ms.length cap) ac Z (Xd (v := vi (check1 (tabT ms) q)) ar Z (Xe (v := .slice (pa B) ms.length cap) Z Z (Xe (v := vi (check1 (tabT ms) q)) Z Z (Xb (Xt ?_)))))))
 have hf : doCall (tabT ms) q = (tabT (ms.set (q.run - 1).toNat (⟨⟨(mAt ms (q.run - 1).toNat).t.kind, (mAt ms (q.run - 1).toNat).t.lab, (mAt ms (q.run - 1).toNat).t.ve, check1 (tabT ms) q, (mAt ms (q.run - 1).toNat).t.slots, (mAt ms (q.run - 1).toNat).t.queue, (mAt ms (q.run - 1).toNat).t.to⟩, (mAt ms (q.run - 1).toNat).sa, (mAt ms (q.run - 1).toNat).sc, (mAt ms (q.run - 1).toNat).qa, (mAt ms (q.run - 1).toNat).qc⟩ : MTh)), check1 (tabT ms) q) := Oy ak an bd rfl
 exact ⟨.tuple #[.slice (pa B) ms.length cap, vi (check1 (tabT ms) q)], Gv Z Z Z, ms.set (q.run - 1).toNat (⟨⟨(mAt ms (q.run - 1).toNat).t.kind, (mAt ms (q.run - 1).toNat).t.lab, (mAt ms (q.run - 1).toNat).t.ve, check1 (tabT ms) q, (mAt ms (q.run - 1).toNat).t.slots, (mAt ms (q.run - 1).toNat).t.queue, (mAt ms (q.run - 1).toNat).t.to⟩, (mAt ms (q.run - 1).toNat).sa, (mAt ms (q.run - 1).toNat).sc, (mAt ms (q.run - 1).toNat).qa, (mAt ms (q.run - 1).toNat).qc⟩ : MTh), by rw [hf], by first | omega | (simp only [List.length_set, Yb]; try omega), dt, c8, by rw [hf], (KeepsI.own bj bv cl (by decide) (by omega) (by omega))⟩
end Go.Proofs.YtlhhijnmacogcaaGreatDoor
end
section
namespace Go.Dw
def chkAll (ts : List Th) (q : Cl) : Int := if callPoss ts q = true then check1 ts q else -1
def tabLive (ts : List Th) (r : Rt) : Bool := (tableOk ts && rightOk r) && live ts r
def kindsOf (c : Int) : List Int := if c = 1 ∨ c = 2 then [1] else if c = 4 ∨ c = 5 then [2] else if c = 6 ∨ c = 7 then [4] else if c = 9 then [5] else [1, 2, 4]
theorem Ie (c x : Int) : (kindsOf c).any (fun y => decide (y = x)) = kindFor c x := by
  have e : ∀ a b : Int, decide (a = b) = decide (b = a) := fun a b => by rw [Bool.eq_iff_iff]; simp [eq_comm]
  unfold kindsOf kindFor
  split
  · simp [e 1 x]
  split
  · simp [e 2 x]
  split
  · simp [e 4 x]
  split
  · simp [e 5 x]
  · simp [e 1 x, e 2 x, e 4 x, Bool.or_assoc]
section
variable {ts : List Th} {q : Cl}
theorem W8 : -3 ≤ chkAll ts q ∧ chkAll ts q ≤ 0 := by
  have := Kh ts q
  unfold chkAll
  split <;> omega
theorem Jn (h : callPoss ts q = true) : chkAll ts q = check1 ts q := by unfold chkAll; rw [if_pos h]
theorem L2 (h : callPoss ts q = false) : chkAll ts q = -1 := by unfold chkAll; rw [h]; rfl
theorem Hf (h : (((!tableOk ts) || (!callOk q)) || (!kindAt ts q.run 3)) = true) : callPoss ts q = false := by
  unfold callPoss
  cases h1 : tableOk ts <;> cases h2 : callOk q <;> cases h3 : kindAt ts q.run 3 <;> simp_all
theorem Uy (h : (((!tableOk ts) || (!callOk q)) || (!kindAt ts q.run 3)) = false) : callPoss ts q = true := by
  unfold callPoss
  cases h1 : tableOk ts <;> cases h2 : callOk q <;> cases h3 : kindAt ts q.run 3 <;> simp_all
theorem Wf (h : ¬ chkAll ts q = -1) : callPoss ts q = true := by
  unfold chkAll at h
  split at h
  · assumption
  · exact absurd rfl h
theorem Tx (h : ¬ chkAll ts q = -1) (h3 : ¬ q.kind = 3) : (1 ≤ (slotAt ts q.run q.a).th ∧ (slotAt ts q.run q.a).th ≤ (ts.length : Int)) ∧ kindFor q.kind (thAt ts (slotAt ts q.run q.a).th).kind = true ∧ (need0 q.kind = true → (slotAt ts q.run q.a).rd = true) ∧ (need1 q.kind = true → (slotAt ts q.run q.a).wr = true) := by
  have hp := Wf h
  obtain ⟨hT, hc, hr⟩ := Yw hp
  have hs := Kx hT (Qr hr).1 q.a
  rw [Jn hp] at h
  unfold check1 at h
  rw [if_neg h3] at h
  split at h
  · exact absurd rfl h
  rename_i h1
  unfold chk1 at h1
  simp only [Bool.or_eq_true, Bool.and_eq_true, Bool.not_eq_true', decide_eq_true_eq, not_or, not_and, Bool.not_eq_false] at h1
  obtain ⟨⟨⟨h0, hk⟩, hr1⟩, hw1⟩ := h1
  refine ⟨?_, hk, hr1, hw1⟩
  have h2 := hs.2
  unfold rightTo at h2
  rw [Bool.or_eq_true] at h2
  rcases h2 with h2 | h2
  · exact absurd (of_decide_eq_true h2) h0
  · exact Qi.1 (Bool.and_eq_true_iff.1 h2).1
theorem Mz (h : ¬ chkAll ts q = -1) (h2 : ¬ chkAll ts q = -2) (h3 : ¬ q.kind = 3) : (need0 q.kind = true → sees ts q.run (slotAt ts q.run q.a).th = true) ∧ (need1 q.kind = true → touches ts q.run (slotAt ts q.run q.a).th = true) := by
  have hp := Wf h
  rw [Jn hp] at h h2
  unfold check1 at h h2
  rw [if_neg h3] at h h2
  split at h
  · exact absurd rfl h
  rename_i h1
  rw [if_neg h1] at h2
  split at h2
  · exact absurd rfl h2
  rename_i h4
  unfold chk2 at h4
  simp only [Bool.or_eq_true, Bool.and_eq_true, Bool.not_eq_true', not_or, not_and, Bool.not_eq_false] at h4
  exact h4
theorem M0 (h : chkAll ts q = 0) (h3 : ¬ q.kind = 3) (hs : sees ts q.run (slotAt ts q.run q.a).th = true) : live ts (slotAt ts q.run q.a) = true := by
  have hp := Wf (ts := ts) (q := q) (by omega)
  rw [Jn hp] at h
  unfold check1 at h
  rw [if_neg h3] at h
  split at h
  · exact absurd h (by decide)
  split at h
  · exact absurd h (by decide)
  split at h
  · exact absurd h (by decide)
  rename_i h4
  unfold chk3 at h4
  rw [hs] at h4
  simpa using h4
theorem S1 (hT : tableOk ts = true) (hk : kindAt ts q.run 3 = true) : tabLive ts (slotAt ts q.run q.a) = live ts (slotAt ts q.run q.a) := by
  unfold tabLive
  rw [hT, (Kx hT (Qr hk).1 q.a).1]
  rfl
theorem Xby {ms : List MTh} {run th : Int} (hT : tableOk (tabT ms) = true) (hr : 1 ≤ run ∧ run ≤ (ms.length : Int)) (ht : 1 ≤ th ∧ th ≤ (ms.length : Int)) : labelFlow (mAt ms (th - 1).toNat).t.lab (mAt ms (run - 1).toNat).t.lab = sees (tabT ms) run th := by
  rw [← I2]
  unfold labelFlow
  rw [Ug hT (i := (th - 1).toNat) (by omega), Ug hT (i := (run - 1).toNat) (by omega)]
  rfl
theorem Mm {ms : List MTh} {run th : Int} (hT : tableOk (tabT ms) = true) (hr : 1 ≤ run ∧ run ≤ (ms.length : Int)) (ht : 1 ≤ th ∧ th ≤ (ms.length : Int)) : labelFlow (mAt ms (run - 1).toNat).t.lab (mAt ms (th - 1).toNat).t.lab = touches (tabT ms) run th := by
  rw [← Nq]
  unfold labelFlow
  rw [Ug hT (i := (th - 1).toNat) (by omega), Ug hT (i := (run - 1).toNat) (by omega)]
  rfl
theorem T2 {c : Int} : (kindsOf c).length ≤ 3 := by
  unfold kindsOf
  repeat' split
  all_goals decide
theorem Xbk {ms : List MTh} {r : Rt} (h : (decide (r.th = 0) || !kindFor q.kind (mAt ms (r.th - 1).toNat).t.kind) = true) : chk1m ms q r = true := by unfold chk1m; rw [h]; rfl
theorem Xbl {ms : List MTh} {r : Rt} (h : (decide (r.th = 0) || !kindFor q.kind (mAt ms (r.th - 1).toNat).t.kind) = false) (h2 : ((need0 q.kind && !r.rd) || (need1 q.kind && !r.wr)) = true) : chk1m ms q r = true := by unfold chk1m; rw [h, Bool.false_or]; exact h2
theorem Sh {ms : List MTh} {r : Rt} (h : (decide (r.th = 0) || !kindFor q.kind (mAt ms (r.th - 1).toNat).t.kind) = false) (h2 : ((need0 q.kind && !r.rd) || (need1 q.kind && !r.wr)) = false) : chk1m ms q r = false := by unfold chk1m; rw [h, Bool.false_or]; exact h2
theorem Zm {r : Rt} (h : rightOk r = true) (h0 : decide (r.th = 0) = true) : r = Rt.zero := by
  rw [← Nh h0] at h
  exact of_decide_eq_true h
theorem Gg {ms : List MTh} {i j : Nat} {m : MTh} (hi : i < ms.length) (hne : ¬ j = i) : (ms.set j m)[i]? = some (mAt ms i) := by
  rw [List.getElem?_set_ne hne]
  exact Q0 hi
theorem W1 {ms : List MTh} {i j : Nat} {m : MTh} {α : Type} {f : MTh → α} (hi : i < ms.length) (hne : ¬ j = i) : f (mAt ms i) = f (mAt (ms.set j m) i) := by
  have h := Gg (m := m) hi hne
  have h2 := Q0 (ms := ms.set j m) (i := i) (by rw [List.length_set]; exact hi)
  rw [h] at h2
  rw [Option.some.inj h2]
end
end Go.Dw
end
section
namespace Go.Dw
section
variable {ts : List Th} {q : Cl}
def doPre (ts : List Th) (q : Cl) : List Th :=
  if check1 ts q < 0 then ts else if q.kind = 3 then putSl ts q.run q.b (lessBits (slotAt ts q.run q.a) q.n) else if live ts (slotAt ts q.run q.a) = true then (far ts q (slotAt ts q.run q.a)).1 else ts
def doAns (ts : List Th) (q : Cl) : Int :=
  if check1 ts q < 0 then check1 ts q else if q.kind = 3 then check1 ts q else if live ts (slotAt ts q.run q.a) = true then told ts q (slotAt ts q.run q.a) else check1 ts q
theorem L3 : doCall ts q = (setNum (doPre ts q) q.run (doAns ts q), doAns ts q) := by
  unfold doCall doPre doAns
  split
  · rfl
  split
  · rfl
  split <;> rfl
def Like (a b : Th) : Prop := b.kind = a.kind ∧ b.lab = a.lab ∧ b.to = a.to ∧ a.ve ≤ b.ve
theorem Like.refl (a : Th) : Like a a := ⟨rfl, rfl, rfl, Int.le_refl _⟩
theorem Like.trans {a b c : Th} (h : Like a b) (k : Like b c) : Like a c := ⟨k.1.trans h.1, k.2.1.trans h.2.1, k.2.2.1.trans h.2.2.1, Int.le_trans h.2.2.2 k.2.2.2⟩
theorem V6 {us : List Th} {k : Int} {t : Th} (hk : 1 ≤ k ∧ k ≤ (us.length : Int)) (h : Like (thAt us k) t) (j : Int) (hj : 1 ≤ j) : Like (thAt us j) (thAt (setTh us k t) j) := by
  rw [Jf hk j hj]
  split
  · rename_i e; rw [e]; exact h
  · exact Like.refl _
theorem P9 {r : Rt} (h : FarOk ts q r) (j : Int) (hj : 1 ≤ j) : Like (thAt ts j) (thAt (far ts q r).1 j) := by
  have hrun := (Qr h.run).1
  have hc := Yx h.call
  have hn := h.copy
  unfold far
  split
  · exact Like.refl _
  split
  · refine V6 h.th ?_ j hj; exact ⟨rfl, rfl, rfl, Int.le_refl _⟩
  split
  · refine V6 hrun ?_ j hj; exact ⟨rfl, rfl, rfl, Int.le_refl _⟩
  split
  · refine V6 h.th ?_ j hj; exact ⟨rfl, rfl, rfl, Int.le_refl _⟩
  split
  · split
    · refine V6 h.th ?_ j hj; exact ⟨rfl, rfl, rfl, Int.le_refl _⟩
    · exact Like.refl _
  split
  · split
    · exact Like.refl _
    · refine V6 h.th ?_ j hj; exact ⟨rfl, rfl, rfl, Int.le_refl _⟩
  split
  · split
    · refine V6 h.th ?_ j hj; exact ⟨rfl, rfl, rfl, by show _ ≤ (_ : Int) + 1; omega⟩
    · exact Like.refl _
  · rename_i e1 e2 e4 e5 e6 e7 e8
    have h5 := (Q2 h.kind hc.1).2.2.2.2.2.2.2 (by omega)
    have hg := Qr (W0 h.tab h.th h5)
    have h1 := V6 (t := { thAt ts (thAt ts r.th).to with num := q.n % 2 }) hg.1 ⟨rfl, rfl, rfl, Int.le_refl _⟩ j hj
    have hth : 1 ≤ r.th ∧ r.th ≤ ((setNum ts (thAt ts r.th).to (q.n % 2)).length : Int) := by unfold setNum; rw [Qu]; exact h.th
    show Like (thAt ts j) (thAt (setTh (setNum ts (thAt ts r.th).to (q.n % 2)) r.th _) j)
    rw [Jf hth j hj]
    split
    · rename_i e; rw [e]; exact ⟨rfl, rfl, rfl, Int.le_refl _⟩
    · exact h1
theorem L4 (hp : callPoss ts q = true) : (doPre ts q).length = ts.length := by
  unfold doPre
  split
  · rfl
  rename_i h0
  split
  · exact Qu
  rename_i h3
  split
  · rename_i hl
    exact (N0 (Gk hp h0 h3 hl)).2.1
  · rfl
theorem Xbx (hp : callPoss ts q = true) : 1 ≤ q.run ∧ q.run ≤ ((doPre ts q).length : Int) := by rw [L4 hp]; exact (Qr (Yw hp).2.2).1
theorem Oh {us vs : List Th} (hl : us.length = vs.length) (h : ∀ j : Int, 1 ≤ j → j ≤ (us.length : Int) → thAt us j = thAt vs j) : us = vs := by
  refine List.ext_getElem? fun i => ?_
  by_cases hi : i < us.length
  · have h1 := h ((i : Int) + 1) (by omega) (by omega)
    have e : ((i : Int) + 1 - 1).toNat = i := by omega
    have h2 := Ll (ts := us) (k := (i : Int) + 1) ⟨by omega, by omega⟩
    have h3 := Ll (ts := vs) (k := (i : Int) + 1) ⟨by omega, by omega⟩
    rw [e] at h2 h3
    rw [h2, h3, h1]
  · rw [List.getElem?_eq_none (by omega), List.getElem?_eq_none (by omega)]
theorem U0 (h : check1 ts q < 0) : doAns ts q = check1 ts q ∧ doPre ts q = ts := by
  unfold doAns doPre
  rw [if_pos h, if_pos h]
  exact ⟨rfl, rfl⟩
theorem Kb (h : callPoss ts q = true) : callDo ts q = doCall ts q := by unfold callDo; rw [if_pos h]
theorem Wx (h : callPoss ts q = false) : callDo ts q = ([], -1) := by unfold callDo; rw [h]; rfl
theorem TabG.nil {lo : Nat} {w : World} {a : Option Addr} : TabG lo w a [] := ⟨fun k x h => by simp at h, fun m hm => by cases hm⟩
theorem Kq {xs : List MTh} (h : tabT xs = (callDo ts q).1) : TabLen xs := by
  cases hp : callPoss ts q with
  | true => exact TabLen.ok (by rw [h, Kb hp]; exact (V1 hp).1)
  | false =>
    rw [Wx hp] at h
    have : xs = [] := List.map_eq_nil_iff.1 h
    rw [this]
    intro m hm
    cases hm
theorem J8 {xs : List MTh} (h : tabT xs = (callDo ts q).1) : xs.length ≤ 8 := by
  cases hp : callPoss ts q with
  | true =>
    have hT : tableOk (tabT xs) = true := by rw [h, Kb hp]; exact (V1 hp).1
    exact (Jk hT).2
  | false =>
    rw [Wx hp] at h
    have : xs = [] := List.map_eq_nil_iff.1 h
    rw [this]
    exact Nat.zero_le _
theorem Vk {ms xs : List MTh} (h : tabT xs = (callDo (tabT ms) q).1) (hp : callPoss (tabT ms) q = true) : xs.length = ms.length := by
  have := congrArg List.length h
  rwa [Kb hp, (V1 hp).2.1, Y5, Y5] at this
def rc (ns : List Int) (k : Int) (j : Nat) : Int := if (j : Int) < k then iAt ns j else 0
theorem Vx {ns : List Int} {k : Int} {j : Nat} (h : (ns.length : Int) ≤ k) : rc ns k j = iAt ns j := by
  unfold rc
  split
  · rfl
  · unfold iAt
    rw [List.getD_eq_getElem?_getD, List.getElem?_eq_none (by omega)]
    rfl
theorem q_0 {l : List Int} (h : l.length = 0) (n : Int) : [n] = l ++ [n] := by
  rw [List.length_eq_zero_iff.1 h]; rfl
theorem q_1 {l : List Int} (h : l.length = 1) (n : Int) : [iAt l 0, n] = l ++ [n] := by
  obtain ⟨a, rfl⟩ := List.length_eq_one_iff.1 h
  rfl
theorem q_2 {l : List Int} (h : l.length = 2) (n : Int) : [iAt l 0, iAt l 1, n] = l ++ [n] := by
  match l, h with
  | [a, b], _ => rfl
theorem t_1 {l : List Int} (h : l.length = 1) : [] = l.drop 1 := by
  match l, h with
  | [a], _ => rfl
theorem t_2 {l : List Int} (h : l.length = 2) : [iAt l 1] = l.drop 1 := by
  match l, h with
  | [a, b], _ => rfl
theorem t_3 {l : List Int} (h : l.length = 3) : [iAt l 1, iAt l 2] = l.drop 1 := by
  match l, h with
  | [a, b, c], _ => rfl
theorem Pj {zs ms : List MTh} {k : Nat} {m' : MTh} (h : (tabT zs).take k = (tabT ms).take k) (hk : k < zs.length) (hk2 : k < ms.length) (e : m'.t = (mAt ms k).t) : (tabT (zs.set k m')).take (k + 1) = (tabT ms).take (k + 1) := by
  apply List.ext_getElem?
  intro i
  rw [List.getElem?_take, List.getElem?_take]
  by_cases hi : i < k + 1
  · rw [if_pos hi, if_pos hi]
    unfold tabT
    rw [List.getElem?_map, List.getElem?_map, List.getElem?_set]
    by_cases e2 : k = i
    · subst e2
      rw [if_pos rfl, if_pos hk, Q0 hk2]
      simp [e]
    · rw [if_neg e2]
      have h3 := congrArg (fun l => l[i]?) h
      simp only [List.getElem?_take, tabT, List.getElem?_map] at h3
      rw [if_pos (by omega), if_pos (by omega)] at h3
      exact h3
  · rw [if_neg hi, if_neg hi]
theorem Pk {zs ms : List MTh} {k : Nat} (h : (tabT zs).take k = (tabT ms).take k) (h1 : zs.length ≤ k) (h2 : ms.length ≤ k) : tabT zs = tabT ms := by
  rwa [List.take_of_length_le (by rw [Y5]; exact h1), List.take_of_length_le (by rw [Y5]; exact h2)] at h
theorem Sy {TR TI lo n : Nat} {w : World} : RowsO TR TI lo w (List.replicate n MTh.zero) := by
  refine ⟨fun m hm => ?_, fun i j S hi hj _ e => ?_⟩
  · obtain ⟨_, rfl⟩ := List.mem_replicate.1 hm
    exact ⟨OwnN.nil, OwnN.nil⟩
  · exfalso
    have h1 := List.mem_of_getElem? (Q0 hi)
    have h2 := (List.mem_replicate.1 h1).2
    rw [h2] at e
    cases e
theorem M9 {r : Rt} (h : FarOk ts q r) : sees (far ts q r).1 q.run r.th = sees ts q.run r.th := by
  have h1 := P9 h q.run (Qr h.run).1.1
  have h2 := P9 h r.th h.th.1
  unfold sees
  rw [h1.2.1, h2.2.1]
theorem Gi (h0 : check1 ts q = 0) (h3 : ¬ q.kind = 3) (hl : live ts (slotAt ts q.run q.a) = false) : doAns ts q = 0 ∧ doPre ts q = ts := by
  have h1 : ¬ check1 ts q < 0 := by omega
  refine ⟨?_, ?_⟩
  · unfold doAns
    rw [if_neg h1, if_neg h3, if_neg (by rw [hl]; exact Bool.false_ne_true)]
    exact h0
  · unfold doPre
    rw [if_neg h1, if_neg h3, if_neg (by rw [hl]; exact Bool.false_ne_true)]
theorem Ua {r : Rt} (hr : slotAt ts q.run q.a = r) (h0 : check1 ts q = 0) (h3 : ¬ q.kind = 3) (hl : live ts r = true) (hF : FarOk ts q r) : doAns ts q = (if sees ts q.run r.th = true then (far ts q r).2 else 0) ∧ doPre ts q = (far ts q r).1 := by
  subst hr
  have h1 : ¬ check1 ts q < 0 := by omega
  refine ⟨?_, ?_⟩
  · unfold doAns told
    rw [if_neg h1, if_neg h3, if_pos hl, M9 hF]
  · unfold doPre
    rw [if_neg h1, if_neg h3, if_pos hl]
theorem Gh {r : Rt} (hr : slotAt ts q.run q.a = r) (h3 : q.kind = 3) : doAns ts q = 0 ∧ doPre ts q = putSl ts q.run q.b (lessBits r q.n) := by
  subst hr
  have hc : check1 ts q = 0 := by unfold check1; rw [if_pos h3]
  have h1 : ¬ check1 ts q < 0 := by omega
  refine ⟨?_, ?_⟩
  · unfold doAns
    rw [if_neg h1, if_pos h3]
    exact hc
  · unfold doPre
    rw [if_neg h1, if_pos h3]
theorem Ms {n : Int} (h : 0 ≤ n ∧ n ≤ 99) : (!decide (bits .and .i64 n 1 = 0)) = decide (n % 2 = 1) ∧ (!decide (bits .and .i64 n 2 = 0)) = decide (n / 2 % 2 = 1) ∧ (!decide (bits .and .i64 n 4 = 0)) = decide (n / 4 % 2 = 1) := by
  have key : ∀ k : Fin 100, (!decide (bits .and .i64 (k.val : Int) 1 = 0)) = decide ((k.val : Int) % 2 = 1) ∧ (!decide (bits .and .i64 (k.val : Int) 2 = 0)) = decide ((k.val : Int) / 2 % 2 = 1) ∧ (!decide (bits .and .i64 (k.val : Int) 4 = 0)) = decide ((k.val : Int) / 4 % 2 = 1) := by decide +kernel
  have h1 := key ⟨n.toNat, by omega⟩
  have e : ((n.toNat : Nat) : Int) = n := by omega
  simp only [e] at h1
  exact h1
theorem Im {r : Rt} {n : Int} (h : 0 ≤ n ∧ n ≤ 99) : l2Less r (!decide (bits .and .i64 n 1 = 0)) (!decide (bits .and .i64 n 2 = 0)) (!decide (bits .and .i64 n 4 = 0)) = lessBits r n := by
  obtain ⟨h1, h2, h3⟩ := Ms h
  unfold lessBits
  rw [h1, h2, h3]
theorem Vp : (doCall ts q).1 = setNum (doPre ts q) q.run (doAns ts q) := by rw [L3]
theorem P8 : (doCall ts q).2 = doAns ts q := by rw [L3]
theorem Xce {ms : List MTh} : (((tableOk (tabT ms) && callOk q) && decide (q.run ≤ (ms.length : Int))) && decide ((mAt ms (q.run - 1).toNat).t.kind = 3)) = callPoss (tabT ms) q := by
  unfold callPoss
  rw [← Gp]
  cases h1 : tableOk (tabT ms) <;> cases h2 : callOk q <;> try rfl
  have hco := Yx h2
  have e : inR q.run 1 (ms.length : Int) = decide (q.run ≤ (ms.length : Int)) := by
    unfold inR
    rw [decide_eq_true hco.2.1.1]
    rfl
  rw [e]
  rfl
theorem Ze (ms : List MTh) (k : Nat) : (mAt ms k).t = thAt (tabT ms) ((k : Int) + 1) := by
  have h := Qk ms ((k : Int) + 1)
  rwa [show ((k : Int) + 1 - 1).toNat = k by omega] at h
end
end Go.Dw
end
section
namespace Go.Proofs.YtlhhijnmacogcaaGreatDoor
open Go.RowKit Go.Dw
set_option maxRecDepth 100000
set_option maxHeartbeats 4000000
set_option linter.unusedSimpArgs false
set_option linter.unusedVariables false
theorem Z6 : goFn Tryz.prog 31 = true := by kernel_rfl
theorem Pf (q : Cl) (w : World) (ms : List MTh) (a : Option Addr) (c : Nat) (ht : TabAt w a ms) (hlen : TabLen ms) (hn : ms.length ≤ 1048576) : CallsR Tryz.prog 29 #[.slice a ms.length c, .agg #[vi q.kind, vi q.run, vi q.a, vi q.b, vi q.n]] w (fun v w' => v = vi (chkAll (tabT ms) q) ∧ w.grownBy w' none) := by
 refine Xx (n := 23) Tryz.func29 Z Tryz.ntmps29 Z ?_
 have a9 := World.grownBy.refl w none
 refine Xa (Y7 (v := .agg #[vi q.kind, vi q.run, vi q.a, vi q.b, vi q.n]) (cs := #[vi q.kind, vi q.run, vi q.a, vi q.b, vi q.n]) Z Z Z ?_)
 intro am ba O
 have bd := Yd O a9
 have ac := low0 a9 O.grw
 refine Xe (v := vi 0) Z Z (Xb (Xq (Ya (fun f' w' => (f' 0 = .slice a ms.length c ∧ f' 3 = pt am 0 ∧ f' 4 = vi 0 ∧ f' 19 = vb (((!tableOk (tabT ms)) || (!callOk q)) || (!kindAt (tabT ms) q.run 3))) ∧ ba.grownBy w' none) ?_ ?_)))
 refine Xd (v := .slice a ms.length c) Z Z (Xn F7 (Xf Z Xm) Z (Gf  _ ms _ _ (TabAt.low ht ac) hlen (by omega)) ?_)
 rintro _ bg ⟨rfl, J⟩
 refine Yn (b' := !tableOk (tabT ms)) Z Z Z (Xd (v := vb (!tableOk (tabT ms))) Z Z ?_)
 rcases Yg (!tableOk (tabT ms)) with G | G
 have aq := Jr G
 iterate 3 refine Xj rfl rfl rfl G rfl ?_
 refine Xw (v := vb true) Z G Z Z (Xd (v := vb true) Z Z ?_)
 iterate 5 refine Xj rfl rfl rfl rfl rfl ?_
 exact Xw (v := vb true) Z Z Z Z (Xb ⟨⟨Z, Z, Z, (cB (by simp [G, aq]))⟩, J⟩)
 have af := Q3 G
 refine Xg Z Z Z G ?_
 have aj := (O.blk.grown0 J)
 refine Xr (vs := [vi q.kind, vi q.run, vi q.a, vi q.b, vi q.n]) Y6 Z Z (aj.rangeL 0 5 Z) Z (Xg Z Z Z G (Xn Z6 (Xf Z Xm) Z (Nn q _) ?_))
 rintro _ bh ⟨rfl, V⟩
 refine Xg Z Z Z G (Yn (b' := !callOk q) Z Z Z (Xp (v := vb (!callOk q)) Z G Z Z (Xd (v := vb (!callOk q)) Z Z ?_)))
 rcases Yg (!callOk q) with E | E
 have ar := Jr E
 iterate 5 refine Xj rfl rfl rfl E rfl ?_
 exact Xw (v := vb true) Z E Z Z (Xb ⟨⟨Z, Z, Z, (cB (by simp [G, af, E, ar]))⟩, (grown_trans J V)⟩)
 have ag := Q3 E
 have bb := Yx ag
 refine Xg Z Z Z E (Xd (v := .slice a ms.length c) Z Z (Xg Z Z Z E (Xc (o' := 1) Q5 Z Z Z (Xg Z Z Z E (Xh (v := vi q.run) X1 Z ((aj.grown0 V).cell Z) Z (Xg Z Z Z E (Xn F8 (Xf Z (Xf Z Xm)) Z (Ld q.run (by omega) _ ms _ _ (TabAt.low ht (low0 (low0 ac J) V)) hlen (by omega)) ?_)))))))
 rintro _ bi ⟨rfl, ak⟩
 exact Xg Z Z Z E (Yn (b' := !kindAt (tabT ms) q.run 3) Z Z Z (Xp (v := vb (!kindAt (tabT ms) q.run 3)) Z E Z Z (Xb ⟨⟨Z, Z, Z, (cB (by simp [G, af, E, ag]))⟩, (grown_trans (grown_trans J V) ak)⟩)))
 rintro bf bj ⟨⟨an, ao, be, ap⟩, ae⟩
 have ad := low0 ac ae
 refine X0 ap (fun ab => ?_) (fun ab => ?_)
 refine Xa (Xe (v := vi (-1)) Z Z (Xb (Xt (Yk (⟨vi (-1), Yt Z Z, ?_, ad⟩)))))
 exact congrArg (Value.int .i64) (L2 (Hf ab)).symm
 have ah := Kl ab
 have au := Kl ah
 have av := Q3 au
 have aw := Km ah
 have ai := Q3 aw
 have bc := Yx ai
 have az := Km ab
 have a8 := Q3 az
 refine Xz (Xu (Xa (Xd (v := .slice a ms.length c) an Z (Xr (vs := [vi q.kind, vi q.run, vi q.a, vi q.b, vi q.n]) Y6 ao Z ((O.blk.grown0 ae).rangeL 0 5 Z) Z (Xn Xae (Xf Z (Xf Z Xm)) Z (Lc q _ ms _ _ (TabAt.low ht ad) hlen (by omega) av ai a8) ?_)))))
 rintro _ bk ⟨rfl, al⟩
 refine Xe (v := vi (check1 (tabT ms) q)) Z Z (Xb (Xt (⟨vi (check1 (tabT ms) q), Yt Z Z, ?_, (low0 ad al)⟩)))
 exact congrArg (Value.int .i64) (Jn (Uy ab)).symm
end Go.Proofs.YtlhhijnmacogcaaGreatDoor
end
section
namespace Go.Proofs.YtlhhijnmacogcaaGreatDoor
open Go.RowKit Go.Extern.Stop Go.Stop Go.Extern
theorem Xbe (t : Value) (w : World) :
    Calls Tryz.prog 46 #[.nilIface, t] w fun e w' => e = .returned (.bool false) ∧ w' = w := by
  go_enter Tryz.func46, Tryz.ntmps46
  go_wp2
  go_ret
  exact ⟨rfl, rfl⟩
theorem Nv (t : Addr) (w : World) : (ReflectliteValue.unpack (.iface 68 (.pointer (some t)))).run Tryz.prog w
    = .ok (.agg #[.pointer (some ⟨1, 68, none⟩), .pointer (some ⟨w.heap.size, 0, none⟩), .int .u64 150]) (w.alloc (.cells #[.pointer (some t)] 68)) := by kernel_rfl
theorem Tu (a : Addr) (w : World) : (ReflectliteValue.methodAny (ReflectliteValue.valueError "reflectlite.Value.Type" 0) (fun t _ _ _ => ReflectliteType.toType t) #[.agg #[.pointer (some ⟨1, 68, none⟩), .pointer (some a), .int .u64 150]]).run Tryz.prog w
    = .ok (.iface 121 (.agg #[.pointer (some ⟨1, 68, none⟩)])) w := by kernel_rfl
theorem Lw (h : Value) (w : World) : (Go.method 281 121 (.agg #[h]) "Kind").run Tryz.prog w = .ok (127, h) w := by kernel_rfl
theorem Ts (w : World) : ((ReflectliteType.abiMethod fun t => (fun a : Nat => Value.int IntKind.u8 (a : Int)) <$> Rtype.kind t) #[.pointer (some ⟨1, 68, none⟩)]).run Tryz.prog w = .ok (.int .u8 22) w := by kernel_rfl
theorem Mu (w : World) : ((ReflectliteType.abiMethod fun t => (fun a : Nat => Value.int IntKind.u8 (a : Int)) <$> Rtype.kind t) #[.pointer (some ⟨1, 63, none⟩)]).run Tryz.prog w = .ok (.int .u8 22) w := by kernel_rfl
theorem rlm (z : Sem Value) (f : TypeId → Addr → Nat → Nat → Sem Value) (v : Value) :
    ReflectliteValue.method z f #[v] = (do match ← ReflectliteValue.parts v with | none => z | some (t, a, fl) => f t a fl (fl % 32)) := rfl
theorem H0 (a : Addr) (w : World) : (ReflectliteValue.parts (.agg #[.pointer (some ⟨1, 68, none⟩), .pointer (some a), .int .u64 150])).run Tryz.prog w = .ok (some (68, a, 150)) w := by kernel_rfl
theorem Sb (a p : Addr) (W : World) (ha : W.cell? a = some (.pointer (some p))) :
    (ReflectliteValue.method (ReflectliteValue.valueError "reflectlite.Value.IsNil" 0) ReflectliteValue.isNil #[.agg #[.pointer (some ⟨1, 68, none⟩), .pointer (some a), .int .u64 150]]).run Tryz.prog W = .ok (.bool false) W := by
  rw [rlm]
  simp only [Sem.run_bind, H0, Result.andThen]
  simp [ReflectliteValue.isNil, loadVar, isAgg, underlying, Tryz.underlying68, ha, Result.andThen]
theorem Lv (h : Value) (w : World) : (Go.method 281 121 (.agg #[h]) "Elem").run Tryz.prog w = .ok (137, .agg #[h]) w := by kernel_rfl
theorem W4 (h : Value) (w : World) : (Go.method 281 121 (.agg #[h]) "Implements").run Tryz.prog w = .ok (138, .agg #[h]) w := by kernel_rfl
theorem Wc (h : Value) (w : World) : (Go.method 281 121 (.agg #[h]) "AssignableTo").run Tryz.prog w = .ok (135, .agg #[h]) w := by kernel_rfl
theorem Tr (w : World) : (ReflectliteType.method ReflectliteType.elem #[.agg #[.pointer (some ⟨1, 68, none⟩)]]).run Tryz.prog w = .ok (.iface 121 (.agg #[.pointer (some ⟨1, 63, none⟩)])) w := by kernel_rfl
theorem Hz (w : World) : (ReflectliteType.relation "Implements" ReflectliteType.implements_ #[.agg #[.pointer (some ⟨1, 63, none⟩)], .iface 121 (.agg #[.pointer (some ⟨1, 66, none⟩)])]).run Tryz.prog w = .ok (.bool true) w := by kernel_rfl
theorem Sd (v : Value) (w : World) : (ReflectliteType.typeOf #[.iface 63 v]).run Tryz.prog w = .ok (.iface 121 (.agg #[.pointer (some ⟨1, 63, none⟩)])) w := by kernel_rfl
theorem Hy (w : World) : (ReflectliteType.relation "AssignableTo" ReflectliteType.assignableTo #[.agg #[.pointer (some ⟨1, 63, none⟩)], .iface 121 (.agg #[.pointer (some ⟨1, 63, none⟩)])]).run Tryz.prog w = .ok (.bool true) w := by kernel_rfl
theorem P4 (e : Addr) (w : World) : (ReflectliteValue.unpack (.iface 63 (.pointer (some e)))).run Tryz.prog w
    = .ok (.agg #[.pointer (some ⟨1, 63, none⟩), .pointer (some ⟨w.heap.size, 0, none⟩), .int .u64 150]) (w.alloc (.cells #[.pointer (some e)] 63)) := by kernel_rfl
theorem P3 (w : World) : (Rtype.elem? 68).run Tryz.prog w = .ok (some 63) w := by kernel_rfl
theorem Xbd (p : Addr) (w : World) : (ReflectliteValue.mk 63 p ReflectliteValue.flagAddr).run Tryz.prog w = .ok (.agg #[.pointer (some ⟨1, 63, none⟩), .pointer (some p), .int .u64 406]) w := by kernel_rfl
theorem Sa (a p : Addr) (W : World) (ha : W.cell? a = some (.pointer (some p))) :
    (ReflectliteValue.method (ReflectliteValue.valueError "reflectlite.Value.Elem" 0) ReflectliteValue.elem #[.agg #[.pointer (some ⟨1, 68, none⟩), .pointer (some a), .int .u64 150]]).run Tryz.prog W
      = .ok (.agg #[.pointer (some ⟨1, 63, none⟩), .pointer (some p), .int .u64 406]) W := by
  rw [rlm]
  simp only [Sem.run_bind, H0, Result.andThen]
  simp [ReflectliteValue.elem, loadVar, isAgg, underlying, Tryz.underlying68, ha, Result.andThen, P3, Xbd]
theorem rls (v x : Value) : ReflectliteValue.set #[v, x] = (do
    let (some (dst, a, fl), some (src, b, _)) := (← ReflectliteValue.parts v, ← ReflectliteValue.parts x)
      | unsupported (.noEntry "extern/(internal/reflectlite.Value).Set.zeroValue")
    if fl / ReflectliteValue.flagAddr % 2 == 0 then unsupported (.noEntry "extern/(internal/reflectlite.Value).Set.unaddressable")
    let val ← loadVar src b
    if ← Rtype.directlyAssignable dst src then storeVar dst a val
    else if ← Rtype.implements dst src then
      if (← Rtype.kind src) == 20 then
        match val with
        | .nilIface => unsupported (.noEntry "extern/reflectlite: a nil value of one interface type handed on as a value of another")
        | _ => storeVar dst a val
      else storeVar dst a (.iface src val)
    else panicString ("reflectlite.Set: value of type " ++ (← Rtype.spelt src) ++ " is not assignable to type " ++ (← Rtype.spelt dst))
    pure (.tuple #[])) := rfl
theorem Sc (a : Addr) (w : World) : (ReflectliteValue.parts (.agg #[.pointer (some ⟨1, 63, none⟩), .pointer (some a), .int .u64 406])).run Tryz.prog w = .ok (some (63, a, 406)) w := by kernel_rfl
theorem Tt (a : Addr) (w : World) : (ReflectliteValue.parts (.agg #[.pointer (some ⟨1, 63, none⟩), .pointer (some a), .int .u64 150])).run Tryz.prog w = .ok (some (63, a, 150)) w := by kernel_rfl
theorem R9 (w : World) : (Rtype.directlyAssignable 63 63).run Tryz.prog w = .ok true w := by kernel_rfl
theorem Oq (ta b e : Addr) (old : Value) (W : World) (hb : W.cell? b = some (.pointer (some e))) (ht : W.cell? ta = some old) (hf : W.frozen? ta = false) :
    (ReflectliteValue.set #[.agg #[.pointer (some ⟨1, 63, none⟩), .pointer (some ta), .int .u64 406], .agg #[.pointer (some ⟨1, 63, none⟩), .pointer (some b), .int .u64 150]]).run Tryz.prog W
      = .ok (.tuple #[]) (W.setCell ta (.pointer (some e))) := by
  rw [rls]
  simp only [Sem.run_bind, Sc, Tt, Result.andThen]
  simp [ReflectliteValue.flagAddr, loadVar, isAgg, underlying, Tryz.underlying63, hb, Result.andThen, R9, storeVar, Value.cells, storeCells, Addr.add]
  rw [run_store Tryz.prog W ta _ _ (by rfl)]
  simp [ht, hf]
set_option maxHeartbeats 4000000 in
theorem Xbc (e t : Addr) (old : Value) (w : World) (hg : w.cell? ⟨0, 0, none⟩ = some (.iface 121 (.agg #[.pointer (some ⟨1, 66, none⟩)]))) (ht0 : w.cell? t = some old) (hf0 : w.frozen? t = false) :
    Calls Tryz.prog 46 #[.iface 63 (.pointer (some e)), .iface 68 (.pointer (some t))] w fun ev w' => ev = .returned (.bool true) ∧ w' = ((((w.alloc (.cells #[.pointer (some t)] 68)).alloc (.cells #[.pointer (some ⟨1, 68, none⟩), .pointer (some ⟨w.heap.size, 0, none⟩), .int .u64 150] 92)).alloc (.cells #[.pointer (some ⟨1, 68, none⟩), .pointer (some ⟨w.heap.size, 0, none⟩), .int .u64 150] 92)).alloc (.cells #[.pointer (some e)] 63)).setCell t (.pointer (some e)) := by
  have h6 := @run_callFunc_extern Tryz.prog 65 _ (fun args => ReflectliteValue.unpack (args.getD 0 (.tuple #[]))) Tryz.func65 (by kernel_rfl) (by kernel_rfl) (by kernel_rfl) (by kernel_rfl)
  have h7 := @run_callFunc_extern Tryz.prog 66 _ (ReflectliteValue.methodAny (ReflectliteValue.valueError "reflectlite.Value.Type" 0) (fun t _ _ _ => ReflectliteType.toType t)) Tryz.func66 (by kernel_rfl) (by kernel_rfl) (by kernel_rfl) (by kernel_rfl)
  have h8 := @run_callFunc_extern Tryz.prog 67 _ (ReflectliteValue.method (ReflectliteValue.valueError "reflectlite.Value.IsNil" 0) ReflectliteValue.isNil) Tryz.func67 (by kernel_rfl) (by kernel_rfl) (by kernel_rfl) (by kernel_rfl)
  have h27 := @run_callFunc_extern Tryz.prog 127 _ (ReflectliteType.abiMethod fun t => do pure (.int .u8 (← Rtype.kind t))) Tryz.func127 (by kernel_rfl) (by kernel_rfl) (by kernel_rfl) (by kernel_rfl)
  have h37 := @run_callFunc_extern Tryz.prog 137 _ (ReflectliteType.method ReflectliteType.elem) Tryz.func137 (by kernel_rfl) (by kernel_rfl) (by kernel_rfl) (by kernel_rfl)
  have h38 := @run_callFunc_extern Tryz.prog 138 _ (ReflectliteType.relation "Implements" ReflectliteType.implements_) Tryz.func138 (by kernel_rfl) (by kernel_rfl) (by kernel_rfl) (by kernel_rfl)
  have h10 := @run_callFunc_extern Tryz.prog 101 _ ReflectliteType.typeOf Tryz.func101 (by kernel_rfl) (by kernel_rfl) (by kernel_rfl) (by kernel_rfl)
  have h35 := @run_callFunc_extern Tryz.prog 135 _ (ReflectliteType.relation "AssignableTo" ReflectliteType.assignableTo) Tryz.func135 (by kernel_rfl) (by kernel_rfl) (by kernel_rfl) (by kernel_rfl)
  have h11 := @run_callFunc_extern Tryz.prog 102 _ (ReflectliteValue.method (ReflectliteValue.valueError "reflectlite.Value.Elem" 0) ReflectliteValue.elem) Tryz.func102 (by kernel_rfl) (by kernel_rfl) (by kernel_rfl) (by kernel_rfl)
  have h12 := @run_callFunc_extern Tryz.prog 103 _ ReflectliteValue.set Tryz.func103 (by kernel_rfl) (by kernel_rfl) (by kernel_rfl) (by kernel_rfl)
  have tO := Sd
  have mA := Wc
  have a25 := Hy
  have v25 := P4
  have f6 := Nv
  have f7 := Tu
  have mK := Lw
  have mE := Lv
  have mI := W4
  have k27 := Ts
  have k25 := Mu
  have e27 := Tr
  have i25 := Hz
  have n8 := Sb ⟨w.heap.size, 0, none⟩ t ((w.alloc (.cells #[.pointer (some t)] 68)).alloc (.cells #[.pointer (some ⟨1, 68, none⟩), .pointer (some ⟨w.heap.size, 0, none⟩), .int .u64 150] 92)) (by simp)
  have hlt : 0 < w.heap.size := by
    rcases Nat.lt_or_ge 0 w.heap.size with h | h
    · exact h
    · simp [World.cell?, Array.getElem?_eq_none h] at hg
  have hg2 : ((w.alloc (.cells #[.pointer (some t)] 68)).alloc (.cells #[.pointer (some ⟨1, 68, none⟩), .pointer (some ⟨w.heap.size, 0, none⟩), .int .u64 150] 92)).cell? ⟨0, 0, none⟩ = some (.iface 121 (.agg #[.pointer (some ⟨1, 66, none⟩)])) := by
    rw [World.cell?_alloc_lt _ _ ⟨0, 0, none⟩ (by simp), World.cell?_alloc_lt _ _ ⟨0, 0, none⟩ hlt]; exact hg
  have htl : t.block < w.heap.size := by
    rcases Nat.lt_or_ge t.block w.heap.size with h | h
    · exact h
    · simp [World.cell?, Array.getElem?_eq_none h] at ht0
  have el := Sa ⟨w.heap.size, 0, none⟩ t (((w.alloc (.cells #[.pointer (some t)] 68)).alloc (.cells #[.pointer (some ⟨1, 68, none⟩), .pointer (some ⟨w.heap.size, 0, none⟩), .int .u64 150] 92)).alloc (.cells #[.pointer (some ⟨1, 68, none⟩), .pointer (some ⟨w.heap.size, 0, none⟩), .int .u64 150] 92)) (by rw [World.cell?_alloc_lt _ _ ⟨w.heap.size, 0, none⟩ (by simp; omega)]; simp)
  have st := Oq t ⟨w.heap.size + 1 + 1 + 1, 0, none⟩ e old ((((w.alloc (.cells #[.pointer (some t)] 68)).alloc (.cells #[.pointer (some ⟨1, 68, none⟩), .pointer (some ⟨w.heap.size, 0, none⟩), .int .u64 150] 92)).alloc (.cells #[.pointer (some ⟨1, 68, none⟩), .pointer (some ⟨w.heap.size, 0, none⟩), .int .u64 150] 92)).alloc (.cells #[.pointer (some e)] 63))
    (by rw [World.cell?_alloc_at _ _ _ _ (by simp)]; rfl)
    (by rw [World.cell?_alloc_lt _ _ t (by simp; omega), World.cell?_alloc_lt _ _ t (by simp; omega), World.cell?_alloc_lt _ _ t (by simp; omega), World.cell?_alloc_lt _ _ t htl]; exact ht0)
    (by rw [World.frozen?_alloc_old _ _ t (by simp; omega), World.frozen?_alloc_old _ _ t (by simp; omega), World.frozen?_alloc_old _ _ t (by simp; omega), World.frozen?_alloc_old _ _ t (Nat.ne_of_lt htl)]; exact hf0)
  go_enter Tryz.func46, Tryz.ntmps46
  go_wp2
  refine wp_loop_rounds 1 ?_
  rw [rounds_succ]
  go_wp2
  go_ret
  exact ⟨rfl, rfl⟩
def ErrT (w : World) : Prop := w.cell? ⟨0, 0, none⟩ = some (.iface 121 (.agg #[.pointer (some ⟨1, 66, none⟩)]))
theorem ErrT.lt {w : World} (h : ErrT w) : 0 < w.heap.size := by
  rcases Nat.lt_or_ge 0 w.heap.size with h1 | h1
  · exact h1
  · simp [ErrT, World.cell?, Array.getElem?_eq_none h1] at h
theorem ErrT.grown0 {w w' : World} (h : ErrT w) (hg : w.grownBy w' none) : ErrT w' := by
  have h1 := hg.block 0 h.lt (by simp)
  unfold ErrT World.cell? at h ⊢
  rw [h1]; exact h
theorem Mv (t : Value) (w : World) : Dw.CallsR Tryz.prog 46 #[.nilIface, t] w fun v w' => v = .bool false ∧ w' = w :=
  Calls.mono (Xbe t w) fun _ _ ⟨h1, h2⟩ => ⟨_, h1, rfl, h2⟩
theorem Mt (e T : Nat) (old : Value) (w : World) (hg : ErrT w) (hT : Dw.Blk w T 63 #[old]) : Dw.CallsR Tryz.prog 46 #[.iface 63 (.pointer (some ⟨e, 0, none⟩)), .iface 68 (.pointer (some ⟨T, 0, none⟩))] w fun v w' => v = .bool true ∧ Dw.Blk w' T 63 #[.pointer (some ⟨e, 0, none⟩)] ∧ w.grownBy w' (some T) := by
  refine Calls.mono (Xbc ⟨e, 0, none⟩ ⟨T, 0, none⟩ old w hg (hT.cell rfl) (hT.froz 0)) ?_
  rintro _ _ ⟨rfl, rfl⟩
  have g4 := Dw.grown_trans (Dw.grown_trans (Dw.grown_trans (World.grownBy_alloc w (.cells #[.pointer (some ⟨T, 0, none⟩)] 68) none) (World.grownBy_alloc _ (.cells #[.pointer (some ⟨1, 68, none⟩), .pointer (some ⟨w.heap.size, 0, none⟩), .int .u64 150] 92) none)) (World.grownBy_alloc _ (.cells #[.pointer (some ⟨1, 68, none⟩), .pointer (some ⟨w.heap.size, 0, none⟩), .int .u64 150] 92) none)) (World.grownBy_alloc _ (.cells #[.pointer (some ⟨e, 0, none⟩)] 63) none)
  have hb := hT.grown0 g4
  have s := Dw.setB_setRow hb #[.pointer (some ⟨e, 0, none⟩)]
  refine ⟨_, rfl, rfl, ?_⟩
  rw [setCell_eq_setRow _ T 0 #[old] 63 (0, 0) _ hb]
  exact ⟨s.blk, Dw.grown_trans ⟨g4.os, g4.tape, g4.output, g4.size, fun i hi _ => g4.block i hi (by simp)⟩ s.grw⟩
end Go.Proofs.YtlhhijnmacogcaaGreatDoor
end
section
namespace Go.Proofs.YtlhhijnmacogcaaGreatDoor
open Go.RowKit Go.Dw
set_option maxRecDepth 100000
set_option maxHeartbeats 4000000
set_option linter.unusedSimpArgs false
set_option linter.unusedVariables false
theorem Wh : elemSz Tryz.prog 134 = some 6 := by kernel_rfl
theorem Vq : fieldOff Tryz.prog 103 0 = some 0 := by kernel_rfl
theorem Fv : fieldOff Tryz.prog 103 1 = some 1 := by kernel_rfl
theorem Fw : fieldOff Tryz.prog 103 2 = some 2 := by kernel_rfl
theorem Ra : fieldOff Tryz.prog 103 3 = some 3 := by kernel_rfl
theorem Fx : fieldOff Tryz.prog 103 4 = some 4 := by kernel_rfl
theorem Rb : fieldOff Tryz.prog 103 5 = some 5 := by kernel_rfl
theorem O2 : fieldOff Tryz.prog 70 0 = some 0 := by kernel_rfl
theorem Z7 : goFn Tryz.prog 35 = true := by kernel_rfl
theorem Ia : goFn Tryz.prog 42 = true := by kernel_rfl
theorem Xaa : goFn Tryz.prog 45 = true := by kernel_rfl
theorem Xab : goFn Tryz.prog 46 = true := by kernel_rfl
theorem Xac : goFn Tryz.prog 47 = true := by kernel_rfl
theorem Xaj : goFn Tryz.prog 64 = true := by kernel_rfl
theorem Xct : goFn Tryz.prog 69 = true := by kernel_rfl
theorem Xcu : goFn Tryz.prog 70 = true := by kernel_rfl
theorem Xak : goFn Tryz.prog 71 = true := by kernel_rfl
theorem Xdg : oneTy Tryz.prog 63 = true := by kernel_rfl
theorem Q8 : rowTy Tryz.prog 103 = some 6 := by kernel_rfl
theorem Uj : zeroTy Tryz.prog 103 = some (.agg #[.int .i64 0, .slice none 0 0, .bool false, .bool false, .bool false, .bool false]) := by kernel_rfl
theorem Xas : zeroTy Tryz.prog 63 = some (.pointer none) := by kernel_rfl
theorem Hi (run thing : Int) (w : World) (ms : List MTh) (a : Option Addr) (c : Nat) (ht : TabAt w a ms) (hlen : TabLen ms) (hn : ms.length ≤ 1048576) (hT : tableOk (tabT ms) = true) (hr : 1 ≤ run ∧ run ≤ (ms.length : Int)) (hth : 1 ≤ thing ∧ thing ≤ (ms.length : Int)) : CallsR Tryz.prog 45 #[.slice a ms.length c, vi run, vi thing] w (fun v w' => v = vb (sees (tabT ms) run thing) ∧ w.grownBy w' none) := by
 refine Xx (n := 20) Tryz.func45 Z Tryz.ntmps45 Z ?_
 have ac := World.grownBy.refl w none
 refine Xa (Xe (v := vb false) Z Z (Xb (Xq ?_)))
 obtain ⟨J, an, E, V, ah, aj⟩ := SlAt.at (TabAt.low ht ac).1 (Yp (xg ms (thing - 1).toNat))
 have al := TabLen.at hlen (xg ms (thing - 1).toNat)
 obtain ⟨O, ao, G, ab, ai, ak⟩ := SlAt.at (TabAt.low ht ac).1 (Yp (xg ms (run - 1).toNat))
 have am := TabLen.at hlen (xg ms (run - 1).toNat)
 refine Yy (m := 12) (vals := [(7, .slice a ms.length c), (8, vi thing), (9, vi (thing - 1)), (10, pt J E), (11, pt J (E + 1)), (12, .agg #[vi (mj ms thing).t.lab.s, vi (mj ms thing).t.lab.v]), (13, .slice a ms.length c), (14, vi run), (15, vi (run - 1)), (16, pt O G), (17, pt O (G + 1)), (18, .agg #[vi (mj ms run).t.lab.s, vi (mj ms run).t.lab.v])]) (fun w' => w.grownBy w' none) Yz (by kernel_rfl) (X8 _) ?_ ?_
 refine yl Z (fun _ _ k => Xd (v := .slice a ms.length c) Z Z k) (yl Z (fun _ _ k => Xd (v := vi thing) Z Z k) (yl Z (fun _ _ k => Yr (c := thing - 1) Z Z (by omega) (by omega) (by omega) Z k) (yl Z (fun _ _ k => X3 Qc Z Z V ah (by omega) (by omega) Z k) (yl Z (fun _ _ k => Xc (o' := E + 1) Ki Z Z Z k) (yl Z (fun _ ae k => Xr (vs := [vi (mj ms thing).t.lab.s, vi (mj ms thing).t.lab.v]) J6 Z Z (Y2 (Yi aj ae) 1 2 Z) Z k) (yl Z (fun _ _ k => Xd (v := .slice a ms.length c) Z Z k) (yl Z (fun _ _ k => Xd (v := vi run) Z Z k) (yl Z (fun _ _ k => Yr (c := run - 1) Z Z (by omega) (by omega) (by omega) Z k) (yl Z (fun _ _ k => X3 Qc Z Z ab ai (by omega) (by omega) Z k) (yl Z (fun _ _ k => Xc (o' := G + 1) Ki Z Z Z k) ?_))))))))))
 exact yl Z (fun _ af k => Xr (vs := [vi (mj ms run).t.lab.s, vi (mj ms run).t.lab.v]) J6 Z Z (Y2 (Yi ak af) 1 2 Z) Z k) Y8
 intro ap ag
 refine Xn Xaj (Xf Z (Xf Z Xm)) Z (Hc (mj ms thing).t.lab (mj ms run).t.lab _) ?_
 rintro _ aq ⟨rfl, ad⟩
 refine Xe (v := vb (labelFlow (mj ms thing).t.lab (mj ms run).t.lab)) Z Z (Xb (Xu (Xt (⟨vb (labelFlow (mj ms thing).t.lab (mj ms run).t.lab), Yt Z Z, ?_, (low0 (low0 ac ag) ad)⟩))))
 exact cB (Xby hT hr hth)
theorem Wj (run thing : Int) (w : World) (ms : List MTh) (a : Option Addr) (c : Nat) (ht : TabAt w a ms) (hlen : TabLen ms) (hn : ms.length ≤ 1048576) (hT : tableOk (tabT ms) = true) (hr : 1 ≤ run ∧ run ≤ (ms.length : Int)) (hth : 1 ≤ thing ∧ thing ≤ (ms.length : Int)) : CallsR Tryz.prog 71 #[.slice a ms.length c, vi run, vi thing] w (fun v w' => v = vb (touches (tabT ms) run thing) ∧ w.grownBy w' none) := by
 refine Xx (n := 20) Tryz.func71 Z Tryz.ntmps71 Z ?_
 have ac := World.grownBy.refl w none
 refine Xa (Xe (v := vb false) Z Z (Xb (Xq ?_)))
 obtain ⟨J, an, E, V, ah, aj⟩ := SlAt.at (TabAt.low ht ac).1 (Yp (xg ms (run - 1).toNat))
 have al := TabLen.at hlen (xg ms (run - 1).toNat)
 obtain ⟨O, ao, G, ab, ai, ak⟩ := SlAt.at (TabAt.low ht ac).1 (Yp (xg ms (thing - 1).toNat))
 have am := TabLen.at hlen (xg ms (thing - 1).toNat)
 refine Yy (m := 12) (vals := [(7, .slice a ms.length c), (8, vi run), (9, vi (run - 1)), (10, pt J E), (11, pt J (E + 1)), (12, .agg #[vi (mj ms run).t.lab.s, vi (mj ms run).t.lab.v]), (13, .slice a ms.length c), (14, vi thing), (15, vi (thing - 1)), (16, pt O G), (17, pt O (G + 1)), (18, .agg #[vi (mj ms thing).t.lab.s, vi (mj ms thing).t.lab.v])]) (fun w' => w.grownBy w' none) Yz (by kernel_rfl) (X8 _) ?_ ?_
 refine yl Z (fun _ _ k => Xd (v := .slice a ms.length c) Z Z k) (yl Z (fun _ _ k => Xd (v := vi run) Z Z k) (yl Z (fun _ _ k => Yr (c := run - 1) Z Z (by omega) (by omega) (by omega) Z k) (yl Z (fun _ _ k => X3 Qc Z Z V ah (by omega) (by omega) Z k) (yl Z (fun _ _ k => Xc (o' := E + 1) Ki Z Z Z k) (yl Z (fun _ ae k => Xr (vs := [vi (mj ms run).t.lab.s, vi (mj ms run).t.lab.v]) J6 Z Z (Y2 (Yi aj ae) 1 2 Z) Z k) (yl Z (fun _ _ k => Xd (v := .slice a ms.length c) Z Z k) (yl Z (fun _ _ k => Xd (v := vi thing) Z Z k) (yl Z (fun _ _ k => Yr (c := thing - 1) Z Z (by omega) (by omega) (by omega) Z k) (yl Z (fun _ _ k => X3 Qc Z Z ab ai (by omega) (by omega) Z k) (yl Z (fun _ _ k => Xc (o' := G + 1) Ki Z Z Z k) ?_))))))))))
 exact yl Z (fun _ af k => Xr (vs := [vi (mj ms thing).t.lab.s, vi (mj ms thing).t.lab.v]) J6 Z Z (Y2 (Yi ak af) 1 2 Z) Z k) Y8
 intro ap ag
 refine Xn Xaj (Xf Z (Xf Z Xm)) Z (Hc (mj ms run).t.lab (mj ms thing).t.lab _) ?_
 rintro _ aq ⟨rfl, ad⟩
 refine Xe (v := vb (labelFlow (mj ms run).t.lab (mj ms thing).t.lab)) Z Z (Xb (Xu (Xt (⟨vb (labelFlow (mj ms run).t.lab (mj ms thing).t.lab), Yt Z Z, ?_, (low0 (low0 ac ag) ad)⟩))))
 exact cB (Mm hT hr hth)
theorem Wm (r : Rt) (hr : -9223372036854775807 ≤ r.th) (w : World) (ms : List MTh) (a : Option Addr) (c : Nat) (ht : TabAt w a ms) (hlen : TabLen ms) (hn : ms.length ≤ 1048576) : CallsR Tryz.prog 42 #[.slice a ms.length c, .agg #[vi r.th, vi r.ve, vb r.rd, vb r.wr, vb r.wk]] w (fun v w' => v = vb (live (tabT ms) r) ∧ w.grownBy w' none) := by
 refine Xx (n := 21) Tryz.func42 Z Tryz.ntmps42 Z ?_
 have av := World.grownBy.refl w none
 refine Xa (Y7 (v := .agg #[vi r.th, vi r.ve, vb r.rd, vb r.wr, vb r.wk]) (cs := #[vi r.th, vi r.ve, vb r.rd, vb r.wr, vb r.wk]) Z Z Z ?_)
 intro J ab G
 have aw := Yd G av
 have O := low0 av G.grw
 refine Xe (v := vb false) Z Z (Xb (Kj (fun f' w' => (f' 4 = vb (inR r.th 1 (ms.length : Int) && (decide ((mj ms r.th).t.ve = r.ve)))) ∧ ab.grownBy w' none) ?_ ?_))
 rcases Yg (inR r.th 1 (ms.length : Int)) with E | E
 have a8 := Qi.1 E
 obtain ⟨ac, ba, V, ad, aq, ar⟩ := SlAt.at (TabAt.low ht O).1 (Yp (xg ms (r.th - 1).toNat))
 have az := TabLen.at hlen (xg ms (r.th - 1).toNat)
 refine Yy (m := 14) (vals := [(5, .slice a ms.length c), (6, pt J 0), (7, vi r.th), (8, vb (inR r.th 1 (ms.length : Int))), (9, vb (inR r.th 1 (ms.length : Int))), (10, .slice a ms.length c), (11, pt J 0), (12, vi r.th), (13, vi (r.th - 1)), (14, pt ac V), (15, pt ac (V + 3)), (16, vi (mj ms r.th).t.ve), (17, pt J 1), (18, vi r.ve)]) (fun w' => ab.grownBy w' none) Yz (by kernel_rfl) (X8 _) ?_ ?_
 refine yl Z (fun _ _ k => Xd (v := .slice a ms.length c) Z Z k) (yl Z (fun _ _ k => Xc (o' := 0) Yo Z Z Z k) (yl Z (fun _ ah k => Xh (v := vi r.th) X1 Z ((G.blk.grown0 ah).cell Z) Z k) ?_))
 refine Qh Z (fun bb ai => ?_) ?_
 refine Xn Ri (Xf Z (Xf Z Xm)) Z (K2 r.th _ _ _ _) ?_
 rintro _ bc ⟨rfl, ae⟩
 exact Xb ⟨Z, (grown_trans ai ae)⟩
 exact yl Z (fun _ _ k => Xd (v := vb (inR r.th 1 (ms.length : Int))) Z Z k) (yl Z (fun _ _ k => Xg Z Z Z E (Xd (v := .slice a ms.length c) Z Z k)) (yl Z (fun _ _ k => Xg Z Z Z E (Xc (o' := 0) Yo Z Z Z k)) (yl Z (fun _ aj k => Xg Z Z Z E (Xh (v := vi r.th) X1 Z ((G.blk.grown0 aj).cell Z) Z k)) (yl Z (fun _ _ k => Xg Z Z Z E (Yr (c := r.th - 1) Z Z (by omega) (by omega) (by omega) Z k)) (yl Z (fun _ _ k => Xg Z Z Z E (X3 Qc Z Z ad aq (by omega) (by omega) Z k)) (yl Z (fun _ _ k => Xg Z Z Z E (Xc (o' := V + 3) Qz Z Z Z k)) (yl Z (fun _ ak k => Xg Z Z Z E (Xh (v := vi (mj ms r.th).t.ve) X1 Z ((Yi ar ak) 3 _ Z) Z k)) (yl Z (fun _ _ k => Xg Z Z Z E (Xc (o' := 1) Kv Z Z Z k)) (yl Z (fun _ al k => Xg Z Z Z E (Xh (v := vi r.ve) X1 Z ((G.blk.grown0 al).cell Z) Z k)) Y8)))))))))
 intro bd am
 exact Xg Z Z Z E (X6 (q := decide ((mj ms r.th).t.ve = r.ve)) Z Z Z Z (Xw (v := vb (decide ((mj ms r.th).t.ve = r.ve))) Z E Z Z (Xe (v := vb (decide ((mj ms r.th).t.ve = r.ve))) Z Z (Xb (Xu ⟨(cB (by simp [E])), am⟩)))))
 refine Yy (m := 14) (vals := [(5, .slice a ms.length c), (6, pt J 0), (7, vi r.th), (8, vb (inR r.th 1 (ms.length : Int))), (9, vb (inR r.th 1 (ms.length : Int))), (10, undef), (11, undef), (12, undef), (13, undef), (14, undef), (15, undef), (16, undef), (17, undef), (18, undef)]) (fun w' => ab.grownBy w' none) Yz (by kernel_rfl) (X8 _) ?_ ?_
 refine yl Z (fun _ _ k => Xd (v := .slice a ms.length c) Z Z k) (yl Z (fun _ _ k => Xc (o' := 0) Yo Z Z Z k) (yl Z (fun _ an k => Xh (v := vi r.th) X1 Z ((G.blk.grown0 an).cell Z) Z k) ?_))
 refine Qh Z (fun be ao => ?_) ?_
 refine Xn Ri (Xf Z (Xf Z Xm)) Z (K2 r.th _ _ _ _) ?_
 rintro _ bf ⟨rfl, af⟩
 exact Xb ⟨Z, (grown_trans ao af)⟩
 exact yl Z (fun _ _ k => Xd (v := vb (inR r.th 1 (ms.length : Int))) Z Z k) (yl Z (fun _ _ k => Xj Z Z Z E Z k) (yl Z (fun _ _ k => Xj Z Z Z E Z k) (yl Z (fun _ _ k => Xj Z Z Z E Z k) (yl Z (fun _ _ k => Xj Z Z Z E Z k) (yl Z (fun _ _ k => Xj Z Z Z E Z k) (yl Z (fun _ _ k => Xj Z Z Z E Z k) (yl Z (fun _ _ k => Xj Z Z Z E Z k) (yl Z (fun _ _ k => Xj Z Z Z E Z k) (yl Z (fun _ _ k => Xj Z Z Z E Z k) Y8)))))))))
 intro bg ap
 exact Xj Z Z Z E Z (Xp (v := vb false) Z E Z Z (Xe (v := vb false) Z Z (Xb (Xu ⟨(cB (by simp [E])), ap⟩))))
 rintro a9 bh ⟨au, ag⟩
 refine Xt (⟨vb (inR r.th 1 (ms.length : Int) && (decide ((mj ms r.th).t.ve = r.ve))), Yt Z au, ?_, (low0 O ag)⟩)
 exact cB Ip
theorem We (r : Rt) (w : World) (ms : List MTh) (a : Option Addr) (c : Nat) (ht : TabAt w a ms) (hlen : TabLen ms) (hn : ms.length ≤ 1048576) : CallsR Tryz.prog 20 #[.slice a ms.length c, .agg #[vi r.th, vi r.ve, vb r.rd, vb r.wr, vb r.wk]] w (fun v w' => v = vb (tabLive (tabT ms) r) ∧ w.grownBy w' none) := by
 refine Xx (n := 16) Tryz.func20 Z Tryz.ntmps20 Z ?_
 have ag := World.grownBy.refl w none
 refine Xa (Y7 (v := .agg #[vi r.th, vi r.ve, vb r.rd, vb r.wr, vb r.wk]) (cs := #[vi r.th, vi r.ve, vb r.rd, vb r.wr, vb r.wk]) Z Z Z ?_)
 intro ak ah V
 have ai := Yd V ag
 have ab := low0 ag V.grw
 refine Xe (v := vb false) Z Z (Xb (Ya (fun f' w' => (f' 4 = vb ((tableOk (tabT ms) && rightOk r) && live (tabT ms) r)) ∧ ah.grownBy w' none) ?_ ?_))
 refine Xd (v := .slice a ms.length c) Z Z (Xn F9 (Xf Z Xm) Z (G3  _ ms _ _ (TabAt.low ht ab) hlen (by omega)) ?_)
 rintro _ am ⟨rfl, J⟩
 refine Xd (v := vb (tableOk (tabT ms))) Z Z ?_
 rcases Yg (tableOk (tabT ms)) with E | E
 refine Xg Z Z Z E ?_
 have ac := (V.blk.grown0 J)
 refine Xr (vs := [vi r.th, vi r.ve, vb r.rd, vb r.wr, vb r.wk]) Y0 Z Z (ac.rangeL 0 5 Z) Z (Xg Z Z Z E (Xn Tf (Xf Z Xm) Z (Ww r _) ?_))
 rintro _ an ⟨rfl, O⟩
 refine Xw (v := vb (rightOk r)) Z E Z Z (Xd (v := vb (rightOk r)) Z Z ?_)
 rcases Yg (rightOk r) with G | G
 have aj := V4 G
 refine Xg Z Z Z G (Xd (v := .slice a ms.length c) Z Z (Xg Z Z Z G (Xr (vs := [vi r.th, vi r.ve, vb r.rd, vb r.wr, vb r.wk]) Y0 Z Z ((ac.grown0 O).rangeL 0 5 Z) Z (Xg Z Z Z G (Xn Ia (Xf Z (Xf Z Xm)) Z (Wm r (by omega) _ ms _ _ (TabAt.low ht (low0 (low0 ab J) O)) hlen (by omega)) ?_)))))
 rintro _ ao ⟨rfl, ad⟩
 exact Xw (v := vb (live (tabT ms) r)) Z G Z Z (Xe (v := vb (live (tabT ms) r)) Z Z (Xb ⟨(cB (by simp [E, G])), (grown_trans (grown_trans J O) ad)⟩))
 iterate 3 refine Xj rfl rfl rfl G rfl ?_
 exact Xp (v := vb false) Z G Z Z (Xe (v := vb false) Z Z (Xb ⟨(cB (by simp [E, G])), (grown_trans J O)⟩))
 refine Xj Z Z Z E Z (Xj Z Z Z E Z (Xp (v := vb false) Z E Z Z (Xd (v := vb false) Z Z ?_)))
 iterate 3 refine Xj rfl rfl rfl rfl rfl ?_
 exact Xp (v := vb false) Z Z Z Z (Xe (v := vb false) Z Z (Xb ⟨(cB (by simp [E])), J⟩))
 rintro al ap ⟨af, ae⟩
 refine Xt (⟨vb ((tableOk (tabT ms) && rightOk r) && live (tabT ms) r), Yt Z af, ?_, (low0 ab ae)⟩)
 rfl
theorem Zl (q : Int) (hq : (1 ≤ q ∧ q ≤ 9) ∧ ¬ q = 3) (w : World) : CallsR Tryz.prog 69 #[vi q] w (fun v w' => ∃ B : Nat, v = .agg #[vi q, .slice (pa B) (kindsOf q).length (kindsOf q).length, vb (need0 q), vb (need1 q), vb (need0 q), vb (need1 q)] ∧ w.heap.size ≤ B ∧ Blk w' B 3 ((kindsOf q).flatMap icell).toArray ∧ w.grownBy w' none) := by
 refine Xx (n := 37) Tryz.func69 Z Tryz.ntmps69 Z ?_
 have lm := World.grownBy.refl w none
 refine Xa (Yf (cs := #[vi 0, .slice none 0 0, vb false, vb false, vb false, vb false]) Uj Z Z ?_)
 intro j7 ng bx
 have l4 := Yd bx lm
 have dg := low0 lm bx.grw
 refine Xb (Xa (X7 (ps := [(0, vi 1)]) (e := 3) (cs := (([1] : List Int).flatMap icell).toArray) (Xk Z X5) (fun _ => by kernel_rfl) Z ?_))
 intro bk nh bw
 have jy := Yd bw dg
 have d8 := Xo bw (bx.blk).lt
 have dh := low0 dg bw.grw
 refine Yv (ps := [(0, vi 1), (1, .slice (pa bk) 1 1), (2, vb true), (4, vb true)]) (v := .agg #[vi 1, .slice (pa bk) 1 1, vb true, vb false, vb true, vb false]) (Xk Z (Xk Z (Xk Z (Xk Z X5)))) (by kernel_rfl) Z (X7 (ps := [(0, vi 1)]) (e := 3) (cs := (([1] : List Int).flatMap icell).toArray) (Xk Z X5) (fun _ => by kernel_rfl) Z ?_)
 intro bl ni bv
 have jz := Yd bv dh
 have j8 := (bx.blk.grown0 bw.grw)
 have d9 := Xo bv (j8).lt
 have ez := Xo bv (bw.blk).lt
 have di := low0 dh bv.grw
 refine Yv (ps := [(0, vi 2), (1, .slice (pa bl) 1 1), (3, vb true), (5, vb true)]) (v := .agg #[vi 2, .slice (pa bl) 1 1, vb false, vb true, vb false, vb true]) (Xk Z (Xk Z (Xk Z (Xk Z X5)))) (by kernel_rfl) Z (X7 (ps := [(0, vi 2)]) (e := 3) (cs := (([2] : List Int).flatMap icell).toArray) (Xk Z X5) (fun _ => by kernel_rfl) Z ?_)
 intro bm nj bu
 have j1 := Yd bu di
 have j9 := (j8.grown0 bv.grw)
 have ea := Xo bu (j9).lt
 have ka := (bw.blk.grown0 bv.grw)
 have e0 := Xo bu (ka).lt
 have fq := Xo bu (bv.blk).lt
 have dk := low0 di bu.grw
 refine Yv (ps := [(0, vi 4), (1, .slice (pa bm) 1 1), (2, vb true), (4, vb true)]) (v := .agg #[vi 4, .slice (pa bm) 1 1, vb true, vb false, vb true, vb false]) (Xk Z (Xk Z (Xk Z (Xk Z X5)))) (by kernel_rfl) Z (X7 (ps := [(0, vi 2)]) (e := 3) (cs := (([2] : List Int).flatMap icell).toArray) (Xk Z X5) (fun _ => by kernel_rfl) Z ?_)
 intro bn nk bi
 have j2 := Yd bi dk
 have kb := (j9.grown0 bu.grw)
 have eb := Xo bi (kb).lt
 have kc := (ka.grown0 bu.grw)
 have fa := Xo bi (kc).lt
 have ke := (bv.blk.grown0 bu.grw)
 have fr := Xo bi (ke).lt
 have gg := Xo bi (bu.blk).lt
 have dl := low0 dk bi.grw
 refine Yv (ps := [(0, vi 5), (1, .slice (pa bn) 1 1), (3, vb true), (5, vb true)]) (v := .agg #[vi 5, .slice (pa bn) 1 1, vb false, vb true, vb false, vb true]) (Xk Z (Xk Z (Xk Z (Xk Z X5)))) (by kernel_rfl) Z (X7 (ps := [(0, vi 4)]) (e := 3) (cs := (([4] : List Int).flatMap icell).toArray) (Xk Z X5) (fun _ => by kernel_rfl) Z ?_)
 intro bp nn az
 have j3 := Yd az dl
 have kf := (kb.grown0 bi.grw)
 have ed := Xo az (kf).lt
 have kg := (kc.grown0 bi.grw)
 have fb := Xo az (kg).lt
 have kh := (ke.grown0 bi.grw)
 have ft := Xo az (kh).lt
 have ki := (bu.blk.grown0 bi.grw)
 have gh := Xo az (ki).lt
 have gx := Xo az (bi.blk).lt
 have dm := low0 dl az.grw
 refine Yv (ps := [(0, vi 6), (1, .slice (pa bp) 1 1), (3, vb true), (5, vb true)]) (v := .agg #[vi 6, .slice (pa bp) 1 1, vb false, vb true, vb false, vb true]) (Xk Z (Xk Z (Xk Z (Xk Z X5)))) (by kernel_rfl) Z (X7 (ps := [(0, vi 4)]) (e := 3) (cs := (([4] : List Int).flatMap icell).toArray) (Xk Z X5) (fun _ => by kernel_rfl) Z ?_)
 intro bq no al
 have j4 := Yd al dm
 have kj := (kf.grown0 az.grw)
 have ee := Xo al (kj).lt
 have kk := (kg.grown0 az.grw)
 have fc := Xo al (kk).lt
 have kl := (kh.grown0 az.grw)
 have fu := Xo al (kl).lt
 have km := (ki.grown0 az.grw)
 have gi := Xo al (km).lt
 have kn := (bi.blk.grown0 az.grw)
 have gy := Xo al (kn).lt
 have ig := Xo al (az.blk).lt
 have dn := low0 dm al.grw
 refine Yv (ps := [(0, vi 7), (1, .slice (pa bq) 1 1), (2, vb true), (3, vb true), (4, vb true), (5, vb true)]) (v := .agg #[vi 7, .slice (pa bq) 1 1, vb true, vb true, vb true, vb true]) (Xk Z (Xk Z (Xk Z (Xk Z (Xk Z (Xk Z X5)))))) (by kernel_rfl) Z (X7 (ps := [(0, vi 1), (1, vi 2), (2, vi 4)]) (e := 3) (cs := (([1, 2, 4] : List Int).flatMap icell).toArray) (Xk Z (Xk Z (Xk Z X5))) (fun _ => by kernel_rfl) Z ?_)
 intro br np aj
 have j5 := Yd aj dn
 have ko := (kj.grown0 al.grw)
 have ef := Xo aj (ko).lt
 have kp := (kk.grown0 al.grw)
 have fd := Xo aj (kp).lt
 have kq := (kl.grown0 al.grw)
 have fv := Xo aj (kq).lt
 have kr := (km.grown0 al.grw)
 have gj := Xo aj (kr).lt
 have ks := (kn.grown0 al.grw)
 have gz := Xo aj (ks).lt
 have kt := (az.blk.grown0 al.grw)
 have ii := Xo aj (kt).lt
 have iv := Xo aj (al.blk).lt
 have dp := low0 dn aj.grw
 refine Yv (ps := [(0, vi 8), (1, .slice (pa br) 3 3), (3, vb true), (5, vb true)]) (v := .agg #[vi 8, .slice (pa br) 3 3, vb false, vb true, vb false, vb true]) (Xk Z (Xk Z (Xk Z (Xk Z X5)))) (by kernel_rfl) Z (X7 (ps := [(0, vi 5)]) (e := 3) (cs := (([5] : List Int).flatMap icell).toArray) (Xk Z X5) (fun _ => by kernel_rfl) Z ?_)
 intro bt nq af
 have j6 := Yd af dp
 have ku := (ko.grown0 aj.grw)
 have eg := Xo af (ku).lt
 have kv := (kp.grown0 aj.grw)
 have fe := Xo af (kv).lt
 have kw := (kq.grown0 aj.grw)
 have fw := Xo af (kw).lt
 have kx := (kr.grown0 aj.grw)
 have gk := Xo af (kx).lt
 have ky := (ks.grown0 aj.grw)
 have g0 := Xo af (ky).lt
 have kz := (kt.grown0 aj.grw)
 have ij := Xo af (kz).lt
 have k0 := (al.blk.grown0 aj.grw)
 have iw := Xo af (k0).lt
 have i6 := Xo af (aj.blk).lt
 have dq := low0 dp af.grw
 refine Yv (ps := [(0, vi 9), (1, .slice (pa bt) 1 1), (3, vb true), (5, vb true)]) (v := .agg #[vi 9, .slice (pa bt) 1 1, vb false, vb true, vb false, vb true]) (Xk Z (Xk Z (Xk Z (Xk Z X5)))) (by kernel_rfl) Z (X7 (ps := [(0, .agg #[vi 1, .slice (pa bk) 1 1, vb true, vb false, vb true, vb false]), (1, .agg #[vi 2, .slice (pa bl) 1 1, vb false, vb true, vb false, vb true]), (2, .agg #[vi 4, .slice (pa bm) 1 1, vb true, vb false, vb true, vb false]), (3, .agg #[vi 5, .slice (pa bn) 1 1, vb false, vb true, vb false, vb true]), (4, .agg #[vi 6, .slice (pa bp) 1 1, vb false, vb true, vb false, vb true]), (5, .agg #[vi 7, .slice (pa bq) 1 1, vb true, vb true, vb true, vb true]), (6, .agg #[vi 8, .slice (pa br) 3 3, vb false, vb true, vb false, vb true]), (7, .agg #[vi 9, .slice (pa bt) 1 1, vb false, vb true, vb false, vb true])]) (e := 103) (cs := #[vi 1, .slice (pa bk) 1 1, vb true, vb false, vb true, vb false, vi 2, .slice (pa bl) 1 1, vb false, vb true, vb false, vb true, vi 4, .slice (pa bm) 1 1, vb true, vb false, vb true, vb false, vi 5, .slice (pa bn) 1 1, vb false, vb true, vb false, vb true, vi 6, .slice (pa bp) 1 1, vb false, vb true, vb false, vb true, vi 7, .slice (pa bq) 1 1, vb true, vb true, vb true, vb true, vi 8, .slice (pa br) 3 3, vb false, vb true, vb false, vb true, vi 9, .slice (pa bt) 1 1, vb false, vb true, vb false, vb true]) (Xk Z (Xk Z (Xk Z (Xk Z (Xk Z (Xk Z (Xk Z (Xk Z X5)))))))) (fun _ => by kernel_rfl) Z ?_)
 intro ck nr ae
 have l5 := Yd ae dq
 have k4 := (ku.grown0 af.grw)
 have eh := Xo ae (k4).lt
 have k5 := (kv.grown0 af.grw)
 have ff := Xo ae (k5).lt
 have k6 := (kw.grown0 af.grw)
 have fx := Xo ae (k6).lt
 have k7 := (kx.grown0 af.grw)
 have gl := Xo ae (k7).lt
 have k8 := (ky.grown0 af.grw)
 have g5 := Xo ae (k8).lt
 have k9 := (kz.grown0 af.grw)
 have ik := Xo ae (k9).lt
 have la := (k0.grown0 af.grw)
 have ix := Xo ae (la).lt
 have lc := (aj.blk.grown0 af.grw)
 have i7 := Xo ae (lc).lt
 have jg := Xo ae (af.blk).lt
 have ld := low0 dq ae.grw
 refine Xe (v := .slice (pa ck) 8 8) Z Z (Xb (Xq (Xa (Xd (v := .slice (pa ck) 8 8) Z Z (Y1 (by kernel_rfl) Z Z (Xd (v := vi 0) Z Z (Xb (X9 ?_))))))))
 have ln := (k4.grown0 ae.grw)
 have lp := (k5.grown0 ae.grw)
 have lu := (k6.grown0 ae.grw)
 have lv := (k7.grown0 ae.grw)
 have lw := (k8.grown0 ae.grw)
 have ly := (k9.grown0 ae.grw)
 have lz := (la.grown0 ae.grw)
 have l0 := (lc.grown0 ae.grw)
 have l3 := (af.blk.grown0 ae.grw)
 refine Ql (fun mm f' w' => ∃ (i : Int), mm = (8 - i : Int).toNat ∧ ((0 ≤ i ∧ i ≤ 8) ∧ (0 < i → ¬ q = 1) ∧ (1 < i → ¬ q = 2) ∧ (2 < i → ¬ q = 4) ∧ (3 < i → ¬ q = 5) ∧ (4 < i → ¬ q = 6) ∧ (5 < i → ¬ q = 7) ∧ (6 < i → ¬ q = 8) ∧ (7 < i → ¬ q = 9)) ∧ f' 25 = vi i ∧ f' 0 = vi q ∧ f' 2 = pt j7 0 ∧ f' 23 = .slice (pa ck) 8 8 ∧ f' 24 = vi 8 ∧ w.grownBy w' none ∧ Blk w' j7 103 #[vi 0, .slice none 0 0, vb false, vb false, vb false, vb false] ∧ Blk w' bk 3 (([1] : List Int).flatMap icell).toArray ∧ Blk w' bl 3 (([1] : List Int).flatMap icell).toArray ∧ Blk w' bm 3 (([2] : List Int).flatMap icell).toArray ∧ Blk w' bn 3 (([2] : List Int).flatMap icell).toArray ∧ Blk w' bp 3 (([4] : List Int).flatMap icell).toArray ∧ Blk w' bq 3 (([4] : List Int).flatMap icell).toArray ∧ Blk w' br 3 (([1, 2, 4] : List Int).flatMap icell).toArray ∧ Blk w' bt 3 (([5] : List Int).flatMap icell).toArray ∧ Blk w' ck 103 #[vi 1, .slice (pa bk) 1 1, vb true, vb false, vb true, vb false, vi 2, .slice (pa bl) 1 1, vb false, vb true, vb false, vb true, vi 4, .slice (pa bm) 1 1, vb true, vb false, vb true, vb false, vi 5, .slice (pa bn) 1 1, vb false, vb true, vb false, vb true, vi 6, .slice (pa bp) 1 1, vb false, vb true, vb false, vb true, vi 7, .slice (pa bq) 1 1, vb true, vb true, vb true, vb true, vi 8, .slice (pa br) 3 3, vb false, vb true, vb false, vb true, vi 9, .slice (pa bt) 1 1, vb false, vb true, vb false, vb true]) (8 - 0 : Int).toNat ⟨0, Z, (by omega), Z, Z, Z, Z, Z, ld, ln, lp, lu, lv, lw, ly, lz, l0, l3, ae.blk⟩ ?_
 rintro mm mu nu ⟨i, mg, hi, ag, a8, ah, bj, a9, am, ai, ba, bb, bc, bd, be, bf, bg, bh, ak⟩
 rcases (show i = 0 ∨ i = 1 ∨ i = 2 ∨ i = 3 ∨ i = 4 ∨ i = 5 ∨ i = 6 ∨ i = 7 ∨ i = 8 by omega) with rfl | rfl | rfl | rfl | rfl | rfl | rfl | rfl | rfl
 refine Xa (Qg (q := true) ag a9 (by decide) Z (Xb (Xq (Qa Z Z (Xz (Xu (Xq (X9 (Xa (X4 (o' := 0) Wh bj ag (by omega) (by omega) Z Z (Xr (vs := [vi 1, .slice (pa bk) 1 1, vb true, vb false, vb true, vb false]) Q8 Z Z (ak.rangeL 0 6 Z) Z (Yf (cs := #[vi 0, .slice none 0 0, vb false, vb false, vb false, vb false]) Uj Z Z ?_))))))))))))
 intro mh nv E
 have l6 := Yd E am
 have ei := Xo E (ai).lt
 have fg := Xo E (ba).lt
 have fy := Xo E (bb).lt
 have gm := Xo E (bc).lt
 have g6 := Xo E (bd).lt
 have il := Xo E (be).lt
 have iy := Xo E (bf).lt
 have i8 := Xo E (bg).lt
 have jh := Xo E (bh).lt
 have jq := Xo E (ak).lt
 refine Xy (vs := [vi 1, .slice (pa bk) 1 1, vb true, vb false, vb true, vb false]) (cs' := #[vi 1, .slice (pa bk) 1 1, vb true, vb false, vb true, vb false]) Q8 Z Z Z (by simp [Value.oneCell']) E.blk (Nat.le_of_ble_eq_true Z) Z ?_
 intro nw an
 have dr := low1 (low0 am E.grw) an.grw (by omega)
 refine Xb (Xa (Xc (o' := 0) Vq Z Z Z (Xh (v := vi 1) X1 Z (an.blk.cell Z) Z (Xd (v := vi q) a8 Z (X6 (q := decide (1 = q)) Z Z Z Z (Xb (X0 Z (fun cl => ?_) (fun cl => ?_))))))))
 have mv := of_decide_eq_true cl
 refine Xa (Xr (vs := [vi 1, .slice (pa bk) 1 1, vb true, vb false, vb true, vb false]) Q8 Z Z (an.blk.rangeL 0 6 Z) Z (Xy (vs := [vi 1, .slice (pa bk) 1 1, vb true, vb false, vb true, vb false]) (cs' := #[vi 1, .slice (pa bk) 1 1, vb true, vb false, vb true, vb false]) Q8 ah Z Z (by simp [Value.oneCell']) ((ai.grown0 E.grw).gn an.grw) (Nat.le_of_ble_eq_true Z) Z ?_))
 intro nx bz
 refine Xb (Xt (Qn (Yk (Yk (Qn (Yk ?_))))))
 have cz := of_decide_eq_true cl
 have le := (((ba.grown0 E.grw).gn an.grw).gn bz.grw)
 have d0 : kindsOf q = ([1] : List Int) := by rw [← cz]; decide
 refine ⟨.agg #[vi 1, .slice (pa bk) 1 1, vb true, vb false, vb true, vb false], Jt Z (Yh (vs := [vi 1, .slice (pa bk) 1 1, vb true, vb false, vb true, vb false]) Q8 ah Z (bz.blk.rangeL 0 6 Z)), bk, ?_, jy, ?_, (low1 dr bz.grw (by omega))⟩
 rw [d0, ← cz]; rfl
 rw [d0]; exact le
 have mw := of_decide_eq_false cl
 exact Xz (Y3 (Xu (X2 (Yl (c := 1) ag Z (by omega) (by omega) (by omega) Z (Xd (v := vi 1) Z Z (Xb (Xu (⟨(8 - 1 : Int).toNat, by omega, 1, Z, (by omega), Z, a8, ah, bj, a9, dr, ((ai.grown0 E.grw).gn an.grw), ((ba.grown0 E.grw).gn an.grw), ((bb.grown0 E.grw).gn an.grw), ((bc.grown0 E.grw).gn an.grw), ((bd.grown0 E.grw).gn an.grw), ((be.grown0 E.grw).gn an.grw), ((bf.grown0 E.grw).gn an.grw), ((bg.grown0 E.grw).gn an.grw), ((bh.grown0 E.grw).gn an.grw), ((ak.grown0 E.grw).gn an.grw)⟩))))))))
 refine Xa (Qg (q := true) ag a9 (by decide) Z (Xb (Xq (Qa Z Z (Xz (Xu (Xq (X9 (Xa (X4 (o' := 6) Wh bj ag (by omega) (by omega) Z Z (Xr (vs := [vi 2, .slice (pa bl) 1 1, vb false, vb true, vb false, vb true]) Q8 Z Z (ak.rangeL 6 6 Z) Z (Yf (cs := #[vi 0, .slice none 0 0, vb false, vb false, vb false, vb false]) Uj Z Z ?_))))))))))))
 intro ml ny G
 have l7 := Yd G am
 have ej := Xo G (ai).lt
 have fh := Xo G (ba).lt
 have fz := Xo G (bb).lt
 have gp := Xo G (bc).lt
 have g7 := Xo G (bd).lt
 have im := Xo G (be).lt
 have iz := Xo G (bf).lt
 have i9 := Xo G (bg).lt
 have ji := Xo G (bh).lt
 have jr := Xo G (ak).lt
 refine Xy (vs := [vi 2, .slice (pa bl) 1 1, vb false, vb true, vb false, vb true]) (cs' := #[vi 2, .slice (pa bl) 1 1, vb false, vb true, vb false, vb true]) Q8 Z Z Z (by simp [Value.oneCell']) G.blk (Nat.le_of_ble_eq_true Z) Z ?_
 intro n5 ao
 have dt := low1 (low0 am G.grw) ao.grw (by omega)
 refine Xb (Xa (Xc (o' := 0) Vq Z Z Z (Xh (v := vi 2) X1 Z (ao.blk.cell Z) Z (Xd (v := vi q) a8 Z (X6 (q := decide (2 = q)) Z Z Z Z (Xb (X0 Z (fun cm => ?_) (fun cm => ?_))))))))
 have my := of_decide_eq_true cm
 refine Xa (Xr (vs := [vi 2, .slice (pa bl) 1 1, vb false, vb true, vb false, vb true]) Q8 Z Z (ao.blk.rangeL 0 6 Z) Z (Xy (vs := [vi 2, .slice (pa bl) 1 1, vb false, vb true, vb false, vb true]) (cs' := #[vi 2, .slice (pa bl) 1 1, vb false, vb true, vb false, vb true]) Q8 ah Z Z (by simp [Value.oneCell']) ((ai.grown0 G.grw).gn ao.grw) (Nat.le_of_ble_eq_true Z) Z ?_))
 intro n7 ca
 refine Xb (Xt (Qn (Yk (Yk (Qn (Yk ?_))))))
 have c8 := of_decide_eq_true cm
 have lf := (((bb.grown0 G.grw).gn ao.grw).gn ca.grw)
 have d1 : kindsOf q = ([1] : List Int) := by rw [← c8]; decide
 refine ⟨.agg #[vi 2, .slice (pa bl) 1 1, vb false, vb true, vb false, vb true], Jt Z (Yh (vs := [vi 2, .slice (pa bl) 1 1, vb false, vb true, vb false, vb true]) Q8 ah Z (ca.blk.rangeL 0 6 Z)), bl, ?_, jz, ?_, (low1 dt ca.grw (by omega))⟩
 rw [d1, ← c8]; rfl
 rw [d1]; exact lf
 have mz := of_decide_eq_false cm
 exact Xz (Y3 (Xu (X2 (Yl (c := 2) ag Z (by omega) (by omega) (by omega) Z (Xd (v := vi 2) Z Z (Xb (Xu (⟨(8 - 2 : Int).toNat, by omega, 2, Z, (by omega), Z, a8, ah, bj, a9, dt, ((ai.grown0 G.grw).gn ao.grw), ((ba.grown0 G.grw).gn ao.grw), ((bb.grown0 G.grw).gn ao.grw), ((bc.grown0 G.grw).gn ao.grw), ((bd.grown0 G.grw).gn ao.grw), ((be.grown0 G.grw).gn ao.grw), ((bf.grown0 G.grw).gn ao.grw), ((bg.grown0 G.grw).gn ao.grw), ((bh.grown0 G.grw).gn ao.grw), ((ak.grown0 G.grw).gn ao.grw)⟩))))))))
 refine Xa (Qg (q := true) ag a9 (by decide) Z (Xb (Xq (Qa Z Z (Xz (Xu (Xq (X9 (Xa (X4 (o' := 12) Wh bj ag (by omega) (by omega) Z Z (Xr (vs := [vi 4, .slice (pa bm) 1 1, vb true, vb false, vb true, vb false]) Q8 Z Z (ak.rangeL 12 6 Z) Z (Yf (cs := #[vi 0, .slice none 0 0, vb false, vb false, vb false, vb false]) Uj Z Z ?_))))))))))))
 intro mn n9 J
 have l8 := Yd J am
 have ek := Xo J (ai).lt
 have fi := Xo J (ba).lt
 have f8 := Xo J (bb).lt
 have gq := Xo J (bc).lt
 have g8 := Xo J (bd).lt
 have io := Xo J (be).lt
 have i0 := Xo J (bf).lt
 have ja := Xo J (bg).lt
 have jj := Xo J (bh).lt
 have js := Xo J (ak).lt
 refine Xy (vs := [vi 4, .slice (pa bm) 1 1, vb true, vb false, vb true, vb false]) (cs' := #[vi 4, .slice (pa bm) 1 1, vb true, vb false, vb true, vb false]) Q8 Z Z Z (by simp [Value.oneCell']) J.blk (Nat.le_of_ble_eq_true Z) Z ?_
 intro oa ap
 have du := low1 (low0 am J.grw) ap.grw (by omega)
 refine Xb (Xa (Xc (o' := 0) Vq Z Z Z (Xh (v := vi 4) X1 Z (ap.blk.cell Z) Z (Xd (v := vi q) a8 Z (X6 (q := decide (4 = q)) Z Z Z Z (Xb (X0 Z (fun cn => ?_) (fun cn => ?_))))))))
 have m4 := of_decide_eq_true cn
 refine Xa (Xr (vs := [vi 4, .slice (pa bm) 1 1, vb true, vb false, vb true, vb false]) Q8 Z Z (ap.blk.rangeL 0 6 Z) Z (Xy (vs := [vi 4, .slice (pa bm) 1 1, vb true, vb false, vb true, vb false]) (cs' := #[vi 4, .slice (pa bm) 1 1, vb true, vb false, vb true, vb false]) Q8 ah Z Z (by simp [Value.oneCell']) ((ai.grown0 J.grw).gn ap.grw) (Nat.le_of_ble_eq_true Z) Z ?_))
 intro ob cc
 refine Xb (Xt (Qn (Yk (Yk (Qn (Yk ?_))))))
 have c9 := of_decide_eq_true cn
 have lg := (((bc.grown0 J.grw).gn ap.grw).gn cc.grw)
 have d2 : kindsOf q = ([2] : List Int) := by rw [← c9]; decide
 refine ⟨.agg #[vi 4, .slice (pa bm) 1 1, vb true, vb false, vb true, vb false], Jt Z (Yh (vs := [vi 4, .slice (pa bm) 1 1, vb true, vb false, vb true, vb false]) Q8 ah Z (cc.blk.rangeL 0 6 Z)), bm, ?_, j1, ?_, (low1 du cc.grw (by omega))⟩
 rw [d2, ← c9]; rfl
 rw [d2]; exact lg
 have m5 := of_decide_eq_false cn
 exact Xz (Y3 (Xu (X2 (Yl (c := 3) ag Z (by omega) (by omega) (by omega) Z (Xd (v := vi 3) Z Z (Xb (Xu (⟨(8 - 3 : Int).toNat, by omega, 3, Z, (by omega), Z, a8, ah, bj, a9, du, ((ai.grown0 J.grw).gn ap.grw), ((ba.grown0 J.grw).gn ap.grw), ((bb.grown0 J.grw).gn ap.grw), ((bc.grown0 J.grw).gn ap.grw), ((bd.grown0 J.grw).gn ap.grw), ((be.grown0 J.grw).gn ap.grw), ((bf.grown0 J.grw).gn ap.grw), ((bg.grown0 J.grw).gn ap.grw), ((bh.grown0 J.grw).gn ap.grw), ((ak.grown0 J.grw).gn ap.grw)⟩))))))))
 refine Xa (Qg (q := true) ag a9 (by decide) Z (Xb (Xq (Qa Z Z (Xz (Xu (Xq (X9 (Xa (X4 (o' := 18) Wh bj ag (by omega) (by omega) Z Z (Xr (vs := [vi 5, .slice (pa bn) 1 1, vb false, vb true, vb false, vb true]) Q8 Z Z (ak.rangeL 18 6 Z) Z (Yf (cs := #[vi 0, .slice none 0 0, vb false, vb false, vb false, vb false]) Uj Z Z ?_))))))))))))
 intro mo oc O
 have l9 := Yd O am
 have em := Xo O (ai).lt
 have fj := Xo O (ba).lt
 have f9 := Xo O (bb).lt
 have gr := Xo O (bc).lt
 have g9 := Xo O (bd).lt
 have ip := Xo O (be).lt
 have i1 := Xo O (bf).lt
 have jb := Xo O (bg).lt
 have jk := Xo O (bh).lt
 have jt := Xo O (ak).lt
 refine Xy (vs := [vi 5, .slice (pa bn) 1 1, vb false, vb true, vb false, vb true]) (cs' := #[vi 5, .slice (pa bn) 1 1, vb false, vb true, vb false, vb true]) Q8 Z Z Z (by simp [Value.oneCell']) O.blk (Nat.le_of_ble_eq_true Z) Z ?_
 intro od aq
 have dv := low1 (low0 am O.grw) aq.grw (by omega)
 refine Xb (Xa (Xc (o' := 0) Vq Z Z Z (Xh (v := vi 5) X1 Z (aq.blk.cell Z) Z (Xd (v := vi q) a8 Z (X6 (q := decide (5 = q)) Z Z Z Z (Xb (X0 Z (fun co => ?_) (fun co => ?_))))))))
 have m6 := of_decide_eq_true co
 refine Xa (Xr (vs := [vi 5, .slice (pa bn) 1 1, vb false, vb true, vb false, vb true]) Q8 Z Z (aq.blk.rangeL 0 6 Z) Z (Xy (vs := [vi 5, .slice (pa bn) 1 1, vb false, vb true, vb false, vb true]) (cs' := #[vi 5, .slice (pa bn) 1 1, vb false, vb true, vb false, vb true]) Q8 ah Z Z (by simp [Value.oneCell']) ((ai.grown0 O.grw).gn aq.grw) (Nat.le_of_ble_eq_true Z) Z ?_))
 intro oe cd
 refine Xb (Xt (Qn (Yk (Yk (Qn (Yk ?_))))))
 have da := of_decide_eq_true co
 have lh := (((bd.grown0 O.grw).gn aq.grw).gn cd.grw)
 have d3 : kindsOf q = ([2] : List Int) := by rw [← da]; decide
 refine ⟨.agg #[vi 5, .slice (pa bn) 1 1, vb false, vb true, vb false, vb true], Jt Z (Yh (vs := [vi 5, .slice (pa bn) 1 1, vb false, vb true, vb false, vb true]) Q8 ah Z (cd.blk.rangeL 0 6 Z)), bn, ?_, j2, ?_, (low1 dv cd.grw (by omega))⟩
 rw [d3, ← da]; rfl
 rw [d3]; exact lh
 have m7 := of_decide_eq_false co
 exact Xz (Y3 (Xu (X2 (Yl (c := 4) ag Z (by omega) (by omega) (by omega) Z (Xd (v := vi 4) Z Z (Xb (Xu (⟨(8 - 4 : Int).toNat, by omega, 4, Z, (by omega), Z, a8, ah, bj, a9, dv, ((ai.grown0 O.grw).gn aq.grw), ((ba.grown0 O.grw).gn aq.grw), ((bb.grown0 O.grw).gn aq.grw), ((bc.grown0 O.grw).gn aq.grw), ((bd.grown0 O.grw).gn aq.grw), ((be.grown0 O.grw).gn aq.grw), ((bf.grown0 O.grw).gn aq.grw), ((bg.grown0 O.grw).gn aq.grw), ((bh.grown0 O.grw).gn aq.grw), ((ak.grown0 O.grw).gn aq.grw)⟩))))))))
 refine Xa (Qg (q := true) ag a9 (by decide) Z (Xb (Xq (Qa Z Z (Xz (Xu (Xq (X9 (Xa (X4 (o' := 24) Wh bj ag (by omega) (by omega) Z Z (Xr (vs := [vi 6, .slice (pa bp) 1 1, vb false, vb true, vb false, vb true]) Q8 Z Z (ak.rangeL 24 6 Z) Z (Yf (cs := #[vi 0, .slice none 0 0, vb false, vb false, vb false, vb false]) Uj Z Z ?_))))))))))))
 intro mp og V
 have ma := Yd V am
 have eo := Xo V (ai).lt
 have fk := Xo V (ba).lt
 have ga := Xo V (bb).lt
 have gt := Xo V (bc).lt
 have ia := Xo V (bd).lt
 have iq := Xo V (be).lt
 have i2 := Xo V (bf).lt
 have jc := Xo V (bg).lt
 have jl := Xo V (bh).lt
 have ju := Xo V (ak).lt
 refine Xy (vs := [vi 6, .slice (pa bp) 1 1, vb false, vb true, vb false, vb true]) (cs' := #[vi 6, .slice (pa bp) 1 1, vb false, vb true, vb false, vb true]) Q8 Z Z Z (by simp [Value.oneCell']) V.blk (Nat.le_of_ble_eq_true Z) Z ?_
 intro oh ar
 have dw := low1 (low0 am V.grw) ar.grw (by omega)
 refine Xb (Xa (Xc (o' := 0) Vq Z Z Z (Xh (v := vi 6) X1 Z (ar.blk.cell Z) Z (Xd (v := vi q) a8 Z (X6 (q := decide (6 = q)) Z Z Z Z (Xb (X0 Z (fun ct => ?_) (fun ct => ?_))))))))
 have m8 := of_decide_eq_true ct
 refine Xa (Xr (vs := [vi 6, .slice (pa bp) 1 1, vb false, vb true, vb false, vb true]) Q8 Z Z (ar.blk.rangeL 0 6 Z) Z (Xy (vs := [vi 6, .slice (pa bp) 1 1, vb false, vb true, vb false, vb true]) (cs' := #[vi 6, .slice (pa bp) 1 1, vb false, vb true, vb false, vb true]) Q8 ah Z Z (by simp [Value.oneCell']) ((ai.grown0 V.grw).gn ar.grw) (Nat.le_of_ble_eq_true Z) Z ?_))
 intro ol ce
 refine Xb (Xt (Qn (Yk (Yk (Qn (Yk ?_))))))
 have db := of_decide_eq_true ct
 have li := (((be.grown0 V.grw).gn ar.grw).gn ce.grw)
 have d4 : kindsOf q = ([4] : List Int) := by rw [← db]; decide
 refine ⟨.agg #[vi 6, .slice (pa bp) 1 1, vb false, vb true, vb false, vb true], Jt Z (Yh (vs := [vi 6, .slice (pa bp) 1 1, vb false, vb true, vb false, vb true]) Q8 ah Z (ce.blk.rangeL 0 6 Z)), bp, ?_, j3, ?_, (low1 dw ce.grw (by omega))⟩
 rw [d4, ← db]; rfl
 rw [d4]; exact li
 have m9 := of_decide_eq_false ct
 exact Xz (Y3 (Xu (X2 (Yl (c := 5) ag Z (by omega) (by omega) (by omega) Z (Xd (v := vi 5) Z Z (Xb (Xu (⟨(8 - 5 : Int).toNat, by omega, 5, Z, (by omega), Z, a8, ah, bj, a9, dw, ((ai.grown0 V.grw).gn ar.grw), ((ba.grown0 V.grw).gn ar.grw), ((bb.grown0 V.grw).gn ar.grw), ((bc.grown0 V.grw).gn ar.grw), ((bd.grown0 V.grw).gn ar.grw), ((be.grown0 V.grw).gn ar.grw), ((bf.grown0 V.grw).gn ar.grw), ((bg.grown0 V.grw).gn ar.grw), ((bh.grown0 V.grw).gn ar.grw), ((ak.grown0 V.grw).gn ar.grw)⟩))))))))
 refine Xa (Qg (q := true) ag a9 (by decide) Z (Xb (Xq (Qa Z Z (Xz (Xu (Xq (X9 (Xa (X4 (o' := 30) Wh bj ag (by omega) (by omega) Z Z (Xr (vs := [vi 7, .slice (pa bq) 1 1, vb true, vb true, vb true, vb true]) Q8 Z Z (ak.rangeL 30 6 Z) Z (Yf (cs := #[vi 0, .slice none 0 0, vb false, vb false, vb false, vb false]) Uj Z Z ?_))))))))))))
 intro mq om ab
 have mb := Yd ab am
 have ep := Xo ab (ai).lt
 have fm := Xo ab (ba).lt
 have gb := Xo ab (bb).lt
 have gu := Xo ab (bc).lt
 have ib := Xo ab (bd).lt
 have ir := Xo ab (be).lt
 have i3 := Xo ab (bf).lt
 have jd := Xo ab (bg).lt
 have jm := Xo ab (bh).lt
 have jv := Xo ab (ak).lt
 refine Xy (vs := [vi 7, .slice (pa bq) 1 1, vb true, vb true, vb true, vb true]) (cs' := #[vi 7, .slice (pa bq) 1 1, vb true, vb true, vb true, vb true]) Q8 Z Z Z (by simp [Value.oneCell']) ab.blk (Nat.le_of_ble_eq_true Z) Z ?_
 intro oo au
 have dx := low1 (low0 am ab.grw) au.grw (by omega)
 refine Xb (Xa (Xc (o' := 0) Vq Z Z Z (Xh (v := vi 7) X1 Z (au.blk.cell Z) Z (Xd (v := vi q) a8 Z (X6 (q := decide (7 = q)) Z Z Z Z (Xb (X0 Z (fun cv => ?_) (fun cv => ?_))))))))
 have na := of_decide_eq_true cv
 refine Xa (Xr (vs := [vi 7, .slice (pa bq) 1 1, vb true, vb true, vb true, vb true]) Q8 Z Z (au.blk.rangeL 0 6 Z) Z (Xy (vs := [vi 7, .slice (pa bq) 1 1, vb true, vb true, vb true, vb true]) (cs' := #[vi 7, .slice (pa bq) 1 1, vb true, vb true, vb true, vb true]) Q8 ah Z Z (by simp [Value.oneCell']) ((ai.grown0 ab.grw).gn au.grw) (Nat.le_of_ble_eq_true Z) Z ?_))
 intro oq cf
 refine Xb (Xt (Qn (Yk (Yk (Qn (Yk ?_))))))
 have dc := of_decide_eq_true cv
 have lj := (((bf.grown0 ab.grw).gn au.grw).gn cf.grw)
 have d5 : kindsOf q = ([4] : List Int) := by rw [← dc]; decide
 refine ⟨.agg #[vi 7, .slice (pa bq) 1 1, vb true, vb true, vb true, vb true], Jt Z (Yh (vs := [vi 7, .slice (pa bq) 1 1, vb true, vb true, vb true, vb true]) Q8 ah Z (cf.blk.rangeL 0 6 Z)), bq, ?_, j4, ?_, (low1 dx cf.grw (by omega))⟩
 rw [d5, ← dc]; rfl
 rw [d5]; exact lj
 have nb := of_decide_eq_false cv
 exact Xz (Y3 (Xu (X2 (Yl (c := 6) ag Z (by omega) (by omega) (by omega) Z (Xd (v := vi 6) Z Z (Xb (Xu (⟨(8 - 6 : Int).toNat, by omega, 6, Z, (by omega), Z, a8, ah, bj, a9, dx, ((ai.grown0 ab.grw).gn au.grw), ((ba.grown0 ab.grw).gn au.grw), ((bb.grown0 ab.grw).gn au.grw), ((bc.grown0 ab.grw).gn au.grw), ((bd.grown0 ab.grw).gn au.grw), ((be.grown0 ab.grw).gn au.grw), ((bf.grown0 ab.grw).gn au.grw), ((bg.grown0 ab.grw).gn au.grw), ((bh.grown0 ab.grw).gn au.grw), ((ak.grown0 ab.grw).gn au.grw)⟩))))))))
 refine Xa (Qg (q := true) ag a9 (by decide) Z (Xb (Xq (Qa Z Z (Xz (Xu (Xq (X9 (Xa (X4 (o' := 36) Wh bj ag (by omega) (by omega) Z Z (Xr (vs := [vi 8, .slice (pa br) 3 3, vb false, vb true, vb false, vb true]) Q8 Z Z (ak.rangeL 36 6 Z) Z (Yf (cs := #[vi 0, .slice none 0 0, vb false, vb false, vb false, vb false]) Uj Z Z ?_))))))))))))
 intro mr ot ac
 have mc := Yd ac am
 have eu := Xo ac (ai).lt
 have fo := Xo ac (ba).lt
 have gc := Xo ac (bb).lt
 have gv := Xo ac (bc).lt
 have ic := Xo ac (bd).lt
 have it := Xo ac (be).lt
 have i4 := Xo ac (bf).lt
 have je := Xo ac (bg).lt
 have jo := Xo ac (bh).lt
 have jw := Xo ac (ak).lt
 refine Xy (vs := [vi 8, .slice (pa br) 3 3, vb false, vb true, vb false, vb true]) (cs' := #[vi 8, .slice (pa br) 3 3, vb false, vb true, vb false, vb true]) Q8 Z Z Z (by simp [Value.oneCell']) ac.blk (Nat.le_of_ble_eq_true Z) Z ?_
 intro ou av
 have dy := low1 (low0 am ac.grw) av.grw (by omega)
 refine Xb (Xa (Xc (o' := 0) Vq Z Z Z (Xh (v := vi 8) X1 Z (av.blk.cell Z) Z (Xd (v := vi q) a8 Z (X6 (q := decide (8 = q)) Z Z Z Z (Xb (X0 Z (fun cw => ?_) (fun cw => ?_))))))))
 have nc := of_decide_eq_true cw
 refine Xa (Xr (vs := [vi 8, .slice (pa br) 3 3, vb false, vb true, vb false, vb true]) Q8 Z Z (av.blk.rangeL 0 6 Z) Z (Xy (vs := [vi 8, .slice (pa br) 3 3, vb false, vb true, vb false, vb true]) (cs' := #[vi 8, .slice (pa br) 3 3, vb false, vb true, vb false, vb true]) Q8 ah Z Z (by simp [Value.oneCell']) ((ai.grown0 ac.grw).gn av.grw) (Nat.le_of_ble_eq_true Z) Z ?_))
 intro ov cg
 refine Xb (Xt (Qn (Yk (Yk (Qn (Yk ?_))))))
 have de := of_decide_eq_true cw
 have lk := (((bg.grown0 ac.grw).gn av.grw).gn cg.grw)
 have d6 : kindsOf q = ([1, 2, 4] : List Int) := by rw [← de]; decide
 refine ⟨.agg #[vi 8, .slice (pa br) 3 3, vb false, vb true, vb false, vb true], Jt Z (Yh (vs := [vi 8, .slice (pa br) 3 3, vb false, vb true, vb false, vb true]) Q8 ah Z (cg.blk.rangeL 0 6 Z)), br, ?_, j5, ?_, (low1 dy cg.grw (by omega))⟩
 rw [d6, ← de]; rfl
 rw [d6]; exact lk
 have nd := of_decide_eq_false cw
 exact Xz (Y3 (Xu (X2 (Yl (c := 7) ag Z (by omega) (by omega) (by omega) Z (Xd (v := vi 7) Z Z (Xb (Xu (⟨(8 - 7 : Int).toNat, by omega, 7, Z, (by omega), Z, a8, ah, bj, a9, dy, ((ai.grown0 ac.grw).gn av.grw), ((ba.grown0 ac.grw).gn av.grw), ((bb.grown0 ac.grw).gn av.grw), ((bc.grown0 ac.grw).gn av.grw), ((bd.grown0 ac.grw).gn av.grw), ((be.grown0 ac.grw).gn av.grw), ((bf.grown0 ac.grw).gn av.grw), ((bg.grown0 ac.grw).gn av.grw), ((bh.grown0 ac.grw).gn av.grw), ((ak.grown0 ac.grw).gn av.grw)⟩))))))))
 refine Xa (Qg (q := true) ag a9 (by decide) Z (Xb (Xq (Qa Z Z (Xz (Xu (Xq (X9 (Xa (X4 (o' := 42) Wh bj ag (by omega) (by omega) Z Z (Xr (vs := [vi 9, .slice (pa bt) 1 1, vb false, vb true, vb false, vb true]) Q8 Z Z (ak.rangeL 42 6 Z) Z (Yf (cs := #[vi 0, .slice none 0 0, vb false, vb false, vb false, vb false]) Uj Z Z ?_))))))))))))
 intro mt ow ad
 have me := Yd ad am
 have ew := Xo ad (ai).lt
 have fp := Xo ad (ba).lt
 have gf := Xo ad (bb).lt
 have gw := Xo ad (bc).lt
 have ie := Xo ad (bd).lt
 have iu := Xo ad (be).lt
 have i5 := Xo ad (bf).lt
 have jf := Xo ad (bg).lt
 have jp := Xo ad (bh).lt
 have jx := Xo ad (ak).lt
 refine Xy (vs := [vi 9, .slice (pa bt) 1 1, vb false, vb true, vb false, vb true]) (cs' := #[vi 9, .slice (pa bt) 1 1, vb false, vb true, vb false, vb true]) Q8 Z Z Z (by simp [Value.oneCell']) ad.blk (Nat.le_of_ble_eq_true Z) Z ?_
 intro ox aw
 have dz := low1 (low0 am ad.grw) aw.grw (by omega)
 refine Xb (Xa (Xc (o' := 0) Vq Z Z Z (Xh (v := vi 9) X1 Z (aw.blk.cell Z) Z (Xd (v := vi q) a8 Z (X6 (q := decide (9 = q)) Z Z Z Z (Xb (X0 Z (fun cy => ?_) (fun cy => ?_))))))))
 have ne := of_decide_eq_true cy
 refine Xa (Xr (vs := [vi 9, .slice (pa bt) 1 1, vb false, vb true, vb false, vb true]) Q8 Z Z (aw.blk.rangeL 0 6 Z) Z (Xy (vs := [vi 9, .slice (pa bt) 1 1, vb false, vb true, vb false, vb true]) (cs' := #[vi 9, .slice (pa bt) 1 1, vb false, vb true, vb false, vb true]) Q8 ah Z Z (by simp [Value.oneCell']) ((ai.grown0 ad.grw).gn aw.grw) (Nat.le_of_ble_eq_true Z) Z ?_))
 intro oy cj
 refine Xb (Xt (Qn (Yk (Yk (Qn (Yk ?_))))))
 have df := of_decide_eq_true cy
 have ll := (((bh.grown0 ad.grw).gn aw.grw).gn cj.grw)
 have d7 : kindsOf q = ([5] : List Int) := by rw [← df]; decide
 refine ⟨.agg #[vi 9, .slice (pa bt) 1 1, vb false, vb true, vb false, vb true], Jt Z (Yh (vs := [vi 9, .slice (pa bt) 1 1, vb false, vb true, vb false, vb true]) Q8 ah Z (cj.blk.rangeL 0 6 Z)), bt, ?_, j6, ?_, (low1 dz cj.grw (by omega))⟩
 rw [d7, ← df]; rfl
 rw [d7]; exact ll
 have nf := of_decide_eq_false cy
 exact Xz (Y3 (Xu (X2 (Yl (c := 8) ag Z (by omega) (by omega) (by omega) Z (Xd (v := vi 8) Z Z (Xb (Xu (⟨(8 - 8 : Int).toNat, by omega, 8, Z, (by omega), Z, a8, ah, bj, a9, dz, ((ai.grown0 ad.grw).gn aw.grw), ((ba.grown0 ad.grw).gn aw.grw), ((bb.grown0 ad.grw).gn aw.grw), ((bc.grown0 ad.grw).gn aw.grw), ((bd.grown0 ad.grw).gn aw.grw), ((be.grown0 ad.grw).gn aw.grw), ((bf.grown0 ad.grw).gn aw.grw), ((bg.grown0 ad.grw).gn aw.grw), ((bh.grown0 ad.grw).gn aw.grw), ((ak.grown0 ad.grw).gn aw.grw)⟩))))))))
 refine Xa (Qg (q := false) ag a9 (by decide) Z (Xb (Xq (Y4 Z Z (Qf (Y9 (Y9 (Jh (Xu (Xa (Xd (v := vi q) a8 Z (Yv (ps := [(0, vi q)]) (v := .agg #[vi q, .slice none 0 0, vb false, vb false, vb false, vb false]) (Xk Z X5) (by kernel_rfl) Z ?_))))))))))))
 refine Xy (vs := [vi q, .slice none 0 0, vb false, vb false, vb false, vb false]) (cs' := #[vi q, .slice none 0 0, vb false, vb false, vb false, vb false]) Q8 ah Z Z (by simp [Value.oneCell']) ai (Nat.le_of_ble_eq_true Z) Z ?_
 intro oz mf
 refine Xb (Xt ?_)
 exfalso; omega
theorem T1 (k x : Int) (b0 b1 b2 b3 : Bool) (w : World) (xs : List Int) (a : Option Addr) (c : Nat) (hs : SlAt w a 1 (xs.map icell)) (hn : xs.length ≤ 1048576) : CallsR Tryz.prog 70 #[.agg #[vi k, .slice a xs.length c, vb b0, vb b1, vb b2, vb b3], vi x] w (fun v w' => v = vb (xs.any (fun y : Int => decide (y = x))) ∧ w.grownBy w' none) := by
 refine Xx (n := 18) Tryz.func70 Z Tryz.ntmps70 Z ?_
 have aj := World.grownBy.refl w none
 refine Xa (Y7 (v := .agg #[vi k, .slice a xs.length c, vb b0, vb b1, vb b2, vb b3]) (cs := #[vi k, .slice a xs.length c, vb b0, vb b1, vb b2, vb b3]) Z Z Z ?_)
 intro am az J
 have ak := Yd J aj
 refine Xe (v := vb false) Z Z (Xb (Xq (Xa (Xc (o' := 1) Fv Z Z Z (Xh (v := .slice a xs.length c) Ju Z (J.blk.cell Z) Z (Y1 (by kernel_rfl) Z Z (Xd (v := vi 0) Z Z (Xb (X9 (Ql (fun mm f' w' => ∃ (k1 : Nat), mm = xs.length - k1 ∧ k1 ≤ xs.length ∧ ((xs.take k1).any (fun y : Int => decide (y = x))) = false ∧ f' 10 = vi (k1 : Int) ∧ f' 1 = vi x ∧ f' 8 = .slice a xs.length c ∧ f' 9 = vi (xs.length : Int) ∧ w.grownBy w' none) (xs.length - 0) ⟨0, Z, (Nat.zero_le _), Z, Z, Z, Z, Z, (low0 aj J.grw)⟩ ?_))))))))))
 rintro mm ao a8 ⟨k1, al, a9, ha, ab, ad, ae, af, E⟩
 refine Xa (Qg (q := decide ((k1 : Int) < (xs.length : Int))) ab af Z Z (Xb (Xq (X0 Z (fun ac => ?_) (fun ac => ?_)))))
 have ap := of_decide_eq_true ac
 refine Xz (Xu (Xq (X9 (Xa ?_))))
 obtain ⟨V, O⟩ := Ja (l := xs) (i := k1) (by omega)
 obtain ⟨an, aw, av, ag, ah, ai⟩ := SlAt.at hs (Yp O)
 refine X3 J4 ae ab ag ah (by omega) (by omega) Z (Xh (v := vi V) X1 Z ((Yi ai E) 0 _ Z) Z (Xe (v := vi V) Z Z (Xb (Xa (Xd (v := vi V) Z Z (Xd (v := vi x) ad Z (X6 (q := decide (V = x)) Z Z Z Z (Xb (X0 Z (fun G => ?_) (fun G => ?_))))))))))
 have aq := of_decide_eq_true G
 refine Xa (Xe (v := vb true) Z Z (Xb (Xt (Qn (Yk (Yk (Qn (Yk (⟨vb true, Yt Z Z, ?_, E⟩)))))))))
 exact cB (P2 (p := (fun y : Int => decide (y = x))) O G).symm
 have ar := of_decide_eq_false G
 exact Xz (Y3 (Xu (X2 (Yl (c := (k1 : Int) + 1) ab Z (by omega) (by omega) (by omega) Z (Xd (v := vi ((k1 : Int) + 1)) Z Z (Xb (Xu (⟨xs.length - (k1 + 1), by omega, (k1 + 1), Z, (by omega), (Ly (p := (fun y : Int => decide (y = x))) ha O G), Z, ad, ae, af, E⟩))))))))
 have au := of_decide_eq_false ac
 refine Qf (Y9 (Y9 (Jh (Xu (Xa (Xe (v := vb false) Z Z (Xb (Xt (⟨vb false, Yt Z Z, ?_, E⟩)))))))))
 exact cB (P1 (p := (fun y : Int => decide (y = x))) ha (by omega)).symm
theorem L5 (q : Cl) (w : World) (ms : List MTh) (a : Option Addr) (c : Nat) (ht : TabAt w a ms) (hlen : TabLen ms) (hn : ms.length ≤ 1048576) : CallsR Tryz.prog 47 #[.slice a ms.length c, .agg #[vi q.kind, vi q.run, vi q.a, vi q.b, vi q.n]] w (fun v w' => ((chkAll (tabT ms) q = 0 ∧ v = .nilIface) ∨ (∃ R : Nat, (¬ chkAll (tabT ms) q = 0 ∧ v = .iface 63 (pt R 0)) ∧ w.heap.size ≤ R ∧ Blk w' R 70 #[vi (chkAll (tabT ms) q)])) ∧ w.grownBy w' none) := by
 refine Xx (n := 107) Tryz.func47 Z Tryz.ntmps47 Z ?_
 have j3 := World.grownBy.refl w none
 refine Xa (Y7 (v := .agg #[vi q.kind, vi q.run, vi q.a, vi q.b, vi q.n]) (cs := #[vi q.kind, vi q.run, vi q.a, vi q.b, vi q.n]) Z Z Z ?_)
 intro cc k0 bt
 have kb := Yd bt j3
 have dx := low0 j3 bt.grw
 refine Xe (v := .nilIface) Z Z (Xb (Xq (Xa (Xd (v := .slice a ms.length c) Z Z (Xr (vs := [vi q.kind, vi q.run, vi q.a, vi q.b, vi q.n]) Y6 Z Z (bt.blk.rangeL 0 5 Z) Z (Xn Z7 (Xf Z (Xf Z Xm)) Z (H2 q _ ms _ _ (TabAt.low ht dx) hlen (by omega)) ?_))))))
 rintro _ k4 ⟨rfl, cz⟩
 have bu := low0 dx cz
 refine Yn (b' := !callPoss (tabT ms) q) Z Z Z (Xb (X0 Z (fun ae => ?_) (fun ae => ?_)))
 have j1 := Jr ae
 refine Xa (Yv (ps := [(0, vi (-1))]) (v := .agg #[vi (-1)]) (Xk Z X5) (by kernel_rfl) Z (Y7 (v := .agg #[vi (-1)]) (cs := #[vi (-1)]) Z Z Z ?_))
 intro c8 k5 cf
 have fk := Yd cf bu
 have ed := Xo cf ((bt.blk.grown0 cz)).lt
 refine Kz (v := pt c8 0) (by kernel_rfl) Z Z (Xe (v := .iface 63 (pt c8 0)) Z Z (Xb (Xt (Yk ?_))))
 have dk : chkAll (tabT ms) q = -1 := L2 j1
 refine ⟨.iface 63 (pt c8 0), Yt Z Z, Or.inr ⟨c8, ⟨by rw [dk]; decide, Z⟩, fk, ?_⟩, (low0 bu cf.grw)⟩
 rw [dk]; exact cf.blk
 have ab := Q3 ae
 obtain ⟨G, J, E⟩ := Yw ab
 have j9 := Yx J
 have ka := (Qe E).1
 have kk := Qt G E
 have ki := Jk G
 refine Xz (Xu (Xq (Xa (Xc (o' := 0) Ji Z Z Z ?_))))
 have dr := (bt.blk.grown0 cz)
 refine Xh (v := vi q.kind) X1 Z (dr.cell Z) Z (X6 (q := decide (q.kind = 3)) Z Z Z Z (Xb (X0 Z (fun V => ?_) (fun V => ?_))))
 have kq := of_decide_eq_true V
 refine Xa (Xe (v := .nilIface) Z Z (Xb (Xt (Yk ?_))))
 have fi : chkAll (tabT ms) q = 0 := (Jn ab).trans (H5 V).symm
 exact ⟨.nilIface, Yt Z Z, Or.inl ⟨fi, Z⟩, bu⟩
 have kr := of_decide_eq_false V
 refine Xz (Xu (Xa (Xc (o' := 0) Ji Z Z Z (Xh (v := vi q.kind) X1 Z (dr.cell Z) Z (Xn Xct (Xf Z Xm) Z (Zl q.kind (by omega) _) ?_)))))
 rintro _ k6 ⟨ck, rfl, dq, bb, d0⟩
 have dy := low0 bu d0
 have kc := nt bu.size dq
 have ee := nl (dr).lt dq
 refine Yf (cs := #[vi 0, .slice none 0 0, vb false, vb false, vb false, vb false]) Uj Z Z ?_
 intro c9 k7 am
 have ke := Yd am dy
 have bw := (dr.grown0 d0)
 have ef := Xo am (bw).lt
 have em := Xo am (bb).lt
 refine Xy (vs := [vi q.kind, .slice (pa ck) (kindsOf q.kind).length (kindsOf q.kind).length, vb (need0 q.kind), vb (need1 q.kind), vb (need0 q.kind), vb (need1 q.kind)]) (cs' := #[vi q.kind, .slice (pa ck) (kindsOf q.kind).length (kindsOf q.kind).length, vb (need0 q.kind), vb (need1 q.kind), vb (need0 q.kind), vb (need1 q.kind)]) Q8 Z Z Z (by simp [Value.oneCell']) am.blk (Nat.le_of_ble_eq_true Z) Z ?_
 intro gc ag
 have cg := low1 (low0 dy am.grw) ag.grw (by omega)
 refine Xb (Xq ?_)
 obtain ⟨ft, kx, d9, gf, g6, g9⟩ := SlAt.at (TabAt.low ht cg).1 (Yp (xg ms (q.run - 1).toNat))
 have kg := TabLen.at hlen (xg ms (q.run - 1).toNat)
 obtain ⟨ie, ky, j5, gg, g7, ia⟩ := SlAt.at (TabAt.th (TabAt.low ht cg) (xg ms (q.run - 1).toNat)).1 (Yp (xr (mAt ms (q.run - 1).toNat).t.slots (q.a).toNat))
 have kj := Us G (lq (q.run - 1).toNat ms.length) (lq (q.a).toNat (mAt ms (q.run - 1).toNat).t.slots.length)
 refine Qv (m := 12) [[], [], [1], [1, 2], [0, 1, 2, 3], [0, 1, 2, 3, 4], [0, 1, 2, 3, 4, 5], [], [7], [0, 1, 2, 3, 4, 5, 6, 7, 8], [0, 1, 2, 3, 4, 5, 6, 7, 8, 9], [], [0, 1, 2, 3, 4, 5, 6, 7, 8, 9, 10, 11]] (fun S F w' => ∃ (O : Nat), gc.grownBy w' none ∧ F 0 = .slice a ms.length c ∧ F 3 = pt cc 0 ∧ F 4 = .nilIface ∧ F 5 = pt c9 0 ∧ (S 11 = true → F 6 = pt O 0 ∧ w.heap.size ≤ O ∧ Blk w' O 33 #[vi 0, vi 0, vb false, vb false, vb false] ∧ cc < O ∧ ck < O ∧ c9 < O ∧ gc.heap.size ≤ O) ∧ Vals S F [(0, 21, .slice a ms.length c), (1, 22, pt cc 1), (2, 23, vi q.run), (3, 24, vi (q.run - 1)), (4, 25, pt ft d9), (5, 26, pt ft (d9 + 5)), (6, 27, .slice (mAt ms (q.run - 1).toNat).sa (mAt ms (q.run - 1).toNat).t.slots.length (mAt ms (q.run - 1).toNat).sc), (7, 28, pt cc 2), (8, 29, vi q.a), (9, 30, pt ie j5), (10, 31, .agg #[vi (rAt (mAt ms (q.run - 1).toNat).t.slots (q.a).toNat).th, vi (rAt (mAt ms (q.run - 1).toNat).t.slots (q.a).toNat).ve, vb (rAt (mAt ms (q.run - 1).toNat).t.slots (q.a).toNat).rd, vb (rAt (mAt ms (q.run - 1).toNat).t.slots (q.a).toNat).wr, vb (rAt (mAt ms (q.run - 1).toNat).t.slots (q.a).toNat).wk])]) Yz (by kernel_rfl) ⟨0, X8 _, Z, Z, Z, Z, Ym, J2 _⟩ ?_ ?_
 refine Xi (fun S F k8 hS hbef hcl hI => ?_) ?_
 obtain ⟨O, gm, fv, ig, ii, ij, ak, hvs⟩ := hI
 exact Xd (v := .slice a ms.length c) fv Z (Xb ⟨O, gm, fv, ig, ii, ij, ak, Vals.up 0 hvs Z Z Z⟩)
 refine Xi (fun S F k9 hS hbef hcl hI => ?_) ?_
 obtain ⟨O, gp, ik, fw, il, im, ak, hvs⟩ := hI
 exact Xc (o' := 1) Q5 fw Z Z (Xb ⟨O, gp, ik, fw, il, im, ak, Vals.up 1 hvs Z Z Z⟩)
 refine Xi (fun S F la hS hbef hcl hI => ?_) ?_
 obtain ⟨O, d1, io, ip, iq, ir, ak, hvs⟩ := hI
 exact Xh (v := vi q.run) X1 (Vals.at 1 hvs Z (Xl 1 hbef Z)) ((((bw.grown0 am.grw).gn ag.grw).grown0 d1).cell Z) Z (Xb ⟨O, d1, io, ip, iq, ir, ak, Vals.up 2 hvs Z Z Z⟩)
 refine Xi (fun S F lc hS hbef hcl hI => ?_) ?_
 obtain ⟨O, gq, it, iu, iv, iw, ak, hvs⟩ := hI
 exact Yr (c := q.run - 1) (Vals.at 2 hvs Z (Xl 2 hbef Z)) Z (by omega) (by omega) (by omega) Z (Xb ⟨O, gq, it, iu, iv, iw, ak, Vals.up 3 hvs Z Z Z⟩)
 refine Xi (fun S F ld hS hbef hcl hI => ?_) ?_
 obtain ⟨O, gr, ix, iy, iz, i0, ak, hvs⟩ := hI
 exact X3 Qc (Vals.at 0 hvs Z (Xl 0 hbef Z)) (Vals.at 3 hvs Z (Xl 3 hbef Z)) gf g6 (by omega) (by omega) Z (Xb ⟨O, gr, ix, iy, iz, i0, ak, Vals.up 4 hvs Z Z Z⟩)
 refine Xi (fun S F le hS hbef hcl hI => ?_) ?_
 obtain ⟨O, gt, i1, i2, i3, i4, ak, hvs⟩ := hI
 exact Xc (o' := d9 + 5) Qj (Vals.at 4 hvs Z (Xl 4 hbef Z)) Z Z (Xb ⟨O, gt, i1, i2, i3, i4, ak, Vals.up 5 hvs Z Z Z⟩)
 refine Xi (fun S F lf hS hbef hcl hI => ?_) ?_
 obtain ⟨O, d2, i5, i6, i7, i8, ak, hvs⟩ := hI
 exact Xh (v := .slice (mAt ms (q.run - 1).toNat).sa (mAt ms (q.run - 1).toNat).t.slots.length (mAt ms (q.run - 1).toNat).sc) Jd (Vals.at 5 hvs Z (Xl 5 hbef Z)) ((Yi g9 d2) 5 _ Z) Z (Xb ⟨O, d2, i5, i6, i7, i8, ak, Vals.up 6 hvs Z Z Z⟩)
 refine Xi (fun S F lg hS hbef hcl hI => ?_) ?_
 obtain ⟨O, gu, i9, fx, ja, jb, ak, hvs⟩ := hI
 exact Xc (o' := 2) Kr fx Z Z (Xb ⟨O, gu, i9, fx, ja, jb, ak, Vals.up 7 hvs Z Z Z⟩)
 refine Xi (fun S F lh hS hbef hcl hI => ?_) ?_
 obtain ⟨O, d3, jc, jd, je, jf, ak, hvs⟩ := hI
 exact Xh (v := vi q.a) X1 (Vals.at 7 hvs Z (Xl 7 hbef Z)) ((((bw.grown0 am.grw).gn ag.grw).grown0 d3).cell Z) Z (Xb ⟨O, d3, jc, jd, je, jf, ak, Vals.up 8 hvs Z Z Z⟩)
 refine Xi (fun S F li hS hbef hcl hI => ?_) ?_
 obtain ⟨O, gv, jg, jh, ji, jj, ak, hvs⟩ := hI
 exact X3 J9 (Vals.at 6 hvs Z (Xl 6 hbef Z)) (Vals.at 8 hvs Z (Xl 8 hbef Z)) gg g7 (by omega) (by omega) Z (Xb ⟨O, gv, jg, jh, ji, jj, ak, Vals.up 9 hvs Z Z Z⟩)
 refine Xi (fun S F lj hS hbef hcl hI => ?_) ?_
 obtain ⟨O, d4, jk, jl, jm, jo, ak, hvs⟩ := hI
 exact Xr (vs := [vi (rAt (mAt ms (q.run - 1).toNat).t.slots (q.a).toNat).th, vi (rAt (mAt ms (q.run - 1).toNat).t.slots (q.a).toNat).ve, vb (rAt (mAt ms (q.run - 1).toNat).t.slots (q.a).toNat).rd, vb (rAt (mAt ms (q.run - 1).toNat).t.slots (q.a).toNat).wr, vb (rAt (mAt ms (q.run - 1).toNat).t.slots (q.a).toNat).wk]) Y0 (Vals.at 9 hvs Z (Xl 9 hbef Z)) Z (Y2 (Yi ia d4) 0 5 Z) Z (Xb ⟨O, d4, jk, jl, jm, jo, ak, Vals.up 10 hvs Z Z Z⟩)
 refine Xi (fun S F lk hS hbef hcl hI => ?_) ?_
 obtain ⟨O, bm, jp, jq, jr, js, ak, hvs⟩ := hI
 refine Yf (cs := #[vi 0, vi 0, vb false, vb false, vb false]) K3 Z Z ?_
 intro ic ll bg
 have fm := Yd bg (low0 cg bm)
 have bx := Xo bg ((((bw.grown0 am.grw).gn ag.grw).grown0 bm)).lt
 have bz := Xo bg ((((bb.grown0 am.grw).gn ag.grw).grown0 bm)).lt
 have ca := Xo bg ((ag.blk.grown0 bm)).lt
 exact Xb ⟨ic, (low0 bm bg.grw), jp, jq, jr, js, fun _ => ⟨Z, fm, bg.blk, bx, bz, ca, (nt bm.size (Nat.le_of_eq bg.eq.symm))⟩, Vals.keep hvs Z⟩
 exact Jb
 intro S F lm hall hI
 obtain ⟨O, an, dt, fy, fz, du, ak, hvs⟩ := hI
 obtain ⟨cd, kf, d8, eg, eo, e0, j4⟩ := ak (hall 11 (by decide))
 refine Xy (vs := [vi (rAt (mAt ms (q.run - 1).toNat).t.slots (q.a).toNat).th, vi (rAt (mAt ms (q.run - 1).toNat).t.slots (q.a).toNat).ve, vb (rAt (mAt ms (q.run - 1).toNat).t.slots (q.a).toNat).rd, vb (rAt (mAt ms (q.run - 1).toNat).t.slots (q.a).toNat).wr, vb (rAt (mAt ms (q.run - 1).toNat).t.slots (q.a).toNat).wk]) (cs' := #[vi (rAt (mAt ms (q.run - 1).toNat).t.slots (q.a).toNat).th, vi (rAt (mAt ms (q.run - 1).toNat).t.slots (q.a).toNat).ve, vb (rAt (mAt ms (q.run - 1).toNat).t.slots (q.a).toNat).rd, vb (rAt (mAt ms (q.run - 1).toNat).t.slots (q.a).toNat).wr, vb (rAt (mAt ms (q.run - 1).toNat).t.slots (q.a).toNat).wk]) Y0 cd (Vals.at 10 hvs Z (hall 10 (by decide))) Z (by simp [Value.oneCell']) d8 (Nat.le_of_ble_eq_true Z) Z ?_
 intro eb ac
 have dz := low1 (low0 cg an) ac.grw (by omega)
 refine Xb (Xu (Xq (Kj (fun f' w' => (f' 0 = .slice a ms.length c ∧ f' 3 = pt cc 0 ∧ f' 4 = .nilIface ∧ f' 5 = pt c9 0 ∧ f' 6 = pt O 0 ∧ f' 46 = vb ((decide ((rAt (mAt ms (q.run - 1).toNat).t.slots (q.a).toNat).th = 0)) || (!kindFor q.kind (mAt ms ((rAt (mAt ms (q.run - 1).toNat).t.slots (q.a).toNat).th - 1).toNat).t.kind))) ∧ eb.grownBy w' none) ?_ ?_)))
 rcases Yg (decide ((rAt (mAt ms (q.run - 1).toNat).t.slots (q.a).toNat).th = 0)) with af | af
 have ks := of_decide_eq_true af
 refine Yy (m := 12) (vals := [(32, pt O 0), (33, vi (rAt (mAt ms (q.run - 1).toNat).t.slots (q.a).toNat).th), (34, vb (decide ((rAt (mAt ms (q.run - 1).toNat).t.slots (q.a).toNat).th = 0))), (35, vb (decide ((rAt (mAt ms (q.run - 1).toNat).t.slots (q.a).toNat).th = 0))), (36, undef), (37, undef), (38, undef), (39, undef), (40, undef), (41, undef), (42, undef), (43, undef)]) (fun w' => eb.grownBy w' none) Yz (by kernel_rfl) (X8 _) ?_ ?_
 refine yl Z (fun _ _ k => Xc (o' := 0) Yo cd Z Z k) (yl Z (fun _ gw k => Xh (v := vi (rAt (mAt ms (q.run - 1).toNat).t.slots (q.a).toNat).th) X1 Z ((ac.blk.grown0 gw).cell Z) Z k) (yl Z (fun _ _ k => X6 (q := decide ((rAt (mAt ms (q.run - 1).toNat).t.slots (q.a).toNat).th = 0)) Z Z Z Z k) (yl Z (fun _ _ k => Xd (v := vb (decide ((rAt (mAt ms (q.run - 1).toNat).t.slots (q.a).toNat).th = 0))) Z Z k) (yl Z (fun _ _ k => Xj Z Z Z af Z k) (yl Z (fun _ _ k => Xj Z Z Z af Z k) (yl Z (fun _ _ k => Xj Z Z Z af Z k) (yl Z (fun _ _ k => Xj Z Z Z af Z k) (yl Z (fun _ _ k => Xj Z Z Z af Z k) (yl Z (fun _ _ k => Xj Z Z Z af Z k) (yl Z (fun _ _ k => Xj Z Z Z af Z k) ?_))))))))))
 exact yl Z (fun _ _ k => Xj Z Z Z af Z k) Y8
 intro ln gx
 exact Xj Z Z Z af Z (Xj Z Z Z af Z (Xw (v := vb true) Z af Z Z (Xb (Xu ⟨⟨dt, fy, fz, du, cd, (congrArg Value.bool (by first | (simp only [ae, ab, V, af, G, J, E, b0, b1, b2, b3, b4, b5, b6, b7, b8, b9]; done) | simp [ae, ab, V, af, G, J, E]))⟩, gx⟩))))
 have kt := of_decide_eq_false af
 obtain ⟨fu, kz, ea, gh, g8, ib⟩ := SlAt.at (TabAt.low ht dz).1 (Yp (xg ms ((rAt (mAt ms (q.run - 1).toNat).t.slots (q.a).toNat).th - 1).toNat))
 have kh := TabLen.at hlen (xg ms ((rAt (mAt ms (q.run - 1).toNat).t.slots (q.a).toNat).th - 1).toNat)
 refine Yy (m := 12) (vals := [(32, pt O 0), (33, vi (rAt (mAt ms (q.run - 1).toNat).t.slots (q.a).toNat).th), (34, vb (decide ((rAt (mAt ms (q.run - 1).toNat).t.slots (q.a).toNat).th = 0))), (35, vb (decide ((rAt (mAt ms (q.run - 1).toNat).t.slots (q.a).toNat).th = 0))), (36, .agg #[vi q.kind, .slice (pa ck) (kindsOf q.kind).length (kindsOf q.kind).length, vb (need0 q.kind), vb (need1 q.kind), vb (need0 q.kind), vb (need1 q.kind)]), (37, .slice a ms.length c), (38, pt O 0), (39, vi (rAt (mAt ms (q.run - 1).toNat).t.slots (q.a).toNat).th), (40, vi ((rAt (mAt ms (q.run - 1).toNat).t.slots (q.a).toNat).th - 1)), (41, pt fu ea), (42, pt fu ea), (43, vi (mAt ms ((rAt (mAt ms (q.run - 1).toNat).t.slots (q.a).toNat).th - 1).toNat).t.kind)]) (fun w' => eb.grownBy w' none) Yz (by kernel_rfl) (X8 _) ?_ ?_
 refine yl Z (fun _ _ k => Xc (o' := 0) Yo cd Z Z k) (yl Z (fun _ gy k => Xh (v := vi (rAt (mAt ms (q.run - 1).toNat).t.slots (q.a).toNat).th) X1 Z ((ac.blk.grown0 gy).cell Z) Z k) (yl Z (fun _ _ k => X6 (q := decide ((rAt (mAt ms (q.run - 1).toNat).t.slots (q.a).toNat).th = 0)) Z Z Z Z k) (yl Z (fun _ _ k => Xd (v := vb (decide ((rAt (mAt ms (q.run - 1).toNat).t.slots (q.a).toNat).th = 0))) Z Z k) (yl Z (fun _ gz k => Xg Z Z Z af (Xr (vs := [vi q.kind, .slice (pa ck) (kindsOf q.kind).length (kindsOf q.kind).length, vb (need0 q.kind), vb (need1 q.kind), vb (need0 q.kind), vb (need1 q.kind)]) Q8 du Z ((((ag.blk.grown0 an).gn ac.grw).grown0 gz).rangeL 0 6 Z) Z k)) (yl Z (fun _ _ k => Xg Z Z Z af (Xd (v := .slice a ms.length c) dt Z k)) (yl Z (fun _ _ k => Xg Z Z Z af (Xc (o' := 0) Yo cd Z Z k)) (yl Z (fun _ g0 k => Xg Z Z Z af (Xh (v := vi (rAt (mAt ms (q.run - 1).toNat).t.slots (q.a).toNat).th) X1 Z ((ac.blk.grown0 g0).cell Z) Z k)) (yl Z (fun _ _ k => Xg Z Z Z af (Yr (c := (rAt (mAt ms (q.run - 1).toNat).t.slots (q.a).toNat).th - 1) Z Z (by omega) (by omega) (by omega) Z k)) (yl Z (fun _ _ k => Xg Z Z Z af (X3 Qc Z Z gh g8 (by omega) (by omega) Z k)) (yl Z (fun _ _ k => Xg Z Z Z af (Xc (o' := ea) Qd Z Z Z k)) ?_))))))))))
 exact yl Z (fun _ g5 k => Xg Z Z Z af (Xh (v := vi (mAt ms ((rAt (mAt ms (q.run - 1).toNat).t.slots (q.a).toNat).th - 1).toNat).t.kind) X1 Z ((Yi ib g5) 0 _ Z) Z k)) Y8
 intro lp d5
 refine Xg Z Z Z af (Xn Xcu (Xf Z (Xf Z Xm)) Z (T1 q.kind (mAt ms ((rAt (mAt ms (q.run - 1).toNat).t.slots (q.a).toNat).th - 1).toNat).t.kind (need0 q.kind) (need1 q.kind) (need0 q.kind) (need1 q.kind) _ (kindsOf q.kind) _ _ (Jo Yq (((((bb.grown0 am.grw).gn ag.grw).grown0 an).gn ac.grw).grown0 d5)) (by exact nt T2 (by decide))) ?_)
 rintro _ lu ⟨rfl, gi⟩
 exact Xg Z Z Z af (Yn (b' := !kindFor q.kind (mAt ms ((rAt (mAt ms (q.run - 1).toNat).t.slots (q.a).toNat).th - 1).toNat).t.kind) (congrArg Value.bool (Ie q.kind (mAt ms ((rAt (mAt ms (q.run - 1).toNat).t.slots (q.a).toNat).th - 1).toNat).t.kind)) Z Z (Xp (v := vb (!kindFor q.kind (mAt ms ((rAt (mAt ms (q.run - 1).toNat).t.slots (q.a).toNat).th - 1).toNat).t.kind)) Z af Z Z (Xb (Xu ⟨⟨dt, fy, fz, du, cd, (congrArg Value.bool (by first | (simp only [ae, ab, V, af, G, J, E, b0, b1, b2, b3, b4, b5, b6, b7, b8, b9]; done) | simp [ae, ab, V, af, G, J, E]))⟩, (grown_trans d5 gi)⟩))))
 rintro km j6 ⟨⟨cl, cm, cn, bn, bp, jt⟩, ah⟩
 have bl := low0 dz ah
 refine X0 jt (fun ad => ?_) (fun ad => ?_)
 refine Xa (Yv (ps := [(0, vi (-1))]) (v := .agg #[vi (-1)]) (Xk Z X5) (by kernel_rfl) Z (Y7 (v := .agg #[vi (-1)]) (cs := #[vi (-1)]) Z Z Z ?_))
 intro da lv bh
 have fo := Yd bh bl
 have eh := Xo bh ((((((bw.grown0 am.grw).gn ag.grw).grown0 an).gn ac.grw).grown0 ah)).lt
 have ep := Xo bh ((((((bb.grown0 am.grw).gn ag.grw).grown0 an).gn ac.grw).grown0 ah)).lt
 have fa := Xo bh ((((ag.blk.grown0 an).gn ac.grw).grown0 ah)).lt
 have fe := Xo bh ((ac.blk.grown0 ah)).lt
 refine Kz (v := pt da 0) (by kernel_rfl) Z Z (Xe (v := .iface 63 (pt da 0)) Z Z (Xb (Xt (Yk ?_))))
 have dl : chkAll (tabT ms) q = -1 := (Jn ab).trans (Nw V (Xbk ad)).symm
 refine ⟨.iface 63 (pt da 0), Yt Z Z, Or.inr ⟨da, ⟨by rw [dl]; decide, Z⟩, fo, ?_⟩, (low0 bl bh.grw)⟩
 rw [dl]; exact bh.blk
 have ai := Kl ad
 have ku := of_decide_eq_false ai
 have aj := Km ad
 have al := Q3 aj
 refine Xz (Xu (Xq (Ya (fun f' w' => (f' 0 = .slice a ms.length c ∧ f' 3 = pt cc 0 ∧ f' 4 = .nilIface ∧ f' 5 = pt c9 0 ∧ f' 6 = pt O 0 ∧ f' 65 = vb ((need0 q.kind && (!(rAt (mAt ms (q.run - 1).toNat).t.slots (q.a).toNat).rd)) || (need1 q.kind && (!(rAt (mAt ms (q.run - 1).toNat).t.slots (q.a).toNat).wr)))) ∧ j6 = w') ?_ ?_)))
 refine Xc (o' := 2) Fw bn Z Z ?_
 have d6 := (((ag.blk.grown0 an).gn ac.grw).grown0 ah)
 refine Xh (v := vb (need0 q.kind)) Jw Z (d6.cell Z) Z (Xd (v := vb (need0 q.kind)) Z Z ?_)
 rcases Yg (need0 q.kind) with au | au
 refine Xg Z Z Z au (Xc (o' := 2) Ub bp Z Z (Xg Z Z Z au ?_))
 have gb := (ac.blk.grown0 ah)
 refine Xh (v := vb (rAt (mAt ms (q.run - 1).toNat).t.slots (q.a).toNat).rd) Jw Z (gb.cell Z) Z (Xg Z Z Z au (Yn (b' := !(rAt (mAt ms (q.run - 1).toNat).t.slots (q.a).toNat).rd) Z Z Z (Xw (v := vb (!(rAt (mAt ms (q.run - 1).toNat).t.slots (q.a).toNat).rd)) Z au Z Z (Xd (v := vb (!(rAt (mAt ms (q.run - 1).toNat).t.slots (q.a).toNat).rd)) Z Z ?_))))
 rcases Yg (!(rAt (mAt ms (q.run - 1).toNat).t.slots (q.a).toNat).rd) with aq | aq
 have f9 := Jr aq
 iterate 3 refine Xj rfl rfl rfl aq rfl ?_
 iterate 3 refine Yu rfl rfl rfl rfl ?_
 exact Xj Z Z Z aq Z (Xw (v := vb true) Z aq Z Z (Xb ⟨⟨cl, cm, cn, bn, bp, (congrArg Value.bool (by first | (simp only [ae, ab, V, ad, ai, aj, al, au, aq, f9, G, J, E, b0, b1, b2, b3, b4, b5, b6, b7, b8, b9]; done) | simp [ae, ab, V, ad, ai, aj, al, au, aq, f9, G, J, E]))⟩, Z⟩))
 have df := Q3 aq
 refine Xg Z Z Z aq (Xc (o' := 3) Ra bn Z Z (Xg Z Z Z aq (Xh (v := vb (need1 q.kind)) Jw Z (d6.cell Z) Z (Xg Z Z Z aq (Xd (v := vb (need1 q.kind)) Z Z ?_)))))
 rcases Yg (need1 q.kind) with bd | bd
 exact Xg Z Z Z bd (Xc (o' := 3) Vd bp Z Z (Xg Z Z Z bd (Xh (v := vb (rAt (mAt ms (q.run - 1).toNat).t.slots (q.a).toNat).wr) Jw Z (gb.cell Z) Z (Xg Z Z Z bd (Yn (b' := !(rAt (mAt ms (q.run - 1).toNat).t.slots (q.a).toNat).wr) Z Z Z (Xg Z Z Z aq (Xw (v := vb (!(rAt (mAt ms (q.run - 1).toNat).t.slots (q.a).toNat).wr)) Z bd Z Z (Xp (v := vb (!(rAt (mAt ms (q.run - 1).toNat).t.slots (q.a).toNat).wr)) Z aq Z Z (Xb ⟨⟨cl, cm, cn, bn, bp, (congrArg Value.bool (by first | (simp only [ae, ab, V, ad, ai, aj, al, au, aq, df, bd, G, J, E, b0, b1, b2, b3, b4, b5, b6, b7, b8, b9]; done) | simp [ae, ab, V, ad, ai, aj, al, au, aq, df, bd, G, J, E]))⟩, Z⟩)))))))))
 iterate 3 refine Xj rfl rfl rfl bd rfl ?_
 exact Xg Z Z Z aq (Xp (v := vb false) Z bd Z Z (Xp (v := vb false) Z aq Z Z (Xb ⟨⟨cl, cm, cn, bn, bp, (congrArg Value.bool (by first | (simp only [ae, ab, V, ad, ai, aj, al, au, aq, df, bd, G, J, E, b0, b1, b2, b3, b4, b5, b6, b7, b8, b9]; done) | simp [ae, ab, V, ad, ai, aj, al, au, aq, df, bd, G, J, E]))⟩, Z⟩)))
 iterate 3 refine Xj rfl rfl rfl au rfl ?_
 refine Xp (v := vb false) Z au Z Z (Xd (v := vb false) Z Z (Xg Z Z Z Z (Xc (o' := 3) Ra bn Z Z (Xg Z Z Z Z (Xh (v := vb (need1 q.kind)) Jw Z (d6.cell Z) Z (Xg Z Z Z Z (Xd (v := vb (need1 q.kind)) Z Z ?_)))))))
 rcases Yg (need1 q.kind) with be | be
 exact Xg Z Z Z be (Xc (o' := 3) Vd bp Z Z (Xg Z Z Z be (Xh (v := vb (rAt (mAt ms (q.run - 1).toNat).t.slots (q.a).toNat).wr) Jw Z ((ac.blk.grown0 ah).cell Z) Z (Xg Z Z Z be (Yn (b' := !(rAt (mAt ms (q.run - 1).toNat).t.slots (q.a).toNat).wr) Z Z Z (Xg Z Z Z Z (Xw (v := vb (!(rAt (mAt ms (q.run - 1).toNat).t.slots (q.a).toNat).wr)) Z be Z Z (Xp (v := vb (!(rAt (mAt ms (q.run - 1).toNat).t.slots (q.a).toNat).wr)) Z Z Z Z (Xb ⟨⟨cl, cm, cn, bn, bp, (congrArg Value.bool (by first | (simp only [ae, ab, V, ad, ai, aj, al, au, be, G, J, E, b0, b1, b2, b3, b4, b5, b6, b7, b8, b9]; done) | simp [ae, ab, V, ad, ai, aj, al, au, be, G, J, E]))⟩, Z⟩)))))))))
 iterate 3 refine Xj rfl rfl rfl be rfl ?_
 exact Xg Z Z Z Z (Xp (v := vb false) Z be Z Z (Xp (v := vb false) Z Z Z Z (Xb ⟨⟨cl, cm, cn, bn, bp, (congrArg Value.bool (by first | (simp only [ae, ab, V, ad, ai, aj, al, au, be, G, J, E, b0, b1, b2, b3, b4, b5, b6, b7, b8, b9]; done) | simp [ae, ab, V, ad, ai, aj, al, au, be, G, J, E]))⟩, Z⟩)))
 rintro kn lw ⟨⟨bq, dv, co, dw, br, ju⟩, rfl⟩
 refine X0 ju (fun ao => ?_) (fun ao => ?_)
 refine Xa (Yv (ps := [(0, vi (-1))]) (v := .agg #[vi (-1)]) (Xk Z X5) (by kernel_rfl) Z (Y7 (v := .agg #[vi (-1)]) (cs := #[vi (-1)]) Z Z Z ?_))
 intro db ly bi
 have fp := Yd bi bl
 have ei := Xo bi ((((((bw.grown0 am.grw).gn ag.grw).grown0 an).gn ac.grw).grown0 ah)).lt
 have eu := Xo bi ((((((bb.grown0 am.grw).gn ag.grw).grown0 an).gn ac.grw).grown0 ah)).lt
 have fb := Xo bi ((((ag.blk.grown0 an).gn ac.grw).grown0 ah)).lt
 have ff := Xo bi ((ac.blk.grown0 ah)).lt
 refine Kz (v := pt db 0) (by kernel_rfl) Z Z (Xe (v := .iface 63 (pt db 0)) Z Z (Xb (Xt (Yk ?_))))
 have dm : chkAll (tabT ms) q = -1 := (Jn ab).trans (Nw V (Xbl ad ao)).symm
 refine ⟨.iface 63 (pt db 0), Yt Z Z, Or.inr ⟨db, ⟨by rw [dm]; decide, Z⟩, fp, ?_⟩, (low0 bl bi.grw)⟩
 rw [dm]; exact bi.blk
 have a8 := Kl ao
 have a9 := Km ao
 refine Xz (Xu (Xa (Xd (v := .slice a ms.length c) bq Z (Xc (o' := 1) Q5 dv Z Z ?_))))
 have cv := (((((bw.grown0 am.grw).gn ag.grw).grown0 an).gn ac.grw).grown0 ah)
 refine Xh (v := vi q.run) X1 Z (cv.cell Z) Z (Xc (o' := 0) Yo br Z Z ?_)
 have ce := (ac.blk.grown0 ah)
 refine Xh (v := vi (rAt (mAt ms (q.run - 1).toNat).t.slots (q.a).toNat).th) X1 Z (ce.cell Z) Z (Xn Xaa (Xf Z (Xf Z (Xf Z Xm))) Z (Hi q.run (rAt (mAt ms (q.run - 1).toNat).t.slots (q.a).toNat).th _ ms _ _ (TabAt.low ht bl) hlen (by omega) G (by omega) (by omega)) ?_)
 rintro _ j7 ⟨rfl, ap⟩
 have cw := low0 bl ap
 refine Xe (v := vb (sees (tabT ms) q.run (rAt (mAt ms (q.run - 1).toNat).t.slots (q.a).toNat).th)) Z Z (Xb (Xq (Ya (fun f' w' => (f' 0 = .slice a ms.length c ∧ f' 4 = .nilIface ∧ f' 6 = pt O 0 ∧ f' 7 = vb (sees (tabT ms) q.run (rAt (mAt ms (q.run - 1).toNat).t.slots (q.a).toNat).th) ∧ f' 93 = vb ((need0 q.kind && (!sees (tabT ms) q.run (rAt (mAt ms (q.run - 1).toNat).t.slots (q.a).toNat).th)) || (need1 q.kind && (!touches (tabT ms) q.run (rAt (mAt ms (q.run - 1).toNat).t.slots (q.a).toNat).th)))) ∧ j7.grownBy w' none) ?_ ?_)))
 refine Xc (o' := 4) Fx dw Z Z ?_
 have d7 := ((((ag.blk.grown0 an).gn ac.grw).grown0 ah).grown0 ap)
 refine Xh (v := vb (need0 q.kind)) Jw Z (d7.cell Z) Z (Xd (v := vb (need0 q.kind)) Z Z ?_)
 rcases Yg (need0 q.kind) with av | av
 refine Xg Z Z Z av (Xd (v := vb (sees (tabT ms) q.run (rAt (mAt ms (q.run - 1).toNat).t.slots (q.a).toNat).th)) Z Z (Xg Z Z Z av (Yn (b' := !sees (tabT ms) q.run (rAt (mAt ms (q.run - 1).toNat).t.slots (q.a).toNat).th) Z Z Z (Xw (v := vb (!sees (tabT ms) q.run (rAt (mAt ms (q.run - 1).toNat).t.slots (q.a).toNat).th)) Z av Z Z (Xd (v := vb (!sees (tabT ms) q.run (rAt (mAt ms (q.run - 1).toNat).t.slots (q.a).toNat).th)) Z Z ?_)))))
 rcases Yg (!sees (tabT ms) q.run (rAt (mAt ms (q.run - 1).toNat).t.slots (q.a).toNat).th) with ar | ar
 have ga := Jr ar
 iterate 3 refine Xj rfl rfl rfl ar rfl ?_
 iterate 7 refine Yu rfl rfl rfl rfl ?_
 exact Xj Z Z Z ar Z (Xw (v := vb true) Z ar Z Z (Xb ⟨⟨bq, co, br, Z, (congrArg Value.bool (by first | (simp only [ae, ab, V, ad, ai, aj, al, ao, a8, a9, av, ar, ga, G, J, E, b0, b1, b2, b3, b4, b5, b6, b7, b8, b9]; done) | simp [ae, ab, V, ad, ai, aj, al, ao, a8, a9, av, ar, ga, G, J, E]))⟩, (World.grownBy.refl _ _)⟩))
 have dg := Q3 ar
 refine Xg Z Z Z ar (Xc (o' := 5) Rb dw Z Z (Xg Z Z Z ar (Xh (v := vb (need1 q.kind)) Jw Z (d7.cell Z) Z (Xg Z Z Z ar (Xd (v := vb (need1 q.kind)) Z Z ?_)))))
 rcases Yg (need1 q.kind) with aw | aw
 refine Xg Z Z Z aw (Xd (v := .slice a ms.length c) bq Z (Xg Z Z Z aw (Xc (o' := 1) Q5 dv Z Z (Xg Z Z Z aw (Xh (v := vi q.run) X1 Z ((cv.grown0 ap).cell Z) Z (Xg Z Z Z aw (Xc (o' := 0) Yo br Z Z (Xg Z Z Z aw (Xh (v := vi (rAt (mAt ms (q.run - 1).toNat).t.slots (q.a).toNat).th) X1 Z ((ce.grown0 ap).cell Z) Z (Xg Z Z Z aw (Xn Xak (Xf Z (Xf Z (Xf Z Xm))) Z (Wj q.run (rAt (mAt ms (q.run - 1).toNat).t.slots (q.a).toNat).th _ ms _ _ (TabAt.low ht cw) hlen (by omega) G (by omega) (by omega)) ?_)))))))))))
 rintro _ lz ⟨rfl, gj⟩
 exact Xg Z Z Z aw (Yn (b' := !touches (tabT ms) q.run (rAt (mAt ms (q.run - 1).toNat).t.slots (q.a).toNat).th) Z Z Z (Xg Z Z Z ar (Xw (v := vb (!touches (tabT ms) q.run (rAt (mAt ms (q.run - 1).toNat).t.slots (q.a).toNat).th)) Z aw Z Z (Xp (v := vb (!touches (tabT ms) q.run (rAt (mAt ms (q.run - 1).toNat).t.slots (q.a).toNat).th)) Z ar Z Z (Xb ⟨⟨bq, co, br, Z, (congrArg Value.bool (by first | (simp only [ae, ab, V, ad, ai, aj, al, ao, a8, a9, av, ar, dg, aw, G, J, E, b0, b1, b2, b3, b4, b5, b6, b7, b8, b9]; done) | simp [ae, ab, V, ad, ai, aj, al, ao, a8, a9, av, ar, dg, aw, G, J, E]))⟩, gj⟩)))))
 iterate 7 refine Xj rfl rfl rfl aw rfl ?_
 exact Xg Z Z Z ar (Xp (v := vb false) Z aw Z Z (Xp (v := vb false) Z ar Z Z (Xb ⟨⟨bq, co, br, Z, (congrArg Value.bool (by first | (simp only [ae, ab, V, ad, ai, aj, al, ao, a8, a9, av, ar, dg, aw, G, J, E, b0, b1, b2, b3, b4, b5, b6, b7, b8, b9]; done) | simp [ae, ab, V, ad, ai, aj, al, ao, a8, a9, av, ar, dg, aw, G, J, E]))⟩, (World.grownBy.refl _ _)⟩)))
 refine Xj Z Z Z av Z (Xj Z Z Z av Z (Xp (v := vb false) Z av Z Z (Xd (v := vb false) Z Z (Xg Z Z Z Z (Xc (o' := 5) Rb dw Z Z (Xg Z Z Z Z (Xh (v := vb (need1 q.kind)) Jw Z (d7.cell Z) Z (Xg Z Z Z Z (Xd (v := vb (need1 q.kind)) Z Z ?_)))))))))
 rcases Yg (need1 q.kind) with az | az
 refine Xg Z Z Z az (Xd (v := .slice a ms.length c) bq Z (Xg Z Z Z az (Xc (o' := 1) Q5 dv Z Z (Xg Z Z Z az (Xh (v := vi q.run) X1 Z ((cv.grown0 ap).cell Z) Z (Xg Z Z Z az (Xc (o' := 0) Yo br Z Z (Xg Z Z Z az (Xh (v := vi (rAt (mAt ms (q.run - 1).toNat).t.slots (q.a).toNat).th) X1 Z ((ce.grown0 ap).cell Z) Z (Xg Z Z Z az (Xn Xak (Xf Z (Xf Z (Xf Z Xm))) Z (Wj q.run (rAt (mAt ms (q.run - 1).toNat).t.slots (q.a).toNat).th _ ms _ _ (TabAt.low ht cw) hlen (by omega) G (by omega) (by omega)) ?_)))))))))))
 rintro _ l0 ⟨rfl, gk⟩
 exact Xg Z Z Z az (Yn (b' := !touches (tabT ms) q.run (rAt (mAt ms (q.run - 1).toNat).t.slots (q.a).toNat).th) Z Z Z (Xg Z Z Z Z (Xw (v := vb (!touches (tabT ms) q.run (rAt (mAt ms (q.run - 1).toNat).t.slots (q.a).toNat).th)) Z az Z Z (Xp (v := vb (!touches (tabT ms) q.run (rAt (mAt ms (q.run - 1).toNat).t.slots (q.a).toNat).th)) Z Z Z Z (Xb ⟨⟨bq, co, br, Z, (congrArg Value.bool (by first | (simp only [ae, ab, V, ad, ai, aj, al, ao, a8, a9, av, az, G, J, E, b0, b1, b2, b3, b4, b5, b6, b7, b8, b9]; done) | simp [ae, ab, V, ad, ai, aj, al, ao, a8, a9, av, az, G, J, E]))⟩, gk⟩)))))
 iterate 7 refine Xj rfl rfl rfl az rfl ?_
 exact Xg Z Z Z Z (Xp (v := vb false) Z az Z Z (Xp (v := vb false) Z Z Z Z (Xb ⟨⟨bq, co, br, Z, (congrArg Value.bool (by first | (simp only [ae, ab, V, ad, ai, aj, al, ao, a8, a9, av, az, G, J, E, b0, b1, b2, b3, b4, b5, b6, b7, b8, b9]; done) | simp [ae, ab, V, ad, ai, aj, al, ao, a8, a9, av, az, G, J, E]))⟩, (World.grownBy.refl _ _)⟩)))
 rintro ko j8 ⟨⟨jv, f8, jw, jx, jy⟩, ba⟩
 have cj := low0 cw ba
 refine X0 jy (fun bf => ?_) (fun bf => ?_)
 refine Xa (Yv (ps := [(0, vi (-2))]) (v := .agg #[vi (-2)]) (Xk Z X5) (by kernel_rfl) Z (Y7 (v := .agg #[vi (-2)]) (cs := #[vi (-2)]) Z Z Z ?_))
 intro dc l3 bj
 have fq := Yd bj cj
 have ej := Xo bj (((cv.grown0 ap).grown0 ba)).lt
 have ew := Xo bj ((((((((bb.grown0 am.grw).gn ag.grw).grown0 an).gn ac.grw).grown0 ah).grown0 ap).grown0 ba)).lt
 have fc := Xo bj ((((((ag.blk.grown0 an).gn ac.grw).grown0 ah).grown0 ap).grown0 ba)).lt
 have fg := Xo bj (((ce.grown0 ap).grown0 ba)).lt
 refine Kz (v := pt dc 0) (by kernel_rfl) Z Z (Xe (v := .iface 63 (pt dc 0)) Z Z (Xb (Xt (Yk ?_))))
 have dn : chkAll (tabT ms) q = -2 := (Jn ab).trans (S7 V (Sh ad ao) bf).symm
 refine ⟨.iface 63 (pt dc 0), Yt Z Z, Or.inr ⟨dc, ⟨by rw [dn]; decide, Z⟩, fq, ?_⟩, (low0 cj bj.grw)⟩
 rw [dn]; exact bj.blk
 have dh := Kl bf
 have di := Km bf
 refine Xz (Xu (Xq (Ya (fun f' w' => (f' 4 = .nilIface ∧ f' 103 = vb (sees (tabT ms) q.run (rAt (mAt ms (q.run - 1).toNat).t.slots (q.a).toNat).th && (!live (tabT ms) (rAt (mAt ms (q.run - 1).toNat).t.slots (q.a).toNat)))) ∧ j8.grownBy w' none) ?_ ?_)))
 refine Xd (v := vb (sees (tabT ms) q.run (rAt (mAt ms (q.run - 1).toNat).t.slots (q.a).toNat).th)) jx Z (Xd (v := vb (sees (tabT ms) q.run (rAt (mAt ms (q.run - 1).toNat).t.slots (q.a).toNat).th)) Z Z ?_)
 rcases Yg (sees (tabT ms) q.run (rAt (mAt ms (q.run - 1).toNat).t.slots (q.a).toNat).th) with bc | bc
 refine Xg Z Z Z bc (Xd (v := .slice a ms.length c) jv Z (Xg Z Z Z bc (Xr (vs := [vi (rAt (mAt ms (q.run - 1).toNat).t.slots (q.a).toNat).th, vi (rAt (mAt ms (q.run - 1).toNat).t.slots (q.a).toNat).ve, vb (rAt (mAt ms (q.run - 1).toNat).t.slots (q.a).toNat).rd, vb (rAt (mAt ms (q.run - 1).toNat).t.slots (q.a).toNat).wr, vb (rAt (mAt ms (q.run - 1).toNat).t.slots (q.a).toNat).wk]) Y0 jw Z (((ce.grown0 ap).grown0 ba).rangeL 0 5 Z) Z (Xg Z Z Z bc (Xn Ia (Xf Z (Xf Z Xm)) Z (Wm (rAt (mAt ms (q.run - 1).toNat).t.slots (q.a).toNat) (by omega) _ ms _ _ (TabAt.low ht cj) hlen (by omega)) ?_)))))
 rintro _ l4 ⟨rfl, gl⟩
 exact Xg Z Z Z bc (Yn (b' := !live (tabT ms) (rAt (mAt ms (q.run - 1).toNat).t.slots (q.a).toNat)) Z Z Z (Xw (v := vb (!live (tabT ms) (rAt (mAt ms (q.run - 1).toNat).t.slots (q.a).toNat))) Z bc Z Z (Xb ⟨⟨f8, (congrArg Value.bool (by first | (simp only [ae, ab, V, ad, ai, aj, al, ao, a8, a9, bf, dh, di, bc, G, J, E, b0, b1, b2, b3, b4, b5, b6, b7, b8, b9]; done) | simp [ae, ab, V, ad, ai, aj, al, ao, a8, a9, bf, dh, di, bc, G, J, E]))⟩, gl⟩)))
 iterate 4 refine Xj rfl rfl rfl bc rfl ?_
 exact Xp (v := vb false) Z bc Z Z (Xb ⟨⟨f8, (congrArg Value.bool (by first | (simp only [ae, ab, V, ad, ai, aj, al, ao, a8, a9, bf, dh, di, bc, G, J, E, b0, b1, b2, b3, b4, b5, b6, b7, b8, b9]; done) | simp [ae, ab, V, ad, ai, aj, al, ao, a8, a9, bf, dh, di, bc, G, J, E]))⟩, (World.grownBy.refl _ _)⟩)
 rintro kp l5 ⟨⟨kl, jz⟩, bv⟩
 have cy := low0 cj bv
 refine X0 jz (fun ct => ?_) (fun ct => ?_)
 have kv := L0 ct
 have j2 := L1 ct
 have kw := Jr j2
 refine Xa (Yv (ps := [(0, vi (-3))]) (v := .agg #[vi (-3)]) (Xk Z X5) (by kernel_rfl) Z (Y7 (v := .agg #[vi (-3)]) (cs := #[vi (-3)]) Z Z Z ?_))
 intro de l6 bk
 have fr := Yd bk cy
 have ek := Xo bk ((((cv.grown0 ap).grown0 ba).grown0 bv)).lt
 have ez := Xo bk (((((((((bb.grown0 am.grw).gn ag.grw).grown0 an).gn ac.grw).grown0 ah).grown0 ap).grown0 ba).grown0 bv)).lt
 have fd := Xo bk (((((((ag.blk.grown0 an).gn ac.grw).grown0 ah).grown0 ap).grown0 ba).grown0 bv)).lt
 have fh := Xo bk ((((ce.grown0 ap).grown0 ba).grown0 bv)).lt
 refine Kz (v := pt de 0) (by kernel_rfl) Z Z (Xe (v := .iface 63 (pt de 0)) Z Z (Xb (Xt (Yk ?_))))
 have dp : chkAll (tabT ms) q = -3 := (Jn ab).trans (S8 V (Sh ad ao) bf ct).symm
 refine ⟨.iface 63 (pt de 0), Yt Z Z, Or.inr ⟨de, ⟨by rw [dp]; decide, Z⟩, fr, ?_⟩, (low0 cy bk.grw)⟩
 rw [dp]; exact bk.blk
 refine Xz (Xu (Xa (Xe (v := .nilIface) Z Z (Xb (Xt ?_)))))
 have fj : chkAll (tabT ms) q = 0 := (Jn ab).trans (S6 V (Sh ad ao) bf ct).symm
 exact ⟨.nilIface, Yt Z Z, Or.inl ⟨fj, Z⟩, cy⟩
theorem Pw (q : Cl) (w : World) (ms : List MTh) (a : Option Addr) (c : Nat) (ht : TabAt w a ms) (hlen : TabLen ms) (hn : ms.length ≤ 1048576) (hE : ErrT w) (hck : chkAll (tabT ms) q = 0) : CallsR Tryz.prog 22 #[.slice a ms.length c, .agg #[vi q.kind, vi q.run, vi q.a, vi q.b, vi q.n]] w (fun v w' => v = vi (chkAll (tabT ms) q) ∧ w.grownBy w' none) := by
 refine Xx (n := 15) Tryz.func22 Z Tryz.ntmps22 Z ?_
 have ae := World.grownBy.refl w none
 refine Xa (Y7 (v := .agg #[vi q.kind, vi q.run, vi q.a, vi q.b, vi q.n]) (cs := #[vi q.kind, vi q.run, vi q.a, vi q.b, vi q.n]) Z Z Z ?_)
 intro ah ai E
 have af := Yd E ae
 have J := low0 ae E.grw
 refine Xe (v := vi 0) Z Z (Xb (Xa (Yf (cs := #[.pointer none]) Xas Z Z ?_)))
 intro ad aj G
 have ag := Yd G J
 have V := Xo G (E.blk).lt
 have O := low0 J G.grw
 refine Xb (Xq (Xa (Xd (v := .slice a ms.length c) Z Z (Xr (vs := [vi q.kind, vi q.run, vi q.a, vi q.b, vi q.n]) Y6 Z Z ((E.blk.grown0 G.grw).rangeL 0 5 Z) Z (Xn Xac (Xf Z (Xf Z Xm)) Z (L5 q _ ms _ _ (TabAt.low ht O) hlen (by omega)) ?_)))))
 rintro _ ak ⟨ac, ab⟩
 obtain ⟨_, rfl⟩ := ac.resolve_right (fun ⟨_, h, _⟩ => h.1 hck)
 refine Kz (v := pt ad 0) (by kernel_rfl) Z Z (Xn Xab (Xf Z (Xf Z Xm)) Z (Mv _ _) ?_)
 rintro _ _ ⟨rfl, rfl⟩
 refine Xb (Y4 Z Z (Xz (Xu (Xa (Xe (v := vi 0) Z Z (Xb (Xt (⟨vi 0, Yt Z Z, ?_, (low0 O ab)⟩))))))))
 rw [hck]
theorem Px (q : Cl) (w : World) (ms : List MTh) (a : Option Addr) (c : Nat) (ht : TabAt w a ms) (hlen : TabLen ms) (hn : ms.length ≤ 1048576) (hE : ErrT w) (hck : ¬ chkAll (tabT ms) q = 0) : CallsR Tryz.prog 22 #[.slice a ms.length c, .agg #[vi q.kind, vi q.run, vi q.a, vi q.b, vi q.n]] w (fun v w' => v = vi (chkAll (tabT ms) q) ∧ w.grownBy w' none) := by
 refine Xx (n := 15) Tryz.func22 Z Tryz.ntmps22 Z ?_
 have al := World.grownBy.refl w none
 refine Xa (Y7 (v := .agg #[vi q.kind, vi q.run, vi q.a, vi q.b, vi q.n]) (cs := #[vi q.kind, vi q.run, vi q.a, vi q.b, vi q.n]) Z Z Z ?_)
 intro ar au G
 have ao := Yd G al
 have V := low0 al G.grw
 refine Xe (v := vi 0) Z Z (Xb (Xa (Yf (cs := #[.pointer none]) Xas Z Z ?_)))
 intro ah av E
 have ap := Yd E V
 have ae := Xo E (G.blk).lt
 have O := low0 V E.grw
 refine Xb (Xq (Xa (Xd (v := .slice a ms.length c) Z Z ?_)))
 have aj := (G.blk.grown0 E.grw)
 refine Xr (vs := [vi q.kind, vi q.run, vi q.a, vi q.b, vi q.n]) Y6 Z Z (aj.rangeL 0 5 Z) Z (Xn Xac (Xf Z (Xf Z Xm)) Z (L5 q _ ms _ _ (TabAt.low ht O) hlen (by omega)) ?_)
 rintro _ aw ⟨ak, ac⟩
 obtain ⟨ai, ⟨_, rfl⟩, J, am⟩ := ak.resolve_left (fun h => hck h.1)
 have ab := low0 O ac
 have aq := nt O.size J
 have af := nl (aj).lt J
 have ag := nl (E.blk).lt J
 refine Kz (v := pt ah 0) (by kernel_rfl) Z Z (Xn Xab (Xf Z (Xf Z Xm)) Z (Mt ai ah _ _ (ErrT.grown0 hE ab) (E.blk.grown0 ac)) ?_)
 rintro _ az ⟨rfl, an, ad⟩
 refine Xb (Qa Z Z (Xa (Xh (v := pt ai 0) Xdg Z (an.cell Z) Z (Xs Z Z (Xc (o' := 0) O2 Z Z Z (Xh (v := vi (chkAll (tabT ms) q)) X1 Z ((am.gn ad).cell Z) Z (Xe (v := vi (chkAll (tabT ms) q)) Z Z (Xb (Xt (Yk (⟨vi (chkAll (tabT ms) q), Yt Z Z, ?_, (low1 ab ad (by omega))⟩)))))))))))
 rfl
theorem Hb (q : Cl) (w : World) (ms : List MTh) (a : Option Addr) (c : Nat) (ht : TabAt w a ms) (hlen : TabLen ms) (hn : ms.length ≤ 1048576) (hE : ErrT w) : CallsR Tryz.prog 22 #[.slice a ms.length c, .agg #[vi q.kind, vi q.run, vi q.a, vi q.b, vi q.n]] w (fun v w' => v = vi (chkAll (tabT ms) q) ∧ w.grownBy w' none) := by
 by_cases hck : chkAll (tabT ms) q = 0
 exact Pw q w ms a c ht hlen hn hE hck
 exact Px q w ms a c ht hlen hn hE hck
end Go.Proofs.YtlhhijnmacogcaaGreatDoor
end
section
namespace Go.Proofs.YtlhhijnmacogcaaGreatDoor
open Go.RowKit Go.Dw
set_option maxRecDepth 100000
set_option maxHeartbeats 4000000
set_option linter.unusedSimpArgs false
set_option linter.unusedVariables false
theorem Fy : fieldOff Tryz.prog 151 0 = some 0 := by kernel_rfl
theorem Wz : fieldOff Tryz.prog 59 0 = some 0 := by kernel_rfl
theorem Kf : fieldOff Tryz.prog 59 1 = some 1 := by kernel_rfl
theorem Gl : fieldOff Tryz.prog 59 2 = some 6 := by kernel_rfl
theorem K7 : goFn Tryz.prog 106 = true := by kernel_rfl
theorem F4 : goFn Tryz.prog 107 = true := by kernel_rfl
theorem F5 : goFn Tryz.prog 112 = true := by kernel_rfl
theorem Xbn : goFn Tryz.prog 145 = true := by kernel_rfl
theorem Xbo : goFn Tryz.prog 147 = true := by kernel_rfl
theorem Te : goFn Tryz.prog 24 = true := by kernel_rfl
theorem Rh : goFn Tryz.prog 38 = true := by kernel_rfl
theorem O5 (a b c : Bool) (w : World) : CallsR Tryz.prog 145 #[.agg #[], vb a, vb b, vb c] w (fun v w' => v = .agg #[vi 0, vi 0, vb false, vb false, vb false] ∧ w.grownBy w' none) := by
 refine Xx (n := 10) Tryz.func145 Z Tryz.ntmps145 Z ?_
 have ab := World.grownBy.refl w none
 refine Xa (Y7 (v := .agg #[]) (cs := #[]) Z Z Z ?_)
 intro ae ag G
 have ac := Yd G ab
 have O := low0 ab G.grw
 refine Yf (cs := #[vi 0, vi 0, vb false, vb false, vb false]) K3 Z Z ?_
 intro af ah E
 have ad := Yd E O
 have V := Xo E (G.blk).lt
 refine Xb (Xa (Yv (ps := []) (v := .agg #[vi 0, vi 0, vb false, vb false, vb false]) X5 (by kernel_rfl) Z (Xy (vs := [vi 0, vi 0, vb false, vb false, vb false]) (cs' := #[vi 0, vi 0, vb false, vb false, vb false]) Y0 Z Z Z (by simp [Value.oneCell']) E.blk (Nat.le_of_ble_eq_true Z) Z ?_)))
 intro ai J
 refine Xb (Xt (⟨.agg #[vi 0, vi 0, vb false, vb false, vb false], Jt Z (Yh (vs := [vi 0, vi 0, vb false, vb false, vb false]) Y0 Z Z (J.blk.rangeL 0 5 Z)), ?_, (low1 (low0 O E.grw) J.grw (by omega))⟩))
 rfl
theorem O6 (r : Rt) (a b c : Bool) (w : World) : CallsR Tryz.prog 147 #[.agg #[vi r.th, vi r.ve, vb r.rd, vb r.wr, vb r.wk], vb a, vb b, vb c] w (fun v w' => v = .agg #[vi r.th, vi r.ve, vb (r.rd && a), vb ((r.wr && b) && c), vb (r.wk || (!c))] ∧ w.grownBy w' none) := by
 refine Xx (n := 35) Tryz.func147 Z Tryz.ntmps147 Z ?_
 have be := World.grownBy.refl w none
 refine Xa (Y7 (v := .agg #[vi r.th, vi r.ve, vb r.rd, vb r.wr, vb r.wk]) (cs := #[vi r.th, vi r.ve, vb r.rd, vb r.wr, vb r.wk]) Z Z Z ?_)
 intro bl bq ac
 have bi := Yd ac be
 have ao := low0 be ac.grw
 refine Yf (cs := #[vi 0, vi 0, vb false, vb false, vb false]) K3 Z Z ?_
 intro ak br G
 have bj := Yd G ao
 have aq := Xo G (ac.blk).lt
 have ap := low0 ao G.grw
 refine Xb (Xa (Xc (o' := 0) Fy Z Z Z ?_))
 have a8 := (ac.blk.grown0 G.grw)
 refine Xr (vs := [vi r.th, vi r.ve, vb r.rd, vb r.wr, vb r.wk]) Y0 Z Z (a8.rangeL 0 5 Z) Z (Yf (cs := #[vi 0, vi 0, vb false, vb false, vb false]) K3 Z Z ?_)
 intro al bt J
 have bk := Yd J ap
 have ar := Xo J (a8).lt
 have au := Xo J (G.blk).lt
 refine Xy (vs := [vi r.th, vi r.ve, vb r.rd, vb r.wr, vb r.wk]) (cs' := #[vi r.th, vi r.ve, vb r.rd, vb r.wr, vb r.wk]) Y0 Z Z Z (by simp [Value.oneCell']) J.blk (Nat.le_of_ble_eq_true Z) Z ?_
 intro bf ad
 refine Xb (Xa (G9 5 (fun f' w' => (f' 2 = vb b ∧ f' 3 = vb c ∧ f' 8 = pt ak 0 ∧ f' 9 = pt al 0 ∧ f' 16 = vb (r.rd && a)) ∧ bf = w') ?_ ?_))
 simp only [List.take_succ_cons, List.take_zero]
 refine Xc (o' := 2) Ub Z Z Z (Xh (v := vb r.rd) Jw Z (ad.blk.cell Z) Z (Xd (v := vb r.rd) Z Z ?_))
 rcases Yg (r.rd) with V | V
 exact Xg Z Z Z V (Xd (v := vb a) Z Z (Xw (v := vb a) Z V Z Z (Xb ⟨⟨Z, Z, Z, Z, (cB (by simp [V]))⟩, Z⟩)))
 exact Xj Z Z Z V Z (Xp (v := vb false) Z V Z Z (Xb ⟨⟨Z, Z, Z, Z, (cB (by simp [V]))⟩, Z⟩))
 rintro bm bu ⟨⟨a9, ai, am, ag, ba⟩, rfl⟩
 simp only [List.drop_succ_cons, List.drop_zero]
 refine Xc (o' := 2) Ub ag Z Z (Yc (v := vb (r.rd && a)) (cs' := #[vi r.th, vi r.ve, vb (r.rd && a), vb r.wr, vb r.wk]) Jw Z ba Z ad.blk (Nat.le_of_ble_eq_true Z) Z ?_)
 intro bg ae
 refine Xb (Xa (G9 8 (fun f' w' => (f' 3 = vb c ∧ f' 8 = pt ak 0 ∧ f' 9 = pt al 0 ∧ f' 25 = vb ((r.wr && b) && c)) ∧ bg = w') ?_ ?_))
 simp only [List.take_succ_cons, List.take_zero]
 refine Xc (o' := 3) Vd ag Z Z (Xh (v := vb r.wr) Jw Z (ae.blk.cell Z) Z (Xd (v := vb r.wr) Z Z ?_))
 rcases Yg (r.wr) with O | O
 refine Xg Z Z Z O (Xd (v := vb b) a9 Z (Xw (v := vb b) Z O Z Z (Xd (v := vb b) Z Z ?_)))
 rcases Yg (b) with ab | ab
 exact Xg Z Z Z ab (Xd (v := vb c) ai Z (Xw (v := vb c) Z ab Z Z (Xb ⟨⟨ai, am, ag, (cB (by simp [O, ab]))⟩, Z⟩)))
 exact Xj Z Z Z ab Z (Xp (v := vb false) Z ab Z Z (Xb ⟨⟨ai, am, ag, (cB (by simp [O, ab]))⟩, Z⟩))
 exact Xj Z Z Z O Z (Xp (v := vb false) Z O Z Z (Xd (v := vb false) Z Z (Xj Z Z Z Z Z (Xp (v := vb false) Z Z Z Z (Xb ⟨⟨ai, am, ag, (cB (by simp [O]))⟩, Z⟩)))))
 rintro bn bv ⟨⟨bb, av, aj, bc⟩, rfl⟩
 simp only [List.drop_succ_cons, List.drop_zero]
 refine Xc (o' := 3) Vd aj Z Z (Yc (v := vb ((r.wr && b) && c)) (cs' := #[vi r.th, vi r.ve, vb (r.rd && a), vb ((r.wr && b) && c), vb r.wk]) Jw Z bc Z ae.blk (Nat.le_of_ble_eq_true Z) Z ?_)
 intro bh af
 refine Xb (Xa (G9 6 (fun f' w' => (f' 8 = pt ak 0 ∧ f' 9 = pt al 0 ∧ f' 32 = vb (r.wk || (!c))) ∧ bh = w') ?_ ?_))
 simp only [List.take_succ_cons, List.take_zero]
 refine Xc (o' := 4) Ve aj Z Z (Xh (v := vb r.wk) Jw Z (af.blk.cell Z) Z (Xd (v := vb r.wk) Z Z ?_))
 rcases Yg (r.wk) with E | E
 exact Xj Z Z Z E Z (Xj Z Z Z E Z (Xw (v := vb true) Z E Z Z (Xb ⟨⟨av, aj, (cB (by simp [E]))⟩, Z⟩)))
 exact Xg Z Z Z E (Xd (v := vb c) bb Z (Xg Z Z Z E (Yn (b' := !c) Z Z Z (Xp (v := vb (!c)) Z E Z Z (Xb ⟨⟨av, aj, (cB (by simp [E]))⟩, Z⟩)))))
 rintro bp bw ⟨⟨aw, az, bd⟩, rfl⟩
 simp only [List.drop_succ_cons, List.drop_zero]
 refine Xc (o' := 4) Ve az Z Z (Yc (v := vb (r.wk || (!c))) (cs' := #[vi r.th, vi r.ve, vb (r.rd && a), vb ((r.wr && b) && c), vb (r.wk || (!c))]) Jw Z bd Z af.blk (Nat.le_of_ble_eq_true Z) Z ?_)
 intro bx ah
 refine Xb (Xa (Xr (vs := [vi r.th, vi r.ve, vb (r.rd && a), vb ((r.wr && b) && c), vb (r.wk || (!c))]) Y0 az Z (ah.blk.rangeL 0 5 Z) Z (Xy (vs := [vi r.th, vi r.ve, vb (r.rd && a), vb ((r.wr && b) && c), vb (r.wk || (!c))]) (cs' := #[vi r.th, vi r.ve, vb (r.rd && a), vb ((r.wr && b) && c), vb (r.wk || (!c))]) Y0 aw Z Z (by simp [Value.oneCell']) (((((G.blk.grown0 J.grw).gn ad.grw).gn ae.grw).gn af.grw).gn ah.grw) (Nat.le_of_ble_eq_true Z) Z ?_)))
 intro bz an
 refine Xb (Xt (⟨.agg #[vi r.th, vi r.ve, vb (r.rd && a), vb ((r.wr && b) && c), vb (r.wk || (!c))], Jt Z (Yh (vs := [vi r.th, vi r.ve, vb (r.rd && a), vb ((r.wr && b) && c), vb (r.wk || (!c))]) Y0 aw Z (an.blk.rangeL 0 5 Z)), ?_, (low1 (low1 (low1 (low1 (low1 (low0 ap J.grw) ad.grw (by omega)) ae.grw (by omega)) af.grw (by omega)) ah.grw (by omega)) an.grw (by omega))⟩))
 rfl
theorem Gn (r : Rt) (a b c : Bool) (w : World) : CallsR Tryz.prog 107 #[.agg #[vi r.th, vi r.ve, vb r.rd, vb r.wr, vb r.wk], vb a, vb b, vb c] w (fun v w' => v = .agg #[vi (rightLess r a b c).th, vi (rightLess r a b c).ve, vb (rightLess r a b c).rd, vb (rightLess r a b c).wr, vb (rightLess r a b c).wk] ∧ w.grownBy w' none) := by
 refine Xx (n := 19) Tryz.func107 Z Tryz.ntmps107 Z ?_
 have av := World.grownBy.refl w none
 rcases Yg (decide (r.th = 0)) with J | J
 have bk := of_decide_eq_true J
 refine Xa (Y7 (v := .agg #[vi r.th, vi r.ve, vb r.rd, vb r.wr, vb r.wk]) (cs := #[vi r.th, vi r.ve, vb r.rd, vb r.wr, vb r.wk]) Z Z Z ?_)
 intro bg bm O
 have bc := Yd O av
 have aj := low0 av O.grw
 refine Yf (cs := #[vi 0, vi 0, vb false, vb false, vb false]) K3 Z Z ?_
 intro bh bn E
 have bd := Yd E aj
 have ar := Xo E (O.blk).lt
 refine Xb (Xq (Xa ?_))
 have az := (O.blk.grown0 E.grw)
 refine Xr (vs := [vi r.th, vi r.ve, vb r.rd, vb r.wr, vb r.wk]) Y0 Z Z (az.rangeL 0 5 Z) Z (Xn Tf (Xf Z Xm) Z (Ww r _) ?_)
 rintro _ bp ⟨rfl, ab⟩
 have ak := low0 (low0 aj E.grw) ab
 refine Yn (b' := !rightOk r) Z Z Z (Xb (X0 Z (fun ad => ?_) (fun ad => ?_)))
 have a9 := Jr ad
 refine Xa (Yv (ps := []) (v := .agg #[vi 0, vi 0, vb false, vb false, vb false]) X5 (by kernel_rfl) Z (Xy (vs := [vi 0, vi 0, vb false, vb false, vb false]) (cs' := #[vi 0, vi 0, vb false, vb false, vb false]) Y0 Z Z Z (by simp [Value.oneCell']) (E.blk.grown0 ab) (Nat.le_of_ble_eq_true Z) Z ?_))
 intro bq af
 refine Xb (Xt (Yk (⟨.agg #[vi 0, vi 0, vb false, vb false, vb false], Jt Z (Yh (vs := [vi 0, vi 0, vb false, vb false, vb false]) Y0 Z Z (af.blk.rangeL 0 5 Z)), ?_, (low1 ak af.grw (by omega))⟩)))
 rw [Hl a9]; rfl
 have aw := Q3 ad
 refine Xz (Xu (Xa (Xr (vs := [vi r.th, vi r.ve, vb r.rd, vb r.wr, vb r.wk]) Y0 Z Z ((az.grown0 ab).rangeL 0 5 Z) Z (Xn F5 (Xf Z Xm) Z (Ov r J _) ?_))))
 rintro _ br ⟨rfl, an⟩
 refine Xd (v := vb a) Z Z (Xd (v := vb b) Z Z (Xd (v := vb c) Z Z (Lq (T := 149) (rv := .agg #[]) (v0 := .agg #[]) (vs := [vb a, vb b, vb c]) Xbn Z (fun _ => by kernel_rfl) (Xf Z (Xf Z (Xf Z Xm))) Z (O5 a b c _) ?_)))
 rintro _ bt ⟨rfl, ao⟩
 refine Xy (vs := [vi 0, vi 0, vb false, vb false, vb false]) (cs' := #[vi 0, vi 0, vb false, vb false, vb false]) Y0 Z Z Z (by simp [Value.oneCell']) (((E.blk.grown0 ab).grown0 an).grown0 ao) (Nat.le_of_ble_eq_true Z) Z ?_
 intro bu ag
 refine Xb (Xt (⟨.agg #[vi 0, vi 0, vb false, vb false, vb false], Jt Z (Yh (vs := [vi 0, vi 0, vb false, vb false, vb false]) Y0 Z Z (ag.blk.rangeL 0 5 Z)), ?_, (low1 (low0 (low0 ak an) ao) ag.grw (by omega))⟩))
 rw [Uf aw, Rp J, Zm aw J]; rfl
 have bl := of_decide_eq_false J
 refine Xa (Y7 (v := .agg #[vi r.th, vi r.ve, vb r.rd, vb r.wr, vb r.wk]) (cs := #[vi r.th, vi r.ve, vb r.rd, vb r.wr, vb r.wk]) Z Z Z ?_)
 intro bi bv V
 have be := Yd V av
 have al := low0 av V.grw
 refine Yf (cs := #[vi 0, vi 0, vb false, vb false, vb false]) K3 Z Z ?_
 intro bj bw G
 have bf := Yd G al
 have au := Xo G (V.blk).lt
 refine Xb (Xq (Xa ?_))
 have a8 := (V.blk.grown0 G.grw)
 refine Xr (vs := [vi r.th, vi r.ve, vb r.rd, vb r.wr, vb r.wk]) Y0 Z Z (a8.rangeL 0 5 Z) Z (Xn Tf (Xf Z Xm) Z (Ww r _) ?_)
 rintro _ bx ⟨rfl, ac⟩
 have am := low0 (low0 al G.grw) ac
 refine Yn (b' := !rightOk r) Z Z Z (Xb (X0 Z (fun ae => ?_) (fun ae => ?_)))
 have ba := Jr ae
 refine Xa (Yv (ps := []) (v := .agg #[vi 0, vi 0, vb false, vb false, vb false]) X5 (by kernel_rfl) Z (Xy (vs := [vi 0, vi 0, vb false, vb false, vb false]) (cs' := #[vi 0, vi 0, vb false, vb false, vb false]) Y0 Z Z Z (by simp [Value.oneCell']) (G.blk.grown0 ac) (Nat.le_of_ble_eq_true Z) Z ?_))
 intro bz ah
 refine Xb (Xt (Yk (⟨.agg #[vi 0, vi 0, vb false, vb false, vb false], Jt Z (Yh (vs := [vi 0, vi 0, vb false, vb false, vb false]) Y0 Z Z (ah.blk.rangeL 0 5 Z)), ?_, (low1 am ah.grw (by omega))⟩)))
 rw [Hl ba]; rfl
 have bb := Q3 ae
 refine Xz (Xu (Xa (Xr (vs := [vi r.th, vi r.ve, vb r.rd, vb r.wr, vb r.wk]) Y0 Z Z ((a8.grown0 ac).rangeL 0 5 Z) Z (Xn F5 (Xf Z Xm) Z (Ou r J _) ?_))))
 rintro _ ca ⟨rfl, ap⟩
 refine Xd (v := vb a) Z Z (Xd (v := vb b) Z Z (Xd (v := vb c) Z Z (Lq (T := 151) (rv := .agg #[vi r.th, vi r.ve, vb r.rd, vb r.wr, vb r.wk]) (v0 := .agg #[vi r.th, vi r.ve, vb r.rd, vb r.wr, vb r.wk]) (vs := [vb a, vb b, vb c]) Xbo Z (fun _ => by kernel_rfl) (Xf Z (Xf Z (Xf Z Xm))) Z (O6 r a b c _) ?_)))
 rintro _ cc ⟨rfl, aq⟩
 refine Xy (vs := [vi r.th, vi r.ve, vb (r.rd && a), vb ((r.wr && b) && c), vb (r.wk || (!c))]) (cs' := #[vi r.th, vi r.ve, vb (r.rd && a), vb ((r.wr && b) && c), vb (r.wk || (!c))]) Y0 Z Z Z (by simp [Value.oneCell']) (((G.blk.grown0 ac).grown0 ap).grown0 aq) (Nat.le_of_ble_eq_true Z) Z ?_
 intro cd ai
 refine Xb (Xt (⟨.agg #[vi r.th, vi r.ve, vb (r.rd && a), vb ((r.wr && b) && c), vb (r.wk || (!c))], Jt Z (Yh (vs := [vi r.th, vi r.ve, vb (r.rd && a), vb ((r.wr && b) && c), vb (r.wk || (!c))]) Y0 Z Z (ai.blk.rangeL 0 5 Z)), ?_, (low1 (low0 (low0 am ap) aq) ai.grw (by omega))⟩))
 rw [Uf bb, Ro J]
theorem Uq (q : Cl) (r : Rt) (B cap : Nat) (ms : List MTh) (w : World) (hB : Dw.Own w B 39 8 cap ms.length (ms.flatMap MTh.cells)) (hml : ms.length ≤ 8) (A : Nat) (hA : Blk w A 59 #[.slice (pa B) ms.length cap, vi q.kind, vi q.run, vi q.a, vi q.b, vi q.n, vi r.th, vi r.ve, vb r.rd, vb r.wr, vb r.wk]) (hi : 1 ≤ q.run ∧ q.run ≤ (ms.length : Int)) : CallsR Tryz.prog 38 #[pt A 0] w (fun v w' => v = pt B ((q.run - 1).toNat * 8) ∧ w.grownBy w' none) := by
 refine Xx (n := 14) Tryz.func38 Z Tryz.ntmps38 Z (Xa (Xe (v := .pointer none) Z Z (Xb (Xq (Yy (m := 10) (vals := [(3, pt A 0), (4, pt A 0), (5, pt A 0), (6, .slice (pa B) ms.length cap), (7, pt A 0), (8, pt A 0), (9, pt A 1), (10, pt A 2), (11, vi q.run), (12, vi (q.run - 1))]) (fun w' => w.grownBy w' none) Yz (by kernel_rfl) (X8 _) ?_ ?_)))))
 exact yl Z (fun _ _ k => Xd (v := pt A 0) Z Z k) (yl Z (fun _ _ k => Xs Z Z k) (yl Z (fun _ _ k => Xc (o' := 0) Wz Z Z Z k) (yl Z (fun _ E k => Xh (v := .slice (pa B) ms.length cap) Ue Z ((hA.grown0 E).cell Z) Z k) (yl Z (fun _ _ k => Xd (v := pt A 0) Z Z k) (yl Z (fun _ _ k => Xs Z Z k) (yl Z (fun _ _ k => Xc (o' := 1) Kf Z Z Z k) (yl Z (fun _ _ k => Xc (o' := 2) Q5 Z Z Z k) (yl Z (fun _ G k => Xh (v := vi q.run) X1 Z ((hA.grown0 G).cell Z) Z k) (yl Z (fun _ _ k => Yr (c := q.run - 1) Z Z (by omega) (by omega) (by omega) Z k) Y8)))))))))
 intro O J
 refine X4 (o' := (q.run - 1).toNat * 8) Qc Z Z (by omega) (by omega) (by omega) Z (Xe (v := pt B ((q.run - 1).toNat * 8)) Z Z (Xb (Xu (Xt (⟨pt B ((q.run - 1).toNat * 8), Yt Z Z, ?_, (low0 (World.grownBy.refl w none) J)⟩)))))
 rfl
theorem Kd (q : Cl) (r : Rt) (B cap : Nat) (ms : List MTh) (w : World) (hB : Dw.Own w B 39 8 cap ms.length (ms.flatMap MTh.cells)) (hml : ms.length ≤ 8) (A : Nat) (hA : Blk w A 59 #[.slice (pa B) ms.length cap, vi q.kind, vi q.run, vi q.a, vi q.b, vi q.n, vi r.th, vi r.ve, vb r.rd, vb r.wr, vb r.wk]) (hi : 1 ≤ r.th ∧ r.th ≤ (ms.length : Int)) : CallsR Tryz.prog 106 #[pt A 0] w (fun v w' => v = pt B ((r.th - 1).toNat * 8) ∧ w.grownBy w' none) := by
 refine Xx (n := 14) Tryz.func106 Z Tryz.ntmps106 Z (Xa (Xe (v := .pointer none) Z Z (Xb (Xq (Yy (m := 10) (vals := [(3, pt A 0), (4, pt A 0), (5, pt A 0), (6, .slice (pa B) ms.length cap), (7, pt A 0), (8, pt A 0), (9, pt A 6), (10, pt A 6), (11, vi r.th), (12, vi (r.th - 1))]) (fun w' => w.grownBy w' none) Yz (by kernel_rfl) (X8 _) ?_ ?_)))))
 exact yl Z (fun _ _ k => Xd (v := pt A 0) Z Z k) (yl Z (fun _ _ k => Xs Z Z k) (yl Z (fun _ _ k => Xc (o' := 0) Wz Z Z Z k) (yl Z (fun _ E k => Xh (v := .slice (pa B) ms.length cap) Ue Z ((hA.grown0 E).cell Z) Z k) (yl Z (fun _ _ k => Xd (v := pt A 0) Z Z k) (yl Z (fun _ _ k => Xs Z Z k) (yl Z (fun _ _ k => Xc (o' := 6) Gl Z Z Z k) (yl Z (fun _ _ k => Xc (o' := 6) Yo Z Z Z k) (yl Z (fun _ G k => Xh (v := vi r.th) X1 Z ((hA.grown0 G).cell Z) Z k) (yl Z (fun _ _ k => Yr (c := r.th - 1) Z Z (by omega) (by omega) (by omega) Z k) Y8)))))))))
 intro O J
 refine X4 (o' := (r.th - 1).toNat * 8) Qc Z Z (by omega) (by omega) (by omega) Z (Xe (v := pt B ((r.th - 1).toNat * 8)) Z Z (Xb (Xu (Xt (⟨pt B ((r.th - 1).toNat * 8), Yt Z Z, ?_, (low0 (World.grownBy.refl w none) J)⟩)))))
 rfl
theorem Xav (q : Cl) (r : Rt) (lo B cap : Nat) (ms : List MTh) (w : World) (hB : Dw.Own w B 39 8 cap ms.length (ms.flatMap MTh.cells)) (hR : RowsO 33 3 lo w ms) (hlo : lo ≤ B) (hi : Nat) (hH : HiO hi ms) (hBlt : B < hi) (hhi : hi ≤ w.heap.size) (hF : FarOk (tabT ms) q r) (A : Nat) (hA : Blk w A 59 #[.slice (pa B) ms.length cap, vi q.kind, vi q.run, vi q.a, vi q.b, vi q.n, vi r.th, vi r.ve, vb r.rd, vb r.wr, vb r.wk]) (hAhi : hi ≤ A) (hq : decide (q.kind = 1) = true) : CallsR Tryz.prog 89 #[pt A 0] w (fun v w' => ∃ ms' : List MTh, v = vi (far (tabT ms) q r).2 ∧ ms'.length = ms.length ∧ Dw.Own w' B 39 8 cap ms'.length (ms'.flatMap MTh.cells) ∧ RowsO 33 3 lo w' ms' ∧ tabT ms' = (far (tabT ms) q r).1 ∧ KeepsI lo hi [39, 33, 3] w w') := by
 refine Xx (n := 8) Tryz.func89 Z Tryz.ntmps89 Z ?_
 have J : KeepsI lo hi [39, 33, 3] w w := KeepsI.refl w
 have hlow : lo ≤ w.heap.size := by omega
 have hT := hF.tab
 have hco := Yx hF.call
 have hkp := (Qe hF.run).1
 have h4 := Qt hT hF.run
 have hth := hF.th
 rw [Y5] at hth
 have hml := Jk hT
 have hkd := Q2 hF.kind hco.1
 rw [← Qk] at hkd
 have hrow := Jl hT (i := (r.th - 1).toNat) (by omega)
 have hln := TabLen.ok hT _ (List.mem_of_getElem? (xg ms (r.th - 1).toNat))
 have hcp := hF.copy
 have hve := V8 hrow
 have hqk := of_decide_eq_true hq
 refine Xa (Xe (v := vi 0) Z Z (Xb (Xa (Xd (v := pt A 0) Z Z (Xn K7 (Xf Z Xm) Z (Kd q r B cap _ _ hB (by first | omega | (simp only [List.length_set, Yb]; omega)) A hA (by first | omega | (simp only [List.length_set, Yb]; omega))) ?_)))))
 rintro _ O ⟨rfl, E⟩
 refine Xs Z Z (Xc (o' := (r.th - 1).toNat * 8 + 4) Qw Z Z Z ?_)
 have G := (hB.grown0 E)
 refine Xh (v := vi (mj ms r.th).t.num) X1 Z ((Own.range Yj G (xg ms (r.th - 1).toNat)) 4 _ Z) Z (Xe (v := vi (mj ms r.th).t.num) Z Z (Xb (Xt ?_)))
 have hf : far (tabT ms) q r = (tabT (ms), (mj ms r.th).t.num) := Zz hq
 exact ⟨vi (mj ms r.th).t.num, Yt Z Z, ms, by rw [hf], by first | rfl | exact Yb | (simp only [List.length_set, Yb]), G, (RowsO.low hR E), by rw [hf], (KeepsI.low J E)⟩
theorem Xaw (q : Cl) (r : Rt) (lo B cap : Nat) (ms : List MTh) (w : World) (hB : Dw.Own w B 39 8 cap ms.length (ms.flatMap MTh.cells)) (hR : RowsO 33 3 lo w ms) (hlo : lo ≤ B) (hi : Nat) (hH : HiO hi ms) (hBlt : B < hi) (hhi : hi ≤ w.heap.size) (hF : FarOk (tabT ms) q r) (A : Nat) (hA : Blk w A 59 #[.slice (pa B) ms.length cap, vi q.kind, vi q.run, vi q.a, vi q.b, vi q.n, vi r.th, vi r.ve, vb r.rd, vb r.wr, vb r.wk]) (hAhi : hi ≤ A) (hq : decide (q.kind = 2) = true) : CallsR Tryz.prog 90 #[pt A 0] w (fun v w' => ∃ ms' : List MTh, v = vi (far (tabT ms) q r).2 ∧ ms'.length = ms.length ∧ Dw.Own w' B 39 8 cap ms'.length (ms'.flatMap MTh.cells) ∧ RowsO 33 3 lo w' ms' ∧ tabT ms' = (far (tabT ms) q r).1 ∧ KeepsI lo hi [39, 33, 3] w w') := by
 refine Xx (n := 12) Tryz.func90 Z Tryz.ntmps90 Z ?_
 have af : KeepsI lo hi [39, 33, 3] w w := KeepsI.refl w
 have hlow : lo ≤ w.heap.size := by omega
 have hT := hF.tab
 have hco := Yx hF.call
 have hkp := (Qe hF.run).1
 have h4 := Qt hT hF.run
 have hth := hF.th
 rw [Y5] at hth
 have hml := Jk hT
 have hkd := Q2 hF.kind hco.1
 rw [← Qk] at hkd
 have hrow := Jl hT (i := (r.th - 1).toNat) (by omega)
 have hln := TabLen.ok hT _ (List.mem_of_getElem? (xg ms (r.th - 1).toNat))
 have hcp := hF.copy
 have hve := V8 hrow
 have hqk := of_decide_eq_true hq
 refine Xa (Xe (v := vi 0) Z Z (Xb (Xq (Yy (m := 7) (vals := [(3, pt A 0), (4, pt B ((r.th - 1).toNat * 8)), (5, pt A 0), (6, pt A 0), (7, pt A 1), (8, pt A 5), (9, vi q.n)]) (fun w' => w.grownBy w' none) Yz (by kernel_rfl) (X8 _) ?_ ?_))))
 refine yl Z (fun _ _ k => Xd (v := pt A 0) Z Z k) ?_
 refine Qh Z (fun ag E => ?_) ?_
 refine Xn K7 (Xf Z Xm) Z (Kd q r B cap _ _ (hB.grown0 E) (by first | omega | (simp only [List.length_set, Yb]; omega)) A (hA.grown0 E) (by first | omega | (simp only [List.length_set, Yb]; omega))) ?_
 rintro _ ah ⟨rfl, ac⟩
 exact Xb ⟨Z, (grown_trans E ac)⟩
 exact yl Z (fun _ _ k => Xd (v := pt A 0) Z Z k) (yl Z (fun _ _ k => Xs Z Z k) (yl Z (fun _ _ k => Xc (o' := 1) Kf Z Z Z k) (yl Z (fun _ _ k => Xc (o' := 5) Js Z Z Z k) (yl Z (fun _ ad k => Xh (v := vi q.n) X1 Z ((hA.grown0 ad).cell Z) Z k) Y8))))
 intro ai G
 refine Xs Z Z (Xc (o' := (r.th - 1).toNat * 8 + 4) Qw Z Z Z ?_)
 have O := (hB.grown0 G)
 refine Q7 (g := MTh.cells) (j := 4) (z := (mj ms r.th)) (z' := (⟨⟨(mj ms r.th).t.kind, (mj ms r.th).t.lab, (mj ms r.th).t.ve, q.n, (mj ms r.th).t.slots, (mj ms r.th).t.queue, (mj ms r.th).t.to⟩, (mj ms r.th).sa, (mj ms r.th).sc, (mj ms r.th).qa, (mj ms r.th).qc⟩ : MTh)) (v := vi q.n) X1 Z Z Z Yj O (xg ms (r.th - 1).toNat) (by omega) Z Z ?_
 intro ae ab J
 have V : RowsO 33 3 lo ae (ms.set (r.th - 1).toNat (⟨⟨(mj ms r.th).t.kind, (mj ms r.th).t.lab, (mj ms r.th).t.ve, q.n, (mj ms r.th).t.slots, (mj ms r.th).t.queue, (mj ms r.th).t.to⟩, (mj ms r.th).sa, (mj ms r.th).sc, (mj ms r.th).qa, (mj ms r.th).qc⟩ : MTh)) := RowsO.set (RowsO.own (RowsO.low hR G) J O (by decide) (by decide)) (lq (r.th - 1).toNat ms.length) ⟨rfl, rfl, rfl⟩ ⟨rfl, rfl, rfl⟩
 refine Xb (Xu (Xa (Xe (v := vi 0) Z Z (Xb (Xt ?_)))))
 have hf : far (tabT ms) q r = (tabT (ms.set (r.th - 1).toNat (⟨⟨(mj ms r.th).t.kind, (mj ms r.th).t.lab, (mj ms r.th).t.ve, q.n, (mj ms r.th).t.slots, (mj ms r.th).t.queue, (mj ms r.th).t.to⟩, (mj ms r.th).sa, (mj ms r.th).sc, (mj ms r.th).qa, (mj ms r.th).qc⟩ : MTh)), 0) := Z0 hq rfl
 exact ⟨vi 0, Yt Z Z, ms.set (r.th - 1).toNat (⟨⟨(mj ms r.th).t.kind, (mj ms r.th).t.lab, (mj ms r.th).t.ve, q.n, (mj ms r.th).t.slots, (mj ms r.th).t.queue, (mj ms r.th).t.to⟩, (mj ms r.th).sa, (mj ms r.th).sc, (mj ms r.th).qa, (mj ms r.th).qc⟩ : MTh), by rw [hf], by first | rfl | exact Yb | (simp only [List.length_set, Yb]), ab, V, by rw [hf], (KeepsI.own (KeepsI.low af G) J O (by decide) (by omega) (by omega))⟩
theorem Xay (q : Cl) (r : Rt) (lo B cap : Nat) (ms : List MTh) (w : World) (hB : Dw.Own w B 39 8 cap ms.length (ms.flatMap MTh.cells)) (hR : RowsO 33 3 lo w ms) (hlo : lo ≤ B) (hi : Nat) (hH : HiO hi ms) (hBlt : B < hi) (hhi : hi ≤ w.heap.size) (hF : FarOk (tabT ms) q r) (A : Nat) (hA : Blk w A 59 #[.slice (pa B) ms.length cap, vi q.kind, vi q.run, vi q.a, vi q.b, vi q.n, vi r.th, vi r.ve, vb r.rd, vb r.wr, vb r.wk]) (hAhi : hi ≤ A) (hq : decide (q.kind = 4) = true) : CallsR Tryz.prog 92 #[pt A 0] w (fun v w' => ∃ ms' : List MTh, v = vi (far (tabT ms) q r).2 ∧ ms'.length = ms.length ∧ Dw.Own w' B 39 8 cap ms'.length (ms'.flatMap MTh.cells) ∧ RowsO 33 3 lo w' ms' ∧ tabT ms' = (far (tabT ms) q r).1 ∧ KeepsI lo hi [39, 33, 3] w w') := by
 refine Xx (n := 36) Tryz.func92 Z Tryz.ntmps92 Z ?_
 have d4 : KeepsI lo hi [39, 33, 3] w w := KeepsI.refl w
 have hlow : lo ≤ w.heap.size := by omega
 have hT := hF.tab
 have hco := Yx hF.call
 have hkp := (Qe hF.run).1
 have h4 := Qt hT hF.run
 have hth := hF.th
 rw [Y5] at hth
 have hml := Jk hT
 have hkd := Q2 hF.kind hco.1
 rw [← Qk] at hkd
 have hrow := Jl hT (i := (r.th - 1).toNat) (by omega)
 have hln := TabLen.ok hT _ (List.mem_of_getElem? (xg ms (r.th - 1).toNat))
 have hcp := hF.copy
 have hve := V8 hrow
 have eu := of_decide_eq_true hq
 have hs4 : (mAt ms (r.th - 1).toNat).t.slots.length = 4 := G0 hrow (Or.inl (by omega))
 have hqk := of_decide_eq_true hq
 have bv := (Kx hT (k := r.th) (by rw [Y5]; exact hth) (q.n % 4)).1
 rw [← Je] at bv
 refine Xa (Xe (v := vi 0) Z Z (Xb (Xq ?_)))
 obtain ⟨br, ba, ej, af⟩ := RowsO.slot hR (lq (r.th - 1).toNat ms.length) (by omega)
 have eg := hH _ (List.mem_of_getElem? (xg ms (r.th - 1).toNat)) _ (Or.inl ba)
 have ek := K9 hB af (by decide)
 refine Qv (m := 14) [[], [0], [0, 1], [0, 1, 2], [0, 1, 2, 3], [], [5], [5, 6], [5, 6, 7], [5, 6, 7, 8], [5, 6, 7, 8, 9], [0, 1, 2, 3, 4, 5, 6, 7, 8, 9, 10], [0, 1, 2, 3, 4, 5, 6, 7, 8, 9, 10, 11], [], [0, 1, 2, 3, 4, 5, 6, 7, 8, 9, 10, 11, 12, 13]] (fun S F w' => ∃ (E : Nat), w.grownBy w' none ∧ F 0 = pt A 0 ∧ F 2 = vi 0 ∧ (S 13 = true → F 3 = pt E 0 ∧ w.heap.size ≤ E ∧ Blk w' E 33 #[vi 0, vi 0, vb false, vb false, vb false] ∧ B < E ∧ A < E ∧ br < E ∧ w.heap.size ≤ E) ∧ Vals S F [(0, 4, pt A 0), (1, 5, pt B ((r.th - 1).toNat * 8)), (2, 6, pt B ((r.th - 1).toNat * 8)), (3, 7, pt B ((r.th - 1).toNat * 8 + 5)), (4, 8, .slice (mAt ms (r.th - 1).toNat).sa (mAt ms (r.th - 1).toNat).t.slots.length (mAt ms (r.th - 1).toNat).sc), (5, 9, pt A 0), (6, 10, pt A 0), (7, 11, pt A 1), (8, 12, pt A 5), (9, 13, vi q.n), (10, 14, vi (q.n % 4)), (11, 15, pt br ((q.n % 4).toNat * 5)), (12, 16, .agg #[vi (rAt (mAt ms (r.th - 1).toNat).t.slots (q.n % 4).toNat).th, vi (rAt (mAt ms (r.th - 1).toNat).t.slots (q.n % 4).toNat).ve, vb (rAt (mAt ms (r.th - 1).toNat).t.slots (q.n % 4).toNat).rd, vb (rAt (mAt ms (r.th - 1).toNat).t.slots (q.n % 4).toNat).wr, vb (rAt (mAt ms (r.th - 1).toNat).t.slots (q.n % 4).toNat).wk])]) Yz (by kernel_rfl) ⟨0, X8 _, Z, Z, Ym, J2 _⟩ ?_ ?_
 refine Xi (fun S F fa hS hbef hcl hI => ?_) ?_
 obtain ⟨E, cc, bt, da, G, hvs⟩ := hI
 exact Xd (v := pt A 0) bt Z (Xb ⟨E, cc, bt, da, G, Vals.up 0 hvs Z Z Z⟩)
 refine Xi (fun S F fb hS hbef hcl hI => ?_) ?_
 obtain ⟨E, ap, db, dc, G, hvs⟩ := hI
 refine Xn K7 (Xf (Vals.at 0 hvs Z (Xl 0 hbef Z)) Xm) Z (Kd q r B cap _ _ (hB.grown0 ap) (by first | omega | (simp only [List.length_set, Yb]; omega)) A (hA.grown0 ap) (by first | omega | (simp only [List.length_set, Yb]; omega))) ?_
 rintro _ fc ⟨rfl, bf⟩
 exact Xb ⟨E, (low0 ap bf), db, dc, fun h => let ⟨d8, d9, ea, eb, ed, ee, ef⟩ := G h; ⟨d8, d9, (ea).grown0 bf, eb, ed, ee, ef⟩, Vals.up 1 hvs Z Z Z⟩
 refine Xi (fun S F fd hS hbef hcl hI => ?_) ?_
 obtain ⟨E, cd, de, df, G, hvs⟩ := hI
 exact Xs (Vals.at 1 hvs Z (Xl 1 hbef Z)) Z (Xb ⟨E, cd, de, df, G, Vals.up 2 hvs Z Z Z⟩)
 refine Xi (fun S F fe hS hbef hcl hI => ?_) ?_
 obtain ⟨E, ce, dg, dh, G, hvs⟩ := hI
 exact Xc (o' := (r.th - 1).toNat * 8 + 5) Qj (Vals.at 2 hvs Z (Xl 2 hbef Z)) Z Z (Xb ⟨E, ce, dg, dh, G, Vals.up 3 hvs Z Z Z⟩)
 refine Xi (fun S F ff hS hbef hcl hI => ?_) ?_
 obtain ⟨E, bg, di, dk, G, hvs⟩ := hI
 exact Xh (v := .slice (mAt ms (r.th - 1).toNat).sa (mAt ms (r.th - 1).toNat).t.slots.length (mAt ms (r.th - 1).toNat).sc) Jd (Vals.at 3 hvs Z (Xl 3 hbef Z)) ((Own.range Yj (hB.grown0 bg) (xg ms (r.th - 1).toNat)) 5 _ Z) Z (Xb ⟨E, bg, di, dk, G, Vals.up 4 hvs Z Z Z⟩)
 refine Xi (fun S F fg hS hbef hcl hI => ?_) ?_
 obtain ⟨E, cf, bu, dl, G, hvs⟩ := hI
 exact Xd (v := pt A 0) bu Z (Xb ⟨E, cf, bu, dl, G, Vals.up 5 hvs Z Z Z⟩)
 refine Xi (fun S F fh hS hbef hcl hI => ?_) ?_
 obtain ⟨E, cg, dm, dn, G, hvs⟩ := hI
 exact Xs (Vals.at 5 hvs Z (Xl 5 hbef Z)) Z (Xb ⟨E, cg, dm, dn, G, Vals.up 6 hvs Z Z Z⟩)
 refine Xi (fun S F fi hS hbef hcl hI => ?_) ?_
 obtain ⟨E, cj, dp, dq, G, hvs⟩ := hI
 exact Xc (o' := 1) Kf (Vals.at 6 hvs Z (Xl 6 hbef Z)) Z Z (Xb ⟨E, cj, dp, dq, G, Vals.up 7 hvs Z Z Z⟩)
 refine Xi (fun S F fj hS hbef hcl hI => ?_) ?_
 obtain ⟨E, ck, dr, dt, G, hvs⟩ := hI
 exact Xc (o' := 5) Js (Vals.at 7 hvs Z (Xl 7 hbef Z)) Z Z (Xb ⟨E, ck, dr, dt, G, Vals.up 8 hvs Z Z Z⟩)
 refine Xi (fun S F fk hS hbef hcl hI => ?_) ?_
 obtain ⟨E, bh, du, dv, G, hvs⟩ := hI
 exact Xh (v := vi q.n) X1 (Vals.at 8 hvs Z (Xl 8 hbef Z)) ((hA.grown0 bh).cell Z) Z (Xb ⟨E, bh, du, dv, G, Vals.up 9 hvs Z Z Z⟩)
 refine Xi (fun S F fm hS hbef hcl hI => ?_) ?_
 obtain ⟨E, cl, dw, dx, G, hvs⟩ := hI
 exact Q9 (c := q.n % 4) (Vals.at 9 hvs Z (Xl 9 hbef Z)) Z (by omega) (by omega) (by omega) Z Z (Xb ⟨E, cl, dw, dx, G, Vals.up 10 hvs Z Z Z⟩)
 refine Xi (fun S F fo hS hbef hcl hI => ?_) ?_
 obtain ⟨E, cm, dy, dz, G, hvs⟩ := hI
 exact X3 J9 (Vals.at 4 hvs Z (Xl 4 hbef Z)) (Vals.at 10 hvs Z (Xl 10 hbef Z)) ba (Nat.zero_add _) (by omega) (by omega) Z (Xb ⟨E, cm, dy, dz, G, Vals.up 11 hvs Z Z Z⟩)
 refine Xi (fun S F fp hS hbef hcl hI => ?_) ?_
 obtain ⟨E, bi, d0, d1, G, hvs⟩ := hI
 exact Xr (vs := [vi (rAt (mAt ms (r.th - 1).toNat).t.slots (q.n % 4).toNat).th, vi (rAt (mAt ms (r.th - 1).toNat).t.slots (q.n % 4).toNat).ve, vb (rAt (mAt ms (r.th - 1).toNat).t.slots (q.n % 4).toNat).rd, vb (rAt (mAt ms (r.th - 1).toNat).t.slots (q.n % 4).toNat).wr, vb (rAt (mAt ms (r.th - 1).toNat).t.slots (q.n % 4).toNat).wk]) Y0 (Vals.at 11 hvs Z (Xl 11 hbef Z)) Z (Y2 (Own.range Qx (af.grown0 bi) (xr (mAt ms (r.th - 1).toNat).t.slots (q.n % 4).toNat)) 0 5 Z) Z (Xb ⟨E, bi, d0, d1, G, Vals.up 12 hvs Z Z Z⟩)
 refine Xi (fun S F fq hS hbef hcl hI => ?_) ?_
 obtain ⟨E, ac, d2, d3, G, hvs⟩ := hI
 refine Yf (cs := #[vi 0, vi 0, vb false, vb false, vb false]) K3 Z Z ?_
 intro c9 fr O
 have bq := K8 O (KeepsI.low d4 ac)
 have av := Xo O ((hB.grown0 ac)).lt
 have au := Xo O ((hA.grown0 ac)).lt
 have ae := Xo O ((af.grown0 ac)).lt
 exact Xb ⟨c9, (low0 ac O.grw), d2, d3, fun _ => ⟨Z, bq, O.blk, av, au, ae, (nt ac.size (Nat.le_of_eq O.eq.symm))⟩, Vals.keep hvs Z⟩
 exact Jb
 intro S F ft hall hI
 obtain ⟨E, ad, ak, e0, G, hvs⟩ := hI
 obtain ⟨al, ep, bl, c8, cz, bm, d5⟩ := G (hall 13 (by decide))
 refine Xy (vs := [vi (rAt (mAt ms (r.th - 1).toNat).t.slots (q.n % 4).toNat).th, vi (rAt (mAt ms (r.th - 1).toNat).t.slots (q.n % 4).toNat).ve, vb (rAt (mAt ms (r.th - 1).toNat).t.slots (q.n % 4).toNat).rd, vb (rAt (mAt ms (r.th - 1).toNat).t.slots (q.n % 4).toNat).wr, vb (rAt (mAt ms (r.th - 1).toNat).t.slots (q.n % 4).toNat).wk]) (cs' := #[vi (rAt (mAt ms (r.th - 1).toNat).t.slots (q.n % 4).toNat).th, vi (rAt (mAt ms (r.th - 1).toNat).t.slots (q.n % 4).toNat).ve, vb (rAt (mAt ms (r.th - 1).toNat).t.slots (q.n % 4).toNat).rd, vb (rAt (mAt ms (r.th - 1).toNat).t.slots (q.n % 4).toNat).wr, vb (rAt (mAt ms (r.th - 1).toNat).t.slots (q.n % 4).toNat).wk]) Y0 al (Vals.at 12 hvs Z (hall 12 (by decide))) Z (by simp [Value.oneCell']) bl (Nat.le_of_ble_eq_true Z) Z ?_
 intro d6 J
 have be := KeepsI.new (KeepsI.low d4 ad) J.grw (by omega)
 refine Xb (Xu (Xq (Xa (Xd (v := pt A 0) ak Z (Xs Z Z (Xc (o' := 6) Gl Z Z Z (Xc (o' := 10) Ve Z Z Z ?_)))))))
 have am := ((hA.grown0 ad).gn J.grw)
 refine Xh (v := vb r.wk) Jw Z (am.cell Z) Z (Xb (X0 Z (fun bd => ?_) (fun bd => ?_)))
 refine X2 (Xr (vs := [vi (rAt (mAt ms (r.th - 1).toNat).t.slots (q.n % 4).toNat).th, vi (rAt (mAt ms (r.th - 1).toNat).t.slots (q.n % 4).toNat).ve, vb (rAt (mAt ms (r.th - 1).toNat).t.slots (q.n % 4).toNat).rd, vb (rAt (mAt ms (r.th - 1).toNat).t.slots (q.n % 4).toNat).wr, vb (rAt (mAt ms (r.th - 1).toNat).t.slots (q.n % 4).toNat).wk]) Y0 al Z (J.blk.rangeL 0 5 Z) Z (Xn F4 (Xf Z (Xf Z (Xf Z (Xf Z Xm)))) Z (Gn (rAt (mAt ms (r.th - 1).toNat).t.slots (q.n % 4).toNat) true false false _) ?_))
 rintro _ fu ⟨rfl, ab⟩
 refine Xy (vs := [vi (l2Less (rAt (mAt ms (r.th - 1).toNat).t.slots (q.n % 4).toNat) true false false).th, vi (l2Less (rAt (mAt ms (r.th - 1).toNat).t.slots (q.n % 4).toNat) true false false).ve, vb (l2Less (rAt (mAt ms (r.th - 1).toNat).t.slots (q.n % 4).toNat) true false false).rd, vb (l2Less (rAt (mAt ms (r.th - 1).toNat).t.slots (q.n % 4).toNat) true false false).wr, vb (l2Less (rAt (mAt ms (r.th - 1).toNat).t.slots (q.n % 4).toNat) true false false).wk]) (cs' := #[vi (l2Less (rAt (mAt ms (r.th - 1).toNat).t.slots (q.n % 4).toNat) true false false).th, vi (l2Less (rAt (mAt ms (r.th - 1).toNat).t.slots (q.n % 4).toNat) true false false).ve, vb (l2Less (rAt (mAt ms (r.th - 1).toNat).t.slots (q.n % 4).toNat) true false false).rd, vb (l2Less (rAt (mAt ms (r.th - 1).toNat).t.slots (q.n % 4).toNat) true false false).wr, vb (l2Less (rAt (mAt ms (r.th - 1).toNat).t.slots (q.n % 4).toNat) true false false).wk]) Y0 al (congrArg (fun z : Rt => (.agg #[vi z.th, vi z.ve, vb z.rd, vb z.wr, vb z.wk] : Value)) (Uf (r := (rAt (mAt ms (r.th - 1).toNat).t.slots (q.n % 4).toNat)) (a := true) (b := false) (c := false) bv)) Z (by simp [Value.oneCell']) (J.blk.grown0 ab) (Nat.le_of_ble_eq_true Z) Z ?_
 intro d7 V
 refine Xb (Xu (Xq ?_))
 have aw := (RowsO.ge (RowsO.low (RowsO.ge (RowsO.low hR ad) J.grw hH (by omega)) ab) V.grw hH (by omega))
 obtain ⟨ew, ag, bn, a8⟩ := RowsO.slot aw (lq (q.run - 1).toNat ms.length) (by omega)
 have eh := hH _ (List.mem_of_getElem? (xg ms (q.run - 1).toNat)) _ (Or.inl ag)
 have bb := ((((hB.grown0 ad).gn J.grw).grown0 ab).gn V.grw)
 have em := K9 bb a8 (by decide)
 refine Yy (m := 11) (vals := [(24, pt A 0), (25, pt B ((q.run - 1).toNat * 8)), (26, pt B ((q.run - 1).toNat * 8)), (27, pt B ((q.run - 1).toNat * 8 + 5)), (28, .slice (mAt ms (q.run - 1).toNat).sa (mAt ms (q.run - 1).toNat).t.slots.length (mAt ms (q.run - 1).toNat).sc), (29, pt A 0), (30, pt A 0), (31, pt A 1), (32, pt A 4), (33, vi q.b), (34, .agg #[vi (l2Less (rAt (mAt ms (r.th - 1).toNat).t.slots (q.n % 4).toNat) true false false).th, vi (l2Less (rAt (mAt ms (r.th - 1).toNat).t.slots (q.n % 4).toNat) true false false).ve, vb (l2Less (rAt (mAt ms (r.th - 1).toNat).t.slots (q.n % 4).toNat) true false false).rd, vb (l2Less (rAt (mAt ms (r.th - 1).toNat).t.slots (q.n % 4).toNat) true false false).wr, vb (l2Less (rAt (mAt ms (r.th - 1).toNat).t.slots (q.n % 4).toNat) true false false).wk])]) (fun w' => d7.grownBy w' none) Yz (by kernel_rfl) (X8 _) ?_ ?_
 refine yl Z (fun _ _ k => Xd (v := pt A 0) ak Z k) ?_
 refine Qh Z (fun fv aq => ?_) ?_
 refine Xn Rh (Xf Z Xm) Z (Uq q r B cap _ _ (bb.grown0 aq) (by first | omega | (simp only [List.length_set, Yb]; omega)) A (((am.grown0 ab).gn V.grw).grown0 aq) (by first | omega | (simp only [List.length_set, Yb]; omega))) ?_
 rintro _ fw ⟨rfl, bz⟩
 exact Xb ⟨Z, (grown_trans aq bz)⟩
 exact yl Z (fun _ _ k => Xs Z Z k) (yl Z (fun _ _ k => Xc (o' := (q.run - 1).toNat * 8 + 5) Qj Z Z Z k) (yl Z (fun _ cn k => Xh (v := .slice (mAt ms (q.run - 1).toNat).sa (mAt ms (q.run - 1).toNat).t.slots.length (mAt ms (q.run - 1).toNat).sc) Jd Z ((Own.range Yj (bb.grown0 cn) (xg ms (q.run - 1).toNat)) 5 _ Z) Z k) (yl Z (fun _ _ k => Xd (v := pt A 0) ak Z k) (yl Z (fun _ _ k => Xs Z Z k) (yl Z (fun _ _ k => Xc (o' := 1) Kf Z Z Z k) (yl Z (fun _ _ k => Xc (o' := 4) Vo Z Z Z k) (yl Z (fun _ co k => Xh (v := vi q.b) X1 Z ((((am.grown0 ab).gn V.grw).grown0 co).cell Z) Z k) (yl Z (fun _ ct k => Xr (vs := [vi (l2Less (rAt (mAt ms (r.th - 1).toNat).t.slots (q.n % 4).toNat) true false false).th, vi (l2Less (rAt (mAt ms (r.th - 1).toNat).t.slots (q.n % 4).toNat) true false false).ve, vb (l2Less (rAt (mAt ms (r.th - 1).toNat).t.slots (q.n % 4).toNat) true false false).rd, vb (l2Less (rAt (mAt ms (r.th - 1).toNat).t.slots (q.n % 4).toNat) true false false).wr, vb (l2Less (rAt (mAt ms (r.th - 1).toNat).t.slots (q.n % 4).toNat) true false false).wk]) Y0 al Z ((V.blk.grown0 ct).rangeL 0 5 Z) Z k) Y8))))))))
 intro fx ai
 refine X3 J9 Z Z ag (Nat.zero_add _) (by omega) (by omega) Z ?_
 have bj := (a8.grown0 ai)
 refine Qy (g := Rt.cells) (z' := (l2Less (rAt (mAt ms (r.th - 1).toNat).t.slots (q.n % 4).toNat) true false false)) Y0 Z Z (Vf _) Qx bj (by omega) Z ?_
 intro fy bw an
 refine Xb (Xu (Xa (Xe (v := vi 0) Z Z (Xb (Xt ?_)))))
 have hf : far (tabT ms) q r = (tabT (putT ms (q.run - 1).toNat (q.b).toNat (l2Less (rAt (mAt ms (r.th - 1).toNat).t.slots (q.n % 4).toNat) true false false)), 0) := Ta hq (by unfold fetched; simp [bd])
 exact ⟨vi 0, Yt Z Z, putT ms (q.run - 1).toNat (q.b).toNat (l2Less (rAt (mAt ms (r.th - 1).toNat).t.slots (q.n % 4).toNat) true false false), by rw [hf], by first | rfl | exact Yb | (simp only [List.length_set, Yb]), (Vt (i := (q.run - 1).toNat) (j := (q.b).toNat) (x := (l2Less (rAt (mAt ms (r.th - 1).toNat).t.slots (q.n % 4).toNat) true false false)) ((bb.grown0 ai).gn an) (by omega)), (RowsO.put (RowsO.low aw ai) (lq (q.run - 1).toNat ms.length) ag bn bj Z bw an (by decide)), by rw [hf], (KeepsI.own (KeepsI.low (KeepsI.new (KeepsI.low be ab) V.grw (by omega)) ai) an bj (by decide) (by omega) (by omega))⟩
 refine Xz (Xu (Xq ?_))
 have az := (RowsO.ge (RowsO.low hR ad) J.grw hH (by omega))
 obtain ⟨ez, ah, bp, a9⟩ := RowsO.slot az (lq (q.run - 1).toNat ms.length) (by omega)
 have ei := hH _ (List.mem_of_getElem? (xg ms (q.run - 1).toNat)) _ (Or.inl ah)
 have bc := ((hB.grown0 ad).gn J.grw)
 have eo := K9 bc a9 (by decide)
 refine Yy (m := 11) (vals := [(24, pt A 0), (25, pt B ((q.run - 1).toNat * 8)), (26, pt B ((q.run - 1).toNat * 8)), (27, pt B ((q.run - 1).toNat * 8 + 5)), (28, .slice (mAt ms (q.run - 1).toNat).sa (mAt ms (q.run - 1).toNat).t.slots.length (mAt ms (q.run - 1).toNat).sc), (29, pt A 0), (30, pt A 0), (31, pt A 1), (32, pt A 4), (33, vi q.b), (34, .agg #[vi (rAt (mAt ms (r.th - 1).toNat).t.slots (q.n % 4).toNat).th, vi (rAt (mAt ms (r.th - 1).toNat).t.slots (q.n % 4).toNat).ve, vb (rAt (mAt ms (r.th - 1).toNat).t.slots (q.n % 4).toNat).rd, vb (rAt (mAt ms (r.th - 1).toNat).t.slots (q.n % 4).toNat).wr, vb (rAt (mAt ms (r.th - 1).toNat).t.slots (q.n % 4).toNat).wk])]) (fun w' => d6.grownBy w' none) Yz (by kernel_rfl) (X8 _) ?_ ?_
 refine yl Z (fun _ _ k => Xd (v := pt A 0) ak Z k) ?_
 refine Qh Z (fun fz ar => ?_) ?_
 refine Xn Rh (Xf Z Xm) Z (Uq q r B cap _ _ (bc.grown0 ar) (by first | omega | (simp only [List.length_set, Yb]; omega)) A (am.grown0 ar) (by first | omega | (simp only [List.length_set, Yb]; omega))) ?_
 rintro _ f8 ⟨rfl, ca⟩
 exact Xb ⟨Z, (grown_trans ar ca)⟩
 exact yl Z (fun _ _ k => Xs Z Z k) (yl Z (fun _ _ k => Xc (o' := (q.run - 1).toNat * 8 + 5) Qj Z Z Z k) (yl Z (fun _ cv k => Xh (v := .slice (mAt ms (q.run - 1).toNat).sa (mAt ms (q.run - 1).toNat).t.slots.length (mAt ms (q.run - 1).toNat).sc) Jd Z ((Own.range Yj (bc.grown0 cv) (xg ms (q.run - 1).toNat)) 5 _ Z) Z k) (yl Z (fun _ _ k => Xd (v := pt A 0) ak Z k) (yl Z (fun _ _ k => Xs Z Z k) (yl Z (fun _ _ k => Xc (o' := 1) Kf Z Z Z k) (yl Z (fun _ _ k => Xc (o' := 4) Vo Z Z Z k) (yl Z (fun _ cw k => Xh (v := vi q.b) X1 Z ((am.grown0 cw).cell Z) Z k) (yl Z (fun _ cy k => Xr (vs := [vi (rAt (mAt ms (r.th - 1).toNat).t.slots (q.n % 4).toNat).th, vi (rAt (mAt ms (r.th - 1).toNat).t.slots (q.n % 4).toNat).ve, vb (rAt (mAt ms (r.th - 1).toNat).t.slots (q.n % 4).toNat).rd, vb (rAt (mAt ms (r.th - 1).toNat).t.slots (q.n % 4).toNat).wr, vb (rAt (mAt ms (r.th - 1).toNat).t.slots (q.n % 4).toNat).wk]) Y0 al Z ((J.blk.grown0 cy).rangeL 0 5 Z) Z k) Y8))))))))
 intro f9 aj
 refine X3 J9 Z Z ah (Nat.zero_add _) (by omega) (by omega) Z ?_
 have bk := (a9.grown0 aj)
 refine Qy (g := Rt.cells) (z' := (rAt (mAt ms (r.th - 1).toNat).t.slots (q.n % 4).toNat)) Y0 Z Z (Vf _) Qx bk (by omega) Z ?_
 intro ga bx ao
 refine Xb (Xu (Xa (Xe (v := vi 0) Z Z (Xb (Xt ?_)))))
 have hf : far (tabT ms) q r = (tabT (putT ms (q.run - 1).toNat (q.b).toNat (rAt (mAt ms (r.th - 1).toNat).t.slots (q.n % 4).toNat)), 0) := Ta hq (by unfold fetched; simp [bd])
 exact ⟨vi 0, Yt Z Z, putT ms (q.run - 1).toNat (q.b).toNat (rAt (mAt ms (r.th - 1).toNat).t.slots (q.n % 4).toNat), by rw [hf], by first | rfl | exact Yb | (simp only [List.length_set, Yb]), (Vt (i := (q.run - 1).toNat) (j := (q.b).toNat) (x := (rAt (mAt ms (r.th - 1).toNat).t.slots (q.n % 4).toNat)) ((bc.grown0 aj).gn ao) (by omega)), (RowsO.put (RowsO.low az aj) (lq (q.run - 1).toNat ms.length) ah bp bk Z bx ao (by decide)), by rw [hf], (KeepsI.own (KeepsI.low be aj) ao bk (by decide) (by omega) (by omega))⟩
theorem Xaz (q : Cl) (r : Rt) (lo B cap : Nat) (ms : List MTh) (w : World) (hB : Dw.Own w B 39 8 cap ms.length (ms.flatMap MTh.cells)) (hR : RowsO 33 3 lo w ms) (hlo : lo ≤ B) (hi : Nat) (hH : HiO hi ms) (hBlt : B < hi) (hhi : hi ≤ w.heap.size) (hF : FarOk (tabT ms) q r) (A : Nat) (hA : Blk w A 59 #[.slice (pa B) ms.length cap, vi q.kind, vi q.run, vi q.a, vi q.b, vi q.n, vi r.th, vi r.ve, vb r.rd, vb r.wr, vb r.wk]) (hAhi : hi ≤ A) (hq : decide (q.kind = 5) = true) : CallsR Tryz.prog 93 #[pt A 0] w (fun v w' => ∃ ms' : List MTh, v = vi (far (tabT ms) q r).2 ∧ ms'.length = ms.length ∧ Dw.Own w' B 39 8 cap ms'.length (ms'.flatMap MTh.cells) ∧ RowsO 33 3 lo w' ms' ∧ tabT ms' = (far (tabT ms) q r).1 ∧ KeepsI lo hi [39, 33, 3] w w') := by
 refine Xx (n := 27) Tryz.func93 Z Tryz.ntmps93 Z ?_
 have aw : KeepsI lo hi [39, 33, 3] w w := KeepsI.refl w
 have hlow : lo ≤ w.heap.size := by omega
 have hT := hF.tab
 have hco := Yx hF.call
 have hkp := (Qe hF.run).1
 have h4 := Qt hT hF.run
 have hth := hF.th
 rw [Y5] at hth
 have hml := Jk hT
 have hkd := Q2 hF.kind hco.1
 rw [← Qk] at hkd
 have hrow := Jl hT (i := (r.th - 1).toNat) (by omega)
 have hln := TabLen.ok hT _ (List.mem_of_getElem? (xg ms (r.th - 1).toNat))
 have hcp := hF.copy
 have hve := V8 hrow
 have az := of_decide_eq_true hq
 have hs4 : (mAt ms (r.th - 1).toNat).t.slots.length = 4 := G0 hrow (Or.inl (by omega))
 have hqk := of_decide_eq_true hq
 refine Xa (Xe (v := vi 0) Z Z (Xb (Xq ?_)))
 obtain ⟨ao, ad, ar, ab⟩ := RowsO.slot hR (lq (q.run - 1).toNat ms.length) (by omega)
 have ap := hH _ (List.mem_of_getElem? (xg ms (q.run - 1).toNat)) _ (Or.inl ad)
 have au := K9 hB ab (by decide)
 obtain ⟨a8, E, af, ac⟩ := RowsO.slot hR (lq (r.th - 1).toNat ms.length) (by omega)
 have aq := hH _ (List.mem_of_getElem? (xg ms (r.th - 1).toNat)) _ (Or.inl E)
 have av := K9 hB ac (by decide)
 refine Yy (m := 23) (vals := [(3, pt A 0), (4, pt B ((r.th - 1).toNat * 8)), (5, pt B ((r.th - 1).toNat * 8)), (6, pt B ((r.th - 1).toNat * 8 + 5)), (7, .slice (mAt ms (r.th - 1).toNat).sa (mAt ms (r.th - 1).toNat).t.slots.length (mAt ms (r.th - 1).toNat).sc), (8, pt A 0), (9, pt A 0), (10, pt A 1), (11, pt A 5), (12, vi q.n), (13, vi (q.n % 4)), (14, pt A 0), (15, pt B ((q.run - 1).toNat * 8)), (16, pt B ((q.run - 1).toNat * 8)), (17, pt B ((q.run - 1).toNat * 8 + 5)), (18, .slice (mAt ms (q.run - 1).toNat).sa (mAt ms (q.run - 1).toNat).t.slots.length (mAt ms (q.run - 1).toNat).sc), (19, pt A 0), (20, pt A 0), (21, pt A 1), (22, pt A 4), (23, vi q.b), (24, pt ao ((q.b).toNat * 5)), (25, .agg #[vi (rAt (mAt ms (q.run - 1).toNat).t.slots (q.b).toNat).th, vi (rAt (mAt ms (q.run - 1).toNat).t.slots (q.b).toNat).ve, vb (rAt (mAt ms (q.run - 1).toNat).t.slots (q.b).toNat).rd, vb (rAt (mAt ms (q.run - 1).toNat).t.slots (q.b).toNat).wr, vb (rAt (mAt ms (q.run - 1).toNat).t.slots (q.b).toNat).wk])]) (fun w' => w.grownBy w' none) Yz (by kernel_rfl) (X8 _) ?_ ?_
 refine yl Z (fun _ _ k => Xd (v := pt A 0) Z Z k) ?_
 refine Qh Z (fun a9 O => ?_) ?_
 refine Xn K7 (Xf Z Xm) Z (Kd q r B cap _ _ (hB.grown0 O) (by first | omega | (simp only [List.length_set, Yb]; omega)) A (hA.grown0 O) (by first | omega | (simp only [List.length_set, Yb]; omega))) ?_
 rintro _ ba ⟨rfl, ah⟩
 exact Xb ⟨Z, (grown_trans O ah)⟩
 refine yl Z (fun _ _ k => Xs Z Z k) (yl Z (fun _ _ k => Xc (o' := (r.th - 1).toNat * 8 + 5) Qj Z Z Z k) (yl Z (fun _ aj k => Xh (v := .slice (mAt ms (r.th - 1).toNat).sa (mAt ms (r.th - 1).toNat).t.slots.length (mAt ms (r.th - 1).toNat).sc) Jd Z ((Own.range Yj (hB.grown0 aj) (xg ms (r.th - 1).toNat)) 5 _ Z) Z k) (yl Z (fun _ _ k => Xd (v := pt A 0) Z Z k) (yl Z (fun _ _ k => Xs Z Z k) (yl Z (fun _ _ k => Xc (o' := 1) Kf Z Z Z k) (yl Z (fun _ _ k => Xc (o' := 5) Js Z Z Z k) (yl Z (fun _ ak k => Xh (v := vi q.n) X1 Z ((hA.grown0 ak).cell Z) Z k) (yl Z (fun _ _ k => Q9 (c := q.n % 4) Z Z (by omega) (by omega) (by omega) Z Z k) (yl Z (fun _ _ k => Xd (v := pt A 0) Z Z k) ?_)))))))))
 refine Qh Z (fun bb V => ?_) ?_
 refine Xn Rh (Xf Z Xm) Z (Uq q r B cap _ _ (hB.grown0 V) (by first | omega | (simp only [List.length_set, Yb]; omega)) A (hA.grown0 V) (by first | omega | (simp only [List.length_set, Yb]; omega))) ?_
 rintro _ bc ⟨rfl, ai⟩
 exact Xb ⟨Z, (grown_trans V ai)⟩
 exact yl Z (fun _ _ k => Xs Z Z k) (yl Z (fun _ _ k => Xc (o' := (q.run - 1).toNat * 8 + 5) Qj Z Z Z k) (yl Z (fun _ al k => Xh (v := .slice (mAt ms (q.run - 1).toNat).sa (mAt ms (q.run - 1).toNat).t.slots.length (mAt ms (q.run - 1).toNat).sc) Jd Z ((Own.range Yj (hB.grown0 al) (xg ms (q.run - 1).toNat)) 5 _ Z) Z k) (yl Z (fun _ _ k => Xd (v := pt A 0) Z Z k) (yl Z (fun _ _ k => Xs Z Z k) (yl Z (fun _ _ k => Xc (o' := 1) Kf Z Z Z k) (yl Z (fun _ _ k => Xc (o' := 4) Vo Z Z Z k) (yl Z (fun _ am k => Xh (v := vi q.b) X1 Z ((hA.grown0 am).cell Z) Z k) (yl Z (fun _ _ k => X3 J9 Z Z ad (Nat.zero_add _) (by omega) (by omega) Z k) (yl Z (fun _ an k => Xr (vs := [vi (rAt (mAt ms (q.run - 1).toNat).t.slots (q.b).toNat).th, vi (rAt (mAt ms (q.run - 1).toNat).t.slots (q.b).toNat).ve, vb (rAt (mAt ms (q.run - 1).toNat).t.slots (q.b).toNat).rd, vb (rAt (mAt ms (q.run - 1).toNat).t.slots (q.b).toNat).wr, vb (rAt (mAt ms (q.run - 1).toNat).t.slots (q.b).toNat).wk]) Y0 Z Z (Y2 (Own.range Qx (ab.grown0 an) (xr (mAt ms (q.run - 1).toNat).t.slots (q.b).toNat)) 0 5 Z) Z k) Y8)))))))))
 intro bd G
 refine X3 J9 Z Z E (Nat.zero_add _) (by omega) (by omega) Z ?_
 have ae := (ac.grown0 G)
 refine Qy (g := Rt.cells) (z' := (rAt (mAt ms (q.run - 1).toNat).t.slots (q.b).toNat)) Y0 Z Z (Vf _) Qx ae (by omega) Z ?_
 intro be ag J
 refine Xb (Xu (Xa (Xe (v := vi 0) Z Z (Xb (Xt ?_)))))
 have hf : far (tabT ms) q r = (tabT (putT ms (r.th - 1).toNat (q.n % 4).toNat (rAt (mAt ms (q.run - 1).toNat).t.slots (q.b).toNat)), 0) := Z1 hq rfl
 exact ⟨vi 0, Yt Z Z, putT ms (r.th - 1).toNat (q.n % 4).toNat (rAt (mAt ms (q.run - 1).toNat).t.slots (q.b).toNat), by rw [hf], by first | rfl | exact Yb | (simp only [List.length_set, Yb]), (Vt (i := (r.th - 1).toNat) (j := (q.n % 4).toNat) (x := (rAt (mAt ms (q.run - 1).toNat).t.slots (q.b).toNat)) ((hB.grown0 G).gn J) (by omega)), (RowsO.put (RowsO.low hR G) (lq (r.th - 1).toNat ms.length) E af ae Z ag J (by decide)), by rw [hf], (KeepsI.own (KeepsI.low aw G) J ae (by decide) (by omega) (by omega))⟩
theorem Xba (q : Cl) (r : Rt) (lo B cap : Nat) (ms : List MTh) (w : World) (hB : Dw.Own w B 39 8 cap ms.length (ms.flatMap MTh.cells)) (hR : RowsO 33 3 lo w ms) (hlo : lo ≤ B) (hi : Nat) (hH : HiO hi ms) (hBlt : B < hi) (hhi : hi ≤ w.heap.size) (hF : FarOk (tabT ms) q r) (A : Nat) (hA : Blk w A 59 #[.slice (pa B) ms.length cap, vi q.kind, vi q.run, vi q.a, vi q.b, vi q.n, vi r.th, vi r.ve, vb r.rd, vb r.wr, vb r.wk]) (hAhi : hi ≤ A) (hq : decide (q.kind = 8) = true) : CallsR Tryz.prog 96 #[pt A 0] w (fun v w' => ∃ ms' : List MTh, v = vi (far (tabT ms) q r).2 ∧ ms'.length = ms.length ∧ Dw.Own w' B 39 8 cap ms'.length (ms'.flatMap MTh.cells) ∧ RowsO 33 3 lo w' ms' ∧ tabT ms' = (far (tabT ms) q r).1 ∧ KeepsI lo hi [39, 33, 3] w w') := by
 refine Xx (n := 40) Tryz.func96 Z Tryz.ntmps96 Z ?_
 have i3 : KeepsI lo hi [39, 33, 3] w w := KeepsI.refl w
 have hlow : lo ≤ w.heap.size := by omega
 have hT := hF.tab
 have hco := Yx hF.call
 have hkp := (Qe hF.run).1
 have h4 := Qt hT hF.run
 have hth := hF.th
 rw [Y5] at hth
 have hml := Jk hT
 have hkd := Q2 hF.kind hco.1
 rw [← Qk] at hkd
 have hrow := Jl hT (i := (r.th - 1).toNat) (by omega)
 have hln := TabLen.ok hT _ (List.mem_of_getElem? (xg ms (r.th - 1).toNat))
 have hcp := hF.copy
 have hve := V8 hrow
 have j8 := of_decide_eq_true hq
 have c9 := Pd hrow (by omega)
 have hqk := of_decide_eq_true hq
 rcases Yg ((decide ((mAt ms (r.th - 1).toNat).t.kind = 2)) || (decide ((mAt ms (r.th - 1).toNat).t.kind = 3))) with ak | ak
 refine Xa (Xe (v := vi 0) Z Z (Xb (Xa (Xd (v := pt A 0) Z Z (Xn K7 (Xf Z Xm) Z (Kd q r B cap _ _ hB (by first | omega | (simp only [List.length_set, Yb]; omega)) A hA (by first | omega | (simp only [List.length_set, Yb]; omega))) ?_)))))
 rintro _ cw ⟨rfl, ap⟩
 have bd := KeepsI.low i3 ap
 refine Xe (v := pt B ((r.th - 1).toNat * 8)) Z Z (Xb (Xq (Xa (Xd (v := pt B ((r.th - 1).toNat * 8)) Z Z (Xs Z Z (Xc (o' := (r.th - 1).toNat * 8 + 3) Qz Z Z Z ?_))))))
 have aq := (hB.grown0 ap)
 refine Xh (v := vi (mAt ms (r.th - 1).toNat).t.ve) X1 Z ((Own.range Yj aq (xg ms (r.th - 1).toNat)) 3 _ Z) Z (V0 (q := decide (5 ≤ (mAt ms (r.th - 1).toNat).t.ve)) Z Z Z Z (Xb (X0 Z (fun bx => ?_) (fun bx => ?_))))
 have kj := of_decide_eq_true bx
 refine Xa (Xe (v := vi (-4)) Z Z (Xb (Xt (Yk ?_))))
 have hf : far (tabT ms) q r = (tabT (ms), (-4)) := Si hq (by omega)
 exact ⟨vi (-4), Yt Z Z, ms, by rw [hf], by first | rfl | exact Yb | (simp only [List.length_set, Yb]), aq, (RowsO.low hR ap), by rw [hf], bd⟩
 have kk := of_decide_eq_false bx
 refine Xz (Xu (Xq ?_))
 refine Qv (m := 18) [[], [0], [0, 1], [0, 1, 2], [], [4], [4, 5], [4, 5, 6], [], [8], [8, 9], [8, 9, 10], [0, 1, 2, 3, 4, 5, 6, 7, 8, 9, 10, 11], [0, 1, 2, 3, 4, 5, 6, 7, 8, 9, 10, 11, 12], [0, 1, 2, 3, 4, 5, 6, 7, 8, 9, 10, 11, 12, 13], [0, 1, 2, 3, 4, 5, 6, 7, 8, 9, 10, 11, 12, 13], [], [0, 1, 2, 3, 4, 5, 6, 7, 8, 9, 10, 11, 12, 13, 14, 16], [0, 1, 2, 3, 4, 5, 6, 7, 8, 9, 10, 11, 12, 13, 14, 15, 16, 17]] (fun S F w' => ∃ (G : Nat) (O : Nat) (V : Nat), cw.grownBy w' none ∧ F 2 = vi 0 ∧ F 3 = pt B ((r.th - 1).toNat * 8) ∧ (S 12 = true → F 26 = .tuple #[.agg #[vi (mAt ms (r.th - 1).toNat).t.kind, vi (mAt ms (r.th - 1).toNat).t.lab.s, vi (mAt ms (r.th - 1).toNat).t.lab.v, vi 0, vi 0, .slice (pa O) 4 G, .slice none 0 0, vi (mAt ms (r.th - 1).toNat).t.to], vb true] ∧ w.heap.size ≤ O ∧ Dw.Own w' O 33 5 G zeros4.length (zeros4.flatMap Rt.cells) ∧ B < O ∧ A < O ∧ cw.heap.size ≤ O) ∧ (S 13 = true → F 13 = .tuple #[.agg #[vi (mAt ms (r.th - 1).toNat).t.kind, vi (mAt ms (r.th - 1).toNat).t.lab.s, vi (mAt ms (r.th - 1).toNat).t.lab.v, vi 0, vi 0, .slice (pa O) 4 G, .slice none 0 0, vi (mAt ms (r.th - 1).toNat).t.to], vb true]) ∧ (S 14 = true → F 27 = .agg #[vi (mAt ms (r.th - 1).toNat).t.kind, vi (mAt ms (r.th - 1).toNat).t.lab.s, vi (mAt ms (r.th - 1).toNat).t.lab.v, vi 0, vi 0, .slice (pa O) 4 G, .slice none 0 0, vi (mAt ms (r.th - 1).toNat).t.to]) ∧ (S 16 = true → F 4 = pt V 0 ∧ w.heap.size ≤ V ∧ (S 17 = false → Blk w' V 39 #[vi 0, vi 0, vi 0, vi 0, vi 0, .slice none 0 0, .slice none 0 0, vi 0]) ∧ B < V ∧ A < V ∧ cw.heap.size ≤ V) ∧ (S 17 = true → Blk w' V 39 #[vi (mAt ms (r.th - 1).toNat).t.kind, vi (mAt ms (r.th - 1).toNat).t.lab.s, vi (mAt ms (r.th - 1).toNat).t.lab.v, vi 0, vi 0, .slice (pa O) 4 G, .slice none 0 0, vi (mAt ms (r.th - 1).toNat).t.to]) ∧ Vals S F [(0, 14, pt B ((r.th - 1).toNat * 8)), (1, 15, pt B ((r.th - 1).toNat * 8)), (2, 16, pt B ((r.th - 1).toNat * 8)), (3, 17, vi (mAt ms (r.th - 1).toNat).t.kind), (4, 18, pt B ((r.th - 1).toNat * 8)), (5, 19, pt B ((r.th - 1).toNat * 8)), (6, 20, pt B ((r.th - 1).toNat * 8 + 1)), (7, 21, .agg #[vi (mAt ms (r.th - 1).toNat).t.lab.s, vi (mAt ms (r.th - 1).toNat).t.lab.v]), (8, 22, pt B ((r.th - 1).toNat * 8)), (9, 23, pt B ((r.th - 1).toNat * 8)), (10, 24, pt B ((r.th - 1).toNat * 8 + 7)), (11, 25, vi (mAt ms (r.th - 1).toNat).t.to), (15, 28, vb true)] ∧ (S 12 = true → S 16 = true → O ≠ V)) Yz (by kernel_rfl) ⟨0, 0, 0, X8 _, Z, Z, Ym, Ym, Ym, Ym, Ym, J2 _, Ym⟩ ?_ ?_
 refine Xi (fun S F kr hS hbef hcl hI => ?_) ?_
 obtain ⟨G, O, V, dz, fc, dg, ad, ae, af, J, ac, hvs, E⟩ := hI
 exact Xd (v := pt B ((r.th - 1).toNat * 8)) dg Z (Xb ⟨G, O, V, dz, fc, dg, Xv 12 hS hcl Z, Xv 13 hS hcl Z, Xv 14 hS hcl Z, J, Xv 17 hS hcl Z, Vals.up 0 hvs Z Z Z, E⟩)
 refine Xi (fun S F ks hS hbef hcl hI => ?_) ?_
 obtain ⟨G, O, V, d0, fd, fe, ad, ae, af, J, ac, hvs, E⟩ := hI
 exact Xs (Vals.at 0 hvs Z (Xl 0 hbef Z)) Z (Xb ⟨G, O, V, d0, fd, fe, Xv 12 hS hcl Z, Xv 13 hS hcl Z, Xv 14 hS hcl Z, J, Xv 17 hS hcl Z, Vals.up 1 hvs Z Z Z, E⟩)
 refine Xi (fun S F kt hS hbef hcl hI => ?_) ?_
 obtain ⟨G, O, V, d1, ff, fg, ad, ae, af, J, ac, hvs, E⟩ := hI
 exact Xc (o' := (r.th - 1).toNat * 8) Qd (Vals.at 1 hvs Z (Xl 1 hbef Z)) Z Z (Xb ⟨G, O, V, d1, ff, fg, Xv 12 hS hcl Z, Xv 13 hS hcl Z, Xv 14 hS hcl Z, J, Xv 17 hS hcl Z, Vals.up 2 hvs Z Z Z, E⟩)
 refine Xi (fun S F ku hS hbef hcl hI => ?_) ?_
 obtain ⟨G, O, V, cf, fh, fi, ad, ae, af, J, ac, hvs, E⟩ := hI
 exact Xh (v := vi (mAt ms (r.th - 1).toNat).t.kind) X1 (Vals.at 2 hvs Z (Xl 2 hbef Z)) ((Own.range Yj (aq.grown0 cf) (xg ms (r.th - 1).toNat)) 0 _ Z) Z (Xb ⟨G, O, V, cf, fh, fi, Xv 12 hS hcl Z, Xv 13 hS hcl Z, Xv 14 hS hcl Z, J, Xv 17 hS hcl Z, Vals.up 3 hvs Z Z Z, E⟩)
 refine Xi (fun S F kv hS hbef hcl hI => ?_) ?_
 obtain ⟨G, O, V, d2, fj, dh, ad, ae, af, J, ac, hvs, E⟩ := hI
 exact Xd (v := pt B ((r.th - 1).toNat * 8)) dh Z (Xb ⟨G, O, V, d2, fj, dh, Xv 12 hS hcl Z, Xv 13 hS hcl Z, Xv 14 hS hcl Z, J, Xv 17 hS hcl Z, Vals.up 4 hvs Z Z Z, E⟩)
 refine Xi (fun S F kw hS hbef hcl hI => ?_) ?_
 obtain ⟨G, O, V, d3, fk, fm, ad, ae, af, J, ac, hvs, E⟩ := hI
 exact Xs (Vals.at 4 hvs Z (Xl 4 hbef Z)) Z (Xb ⟨G, O, V, d3, fk, fm, Xv 12 hS hcl Z, Xv 13 hS hcl Z, Xv 14 hS hcl Z, J, Xv 17 hS hcl Z, Vals.up 5 hvs Z Z Z, E⟩)
 refine Xi (fun S F kx hS hbef hcl hI => ?_) ?_
 obtain ⟨G, O, V, d4, fo, fp, ad, ae, af, J, ac, hvs, E⟩ := hI
 exact Xc (o' := (r.th - 1).toNat * 8 + 1) Ki (Vals.at 5 hvs Z (Xl 5 hbef Z)) Z Z (Xb ⟨G, O, V, d4, fo, fp, Xv 12 hS hcl Z, Xv 13 hS hcl Z, Xv 14 hS hcl Z, J, Xv 17 hS hcl Z, Vals.up 6 hvs Z Z Z, E⟩)
 refine Xi (fun S F ky hS hbef hcl hI => ?_) ?_
 obtain ⟨G, O, V, cg, fq, fr, ad, ae, af, J, ac, hvs, E⟩ := hI
 exact Xr (vs := [vi (mAt ms (r.th - 1).toNat).t.lab.s, vi (mAt ms (r.th - 1).toNat).t.lab.v]) J6 (Vals.at 6 hvs Z (Xl 6 hbef Z)) Z (Y2 (Own.range Yj (aq.grown0 cg) (xg ms (r.th - 1).toNat)) 1 2 Z) Z (Xb ⟨G, O, V, cg, fq, fr, Xv 12 hS hcl Z, Xv 13 hS hcl Z, Xv 14 hS hcl Z, J, Xv 17 hS hcl Z, Vals.up 7 hvs Z Z Z, E⟩)
 refine Xi (fun S F kz hS hbef hcl hI => ?_) ?_
 obtain ⟨G, O, V, d5, ft, di, ad, ae, af, J, ac, hvs, E⟩ := hI
 exact Xd (v := pt B ((r.th - 1).toNat * 8)) di Z (Xb ⟨G, O, V, d5, ft, di, Xv 12 hS hcl Z, Xv 13 hS hcl Z, Xv 14 hS hcl Z, J, Xv 17 hS hcl Z, Vals.up 8 hvs Z Z Z, E⟩)
 refine Xi (fun S F k0 hS hbef hcl hI => ?_) ?_
 obtain ⟨G, O, V, d6, fu, fv, ad, ae, af, J, ac, hvs, E⟩ := hI
 exact Xs (Vals.at 8 hvs Z (Xl 8 hbef Z)) Z (Xb ⟨G, O, V, d6, fu, fv, Xv 12 hS hcl Z, Xv 13 hS hcl Z, Xv 14 hS hcl Z, J, Xv 17 hS hcl Z, Vals.up 9 hvs Z Z Z, E⟩)
 refine Xi (fun S F k4 hS hbef hcl hI => ?_) ?_
 obtain ⟨G, O, V, d7, fw, fx, ad, ae, af, J, ac, hvs, E⟩ := hI
 exact Xc (o' := (r.th - 1).toNat * 8 + 7) J5 (Vals.at 9 hvs Z (Xl 9 hbef Z)) Z Z (Xb ⟨G, O, V, d7, fw, fx, Xv 12 hS hcl Z, Xv 13 hS hcl Z, Xv 14 hS hcl Z, J, Xv 17 hS hcl Z, Vals.up 10 hvs Z Z Z, E⟩)
 refine Xi (fun S F k5 hS hbef hcl hI => ?_) ?_
 obtain ⟨G, O, V, cj, fy, fz, ad, ae, af, J, ac, hvs, E⟩ := hI
 exact Xh (v := vi (mAt ms (r.th - 1).toNat).t.to) X1 (Vals.at 10 hvs Z (Xl 10 hbef Z)) ((Own.range Yj (aq.grown0 cj) (xg ms (r.th - 1).toNat)) 7 _ Z) Z (Xb ⟨G, O, V, cj, fy, fz, Xv 12 hS hcl Z, Xv 13 hS hcl Z, Xv 14 hS hcl Z, J, Xv 17 hS hcl Z, Vals.up 11 hvs Z Z Z, E⟩)
 refine Xi (fun S F k6 hS hbef hcl hI => ?_) ?_
 obtain ⟨G, O, V, av, f8, f9, ad, ae, af, J, ac, hvs, E⟩ := hI
 have kl : thingOk (⟨(mAt ms (r.th - 1).toNat).t.kind, (mAt ms (r.th - 1).toNat).t.lab, 0, 0, zeros4, [], (mAt ms (r.th - 1).toNat).t.to⟩ : Th) = true := (Ud ak).symm.trans c9
 refine Xn Te (Xf (Vals.at 3 hvs Z (Xl 3 hbef Z)) (Xf (Vals.at 7 hvs Z (Xl 7 hbef Z)) (Xf (Vals.at 11 hvs Z (Xl 11 hbef Z)) Xm))) Z (He (mAt ms (r.th - 1).toNat).t.kind (mAt ms (r.th - 1).toNat).t.to (mAt ms (r.th - 1).toNat).t.lab ak c9 _) ?_
 rintro _ k7 ⟨e0, cy, rfl, al, dw, cc⟩
 have db := nt (KeepsI.low bd av).size al
 have bt := nl ((aq.grown0 av)).lt al
 have bm := nl (((hA.grown0 ap).grown0 av)).lt al
 exact Xb ⟨cy, e0, V, (low0 av cc), f8, f9, fun _ => ⟨Z, db, dw, bt, bm, (nt av.size al)⟩, Xv 13 hS hcl Z, Xv 14 hS hcl Z, fun h => let ⟨i6, i7, i8, i9, ja, jb⟩ := J h; ⟨i6, i7, fun hn => (i8 hn).grown0 cc, i9, ja, jb⟩, Xv 17 hS hcl Z, Vals.keep hvs Z, fun _ h => let ⟨me, mf, jc, mg, mh, ml⟩ := J h; Nat.ne_of_gt (nl ((jc (Bool.eq_false_iff.2 fun h6 => Xv 17 hS hcl Z h6))).lt al)⟩
 refine Xi (fun S F k8 hS hbef hcl hI => ?_) ?_
 obtain ⟨G, O, V, d8, ga, gb, ad, ae, af, J, ac, hvs, E⟩ := hI
 obtain ⟨gc, an, aj, ah, ag, am⟩ := ad (Xl 12 hbef rfl)
 exact Xd (v := .tuple #[.agg #[vi (mAt ms (r.th - 1).toNat).t.kind, vi (mAt ms (r.th - 1).toNat).t.lab.s, vi (mAt ms (r.th - 1).toNat).t.lab.v, vi 0, vi 0, .slice (pa O) 4 G, .slice none 0 0, vi (mAt ms (r.th - 1).toNat).t.to], vb true]) gc Z (Xb ⟨G, O, V, d8, ga, gb, ad, fun _ => Z, Xv 14 hS hcl Z, J, Xv 17 hS hcl Z, Vals.keep hvs Z, E⟩)
 refine Xi (fun S F k9 hS hbef hcl hI => ?_) ?_
 obtain ⟨G, O, V, d9, gf, gg, ad, ae, af, J, ac, hvs, E⟩ := hI
 obtain ⟨j9, an, aj, ah, ag, am⟩ := ad (Xl 12 hbef rfl)
 obtain gh := ae (Xl 13 hbef rfl)
 exact Ye (v := .agg #[vi (mAt ms (r.th - 1).toNat).t.kind, vi (mAt ms (r.th - 1).toNat).t.lab.s, vi (mAt ms (r.th - 1).toNat).t.lab.v, vi 0, vi 0, .slice (pa O) 4 G, .slice none 0 0, vi (mAt ms (r.th - 1).toNat).t.to]) gh Z Z (Xb ⟨G, O, V, d9, gf, gg, ad, ae, fun _ => Z, J, Xv 17 hS hcl Z, Vals.keep hvs Z, E⟩)
 refine Xi (fun S F la hS hbef hcl hI => ?_) ?_
 obtain ⟨G, O, V, ea, gi, gj, ad, ae, af, J, ac, hvs, E⟩ := hI
 obtain ⟨ka, an, aj, ah, ag, am⟩ := ad (Xl 12 hbef rfl)
 obtain gk := ae (Xl 13 hbef rfl)
 exact Ye (v := vb true) gk Z Z (Xb ⟨G, O, V, ea, gi, gj, ad, ae, af, J, ac, Vals.up 12 hvs Z Z Z, E⟩)
 refine Xi (fun S F lc hS hbef hcl hI => ?_) ?_
 obtain ⟨G, O, V, aw, gl, gm, ad, ae, af, J, ac, hvs, E⟩ := hI
 refine Yf (cs := #[vi 0, vi 0, vi 0, vi 0, vi 0, .slice none 0 0, .slice none 0 0, vi 0]) Ka Z Z ?_
 intro fa ld ai
 have dc := K8 ai (KeepsI.low bd aw)
 have bu := Xo ai ((aq.grown0 aw)).lt
 have bn := Xo ai (((hA.grown0 ap).grown0 aw)).lt
 exact Xb ⟨G, O, fa, (low0 aw ai.grw), gl, gm, fun h => let ⟨jd, je, jf, jg, jh, ji⟩ := ad h; ⟨jd, je, (jf).grown0 ai.grw, jg, jh, ji⟩, ae, af, fun _ => ⟨Z, dc, fun _ => ai.blk, bu, bn, (nt aw.size (Nat.le_of_eq ai.eq.symm))⟩, Xv 17 hS hcl Z, Vals.keep hvs Z, fun h _ => let ⟨mm, mn, jj, mo, mp, mq⟩ := ad h; Nat.ne_of_lt (nl (jj).lt (Nat.le_of_eq ai.eq.symm))⟩
 refine Xi (fun S F le hS hbef hcl hI => ?_) ?_
 obtain ⟨G, O, V, eb, gp, gq, ad, ae, af, J, ac, hvs, E⟩ := hI
 obtain ⟨kb, an, aj, ah, ag, am⟩ := ad (Xl 12 hbef rfl)
 obtain kc := ae (Xl 13 hbef rfl)
 obtain gr := af (Xl 14 hbef rfl)
 obtain ⟨gt, da, be, br, bl, cn⟩ := J (Xl 16 hbef rfl)
 have bb := E (Xl 12 hbef rfl) (Xl 16 hbef rfl)
 refine Xy (vs := [vi (mAt ms (r.th - 1).toNat).t.kind, vi (mAt ms (r.th - 1).toNat).t.lab.s, vi (mAt ms (r.th - 1).toNat).t.lab.v, vi 0, vi 0, .slice (pa O) 4 G, .slice none 0 0, vi (mAt ms (r.th - 1).toNat).t.to]) (cs' := #[vi (mAt ms (r.th - 1).toNat).t.kind, vi (mAt ms (r.th - 1).toNat).t.lab.s, vi (mAt ms (r.th - 1).toNat).t.lab.v, vi 0, vi 0, .slice (pa O) 4 G, .slice none 0 0, vi (mAt ms (r.th - 1).toNat).t.to]) Ys gt gr Z (by simp [Value.oneCell']) (be hS) (Nat.le_of_ble_eq_true Z) Z ?_
 intro lf bg
 exact Xb ⟨G, O, V, (low1 eb bg.grw (by omega)), gp, gq, fun h => let ⟨jk, jl, jm, jo, jp, jq⟩ := ad h; ⟨jk, jl, (jm).grown bg.grw (Jj (E h (Xl 16 hbef Z))), jo, jp, jq⟩, ae, af, fun h => let ⟨jr, js, mr, jt, ju, jv⟩ := J h; ⟨jr, js, fun h => Jq h, jt, ju, jv⟩, fun _ => bg.blk, Vals.keep0 hvs Z, E⟩
 exact Jb
 intro S F lg hall hI
 obtain ⟨G, O, V, bj, ke, dk, ad, ae, af, J, ac, hvs, E⟩ := hI
 obtain ⟨kf, an, aj, ah, ag, am⟩ := ad (hall 12 (by decide))
 obtain kg := ae (hall 13 (by decide))
 obtain kh := af (hall 14 (by decide))
 obtain ⟨dl, da, be, br, bl, cn⟩ := J (hall 16 (by decide))
 obtain a9 := ac (hall 17 (by decide))
 have bb := E (hall 12 (by decide)) (hall 16 (by decide))
 refine Xe (v := vb true) (Vals.at 12 hvs Z (hall 15 (by decide))) Z (Xb (Xu (Xq (Xa (Xd (v := vb true) Z Z (Yn (b' := false) Z Z Z (Xb (Y4 Z Z (Xz (Xu (Xa (Xd (v := pt B ((r.th - 1).toNat * 8)) dk Z ?_))))))))))))
 refine Xs Z Z (Xc (o' := (r.th - 1).toNat * 8 + 3) Qz Z Z Z ?_)
 have dt := (aq.grown0 bj)
 refine Xh (v := vi (mAt ms (r.th - 1).toNat).t.ve) X1 Z ((Own.range Yj dt (xg ms (r.th - 1).toNat)) 3 _ Z) Z (Yl (c := (mAt ms (r.th - 1).toNat).t.ve + 1) Z Z (by omega) (by omega) (by omega) Z (Xc (o' := 3) Qz dl Z Z (Yc (v := vi ((mAt ms (r.th - 1).toNat).t.ve + 1)) (cs' := #[vi (mAt ms (r.th - 1).toNat).t.kind, vi (mAt ms (r.th - 1).toNat).t.lab.s, vi (mAt ms (r.th - 1).toNat).t.lab.v, vi ((mAt ms (r.th - 1).toNat).t.ve + 1), vi 0, .slice (pa O) 4 G, .slice none 0 0, vi (mAt ms (r.th - 1).toNat).t.to]) X1 Z Z Z a9 (Nat.le_of_ble_eq_true Z) Z ?_)))
 intro lh ar
 refine Xb (Xa (Xd (v := pt B ((r.th - 1).toNat * 8)) dk Z (Xr (vs := [vi (mAt ms (r.th - 1).toNat).t.kind, vi (mAt ms (r.th - 1).toNat).t.lab.s, vi (mAt ms (r.th - 1).toNat).t.lab.v, vi ((mAt ms (r.th - 1).toNat).t.ve + 1), vi 0, .slice (pa O) 4 G, .slice none 0 0, vi (mAt ms (r.th - 1).toNat).t.to]) Ys dl Z (ar.blk.rangeL 0 8 Z) Z (Xs Z Z ?_))))
 have ct := (dt.gn ar.grw)
 refine Qy (g := MTh.cells) (z' := (⟨⟨(mAt ms (r.th - 1).toNat).t.kind, (mAt ms (r.th - 1).toNat).t.lab, (mAt ms (r.th - 1).toNat).t.ve + 1, 0, zeros4, [], (mAt ms (r.th - 1).toNat).t.to⟩, some ⟨O, 0, none⟩, G, none, 0⟩ : MTh)) Ys Z Z (Ke _) Yj ct (by omega) Z ?_
 intro i4 dx bi
 have cz : RowsO 33 3 lo i4 (ms.set (r.th - 1).toNat (⟨⟨(mAt ms (r.th - 1).toNat).t.kind, (mAt ms (r.th - 1).toNat).t.lab, (mAt ms (r.th - 1).toNat).t.ve + 1, 0, zeros4, [], (mAt ms (r.th - 1).toNat).t.to⟩, some ⟨O, 0, none⟩, G, none, 0⟩ : MTh)) := RowsO.setn (RowsO.own (RowsO.typB (RowsO.low (RowsO.low hR ap) bj) ar.grw a9 (by decide) (by decide)) bi ct (by decide) (by decide)) (lq (r.th - 1).toNat ms.length) ⟨(OwnN.mono (OwnN.of ((aj.gn ar.grw).gn bi) an) hlow), OwnN.nil⟩ hH (fun S e => by first | (cases e; done) | (simp only [Option.some.injEq, Addr.mk.injEq, and_true, reduceCtorEq] at e; omega))
 refine Xb (Xa (Xe (v := vi 0) Z Z (Xb (Xt ?_))))
 have hf : far (tabT ms) q r = (tabT (ms.set (r.th - 1).toNat (⟨⟨(mAt ms (r.th - 1).toNat).t.kind, (mAt ms (r.th - 1).toNat).t.lab, (mAt ms (r.th - 1).toNat).t.ve + 1, 0, zeros4, [], (mAt ms (r.th - 1).toNat).t.to⟩, some ⟨O, 0, none⟩, G, none, 0⟩ : MTh)), 0) := Td hq (by omega) (Nf ak)
 exact ⟨vi 0, Yt Z Z, ms.set (r.th - 1).toNat (⟨⟨(mAt ms (r.th - 1).toNat).t.kind, (mAt ms (r.th - 1).toNat).t.lab, (mAt ms (r.th - 1).toNat).t.ve + 1, 0, zeros4, [], (mAt ms (r.th - 1).toNat).t.to⟩, some ⟨O, 0, none⟩, G, none, 0⟩ : MTh), by rw [hf], by first | rfl | exact Yb | (simp only [List.length_set, Yb]), dx, cz, by rw [hf], (KeepsI.own (KeepsI.new (KeepsI.low bd bj) ar.grw (by omega)) bi ct (by decide) (by omega) (by omega))⟩
 have i1 := Kl ak
 have km := of_decide_eq_false i1
 have i2 := Km ak
 have kn := of_decide_eq_false i2
 refine Xa (Xe (v := vi 0) Z Z (Xb (Xa (Xd (v := pt A 0) Z Z (Xn K7 (Xf Z Xm) Z (Kd q r B cap _ _ hB (by first | omega | (simp only [List.length_set, Yb]; omega)) A hA (by first | omega | (simp only [List.length_set, Yb]; omega))) ?_)))))
 rintro _ dv ⟨rfl, au⟩
 have bh := KeepsI.low i3 au
 refine Xe (v := pt B ((r.th - 1).toNat * 8)) Z Z (Xb (Xq (Xa (Xd (v := pt B ((r.th - 1).toNat * 8)) Z Z (Xs Z Z (Xc (o' := (r.th - 1).toNat * 8 + 3) Qz Z Z Z ?_))))))
 have a8 := (hB.grown0 au)
 refine Xh (v := vi (mAt ms (r.th - 1).toNat).t.ve) X1 Z ((Own.range Yj a8 (xg ms (r.th - 1).toNat)) 3 _ Z) Z (V0 (q := decide (5 ≤ (mAt ms (r.th - 1).toNat).t.ve)) Z Z Z Z (Xb (X0 Z (fun bz => ?_) (fun bz => ?_))))
 have ko := of_decide_eq_true bz
 refine Xa (Xe (v := vi (-4)) Z Z (Xb (Xt (Yk ?_))))
 have hf : far (tabT ms) q r = (tabT (ms), (-4)) := Si hq (by omega)
 exact ⟨vi (-4), Yt Z Z, ms, by rw [hf], by first | rfl | exact Yb | (simp only [List.length_set, Yb]), a8, (RowsO.low hR au), by rw [hf], bh⟩
 have kp := of_decide_eq_false bz
 refine Xz (Xu (Xq (Qv (m := 18) [[], [0], [0, 1], [0, 1, 2], [], [4], [4, 5], [4, 5, 6], [], [8], [8, 9], [8, 9, 10], [0, 1, 2, 3, 4, 5, 6, 7, 8, 9, 10, 11], [0, 1, 2, 3, 4, 5, 6, 7, 8, 9, 10, 11, 12], [0, 1, 2, 3, 4, 5, 6, 7, 8, 9, 10, 11, 12, 13], [0, 1, 2, 3, 4, 5, 6, 7, 8, 9, 10, 11, 12, 13], [], [0, 1, 2, 3, 4, 5, 6, 7, 8, 9, 10, 11, 12, 13, 14, 16], [0, 1, 2, 3, 4, 5, 6, 7, 8, 9, 10, 11, 12, 13, 14, 15, 16, 17]] (fun S F w' => ∃ (ab : Nat), dv.grownBy w' none ∧ F 2 = vi 0 ∧ F 3 = pt B ((r.th - 1).toNat * 8) ∧ (S 16 = true → F 4 = pt ab 0 ∧ w.heap.size ≤ ab ∧ (S 17 = false → Blk w' ab 39 #[vi 0, vi 0, vi 0, vi 0, vi 0, .slice none 0 0, .slice none 0 0, vi 0]) ∧ B < ab ∧ A < ab ∧ dv.heap.size ≤ ab) ∧ (S 17 = true → Blk w' ab 39 #[vi (mAt ms (r.th - 1).toNat).t.kind, vi (mAt ms (r.th - 1).toNat).t.lab.s, vi (mAt ms (r.th - 1).toNat).t.lab.v, vi 0, vi 0, .slice none 0 0, .slice none 0 0, vi (mAt ms (r.th - 1).toNat).t.to]) ∧ Vals S F [(0, 14, pt B ((r.th - 1).toNat * 8)), (1, 15, pt B ((r.th - 1).toNat * 8)), (2, 16, pt B ((r.th - 1).toNat * 8)), (3, 17, vi (mAt ms (r.th - 1).toNat).t.kind), (4, 18, pt B ((r.th - 1).toNat * 8)), (5, 19, pt B ((r.th - 1).toNat * 8)), (6, 20, pt B ((r.th - 1).toNat * 8 + 1)), (7, 21, .agg #[vi (mAt ms (r.th - 1).toNat).t.lab.s, vi (mAt ms (r.th - 1).toNat).t.lab.v]), (8, 22, pt B ((r.th - 1).toNat * 8)), (9, 23, pt B ((r.th - 1).toNat * 8)), (10, 24, pt B ((r.th - 1).toNat * 8 + 7)), (11, 25, vi (mAt ms (r.th - 1).toNat).t.to), (12, 26, .tuple #[.agg #[vi (mAt ms (r.th - 1).toNat).t.kind, vi (mAt ms (r.th - 1).toNat).t.lab.s, vi (mAt ms (r.th - 1).toNat).t.lab.v, vi 0, vi 0, .slice none 0 0, .slice none 0 0, vi (mAt ms (r.th - 1).toNat).t.to], vb true]), (13, 13, .tuple #[.agg #[vi (mAt ms (r.th - 1).toNat).t.kind, vi (mAt ms (r.th - 1).toNat).t.lab.s, vi (mAt ms (r.th - 1).toNat).t.lab.v, vi 0, vi 0, .slice none 0 0, .slice none 0 0, vi (mAt ms (r.th - 1).toNat).t.to], vb true]), (14, 27, .agg #[vi (mAt ms (r.th - 1).toNat).t.kind, vi (mAt ms (r.th - 1).toNat).t.lab.s, vi (mAt ms (r.th - 1).toNat).t.lab.v, vi 0, vi 0, .slice none 0 0, .slice none 0 0, vi (mAt ms (r.th - 1).toNat).t.to]), (15, 28, vb true)]) Yz (by kernel_rfl) ⟨0, X8 _, Z, Z, Ym, Ym, J2 _⟩ ?_ ?_)))
 refine Xi (fun S F li hS hbef hcl hI => ?_) ?_
 obtain ⟨ab, ed, gu, dm, J, ac, hvs⟩ := hI
 exact Xd (v := pt B ((r.th - 1).toNat * 8)) dm Z (Xb ⟨ab, ed, gu, dm, J, Xv 17 hS hcl Z, Vals.up 0 hvs Z Z Z⟩)
 refine Xi (fun S F lj hS hbef hcl hI => ?_) ?_
 obtain ⟨ab, ee, gv, gw, J, ac, hvs⟩ := hI
 exact Xs (Vals.at 0 hvs Z (Xl 0 hbef Z)) Z (Xb ⟨ab, ee, gv, gw, J, Xv 17 hS hcl Z, Vals.up 1 hvs Z Z Z⟩)
 refine Xi (fun S F lk hS hbef hcl hI => ?_) ?_
 obtain ⟨ab, ef, gx, gy, J, ac, hvs⟩ := hI
 exact Xc (o' := (r.th - 1).toNat * 8) Qd (Vals.at 1 hvs Z (Xl 1 hbef Z)) Z Z (Xb ⟨ab, ef, gx, gy, J, Xv 17 hS hcl Z, Vals.up 2 hvs Z Z Z⟩)
 refine Xi (fun S F ll hS hbef hcl hI => ?_) ?_
 obtain ⟨ab, ck, gz, g0, J, ac, hvs⟩ := hI
 exact Xh (v := vi (mAt ms (r.th - 1).toNat).t.kind) X1 (Vals.at 2 hvs Z (Xl 2 hbef Z)) ((Own.range Yj (a8.grown0 ck) (xg ms (r.th - 1).toNat)) 0 _ Z) Z (Xb ⟨ab, ck, gz, g0, J, Xv 17 hS hcl Z, Vals.up 3 hvs Z Z Z⟩)
 refine Xi (fun S F lm hS hbef hcl hI => ?_) ?_
 obtain ⟨ab, eg, g5, dn, J, ac, hvs⟩ := hI
 exact Xd (v := pt B ((r.th - 1).toNat * 8)) dn Z (Xb ⟨ab, eg, g5, dn, J, Xv 17 hS hcl Z, Vals.up 4 hvs Z Z Z⟩)
 refine Xi (fun S F ln hS hbef hcl hI => ?_) ?_
 obtain ⟨ab, eh, g6, g7, J, ac, hvs⟩ := hI
 exact Xs (Vals.at 4 hvs Z (Xl 4 hbef Z)) Z (Xb ⟨ab, eh, g6, g7, J, Xv 17 hS hcl Z, Vals.up 5 hvs Z Z Z⟩)
 refine Xi (fun S F lp hS hbef hcl hI => ?_) ?_
 obtain ⟨ab, ei, g8, g9, J, ac, hvs⟩ := hI
 exact Xc (o' := (r.th - 1).toNat * 8 + 1) Ki (Vals.at 5 hvs Z (Xl 5 hbef Z)) Z Z (Xb ⟨ab, ei, g8, g9, J, Xv 17 hS hcl Z, Vals.up 6 hvs Z Z Z⟩)
 refine Xi (fun S F lu hS hbef hcl hI => ?_) ?_
 obtain ⟨ab, cl, ia, ib, J, ac, hvs⟩ := hI
 exact Xr (vs := [vi (mAt ms (r.th - 1).toNat).t.lab.s, vi (mAt ms (r.th - 1).toNat).t.lab.v]) J6 (Vals.at 6 hvs Z (Xl 6 hbef Z)) Z (Y2 (Own.range Yj (a8.grown0 cl) (xg ms (r.th - 1).toNat)) 1 2 Z) Z (Xb ⟨ab, cl, ia, ib, J, Xv 17 hS hcl Z, Vals.up 7 hvs Z Z Z⟩)
 refine Xi (fun S F lv hS hbef hcl hI => ?_) ?_
 obtain ⟨ab, ej, ic, dp, J, ac, hvs⟩ := hI
 exact Xd (v := pt B ((r.th - 1).toNat * 8)) dp Z (Xb ⟨ab, ej, ic, dp, J, Xv 17 hS hcl Z, Vals.up 8 hvs Z Z Z⟩)
 refine Xi (fun S F lw hS hbef hcl hI => ?_) ?_
 obtain ⟨ab, ek, ie, ig, J, ac, hvs⟩ := hI
 exact Xs (Vals.at 8 hvs Z (Xl 8 hbef Z)) Z (Xb ⟨ab, ek, ie, ig, J, Xv 17 hS hcl Z, Vals.up 9 hvs Z Z Z⟩)
 refine Xi (fun S F ly hS hbef hcl hI => ?_) ?_
 obtain ⟨ab, em, ii, ij, J, ac, hvs⟩ := hI
 exact Xc (o' := (r.th - 1).toNat * 8 + 7) J5 (Vals.at 9 hvs Z (Xl 9 hbef Z)) Z Z (Xb ⟨ab, em, ii, ij, J, Xv 17 hS hcl Z, Vals.up 10 hvs Z Z Z⟩)
 refine Xi (fun S F lz hS hbef hcl hI => ?_) ?_
 obtain ⟨ab, cm, ik, il, J, ac, hvs⟩ := hI
 exact Xh (v := vi (mAt ms (r.th - 1).toNat).t.to) X1 (Vals.at 10 hvs Z (Xl 10 hbef Z)) ((Own.range Yj (a8.grown0 cm) (xg ms (r.th - 1).toNat)) 7 _ Z) Z (Xb ⟨ab, cm, ik, il, J, Xv 17 hS hcl Z, Vals.up 11 hvs Z Z Z⟩)
 refine Xi (fun S F l0 hS hbef hcl hI => ?_) ?_
 obtain ⟨ab, eo, im, io, J, ac, hvs⟩ := hI
 have kq : thingOk (⟨(mAt ms (r.th - 1).toNat).t.kind, (mAt ms (r.th - 1).toNat).t.lab, 0, 0, [], [], (mAt ms (r.th - 1).toNat).t.to⟩ : Th) = true := (K4 ak).symm.trans c9
 refine Xn Te (Xf (Vals.at 3 hvs Z (Xl 3 hbef Z)) (Xf (Vals.at 7 hvs Z (Xl 7 hbef Z)) (Xf (Vals.at 11 hvs Z (Xl 11 hbef Z)) Xm))) Z (Hd (mAt ms (r.th - 1).toNat).t.kind (mAt ms (r.th - 1).toNat).t.to (mAt ms (r.th - 1).toNat).t.lab ak c9 _) ?_
 rintro _ l3 ⟨rfl, cd⟩
 exact Xb ⟨ab, (low0 eo cd), im, io, fun h => let ⟨jw, jx, jy, jz, j1, j2⟩ := J h; ⟨jw, jx, fun hn => (jy hn).grown0 cd, jz, j1, j2⟩, Xv 17 hS hcl Z, Vals.up 12 hvs Z Z Z⟩
 refine Xi (fun S F l4 hS hbef hcl hI => ?_) ?_
 obtain ⟨ab, ep, ip, iq, J, ac, hvs⟩ := hI
 exact Xd (v := .tuple #[.agg #[vi (mAt ms (r.th - 1).toNat).t.kind, vi (mAt ms (r.th - 1).toNat).t.lab.s, vi (mAt ms (r.th - 1).toNat).t.lab.v, vi 0, vi 0, .slice none 0 0, .slice none 0 0, vi (mAt ms (r.th - 1).toNat).t.to], vb true]) (Vals.at 12 hvs Z (Xl 12 hbef Z)) Z (Xb ⟨ab, ep, ip, iq, J, Xv 17 hS hcl Z, Vals.up 13 hvs Z Z Z⟩)
 refine Xi (fun S F l5 hS hbef hcl hI => ?_) ?_
 obtain ⟨ab, eu, ir, it, J, ac, hvs⟩ := hI
 exact Ye (v := .agg #[vi (mAt ms (r.th - 1).toNat).t.kind, vi (mAt ms (r.th - 1).toNat).t.lab.s, vi (mAt ms (r.th - 1).toNat).t.lab.v, vi 0, vi 0, .slice none 0 0, .slice none 0 0, vi (mAt ms (r.th - 1).toNat).t.to]) (Vals.at 13 hvs Z (Xl 13 hbef Z)) Z Z (Xb ⟨ab, eu, ir, it, J, Xv 17 hS hcl Z, Vals.up 14 hvs Z Z Z⟩)
 refine Xi (fun S F l6 hS hbef hcl hI => ?_) ?_
 obtain ⟨ab, ew, iu, iv, J, ac, hvs⟩ := hI
 exact Ye (v := vb true) (Vals.at 13 hvs Z (Xl 13 hbef Z)) Z Z (Xb ⟨ab, ew, iu, iv, J, ac, Vals.up 15 hvs Z Z Z⟩)
 refine Xi (fun S F l7 hS hbef hcl hI => ?_) ?_
 obtain ⟨ab, az, iw, ix, J, ac, hvs⟩ := hI
 refine Yf (cs := #[vi 0, vi 0, vi 0, vi 0, vi 0, .slice none 0 0, .slice none 0 0, vi 0]) Ka Z Z ?_
 intro fb l8 ao
 have df := K8 ao (KeepsI.low bh az)
 have bw := Xo ao ((a8.grown0 az)).lt
 have bq := Xo ao (((hA.grown0 au).grown0 az)).lt
 exact Xb ⟨fb, (low0 az ao.grw), iw, ix, fun _ => ⟨Z, df, fun _ => ao.blk, bw, bq, (nt az.size (Nat.le_of_eq ao.eq.symm))⟩, Xv 17 hS hcl Z, Vals.keep hvs Z⟩
 refine Xi (fun S F l9 hS hbef hcl hI => ?_) ?_
 obtain ⟨ab, ez, iy, iz, J, ac, hvs⟩ := hI
 obtain ⟨i0, de, bf, bv, bp, co⟩ := J (Xl 16 hbef rfl)
 refine Xy (vs := [vi (mAt ms (r.th - 1).toNat).t.kind, vi (mAt ms (r.th - 1).toNat).t.lab.s, vi (mAt ms (r.th - 1).toNat).t.lab.v, vi 0, vi 0, .slice none 0 0, .slice none 0 0, vi (mAt ms (r.th - 1).toNat).t.to]) (cs' := #[vi (mAt ms (r.th - 1).toNat).t.kind, vi (mAt ms (r.th - 1).toNat).t.lab.s, vi (mAt ms (r.th - 1).toNat).t.lab.v, vi 0, vi 0, .slice none 0 0, .slice none 0 0, vi (mAt ms (r.th - 1).toNat).t.to]) Ys i0 (Vals.at 14 hvs Z (Xl 14 hbef Z)) Z (by simp [Value.oneCell']) (bf hS) (Nat.le_of_ble_eq_true Z) Z ?_
 intro ma ca
 exact Xb ⟨ab, (low1 ez ca.grw (by omega)), iy, iz, fun h => let ⟨j3, j4, mt, j5, j6, j7⟩ := J h; ⟨j3, j4, fun h => Jq h, j5, j6, j7⟩, fun _ => ca.blk, Vals.keep0 hvs Z⟩
 exact Jb
 intro S F mb hall hI
 obtain ⟨ab, bk, ki, dq, J, ac, hvs⟩ := hI
 obtain ⟨dr, de, bf, bv, bp, co⟩ := J (hall 16 (by decide))
 obtain ba := ac (hall 17 (by decide))
 refine Xe (v := vb true) (Vals.at 15 hvs Z (hall 15 (by decide))) Z (Xb (Xu (Xq (Xa (Xd (v := vb true) Z Z (Yn (b' := false) Z Z Z (Xb (Y4 Z Z (Xz (Xu (Xa (Xd (v := pt B ((r.th - 1).toNat * 8)) dq Z ?_))))))))))))
 refine Xs Z Z (Xc (o' := (r.th - 1).toNat * 8 + 3) Qz Z Z Z ?_)
 have du := (a8.grown0 bk)
 refine Xh (v := vi (mAt ms (r.th - 1).toNat).t.ve) X1 Z ((Own.range Yj du (xg ms (r.th - 1).toNat)) 3 _ Z) Z (Yl (c := (mAt ms (r.th - 1).toNat).t.ve + 1) Z Z (by omega) (by omega) (by omega) Z (Xc (o' := 3) Qz dr Z Z (Yc (v := vi ((mAt ms (r.th - 1).toNat).t.ve + 1)) (cs' := #[vi (mAt ms (r.th - 1).toNat).t.kind, vi (mAt ms (r.th - 1).toNat).t.lab.s, vi (mAt ms (r.th - 1).toNat).t.lab.v, vi ((mAt ms (r.th - 1).toNat).t.ve + 1), vi 0, .slice none 0 0, .slice none 0 0, vi (mAt ms (r.th - 1).toNat).t.to]) X1 Z Z Z ba (Nat.le_of_ble_eq_true Z) Z ?_)))
 intro mc bc
 refine Xb (Xa (Xd (v := pt B ((r.th - 1).toNat * 8)) dq Z (Xr (vs := [vi (mAt ms (r.th - 1).toNat).t.kind, vi (mAt ms (r.th - 1).toNat).t.lab.s, vi (mAt ms (r.th - 1).toNat).t.lab.v, vi ((mAt ms (r.th - 1).toNat).t.ve + 1), vi 0, .slice none 0 0, .slice none 0 0, vi (mAt ms (r.th - 1).toNat).t.to]) Ys dr Z (bc.blk.rangeL 0 8 Z) Z (Xs Z Z ?_))))
 have cv := (du.gn bc.grw)
 refine Qy (g := MTh.cells) (z' := (⟨⟨(mAt ms (r.th - 1).toNat).t.kind, (mAt ms (r.th - 1).toNat).t.lab, (mAt ms (r.th - 1).toNat).t.ve + 1, 0, [], [], (mAt ms (r.th - 1).toNat).t.to⟩, none, 0, none, 0⟩ : MTh)) Ys Z Z (Ke _) Yj cv (by omega) Z ?_
 intro i5 dy ce
 have c8 : RowsO 33 3 lo i5 (ms.set (r.th - 1).toNat (⟨⟨(mAt ms (r.th - 1).toNat).t.kind, (mAt ms (r.th - 1).toNat).t.lab, (mAt ms (r.th - 1).toNat).t.ve + 1, 0, [], [], (mAt ms (r.th - 1).toNat).t.to⟩, none, 0, none, 0⟩ : MTh)) := RowsO.setn (RowsO.own (RowsO.typB (RowsO.low (RowsO.low hR au) bk) bc.grw ba (by decide) (by decide)) ce cv (by decide) (by decide)) (lq (r.th - 1).toNat ms.length) ⟨OwnN.nil, OwnN.nil⟩ hH (fun S e => by first | (cases e; done) | (simp only [Option.some.injEq, Addr.mk.injEq, and_true, reduceCtorEq] at e; omega))
 refine Xb (Xa (Xe (v := vi 0) Z Z (Xb (Xt ?_))))
 have hf : far (tabT ms) q r = (tabT (ms.set (r.th - 1).toNat (⟨⟨(mAt ms (r.th - 1).toNat).t.kind, (mAt ms (r.th - 1).toNat).t.lab, (mAt ms (r.th - 1).toNat).t.ve + 1, 0, [], [], (mAt ms (r.th - 1).toNat).t.to⟩, none, 0, none, 0⟩ : MTh)), 0) := Td hq (by omega) (Nd ak)
 exact ⟨vi 0, Yt Z Z, ms.set (r.th - 1).toNat (⟨⟨(mAt ms (r.th - 1).toNat).t.kind, (mAt ms (r.th - 1).toNat).t.lab, (mAt ms (r.th - 1).toNat).t.ve + 1, 0, [], [], (mAt ms (r.th - 1).toNat).t.to⟩, none, 0, none, 0⟩ : MTh), by rw [hf], by first | rfl | exact Yb | (simp only [List.length_set, Yb]), dy, c8, by rw [hf], (KeepsI.own (KeepsI.new (KeepsI.low bh bk) bc.grw (by omega)) ce cv (by decide) (by omega) (by omega))⟩
theorem Xbb (q : Cl) (r : Rt) (lo B cap : Nat) (ms : List MTh) (w : World) (hB : Dw.Own w B 39 8 cap ms.length (ms.flatMap MTh.cells)) (hR : RowsO 33 3 lo w ms) (hlo : lo ≤ B) (hi : Nat) (hH : HiO hi ms) (hBlt : B < hi) (hhi : hi ≤ w.heap.size) (hF : FarOk (tabT ms) q r) (A : Nat) (hA : Blk w A 59 #[.slice (pa B) ms.length cap, vi q.kind, vi q.run, vi q.a, vi q.b, vi q.n, vi r.th, vi r.ve, vb r.rd, vb r.wr, vb r.wk]) (hAhi : hi ≤ A) (hq : decide (q.kind = 9) = true) : CallsR Tryz.prog 97 #[pt A 0] w (fun v w' => ∃ ms' : List MTh, v = vi (far (tabT ms) q r).2 ∧ ms'.length = ms.length ∧ Dw.Own w' B 39 8 cap ms'.length (ms'.flatMap MTh.cells) ∧ RowsO 33 3 lo w' ms' ∧ tabT ms' = (far (tabT ms) q r).1 ∧ KeepsI lo hi [39, 33, 3] w w') := by
 refine Xx (n := 32) Tryz.func97 Z Tryz.ntmps97 Z ?_
 have an : KeepsI lo hi [39, 33, 3] w w := KeepsI.refl w
 have hlow : lo ≤ w.heap.size := by omega
 have hT := hF.tab
 have hco := Yx hF.call
 have hkp := (Qe hF.run).1
 have h4 := Qt hT hF.run
 have hth := hF.th
 rw [Y5] at hth
 have hml := Jk hT
 have hkd := Q2 hF.kind hco.1
 rw [← Qk] at hkd
 have hrow := Jl hT (i := (r.th - 1).toNat) (by omega)
 have hln := TabLen.ok hT _ (List.mem_of_getElem? (xg ms (r.th - 1).toNat))
 have hcp := hF.copy
 have hve := V8 hrow
 have ao := of_decide_eq_true hq
 have aj := Qe (W0 hT (by rw [Y5]; omega) (by rw [← Qk]; omega))
 rw [← Qk] at aj
 have hqk := of_decide_eq_true hq
 have G : ¬ ((mAt ms (r.th - 1).toNat).t.to - 1).toNat = (r.th - 1).toNat := fun e => by have h := aj.2; rw [e] at h; omega
 refine Xa (Xe (v := vi 0) Z Z (Xb (Xa (Xd (v := pt A 0) Z Z (Xn K7 (Xf Z Xm) Z (Kd q r B cap _ _ hB (by first | omega | (simp only [List.length_set, Yb]; omega)) A hA (by first | omega | (simp only [List.length_set, Yb]; omega))) ?_)))))
 rintro _ ak ⟨rfl, E⟩
 refine Xe (v := pt B ((r.th - 1).toNat * 8)) Z Z (Xb (Xq (Yy (m := 15) (vals := [(6, pt A 0), (7, pt A 0), (8, pt A 0), (9, .slice (pa B) ms.length cap), (10, pt B ((r.th - 1).toNat * 8)), (11, pt B ((r.th - 1).toNat * 8)), (12, pt B ((r.th - 1).toNat * 8 + 7)), (13, vi (mAt ms (r.th - 1).toNat).t.to), (14, vi ((mAt ms (r.th - 1).toNat).t.to - 1)), (15, pt A 0), (16, pt A 0), (17, pt A 1), (18, pt A 5), (19, vi q.n), (20, vi (q.n % 2))]) (fun w' => ak.grownBy w' none) Yz (by kernel_rfl) (X8 _) ?_ ?_)))
 refine yl Z (fun _ _ k => Xd (v := pt A 0) Z Z k) (yl Z (fun _ _ k => Xs Z Z k) (yl Z (fun _ _ k => Xc (o' := 0) Wz Z Z Z k) (yl Z (fun _ ag k => Xh (v := .slice (pa B) ms.length cap) Ue Z (((hA.grown0 E).grown0 ag).cell Z) Z k) (yl Z (fun _ _ k => Xd (v := pt B ((r.th - 1).toNat * 8)) Z Z k) (yl Z (fun _ _ k => Xs Z Z k) (yl Z (fun _ _ k => Xc (o' := (r.th - 1).toNat * 8 + 7) J5 Z Z Z k) (yl Z (fun _ ah k => Xh (v := vi (mAt ms (r.th - 1).toNat).t.to) X1 Z ((Own.range Yj ((hB.grown0 E).grown0 ah) (xg ms (r.th - 1).toNat)) 7 _ Z) Z k) (yl Z (fun _ _ k => Yr (c := (mAt ms (r.th - 1).toNat).t.to - 1) Z Z (by omega) (by omega) (by omega) Z k) (yl Z (fun _ _ k => Xd (v := pt A 0) Z Z k) (yl Z (fun _ _ k => Xs Z Z k) ?_))))))))))
 exact yl Z (fun _ _ k => Xc (o' := 1) Kf Z Z Z k) (yl Z (fun _ _ k => Xc (o' := 5) Js Z Z Z k) (yl Z (fun _ ai k => Xh (v := vi q.n) X1 Z (((hA.grown0 E).grown0 ai).cell Z) Z k) (yl Z (fun _ _ k => Q9 (c := q.n % 2) Z Z (by omega) (by omega) (by omega) Z Z k) Y8)))
 intro ap O
 refine X4 (o' := ((mAt ms (r.th - 1).toNat).t.to - 1).toNat * 8) Qc Z Z (by omega) (by omega) (by omega) Z (Xc (o' := ((mAt ms (r.th - 1).toNat).t.to - 1).toNat * 8 + 4) Qw Z Z Z ?_)
 have ac := ((hB.grown0 E).grown0 O)
 refine Q7 (g := MTh.cells) (j := 4) (z := (mAt ms ((mAt ms (r.th - 1).toNat).t.to - 1).toNat)) (z' := (⟨⟨(mAt ms ((mAt ms (r.th - 1).toNat).t.to - 1).toNat).t.kind, (mAt ms ((mAt ms (r.th - 1).toNat).t.to - 1).toNat).t.lab, (mAt ms ((mAt ms (r.th - 1).toNat).t.to - 1).toNat).t.ve, q.n % 2, (mAt ms ((mAt ms (r.th - 1).toNat).t.to - 1).toNat).t.slots, (mAt ms ((mAt ms (r.th - 1).toNat).t.to - 1).toNat).t.queue, (mAt ms ((mAt ms (r.th - 1).toNat).t.to - 1).toNat).t.to⟩, (mAt ms ((mAt ms (r.th - 1).toNat).t.to - 1).toNat).sa, (mAt ms ((mAt ms (r.th - 1).toNat).t.to - 1).toNat).sc, (mAt ms ((mAt ms (r.th - 1).toNat).t.to - 1).toNat).qa, (mAt ms ((mAt ms (r.th - 1).toNat).t.to - 1).toNat).qc⟩ : MTh)) (v := vi (q.n % 2)) X1 Z Z Z Yj ac (xg ms ((mAt ms (r.th - 1).toNat).t.to - 1).toNat) (by omega) Z Z ?_
 intro al J V
 have ad : RowsO 33 3 lo al (ms.set ((mAt ms (r.th - 1).toNat).t.to - 1).toNat (⟨⟨(mAt ms ((mAt ms (r.th - 1).toNat).t.to - 1).toNat).t.kind, (mAt ms ((mAt ms (r.th - 1).toNat).t.to - 1).toNat).t.lab, (mAt ms ((mAt ms (r.th - 1).toNat).t.to - 1).toNat).t.ve, q.n % 2, (mAt ms ((mAt ms (r.th - 1).toNat).t.to - 1).toNat).t.slots, (mAt ms ((mAt ms (r.th - 1).toNat).t.to - 1).toNat).t.queue, (mAt ms ((mAt ms (r.th - 1).toNat).t.to - 1).toNat).t.to⟩, (mAt ms ((mAt ms (r.th - 1).toNat).t.to - 1).toNat).sa, (mAt ms ((mAt ms (r.th - 1).toNat).t.to - 1).toNat).sc, (mAt ms ((mAt ms (r.th - 1).toNat).t.to - 1).toNat).qa, (mAt ms ((mAt ms (r.th - 1).toNat).t.to - 1).toNat).qc⟩ : MTh)) := RowsO.set (RowsO.own (RowsO.low (RowsO.low hR E) O) V ac (by decide) (by decide)) (lq ((mAt ms (r.th - 1).toNat).t.to - 1).toNat ms.length) ⟨rfl, rfl, rfl⟩ ⟨rfl, rfl, rfl⟩
 refine Xb (Xu (Xa (Xd (v := pt B ((r.th - 1).toNat * 8)) Z Z (Xd (v := pt B ((r.th - 1).toNat * 8)) Z Z (Xs Z Z (Xc (o' := (r.th - 1).toNat * 8 + 4) Qw Z Z Z (Xh (v := vi (mAt ms (r.th - 1).toNat).t.num) X1 Z ((Own.range Yj J (Gg (lq (r.th - 1).toNat ms.length) G)) 4 _ Z) Z (Yl (c := (mAt ms (r.th - 1).toNat).t.num + 1) Z Z (by omega) (by omega) (by omega) Z (Pr (c := min ((mAt ms (r.th - 1).toNat).t.num + 1) 99) Z Z Z Z (Xs Z Z (Xc (o' := (r.th - 1).toNat * 8 + 4) Qw Z Z Z (Q7 (g := MTh.cells) (j := 4) (z := (mAt ms (r.th - 1).toNat)) (z' := (⟨⟨(mAt ms (r.th - 1).toNat).t.kind, (mAt ms (r.th - 1).toNat).t.lab, (mAt ms (r.th - 1).toNat).t.ve, min ((mAt ms (r.th - 1).toNat).t.num + 1) 99, (mAt ms (r.th - 1).toNat).t.slots, (mAt ms (r.th - 1).toNat).t.queue, (mAt ms (r.th - 1).toNat).t.to⟩, (mAt ms (r.th - 1).toNat).sa, (mAt ms (r.th - 1).toNat).sc, (mAt ms (r.th - 1).toNat).qa, (mAt ms (r.th - 1).toNat).qc⟩ : MTh)) (v := vi (min ((mAt ms (r.th - 1).toNat).t.num + 1) 99)) X1 Z Z Z Yj J (Gg (lq (r.th - 1).toNat ms.length) G) (by omega) Z Z ?_))))))))))))
 intro am af ab
 have ae : RowsO 33 3 lo am ((ms.set ((mAt ms (r.th - 1).toNat).t.to - 1).toNat (⟨⟨(mAt ms ((mAt ms (r.th - 1).toNat).t.to - 1).toNat).t.kind, (mAt ms ((mAt ms (r.th - 1).toNat).t.to - 1).toNat).t.lab, (mAt ms ((mAt ms (r.th - 1).toNat).t.to - 1).toNat).t.ve, q.n % 2, (mAt ms ((mAt ms (r.th - 1).toNat).t.to - 1).toNat).t.slots, (mAt ms ((mAt ms (r.th - 1).toNat).t.to - 1).toNat).t.queue, (mAt ms ((mAt ms (r.th - 1).toNat).t.to - 1).toNat).t.to⟩, (mAt ms ((mAt ms (r.th - 1).toNat).t.to - 1).toNat).sa, (mAt ms ((mAt ms (r.th - 1).toNat).t.to - 1).toNat).sc, (mAt ms ((mAt ms (r.th - 1).toNat).t.to - 1).toNat).qa, (mAt ms ((mAt ms (r.th - 1).toNat).t.to - 1).toNat).qc⟩ : MTh)).set (r.th - 1).toNat (⟨⟨(mAt ms (r.th - 1).toNat).t.kind, (mAt ms (r.th - 1).toNat).t.lab, (mAt ms (r.th - 1).toNat).t.ve, min ((mAt ms (r.th - 1).toNat).t.num + 1) 99, (mAt ms (r.th - 1).toNat).t.slots, (mAt ms (r.th - 1).toNat).t.queue, (mAt ms (r.th - 1).toNat).t.to⟩, (mAt ms (r.th - 1).toNat).sa, (mAt ms (r.th - 1).toNat).sc, (mAt ms (r.th - 1).toNat).qa, (mAt ms (r.th - 1).toNat).qc⟩ : MTh)) := RowsO.set (RowsO.own ad ab J (by decide) (by decide)) (show (r.th - 1).toNat < (ms.set ((mAt ms (r.th - 1).toNat).t.to - 1).toNat (⟨⟨(mAt ms ((mAt ms (r.th - 1).toNat).t.to - 1).toNat).t.kind, (mAt ms ((mAt ms (r.th - 1).toNat).t.to - 1).toNat).t.lab, (mAt ms ((mAt ms (r.th - 1).toNat).t.to - 1).toNat).t.ve, q.n % 2, (mAt ms ((mAt ms (r.th - 1).toNat).t.to - 1).toNat).t.slots, (mAt ms ((mAt ms (r.th - 1).toNat).t.to - 1).toNat).t.queue, (mAt ms ((mAt ms (r.th - 1).toNat).t.to - 1).toNat).t.to⟩, (mAt ms ((mAt ms (r.th - 1).toNat).t.to - 1).toNat).sa, (mAt ms ((mAt ms (r.th - 1).toNat).t.to - 1).toNat).sc, (mAt ms ((mAt ms (r.th - 1).toNat).t.to - 1).toNat).qa, (mAt ms ((mAt ms (r.th - 1).toNat).t.to - 1).toNat).qc⟩ : MTh)).length by (simp only [List.length_set, Yb]; omega)) ⟨W1 (f := MTh.qa) (lq (r.th - 1).toNat ms.length) G, W1 (f := MTh.qc) (lq (r.th - 1).toNat ms.length) G, W1 (f := (fun m => m.t.queue)) (lq (r.th - 1).toNat ms.length) G⟩ ⟨W1 (f := MTh.sa) (lq (r.th - 1).toNat ms.length) G, W1 (f := MTh.sc) (lq (r.th - 1).toNat ms.length) G, W1 (f := (fun m => m.t.slots)) (lq (r.th - 1).toNat ms.length) G⟩
 refine Xb (Xa (Xe (v := vi 0) Z Z (Xb (Xt ?_))))
 have hf : far (tabT ms) q r = (tabT ((ms.set ((mAt ms (r.th - 1).toNat).t.to - 1).toNat (⟨⟨(mAt ms ((mAt ms (r.th - 1).toNat).t.to - 1).toNat).t.kind, (mAt ms ((mAt ms (r.th - 1).toNat).t.to - 1).toNat).t.lab, (mAt ms ((mAt ms (r.th - 1).toNat).t.to - 1).toNat).t.ve, q.n % 2, (mAt ms ((mAt ms (r.th - 1).toNat).t.to - 1).toNat).t.slots, (mAt ms ((mAt ms (r.th - 1).toNat).t.to - 1).toNat).t.queue, (mAt ms ((mAt ms (r.th - 1).toNat).t.to - 1).toNat).t.to⟩, (mAt ms ((mAt ms (r.th - 1).toNat).t.to - 1).toNat).sa, (mAt ms ((mAt ms (r.th - 1).toNat).t.to - 1).toNat).sc, (mAt ms ((mAt ms (r.th - 1).toNat).t.to - 1).toNat).qa, (mAt ms ((mAt ms (r.th - 1).toNat).t.to - 1).toNat).qc⟩ : MTh)).set (r.th - 1).toNat (⟨⟨(mAt ms (r.th - 1).toNat).t.kind, (mAt ms (r.th - 1).toNat).t.lab, (mAt ms (r.th - 1).toNat).t.ve, min ((mAt ms (r.th - 1).toNat).t.num + 1) 99, (mAt ms (r.th - 1).toNat).t.slots, (mAt ms (r.th - 1).toNat).t.queue, (mAt ms (r.th - 1).toNat).t.to⟩, (mAt ms (r.th - 1).toNat).sa, (mAt ms (r.th - 1).toNat).sc, (mAt ms (r.th - 1).toNat).qa, (mAt ms (r.th - 1).toNat).qc⟩ : MTh)), 0) := Z2 hq rfl rfl
 exact ⟨vi 0, Yt Z Z, (ms.set ((mAt ms (r.th - 1).toNat).t.to - 1).toNat (⟨⟨(mAt ms ((mAt ms (r.th - 1).toNat).t.to - 1).toNat).t.kind, (mAt ms ((mAt ms (r.th - 1).toNat).t.to - 1).toNat).t.lab, (mAt ms ((mAt ms (r.th - 1).toNat).t.to - 1).toNat).t.ve, q.n % 2, (mAt ms ((mAt ms (r.th - 1).toNat).t.to - 1).toNat).t.slots, (mAt ms ((mAt ms (r.th - 1).toNat).t.to - 1).toNat).t.queue, (mAt ms ((mAt ms (r.th - 1).toNat).t.to - 1).toNat).t.to⟩, (mAt ms ((mAt ms (r.th - 1).toNat).t.to - 1).toNat).sa, (mAt ms ((mAt ms (r.th - 1).toNat).t.to - 1).toNat).sc, (mAt ms ((mAt ms (r.th - 1).toNat).t.to - 1).toNat).qa, (mAt ms ((mAt ms (r.th - 1).toNat).t.to - 1).toNat).qc⟩ : MTh)).set (r.th - 1).toNat (⟨⟨(mAt ms (r.th - 1).toNat).t.kind, (mAt ms (r.th - 1).toNat).t.lab, (mAt ms (r.th - 1).toNat).t.ve, min ((mAt ms (r.th - 1).toNat).t.num + 1) 99, (mAt ms (r.th - 1).toNat).t.slots, (mAt ms (r.th - 1).toNat).t.queue, (mAt ms (r.th - 1).toNat).t.to⟩, (mAt ms (r.th - 1).toNat).sa, (mAt ms (r.th - 1).toNat).sc, (mAt ms (r.th - 1).toNat).qa, (mAt ms (r.th - 1).toNat).qc⟩ : MTh), by rw [hf], by first | rfl | exact Yb | (simp only [List.length_set, Yb]), af, ae, by rw [hf], (KeepsI.own (KeepsI.own (KeepsI.low (KeepsI.low an E) O) V ac (by decide) (by omega) (by omega)) ab J (by decide) (by omega) (by omega))⟩
end Go.Proofs.YtlhhijnmacogcaaGreatDoor
end
section
namespace Go.Proofs.YtlhhijnmacogcaaGreatDoor
open Go.RowKit Go.Dw
set_option maxRecDepth 100000
set_option maxHeartbeats 4000000
set_option linter.unusedSimpArgs false
set_option linter.unusedVariables false
theorem K6 : arrTy Tryz.prog 145 = some (3, 3, 1) := by kernel_rfl
theorem Kc : fieldOff Tryz.prog 147 0 = some 0 := by kernel_rfl
theorem Jp : fieldOff Tryz.prog 147 1 = some 3 := by kernel_rfl
theorem Q4 : fieldOff Tryz.prog 147 2 = some 4 := by kernel_rfl
theorem Ir (n : Int) (x y z : Int) (R : Nat) (w : World) (hR : Blk w R 147 #[vi x, vi y, vi z, vi 0, vi 0]) : CallsR Tryz.prog 109 #[pt R 0, vi n] w (fun v w' => v = vb true ∧ Blk w' R 147 #[vi n, vi y, vi z, vi 0, vi 1] ∧ w.grownBy w' (some R)) := by
 refine Xx (n := 32) Tryz.func109 Z Tryz.ntmps109 Z (Xa (Xe (v := vb false) Z Z (Xb (Xq (Xa (Xd (v := pt R 0) Z Z (Xs Z Z (Xc (o' := 4) Q4 Z Z Z (Xh (v := vi 0) X1 Z (hR.cell Z) Z (X6 (q := false) Z Z (by decide) Z (Xb (Y4 Z Z ?_))))))))))))
 refine Xz (Xu (Xq (Yy (m := 14) (vals := [(10, pt R 0), (11, pt R 0), (12, pt R 0), (13, pt R 3), (14, vi 0), (15, pt R 0), (16, pt R 0), (17, pt R 4), (18, vi 0), (19, vi 0), (20, vi 0), (21, vi n), (22, pt R 0), (23, pt R 0)]) (fun w' => w.grownBy w' none) Yz (by kernel_rfl) (X8 _) ?_ ?_)))
 refine yl Z (fun _ _ k => Xd (v := pt R 0) Z Z k) (yl Z (fun _ _ k => Xd (v := pt R 0) Z Z k) (yl Z (fun _ _ k => Xs Z Z k) (yl Z (fun _ _ k => Xc (o' := 3) Jp Z Z Z k) (yl Z (fun _ O k => Xh (v := vi 0) X1 Z ((hR.grown0 O).cell Z) Z k) (yl Z (fun _ _ k => Xd (v := pt R 0) Z Z k) (yl Z (fun _ _ k => Xs Z Z k) (yl Z (fun _ _ k => Xc (o' := 4) Q4 Z Z Z k) (yl Z (fun _ V k => Xh (v := vi 0) X1 Z ((hR.grown0 V).cell Z) Z k) (yl Z (fun _ _ k => Yl (c := 0) Z Z (by omega) (by omega) (by omega) Z k) (yl Z (fun _ _ k => Q9 (c := 0) Z Z (by omega) (by omega) (by omega) Z Z k) ?_))))))))))
 exact yl Z (fun _ _ k => Xd (v := vi n) Z Z k) (yl Z (fun _ _ k => Xs Z Z k) (yl Z (fun _ _ k => Xc (o' := 0) Kc Z Z Z k) Y8))
 intro ab J
 refine Qm (o' := 0) K6 Z Z (by decide) (by decide) Z Z (Yc (v := vi n) (cs' := #[vi n, vi y, vi z, vi 0, vi 0]) X1 Z Z Z (hR.grown0 J) (Nat.le_of_ble_eq_true Z) Z ?_)
 intro ac E
 refine Xb (Xu (Xa (Xd (v := pt R 0) Z Z (Xs Z Z (Xc (o' := 4) Q4 Z Z Z (Xh (v := vi 0) X1 Z (E.blk.cell Z) Z (Yl (c := 1) Z Z (by omega) (by omega) (by omega) Z (Xs Z Z (Xc (o' := 4) Q4 Z Z Z (Yc (v := vi 1) (cs' := #[vi n, vi y, vi z, vi 0, vi 1]) X1 Z Z Z E.blk (Nat.le_of_ble_eq_true Z) Z ?_))))))))))
 intro ad G
 exact Xb (Xa (Xe (v := vb true) Z Z (Xb (Xt (⟨vb true, Yt Z Z, Z, G.blk, (grown_trans (grown_trans (low0 (World.grownBy.refl w (some R)) J) E.grw) G.grw)⟩)))))
theorem Xdh (x y z : Int) (R : Nat) (w : World) (hR : Blk w R 147 #[vi x, vi y, vi z, vi 0, vi 0]) : CallsR Tryz.prog 111 #[pt R 0] w (fun v w' => v = .tuple #[vi 0, vb false] ∧ Blk w' R 147 #[vi x, vi y, vi z, vi 0, vi 0] ∧ w.grownBy w' (some R)) := by
 refine Xx (n := 36) Tryz.func111 Z Tryz.ntmps111 Z (Xa (Xe (v := vi 0) Z Z (Xe (v := vb false) Z Z (Xb (Xq (Xa (Xd (v := pt R 0) Z Z (Xs Z Z (Xc (o' := 4) Q4 Z Z Z (Xh (v := vi 0) X1 Z (hR.cell Z) Z (X6 (q := true) Z Z (by decide) Z (Xb ?_))))))))))))
 exact Qa Z Z (Xa (Xe (v := vi 0) Z Z (Xe (v := vb false) Z Z (Xb (Xt (Yk (⟨.tuple #[vi 0, vb false], Gv Z Z Z, Z, hR, (World.grownBy.refl w (some R))⟩)))))))
theorem Is (n : Int) (x y z : Int) (R : Nat) (w : World) (hR : Blk w R 147 #[vi x, vi y, vi z, vi 0, vi 1]) : CallsR Tryz.prog 109 #[pt R 0, vi n] w (fun v w' => v = vb true ∧ Blk w' R 147 #[vi x, vi n, vi z, vi 0, vi 2] ∧ w.grownBy w' (some R)) := by
 refine Xx (n := 32) Tryz.func109 Z Tryz.ntmps109 Z (Xa (Xe (v := vb false) Z Z (Xb (Xq (Xa (Xd (v := pt R 0) Z Z (Xs Z Z (Xc (o' := 4) Q4 Z Z Z (Xh (v := vi 1) X1 Z (hR.cell Z) Z (X6 (q := false) Z Z (by decide) Z (Xb (Y4 Z Z ?_))))))))))))
 refine Xz (Xu (Xq (Yy (m := 14) (vals := [(10, pt R 0), (11, pt R 0), (12, pt R 0), (13, pt R 3), (14, vi 0), (15, pt R 0), (16, pt R 0), (17, pt R 4), (18, vi 1), (19, vi 1), (20, vi 1), (21, vi n), (22, pt R 0), (23, pt R 0)]) (fun w' => w.grownBy w' none) Yz (by kernel_rfl) (X8 _) ?_ ?_)))
 refine yl Z (fun _ _ k => Xd (v := pt R 0) Z Z k) (yl Z (fun _ _ k => Xd (v := pt R 0) Z Z k) (yl Z (fun _ _ k => Xs Z Z k) (yl Z (fun _ _ k => Xc (o' := 3) Jp Z Z Z k) (yl Z (fun _ O k => Xh (v := vi 0) X1 Z ((hR.grown0 O).cell Z) Z k) (yl Z (fun _ _ k => Xd (v := pt R 0) Z Z k) (yl Z (fun _ _ k => Xs Z Z k) (yl Z (fun _ _ k => Xc (o' := 4) Q4 Z Z Z k) (yl Z (fun _ V k => Xh (v := vi 1) X1 Z ((hR.grown0 V).cell Z) Z k) (yl Z (fun _ _ k => Yl (c := 1) Z Z (by omega) (by omega) (by omega) Z k) (yl Z (fun _ _ k => Q9 (c := 1) Z Z (by omega) (by omega) (by omega) Z Z k) ?_))))))))))
 exact yl Z (fun _ _ k => Xd (v := vi n) Z Z k) (yl Z (fun _ _ k => Xs Z Z k) (yl Z (fun _ _ k => Xc (o' := 0) Kc Z Z Z k) Y8))
 intro ab J
 refine Qm (o' := 1) K6 Z Z (by decide) (by decide) Z Z (Yc (v := vi n) (cs' := #[vi x, vi n, vi z, vi 0, vi 1]) X1 Z Z Z (hR.grown0 J) (Nat.le_of_ble_eq_true Z) Z ?_)
 intro ac E
 refine Xb (Xu (Xa (Xd (v := pt R 0) Z Z (Xs Z Z (Xc (o' := 4) Q4 Z Z Z (Xh (v := vi 1) X1 Z (E.blk.cell Z) Z (Yl (c := 2) Z Z (by omega) (by omega) (by omega) Z (Xs Z Z (Xc (o' := 4) Q4 Z Z Z (Yc (v := vi 2) (cs' := #[vi x, vi n, vi z, vi 0, vi 2]) X1 Z Z Z E.blk (Nat.le_of_ble_eq_true Z) Z ?_))))))))))
 intro ad G
 exact Xb (Xa (Xe (v := vb true) Z Z (Xb (Xt (⟨vb true, Yt Z Z, Z, G.blk, (grown_trans (grown_trans (low0 (World.grownBy.refl w (some R)) J) E.grw) G.grw)⟩)))))
theorem Xdi (x y z : Int) (R : Nat) (w : World) (hR : Blk w R 147 #[vi x, vi y, vi z, vi 0, vi 1]) : CallsR Tryz.prog 111 #[pt R 0] w (fun v w' => v = .tuple #[vi x, vb true] ∧ Blk w' R 147 #[vi x, vi y, vi z, vi 1, vi 0] ∧ w.grownBy w' (some R)) := by
 refine Xx (n := 36) Tryz.func111 Z Tryz.ntmps111 Z (Xa (Xe (v := vi 0) Z Z (Xe (v := vb false) Z Z (Xb (Xq (Xa (Xd (v := pt R 0) Z Z (Xs Z Z (Xc (o' := 4) Q4 Z Z Z (Xh (v := vi 1) X1 Z (hR.cell Z) Z (X6 (q := false) Z Z (by decide) Z (Xb ?_))))))))))))
 refine Y4 Z Z (Xz (Xu (Xq (Yy (m := 7) (vals := [(10, pt R 0), (11, pt R 0), (12, pt R 0), (13, pt R 3), (14, vi 0), (15, pt R 0), (16, pt R 0)]) (fun w' => w.grownBy w' none) Yz (by kernel_rfl) (X8 _) ?_ ?_))))
 exact yl Z (fun _ _ k => Xd (v := pt R 0) Z Z k) (yl Z (fun _ _ k => Xd (v := pt R 0) Z Z k) (yl Z (fun _ _ k => Xs Z Z k) (yl Z (fun _ _ k => Xc (o' := 3) Jp Z Z Z k) (yl Z (fun _ V k => Xh (v := vi 0) X1 Z ((hR.grown0 V).cell Z) Z k) (yl Z (fun _ _ k => Xs Z Z k) (yl Z (fun _ _ k => Xc (o' := 0) Kc Z Z Z k) Y8))))))
 intro ab J
 refine Qm (o' := 0) K6 Z Z (by decide) (by decide) Z Z ?_
 have O := (hR.grown0 J)
 refine Xh (v := vi x) X1 Z (O.cell Z) Z (Xe (v := vi x) Z Z (Xb (Xu (Xa (Xd (v := pt R 0) Z Z (Xd (v := pt R 0) Z Z (Xs Z Z (Xc (o' := 3) Jp Z Z Z (Xh (v := vi 0) X1 Z (O.cell Z) Z (Yl (c := 1) Z Z (by omega) (by omega) (by omega) Z (Q9 (c := 1) Z Z (by omega) (by omega) (by omega) Z Z (Xs Z Z ?_))))))))))))
 refine Xc (o' := 3) Jp Z Z Z (Yc (v := vi 1) (cs' := #[vi x, vi y, vi z, vi 1, vi 1]) X1 Z Z Z O (Nat.le_of_ble_eq_true Z) Z ?_)
 intro ac E
 refine Xb (Xa (Xd (v := pt R 0) Z Z (Xs Z Z (Xc (o' := 4) Q4 Z Z Z (Xh (v := vi 1) X1 Z (E.blk.cell Z) Z (Yr (c := 0) Z Z (by omega) (by omega) (by omega) Z (Xs Z Z (Xc (o' := 4) Q4 Z Z Z (Yc (v := vi 0) (cs' := #[vi x, vi y, vi z, vi 1, vi 0]) X1 Z Z Z E.blk (Nat.le_of_ble_eq_true Z) Z ?_)))))))))
 intro ad G
 exact Xb (Xa (Xd (v := vi x) Z Z (Xe (v := vi x) Z Z (Xe (v := vb true) Z Z (Xb (Xt (⟨.tuple #[vi x, vb true], Gv Z Z Z, Z, G.blk, (grown_trans (grown_trans (low0 (World.grownBy.refl w (some R)) J) E.grw) G.grw)⟩)))))))
theorem Iu (n : Int) (x y z : Int) (R : Nat) (w : World) (hR : Blk w R 147 #[vi x, vi y, vi z, vi 0, vi 2]) : CallsR Tryz.prog 109 #[pt R 0, vi n] w (fun v w' => v = vb true ∧ Blk w' R 147 #[vi x, vi y, vi n, vi 0, vi 3] ∧ w.grownBy w' (some R)) := by
 refine Xx (n := 32) Tryz.func109 Z Tryz.ntmps109 Z (Xa (Xe (v := vb false) Z Z (Xb (Xq (Xa (Xd (v := pt R 0) Z Z (Xs Z Z (Xc (o' := 4) Q4 Z Z Z (Xh (v := vi 2) X1 Z (hR.cell Z) Z (X6 (q := false) Z Z (by decide) Z (Xb (Y4 Z Z ?_))))))))))))
 refine Xz (Xu (Xq (Yy (m := 14) (vals := [(10, pt R 0), (11, pt R 0), (12, pt R 0), (13, pt R 3), (14, vi 0), (15, pt R 0), (16, pt R 0), (17, pt R 4), (18, vi 2), (19, vi 2), (20, vi 2), (21, vi n), (22, pt R 0), (23, pt R 0)]) (fun w' => w.grownBy w' none) Yz (by kernel_rfl) (X8 _) ?_ ?_)))
 refine yl Z (fun _ _ k => Xd (v := pt R 0) Z Z k) (yl Z (fun _ _ k => Xd (v := pt R 0) Z Z k) (yl Z (fun _ _ k => Xs Z Z k) (yl Z (fun _ _ k => Xc (o' := 3) Jp Z Z Z k) (yl Z (fun _ O k => Xh (v := vi 0) X1 Z ((hR.grown0 O).cell Z) Z k) (yl Z (fun _ _ k => Xd (v := pt R 0) Z Z k) (yl Z (fun _ _ k => Xs Z Z k) (yl Z (fun _ _ k => Xc (o' := 4) Q4 Z Z Z k) (yl Z (fun _ V k => Xh (v := vi 2) X1 Z ((hR.grown0 V).cell Z) Z k) (yl Z (fun _ _ k => Yl (c := 2) Z Z (by omega) (by omega) (by omega) Z k) (yl Z (fun _ _ k => Q9 (c := 2) Z Z (by omega) (by omega) (by omega) Z Z k) ?_))))))))))
 exact yl Z (fun _ _ k => Xd (v := vi n) Z Z k) (yl Z (fun _ _ k => Xs Z Z k) (yl Z (fun _ _ k => Xc (o' := 0) Kc Z Z Z k) Y8))
 intro ab J
 refine Qm (o' := 2) K6 Z Z (by decide) (by decide) Z Z (Yc (v := vi n) (cs' := #[vi x, vi y, vi n, vi 0, vi 2]) X1 Z Z Z (hR.grown0 J) (Nat.le_of_ble_eq_true Z) Z ?_)
 intro ac E
 refine Xb (Xu (Xa (Xd (v := pt R 0) Z Z (Xs Z Z (Xc (o' := 4) Q4 Z Z Z (Xh (v := vi 2) X1 Z (E.blk.cell Z) Z (Yl (c := 3) Z Z (by omega) (by omega) (by omega) Z (Xs Z Z (Xc (o' := 4) Q4 Z Z Z (Yc (v := vi 3) (cs' := #[vi x, vi y, vi n, vi 0, vi 3]) X1 Z Z Z E.blk (Nat.le_of_ble_eq_true Z) Z ?_))))))))))
 intro ad G
 exact Xb (Xa (Xe (v := vb true) Z Z (Xb (Xt (⟨vb true, Yt Z Z, Z, G.blk, (grown_trans (grown_trans (low0 (World.grownBy.refl w (some R)) J) E.grw) G.grw)⟩)))))
theorem Xdj (x y z : Int) (R : Nat) (w : World) (hR : Blk w R 147 #[vi x, vi y, vi z, vi 0, vi 2]) : CallsR Tryz.prog 111 #[pt R 0] w (fun v w' => v = .tuple #[vi x, vb true] ∧ Blk w' R 147 #[vi x, vi y, vi z, vi 1, vi 1] ∧ w.grownBy w' (some R)) := by
 refine Xx (n := 36) Tryz.func111 Z Tryz.ntmps111 Z (Xa (Xe (v := vi 0) Z Z (Xe (v := vb false) Z Z (Xb (Xq (Xa (Xd (v := pt R 0) Z Z (Xs Z Z (Xc (o' := 4) Q4 Z Z Z (Xh (v := vi 2) X1 Z (hR.cell Z) Z (X6 (q := false) Z Z (by decide) Z (Xb ?_))))))))))))
 refine Y4 Z Z (Xz (Xu (Xq (Yy (m := 7) (vals := [(10, pt R 0), (11, pt R 0), (12, pt R 0), (13, pt R 3), (14, vi 0), (15, pt R 0), (16, pt R 0)]) (fun w' => w.grownBy w' none) Yz (by kernel_rfl) (X8 _) ?_ ?_))))
 exact yl Z (fun _ _ k => Xd (v := pt R 0) Z Z k) (yl Z (fun _ _ k => Xd (v := pt R 0) Z Z k) (yl Z (fun _ _ k => Xs Z Z k) (yl Z (fun _ _ k => Xc (o' := 3) Jp Z Z Z k) (yl Z (fun _ V k => Xh (v := vi 0) X1 Z ((hR.grown0 V).cell Z) Z k) (yl Z (fun _ _ k => Xs Z Z k) (yl Z (fun _ _ k => Xc (o' := 0) Kc Z Z Z k) Y8))))))
 intro ab J
 refine Qm (o' := 0) K6 Z Z (by decide) (by decide) Z Z ?_
 have O := (hR.grown0 J)
 refine Xh (v := vi x) X1 Z (O.cell Z) Z (Xe (v := vi x) Z Z (Xb (Xu (Xa (Xd (v := pt R 0) Z Z (Xd (v := pt R 0) Z Z (Xs Z Z (Xc (o' := 3) Jp Z Z Z (Xh (v := vi 0) X1 Z (O.cell Z) Z (Yl (c := 1) Z Z (by omega) (by omega) (by omega) Z (Q9 (c := 1) Z Z (by omega) (by omega) (by omega) Z Z (Xs Z Z ?_))))))))))))
 refine Xc (o' := 3) Jp Z Z Z (Yc (v := vi 1) (cs' := #[vi x, vi y, vi z, vi 1, vi 2]) X1 Z Z Z O (Nat.le_of_ble_eq_true Z) Z ?_)
 intro ac E
 refine Xb (Xa (Xd (v := pt R 0) Z Z (Xs Z Z (Xc (o' := 4) Q4 Z Z Z (Xh (v := vi 2) X1 Z (E.blk.cell Z) Z (Yr (c := 1) Z Z (by omega) (by omega) (by omega) Z (Xs Z Z (Xc (o' := 4) Q4 Z Z Z (Yc (v := vi 1) (cs' := #[vi x, vi y, vi z, vi 1, vi 1]) X1 Z Z Z E.blk (Nat.le_of_ble_eq_true Z) Z ?_)))))))))
 intro ad G
 exact Xb (Xa (Xd (v := vi x) Z Z (Xe (v := vi x) Z Z (Xe (v := vb true) Z Z (Xb (Xt (⟨.tuple #[vi x, vb true], Gv Z Z Z, Z, G.blk, (grown_trans (grown_trans (low0 (World.grownBy.refl w (some R)) J) E.grw) G.grw)⟩)))))))
theorem Xbw (n : Int) (x y z : Int) (R : Nat) (w : World) (hR : Blk w R 147 #[vi x, vi y, vi z, vi 0, vi 3]) : CallsR Tryz.prog 109 #[pt R 0, vi n] w (fun v w' => v = vb false ∧ Blk w' R 147 #[vi x, vi y, vi z, vi 0, vi 3] ∧ w.grownBy w' (some R)) := by
 refine Xx (n := 32) Tryz.func109 Z Tryz.ntmps109 Z (Xa (Xe (v := vb false) Z Z (Xb (Xq (Xa (Xd (v := pt R 0) Z Z (Xs Z Z (Xc (o' := 4) Q4 Z Z Z (Xh (v := vi 3) X1 Z (hR.cell Z) Z (X6 (q := true) Z Z (by decide) Z (Xb (Qa Z Z ?_))))))))))))
 exact Xa (Xe (v := vb false) Z Z (Xb (Xt (Yk (⟨vb false, Yt Z Z, Z, hR, (World.grownBy.refl w (some R))⟩)))))
theorem Xdk (x y z : Int) (R : Nat) (w : World) (hR : Blk w R 147 #[vi x, vi y, vi z, vi 0, vi 3]) : CallsR Tryz.prog 111 #[pt R 0] w (fun v w' => v = .tuple #[vi x, vb true] ∧ Blk w' R 147 #[vi x, vi y, vi z, vi 1, vi 2] ∧ w.grownBy w' (some R)) := by
 refine Xx (n := 36) Tryz.func111 Z Tryz.ntmps111 Z (Xa (Xe (v := vi 0) Z Z (Xe (v := vb false) Z Z (Xb (Xq (Xa (Xd (v := pt R 0) Z Z (Xs Z Z (Xc (o' := 4) Q4 Z Z Z (Xh (v := vi 3) X1 Z (hR.cell Z) Z (X6 (q := false) Z Z (by decide) Z (Xb ?_))))))))))))
 refine Y4 Z Z (Xz (Xu (Xq (Yy (m := 7) (vals := [(10, pt R 0), (11, pt R 0), (12, pt R 0), (13, pt R 3), (14, vi 0), (15, pt R 0), (16, pt R 0)]) (fun w' => w.grownBy w' none) Yz (by kernel_rfl) (X8 _) ?_ ?_))))
 exact yl Z (fun _ _ k => Xd (v := pt R 0) Z Z k) (yl Z (fun _ _ k => Xd (v := pt R 0) Z Z k) (yl Z (fun _ _ k => Xs Z Z k) (yl Z (fun _ _ k => Xc (o' := 3) Jp Z Z Z k) (yl Z (fun _ V k => Xh (v := vi 0) X1 Z ((hR.grown0 V).cell Z) Z k) (yl Z (fun _ _ k => Xs Z Z k) (yl Z (fun _ _ k => Xc (o' := 0) Kc Z Z Z k) Y8))))))
 intro ab J
 refine Qm (o' := 0) K6 Z Z (by decide) (by decide) Z Z ?_
 have O := (hR.grown0 J)
 refine Xh (v := vi x) X1 Z (O.cell Z) Z (Xe (v := vi x) Z Z (Xb (Xu (Xa (Xd (v := pt R 0) Z Z (Xd (v := pt R 0) Z Z (Xs Z Z (Xc (o' := 3) Jp Z Z Z (Xh (v := vi 0) X1 Z (O.cell Z) Z (Yl (c := 1) Z Z (by omega) (by omega) (by omega) Z (Q9 (c := 1) Z Z (by omega) (by omega) (by omega) Z Z (Xs Z Z ?_))))))))))))
 refine Xc (o' := 3) Jp Z Z Z (Yc (v := vi 1) (cs' := #[vi x, vi y, vi z, vi 1, vi 3]) X1 Z Z Z O (Nat.le_of_ble_eq_true Z) Z ?_)
 intro ac E
 refine Xb (Xa (Xd (v := pt R 0) Z Z (Xs Z Z (Xc (o' := 4) Q4 Z Z Z (Xh (v := vi 3) X1 Z (E.blk.cell Z) Z (Yr (c := 2) Z Z (by omega) (by omega) (by omega) Z (Xs Z Z (Xc (o' := 4) Q4 Z Z Z (Yc (v := vi 2) (cs' := #[vi x, vi y, vi z, vi 1, vi 2]) X1 Z Z Z E.blk (Nat.le_of_ble_eq_true Z) Z ?_)))))))))
 intro ad G
 exact Xb (Xa (Xd (v := vi x) Z Z (Xe (v := vi x) Z Z (Xe (v := vb true) Z Z (Xb (Xt (⟨.tuple #[vi x, vb true], Gv Z Z Z, Z, G.blk, (grown_trans (grown_trans (low0 (World.grownBy.refl w (some R)) J) E.grw) G.grw)⟩)))))))
theorem O8 (x y z : Int) (R : Nat) (w : World) (hR : Blk w R 147 #[vi x, vi y, vi z, vi 0, vi 1]) : CallsR Tryz.prog 110 #[pt R 0] w (fun v w' => ∃ (a : Option Addr) (c : Nat), v = .slice a 1 c ∧ OwnN w.heap.size w' a 3 1 c ([x] : List Int).length (([x] : List Int).flatMap icell) ∧ w.grownBy w' none) := by
 refine Xx (n := 29) Tryz.func110 Z Tryz.ntmps110 Z (Xa (Xe (v := .slice none 0 0) Z Z (Xb (Xa (Xe (v := .slice none 0 0) Z Z (Xb (Xq (Xa (Xd (v := pt R 0) Z Z (Xs Z Z (Xc (o' := 4) Q4 Z Z Z (Xh (v := vi 1) X1 Z (hR.cell Z) Z ?_))))))))))))
 refine Xd (v := vi 0) Z Z (Xb (X9 (Ql (fun mm f' w' => ∃ (i : Int) (aq : Option Addr) (cq : Nat) (ys : List Int), mm = (1 - i : Int).toNat ∧ (0 ≤ i ∧ i ≤ 1) ∧ (ys.length : Int) = i ∧ ys = ([x] : List Int).take i.toNat ∧ OwnN w.heap.size w' aq 3 1 cq ys.length (ys.flatMap icell) ∧ f' 3 = .slice aq ys.length cq ∧ f' 9 = vi i ∧ f' 0 = pt R 0 ∧ f' 2 = .slice none 0 0 ∧ f' 8 = vi 1 ∧ w.grownBy w' none ∧ Blk w' R 147 #[vi x, vi y, vi z, vi 0, vi 1]) (1 - 0 : Int).toNat ⟨0, none, 0, ([] : List Int), Z, (by omega), Z, Z, OwnN.nil, Z, Z, Z, Z, Z, (World.grownBy.refl w none), hR⟩ ?_)))
 rintro mm fq az ⟨i, aq, cq, ys, fm, hi, hyl, hys, hOw, ap, af, bm, bn, ah, ab, ag⟩
 rcases (show i = 0 ∨ i = 1 by omega) with rfl | rfl
 refine Xa (Qg (q := true) af ah (by decide) Z (Xb (Xq (Qa Z Z (Xz (Xu (Xq (X9 (Xa (Xd (v := vi 0) af Z (Xe (v := vi 0) Z Z (Xb ?_))))))))))))
 refine Qv (m := 14) [[], [], [], [2], [2, 3], [2, 3, 4], [], [2, 3, 4, 5, 6], [2, 3, 4, 5, 6, 7], [1], [1, 9], [1, 2, 3, 4, 5, 6, 7, 8, 9, 10], [1, 2, 3, 4, 5, 6, 7, 8, 9, 10, 11], [1, 2, 3, 4, 5, 6, 7, 8, 9, 10, 11, 12], [0, 1, 2, 3, 4, 5, 6, 7, 8, 9, 10, 11, 12, 13], [0, 1, 2, 3, 4, 5, 6, 7, 8, 9, 10, 11, 12, 13, 14]] (fun S F w' => ∃ (E : Nat), az.grownBy w' none ∧ F 0 = pt R 0 ∧ F 2 = .slice none 0 0 ∧ F 3 = .slice aq ys.length cq ∧ F 4 = vi 0 ∧ F 8 = vi 1 ∧ F 9 = vi 0 ∧ (S 13 = true → F 25 = .slice (pa E) 1 1 ∧ w.heap.size ≤ E ∧ Blk w' E 3 (([x] : List Int).flatMap icell).toArray ∧ R < E ∧ az.heap.size ≤ E) ∧ Vals S F [(0, 12, .slice aq ys.length cq), (1, 13, pt R 0), (2, 14, pt R 0), (3, 15, pt R 0), (4, 16, pt R 3), (5, 17, vi 0), (6, 18, vi 0), (7, 19, vi 0), (8, 20, vi 0), (9, 21, pt R 0), (10, 22, pt R 0), (11, 23, pt R 0), (12, 24, vi x)]) Yz (by kernel_rfl) ⟨0, X8 _, bm, bn, ap, Z, ah, af, Ym, J2 _⟩ ?_ ?_
 refine Xi (fun S F fr hS hbef hcl hI => ?_) ?_
 obtain ⟨E, a9, bp, bq, ar, br, bt, bu, G, hvs⟩ := hI
 exact Xd (v := .slice aq ys.length cq) ar Z (Xb ⟨E, a9, bp, bq, ar, br, bt, bu, G, Vals.up 0 hvs Z Z Z⟩)
 refine Xi (fun S F ft hS hbef hcl hI => ?_) ?_
 obtain ⟨E, ba, au, bv, bw, bx, bz, ca, G, hvs⟩ := hI
 exact Xd (v := pt R 0) au Z (Xb ⟨E, ba, au, bv, bw, bx, bz, ca, Xv 13 hS hcl Z, Vals.up 1 hvs Z Z Z⟩)
 refine Xi (fun S F fu hS hbef hcl hI => ?_) ?_
 obtain ⟨E, bb, av, cc, cd, ce, cf, cg, G, hvs⟩ := hI
 exact Xd (v := pt R 0) av Z (Xb ⟨E, bb, av, cc, cd, ce, cf, cg, Xv 13 hS hcl Z, Vals.up 2 hvs Z Z Z⟩)
 refine Xi (fun S F fv hS hbef hcl hI => ?_) ?_
 obtain ⟨E, bc, cj, ck, cl, cm, cn, co, G, hvs⟩ := hI
 exact Xs (Vals.at 2 hvs Z (Xl 2 hbef Z)) Z (Xb ⟨E, bc, cj, ck, cl, cm, cn, co, Xv 13 hS hcl Z, Vals.up 3 hvs Z Z Z⟩)
 refine Xi (fun S F fw hS hbef hcl hI => ?_) ?_
 obtain ⟨E, bd, ct, cv, cw, cy, cz, c8, G, hvs⟩ := hI
 exact Xc (o' := 3) Jp (Vals.at 3 hvs Z (Xl 3 hbef Z)) Z Z (Xb ⟨E, bd, ct, cv, cw, cy, cz, c8, Xv 13 hS hcl Z, Vals.up 4 hvs Z Z Z⟩)
 refine Xi (fun S F fx hS hbef hcl hI => ?_) ?_
 obtain ⟨E, ak, c9, da, db, dc, de, df, G, hvs⟩ := hI
 exact Xh (v := vi 0) X1 (Vals.at 4 hvs Z (Xl 4 hbef Z)) ((ag.grown0 ak).cell Z) Z (Xb ⟨E, ak, c9, da, db, dc, de, df, Xv 13 hS hcl Z, Vals.up 5 hvs Z Z Z⟩)
 refine Xi (fun S F fy hS hbef hcl hI => ?_) ?_
 obtain ⟨E, be, dg, dh, di, aw, dk, dl, G, hvs⟩ := hI
 exact Xd (v := vi 0) aw Z (Xb ⟨E, be, dg, dh, di, aw, dk, dl, Xv 13 hS hcl Z, Vals.up 6 hvs Z Z Z⟩)
 refine Xi (fun S F fz hS hbef hcl hI => ?_) ?_
 obtain ⟨E, bf, dm, dn, dp, dq, dr, dt, G, hvs⟩ := hI
 exact Yl (c := 0) (Vals.at 5 hvs Z (Xl 5 hbef Z)) (Vals.at 6 hvs Z (Xl 6 hbef Z)) (by omega) (by omega) (by omega) Z (Xb ⟨E, bf, dm, dn, dp, dq, dr, dt, Xv 13 hS hcl Z, Vals.up 7 hvs Z Z Z⟩)
 refine Xi (fun S F f8 hS hbef hcl hI => ?_) ?_
 obtain ⟨E, bg, du, dv, dw, dx, dy, dz, G, hvs⟩ := hI
 exact Q9 (c := 0) (Vals.at 7 hvs Z (Xl 7 hbef Z)) Z (by omega) (by omega) (by omega) Z Z (Xb ⟨E, bg, du, dv, dw, dx, dy, dz, Xv 13 hS hcl Z, Vals.up 8 hvs Z Z Z⟩)
 refine Xi (fun S F f9 hS hbef hcl hI => ?_) ?_
 obtain ⟨E, bh, d0, d1, d2, d3, d4, d5, G, hvs⟩ := hI
 exact Xs (Vals.at 1 hvs Z (Xl 1 hbef Z)) Z (Xb ⟨E, bh, d0, d1, d2, d3, d4, d5, Xv 13 hS hcl Z, Vals.up 9 hvs Z Z Z⟩)
 refine Xi (fun S F ga hS hbef hcl hI => ?_) ?_
 obtain ⟨E, bi, d6, d7, d8, d9, ea, eb, G, hvs⟩ := hI
 exact Xc (o' := 0) Kc (Vals.at 9 hvs Z (Xl 9 hbef Z)) Z Z (Xb ⟨E, bi, d6, d7, d8, d9, ea, eb, Xv 13 hS hcl Z, Vals.up 10 hvs Z Z Z⟩)
 refine Xi (fun S F gb hS hbef hcl hI => ?_) ?_
 obtain ⟨E, bj, ed, ee, ef, eg, eh, ei, G, hvs⟩ := hI
 exact Qm (o' := 0) K6 (Vals.at 10 hvs Z (Xl 10 hbef Z)) (Vals.at 8 hvs Z (Xl 8 hbef Z)) (by decide) (by decide) Z Z (Xb ⟨E, bj, ed, ee, ef, eg, eh, ei, Xv 13 hS hcl Z, Vals.up 11 hvs Z Z Z⟩)
 refine Xi (fun S F gc hS hbef hcl hI => ?_) ?_
 obtain ⟨E, al, ej, ek, em, eo, ep, eu, G, hvs⟩ := hI
 exact Xh (v := vi x) X1 (Vals.at 11 hvs Z (Xl 11 hbef Z)) ((ag.grown0 al).cell Z) Z (Xb ⟨E, al, ej, ek, em, eo, ep, eu, Xv 13 hS hcl Z, Vals.up 12 hvs Z Z Z⟩)
 refine Xi (fun S F gf hS hbef hcl hI => ?_) ?_
 obtain ⟨E, O, ew, ez, e0, fa, fb, fc, G, hvs⟩ := hI
 refine X7 (ps := [(0, vi x)]) (e := 3) (cs := (([x] : List Int).flatMap icell).toArray) (Xk (Vals.at 12 hvs Z (Xl 12 hbef Z)) X5) (fun _ => by kernel_rfl) Z ?_
 intro bl gg J
 have an := Yd J (low0 ab O)
 have ad := Xo J ((ag.grown0 O)).lt
 exact Xb ⟨bl, (low0 O J.grw), ew, ez, e0, fa, fb, fc, fun _ => ⟨Z, an, J.blk, ad, (nt O.size (Nat.le_of_eq J.eq.symm))⟩, Vals.keep hvs Z⟩
 exact Jb
 intro S F gh hall hI
 obtain ⟨E, ac, fd, fe, fo, fp, ff, fg, G, hvs⟩ := hI
 have ai := low0 ab ac
 obtain ⟨fh, fj, am, bk, fi⟩ := G (hall 13 (by decide))
 have V := (hOw.grown0 ac)
 refine Jg (g := icell) (ys := ys) (zs := ([x] : List Int)) (lo := w.heap.size) Vs Z Yq (by omega) Jz (Vals.at 0 hvs Z (hall 0 (by decide))) fh V (Jo Yq am) (fun h => by cases h) (by first | omega | exact Nat.le_of_ble_eq_true rfl | (simp only [List.length_nil, List.length_cons, List.length_append, List.length_replicate]; omega)) (by omega) (by first | exact ai.size | omega) Z ?_
 intro ao ae gi a8 aj fk
 exact Xe (v := .slice ao (ys ++ ([x] : List Int)).length ae) Z Z (Xb (Y3 (Xu (X2 (Yl (c := 1) fg Z (by omega) (by omega) (by omega) Z (Xd (v := vi 1) Z Z (Xb (Xu (⟨(1 - 1 : Int).toNat, by omega, 1, ao, ae, (ys ++ ([x] : List Int)), Z, (by omega), (by first | omega | (simp only [List.length_append, List.length_cons, List.length_nil]; omega)), (by rw [hys]; rfl), a8, Z, Z, fd, fe, ff, (N8 ai V aj (by omega)), (Blk.typN (ag.grown0 ac) V aj (by decide))⟩)))))))))
 refine Xa (Qg (q := false) af ah (by decide) Z (Xb (Xq (Y4 Z Z (Qf (Y9 (Y9 (Jh (Xu (Xa (Xd (v := .slice aq ys.length cq) ap Z (Xe (v := .slice aq ys.length cq) Z Z ?_))))))))))))
 refine Xb (Xt ?_)
 have hyz : ys = ([x] : List Int) := hys
 subst hyz
 exact ⟨.slice aq ([x] : List Int).length cq, Yt Z Z, aq, cq, Z, hOw, ab⟩
theorem O9 (x y z : Int) (R : Nat) (w : World) (hR : Blk w R 147 #[vi x, vi y, vi z, vi 0, vi 2]) : CallsR Tryz.prog 110 #[pt R 0] w (fun v w' => ∃ (a : Option Addr) (c : Nat), v = .slice a 2 c ∧ OwnN w.heap.size w' a 3 1 c ([x, y] : List Int).length (([x, y] : List Int).flatMap icell) ∧ w.grownBy w' none) := by
 refine Xx (n := 29) Tryz.func110 Z Tryz.ntmps110 Z (Xa (Xe (v := .slice none 0 0) Z Z (Xb (Xa (Xe (v := .slice none 0 0) Z Z (Xb (Xq (Xa (Xd (v := pt R 0) Z Z (Xs Z Z (Xc (o' := 4) Q4 Z Z Z (Xh (v := vi 2) X1 Z (hR.cell Z) Z ?_))))))))))))
 refine Xd (v := vi 0) Z Z (Xb (X9 (Ql (fun mm f' w' => ∃ (i : Int) (aq : Option Addr) (cq : Nat) (ys : List Int), mm = (2 - i : Int).toNat ∧ (0 ≤ i ∧ i ≤ 2) ∧ (ys.length : Int) = i ∧ ys = ([x, y] : List Int).take i.toNat ∧ OwnN w.heap.size w' aq 3 1 cq ys.length (ys.flatMap icell) ∧ f' 3 = .slice aq ys.length cq ∧ f' 9 = vi i ∧ f' 0 = pt R 0 ∧ f' 2 = .slice none 0 0 ∧ f' 8 = vi 2 ∧ w.grownBy w' none ∧ Blk w' R 147 #[vi x, vi y, vi z, vi 0, vi 2]) (2 - 0 : Int).toNat ⟨0, none, 0, ([] : List Int), Z, (by omega), Z, Z, OwnN.nil, Z, Z, Z, Z, Z, (World.grownBy.refl w none), hR⟩ ?_)))
 rintro mm ku ap ⟨i, aq, cq, ys, kp, hi, hyl, hys, hOw, ar, V, bi, bj, ag, ad, O⟩
 rcases (show i = 0 ∨ i = 1 ∨ i = 2 by omega) with rfl | rfl | rfl
 refine Xa (Qg (q := true) V ag (by decide) Z (Xb (Xq (Qa Z Z (Xz (Xu (Xq (X9 (Xa (Xd (v := vi 0) V Z (Xe (v := vi 0) Z Z (Xb ?_))))))))))))
 refine Qv (m := 14) [[], [], [], [2], [2, 3], [2, 3, 4], [], [2, 3, 4, 5, 6], [2, 3, 4, 5, 6, 7], [1], [1, 9], [1, 2, 3, 4, 5, 6, 7, 8, 9, 10], [1, 2, 3, 4, 5, 6, 7, 8, 9, 10, 11], [1, 2, 3, 4, 5, 6, 7, 8, 9, 10, 11, 12], [0, 1, 2, 3, 4, 5, 6, 7, 8, 9, 10, 11, 12, 13], [0, 1, 2, 3, 4, 5, 6, 7, 8, 9, 10, 11, 12, 13, 14]] (fun S F w' => ∃ (E : Nat), ap.grownBy w' none ∧ F 0 = pt R 0 ∧ F 2 = .slice none 0 0 ∧ F 3 = .slice aq ys.length cq ∧ F 4 = vi 0 ∧ F 8 = vi 2 ∧ F 9 = vi 0 ∧ (S 13 = true → F 25 = .slice (pa E) 1 1 ∧ w.heap.size ≤ E ∧ Blk w' E 3 (([x] : List Int).flatMap icell).toArray ∧ R < E ∧ ap.heap.size ≤ E) ∧ Vals S F [(0, 12, .slice aq ys.length cq), (1, 13, pt R 0), (2, 14, pt R 0), (3, 15, pt R 0), (4, 16, pt R 3), (5, 17, vi 0), (6, 18, vi 0), (7, 19, vi 0), (8, 20, vi 0), (9, 21, pt R 0), (10, 22, pt R 0), (11, 23, pt R 0), (12, 24, vi x)]) Yz (by kernel_rfl) ⟨0, X8 _, bi, bj, ar, Z, ag, V, Ym, J2 _⟩ ?_ ?_
 refine Xi (fun S F kv hS hbef hcl hI => ?_) ?_
 obtain ⟨E, bw, df, dg, bk, dh, di, dk, J, hvs⟩ := hI
 exact Xd (v := .slice aq ys.length cq) bk Z (Xb ⟨E, bw, df, dg, bk, dh, di, dk, J, Vals.up 0 hvs Z Z Z⟩)
 refine Xi (fun S F kw hS hbef hcl hI => ?_) ?_
 obtain ⟨E, bx, bl, dl, dm, dn, dp, dq, J, hvs⟩ := hI
 exact Xd (v := pt R 0) bl Z (Xb ⟨E, bx, bl, dl, dm, dn, dp, dq, Xv 13 hS hcl Z, Vals.up 1 hvs Z Z Z⟩)
 refine Xi (fun S F kx hS hbef hcl hI => ?_) ?_
 obtain ⟨E, bz, bm, dr, dt, du, dv, dw, J, hvs⟩ := hI
 exact Xd (v := pt R 0) bm Z (Xb ⟨E, bz, bm, dr, dt, du, dv, dw, Xv 13 hS hcl Z, Vals.up 2 hvs Z Z Z⟩)
 refine Xi (fun S F ky hS hbef hcl hI => ?_) ?_
 obtain ⟨E, ca, dx, dy, dz, d0, d1, d2, J, hvs⟩ := hI
 exact Xs (Vals.at 2 hvs Z (Xl 2 hbef Z)) Z (Xb ⟨E, ca, dx, dy, dz, d0, d1, d2, Xv 13 hS hcl Z, Vals.up 3 hvs Z Z Z⟩)
 refine Xi (fun S F kz hS hbef hcl hI => ?_) ?_
 obtain ⟨E, cc, d3, d4, d5, d6, d7, d8, J, hvs⟩ := hI
 exact Xc (o' := 3) Jp (Vals.at 3 hvs Z (Xl 3 hbef Z)) Z Z (Xb ⟨E, cc, d3, d4, d5, d6, d7, d8, Xv 13 hS hcl Z, Vals.up 4 hvs Z Z Z⟩)
 refine Xi (fun S F k0 hS hbef hcl hI => ?_) ?_
 obtain ⟨E, a8, d9, ea, eb, ed, ee, ef, J, hvs⟩ := hI
 exact Xh (v := vi 0) X1 (Vals.at 4 hvs Z (Xl 4 hbef Z)) ((O.grown0 a8).cell Z) Z (Xb ⟨E, a8, d9, ea, eb, ed, ee, ef, Xv 13 hS hcl Z, Vals.up 5 hvs Z Z Z⟩)
 refine Xi (fun S F k4 hS hbef hcl hI => ?_) ?_
 obtain ⟨E, cd, eg, eh, ei, bn, ej, ek, J, hvs⟩ := hI
 exact Xd (v := vi 0) bn Z (Xb ⟨E, cd, eg, eh, ei, bn, ej, ek, Xv 13 hS hcl Z, Vals.up 6 hvs Z Z Z⟩)
 refine Xi (fun S F k5 hS hbef hcl hI => ?_) ?_
 obtain ⟨E, ce, em, eo, ep, eu, ew, ez, J, hvs⟩ := hI
 exact Yl (c := 0) (Vals.at 5 hvs Z (Xl 5 hbef Z)) (Vals.at 6 hvs Z (Xl 6 hbef Z)) (by omega) (by omega) (by omega) Z (Xb ⟨E, ce, em, eo, ep, eu, ew, ez, Xv 13 hS hcl Z, Vals.up 7 hvs Z Z Z⟩)
 refine Xi (fun S F k6 hS hbef hcl hI => ?_) ?_
 obtain ⟨E, cf, e0, fa, fb, fc, fd, fe, J, hvs⟩ := hI
 exact Q9 (c := 0) (Vals.at 7 hvs Z (Xl 7 hbef Z)) Z (by omega) (by omega) (by omega) Z Z (Xb ⟨E, cf, e0, fa, fb, fc, fd, fe, Xv 13 hS hcl Z, Vals.up 8 hvs Z Z Z⟩)
 refine Xi (fun S F k7 hS hbef hcl hI => ?_) ?_
 obtain ⟨E, cg, ff, fg, fh, fi, fj, fk, J, hvs⟩ := hI
 exact Xs (Vals.at 1 hvs Z (Xl 1 hbef Z)) Z (Xb ⟨E, cg, ff, fg, fh, fi, fj, fk, Xv 13 hS hcl Z, Vals.up 9 hvs Z Z Z⟩)
 refine Xi (fun S F k8 hS hbef hcl hI => ?_) ?_
 obtain ⟨E, cj, fm, fo, fp, fq, fr, ft, J, hvs⟩ := hI
 exact Xc (o' := 0) Kc (Vals.at 9 hvs Z (Xl 9 hbef Z)) Z Z (Xb ⟨E, cj, fm, fo, fp, fq, fr, ft, Xv 13 hS hcl Z, Vals.up 10 hvs Z Z Z⟩)
 refine Xi (fun S F k9 hS hbef hcl hI => ?_) ?_
 obtain ⟨E, ck, fu, fv, fw, fx, fy, fz, J, hvs⟩ := hI
 exact Qm (o' := 0) K6 (Vals.at 10 hvs Z (Xl 10 hbef Z)) (Vals.at 8 hvs Z (Xl 8 hbef Z)) (by decide) (by decide) Z Z (Xb ⟨E, ck, fu, fv, fw, fx, fy, fz, Xv 13 hS hcl Z, Vals.up 11 hvs Z Z Z⟩)
 refine Xi (fun S F la hS hbef hcl hI => ?_) ?_
 obtain ⟨E, a9, f8, f9, ga, gb, gc, gf, J, hvs⟩ := hI
 exact Xh (v := vi x) X1 (Vals.at 11 hvs Z (Xl 11 hbef Z)) ((O.grown0 a9).cell Z) Z (Xb ⟨E, a9, f8, f9, ga, gb, gc, gf, Xv 13 hS hcl Z, Vals.up 12 hvs Z Z Z⟩)
 refine Xi (fun S F lc hS hbef hcl hI => ?_) ?_
 obtain ⟨E, ae, gg, gh, gi, gj, gk, gl, J, hvs⟩ := hI
 refine X7 (ps := [(0, vi x)]) (e := 3) (cs := (([x] : List Int).flatMap icell).toArray) (Xk (Vals.at 12 hvs Z (Xl 12 hbef Z)) X5) (fun _ => by kernel_rfl) Z ?_
 intro dc ld ab
 have be := Yd ab (low0 ad ae)
 have al := Xo ab ((O.grown0 ae)).lt
 exact Xb ⟨dc, (low0 ae ab.grw), gg, gh, gi, gj, gk, gl, fun _ => ⟨Z, be, ab.blk, al, (nt ae.size (Nat.le_of_eq ab.eq.symm))⟩, Vals.keep hvs Z⟩
 exact Jb
 intro S F le hall hI
 obtain ⟨E, aj, gm, gp, kq, kr, gq, gr, J, hvs⟩ := hI
 have au := low0 ad aj
 obtain ⟨gt, kl, bc, da, kj⟩ := J (hall 13 (by decide))
 have ah := (hOw.grown0 aj)
 refine Jg (g := icell) (ys := ys) (zs := ([x] : List Int)) (lo := w.heap.size) Vs Z Yq (by omega) Jz (Vals.at 0 hvs Z (hall 0 (by decide))) gt ah (Jo Yq bc) (fun h => by cases h) (by first | omega | exact Nat.le_of_ble_eq_true rfl | (simp only [List.length_nil, List.length_cons, List.length_append, List.length_replicate]; omega)) (by omega) (by first | exact au.size | omega) Z ?_
 intro bg an lf bu aw kn
 exact Xe (v := .slice bg (ys ++ ([x] : List Int)).length an) Z Z (Xb (Y3 (Xu (X2 (Yl (c := 1) gr Z (by omega) (by omega) (by omega) Z (Xd (v := vi 1) Z Z (Xb (Xu (⟨(2 - 1 : Int).toNat, by omega, 1, bg, an, (ys ++ ([x] : List Int)), Z, (by omega), (by first | omega | (simp only [List.length_append, List.length_cons, List.length_nil]; omega)), (by rw [hys]; rfl), bu, Z, Z, gm, gp, gq, (N8 au ah aw (by omega)), (Blk.typN (O.grown0 aj) ah aw (by decide))⟩)))))))))
 refine Xa (Qg (q := true) V ag (by decide) Z (Xb (Xq (Qa Z Z (Xz (Xu (Xq (X9 (Xa (Xd (v := vi 1) V Z (Xe (v := vi 1) Z Z (Xb ?_))))))))))))
 refine Qv (m := 14) [[], [], [], [2], [2, 3], [2, 3, 4], [], [2, 3, 4, 5, 6], [2, 3, 4, 5, 6, 7], [1], [1, 9], [1, 2, 3, 4, 5, 6, 7, 8, 9, 10], [1, 2, 3, 4, 5, 6, 7, 8, 9, 10, 11], [1, 2, 3, 4, 5, 6, 7, 8, 9, 10, 11, 12], [0, 1, 2, 3, 4, 5, 6, 7, 8, 9, 10, 11, 12, 13], [0, 1, 2, 3, 4, 5, 6, 7, 8, 9, 10, 11, 12, 13, 14]] (fun S F w' => ∃ (G : Nat), ap.grownBy w' none ∧ F 0 = pt R 0 ∧ F 2 = .slice none 0 0 ∧ F 3 = .slice aq ys.length cq ∧ F 4 = vi 1 ∧ F 8 = vi 2 ∧ F 9 = vi 1 ∧ (S 13 = true → F 25 = .slice (pa G) 1 1 ∧ w.heap.size ≤ G ∧ Blk w' G 3 (([y] : List Int).flatMap icell).toArray ∧ R < G ∧ ap.heap.size ≤ G) ∧ Vals S F [(0, 12, .slice aq ys.length cq), (1, 13, pt R 0), (2, 14, pt R 0), (3, 15, pt R 0), (4, 16, pt R 3), (5, 17, vi 0), (6, 18, vi 1), (7, 19, vi 1), (8, 20, vi 1), (9, 21, pt R 0), (10, 22, pt R 0), (11, 23, pt R 1), (12, 24, vi y)]) Yz (by kernel_rfl) ⟨0, X8 _, bi, bj, ar, Z, ag, V, Ym, J2 _⟩ ?_ ?_
 refine Xi (fun S F lg hS hbef hcl hI => ?_) ?_
 obtain ⟨G, cl, gu, gv, bp, gw, gx, gy, J, hvs⟩ := hI
 exact Xd (v := .slice aq ys.length cq) bp Z (Xb ⟨G, cl, gu, gv, bp, gw, gx, gy, J, Vals.up 0 hvs Z Z Z⟩)
 refine Xi (fun S F lh hS hbef hcl hI => ?_) ?_
 obtain ⟨G, cm, bq, gz, g0, g5, g6, g7, J, hvs⟩ := hI
 exact Xd (v := pt R 0) bq Z (Xb ⟨G, cm, bq, gz, g0, g5, g6, g7, Xv 13 hS hcl Z, Vals.up 1 hvs Z Z Z⟩)
 refine Xi (fun S F li hS hbef hcl hI => ?_) ?_
 obtain ⟨G, cn, br, g8, g9, ia, ib, ic, J, hvs⟩ := hI
 exact Xd (v := pt R 0) br Z (Xb ⟨G, cn, br, g8, g9, ia, ib, ic, Xv 13 hS hcl Z, Vals.up 2 hvs Z Z Z⟩)
 refine Xi (fun S F lj hS hbef hcl hI => ?_) ?_
 obtain ⟨G, co, ie, ig, ii, ij, ik, il, J, hvs⟩ := hI
 exact Xs (Vals.at 2 hvs Z (Xl 2 hbef Z)) Z (Xb ⟨G, co, ie, ig, ii, ij, ik, il, Xv 13 hS hcl Z, Vals.up 3 hvs Z Z Z⟩)
 refine Xi (fun S F lk hS hbef hcl hI => ?_) ?_
 obtain ⟨G, ct, im, io, ip, iq, ir, it, J, hvs⟩ := hI
 exact Xc (o' := 3) Jp (Vals.at 3 hvs Z (Xl 3 hbef Z)) Z Z (Xb ⟨G, ct, im, io, ip, iq, ir, it, Xv 13 hS hcl Z, Vals.up 4 hvs Z Z Z⟩)
 refine Xi (fun S F ll hS hbef hcl hI => ?_) ?_
 obtain ⟨G, ba, iu, iv, iw, ix, iy, iz, J, hvs⟩ := hI
 exact Xh (v := vi 0) X1 (Vals.at 4 hvs Z (Xl 4 hbef Z)) ((O.grown0 ba).cell Z) Z (Xb ⟨G, ba, iu, iv, iw, ix, iy, iz, Xv 13 hS hcl Z, Vals.up 5 hvs Z Z Z⟩)
 refine Xi (fun S F lm hS hbef hcl hI => ?_) ?_
 obtain ⟨G, cv, i0, i1, i2, bt, i3, i4, J, hvs⟩ := hI
 exact Xd (v := vi 1) bt Z (Xb ⟨G, cv, i0, i1, i2, bt, i3, i4, Xv 13 hS hcl Z, Vals.up 6 hvs Z Z Z⟩)
 refine Xi (fun S F ln hS hbef hcl hI => ?_) ?_
 obtain ⟨G, cw, i5, i6, i7, i8, i9, ja, J, hvs⟩ := hI
 exact Yl (c := 1) (Vals.at 5 hvs Z (Xl 5 hbef Z)) (Vals.at 6 hvs Z (Xl 6 hbef Z)) (by omega) (by omega) (by omega) Z (Xb ⟨G, cw, i5, i6, i7, i8, i9, ja, Xv 13 hS hcl Z, Vals.up 7 hvs Z Z Z⟩)
 refine Xi (fun S F lp hS hbef hcl hI => ?_) ?_
 obtain ⟨G, cy, jb, jc, jd, je, jf, jg, J, hvs⟩ := hI
 exact Q9 (c := 1) (Vals.at 7 hvs Z (Xl 7 hbef Z)) Z (by omega) (by omega) (by omega) Z Z (Xb ⟨G, cy, jb, jc, jd, je, jf, jg, Xv 13 hS hcl Z, Vals.up 8 hvs Z Z Z⟩)
 refine Xi (fun S F lu hS hbef hcl hI => ?_) ?_
 obtain ⟨G, cz, jh, ji, jj, jk, jl, jm, J, hvs⟩ := hI
 exact Xs (Vals.at 1 hvs Z (Xl 1 hbef Z)) Z (Xb ⟨G, cz, jh, ji, jj, jk, jl, jm, Xv 13 hS hcl Z, Vals.up 9 hvs Z Z Z⟩)
 refine Xi (fun S F lv hS hbef hcl hI => ?_) ?_
 obtain ⟨G, c8, jo, jp, jq, jr, js, jt, J, hvs⟩ := hI
 exact Xc (o' := 0) Kc (Vals.at 9 hvs Z (Xl 9 hbef Z)) Z Z (Xb ⟨G, c8, jo, jp, jq, jr, js, jt, Xv 13 hS hcl Z, Vals.up 10 hvs Z Z Z⟩)
 refine Xi (fun S F lw hS hbef hcl hI => ?_) ?_
 obtain ⟨G, c9, ju, jv, jw, jx, jy, jz, J, hvs⟩ := hI
 exact Qm (o' := 1) K6 (Vals.at 10 hvs Z (Xl 10 hbef Z)) (Vals.at 8 hvs Z (Xl 8 hbef Z)) (by decide) (by decide) Z Z (Xb ⟨G, c9, ju, jv, jw, jx, jy, jz, Xv 13 hS hcl Z, Vals.up 11 hvs Z Z Z⟩)
 refine Xi (fun S F ly hS hbef hcl hI => ?_) ?_
 obtain ⟨G, bb, j1, j2, j3, j4, j5, j6, J, hvs⟩ := hI
 exact Xh (v := vi y) X1 (Vals.at 11 hvs Z (Xl 11 hbef Z)) ((O.grown0 bb).cell Z) Z (Xb ⟨G, bb, j1, j2, j3, j4, j5, j6, Xv 13 hS hcl Z, Vals.up 12 hvs Z Z Z⟩)
 refine Xi (fun S F lz hS hbef hcl hI => ?_) ?_
 obtain ⟨G, af, j7, j8, j9, ka, kb, kc, J, hvs⟩ := hI
 refine X7 (ps := [(0, vi y)]) (e := 3) (cs := (([y] : List Int).flatMap icell).toArray) (Xk (Vals.at 12 hvs Z (Xl 12 hbef Z)) X5) (fun _ => by kernel_rfl) Z ?_
 intro de l0 ac
 have bf := Yd ac (low0 ad af)
 have am := Xo ac ((O.grown0 af)).lt
 exact Xb ⟨de, (low0 af ac.grw), j7, j8, j9, ka, kb, kc, fun _ => ⟨Z, bf, ac.blk, am, (nt af.size (Nat.le_of_eq ac.eq.symm))⟩, Vals.keep hvs Z⟩
 exact Jb
 intro S F l3 hall hI
 obtain ⟨G, ak, ke, kf, ks, kt, kg, kh, J, hvs⟩ := hI
 have av := low0 ad ak
 obtain ⟨ki, km, bd, db, kk⟩ := J (hall 13 (by decide))
 have ai := (hOw.grown0 ak)
 refine Jg (g := icell) (ys := ys) (zs := ([y] : List Int)) (lo := w.heap.size) Vs Z Yq (by omega) Jz (Vals.at 0 hvs Z (hall 0 (by decide))) ki ai (Jo Yq bd) (fun h => by cases h) (by first | omega | exact Nat.le_of_ble_eq_true rfl | (simp only [List.length_nil, List.length_cons, List.length_append, List.length_replicate]; omega)) (by omega) (by first | exact av.size | omega) Z ?_
 intro bh ao l4 bv az ko
 exact Xe (v := .slice bh (ys ++ ([y] : List Int)).length ao) Z Z (Xb (Y3 (Xu (X2 (Yl (c := 2) kh Z (by omega) (by omega) (by omega) Z (Xd (v := vi 2) Z Z (Xb (Xu (⟨(2 - 2 : Int).toNat, by omega, 2, bh, ao, (ys ++ ([y] : List Int)), Z, (by omega), (by first | omega | (simp only [List.length_append, List.length_cons, List.length_nil]; omega)), (by rw [hys]; rfl), bv, Z, Z, ke, kf, kg, (N8 av ai az (by omega)), (Blk.typN (O.grown0 ak) ai az (by decide))⟩)))))))))
 refine Xa (Qg (q := false) V ag (by decide) Z (Xb (Xq (Y4 Z Z (Qf (Y9 (Y9 (Jh (Xu (Xa (Xd (v := .slice aq ys.length cq) ar Z (Xe (v := .slice aq ys.length cq) Z Z ?_))))))))))))
 refine Xb (Xt ?_)
 have hyz : ys = ([x, y] : List Int) := hys
 subst hyz
 exact ⟨.slice aq ([x, y] : List Int).length cq, Yt Z Z, aq, cq, Z, hOw, ad⟩
end Go.Proofs.YtlhhijnmacogcaaGreatDoor
end
