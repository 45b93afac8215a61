/- Laws and walks: my templates, and what a program of mine (gen.py) printed out of the functions; only what the row reaches. -/
import Derived.Test.YtlhhijnmacogcaaGreatDoorT33
section
namespace Go.Proofs.YtlhhijnmacogcaaGreatDoor
open Go.RowKit Go.Dw
set_option maxRecDepth 100000
set_option maxHeartbeats 4000000
set_option linter.unusedSimpArgs false
set_option linter.unusedVariables false
theorem Fe (q : Cl) (lo B cap : Nat) (ms : List MTh) (w : World) (hB : Dw.Own w B 39 8 cap ms.length (ms.flatMap MTh.cells)) (hR : RowsO 33 3 lo w ms) (hlo : lo ≤ B) (hp : callPoss (tabT ms) q = true) : CallsR Tryz.prog 33 #[.slice (pa B) ms.length cap, .agg #[vi q.kind, vi q.run, vi q.a, vi q.b, vi q.n]] w (fun v w' => ∃ ms' : List MTh, v = .tuple #[.slice (pa B) ms.length cap, vi (doCall (tabT ms) q).2] ∧ ms'.length = ms.length ∧ Dw.Own w' B 39 8 cap ms'.length (ms'.flatMap MTh.cells) ∧ RowsO 33 3 lo w' ms' ∧ tabT ms' = (doCall (tabT ms) q).1 ∧ KeepsI lo w.heap.size [39, 33, 3] w w') := by
 refine Xw (n := 79) Tryz.func33 Z Tryz.ntmps33 Z ?_
 have g0 : KeepsI lo w.heap.size [39, 33, 3] w w := KeepsI.refl w
 have hBlt := hB.lt
 have hH := RowsO.hi hR
 have hlow : lo ≤ w.heap.size := by omega
 obtain ⟨hT, hc, hk⟩ := Yd hp
 have hco := Yw hc
 have hkp := (Y5 hk).1
 have h4 := Qt hT hk
 have hml := Jk hT
 have hTL := TabLen.ok hT
 have hck := Kl (tabT ms) q
 have hts := Vg hT (i := (q.run - 1).toNat) (j := q.a.toNat) (by omega) (by omega)
 refine Xa (Qd (v := .agg #[vi q.kind, vi q.run, vi q.a, vi q.b, vi q.n]) (cs := #[vi q.kind, vi q.run, vi q.a, vi q.b, vi q.n]) Z Z Z ?_)
 intro aj it V
 have ii := V1 V g0
 have eb := Xr V (hB).lt
 refine Xf (v := .slice none 0 0) Z Z (Xf (v := vi 0) Z Z (Xc (Xa (Xb (v := .slice (pa B) ms.length cap) Z Z (Xq (vs := [vi q.kind, vi q.run, vi q.a, vi q.b, vi q.n]) Y1 Z Z (V.blk.rangeL 0 5 Z) Z ?_)))))
 have bl := (RowsO.low hR V.grw)
 have dh := (hB.grown0 V.grw)
 refine Xm Ip (Xg Z (Xg Z Xl)) Z (L0 q _ ms _ _ (RowsO.tab bl dh) hTL (by omega) hT hc hk) ?_
 rintro _ dl ⟨rfl, ae⟩
 have bn := KeepsI.low (KeepsI.low g0 V.grw) ae
 refine Xf (v := vi (check1 (tabT ms) q)) Z Z (Xc (Xs ?_))
 have ao := (RowsO.low bl ae)
 obtain ⟨dc, aq, c9, ap⟩ := RowsO.slot ao (lq (q.run - 1).toNat ms.length) (by omega)
 have ie := hH _ (List.mem_of_getElem? (xg ms (q.run - 1).toNat)) _ (Or.inl aq)
 have aw := (dh.grown0 ae)
 have ig := V3 aw ap (by decide)
 refine Q2 (m := 12) [[], [], [1], [1, 2], [0, 1, 2, 3], [0, 1, 2, 3, 4], [0, 1, 2, 3, 4, 5], [], [7], [0, 1, 2, 3, 4, 5, 6, 7, 8], [0, 1, 2, 3, 4, 5, 6, 7, 8, 9], [], [0, 1, 2, 3, 4, 5, 6, 7, 8, 9, 10, 11]] (fun S F w' => ∃ (G : Nat), dl.grownBy w' none ∧ F 0 = .slice (pa B) ms.length cap ∧ F 3 = pt aj 0 ∧ F 4 = .slice none 0 0 ∧ F 5 = vi 0 ∧ F 6 = vi (check1 (tabT ms) q) ∧ (S 11 = true → F 7 = pt G 0 ∧ w.heap.size ≤ G ∧ Blk w' G 33 #[vi 0, vi 0, vb false, vb false, vb false] ∧ B < G ∧ aj < G ∧ dc < G ∧ dl.heap.size ≤ G) ∧ Vals S F [(0, 11, .slice (pa B) ms.length cap), (1, 12, pt aj 1), (2, 13, vi q.run), (3, 14, vi (q.run - 1)), (4, 15, pt B ((q.run - 1).toNat * 8)), (5, 16, pt B ((q.run - 1).toNat * 8 + 5)), (6, 17, .slice (mAt ms (q.run - 1).toNat).sa (mAt ms (q.run - 1).toNat).t.slots.length (mAt ms (q.run - 1).toNat).sc), (7, 18, pt aj 2), (8, 19, vi q.a), (9, 20, pt dc ((q.a).toNat * 5)), (10, 21, .agg #[vi (rAt (mAt ms (q.run - 1).toNat).t.slots (q.a).toNat).th, vi (rAt (mAt ms (q.run - 1).toNat).t.slots (q.a).toNat).ve, vb (rAt (mAt ms (q.run - 1).toNat).t.slots (q.a).toNat).rd, vb (rAt (mAt ms (q.run - 1).toNat).t.slots (q.a).toNat).wr, vb (rAt (mAt ms (q.run - 1).toNat).t.slots (q.a).toNat).wk])]) Y0 (by kernel_rfl) ⟨0, X7 _, Z, Z, Z, Z, Z, Yy, Ka _⟩ ?_ ?_
 refine Xk (fun S F iu hS hbef hcl hI => ?_) ?_
 obtain ⟨G, dw, de, ef, eg, eh, ei, J, hvs⟩ := hI
 exact Xb (v := .slice (pa B) ms.length cap) de Z (Xc ⟨G, dw, de, ef, eg, eh, ei, J, Vals.up 0 hvs Z Z Z⟩)
 refine Xk (fun S F iv hS hbef hcl hI => ?_) ?_
 obtain ⟨G, dx, ej, df, ek, em, eo, J, hvs⟩ := hI
 exact Xd (o' := 1) Y9 df Z Z (Xc ⟨G, dx, ej, df, ek, em, eo, J, Vals.up 1 hvs Z Z Z⟩)
 refine Xk (fun S F iw hS hbef hcl hI => ?_) ?_
 obtain ⟨G, bw, ep, eu, ew, ez, e0, J, hvs⟩ := hI
 exact Xh (v := vi q.run) Xz (Vals.at 1 hvs Z (Xp 1 hbef Z)) (((V.blk.grown0 ae).grown0 bw).cell Z) Z (Xc ⟨G, bw, ep, eu, ew, ez, e0, J, Vals.up 2 hvs Z Z Z⟩)
 refine Xk (fun S F ix hS hbef hcl hI => ?_) ?_
 obtain ⟨G, dy, fa, fb, fc, fd, fe, J, hvs⟩ := hI
 exact Ym (c := q.run - 1) (Vals.at 2 hvs Z (Xp 2 hbef Z)) Z (by omega) (by omega) (by omega) Z (Xc ⟨G, dy, fa, fb, fc, fd, fe, J, Vals.up 3 hvs Z Z Z⟩)
 refine Xk (fun S F iy hS hbef hcl hI => ?_) ?_
 obtain ⟨G, dz, ff, fg, fh, fi, fj, J, hvs⟩ := hI
 exact Ya (o' := (q.run - 1).toNat * 8) Y6 (Vals.at 0 hvs Z (Xp 0 hbef Z)) (Vals.at 3 hvs Z (Xp 3 hbef Z)) (by omega) (by omega) (by omega) Z (Xc ⟨G, dz, ff, fg, fh, fi, fj, J, Vals.up 4 hvs Z Z Z⟩)
 refine Xk (fun S F iz hS hbef hcl hI => ?_) ?_
 obtain ⟨G, d0, fk, fm, fo, fp, fq, J, hvs⟩ := hI
 exact Xd (o' := (q.run - 1).toNat * 8 + 5) Qi (Vals.at 4 hvs Z (Xp 4 hbef Z)) Z Z (Xc ⟨G, d0, fk, fm, fo, fp, fq, J, Vals.up 5 hvs Z Z Z⟩)
 refine Xk (fun S F i0 hS hbef hcl hI => ?_) ?_
 obtain ⟨G, bx, fr, ft, fu, fv, fw, J, hvs⟩ := hI
 exact Xh (v := .slice (mAt ms (q.run - 1).toNat).sa (mAt ms (q.run - 1).toNat).t.slots.length (mAt ms (q.run - 1).toNat).sc) Jd (Vals.at 5 hvs Z (Xp 5 hbef Z)) ((Own.range Yp (aw.grown0 bx) (xg ms (q.run - 1).toNat)) 5 _ Z) Z (Xc ⟨G, bx, fr, ft, fu, fv, fw, J, Vals.up 6 hvs Z Z Z⟩)
 refine Xk (fun S F i1 hS hbef hcl hI => ?_) ?_
 obtain ⟨G, d1, fx, dg, fy, fz, f8, J, hvs⟩ := hI
 exact Xd (o' := 2) Ju dg Z Z (Xc ⟨G, d1, fx, dg, fy, fz, f8, J, Vals.up 7 hvs Z Z Z⟩)
 refine Xk (fun S F i2 hS hbef hcl hI => ?_) ?_
 obtain ⟨G, bz, f9, ga, gb, gc, gf, J, hvs⟩ := hI
 exact Xh (v := vi q.a) Xz (Vals.at 7 hvs Z (Xp 7 hbef Z)) (((V.blk.grown0 ae).grown0 bz).cell Z) Z (Xc ⟨G, bz, f9, ga, gb, gc, gf, J, Vals.up 8 hvs Z Z Z⟩)
 refine Xk (fun S F i3 hS hbef hcl hI => ?_) ?_
 obtain ⟨G, d2, gg, gh, gi, gj, gk, J, hvs⟩ := hI
 exact X0 J9 (Vals.at 6 hvs Z (Xp 6 hbef Z)) (Vals.at 8 hvs Z (Xp 8 hbef Z)) aq (Nat.zero_add _) (by omega) (by omega) Z (Xc ⟨G, d2, gg, gh, gi, gj, gk, J, Vals.up 9 hvs Z Z Z⟩)
 refine Xk (fun S F i4 hS hbef hcl hI => ?_) ?_
 obtain ⟨G, ca, gl, gm, gp, gq, gr, J, hvs⟩ := hI
 exact Xq (vs := [vi (rAt (mAt ms (q.run - 1).toNat).t.slots (q.a).toNat).th, vi (rAt (mAt ms (q.run - 1).toNat).t.slots (q.a).toNat).ve, vb (rAt (mAt ms (q.run - 1).toNat).t.slots (q.a).toNat).rd, vb (rAt (mAt ms (q.run - 1).toNat).t.slots (q.a).toNat).wr, vb (rAt (mAt ms (q.run - 1).toNat).t.slots (q.a).toNat).wk]) Yz (Vals.at 9 hvs Z (Xp 9 hbef Z)) Z (Y3 (Own.range Q6 (ap.grown0 ca) (xr (mAt ms (q.run - 1).toNat).t.slots (q.a).toNat)) 0 5 Z) Z (Xc ⟨G, ca, gl, gm, gp, gq, gr, J, Vals.up 10 hvs Z Z Z⟩)
 refine Xk (fun S F i5 hS hbef hcl hI => ?_) ?_
 obtain ⟨G, am, gt, gu, gv, gw, gx, J, hvs⟩ := hI
 refine Yf (cs := #[vi 0, vi 0, vb false, vb false, vb false]) K7 Z Z ?_
 intro ee i6 ag
 have db := V1 ag (KeepsI.low bn am)
 have bk := Xr ag ((aw.grown0 am)).lt
 have az := Xr ag (((V.blk.grown0 ae).grown0 am)).lt
 have a8 := Xr ag ((ap.grown0 am)).lt
 exact Xc ⟨ee, (low0 am ag.grw), gt, gu, gv, gw, gx, fun _ => ⟨Z, db, ag.blk, bk, az, a8, (nt am.size (Nat.le_of_eq ag.eq.symm))⟩, Vals.keep hvs Z⟩
 exact Je
 intro S F i7 hall hI
 obtain ⟨G, ab, ac, ad, il, im, ar, J, hvs⟩ := hI
 obtain ⟨bc, ij, cm, ed, cn, co, g5⟩ := J (hall 11 (by decide))
 refine Xx (vs := [vi (rAt (mAt ms (q.run - 1).toNat).t.slots (q.a).toNat).th, vi (rAt (mAt ms (q.run - 1).toNat).t.slots (q.a).toNat).ve, vb (rAt (mAt ms (q.run - 1).toNat).t.slots (q.a).toNat).rd, vb (rAt (mAt ms (q.run - 1).toNat).t.slots (q.a).toNat).wr, vb (rAt (mAt ms (q.run - 1).toNat).t.slots (q.a).toNat).wk]) (cs' := #[vi (rAt (mAt ms (q.run - 1).toNat).t.slots (q.a).toNat).th, vi (rAt (mAt ms (q.run - 1).toNat).t.slots (q.a).toNat).ve, vb (rAt (mAt ms (q.run - 1).toNat).t.slots (q.a).toNat).rd, vb (rAt (mAt ms (q.run - 1).toNat).t.slots (q.a).toNat).wr, vb (rAt (mAt ms (q.run - 1).toNat).t.slots (q.a).toNat).wk]) Yz bc (Vals.at 10 hvs Z (hall 10 (by decide))) Z (by simp [Value.oneCell']) cm (Nat.le_of_ble_eq_true Z) Z ?_
 intro g7 O
 have bi := KeepsI.new (KeepsI.low bn ab) O.grw (by omega)
 refine Xc (Xv (Xs (Yh (Xa (Xb (v := vi (check1 (tabT ms) q)) ar Z (Qg (q := decide (check1 (tabT ms) q < 0)) Z Z Z Z (Xf (v := vb (decide (check1 (tabT ms) q < 0))) Z Z (Xc (X2 Z (fun ak => ?_) (fun ak => ?_))))))))))
 have io := of_decide_eq_true ak
 refine Xy (Qc (Xv (Xa (Xb (v := .slice (pa B) ms.length cap) ac Z (Xd (o' := 1) Y9 ad Z Z (Xh (v := vi q.run) Xz Z ((((V.blk.grown0 ae).grown0 ab).gn O.grw).cell Z) Z (Ym (c := q.run - 1) Z Z (by omega) (by omega) (by omega) Z (Xb (v := vi (check1 (tabT ms) q)) ar Z (Ya (o' := (q.run - 1).toNat * 8) Y6 Z Z (by omega) (by omega) (by omega) Z (Xd (o' := (q.run - 1).toNat * 8 + 4) Q8 Z Z Z ?_))))))))))
 have cc := ((aw.grown0 ab).gn O.grw)
 refine Jh (g := MTh.cells) (j := 4) (z := (mAt ms (q.run - 1).toNat)) (z' := (⟨⟨(mAt ms (q.run - 1).toNat).t.kind, (mAt ms (q.run - 1).toNat).t.lab, (mAt ms (q.run - 1).toNat).t.ve, check1 (tabT ms) q, (mAt ms (q.run - 1).toNat).t.slots, (mAt ms (q.run - 1).toNat).t.queue, (mAt ms (q.run - 1).toNat).t.to⟩, (mAt ms (q.run - 1).toNat).sa, (mAt ms (q.run - 1).toNat).sc, (mAt ms (q.run - 1).toNat).qa, (mAt ms (q.run - 1).toNat).qc⟩ : MTh)) (v := vi (check1 (tabT ms) q)) Xz Z Z Z Yp cc (xg ms (q.run - 1).toNat) (by omega) Z Z ?_
 intro g8 dm bq
 have ct : RowsO 33 3 lo g8 (ms.set (q.run - 1).toNat (⟨⟨(mAt ms (q.run - 1).toNat).t.kind, (mAt ms (q.run - 1).toNat).t.lab, (mAt ms (q.run - 1).toNat).t.ve, check1 (tabT ms) q, (mAt ms (q.run - 1).toNat).t.slots, (mAt ms (q.run - 1).toNat).t.queue, (mAt ms (q.run - 1).toNat).t.to⟩, (mAt ms (q.run - 1).toNat).sa, (mAt ms (q.run - 1).toNat).sc, (mAt ms (q.run - 1).toNat).qa, (mAt ms (q.run - 1).toNat).qc⟩ : MTh)) := RowsO.set (RowsO.own (RowsO.ge (RowsO.low ao ab) O.grw hH (by omega)) bq cc (by decide) (by decide)) (lq (q.run - 1).toNat ms.length) ⟨rfl, rfl, rfl⟩ ⟨rfl, rfl, rfl⟩
 refine Xc (Xa (Xb (v := .slice (pa B) ms.length cap) ac Z (Xb (v := vi (check1 (tabT ms) q)) ar Z (Xf (v := .slice (pa B) ms.length cap) Z Z (Xf (v := vi (check1 (tabT ms) q)) Z Z (Xc (Xt ?_)))))))
 have hf : doCall (tabT ms) q = (tabT (ms.set (q.run - 1).toNat (⟨⟨(mAt ms (q.run - 1).toNat).t.kind, (mAt ms (q.run - 1).toNat).t.lab, (mAt ms (q.run - 1).toNat).t.ve, check1 (tabT ms) q, (mAt ms (q.run - 1).toNat).t.slots, (mAt ms (q.run - 1).toNat).t.queue, (mAt ms (q.run - 1).toNat).t.to⟩, (mAt ms (q.run - 1).toNat).sa, (mAt ms (q.run - 1).toNat).sc, (mAt ms (q.run - 1).toNat).qa, (mAt ms (q.run - 1).toNat).qc⟩ : MTh)), check1 (tabT ms) q) := Ov ak rfl
 exact ⟨.tuple #[.slice (pa B) ms.length cap, vi (check1 (tabT ms) q)], Hl Z Z Z, ms.set (q.run - 1).toNat (⟨⟨(mAt ms (q.run - 1).toNat).t.kind, (mAt ms (q.run - 1).toNat).t.lab, (mAt ms (q.run - 1).toNat).t.ve, check1 (tabT ms) q, (mAt ms (q.run - 1).toNat).t.slots, (mAt ms (q.run - 1).toNat).t.queue, (mAt ms (q.run - 1).toNat).t.to⟩, (mAt ms (q.run - 1).toNat).sa, (mAt ms (q.run - 1).toNat).sc, (mAt ms (q.run - 1).toNat).qa, (mAt ms (q.run - 1).toNat).qc⟩ : MTh), by rw [hf], by first | omega | (simp only [List.length_set, Yc]; try omega), dm, ct, by rw [hf], (KeepsI.own bi bq cc (by decide) (by omega) (by omega))⟩
 have ip := of_decide_eq_false ak
 refine Xa (Xd (o' := 0) Ji ad Z Z ?_)
 have al := (((V.blk.grown0 ae).grown0 ab).gn O.grw)
 refine Xh (v := vi q.kind) Xz Z (al.cell Z) Z (X3 (q := decide (q.kind = 3)) Z Z Z Z (Xf (v := vb (decide (q.kind = 3))) Z Z (Xc (X2 Z (fun an => ?_) (fun an => ?_)))))
 have iq := of_decide_eq_true an
 refine Yt (m := 25) (vals := [(29, .slice (pa B) ms.length cap), (30, pt aj 1), (31, vi q.run), (32, vi (q.run - 1)), (33, pt B ((q.run - 1).toNat * 8)), (34, pt B ((q.run - 1).toNat * 8 + 5)), (35, .slice (mAt ms (q.run - 1).toNat).sa (mAt ms (q.run - 1).toNat).t.slots.length (mAt ms (q.run - 1).toNat).sc), (36, pt aj 3), (37, vi q.b), (38, .agg #[vi (rAt (mAt ms (q.run - 1).toNat).t.slots (q.a).toNat).th, vi (rAt (mAt ms (q.run - 1).toNat).t.slots (q.a).toNat).ve, vb (rAt (mAt ms (q.run - 1).toNat).t.slots (q.a).toNat).rd, vb (rAt (mAt ms (q.run - 1).toNat).t.slots (q.a).toNat).wr, vb (rAt (mAt ms (q.run - 1).toNat).t.slots (q.a).toNat).wk]), (39, pt aj 4), (40, vi q.n), (41, vi (q.n % 2)), (42, vb (decide (q.n % 2 = 1))), (43, pt aj 4), (44, vi q.n), (45, vi (q.n / 2)), (46, vi ((q.n / 2) % 2)), (47, vb (decide ((q.n / 2) % 2 = 1))), (48, pt aj 4), (49, vi q.n), (50, vi (q.n / 4)), (51, vi ((q.n / 4) % 2)), (52, vb (decide ((q.n / 4) % 2 = 1))), (53, .agg #[vi (l2Less (rAt (mAt ms (q.run - 1).toNat).t.slots (q.a).toNat) (decide (q.n % 2 = 1)) (decide ((q.n / 2) % 2 = 1)) (decide ((q.n / 4) % 2 = 1))).th, vi (l2Less (rAt (mAt ms (q.run - 1).toNat).t.slots (q.a).toNat) (decide (q.n % 2 = 1)) (decide ((q.n / 2) % 2 = 1)) (decide ((q.n / 4) % 2 = 1))).ve, vb (l2Less (rAt (mAt ms (q.run - 1).toNat).t.slots (q.a).toNat) (decide (q.n % 2 = 1)) (decide ((q.n / 2) % 2 = 1)) (decide ((q.n / 4) % 2 = 1))).rd, vb (l2Less (rAt (mAt ms (q.run - 1).toNat).t.slots (q.a).toNat) (decide (q.n % 2 = 1)) (decide ((q.n / 2) % 2 = 1)) (decide ((q.n / 4) % 2 = 1))).wr, vb (l2Less (rAt (mAt ms (q.run - 1).toNat).t.slots (q.a).toNat) (decide (q.n % 2 = 1)) (decide ((q.n / 2) % 2 = 1)) (decide ((q.n / 4) % 2 = 1))).wk])]) (fun w' => g7.grownBy w' none) Y0 (by kernel_rfl) (X7 _) ?_ ?_
 refine yl Z (fun _ _ k => Xb (v := .slice (pa B) ms.length cap) ac Z k) (yl Z (fun _ _ k => Xd (o' := 1) Y9 ad Z Z k) (yl Z (fun _ d3 k => Xh (v := vi q.run) Xz Z ((al.grown0 d3).cell Z) Z k) (yl Z (fun _ _ k => Ym (c := q.run - 1) Z Z (by omega) (by omega) (by omega) Z k) (yl Z (fun _ _ k => Ya (o' := (q.run - 1).toNat * 8) Y6 Z Z (by omega) (by omega) (by omega) Z k) (yl Z (fun _ _ k => Xd (o' := (q.run - 1).toNat * 8 + 5) Qi Z Z Z k) (yl Z (fun _ d4 k => Xh (v := .slice (mAt ms (q.run - 1).toNat).sa (mAt ms (q.run - 1).toNat).t.slots.length (mAt ms (q.run - 1).toNat).sc) Jd Z ((Own.range Yp (((aw.grown0 ab).gn O.grw).grown0 d4) (xg ms (q.run - 1).toNat)) 5 _ Z) Z k) (yl Z (fun _ _ k => Xd (o' := 3) Vx ad Z Z k) (yl Z (fun _ d5 k => Xh (v := vi q.b) Xz Z ((al.grown0 d5).cell Z) Z k) (yl Z (fun _ d6 k => Xq (vs := [vi (rAt (mAt ms (q.run - 1).toNat).t.slots (q.a).toNat).th, vi (rAt (mAt ms (q.run - 1).toNat).t.slots (q.a).toNat).ve, vb (rAt (mAt ms (q.run - 1).toNat).t.slots (q.a).toNat).rd, vb (rAt (mAt ms (q.run - 1).toNat).t.slots (q.a).toNat).wr, vb (rAt (mAt ms (q.run - 1).toNat).t.slots (q.a).toNat).wk]) Yz bc Z ((O.blk.grown0 d6).rangeL 0 5 Z) Z k) (yl Z (fun _ _ k => Xd (o' := 4) J1 ad Z Z k) ?_))))))))))
 refine yl Z (fun _ d7 k => Xh (v := vi q.n) Xz Z ((al.grown0 d7).cell Z) Z k) (yl Z (fun _ _ k => Q4 (c := q.n % 2) Z Z (by omega) (by omega) (by omega) Z Z k) (yl Z (fun _ _ k => X3 (q := decide (q.n % 2 = 1)) Z Z Z Z k) (yl Z (fun _ _ k => Xd (o' := 4) J1 ad Z Z k) (yl Z (fun _ d8 k => Xh (v := vi q.n) Xz Z ((al.grown0 d8).cell Z) Z k) (yl Z (fun _ _ k => Vy (c := q.n / 2) Z Z (by omega) (by omega) (by omega) Z Z k) (yl Z (fun _ _ k => Q4 (c := (q.n / 2) % 2) Z Z (by omega) (by omega) (by omega) Z Z k) (yl Z (fun _ _ k => X3 (q := decide ((q.n / 2) % 2 = 1)) Z Z Z Z k) (yl Z (fun _ _ k => Xd (o' := 4) J1 ad Z Z k) (yl Z (fun _ d9 k => Xh (v := vi q.n) Xz Z ((al.grown0 d9).cell Z) Z k) (yl Z (fun _ _ k => Vy (c := q.n / 4) Z Z (by omega) (by omega) (by omega) Z Z k) ?_))))))))))
 refine yl Z (fun _ _ k => Q4 (c := (q.n / 4) % 2) Z Z (by omega) (by omega) (by omega) Z Z k) (yl Z (fun _ _ k => X3 (q := decide ((q.n / 4) % 2 = 1)) Z Z Z Z k) ?_)
 refine Qk Z (fun i8 ea => ?_) ?_
 refine Xm Iq (Xg Z (Xg Z (Xg Z (Xg Z Xl)))) Z (R8 (rAt (mAt ms (q.run - 1).toNat).t.slots (q.a).toNat) (decide (q.n % 2 = 1)) (decide ((q.n / 2) % 2 = 1)) (decide ((q.n / 4) % 2 = 1)) _) ?_
 rintro _ i9 ⟨rfl, dv⟩
 exact Xc ⟨Z, (grown_trans ea dv)⟩
 exact Y2
 intro ja au
 refine X0 J9 Z Z aq (Nat.zero_add _) (by omega) (by omega) Z ?_
 have cd := (((ap.grown0 ab).gn O.grw).grown0 au)
 refine Ja (g := Rt.cells) (z' := (l2Less (rAt (mAt ms (q.run - 1).toNat).t.slots (q.a).toNat) (decide (q.n % 2 = 1)) (decide ((q.n / 2) % 2 = 1)) (decide ((q.n / 4) % 2 = 1)))) Yz Z Z (V7 _) Q6 cd (by omega) Z ?_
 intro jb dn bb
 have cv := RowsO.put (RowsO.low (RowsO.ge (RowsO.low ao ab) O.grw hH (by omega)) au) (lq (q.run - 1).toNat ms.length) aq c9 cd rfl dn bb (by decide)
 have ce := Ul (i := (q.run - 1).toNat) (j := (q.b).toNat) (x := (l2Less (rAt (mAt ms (q.run - 1).toNat).t.slots (q.a).toNat) (decide (q.n % 2 = 1)) (decide ((q.n / 2) % 2 = 1)) (decide ((q.n / 4) % 2 = 1)))) ((((aw.grown0 ab).gn O.grw).grown0 au).gn bb) (by omega)
 refine Xc (Qc (Xv (Xa (Xb (v := .slice (pa B) ms.length cap) ac Z (Xd (o' := 1) Y9 ad Z Z (Xh (v := vi q.run) Xz Z (((al.grown0 au).gn bb).cell Z) Z (Ym (c := q.run - 1) Z Z (by omega) (by omega) (by omega) Z (Xb (v := vi (check1 (tabT ms) q)) ar Z (Ya (o' := (q.run - 1).toNat * 8) Y6 Z Z (by omega) (by omega) (by omega) Z (Xd (o' := (q.run - 1).toNat * 8 + 4) Q8 Z Z Z ?_))))))))))
 refine Jh (g := MTh.cells) (j := 4) (z := (mAt (putT ms (q.run - 1).toNat (q.b).toNat (l2Less (rAt (mAt ms (q.run - 1).toNat).t.slots (q.a).toNat) (decide (q.n % 2 = 1)) (decide ((q.n / 2) % 2 = 1)) (decide ((q.n / 4) % 2 = 1)))) (q.run - 1).toNat)) (z' := (⟨⟨(mAt (putT ms (q.run - 1).toNat (q.b).toNat (l2Less (rAt (mAt ms (q.run - 1).toNat).t.slots (q.a).toNat) (decide (q.n % 2 = 1)) (decide ((q.n / 2) % 2 = 1)) (decide ((q.n / 4) % 2 = 1)))) (q.run - 1).toNat).t.kind, (mAt (putT ms (q.run - 1).toNat (q.b).toNat (l2Less (rAt (mAt ms (q.run - 1).toNat).t.slots (q.a).toNat) (decide (q.n % 2 = 1)) (decide ((q.n / 2) % 2 = 1)) (decide ((q.n / 4) % 2 = 1)))) (q.run - 1).toNat).t.lab, (mAt (putT ms (q.run - 1).toNat (q.b).toNat (l2Less (rAt (mAt ms (q.run - 1).toNat).t.slots (q.a).toNat) (decide (q.n % 2 = 1)) (decide ((q.n / 2) % 2 = 1)) (decide ((q.n / 4) % 2 = 1)))) (q.run - 1).toNat).t.ve, check1 (tabT ms) q, (mAt (putT ms (q.run - 1).toNat (q.b).toNat (l2Less (rAt (mAt ms (q.run - 1).toNat).t.slots (q.a).toNat) (decide (q.n % 2 = 1)) (decide ((q.n / 2) % 2 = 1)) (decide ((q.n / 4) % 2 = 1)))) (q.run - 1).toNat).t.slots, (mAt (putT ms (q.run - 1).toNat (q.b).toNat (l2Less (rAt (mAt ms (q.run - 1).toNat).t.slots (q.a).toNat) (decide (q.n % 2 = 1)) (decide ((q.n / 2) % 2 = 1)) (decide ((q.n / 4) % 2 = 1)))) (q.run - 1).toNat).t.queue, (mAt (putT ms (q.run - 1).toNat (q.b).toNat (l2Less (rAt (mAt ms (q.run - 1).toNat).t.slots (q.a).toNat) (decide (q.n % 2 = 1)) (decide ((q.n / 2) % 2 = 1)) (decide ((q.n / 4) % 2 = 1)))) (q.run - 1).toNat).t.to⟩, (mAt (putT ms (q.run - 1).toNat (q.b).toNat (l2Less (rAt (mAt ms (q.run - 1).toNat).t.slots (q.a).toNat) (decide (q.n % 2 = 1)) (decide ((q.n / 2) % 2 = 1)) (decide ((q.n / 4) % 2 = 1)))) (q.run - 1).toNat).sa, (mAt (putT ms (q.run - 1).toNat (q.b).toNat (l2Less (rAt (mAt ms (q.run - 1).toNat).t.slots (q.a).toNat) (decide (q.n % 2 = 1)) (decide ((q.n / 2) % 2 = 1)) (decide ((q.n / 4) % 2 = 1)))) (q.run - 1).toNat).sc, (mAt (putT ms (q.run - 1).toNat (q.b).toNat (l2Less (rAt (mAt ms (q.run - 1).toNat).t.slots (q.a).toNat) (decide (q.n % 2 = 1)) (decide ((q.n / 2) % 2 = 1)) (decide ((q.n / 4) % 2 = 1)))) (q.run - 1).toNat).qa, (mAt (putT ms (q.run - 1).toNat (q.b).toNat (l2Less (rAt (mAt ms (q.run - 1).toNat).t.slots (q.a).toNat) (decide (q.n % 2 = 1)) (decide ((q.n / 2) % 2 = 1)) (decide ((q.n / 4) % 2 = 1)))) (q.run - 1).toNat).qc⟩ : MTh)) (v := vi (check1 (tabT ms) q)) Xz Z Z Z Yp ce (Jw (show (q.run - 1).toNat < (putT ms (q.run - 1).toNat (q.b).toNat (l2Less (rAt (mAt ms (q.run - 1).toNat).t.slots (q.a).toNat) (decide (q.n % 2 = 1)) (decide ((q.n / 2) % 2 = 1)) (decide ((q.n / 4) % 2 = 1)))).length by (simp only [List.length_set, Yc]; omega))) (by omega) Z Z ?_
 intro g9 dp br
 have du := KeepsI.own (KeepsI.own (KeepsI.low bi au) bb cd (by decide) (by omega) (by omega)) br ce (by decide) (by omega) (by omega)
 have cw : RowsO 33 3 lo g9 ((putT ms (q.run - 1).toNat (q.b).toNat (l2Less (rAt (mAt ms (q.run - 1).toNat).t.slots (q.a).toNat) (decide (q.n % 2 = 1)) (decide ((q.n / 2) % 2 = 1)) (decide ((q.n / 4) % 2 = 1)))).set (q.run - 1).toNat (⟨⟨(mAt (putT ms (q.run - 1).toNat (q.b).toNat (l2Less (rAt (mAt ms (q.run - 1).toNat).t.slots (q.a).toNat) (decide (q.n % 2 = 1)) (decide ((q.n / 2) % 2 = 1)) (decide ((q.n / 4) % 2 = 1)))) (q.run - 1).toNat).t.kind, (mAt (putT ms (q.run - 1).toNat (q.b).toNat (l2Less (rAt (mAt ms (q.run - 1).toNat).t.slots (q.a).toNat) (decide (q.n % 2 = 1)) (decide ((q.n / 2) % 2 = 1)) (decide ((q.n / 4) % 2 = 1)))) (q.run - 1).toNat).t.lab, (mAt (putT ms (q.run - 1).toNat (q.b).toNat (l2Less (rAt (mAt ms (q.run - 1).toNat).t.slots (q.a).toNat) (decide (q.n % 2 = 1)) (decide ((q.n / 2) % 2 = 1)) (decide ((q.n / 4) % 2 = 1)))) (q.run - 1).toNat).t.ve, check1 (tabT ms) q, (mAt (putT ms (q.run - 1).toNat (q.b).toNat (l2Less (rAt (mAt ms (q.run - 1).toNat).t.slots (q.a).toNat) (decide (q.n % 2 = 1)) (decide ((q.n / 2) % 2 = 1)) (decide ((q.n / 4) % 2 = 1)))) (q.run - 1).toNat).t.slots, (mAt (putT ms (q.run - 1).toNat (q.b).toNat (l2Less (rAt (mAt ms (q.run - 1).toNat).t.slots (q.a).toNat) (decide (q.n % 2 = 1)) (decide ((q.n / 2) % 2 = 1)) (decide ((q.n / 4) % 2 = 1)))) (q.run - 1).toNat).t.queue, (mAt (putT ms (q.run - 1).toNat (q.b).toNat (l2Less (rAt (mAt ms (q.run - 1).toNat).t.slots (q.a).toNat) (decide (q.n % 2 = 1)) (decide ((q.n / 2) % 2 = 1)) (decide ((q.n / 4) % 2 = 1)))) (q.run - 1).toNat).t.to⟩, (mAt (putT ms (q.run - 1).toNat (q.b).toNat (l2Less (rAt (mAt ms (q.run - 1).toNat).t.slots (q.a).toNat) (decide (q.n % 2 = 1)) (decide ((q.n / 2) % 2 = 1)) (decide ((q.n / 4) % 2 = 1)))) (q.run - 1).toNat).sa, (mAt (putT ms (q.run - 1).toNat (q.b).toNat (l2Less (rAt (mAt ms (q.run - 1).toNat).t.slots (q.a).toNat) (decide (q.n % 2 = 1)) (decide ((q.n / 2) % 2 = 1)) (decide ((q.n / 4) % 2 = 1)))) (q.run - 1).toNat).sc, (mAt (putT ms (q.run - 1).toNat (q.b).toNat (l2Less (rAt (mAt ms (q.run - 1).toNat).t.slots (q.a).toNat) (decide (q.n % 2 = 1)) (decide ((q.n / 2) % 2 = 1)) (decide ((q.n / 4) % 2 = 1)))) (q.run - 1).toNat).qa, (mAt (putT ms (q.run - 1).toNat (q.b).toNat (l2Less (rAt (mAt ms (q.run - 1).toNat).t.slots (q.a).toNat) (decide (q.n % 2 = 1)) (decide ((q.n / 2) % 2 = 1)) (decide ((q.n / 4) % 2 = 1)))) (q.run - 1).toNat).qc⟩ : MTh)) := RowsO.set (RowsO.own cv br ce (by decide) (by decide)) (show (q.run - 1).toNat < (putT ms (q.run - 1).toNat (q.b).toNat (l2Less (rAt (mAt ms (q.run - 1).toNat).t.slots (q.a).toNat) (decide (q.n % 2 = 1)) (decide ((q.n / 2) % 2 = 1)) (decide ((q.n / 4) % 2 = 1)))).length by (simp only [List.length_set, Yc]; omega)) ⟨rfl, rfl, rfl⟩ ⟨rfl, rfl, rfl⟩
 refine Xc (Xa (Xb (v := .slice (pa B) ms.length cap) ac Z (Xb (v := vi (check1 (tabT ms) q)) ar Z (Xf (v := .slice (pa B) ms.length cap) Z Z (Xf (v := vi (check1 (tabT ms) q)) Z Z (Xc (Xt ?_)))))))
 have hf : doCall (tabT ms) q = (tabT ((putT ms (q.run - 1).toNat (q.b).toNat (l2Less (rAt (mAt ms (q.run - 1).toNat).t.slots (q.a).toNat) (decide (q.n % 2 = 1)) (decide ((q.n / 2) % 2 = 1)) (decide ((q.n / 4) % 2 = 1)))).set (q.run - 1).toNat (⟨⟨(mAt (putT ms (q.run - 1).toNat (q.b).toNat (l2Less (rAt (mAt ms (q.run - 1).toNat).t.slots (q.a).toNat) (decide (q.n % 2 = 1)) (decide ((q.n / 2) % 2 = 1)) (decide ((q.n / 4) % 2 = 1)))) (q.run - 1).toNat).t.kind, (mAt (putT ms (q.run - 1).toNat (q.b).toNat (l2Less (rAt (mAt ms (q.run - 1).toNat).t.slots (q.a).toNat) (decide (q.n % 2 = 1)) (decide ((q.n / 2) % 2 = 1)) (decide ((q.n / 4) % 2 = 1)))) (q.run - 1).toNat).t.lab, (mAt (putT ms (q.run - 1).toNat (q.b).toNat (l2Less (rAt (mAt ms (q.run - 1).toNat).t.slots (q.a).toNat) (decide (q.n % 2 = 1)) (decide ((q.n / 2) % 2 = 1)) (decide ((q.n / 4) % 2 = 1)))) (q.run - 1).toNat).t.ve, check1 (tabT ms) q, (mAt (putT ms (q.run - 1).toNat (q.b).toNat (l2Less (rAt (mAt ms (q.run - 1).toNat).t.slots (q.a).toNat) (decide (q.n % 2 = 1)) (decide ((q.n / 2) % 2 = 1)) (decide ((q.n / 4) % 2 = 1)))) (q.run - 1).toNat).t.slots, (mAt (putT ms (q.run - 1).toNat (q.b).toNat (l2Less (rAt (mAt ms (q.run - 1).toNat).t.slots (q.a).toNat) (decide (q.n % 2 = 1)) (decide ((q.n / 2) % 2 = 1)) (decide ((q.n / 4) % 2 = 1)))) (q.run - 1).toNat).t.queue, (mAt (putT ms (q.run - 1).toNat (q.b).toNat (l2Less (rAt (mAt ms (q.run - 1).toNat).t.slots (q.a).toNat) (decide (q.n % 2 = 1)) (decide ((q.n / 2) % 2 = 1)) (decide ((q.n / 4) % 2 = 1)))) (q.run - 1).toNat).t.to⟩, (mAt (putT ms (q.run - 1).toNat (q.b).toNat (l2Less (rAt (mAt ms (q.run - 1).toNat).t.slots (q.a).toNat) (decide (q.n % 2 = 1)) (decide ((q.n / 2) % 2 = 1)) (decide ((q.n / 4) % 2 = 1)))) (q.run - 1).toNat).sa, (mAt (putT ms (q.run - 1).toNat (q.b).toNat (l2Less (rAt (mAt ms (q.run - 1).toNat).t.slots (q.a).toNat) (decide (q.n % 2 = 1)) (decide ((q.n / 2) % 2 = 1)) (decide ((q.n / 4) % 2 = 1)))) (q.run - 1).toNat).sc, (mAt (putT ms (q.run - 1).toNat (q.b).toNat (l2Less (rAt (mAt ms (q.run - 1).toNat).t.slots (q.a).toNat) (decide (q.n % 2 = 1)) (decide ((q.n / 2) % 2 = 1)) (decide ((q.n / 4) % 2 = 1)))) (q.run - 1).toNat).qa, (mAt (putT ms (q.run - 1).toNat (q.b).toNat (l2Less (rAt (mAt ms (q.run - 1).toNat).t.slots (q.a).toNat) (decide (q.n % 2 = 1)) (decide ((q.n / 2) % 2 = 1)) (decide ((q.n / 4) % 2 = 1)))) (q.run - 1).toNat).qc⟩ : MTh)), check1 (tabT ms) q) := E4 ak an rfl rfl
 exact ⟨.tuple #[.slice (pa B) ms.length cap, vi (check1 (tabT ms) q)], Hl Z Z Z, (putT ms (q.run - 1).toNat (q.b).toNat (l2Less (rAt (mAt ms (q.run - 1).toNat).t.slots (q.a).toNat) (decide (q.n % 2 = 1)) (decide ((q.n / 2) % 2 = 1)) (decide ((q.n / 4) % 2 = 1)))).set (q.run - 1).toNat (⟨⟨(mAt (putT ms (q.run - 1).toNat (q.b).toNat (l2Less (rAt (mAt ms (q.run - 1).toNat).t.slots (q.a).toNat) (decide (q.n % 2 = 1)) (decide ((q.n / 2) % 2 = 1)) (decide ((q.n / 4) % 2 = 1)))) (q.run - 1).toNat).t.kind, (mAt (putT ms (q.run - 1).toNat (q.b).toNat (l2Less (rAt (mAt ms (q.run - 1).toNat).t.slots (q.a).toNat) (decide (q.n % 2 = 1)) (decide ((q.n / 2) % 2 = 1)) (decide ((q.n / 4) % 2 = 1)))) (q.run - 1).toNat).t.lab, (mAt (putT ms (q.run - 1).toNat (q.b).toNat (l2Less (rAt (mAt ms (q.run - 1).toNat).t.slots (q.a).toNat) (decide (q.n % 2 = 1)) (decide ((q.n / 2) % 2 = 1)) (decide ((q.n / 4) % 2 = 1)))) (q.run - 1).toNat).t.ve, check1 (tabT ms) q, (mAt (putT ms (q.run - 1).toNat (q.b).toNat (l2Less (rAt (mAt ms (q.run - 1).toNat).t.slots (q.a).toNat) (decide (q.n % 2 = 1)) (decide ((q.n / 2) % 2 = 1)) (decide ((q.n / 4) % 2 = 1)))) (q.run - 1).toNat).t.slots, (mAt (putT ms (q.run - 1).toNat (q.b).toNat (l2Less (rAt (mAt ms (q.run - 1).toNat).t.slots (q.a).toNat) (decide (q.n % 2 = 1)) (decide ((q.n / 2) % 2 = 1)) (decide ((q.n / 4) % 2 = 1)))) (q.run - 1).toNat).t.queue, (mAt (putT ms (q.run - 1).toNat (q.b).toNat (l2Less (rAt (mAt ms (q.run - 1).toNat).t.slots (q.a).toNat) (decide (q.n % 2 = 1)) (decide ((q.n / 2) % 2 = 1)) (decide ((q.n / 4) % 2 = 1)))) (q.run - 1).toNat).t.to⟩, (mAt (putT ms (q.run - 1).toNat (q.b).toNat (l2Less (rAt (mAt ms (q.run - 1).toNat).t.slots (q.a).toNat) (decide (q.n % 2 = 1)) (decide ((q.n / 2) % 2 = 1)) (decide ((q.n / 4) % 2 = 1)))) (q.run - 1).toNat).sa, (mAt (putT ms (q.run - 1).toNat (q.b).toNat (l2Less (rAt (mAt ms (q.run - 1).toNat).t.slots (q.a).toNat) (decide (q.n % 2 = 1)) (decide ((q.n / 2) % 2 = 1)) (decide ((q.n / 4) % 2 = 1)))) (q.run - 1).toNat).sc, (mAt (putT ms (q.run - 1).toNat (q.b).toNat (l2Less (rAt (mAt ms (q.run - 1).toNat).t.slots (q.a).toNat) (decide (q.n % 2 = 1)) (decide ((q.n / 2) % 2 = 1)) (decide ((q.n / 4) % 2 = 1)))) (q.run - 1).toNat).qa, (mAt (putT ms (q.run - 1).toNat (q.b).toNat (l2Less (rAt (mAt ms (q.run - 1).toNat).t.slots (q.a).toNat) (decide (q.n % 2 = 1)) (decide ((q.n / 2) % 2 = 1)) (decide ((q.n / 4) % 2 = 1)))) (q.run - 1).toNat).qc⟩ : MTh), by rw [hf], by first | omega | (simp only [List.length_set, Yc]; try omega), dp, cw, by rw [hf], du⟩
 have ir := of_decide_eq_false an
 refine Xa (Xb (v := .slice (pa B) ms.length cap) ac Z (Xq (vs := [vi (rAt (mAt ms (q.run - 1).toNat).t.slots (q.a).toNat).th, vi (rAt (mAt ms (q.run - 1).toNat).t.slots (q.a).toNat).ve, vb (rAt (mAt ms (q.run - 1).toNat).t.slots (q.a).toNat).rd, vb (rAt (mAt ms (q.run - 1).toNat).t.slots (q.a).toNat).wr, vb (rAt (mAt ms (q.run - 1).toNat).t.slots (q.a).toNat).wk]) Yz bc Z (O.blk.rangeL 0 5 Z) Z ?_))
 have a9 := (RowsO.ge (RowsO.low ao ab) O.grw hH (by omega))
 have cf := ((aw.grown0 ab).gn O.grw)
 refine Xm Ir (Xg Z (Xg Z Xl)) Z (Sb (rAt (mAt ms (q.run - 1).toNat).t.slots (q.a).toNat) (by omega) _ ms _ _ (RowsO.tab a9 cf) hTL (by omega)) ?_
 rintro _ jc ⟨rfl, af⟩
 have bj := KeepsI.low bi af
 refine Xf (v := vb (live (tabT ms) (rAt (mAt ms (q.run - 1).toNat).t.slots (q.a).toNat))) Z Z (Xc (X2 Z (fun bd => ?_) (fun bd => ?_)))
 refine Xa (Xb (v := .slice (pa B) ms.length cap) ac Z ?_)
 have di := (al.grown0 af)
 refine Xq (vs := [vi q.kind, vi q.run, vi q.a, vi q.b, vi q.n]) Y1 ad Z (di.rangeL 0 5 Z) Z ?_
 have dk := (O.blk.grown0 af)
 refine Xq (vs := [vi (rAt (mAt ms (q.run - 1).toNat).t.slots (q.a).toNat).th, vi (rAt (mAt ms (q.run - 1).toNat).t.slots (q.a).toNat).ve, vb (rAt (mAt ms (q.run - 1).toNat).t.slots (q.a).toNat).rd, vb (rAt (mAt ms (q.run - 1).toNat).t.slots (q.a).toNat).wr, vb (rAt (mAt ms (q.run - 1).toNat).t.slots (q.a).toNat).wk]) Yz bc Z (dk.rangeL 0 5 Z) Z ?_
 have be := E8 hp ak an bd
 have g6 := be.th
 rw [Qa] at g6
 refine Xm Z4 (Xg Z (Xg Z (Xg Z Xl))) Z (Dl q (rAt (mAt ms (q.run - 1).toNat).t.slots (q.a).toNat) lo B cap ms _ (cf.grown0 af) (RowsO.low a9 af) hlo _ hH hBlt bj.size be) ?_
 rintro _ jd ⟨E, rfl, ai, bg, ba, av, bf⟩
 have bh : tableOk (tabT E) = true := by rw [av]; exact (Ps be).1
 have da := TabLen.ok bh
 have ik := Jk bh
 refine Xf (v := vi (far (tabT ms) q (rAt (mAt ms (q.run - 1).toNat).t.slots (q.a).toNat)).2) Z Z (Xc (Xa (Xb (v := .slice (pa B) E.length cap) (ac.trans (congrArg (fun n : Nat => Value.slice (pa B) n cap) ai.symm)) Z (Xd (o' := 1) Y9 ad Z Z ?_))))
 have cg := (Blk.keepsI di bf (Or.inr (Or.inr (by decide))))
 refine Xh (v := vi q.run) Xz Z (cg.cell Z) Z (Xd (o' := 0) Yl bc Z Z (Xh (v := vi (rAt (mAt ms (q.run - 1).toNat).t.slots (q.a).toNat).th) Xz Z ((Blk.keepsI dk bf (by omega)).cell Z) Z (Xm Is (Xg Z (Xg Z (Xg Z Xl))) Z (Ny q.run (rAt (mAt ms (q.run - 1).toNat).t.slots (q.a).toNat).th _ E _ _ (RowsO.tab ba bg) da (by omega) bh (by omega) (by omega)) ?_)))
 rintro _ je ⟨rfl, ah⟩
 have bp := KeepsI.low (KeepsI.trans bj bf) ah
 refine Yj (b' := !sees (tabT E) q.run (rAt (mAt ms (q.run - 1).toNat).t.slots (q.a).toNat).th) Z Z Z (Xc (X2 Z (fun bm => ?_) (fun bm => ?_)))
 have gy := Jm bm
 refine X6 (Xf (v := vi 0) Z Z (Xc (Qc (Xv (Xa (Xb (v := .slice (pa B) E.length cap) (ac.trans (congrArg (fun n : Nat => Value.slice (pa B) n cap) ai.symm)) Z (Xd (o' := 1) Y9 ad Z Z (Xh (v := vi q.run) Xz Z ((cg.grown0 ah).cell Z) Z (Ym (c := q.run - 1) Z Z (by omega) (by omega) (by omega) Z (Xb (v := vi 0) Z Z (Ya (o' := (q.run - 1).toNat * 8) Y6 Z Z (by omega) (by omega) (by omega) Z (Xd (o' := (q.run - 1).toNat * 8 + 4) Q8 Z Z Z ?_))))))))))))
 have cj := (bg.grown0 ah)
 refine Jh (g := MTh.cells) (j := 4) (z := (mAt E (q.run - 1).toNat)) (z' := (⟨⟨(mAt E (q.run - 1).toNat).t.kind, (mAt E (q.run - 1).toNat).t.lab, (mAt E (q.run - 1).toNat).t.ve, 0, (mAt E (q.run - 1).toNat).t.slots, (mAt E (q.run - 1).toNat).t.queue, (mAt E (q.run - 1).toNat).t.to⟩, (mAt E (q.run - 1).toNat).sa, (mAt E (q.run - 1).toNat).sc, (mAt E (q.run - 1).toNat).qa, (mAt E (q.run - 1).toNat).qc⟩ : MTh)) (v := vi 0) Xz Z Z Z Yp cj (xg E (q.run - 1).toNat) (by omega) Z Z ?_
 intro ia dq bt
 have cy : RowsO 33 3 lo ia (E.set (q.run - 1).toNat (⟨⟨(mAt E (q.run - 1).toNat).t.kind, (mAt E (q.run - 1).toNat).t.lab, (mAt E (q.run - 1).toNat).t.ve, 0, (mAt E (q.run - 1).toNat).t.slots, (mAt E (q.run - 1).toNat).t.queue, (mAt E (q.run - 1).toNat).t.to⟩, (mAt E (q.run - 1).toNat).sa, (mAt E (q.run - 1).toNat).sc, (mAt E (q.run - 1).toNat).qa, (mAt E (q.run - 1).toNat).qc⟩ : MTh)) := RowsO.set (RowsO.own (RowsO.low ba ah) bt cj (by decide) (by decide)) (lq (q.run - 1).toNat E.length) ⟨rfl, rfl, rfl⟩ ⟨rfl, rfl, rfl⟩
 refine Xc (Xa (Xb (v := .slice (pa B) E.length cap) (ac.trans (congrArg (fun n : Nat => Value.slice (pa B) n cap) ai.symm)) Z (Xb (v := vi 0) Z Z (Xf (v := .slice (pa B) E.length cap) Z Z (Xf (v := vi 0) Z Z (Xc (Xt ?_)))))))
 have hf : doCall (tabT ms) q = (tabT (E.set (q.run - 1).toNat (⟨⟨(mAt E (q.run - 1).toNat).t.kind, (mAt E (q.run - 1).toNat).t.lab, (mAt E (q.run - 1).toNat).t.ve, 0, (mAt E (q.run - 1).toNat).t.slots, (mAt E (q.run - 1).toNat).t.queue, (mAt E (q.run - 1).toNat).t.to⟩, (mAt E (q.run - 1).toNat).sa, (mAt E (q.run - 1).toNat).sc, (mAt E (q.run - 1).toNat).qa, (mAt E (q.run - 1).toNat).qc⟩ : MTh)), 0) := Cr ak an bd av gy rfl
 exact ⟨.tuple #[.slice (pa B) E.length cap, vi 0], Hl Z Z Z, E.set (q.run - 1).toNat (⟨⟨(mAt E (q.run - 1).toNat).t.kind, (mAt E (q.run - 1).toNat).t.lab, (mAt E (q.run - 1).toNat).t.ve, 0, (mAt E (q.run - 1).toNat).t.slots, (mAt E (q.run - 1).toNat).t.queue, (mAt E (q.run - 1).toNat).t.to⟩, (mAt E (q.run - 1).toNat).sa, (mAt E (q.run - 1).toNat).sc, (mAt E (q.run - 1).toNat).qa, (mAt E (q.run - 1).toNat).qc⟩ : MTh), by rw [hf, ai], by first | omega | (simp only [List.length_set, Yc]; try omega), dq, cy, by rw [hf], (KeepsI.own bp bt cj (by decide) (by omega) (by omega))⟩
 have gz := Qu bm
 refine Xy (Qc (Xv (Xa (Xb (v := .slice (pa B) E.length cap) (ac.trans (congrArg (fun n : Nat => Value.slice (pa B) n cap) ai.symm)) Z (Xd (o' := 1) Y9 ad Z Z (Xh (v := vi q.run) Xz Z ((cg.grown0 ah).cell Z) Z (Ym (c := q.run - 1) Z Z (by omega) (by omega) (by omega) Z (Xb (v := vi (far (tabT ms) q (rAt (mAt ms (q.run - 1).toNat).t.slots (q.a).toNat)).2) Z Z (Ya (o' := (q.run - 1).toNat * 8) Y6 Z Z (by omega) (by omega) (by omega) Z (Xd (o' := (q.run - 1).toNat * 8 + 4) Q8 Z Z Z ?_))))))))))
 have ck := (bg.grown0 ah)
 refine Jh (g := MTh.cells) (j := 4) (z := (mAt E (q.run - 1).toNat)) (z' := (⟨⟨(mAt E (q.run - 1).toNat).t.kind, (mAt E (q.run - 1).toNat).t.lab, (mAt E (q.run - 1).toNat).t.ve, (far (tabT ms) q (rAt (mAt ms (q.run - 1).toNat).t.slots (q.a).toNat)).2, (mAt E (q.run - 1).toNat).t.slots, (mAt E (q.run - 1).toNat).t.queue, (mAt E (q.run - 1).toNat).t.to⟩, (mAt E (q.run - 1).toNat).sa, (mAt E (q.run - 1).toNat).sc, (mAt E (q.run - 1).toNat).qa, (mAt E (q.run - 1).toNat).qc⟩ : MTh)) (v := vi (far (tabT ms) q (rAt (mAt ms (q.run - 1).toNat).t.slots (q.a).toNat)).2) Xz Z Z Z Yp ck (xg E (q.run - 1).toNat) (by omega) Z Z ?_
 intro ib dr bu
 have cz : RowsO 33 3 lo ib (E.set (q.run - 1).toNat (⟨⟨(mAt E (q.run - 1).toNat).t.kind, (mAt E (q.run - 1).toNat).t.lab, (mAt E (q.run - 1).toNat).t.ve, (far (tabT ms) q (rAt (mAt ms (q.run - 1).toNat).t.slots (q.a).toNat)).2, (mAt E (q.run - 1).toNat).t.slots, (mAt E (q.run - 1).toNat).t.queue, (mAt E (q.run - 1).toNat).t.to⟩, (mAt E (q.run - 1).toNat).sa, (mAt E (q.run - 1).toNat).sc, (mAt E (q.run - 1).toNat).qa, (mAt E (q.run - 1).toNat).qc⟩ : MTh)) := RowsO.set (RowsO.own (RowsO.low ba ah) bu ck (by decide) (by decide)) (lq (q.run - 1).toNat E.length) ⟨rfl, rfl, rfl⟩ ⟨rfl, rfl, rfl⟩
 refine Xc (Xa (Xb (v := .slice (pa B) E.length cap) (ac.trans (congrArg (fun n : Nat => Value.slice (pa B) n cap) ai.symm)) Z (Xb (v := vi (far (tabT ms) q (rAt (mAt ms (q.run - 1).toNat).t.slots (q.a).toNat)).2) Z Z (Xf (v := .slice (pa B) E.length cap) Z Z (Xf (v := vi (far (tabT ms) q (rAt (mAt ms (q.run - 1).toNat).t.slots (q.a).toNat)).2) Z Z (Xc (Xt ?_)))))))
 have hf : doCall (tabT ms) q = (tabT (E.set (q.run - 1).toNat (⟨⟨(mAt E (q.run - 1).toNat).t.kind, (mAt E (q.run - 1).toNat).t.lab, (mAt E (q.run - 1).toNat).t.ve, (far (tabT ms) q (rAt (mAt ms (q.run - 1).toNat).t.slots (q.a).toNat)).2, (mAt E (q.run - 1).toNat).t.slots, (mAt E (q.run - 1).toNat).t.queue, (mAt E (q.run - 1).toNat).t.to⟩, (mAt E (q.run - 1).toNat).sa, (mAt E (q.run - 1).toNat).sc, (mAt E (q.run - 1).toNat).qa, (mAt E (q.run - 1).toNat).qc⟩ : MTh)), (far (tabT ms) q (rAt (mAt ms (q.run - 1).toNat).t.slots (q.a).toNat)).2) := E6 ak an bd av gz rfl
 exact ⟨.tuple #[.slice (pa B) E.length cap, vi (far (tabT ms) q (rAt (mAt ms (q.run - 1).toNat).t.slots (q.a).toNat)).2], Hl Z Z Z, E.set (q.run - 1).toNat (⟨⟨(mAt E (q.run - 1).toNat).t.kind, (mAt E (q.run - 1).toNat).t.lab, (mAt E (q.run - 1).toNat).t.ve, (far (tabT ms) q (rAt (mAt ms (q.run - 1).toNat).t.slots (q.a).toNat)).2, (mAt E (q.run - 1).toNat).t.slots, (mAt E (q.run - 1).toNat).t.queue, (mAt E (q.run - 1).toNat).t.to⟩, (mAt E (q.run - 1).toNat).sa, (mAt E (q.run - 1).toNat).sc, (mAt E (q.run - 1).toNat).qa, (mAt E (q.run - 1).toNat).qc⟩ : MTh), by rw [hf, ai], by first | omega | (simp only [List.length_set, Yc]; try omega), dr, cz, by rw [hf], (KeepsI.own bp bu ck (by decide) (by omega) (by omega))⟩
 refine Xy (Qc (Xv (Xa (Xb (v := .slice (pa B) ms.length cap) ac Z (Xd (o' := 1) Y9 ad Z Z (Xh (v := vi q.run) Xz Z ((al.grown0 af).cell Z) Z (Ym (c := q.run - 1) Z Z (by omega) (by omega) (by omega) Z (Xb (v := vi (check1 (tabT ms) q)) ar Z (Ya (o' := (q.run - 1).toNat * 8) Y6 Z Z (by omega) (by omega) (by omega) Z (Xd (o' := (q.run - 1).toNat * 8 + 4) Q8 Z Z Z ?_))))))))))
 have cl := (cf.grown0 af)
 refine Jh (g := MTh.cells) (j := 4) (z := (mAt ms (q.run - 1).toNat)) (z' := (⟨⟨(mAt ms (q.run - 1).toNat).t.kind, (mAt ms (q.run - 1).toNat).t.lab, (mAt ms (q.run - 1).toNat).t.ve, check1 (tabT ms) q, (mAt ms (q.run - 1).toNat).t.slots, (mAt ms (q.run - 1).toNat).t.queue, (mAt ms (q.run - 1).toNat).t.to⟩, (mAt ms (q.run - 1).toNat).sa, (mAt ms (q.run - 1).toNat).sc, (mAt ms (q.run - 1).toNat).qa, (mAt ms (q.run - 1).toNat).qc⟩ : MTh)) (v := vi (check1 (tabT ms) q)) Xz Z Z Z Yp cl (xg ms (q.run - 1).toNat) (by omega) Z Z ?_
 intro ic dt bv
 have c8 : RowsO 33 3 lo ic (ms.set (q.run - 1).toNat (⟨⟨(mAt ms (q.run - 1).toNat).t.kind, (mAt ms (q.run - 1).toNat).t.lab, (mAt ms (q.run - 1).toNat).t.ve, check1 (tabT ms) q, (mAt ms (q.run - 1).toNat).t.slots, (mAt ms (q.run - 1).toNat).t.queue, (mAt ms (q.run - 1).toNat).t.to⟩, (mAt ms (q.run - 1).toNat).sa, (mAt ms (q.run - 1).toNat).sc, (mAt ms (q.run - 1).toNat).qa, (mAt ms (q.run - 1).toNat).qc⟩ : MTh)) := RowsO.set (RowsO.own (RowsO.low a9 af) bv cl (by decide) (by decide)) (lq (q.run - 1).toNat ms.length) ⟨rfl, rfl, rfl⟩ ⟨rfl, rfl, rfl⟩
 refine Xc (Xa (Xb (v := .slice (pa B) ms.length cap) ac Z (Xb (v := vi (check1 (tabT ms) q)) ar Z (Xf (v := .slice (pa B) ms.length cap) Z Z (Xf (v := vi (check1 (tabT ms) q)) Z Z (Xc (Xt ?_)))))))
 have hf : doCall (tabT ms) q = (tabT (ms.set (q.run - 1).toNat (⟨⟨(mAt ms (q.run - 1).toNat).t.kind, (mAt ms (q.run - 1).toNat).t.lab, (mAt ms (q.run - 1).toNat).t.ve, check1 (tabT ms) q, (mAt ms (q.run - 1).toNat).t.slots, (mAt ms (q.run - 1).toNat).t.queue, (mAt ms (q.run - 1).toNat).t.to⟩, (mAt ms (q.run - 1).toNat).sa, (mAt ms (q.run - 1).toNat).sc, (mAt ms (q.run - 1).toNat).qa, (mAt ms (q.run - 1).toNat).qc⟩ : MTh)), check1 (tabT ms) q) := E5 ak an bd rfl
 exact ⟨.tuple #[.slice (pa B) ms.length cap, vi (check1 (tabT ms) q)], Hl Z Z Z, ms.set (q.run - 1).toNat (⟨⟨(mAt ms (q.run - 1).toNat).t.kind, (mAt ms (q.run - 1).toNat).t.lab, (mAt ms (q.run - 1).toNat).t.ve, check1 (tabT ms) q, (mAt ms (q.run - 1).toNat).t.slots, (mAt ms (q.run - 1).toNat).t.queue, (mAt ms (q.run - 1).toNat).t.to⟩, (mAt ms (q.run - 1).toNat).sa, (mAt ms (q.run - 1).toNat).sc, (mAt ms (q.run - 1).toNat).qa, (mAt ms (q.run - 1).toNat).qc⟩ : MTh), by rw [hf], by first | omega | (simp only [List.length_set, Yc]; try omega), dt, c8, by rw [hf], (KeepsI.own bj bv cl (by decide) (by omega) (by omega))⟩
end Go.Proofs.YtlhhijnmacogcaaGreatDoor
end
section
namespace Go.Dw
def chkAll (ts : List Th) (q : Cl) : Int := if callPoss ts q = true then check1 ts q else -1
def chkSees (ts : List Th) (run th : Int) : Bool := ((tableOk ts && kindAt ts run 3) && inR th 1 (ts.length : Int)) && sees ts run th
def tabLive (ts : List Th) (r : Rt) : Bool := (tableOk ts && rightOk r) && live ts r
def kindsOf (c : Int) : List Int := if c = 1 ∨ c = 2 then [1] else if c = 4 ∨ c = 5 then [2] else if c = 6 ∨ c = 7 then [4] else if c = 9 then [5] else [1, 2, 4]
theorem Dk (c x : Int) : (kindsOf c).any (fun y => decide (y = x)) = kindFor c x := by
  have e : ∀ a b : Int, decide (a = b) = decide (b = a) := fun a b => by rw [Bool.eq_iff_iff]; simp [eq_comm]
  unfold kindsOf kindFor
  split
  · simp [e 1 x]
  split
  · simp [e 2 x]
  split
  · simp [e 4 x]
  split
  · simp [e 5 x]
  · simp [e 1 x, e 2 x, e 4 x, Bool.or_assoc]
section
variable {ts : List Th} {q : Cl}
theorem Wm : -3 ≤ chkAll ts q ∧ chkAll ts q ≤ 0 := by
  have := Kl ts q
  unfold chkAll
  split <;> omega
theorem Qz (h : callPoss ts q = true) : chkAll ts q = check1 ts q := by unfold chkAll; rw [if_pos h]
theorem Nt (h : callPoss ts q = false) : chkAll ts q = -1 := by unfold chkAll; rw [h]; rfl
theorem H2 (h : (((!tableOk ts) || (!callOk q)) || (!kindAt ts q.run 3)) = true) : callPoss ts q = false := by
  unfold callPoss
  cases h1 : tableOk ts <;> cases h2 : callOk q <;> cases h3 : kindAt ts q.run 3 <;> simp_all
theorem Wl (h : (((!tableOk ts) || (!callOk q)) || (!kindAt ts q.run 3)) = false) : callPoss ts q = true := by
  unfold callPoss
  cases h1 : tableOk ts <;> cases h2 : callOk q <;> cases h3 : kindAt ts q.run 3 <;> simp_all
theorem U4 (h : ¬ chkAll ts q = -1) : callPoss ts q = true := by
  unfold chkAll at h
  split at h
  · assumption
  · exact absurd rfl h
theorem Hs (h : ¬ chkAll ts q = -1) (h3 : ¬ q.kind = 3) : (1 ≤ (slotAt ts q.run q.a).th ∧ (slotAt ts q.run q.a).th ≤ (ts.length : Int)) ∧ kindFor q.kind (thAt ts (slotAt ts q.run q.a).th).kind = true ∧ (need0 q.kind = true → (slotAt ts q.run q.a).rd = true) ∧ (need1 q.kind = true → (slotAt ts q.run q.a).wr = true) := by
  have hp := U4 h
  obtain ⟨hT, hc, hr⟩ := Yd hp
  have hs := Vb hT (Qq hr).1 q.a
  rw [Qz hp] at h
  unfold check1 at h
  rw [if_neg h3] at h
  split at h
  · exact absurd rfl h
  rename_i h1
  unfold chk1 at h1
  simp only [Bool.or_eq_true, Bool.and_eq_true, Bool.not_eq_true', decide_eq_true_eq, not_or, not_and, Bool.not_eq_false] at h1
  obtain ⟨⟨⟨h0, hk⟩, hr1⟩, hw1⟩ := h1
  refine ⟨?_, hk, hr1, hw1⟩
  have h2 := hs.2
  unfold rightTo at h2
  rw [Bool.or_eq_true] at h2
  rcases h2 with h2 | h2
  · exact absurd (of_decide_eq_true h2) h0
  · exact Qh.1 (Bool.and_eq_true_iff.1 h2).1
theorem Lp (h : ¬ chkAll ts q = -1) (h2 : ¬ chkAll ts q = -2) (h3 : ¬ q.kind = 3) : (need0 q.kind = true → sees ts q.run (slotAt ts q.run q.a).th = true) ∧ (need1 q.kind = true → touches ts q.run (slotAt ts q.run q.a).th = true) := by
  have hp := U4 h
  rw [Qz hp] at h h2
  unfold check1 at h h2
  rw [if_neg h3] at h h2
  split at h
  · exact absurd rfl h
  rename_i h1
  rw [if_neg h1] at h2
  split at h2
  · exact absurd rfl h2
  rename_i h4
  unfold chk2 at h4
  simp only [Bool.or_eq_true, Bool.and_eq_true, Bool.not_eq_true', not_or, not_and, Bool.not_eq_false] at h4
  exact h4
theorem W5 (h : chkAll ts q = 0) (h3 : ¬ q.kind = 3) (hs : sees ts q.run (slotAt ts q.run q.a).th = true) : live ts (slotAt ts q.run q.a) = true := by
  have hp := U4 (ts := ts) (q := q) (by omega)
  rw [Qz hp] at h
  unfold check1 at h
  rw [if_neg h3] at h
  split at h
  · exact absurd h (by decide)
  split at h
  · exact absurd h (by decide)
  split at h
  · exact absurd h (by decide)
  rename_i h4
  unfold chk3 at h4
  rw [hs] at h4
  simpa using h4
theorem Mw (h : chkAll ts q = -3) (h3 : ¬ q.kind = 3) : sees ts q.run (slotAt ts q.run q.a).th = true ∧ live ts (slotAt ts q.run q.a) = false := by
  have hp := U4 (ts := ts) (q := q) (by omega)
  rw [Qz hp] at h
  unfold check1 at h
  rw [if_neg h3] at h
  split at h
  · exact absurd h (by decide)
  split at h
  · exact absurd h (by decide)
  split at h
  · rename_i h4
    unfold chk3 at h4
    simpa using h4
  · exact absurd h (by decide)
theorem S7 (hT : tableOk ts = true) (hk : kindAt ts q.run 3 = true) {t : Int} (ht : 1 ≤ t ∧ t ≤ (ts.length : Int)) : chkSees ts q.run t = sees ts q.run t := by
  unfold chkSees
  rw [hT, hk, Qh.2 ht]
  rfl
theorem Ts (hT : tableOk ts = true) (hk : kindAt ts q.run 3 = true) : tabLive ts (slotAt ts q.run q.a) = live ts (slotAt ts q.run q.a) := by
  unfold tabLive
  rw [hT, (Vb hT (Qq hk).1 q.a).1]
  rfl
theorem Zb {ms : List MTh} {run th : Int} (hT : tableOk (tabT ms) = true) (hr : 1 ≤ run ∧ run ≤ (ms.length : Int)) (ht : 1 ≤ th ∧ th ≤ (ms.length : Int)) : labelFlow (mAt ms (th - 1).toNat).t.lab (mAt ms (run - 1).toNat).t.lab = sees (tabT ms) run th := by
  rw [← Tq]
  unfold labelFlow
  rw [U8 hT (i := (th - 1).toNat) (by omega), U8 hT (i := (run - 1).toNat) (by omega)]
  rfl
theorem Ce {ms : List MTh} {run th : Int} (hT : tableOk (tabT ms) = true) (hr : 1 ≤ run ∧ run ≤ (ms.length : Int)) (ht : 1 ≤ th ∧ th ≤ (ms.length : Int)) : labelFlow (mAt ms (run - 1).toNat).t.lab (mAt ms (th - 1).toNat).t.lab = touches (tabT ms) run th := by
  rw [← Hx]
  unfold labelFlow
  rw [U8 hT (i := (th - 1).toNat) (by omega), U8 hT (i := (run - 1).toNat) (by omega)]
  rfl
theorem M4 {c : Int} : (kindsOf c).length ≤ 3 := by
  unfold kindsOf
  repeat' split
  all_goals decide
theorem Oy {ms : List MTh} {r : Rt} (h : (decide (r.th = 0) || !kindFor q.kind (mAt ms (r.th - 1).toNat).t.kind) = true) : chk1m ms q r = true := by unfold chk1m; rw [h]; rfl
theorem Oz {ms : List MTh} {r : Rt} (h : (decide (r.th = 0) || !kindFor q.kind (mAt ms (r.th - 1).toNat).t.kind) = false) (h2 : ((need0 q.kind && !r.rd) || (need1 q.kind && !r.wr)) = true) : chk1m ms q r = true := by unfold chk1m; rw [h, Bool.false_or]; exact h2
theorem S8 {ms : List MTh} {r : Rt} (h : (decide (r.th = 0) || !kindFor q.kind (mAt ms (r.th - 1).toNat).t.kind) = false) (h2 : ((need0 q.kind && !r.rd) || (need1 q.kind && !r.wr)) = false) : chk1m ms q r = false := by unfold chk1m; rw [h, Bool.false_or]; exact h2
theorem P1 {r : Rt} (h : rightOk r = true) (h0 : decide (r.th = 0) = true) : r = Rt.zero := by
  rw [← N8 h0] at h
  exact of_decide_eq_true h
theorem G7 {ms : List MTh} {i j : Nat} {m : MTh} (hi : i < ms.length) (hne : ¬ j = i) : (ms.set j m)[i]? = some (mAt ms i) := by
  rw [List.getElem?_set_ne hne]
  exact Jw hi
theorem Gu {ms : List MTh} {i j : Nat} {m : MTh} {α : Type} {f : MTh → α} (hi : i < ms.length) (hne : ¬ j = i) : f (mAt ms i) = f (mAt (ms.set j m) i) := by
  have h := G7 (m := m) hi hne
  have h2 := Jw (ms := ms.set j m) (i := i) (by rw [List.length_set]; exact hi)
  rw [h] at h2
  rw [Option.some.inj h2]
end
end Go.Dw
end
section
namespace Go.Dw
section
variable {ts : List Th} {q : Cl}
def doPre (ts : List Th) (q : Cl) : List Th :=
  if check1 ts q < 0 then ts else if q.kind = 3 then putSl ts q.run q.b (lessBits (slotAt ts q.run q.a) q.n) else if live ts (slotAt ts q.run q.a) = true then (far ts q (slotAt ts q.run q.a)).1 else ts
def doAns (ts : List Th) (q : Cl) : Int :=
  if check1 ts q < 0 then check1 ts q else if q.kind = 3 then check1 ts q else if live ts (slotAt ts q.run q.a) = true then told ts q (slotAt ts q.run q.a) else check1 ts q
theorem Nu : doCall ts q = (setNum (doPre ts q) q.run (doAns ts q), doAns ts q) := by
  unfold doCall doPre doAns
  split
  · rfl
  split
  · rfl
  split <;> rfl
def Like (a b : Th) : Prop := b.kind = a.kind ∧ b.lab = a.lab ∧ b.to = a.to ∧ a.ve ≤ b.ve
theorem Like.refl (a : Th) : Like a a := ⟨rfl, rfl, rfl, Int.le_refl _⟩
theorem Like.trans {a b c : Th} (h : Like a b) (k : Like b c) : Like a c := ⟨k.1.trans h.1, k.2.1.trans h.2.1, k.2.2.1.trans h.2.2.1, Int.le_trans h.2.2.2 k.2.2.2⟩
theorem U0 {us : List Th} {k : Int} {t : Th} (hk : 1 ≤ k ∧ k ≤ (us.length : Int)) (h : Like (thAt us k) t) (j : Int) (hj : 1 ≤ j) : Like (thAt us j) (thAt (setTh us k t) j) := by
  rw [Jf hk j hj]
  split
  · rename_i e; rw [e]; exact h
  · exact Like.refl _
theorem R0 {r : Rt} (h : FarOk ts q r) (j : Int) (hj : 1 ≤ j) : Like (thAt ts j) (thAt (far ts q r).1 j) := by
  have hrun := (Qq h.run).1
  have hc := Yw h.call
  have hn := h.copy
  unfold far
  split
  · exact Like.refl _
  split
  · refine U0 h.th ?_ j hj; exact ⟨rfl, rfl, rfl, Int.le_refl _⟩
  split
  · refine U0 hrun ?_ j hj; exact ⟨rfl, rfl, rfl, Int.le_refl _⟩
  split
  · refine U0 h.th ?_ j hj; exact ⟨rfl, rfl, rfl, Int.le_refl _⟩
  split
  · split
    · refine U0 h.th ?_ j hj; exact ⟨rfl, rfl, rfl, Int.le_refl _⟩
    · exact Like.refl _
  split
  · split
    · exact Like.refl _
    · refine U0 h.th ?_ j hj; exact ⟨rfl, rfl, rfl, Int.le_refl _⟩
  split
  · split
    · refine U0 h.th ?_ j hj; exact ⟨rfl, rfl, rfl, by show _ ≤ (_ : Int) + 1; omega⟩
    · exact Like.refl _
  · rename_i e1 e2 e4 e5 e6 e7 e8
    have h5 := (Q5 h.kind hc.1).2.2.2.2.2.2.2 (by omega)
    have hg := Qq (Hd h.tab h.th h5)
    have h1 := U0 (t := { thAt ts (thAt ts r.th).to with num := q.n % 2 }) hg.1 ⟨rfl, rfl, rfl, Int.le_refl _⟩ j hj
    have hth : 1 ≤ r.th ∧ r.th ≤ ((setNum ts (thAt ts r.th).to (q.n % 2)).length : Int) := by unfold setNum; rw [Q7]; exact h.th
    show Like (thAt ts j) (thAt (setTh (setNum ts (thAt ts r.th).to (q.n % 2)) r.th _) j)
    rw [Jf hth j hj]
    split
    · rename_i e; rw [e]; exact ⟨rfl, rfl, rfl, Int.le_refl _⟩
    · exact h1
theorem My (hp : callPoss ts q = true) : (doPre ts q).length = ts.length := by
  unfold doPre
  split
  · rfl
  rename_i h0
  split
  · exact Q7
  rename_i h3
  split
  · rename_i hl
    exact (Ps (W8 hp h0 h3 hl)).2.1
  · rfl
theorem To (hp : callPoss ts q = true) : 1 ≤ q.run ∧ q.run ≤ ((doPre ts q).length : Int) := by rw [My hp]; exact (Qq (Yd hp).2.2).1
theorem E9 {r : Rt} (h : FarOk ts q r) : (0 ≤ (far ts q r).2 ∨ ((far ts q r).2 = -4 ∧ (q.kind = 6 ∨ q.kind = 7 ∨ q.kind = 8))) ∧ ((far ts q r).2 ≤ 0 ∨ q.kind = 1 ∨ q.kind = 7) := by
  have hc := Yw h.call
  have hk := Q5 h.kind hc.1
  have hrow := Vk h.tab h.th
  unfold far
  split
  · rename_i e
    have h4 := (Qv hrow.1).2.2.2.1
    unfold numOk at h4
    rw [if_pos (Or.inl (hk.1 e))] at h4
    exact ⟨Or.inl (Qh.1 h4).1, Or.inr (Or.inl e)⟩
  split
  · exact ⟨Or.inl (Int.le_refl 0), Or.inl (Int.le_refl 0)⟩
  split
  · exact ⟨Or.inl (Int.le_refl 0), Or.inl (Int.le_refl 0)⟩
  split
  · exact ⟨Or.inl (Int.le_refl 0), Or.inl (Int.le_refl 0)⟩
  split
  · rename_i e
    split
    · exact ⟨Or.inl (Int.le_refl 0), Or.inl (Int.le_refl 0)⟩
    · exact ⟨Or.inr ⟨rfl, Or.inl e⟩, Or.inl (show (-4 : Int) ≤ 0 by decide)⟩
  split
  · rename_i e
    have hp := Hv hrow.1 (hk.2.2.2.2.2.1 e)
    split
    · exact ⟨Or.inr ⟨rfl, Or.inr (Or.inl e)⟩, Or.inl (show (-4 : Int) ≤ 0 by decide)⟩
    · rename_i hl
      have := Qh.1 (List.all_eq_true.1 hp.2 _ (List.mem_of_getElem? (Gs (i := 0) (by omega))))
      exact ⟨Or.inl this.1, Or.inr (Or.inr e)⟩
  split
  · rename_i e
    split
    · exact ⟨Or.inl (Int.le_refl 0), Or.inl (Int.le_refl 0)⟩
    · exact ⟨Or.inr ⟨rfl, Or.inr (Or.inr e)⟩, Or.inl (show (-4 : Int) ≤ 0 by decide)⟩
  · exact ⟨Or.inl (Int.le_refl 0), Or.inl (Int.le_refl 0)⟩
theorem Mx (hp : callPoss ts q = true) : ((0 ≤ doAns ts q ∨ (doAns ts q = -4 ∧ (q.kind = 6 ∨ q.kind = 7 ∨ q.kind = 8))) ∨ (check1 ts q < 0 ∧ doAns ts q = check1 ts q)) ∧ (doAns ts q ≤ 0 ∨ q.kind = 1 ∨ q.kind = 7) := by
  have hr := Kl ts q
  unfold doAns
  split
  · rename_i h0; exact ⟨Or.inr ⟨h0, rfl⟩, Or.inl hr.2⟩
  rename_i h0
  split
  · exact ⟨Or.inl (Or.inl (by omega)), Or.inl hr.2⟩
  rename_i h3
  split
  · rename_i hl
    have h := E9 (W8 hp h0 h3 hl)
    unfold told
    split
    · exact ⟨Or.inl h.1, h.2⟩
    · exact ⟨Or.inl (Or.inl (Int.le_refl 0)), Or.inl (Int.le_refl 0)⟩
  · exact ⟨Or.inl (Or.inl (by omega)), Or.inl hr.2⟩
theorem Eo {us vs : List Th} (hl : us.length = vs.length) (h : ∀ j : Int, 1 ≤ j → j ≤ (us.length : Int) → thAt us j = thAt vs j) : us = vs := by
  refine List.ext_getElem? fun i => ?_
  by_cases hi : i < us.length
  · have h1 := h ((i : Int) + 1) (by omega) (by omega)
    have e : ((i : Int) + 1 - 1).toNat = i := by omega
    have h2 := Nb (ts := us) (k := (i : Int) + 1) ⟨by omega, by omega⟩
    have h3 := Nb (ts := vs) (k := (i : Int) + 1) ⟨by omega, by omega⟩
    rw [e] at h2 h3
    rw [h2, h3, h1]
  · rw [List.getElem?_eq_none (by omega), List.getElem?_eq_none (by omega)]
theorem Sn {k n : Int} (hk : 1 ≤ k ∧ k ≤ (ts.length : Int)) : setNum (setNum ts k n) k (thAt ts k).num = ts := by
  unfold setNum
  rw [Pf]
  refine Eo Q7 fun j hj _ => ?_
  rw [Jf hk j hj]
  split
  · rename_i e
    rw [Jf hk k hk.1, if_pos rfl, e]
  · rfl
theorem Ve (h : check1 ts q < 0) : doAns ts q = check1 ts q ∧ doPre ts q = ts := by
  unfold doAns doPre
  rw [if_pos h, if_pos h]
  exact ⟨rfl, rfl⟩
theorem Jb (h : callPoss ts q = true) : callDo ts q = doCall ts q := by unfold callDo; rw [if_pos h]
theorem Gp (h : callPoss ts q = false) : callDo ts q = ([], -1) := by unfold callDo; rw [h]; rfl
theorem TabG.nil {lo : Nat} {w : World} {a : Option Addr} : TabG lo w a [] := ⟨fun k x h => by simp at h, fun m hm => by cases hm⟩
theorem Qn {xs : List MTh} (h : tabT xs = (callDo ts q).1) : TabLen xs := by
  cases hp : callPoss ts q with
  | true => exact TabLen.ok (by rw [h, Jb hp]; exact (Wc hp).1)
  | false =>
    rw [Gp hp] at h
    have : xs = [] := List.map_eq_nil_iff.1 h
    rw [this]
    intro m hm
    cases hm
theorem Y8 {xs : List MTh} (h : tabT xs = (callDo ts q).1) : xs.length ≤ 8 := by
  cases hp : callPoss ts q with
  | true =>
    have hT : tableOk (tabT xs) = true := by rw [h, Jb hp]; exact (Wc hp).1
    exact (Jk hT).2
  | false =>
    rw [Gp hp] at h
    have : xs = [] := List.map_eq_nil_iff.1 h
    rw [this]
    exact Nat.zero_le _
theorem Qm {ms xs : List MTh} (h : tabT xs = (callDo (tabT ms) q).1) (hp : callPoss (tabT ms) q = true) : xs.length = ms.length := by
  have := congrArg List.length h
  rwa [Jb hp, (Wc hp).2.1, Qa, Qa] at this
def rc (ns : List Int) (k : Int) (j : Nat) : Int := if (j : Int) < k then iAt ns j else 0
theorem Ur {ns : List Int} {k : Int} {j : Nat} (h : (ns.length : Int) ≤ k) : rc ns k j = iAt ns j := by
  unfold rc
  split
  · rfl
  · unfold iAt
    rw [List.getD_eq_getElem?_getD, List.getElem?_eq_none (by omega)]
    rfl
theorem q_0 {l : List Int} (h : l.length = 0) (n : Int) : [n] = l ++ [n] := by
  rw [List.length_eq_zero_iff.1 h]; rfl
theorem q_1 {l : List Int} (h : l.length = 1) (n : Int) : [iAt l 0, n] = l ++ [n] := by
  obtain ⟨a, rfl⟩ := List.length_eq_one_iff.1 h
  rfl
theorem q_2 {l : List Int} (h : l.length = 2) (n : Int) : [iAt l 0, iAt l 1, n] = l ++ [n] := by
  match l, h with
  | [a, b], _ => rfl
theorem t_1 {l : List Int} (h : l.length = 1) : [] = l.drop 1 := by
  match l, h with
  | [a], _ => rfl
theorem t_2 {l : List Int} (h : l.length = 2) : [iAt l 1] = l.drop 1 := by
  match l, h with
  | [a, b], _ => rfl
theorem t_3 {l : List Int} (h : l.length = 3) : [iAt l 1, iAt l 2] = l.drop 1 := by
  match l, h with
  | [a, b, c], _ => rfl
theorem P7 {zs ms : List MTh} {k : Nat} {m' : MTh} (h : (tabT zs).take k = (tabT ms).take k) (hk : k < zs.length) (hk2 : k < ms.length) (e : m'.t = (mAt ms k).t) : (tabT (zs.set k m')).take (k + 1) = (tabT ms).take (k + 1) := by
  apply List.ext_getElem?
  intro i
  rw [List.getElem?_take, List.getElem?_take]
  by_cases hi : i < k + 1
  · rw [if_pos hi, if_pos hi]
    unfold tabT
    rw [List.getElem?_map, List.getElem?_map, List.getElem?_set]
    by_cases e2 : k = i
    · subst e2
      rw [if_pos rfl, if_pos hk, Jw hk2]
      simp [e]
    · rw [if_neg e2]
      have h3 := congrArg (fun l => l[i]?) h
      simp only [List.getElem?_take, tabT, List.getElem?_map] at h3
      rw [if_pos (by omega), if_pos (by omega)] at h3
      exact h3
  · rw [if_neg hi, if_neg hi]
theorem P8 {zs ms : List MTh} {k : Nat} (h : (tabT zs).take k = (tabT ms).take k) (h1 : zs.length ≤ k) (h2 : ms.length ≤ k) : tabT zs = tabT ms := by
  rwa [List.take_of_length_le (by rw [Qa]; exact h1), List.take_of_length_le (by rw [Qa]; exact h2)] at h
theorem Tn {TR TI lo n : Nat} {w : World} : RowsO TR TI lo w (List.replicate n MTh.zero) := by
  refine ⟨fun m hm => ?_, fun i j S hi hj _ e => ?_⟩
  · obtain ⟨_, rfl⟩ := List.mem_replicate.1 hm
    exact ⟨OwnN.nil, OwnN.nil⟩
  · exfalso
    have h1 := List.mem_of_getElem? (Jw hi)
    have h2 := (List.mem_replicate.1 h1).2
    rw [h2] at e
    cases e
theorem Cx {r : Rt} (h : FarOk ts q r) : sees (far ts q r).1 q.run r.th = sees ts q.run r.th := by
  have h1 := R0 h q.run (Qq h.run).1.1
  have h2 := R0 h r.th h.th.1
  unfold sees
  rw [h1.2.1, h2.2.1]
theorem Uw (h0 : check1 ts q = 0) (h3 : ¬ q.kind = 3) (hl : live ts (slotAt ts q.run q.a) = false) : doAns ts q = 0 ∧ doPre ts q = ts := by
  have h1 : ¬ check1 ts q < 0 := by omega
  refine ⟨?_, ?_⟩
  · unfold doAns
    rw [if_neg h1, if_neg h3, if_neg (by rw [hl]; exact Bool.false_ne_true)]
    exact h0
  · unfold doPre
    rw [if_neg h1, if_neg h3, if_neg (by rw [hl]; exact Bool.false_ne_true)]
theorem Vl {r : Rt} (hr : slotAt ts q.run q.a = r) (h0 : check1 ts q = 0) (h3 : ¬ q.kind = 3) (hl : live ts r = true) (hF : FarOk ts q r) : doAns ts q = (if sees ts q.run r.th = true then (far ts q r).2 else 0) ∧ doPre ts q = (far ts q r).1 := by
  subst hr
  have h1 : ¬ check1 ts q < 0 := by omega
  refine ⟨?_, ?_⟩
  · unfold doAns told
    rw [if_neg h1, if_neg h3, if_pos hl, Cx hF]
  · unfold doPre
    rw [if_neg h1, if_neg h3, if_pos hl]
theorem Rp {r : Rt} (hr : slotAt ts q.run q.a = r) (h3 : q.kind = 3) : doAns ts q = 0 ∧ doPre ts q = putSl ts q.run q.b (lessBits r q.n) := by
  subst hr
  have hc : check1 ts q = 0 := by unfold check1; rw [if_pos h3]
  have h1 : ¬ check1 ts q < 0 := by omega
  refine ⟨?_, ?_⟩
  · unfold doAns
    rw [if_neg h1, if_pos h3]
    exact hc
  · unfold doPre
    rw [if_neg h1, if_pos h3]
theorem Cj {n : Int} (h : 0 ≤ n ∧ n ≤ 99) : (!decide (bits .and .i64 n 1 = 0)) = decide (n % 2 = 1) ∧ (!decide (bits .and .i64 n 2 = 0)) = decide (n / 2 % 2 = 1) ∧ (!decide (bits .and .i64 n 4 = 0)) = decide (n / 4 % 2 = 1) := by
  have key : ∀ k : Fin 100, (!decide (bits .and .i64 (k.val : Int) 1 = 0)) = decide ((k.val : Int) % 2 = 1) ∧ (!decide (bits .and .i64 (k.val : Int) 2 = 0)) = decide ((k.val : Int) / 2 % 2 = 1) ∧ (!decide (bits .and .i64 (k.val : Int) 4 = 0)) = decide ((k.val : Int) / 4 % 2 = 1) := by decide +kernel
  have h1 := key ⟨n.toNat, by omega⟩
  have e : ((n.toNat : Nat) : Int) = n := by omega
  simp only [e] at h1
  exact h1
theorem Dr {r : Rt} {n : Int} (h : 0 ≤ n ∧ n ≤ 99) : l2Less r (!decide (bits .and .i64 n 1 = 0)) (!decide (bits .and .i64 n 2 = 0)) (!decide (bits .and .i64 n 4 = 0)) = lessBits r n := by
  obtain ⟨h1, h2, h3⟩ := Cj h
  unfold lessBits
  rw [h1, h2, h3]
theorem Kn : (doCall ts q).1 = setNum (doPre ts q) q.run (doAns ts q) := by rw [Nu]
theorem Rz : (doCall ts q).2 = doAns ts q := by rw [Nu]
theorem Zs {ms : List MTh} : (((tableOk (tabT ms) && callOk q) && decide (q.run ≤ (ms.length : Int))) && decide ((mAt ms (q.run - 1).toNat).t.kind = 3)) = callPoss (tabT ms) q := by
  unfold callPoss
  rw [← Hf]
  cases h1 : tableOk (tabT ms) <;> cases h2 : callOk q <;> try rfl
  have hco := Yw h2
  have e : inR q.run 1 (ms.length : Int) = decide (q.run ≤ (ms.length : Int)) := by
    unfold inR
    rw [decide_eq_true hco.2.1.1]
    rfl
  rw [e]
  rfl
end
end Go.Dw
end
section
namespace Go.Proofs.YtlhhijnmacogcaaGreatDoor
open Go.RowKit Go.Dw
set_option maxRecDepth 100000
set_option maxHeartbeats 4000000
set_option linter.unusedSimpArgs false
set_option linter.unusedVariables false
theorem Ih : goFn Tryz.prog 31 = true := by kernel_rfl
theorem P3 (q : Cl) (w : World) (ms : List MTh) (a : Option Addr) (c : Nat) (ht : TabAt w a ms) (hlen : TabLen ms) (hn : ms.length ≤ 1048576) : CallsR Tryz.prog 29 #[.slice a ms.length c, .agg #[vi q.kind, vi q.run, vi q.a, vi q.b, vi q.n]] w (fun v w' => v = vi (chkAll (tabT ms) q) ∧ w.grownBy w' none) := by
 refine Xw (n := 23) Tryz.func29 Z Tryz.ntmps29 Z ?_
 have a9 := World.grownBy.refl w none
 refine Xa (Qd (v := .agg #[vi q.kind, vi q.run, vi q.a, vi q.b, vi q.n]) (cs := #[vi q.kind, vi q.run, vi q.a, vi q.b, vi q.n]) Z Z Z ?_)
 intro am ba O
 have bd := Yi O a9
 have ac := low0 a9 O.grw
 refine Xf (v := vi 0) Z Z (Xc (Xs (X8 (fun f' w' => (f' 0 = .slice a ms.length c ∧ f' 3 = pt am 0 ∧ f' 4 = vi 0 ∧ f' 19 = vb (((!tableOk (tabT ms)) || (!callOk q)) || (!kindAt (tabT ms) q.run 3))) ∧ ba.grownBy w' none) ?_ ?_)))
 refine Xb (v := .slice a ms.length c) Z Z (Xm Dd (Xg Z Xl) Z (G6  _ ms _ _ (TabAt.low ht ac) hlen (by omega)) ?_)
 rintro _ bg ⟨rfl, J⟩
 refine Yj (b' := !tableOk (tabT ms)) Z Z Z (Xb (v := vb (!tableOk (tabT ms))) Z Z ?_)
 rcases Yb (!tableOk (tabT ms)) with G | G
 have aq := Jm G
 iterate 3 refine Xi rfl rfl rfl G rfl ?_
 refine Xo (v := vb true) Z G Z Z (Xb (v := vb true) Z Z ?_)
 iterate 5 refine Xi rfl rfl rfl rfl rfl ?_
 exact Xo (v := vb true) Z Z Z Z (Xc ⟨⟨Z, Z, Z, (cB (by simp [G, aq]))⟩, J⟩)
 have af := Qu G
 refine Xe Z Z Z G ?_
 have aj := (O.blk.grown0 J)
 refine Xq (vs := [vi q.kind, vi q.run, vi q.a, vi q.b, vi q.n]) Y1 Z Z (aj.rangeL 0 5 Z) Z (Xe Z Z Z G (Xm Ih (Xg Z Xl) Z (Pe q _) ?_))
 rintro _ bh ⟨rfl, V⟩
 refine Xe Z Z Z G (Yj (b' := !callOk q) Z Z Z (Xn (v := vb (!callOk q)) Z G Z Z (Xb (v := vb (!callOk q)) Z Z ?_)))
 rcases Yb (!callOk q) with E | E
 have ar := Jm E
 iterate 5 refine Xi rfl rfl rfl E rfl ?_
 exact Xo (v := vb true) Z E Z Z (Xc ⟨⟨Z, Z, Z, (cB (by simp [G, af, E, ar]))⟩, (grown_trans J V)⟩)
 have ag := Qu E
 have bb := Yw ag
 refine Xe Z Z Z E (Xb (v := .slice a ms.length c) Z Z (Xe Z Z Z E (Xd (o' := 1) Y9 Z Z Z (Xe Z Z Z E (Xh (v := vi q.run) Xz Z ((aj.grown0 V).cell Z) Z (Xe Z Z Z E (Xm De (Xg Z (Xg Z Xl)) Z (L1 q.run (by omega) _ ms _ _ (TabAt.low ht (low0 (low0 ac J) V)) hlen (by omega)) ?_)))))))
 rintro _ bi ⟨rfl, ak⟩
 exact Xe Z Z Z E (Yj (b' := !kindAt (tabT ms) q.run 3) Z Z Z (Xn (v := vb (!kindAt (tabT ms) q.run 3)) Z E Z Z (Xc ⟨⟨Z, Z, Z, (cB (by simp [G, af, E, ag]))⟩, (grown_trans (grown_trans J V) ak)⟩)))
 rintro bf bj ⟨⟨an, ao, be, ap⟩, ae⟩
 have ad := low0 ac ae
 refine X2 ap (fun ab => ?_) (fun ab => ?_)
 refine Xa (Xf (v := vi (-1)) Z Z (Xc (Xt (Yo (⟨vi (-1), Yx Z Z, ?_, ad⟩)))))
 exact congrArg (Value.int .i64) (Nt (H2 ab)).symm
 have ah := J3 ab
 have au := J3 ah
 have av := Qu au
 have aw := J4 ah
 have ai := Qu aw
 have bc := Yw ai
 have az := J4 ab
 have a8 := Qu az
 refine Xy (Xv (Xa (Xb (v := .slice a ms.length c) an Z (Xq (vs := [vi q.kind, vi q.run, vi q.a, vi q.b, vi q.n]) Y1 ao Z ((O.blk.grown0 ae).rangeL 0 5 Z) Z (Xm Ip (Xg Z (Xg Z Xl)) Z (L0 q _ ms _ _ (TabAt.low ht ad) hlen (by omega) av ai a8) ?_)))))
 rintro _ bk ⟨rfl, al⟩
 refine Xf (v := vi (check1 (tabT ms) q)) Z Z (Xc (Xt (⟨vi (check1 (tabT ms) q), Yx Z Z, ?_, (low0 ad al)⟩)))
 exact congrArg (Value.int .i64) (Qz (Wl ab)).symm
end Go.Proofs.YtlhhijnmacogcaaGreatDoor
end
section
namespace Go.Proofs.YtlhhijnmacogcaaGreatDoor
open Go.RowKit Go.Extern.Stop Go.Stop Go.Extern
theorem Oo (t : Value) (w : World) :
    Calls Tryz.prog 46 #[.nilIface, t] w fun e w' => e = .returned (.bool false) ∧ w' = w := by
  go_enter Tryz.func46, Tryz.ntmps46
  go_wp2
  go_ret
  exact ⟨rfl, rfl⟩
theorem Pn (t : Addr) (w : World) : (ReflectliteValue.unpack (.iface 68 (.pointer (some t)))).run Tryz.prog w
    = .ok (.agg #[.pointer (some ⟨1, 68, none⟩), .pointer (some ⟨w.heap.size, 0, none⟩), .int .u64 150]) (w.alloc (.cells #[.pointer (some t)] 68)) := by kernel_rfl
theorem Mu (a : Addr) (w : World) : (ReflectliteValue.methodAny (ReflectliteValue.valueError "reflectlite.Value.Type" 0) (fun t _ _ _ => ReflectliteType.toType t) #[.agg #[.pointer (some ⟨1, 68, none⟩), .pointer (some a), .int .u64 150]]).run Tryz.prog w
    = .ok (.iface 121 (.agg #[.pointer (some ⟨1, 68, none⟩)])) w := by kernel_rfl
theorem Nm (h : Value) (w : World) : (Go.method 281 121 (.agg #[h]) "Kind").run Tryz.prog w = .ok (127, h) w := by kernel_rfl
theorem Ms (w : World) : ((ReflectliteType.abiMethod fun t => (fun a : Nat => Value.int IntKind.u8 (a : Int)) <$> Rtype.kind t) #[.pointer (some ⟨1, 68, none⟩)]).run Tryz.prog w = .ok (.int .u8 22) w := by kernel_rfl
theorem Cm (w : World) : ((ReflectliteType.abiMethod fun t => (fun a : Nat => Value.int IntKind.u8 (a : Int)) <$> Rtype.kind t) #[.pointer (some ⟨1, 63, none⟩)]).run Tryz.prog w = .ok (.int .u8 22) w := by kernel_rfl
theorem rlm (z : Sem Value) (f : TypeId → Addr → Nat → Nat → Sem Value) (v : Value) :
    ReflectliteValue.method z f #[v] = (do match ← ReflectliteValue.parts v with | none => z | some (t, a, fl) => f t a fl (fl % 32)) := rfl
theorem Lj (a : Addr) (w : World) : (ReflectliteValue.parts (.agg #[.pointer (some ⟨1, 68, none⟩), .pointer (some a), .int .u64 150])).run Tryz.prog w = .ok (some (68, a, 150)) w := by kernel_rfl
theorem S2 (a p : Addr) (W : World) (ha : W.cell? a = some (.pointer (some p))) :
    (ReflectliteValue.method (ReflectliteValue.valueError "reflectlite.Value.IsNil" 0) ReflectliteValue.isNil #[.agg #[.pointer (some ⟨1, 68, none⟩), .pointer (some a), .int .u64 150]]).run Tryz.prog W = .ok (.bool false) W := by
  rw [rlm]
  simp only [Sem.run_bind, Lj, Result.andThen]
  simp [ReflectliteValue.isNil, loadVar, isAgg, underlying, Tryz.underlying68, ha, Result.andThen]
theorem Nl (h : Value) (w : World) : (Go.method 281 121 (.agg #[h]) "Elem").run Tryz.prog w = .ok (137, .agg #[h]) w := by kernel_rfl
theorem Gy (h : Value) (w : World) : (Go.method 281 121 (.agg #[h]) "Implements").run Tryz.prog w = .ok (138, .agg #[h]) w := by kernel_rfl
theorem W2 (h : Value) (w : World) : (Go.method 281 121 (.agg #[h]) "AssignableTo").run Tryz.prog w = .ok (135, .agg #[h]) w := by kernel_rfl
theorem Mr (w : World) : (ReflectliteType.method ReflectliteType.elem #[.agg #[.pointer (some ⟨1, 68, none⟩)]]).run Tryz.prog w = .ok (.iface 121 (.agg #[.pointer (some ⟨1, 63, none⟩)])) w := by kernel_rfl
theorem Li (w : World) : (ReflectliteType.relation "Implements" ReflectliteType.implements_ #[.agg #[.pointer (some ⟨1, 63, none⟩)], .iface 121 (.agg #[.pointer (some ⟨1, 66, none⟩)])]).run Tryz.prog w = .ok (.bool true) w := by kernel_rfl
theorem S4 (v : Value) (w : World) : (ReflectliteType.typeOf #[.iface 63 v]).run Tryz.prog w = .ok (.iface 121 (.agg #[.pointer (some ⟨1, 63, none⟩)])) w := by kernel_rfl
theorem Lh (w : World) : (ReflectliteType.relation "AssignableTo" ReflectliteType.assignableTo #[.agg #[.pointer (some ⟨1, 63, none⟩)], .iface 121 (.agg #[.pointer (some ⟨1, 63, none⟩)])]).run Tryz.prog w = .ok (.bool true) w := by kernel_rfl
theorem Ru (e : Addr) (w : World) : (ReflectliteValue.unpack (.iface 63 (.pointer (some e)))).run Tryz.prog w
    = .ok (.agg #[.pointer (some ⟨1, 63, none⟩), .pointer (some ⟨w.heap.size, 0, none⟩), .int .u64 150]) (w.alloc (.cells #[.pointer (some e)] 63)) := by kernel_rfl
theorem Rs (w : World) : (Rtype.elem? 68).run Tryz.prog w = .ok (some 63) w := by kernel_rfl
theorem On (p : Addr) (w : World) : (ReflectliteValue.mk 63 p ReflectliteValue.flagAddr).run Tryz.prog w = .ok (.agg #[.pointer (some ⟨1, 63, none⟩), .pointer (some p), .int .u64 406]) w := by kernel_rfl
theorem S1 (a p : Addr) (W : World) (ha : W.cell? a = some (.pointer (some p))) :
    (ReflectliteValue.method (ReflectliteValue.valueError "reflectlite.Value.Elem" 0) ReflectliteValue.elem #[.agg #[.pointer (some ⟨1, 68, none⟩), .pointer (some a), .int .u64 150]]).run Tryz.prog W
      = .ok (.agg #[.pointer (some ⟨1, 63, none⟩), .pointer (some p), .int .u64 406]) W := by
  rw [rlm]
  simp only [Sem.run_bind, Lj, Result.andThen]
  simp [ReflectliteValue.elem, loadVar, isAgg, underlying, Tryz.underlying68, ha, Result.andThen, Rs, On]
theorem rls (v x : Value) : ReflectliteValue.set #[v, x] = (do
    let (some (dst, a, fl), some (src, b, _)) := (← ReflectliteValue.parts v, ← ReflectliteValue.parts x)
      | unsupported (.noEntry "extern/(internal/reflectlite.Value).Set.zeroValue")
    if fl / ReflectliteValue.flagAddr % 2 == 0 then unsupported (.noEntry "extern/(internal/reflectlite.Value).Set.unaddressable")
    let val ← loadVar src b
    if ← Rtype.directlyAssignable dst src then storeVar dst a val
    else if ← Rtype.implements dst src then
      if (← Rtype.kind src) == 20 then
        match val with
        | .nilIface => unsupported (.noEntry "extern/reflectlite: a nil value of one interface type handed on as a value of another")
        | _ => storeVar dst a val
      else storeVar dst a (.iface src val)
    else panicString ("reflectlite.Set: value of type " ++ (← Rtype.spelt src) ++ " is not assignable to type " ++ (← Rtype.spelt dst))
    pure (.tuple #[])) := rfl
theorem S3 (a : Addr) (w : World) : (ReflectliteValue.parts (.agg #[.pointer (some ⟨1, 63, none⟩), .pointer (some a), .int .u64 406])).run Tryz.prog w = .ok (some (63, a, 406)) w := by kernel_rfl
theorem Mt (a : Addr) (w : World) : (ReflectliteValue.parts (.agg #[.pointer (some ⟨1, 63, none⟩), .pointer (some a), .int .u64 150])).run Tryz.prog w = .ok (some (63, a, 150)) w := by kernel_rfl
theorem S0 (w : World) : (Rtype.directlyAssignable 63 63).run Tryz.prog w = .ok true w := by kernel_rfl
theorem Ey (ta b e : Addr) (old : Value) (W : World) (hb : W.cell? b = some (.pointer (some e))) (ht : W.cell? ta = some old) (hf : W.frozen? ta = false) :
    (ReflectliteValue.set #[.agg #[.pointer (some ⟨1, 63, none⟩), .pointer (some ta), .int .u64 406], .agg #[.pointer (some ⟨1, 63, none⟩), .pointer (some b), .int .u64 150]]).run Tryz.prog W
      = .ok (.tuple #[]) (W.setCell ta (.pointer (some e))) := by
  rw [rls]
  simp only [Sem.run_bind, S3, Mt, Result.andThen]
  simp [ReflectliteValue.flagAddr, loadVar, isAgg, underlying, Tryz.underlying63, hb, Result.andThen, S0, storeVar, Value.cells, storeCells, Addr.add]
  rw [run_store Tryz.prog W ta _ _ (by rfl)]
  simp [ht, hf]
set_option maxHeartbeats 4000000 in
theorem Om (e t : Addr) (old : Value) (w : World) (hg : w.cell? ⟨0, 0, none⟩ = some (.iface 121 (.agg #[.pointer (some ⟨1, 66, none⟩)]))) (ht0 : w.cell? t = some old) (hf0 : w.frozen? t = false) :
    Calls Tryz.prog 46 #[.iface 63 (.pointer (some e)), .iface 68 (.pointer (some t))] w fun ev w' => ev = .returned (.bool true) ∧ w' = ((((w.alloc (.cells #[.pointer (some t)] 68)).alloc (.cells #[.pointer (some ⟨1, 68, none⟩), .pointer (some ⟨w.heap.size, 0, none⟩), .int .u64 150] 92)).alloc (.cells #[.pointer (some ⟨1, 68, none⟩), .pointer (some ⟨w.heap.size, 0, none⟩), .int .u64 150] 92)).alloc (.cells #[.pointer (some e)] 63)).setCell t (.pointer (some e)) := by
  have h6 := @run_callFunc_extern Tryz.prog 65 _ (fun args => ReflectliteValue.unpack (args.getD 0 (.tuple #[]))) Tryz.func65 (by kernel_rfl) (by kernel_rfl) (by kernel_rfl) (by kernel_rfl)
  have h7 := @run_callFunc_extern Tryz.prog 66 _ (ReflectliteValue.methodAny (ReflectliteValue.valueError "reflectlite.Value.Type" 0) (fun t _ _ _ => ReflectliteType.toType t)) Tryz.func66 (by kernel_rfl) (by kernel_rfl) (by kernel_rfl) (by kernel_rfl)
  have h8 := @run_callFunc_extern Tryz.prog 67 _ (ReflectliteValue.method (ReflectliteValue.valueError "reflectlite.Value.IsNil" 0) ReflectliteValue.isNil) Tryz.func67 (by kernel_rfl) (by kernel_rfl) (by kernel_rfl) (by kernel_rfl)
  have h27 := @run_callFunc_extern Tryz.prog 127 _ (ReflectliteType.abiMethod fun t => do pure (.int .u8 (← Rtype.kind t))) Tryz.func127 (by kernel_rfl) (by kernel_rfl) (by kernel_rfl) (by kernel_rfl)
  have h37 := @run_callFunc_extern Tryz.prog 137 _ (ReflectliteType.method ReflectliteType.elem) Tryz.func137 (by kernel_rfl) (by kernel_rfl) (by kernel_rfl) (by kernel_rfl)
  have h38 := @run_callFunc_extern Tryz.prog 138 _ (ReflectliteType.relation "Implements" ReflectliteType.implements_) Tryz.func138 (by kernel_rfl) (by kernel_rfl) (by kernel_rfl) (by kernel_rfl)
  have h10 := @run_callFunc_extern Tryz.prog 101 _ ReflectliteType.typeOf Tryz.func101 (by kernel_rfl) (by kernel_rfl) (by kernel_rfl) (by kernel_rfl)
  have h35 := @run_callFunc_extern Tryz.prog 135 _ (ReflectliteType.relation "AssignableTo" ReflectliteType.assignableTo) Tryz.func135 (by kernel_rfl) (by kernel_rfl) (by kernel_rfl) (by kernel_rfl)
  have h11 := @run_callFunc_extern Tryz.prog 102 _ (ReflectliteValue.method (ReflectliteValue.valueError "reflectlite.Value.Elem" 0) ReflectliteValue.elem) Tryz.func102 (by kernel_rfl) (by kernel_rfl) (by kernel_rfl) (by kernel_rfl)
  have h12 := @run_callFunc_extern Tryz.prog 103 _ ReflectliteValue.set Tryz.func103 (by kernel_rfl) (by kernel_rfl) (by kernel_rfl) (by kernel_rfl)
  have tO := S4
  have mA := W2
  have a25 := Lh
  have v25 := Ru
  have f6 := Pn
  have f7 := Mu
  have mK := Nm
  have mE := Nl
  have mI := Gy
  have k27 := Ms
  have k25 := Cm
  have e27 := Mr
  have i25 := Li
  have n8 := S2 ⟨w.heap.size, 0, none⟩ t ((w.alloc (.cells #[.pointer (some t)] 68)).alloc (.cells #[.pointer (some ⟨1, 68, none⟩), .pointer (some ⟨w.heap.size, 0, none⟩), .int .u64 150] 92)) (by simp)
  have hlt : 0 < w.heap.size := by
    rcases Nat.lt_or_ge 0 w.heap.size with h | h
    · exact h
    · simp [World.cell?, Array.getElem?_eq_none h] at hg
  have hg2 : ((w.alloc (.cells #[.pointer (some t)] 68)).alloc (.cells #[.pointer (some ⟨1, 68, none⟩), .pointer (some ⟨w.heap.size, 0, none⟩), .int .u64 150] 92)).cell? ⟨0, 0, none⟩ = some (.iface 121 (.agg #[.pointer (some ⟨1, 66, none⟩)])) := by
    rw [World.cell?_alloc_lt _ _ ⟨0, 0, none⟩ (by simp), World.cell?_alloc_lt _ _ ⟨0, 0, none⟩ hlt]; exact hg
  have htl : t.block < w.heap.size := by
    rcases Nat.lt_or_ge t.block w.heap.size with h | h
    · exact h
    · simp [World.cell?, Array.getElem?_eq_none h] at ht0
  have el := S1 ⟨w.heap.size, 0, none⟩ t (((w.alloc (.cells #[.pointer (some t)] 68)).alloc (.cells #[.pointer (some ⟨1, 68, none⟩), .pointer (some ⟨w.heap.size, 0, none⟩), .int .u64 150] 92)).alloc (.cells #[.pointer (some ⟨1, 68, none⟩), .pointer (some ⟨w.heap.size, 0, none⟩), .int .u64 150] 92)) (by rw [World.cell?_alloc_lt _ _ ⟨w.heap.size, 0, none⟩ (by simp; omega)]; simp)
  have st := Ey t ⟨w.heap.size + 1 + 1 + 1, 0, none⟩ e old ((((w.alloc (.cells #[.pointer (some t)] 68)).alloc (.cells #[.pointer (some ⟨1, 68, none⟩), .pointer (some ⟨w.heap.size, 0, none⟩), .int .u64 150] 92)).alloc (.cells #[.pointer (some ⟨1, 68, none⟩), .pointer (some ⟨w.heap.size, 0, none⟩), .int .u64 150] 92)).alloc (.cells #[.pointer (some e)] 63))
    (by rw [World.cell?_alloc_at _ _ _ _ (by simp)]; rfl)
    (by rw [World.cell?_alloc_lt _ _ t (by simp; omega), World.cell?_alloc_lt _ _ t (by simp; omega), World.cell?_alloc_lt _ _ t (by simp; omega), World.cell?_alloc_lt _ _ t htl]; exact ht0)
    (by rw [World.frozen?_alloc_old _ _ t (by simp; omega), World.frozen?_alloc_old _ _ t (by simp; omega), World.frozen?_alloc_old _ _ t (by simp; omega), World.frozen?_alloc_old _ _ t (Nat.ne_of_lt htl)]; exact hf0)
  go_enter Tryz.func46, Tryz.ntmps46
  go_wp2
  refine wp_loop_rounds 1 ?_
  rw [rounds_succ]
  go_wp2
  go_ret
  exact ⟨rfl, rfl⟩
def ErrT (w : World) : Prop := w.cell? ⟨0, 0, none⟩ = some (.iface 121 (.agg #[.pointer (some ⟨1, 66, none⟩)]))
theorem ErrT.lt {w : World} (h : ErrT w) : 0 < w.heap.size := by
  rcases Nat.lt_or_ge 0 w.heap.size with h1 | h1
  · exact h1
  · simp [ErrT, World.cell?, Array.getElem?_eq_none h1] at h
theorem ErrT.grown0 {w w' : World} (h : ErrT w) (hg : w.grownBy w' none) : ErrT w' := by
  have h1 := hg.block 0 h.lt (by simp)
  unfold ErrT World.cell? at h ⊢
  rw [h1]; exact h
theorem Cn (t : Value) (w : World) : Dw.CallsR Tryz.prog 46 #[.nilIface, t] w fun v w' => v = .bool false ∧ w' = w :=
  Calls.mono (Oo t w) fun _ _ ⟨h1, h2⟩ => ⟨_, h1, rfl, h2⟩
theorem Ck (e T : Nat) (old : Value) (w : World) (hg : ErrT w) (hT : Dw.Blk w T 63 #[old]) : Dw.CallsR Tryz.prog 46 #[.iface 63 (.pointer (some ⟨e, 0, none⟩)), .iface 68 (.pointer (some ⟨T, 0, none⟩))] w fun v w' => v = .bool true ∧ Dw.Blk w' T 63 #[.pointer (some ⟨e, 0, none⟩)] ∧ w.grownBy w' (some T) := by
  refine Calls.mono (Om ⟨e, 0, none⟩ ⟨T, 0, none⟩ old w hg (hT.cell rfl) (hT.froz 0)) ?_
  rintro _ _ ⟨rfl, rfl⟩
  have g4 := Dw.grown_trans (Dw.grown_trans (Dw.grown_trans (World.grownBy_alloc w (.cells #[.pointer (some ⟨T, 0, none⟩)] 68) none) (World.grownBy_alloc _ (.cells #[.pointer (some ⟨1, 68, none⟩), .pointer (some ⟨w.heap.size, 0, none⟩), .int .u64 150] 92) none)) (World.grownBy_alloc _ (.cells #[.pointer (some ⟨1, 68, none⟩), .pointer (some ⟨w.heap.size, 0, none⟩), .int .u64 150] 92) none)) (World.grownBy_alloc _ (.cells #[.pointer (some ⟨e, 0, none⟩)] 63) none)
  have hb := hT.grown0 g4
  have s := Dw.setB_setRow hb #[.pointer (some ⟨e, 0, none⟩)]
  refine ⟨_, rfl, rfl, ?_⟩
  rw [setCell_eq_setRow _ T 0 #[old] 63 (0, 0) _ hb]
  exact ⟨s.blk, Dw.grown_trans ⟨g4.os, g4.tape, g4.output, g4.size, fun i hi _ => g4.block i hi (by simp)⟩ s.grw⟩
end Go.Proofs.YtlhhijnmacogcaaGreatDoor
end
section
namespace Go.Proofs.YtlhhijnmacogcaaGreatDoor
open Go.RowKit Go.Dw
set_option maxRecDepth 100000
set_option maxHeartbeats 4000000
set_option linter.unusedSimpArgs false
set_option linter.unusedVariables false
theorem W7 : elemSz Tryz.prog 134 = some 6 := by kernel_rfl
theorem Uf : fieldOff Tryz.prog 103 0 = some 0 := by kernel_rfl
theorem Cz : fieldOff Tryz.prog 103 1 = some 1 := by kernel_rfl
theorem C0 : fieldOff Tryz.prog 103 2 = some 2 := by kernel_rfl
theorem R1 : fieldOff Tryz.prog 103 3 = some 3 := by kernel_rfl
theorem C1 : fieldOff Tryz.prog 103 4 = some 4 := by kernel_rfl
theorem R2 : fieldOff Tryz.prog 103 5 = some 5 := by kernel_rfl
theorem Fb : fieldOff Tryz.prog 70 0 = some 0 := by kernel_rfl
theorem Ii : goFn Tryz.prog 35 = true := by kernel_rfl
theorem Df : goFn Tryz.prog 42 = true := by kernel_rfl
theorem Dh : goFn Tryz.prog 45 = true := by kernel_rfl
theorem Ik : goFn Tryz.prog 46 = true := by kernel_rfl
theorem Il : goFn Tryz.prog 47 = true := by kernel_rfl
theorem Iv : goFn Tryz.prog 64 = true := by kernel_rfl
theorem Z7 : goFn Tryz.prog 69 = true := by kernel_rfl
theorem Z8 : goFn Tryz.prog 70 = true := by kernel_rfl
theorem Iw : goFn Tryz.prog 71 = true := by kernel_rfl
theorem Xau : oneTy Tryz.prog 63 = true := by kernel_rfl
theorem Jc : rowTy Tryz.prog 103 = some 6 := by kernel_rfl
theorem Wb : zeroTy Tryz.prog 103 = some (.agg #[.int .i64 0, .slice none 0 0, .bool false, .bool false, .bool false, .bool false]) := by kernel_rfl
theorem I3 : zeroTy Tryz.prog 63 = some (.pointer none) := by kernel_rfl
theorem Ga (run thing : Int) (w : World) (ms : List MTh) (a : Option Addr) (c : Nat) (ht : TabAt w a ms) (hlen : TabLen ms) (hn : ms.length ≤ 1048576) (hT : tableOk (tabT ms) = true) (hr : 1 ≤ run ∧ run ≤ (ms.length : Int)) (hth : 1 ≤ thing ∧ thing ≤ (ms.length : Int)) : CallsR Tryz.prog 45 #[.slice a ms.length c, vi run, vi thing] w (fun v w' => v = vb (sees (tabT ms) run thing) ∧ w.grownBy w' none) := by
 refine Xw (n := 20) Tryz.func45 Z Tryz.ntmps45 Z ?_
 have ac := World.grownBy.refl w none
 refine Xa (Xf (v := vb false) Z Z (Xc (Xs ?_)))
 obtain ⟨J, an, E, V, ah, aj⟩ := SlAt.at (TabAt.low ht ac).1 (Yk (xg ms (thing - 1).toNat))
 have al := TabLen.at hlen (xg ms (thing - 1).toNat)
 obtain ⟨O, ao, G, ab, ai, ak⟩ := SlAt.at (TabAt.low ht ac).1 (Yk (xg ms (run - 1).toNat))
 have am := TabLen.at hlen (xg ms (run - 1).toNat)
 refine Yt (m := 12) (vals := [(7, .slice a ms.length c), (8, vi thing), (9, vi (thing - 1)), (10, pt J E), (11, pt J (E + 1)), (12, .agg #[vi (mj ms thing).t.lab.s, vi (mj ms thing).t.lab.v]), (13, .slice a ms.length c), (14, vi run), (15, vi (run - 1)), (16, pt O G), (17, pt O (G + 1)), (18, .agg #[vi (mj ms run).t.lab.s, vi (mj ms run).t.lab.v])]) (fun w' => w.grownBy w' none) Y0 (by kernel_rfl) (X7 _) ?_ ?_
 refine yl Z (fun _ _ k => Xb (v := .slice a ms.length c) Z Z k) (yl Z (fun _ _ k => Xb (v := vi thing) Z Z k) (yl Z (fun _ _ k => Ym (c := thing - 1) Z Z (by omega) (by omega) (by omega) Z k) (yl Z (fun _ _ k => X0 Y6 Z Z V ah (by omega) (by omega) Z k) (yl Z (fun _ _ k => Xd (o' := E + 1) J6 Z Z Z k) (yl Z (fun _ ae k => Xq (vs := [vi (mj ms thing).t.lab.s, vi (mj ms thing).t.lab.v]) J5 Z Z (Y3 (Ye aj ae) 1 2 Z) Z k) (yl Z (fun _ _ k => Xb (v := .slice a ms.length c) Z Z k) (yl Z (fun _ _ k => Xb (v := vi run) Z Z k) (yl Z (fun _ _ k => Ym (c := run - 1) Z Z (by omega) (by omega) (by omega) Z k) (yl Z (fun _ _ k => X0 Y6 Z Z ab ai (by omega) (by omega) Z k) (yl Z (fun _ _ k => Xd (o' := G + 1) J6 Z Z Z k) ?_))))))))))
 exact yl Z (fun _ af k => Xq (vs := [vi (mj ms run).t.lab.s, vi (mj ms run).t.lab.v]) J5 Z Z (Y3 (Ye ak af) 1 2 Z) Z k) Y2
 intro ap ag
 refine Xm Iv (Xg Z (Xg Z Xl)) Z (H0 (mj ms thing).t.lab (mj ms run).t.lab _) ?_
 rintro _ aq ⟨rfl, ad⟩
 refine Xf (v := vb (labelFlow (mj ms thing).t.lab (mj ms run).t.lab)) Z Z (Xc (Xv (Xt (⟨vb (labelFlow (mj ms thing).t.lab (mj ms run).t.lab), Yx Z Z, ?_, (low0 (low0 ac ag) ad)⟩))))
 exact cB (Zb hT hr hth)
theorem Gb (run thing : Int) (w : World) (ms : List MTh) (a : Option Addr) (c : Nat) (ht : TabAt w a ms) (hlen : TabLen ms) (hn : ms.length ≤ 1048576) (hT : tableOk (tabT ms) = true) (hr : 1 ≤ run ∧ run ≤ (ms.length : Int)) (hth : 1 ≤ thing ∧ thing ≤ (ms.length : Int)) : CallsR Tryz.prog 71 #[.slice a ms.length c, vi run, vi thing] w (fun v w' => v = vb (touches (tabT ms) run thing) ∧ w.grownBy w' none) := by
 refine Xw (n := 20) Tryz.func71 Z Tryz.ntmps71 Z ?_
 have ac := World.grownBy.refl w none
 refine Xa (Xf (v := vb false) Z Z (Xc (Xs ?_)))
 obtain ⟨J, an, E, V, ah, aj⟩ := SlAt.at (TabAt.low ht ac).1 (Yk (xg ms (run - 1).toNat))
 have al := TabLen.at hlen (xg ms (run - 1).toNat)
 obtain ⟨O, ao, G, ab, ai, ak⟩ := SlAt.at (TabAt.low ht ac).1 (Yk (xg ms (thing - 1).toNat))
 have am := TabLen.at hlen (xg ms (thing - 1).toNat)
 refine Yt (m := 12) (vals := [(7, .slice a ms.length c), (8, vi run), (9, vi (run - 1)), (10, pt J E), (11, pt J (E + 1)), (12, .agg #[vi (mj ms run).t.lab.s, vi (mj ms run).t.lab.v]), (13, .slice a ms.length c), (14, vi thing), (15, vi (thing - 1)), (16, pt O G), (17, pt O (G + 1)), (18, .agg #[vi (mj ms thing).t.lab.s, vi (mj ms thing).t.lab.v])]) (fun w' => w.grownBy w' none) Y0 (by kernel_rfl) (X7 _) ?_ ?_
 refine yl Z (fun _ _ k => Xb (v := .slice a ms.length c) Z Z k) (yl Z (fun _ _ k => Xb (v := vi run) Z Z k) (yl Z (fun _ _ k => Ym (c := run - 1) Z Z (by omega) (by omega) (by omega) Z k) (yl Z (fun _ _ k => X0 Y6 Z Z V ah (by omega) (by omega) Z k) (yl Z (fun _ _ k => Xd (o' := E + 1) J6 Z Z Z k) (yl Z (fun _ ae k => Xq (vs := [vi (mj ms run).t.lab.s, vi (mj ms run).t.lab.v]) J5 Z Z (Y3 (Ye aj ae) 1 2 Z) Z k) (yl Z (fun _ _ k => Xb (v := .slice a ms.length c) Z Z k) (yl Z (fun _ _ k => Xb (v := vi thing) Z Z k) (yl Z (fun _ _ k => Ym (c := thing - 1) Z Z (by omega) (by omega) (by omega) Z k) (yl Z (fun _ _ k => X0 Y6 Z Z ab ai (by omega) (by omega) Z k) (yl Z (fun _ _ k => Xd (o' := G + 1) J6 Z Z Z k) ?_))))))))))
 exact yl Z (fun _ af k => Xq (vs := [vi (mj ms thing).t.lab.s, vi (mj ms thing).t.lab.v]) J5 Z Z (Y3 (Ye ak af) 1 2 Z) Z k) Y2
 intro ap ag
 refine Xm Iv (Xg Z (Xg Z Xl)) Z (H0 (mj ms run).t.lab (mj ms thing).t.lab _) ?_
 rintro _ aq ⟨rfl, ad⟩
 refine Xf (v := vb (labelFlow (mj ms run).t.lab (mj ms thing).t.lab)) Z Z (Xc (Xv (Xt (⟨vb (labelFlow (mj ms run).t.lab (mj ms thing).t.lab), Yx Z Z, ?_, (low0 (low0 ac ag) ad)⟩))))
 exact cB (Ce hT hr hth)
theorem Gf (r : Rt) (hr : -9223372036854775807 ≤ r.th) (w : World) (ms : List MTh) (a : Option Addr) (c : Nat) (ht : TabAt w a ms) (hlen : TabLen ms) (hn : ms.length ≤ 1048576) : CallsR Tryz.prog 42 #[.slice a ms.length c, .agg #[vi r.th, vi r.ve, vb r.rd, vb r.wr, vb r.wk]] w (fun v w' => v = vb (live (tabT ms) r) ∧ w.grownBy w' none) := by
 refine Xw (n := 21) Tryz.func42 Z Tryz.ntmps42 Z ?_
 have av := World.grownBy.refl w none
 refine Xa (Qd (v := .agg #[vi r.th, vi r.ve, vb r.rd, vb r.wr, vb r.wk]) (cs := #[vi r.th, vi r.ve, vb r.rd, vb r.wr, vb r.wk]) Z Z Z ?_)
 intro J ab G
 have aw := Yi G av
 have O := low0 av G.grw
 refine Xf (v := vb false) Z Z (Xc (Ki (fun f' w' => (f' 4 = vb (inR r.th 1 (ms.length : Int) && (decide ((mj ms r.th).t.ve = r.ve)))) ∧ ab.grownBy w' none) ?_ ?_))
 rcases Yb (inR r.th 1 (ms.length : Int)) with E | E
 have a8 := Qh.1 E
 obtain ⟨ac, ba, V, ad, aq, ar⟩ := SlAt.at (TabAt.low ht O).1 (Yk (xg ms (r.th - 1).toNat))
 have az := TabLen.at hlen (xg ms (r.th - 1).toNat)
 refine Yt (m := 14) (vals := [(5, .slice a ms.length c), (6, pt J 0), (7, vi r.th), (8, vb (inR r.th 1 (ms.length : Int))), (9, vb (inR r.th 1 (ms.length : Int))), (10, .slice a ms.length c), (11, pt J 0), (12, vi r.th), (13, vi (r.th - 1)), (14, pt ac V), (15, pt ac (V + 3)), (16, vi (mj ms r.th).t.ve), (17, pt J 1), (18, vi r.ve)]) (fun w' => ab.grownBy w' none) Y0 (by kernel_rfl) (X7 _) ?_ ?_
 refine yl Z (fun _ _ k => Xb (v := .slice a ms.length c) Z Z k) (yl Z (fun _ _ k => Xd (o' := 0) Yl Z Z Z k) (yl Z (fun _ ah k => Xh (v := vi r.th) Xz Z ((G.blk.grown0 ah).cell Z) Z k) ?_))
 refine Qk Z (fun bb ai => ?_) ?_
 refine Xm Nx (Xg Z (Xg Z Xl)) Z (Vi r.th _ _ _ _) ?_
 rintro _ bc ⟨rfl, ae⟩
 exact Xc ⟨Z, (grown_trans ai ae)⟩
 exact yl Z (fun _ _ k => Xb (v := vb (inR r.th 1 (ms.length : Int))) Z Z k) (yl Z (fun _ _ k => Xe Z Z Z E (Xb (v := .slice a ms.length c) Z Z k)) (yl Z (fun _ _ k => Xe Z Z Z E (Xd (o' := 0) Yl Z Z Z k)) (yl Z (fun _ aj k => Xe Z Z Z E (Xh (v := vi r.th) Xz Z ((G.blk.grown0 aj).cell Z) Z k)) (yl Z (fun _ _ k => Xe Z Z Z E (Ym (c := r.th - 1) Z Z (by omega) (by omega) (by omega) Z k)) (yl Z (fun _ _ k => Xe Z Z Z E (X0 Y6 Z Z ad aq (by omega) (by omega) Z k)) (yl Z (fun _ _ k => Xe Z Z Z E (Xd (o' := V + 3) Jj Z Z Z k)) (yl Z (fun _ ak k => Xe Z Z Z E (Xh (v := vi (mj ms r.th).t.ve) Xz Z ((Ye ar ak) 3 _ Z) Z k)) (yl Z (fun _ _ k => Xe Z Z Z E (Xd (o' := 1) Vm Z Z Z k)) (yl Z (fun _ al k => Xe Z Z Z E (Xh (v := vi r.ve) Xz Z ((G.blk.grown0 al).cell Z) Z k)) Y2)))))))))
 intro bd am
 exact Xe Z Z Z E (X3 (q := decide ((mj ms r.th).t.ve = r.ve)) Z Z Z Z (Xo (v := vb (decide ((mj ms r.th).t.ve = r.ve))) Z E Z Z (Xf (v := vb (decide ((mj ms r.th).t.ve = r.ve))) Z Z (Xc (Xv ⟨(cB (by simp [E])), am⟩)))))
 refine Yt (m := 14) (vals := [(5, .slice a ms.length c), (6, pt J 0), (7, vi r.th), (8, vb (inR r.th 1 (ms.length : Int))), (9, vb (inR r.th 1 (ms.length : Int))), (10, undef), (11, undef), (12, undef), (13, undef), (14, undef), (15, undef), (16, undef), (17, undef), (18, undef)]) (fun w' => ab.grownBy w' none) Y0 (by kernel_rfl) (X7 _) ?_ ?_
 refine yl Z (fun _ _ k => Xb (v := .slice a ms.length c) Z Z k) (yl Z (fun _ _ k => Xd (o' := 0) Yl Z Z Z k) (yl Z (fun _ an k => Xh (v := vi r.th) Xz Z ((G.blk.grown0 an).cell Z) Z k) ?_))
 refine Qk Z (fun be ao => ?_) ?_
 refine Xm Nx (Xg Z (Xg Z Xl)) Z (Vi r.th _ _ _ _) ?_
 rintro _ bf ⟨rfl, af⟩
 exact Xc ⟨Z, (grown_trans ao af)⟩
 exact yl Z (fun _ _ k => Xb (v := vb (inR r.th 1 (ms.length : Int))) Z Z k) (yl Z (fun _ _ k => Xi Z Z Z E Z k) (yl Z (fun _ _ k => Xi Z Z Z E Z k) (yl Z (fun _ _ k => Xi Z Z Z E Z k) (yl Z (fun _ _ k => Xi Z Z Z E Z k) (yl Z (fun _ _ k => Xi Z Z Z E Z k) (yl Z (fun _ _ k => Xi Z Z Z E Z k) (yl Z (fun _ _ k => Xi Z Z Z E Z k) (yl Z (fun _ _ k => Xi Z Z Z E Z k) (yl Z (fun _ _ k => Xi Z Z Z E Z k) Y2)))))))))
 intro bg ap
 exact Xi Z Z Z E Z (Xn (v := vb false) Z E Z Z (Xf (v := vb false) Z Z (Xc (Xv ⟨(cB (by simp [E])), ap⟩))))
 rintro a9 bh ⟨au, ag⟩
 refine Xt (⟨vb (inR r.th 1 (ms.length : Int) && (decide ((mj ms r.th).t.ve = r.ve))), Yx Z au, ?_, (low0 O ag)⟩)
 exact cB Ds
theorem W4 (run thing : Int) (hr : -9223372036854775807 ≤ run) (w : World) (ms : List MTh) (a : Option Addr) (c : Nat) (ht : TabAt w a ms) (hlen : TabLen ms) (hn : ms.length ≤ 1048576) : CallsR Tryz.prog 21 #[.slice a ms.length c, vi run, vi thing] w (fun v w' => v = vb (chkSees (tabT ms) run thing) ∧ w.grownBy w' none) := by
 refine Xw (n := 25) Tryz.func21 Z Tryz.ntmps21 Z ?_
 have ad := World.grownBy.refl w none
 refine Xa (Xf (v := vb false) Z Z (Xc (X8 (fun f' w' => (f' 6 = vb (((tableOk (tabT ms) && kindAt (tabT ms) run 3) && inR thing 1 (ms.length : Int)) && sees (tabT ms) run thing)) ∧ w.grownBy w' none) ?_ ?_)))
 refine Xb (v := .slice a ms.length c) Z Z (Xm Ma (Xg Z Xl) Z (Gn  _ ms _ _ (TabAt.low ht ad) hlen (by omega)) ?_)
 rintro _ ak ⟨rfl, O⟩
 have ac := low0 ad O
 refine Xb (v := vb (tableOk (tabT ms))) Z Z ?_
 rcases Yb (tableOk (tabT ms)) with E | E
 refine Xe Z Z Z E (Xb (v := .slice a ms.length c) Z Z (Xe Z Z Z E (Xb (v := vi run) Z Z (Xe Z Z Z E (Xm Dg (Xg Z (Xg Z (Xg Z Xl))) Z (Lz run 3 (by omega) _ ms _ _ (TabAt.low ht ac) hlen (by omega)) ?_)))))
 rintro _ al ⟨rfl, V⟩
 refine Xo (v := vb (kindAt (tabT ms) run 3)) Z E Z Z (Xb (v := vb (kindAt (tabT ms) run 3)) Z Z ?_)
 rcases Yb (kindAt (tabT ms) run 3) with G | G
 have ah := (Y5 G).1
 refine Xe Z Z Z G (Xb (v := .slice a ms.length c) Z Z (Xe Z Z Z G (Xb (v := vi thing) Z Z (Xe Z Z Z G (Xm Nx (Xg Z (Xg Z Xl)) Z (Vi thing _ _ _ _) ?_)))))
 rintro _ am ⟨rfl, ab⟩
 refine Xo (v := vb (inR thing 1 (ms.length : Int))) Z G Z Z (Xb (v := vb (inR thing 1 (ms.length : Int))) Z Z ?_)
 rcases Yb (inR thing 1 (ms.length : Int)) with J | J
 have ai := Qh.1 J
 refine Xe Z Z Z J (Xb (v := .slice a ms.length c) Z Z (Xe Z Z Z J (Xb (v := vi run) Z Z (Xe Z Z Z J (Xb (v := vi thing) Z Z (Xe Z Z Z J (Xm Dh (Xg Z (Xg Z (Xg Z Xl))) Z (Ga run thing _ ms _ _ (TabAt.low ht (low0 (low0 ac V) ab)) hlen (by omega) E (by omega) (by omega)) ?_)))))))
 rintro _ an ⟨rfl, ae⟩
 exact Xo (v := vb (sees (tabT ms) run thing)) Z J Z Z (Xf (v := vb (sees (tabT ms) run thing)) Z Z (Xc ⟨(cB (by simp [E, G, J])), (grown_trans (grown_trans (grown_trans O V) ab) ae)⟩))
 iterate 4 refine Xi rfl rfl rfl J rfl ?_
 exact Xn (v := vb false) Z J Z Z (Xf (v := vb false) Z Z (Xc ⟨(cB (by simp [E, G, J])), (grown_trans (grown_trans O V) ab)⟩))
 iterate 3 refine Xi rfl rfl rfl G rfl ?_
 refine Xn (v := vb false) Z G Z Z (Xb (v := vb false) Z Z ?_)
 iterate 4 refine Xi rfl rfl rfl rfl rfl ?_
 exact Xn (v := vb false) Z Z Z Z (Xf (v := vb false) Z Z (Xc ⟨(cB (by simp [E, G])), (grown_trans O V)⟩))
 iterate 3 refine Xi rfl rfl rfl E rfl ?_
 refine Xn (v := vb false) Z E Z Z (Xb (v := vb false) Z Z ?_)
 iterate 3 refine Xi rfl rfl rfl rfl rfl ?_
 refine Xn (v := vb false) Z Z Z Z (Xb (v := vb false) Z Z ?_)
 iterate 4 refine Xi rfl rfl rfl rfl rfl ?_
 exact Xn (v := vb false) Z Z Z Z (Xf (v := vb false) Z Z (Xc ⟨(cB (by simp [E])), O⟩))
 rintro aj ao ⟨ag, af⟩
 refine Xt (⟨vb (((tableOk (tabT ms) && kindAt (tabT ms) run 3) && inR thing 1 (ms.length : Int)) && sees (tabT ms) run thing), Yx Z ag, ?_, (low0 ad af)⟩)
 unfold chkSees; rw [Qa]
theorem H1 (r : Rt) (w : World) (ms : List MTh) (a : Option Addr) (c : Nat) (ht : TabAt w a ms) (hlen : TabLen ms) (hn : ms.length ≤ 1048576) : CallsR Tryz.prog 20 #[.slice a ms.length c, .agg #[vi r.th, vi r.ve, vb r.rd, vb r.wr, vb r.wk]] w (fun v w' => v = vb (tabLive (tabT ms) r) ∧ w.grownBy w' none) := by
 refine Xw (n := 16) Tryz.func20 Z Tryz.ntmps20 Z ?_
 have ag := World.grownBy.refl w none
 refine Xa (Qd (v := .agg #[vi r.th, vi r.ve, vb r.rd, vb r.wr, vb r.wk]) (cs := #[vi r.th, vi r.ve, vb r.rd, vb r.wr, vb r.wk]) Z Z Z ?_)
 intro ak ah V
 have ai := Yi V ag
 have ab := low0 ag V.grw
 refine Xf (v := vb false) Z Z (Xc (X8 (fun f' w' => (f' 4 = vb ((tableOk (tabT ms) && rightOk r) && live (tabT ms) r)) ∧ ah.grownBy w' none) ?_ ?_))
 refine Xb (v := .slice a ms.length c) Z Z (Xm Ma (Xg Z Xl) Z (Gn  _ ms _ _ (TabAt.low ht ab) hlen (by omega)) ?_)
 rintro _ am ⟨rfl, J⟩
 refine Xb (v := vb (tableOk (tabT ms))) Z Z ?_
 rcases Yb (tableOk (tabT ms)) with E | E
 refine Xe Z Z Z E ?_
 have ac := (V.blk.grown0 J)
 refine Xq (vs := [vi r.th, vi r.ve, vb r.rd, vb r.wr, vb r.wk]) Yz Z Z (ac.rangeL 0 5 Z) Z (Xe Z Z Z E (Xm Mb (Xg Z Xl) Z (Gm r _) ?_))
 rintro _ an ⟨rfl, O⟩
 refine Xo (v := vb (rightOk r)) Z E Z Z (Xb (v := vb (rightOk r)) Z Z ?_)
 rcases Yb (rightOk r) with G | G
 have aj := Uy G
 refine Xe Z Z Z G (Xb (v := .slice a ms.length c) Z Z (Xe Z Z Z G (Xq (vs := [vi r.th, vi r.ve, vb r.rd, vb r.wr, vb r.wk]) Yz Z Z ((ac.grown0 O).rangeL 0 5 Z) Z (Xe Z Z Z G (Xm Df (Xg Z (Xg Z Xl)) Z (Gf r (by omega) _ ms _ _ (TabAt.low ht (low0 (low0 ab J) O)) hlen (by omega)) ?_)))))
 rintro _ ao ⟨rfl, ad⟩
 exact Xo (v := vb (live (tabT ms) r)) Z G Z Z (Xf (v := vb (live (tabT ms) r)) Z Z (Xc ⟨(cB (by simp [E, G])), (grown_trans (grown_trans J O) ad)⟩))
 iterate 3 refine Xi rfl rfl rfl G rfl ?_
 exact Xn (v := vb false) Z G Z Z (Xf (v := vb false) Z Z (Xc ⟨(cB (by simp [E, G])), (grown_trans J O)⟩))
 refine Xi Z Z Z E Z (Xi Z Z Z E Z (Xn (v := vb false) Z E Z Z (Xb (v := vb false) Z Z ?_)))
 iterate 3 refine Xi rfl rfl rfl rfl rfl ?_
 exact Xn (v := vb false) Z Z Z Z (Xf (v := vb false) Z Z (Xc ⟨(cB (by simp [E])), J⟩))
 rintro al ap ⟨af, ae⟩
 refine Xt (⟨vb ((tableOk (tabT ms) && rightOk r) && live (tabT ms) r), Yx Z af, ?_, (low0 ab ae)⟩)
 rfl
theorem Fu (q : Int) (hq : (1 ≤ q ∧ q ≤ 9) ∧ ¬ q = 3) (w : World) : CallsR Tryz.prog 69 #[vi q] w (fun v w' => ∃ B : Nat, v = .agg #[vi q, .slice (pa B) (kindsOf q).length (kindsOf q).length, vb (need0 q), vb (need1 q), vb (need0 q), vb (need1 q)] ∧ w.heap.size ≤ B ∧ Blk w' B 3 ((kindsOf q).flatMap icell).toArray ∧ w.grownBy w' none) := by
 refine Xw (n := 37) Tryz.func69 Z Tryz.ntmps69 Z ?_
 have lm := World.grownBy.refl w none
 refine Xa (Yf (cs := #[vi 0, .slice none 0 0, vb false, vb false, vb false, vb false]) Wb Z Z ?_)
 intro j7 ng bx
 have l4 := Yi bx lm
 have dg := low0 lm bx.grw
 refine Xc (Xa (X9 (ps := [(0, vi 1)]) (e := 3) (cs := (([1] : List Int).flatMap icell).toArray) (Xj Z X5) (fun _ => by kernel_rfl) Z ?_))
 intro bk nh bw
 have jy := Yi bw dg
 have d8 := Xr bw (bx.blk).lt
 have dh := low0 dg bw.grw
 refine Ys (ps := [(0, vi 1), (1, .slice (pa bk) 1 1), (2, vb true), (4, vb true)]) (v := .agg #[vi 1, .slice (pa bk) 1 1, vb true, vb false, vb true, vb false]) (Xj Z (Xj Z (Xj Z (Xj Z X5)))) (by kernel_rfl) Z (X9 (ps := [(0, vi 1)]) (e := 3) (cs := (([1] : List Int).flatMap icell).toArray) (Xj Z X5) (fun _ => by kernel_rfl) Z ?_)
 intro bl ni bv
 have jz := Yi bv dh
 have j8 := (bx.blk.grown0 bw.grw)
 have d9 := Xr bv (j8).lt
 have ez := Xr bv (bw.blk).lt
 have di := low0 dh bv.grw
 refine Ys (ps := [(0, vi 2), (1, .slice (pa bl) 1 1), (3, vb true), (5, vb true)]) (v := .agg #[vi 2, .slice (pa bl) 1 1, vb false, vb true, vb false, vb true]) (Xj Z (Xj Z (Xj Z (Xj Z X5)))) (by kernel_rfl) Z (X9 (ps := [(0, vi 2)]) (e := 3) (cs := (([2] : List Int).flatMap icell).toArray) (Xj Z X5) (fun _ => by kernel_rfl) Z ?_)
 intro bm nj bu
 have j1 := Yi bu di
 have j9 := (j8.grown0 bv.grw)
 have ea := Xr bu (j9).lt
 have ka := (bw.blk.grown0 bv.grw)
 have e0 := Xr bu (ka).lt
 have fq := Xr bu (bv.blk).lt
 have dk := low0 di bu.grw
 refine Ys (ps := [(0, vi 4), (1, .slice (pa bm) 1 1), (2, vb true), (4, vb true)]) (v := .agg #[vi 4, .slice (pa bm) 1 1, vb true, vb false, vb true, vb false]) (Xj Z (Xj Z (Xj Z (Xj Z X5)))) (by kernel_rfl) Z (X9 (ps := [(0, vi 2)]) (e := 3) (cs := (([2] : List Int).flatMap icell).toArray) (Xj Z X5) (fun _ => by kernel_rfl) Z ?_)
 intro bn nk bi
 have j2 := Yi bi dk
 have kb := (j9.grown0 bu.grw)
 have eb := Xr bi (kb).lt
 have kc := (ka.grown0 bu.grw)
 have fa := Xr bi (kc).lt
 have ke := (bv.blk.grown0 bu.grw)
 have fr := Xr bi (ke).lt
 have gg := Xr bi (bu.blk).lt
 have dl := low0 dk bi.grw
 refine Ys (ps := [(0, vi 5), (1, .slice (pa bn) 1 1), (3, vb true), (5, vb true)]) (v := .agg #[vi 5, .slice (pa bn) 1 1, vb false, vb true, vb false, vb true]) (Xj Z (Xj Z (Xj Z (Xj Z X5)))) (by kernel_rfl) Z (X9 (ps := [(0, vi 4)]) (e := 3) (cs := (([4] : List Int).flatMap icell).toArray) (Xj Z X5) (fun _ => by kernel_rfl) Z ?_)
 intro bp nn az
 have j3 := Yi az dl
 have kf := (kb.grown0 bi.grw)
 have ed := Xr az (kf).lt
 have kg := (kc.grown0 bi.grw)
 have fb := Xr az (kg).lt
 have kh := (ke.grown0 bi.grw)
 have ft := Xr az (kh).lt
 have ki := (bu.blk.grown0 bi.grw)
 have gh := Xr az (ki).lt
 have gx := Xr az (bi.blk).lt
 have dm := low0 dl az.grw
 refine Ys (ps := [(0, vi 6), (1, .slice (pa bp) 1 1), (3, vb true), (5, vb true)]) (v := .agg #[vi 6, .slice (pa bp) 1 1, vb false, vb true, vb false, vb true]) (Xj Z (Xj Z (Xj Z (Xj Z X5)))) (by kernel_rfl) Z (X9 (ps := [(0, vi 4)]) (e := 3) (cs := (([4] : List Int).flatMap icell).toArray) (Xj Z X5) (fun _ => by kernel_rfl) Z ?_)
 intro bq no al
 have j4 := Yi al dm
 have kj := (kf.grown0 az.grw)
 have ee := Xr al (kj).lt
 have kk := (kg.grown0 az.grw)
 have fc := Xr al (kk).lt
 have kl := (kh.grown0 az.grw)
 have fu := Xr al (kl).lt
 have km := (ki.grown0 az.grw)
 have gi := Xr al (km).lt
 have kn := (bi.blk.grown0 az.grw)
 have gy := Xr al (kn).lt
 have ig := Xr al (az.blk).lt
 have dn := low0 dm al.grw
 refine Ys (ps := [(0, vi 7), (1, .slice (pa bq) 1 1), (2, vb true), (3, vb true), (4, vb true), (5, vb true)]) (v := .agg #[vi 7, .slice (pa bq) 1 1, vb true, vb true, vb true, vb true]) (Xj Z (Xj Z (Xj Z (Xj Z (Xj Z (Xj Z X5)))))) (by kernel_rfl) Z (X9 (ps := [(0, vi 1), (1, vi 2), (2, vi 4)]) (e := 3) (cs := (([1, 2, 4] : List Int).flatMap icell).toArray) (Xj Z (Xj Z (Xj Z X5))) (fun _ => by kernel_rfl) Z ?_)
 intro br np aj
 have j5 := Yi aj dn
 have ko := (kj.grown0 al.grw)
 have ef := Xr aj (ko).lt
 have kp := (kk.grown0 al.grw)
 have fd := Xr aj (kp).lt
 have kq := (kl.grown0 al.grw)
 have fv := Xr aj (kq).lt
 have kr := (km.grown0 al.grw)
 have gj := Xr aj (kr).lt
 have ks := (kn.grown0 al.grw)
 have gz := Xr aj (ks).lt
 have kt := (az.blk.grown0 al.grw)
 have ii := Xr aj (kt).lt
 have iv := Xr aj (al.blk).lt
 have dp := low0 dn aj.grw
 refine Ys (ps := [(0, vi 8), (1, .slice (pa br) 3 3), (3, vb true), (5, vb true)]) (v := .agg #[vi 8, .slice (pa br) 3 3, vb false, vb true, vb false, vb true]) (Xj Z (Xj Z (Xj Z (Xj Z X5)))) (by kernel_rfl) Z (X9 (ps := [(0, vi 5)]) (e := 3) (cs := (([5] : List Int).flatMap icell).toArray) (Xj Z X5) (fun _ => by kernel_rfl) Z ?_)
 intro bt nq af
 have j6 := Yi af dp
 have ku := (ko.grown0 aj.grw)
 have eg := Xr af (ku).lt
 have kv := (kp.grown0 aj.grw)
 have fe := Xr af (kv).lt
 have kw := (kq.grown0 aj.grw)
 have fw := Xr af (kw).lt
 have kx := (kr.grown0 aj.grw)
 have gk := Xr af (kx).lt
 have ky := (ks.grown0 aj.grw)
 have g0 := Xr af (ky).lt
 have kz := (kt.grown0 aj.grw)
 have ij := Xr af (kz).lt
 have k0 := (al.blk.grown0 aj.grw)
 have iw := Xr af (k0).lt
 have i6 := Xr af (aj.blk).lt
 have dq := low0 dp af.grw
 refine Ys (ps := [(0, vi 9), (1, .slice (pa bt) 1 1), (3, vb true), (5, vb true)]) (v := .agg #[vi 9, .slice (pa bt) 1 1, vb false, vb true, vb false, vb true]) (Xj Z (Xj Z (Xj Z (Xj Z X5)))) (by kernel_rfl) Z (X9 (ps := [(0, .agg #[vi 1, .slice (pa bk) 1 1, vb true, vb false, vb true, vb false]), (1, .agg #[vi 2, .slice (pa bl) 1 1, vb false, vb true, vb false, vb true]), (2, .agg #[vi 4, .slice (pa bm) 1 1, vb true, vb false, vb true, vb false]), (3, .agg #[vi 5, .slice (pa bn) 1 1, vb false, vb true, vb false, vb true]), (4, .agg #[vi 6, .slice (pa bp) 1 1, vb false, vb true, vb false, vb true]), (5, .agg #[vi 7, .slice (pa bq) 1 1, vb true, vb true, vb true, vb true]), (6, .agg #[vi 8, .slice (pa br) 3 3, vb false, vb true, vb false, vb true]), (7, .agg #[vi 9, .slice (pa bt) 1 1, vb false, vb true, vb false, vb true])]) (e := 103) (cs := #[vi 1, .slice (pa bk) 1 1, vb true, vb false, vb true, vb false, vi 2, .slice (pa bl) 1 1, vb false, vb true, vb false, vb true, vi 4, .slice (pa bm) 1 1, vb true, vb false, vb true, vb false, vi 5, .slice (pa bn) 1 1, vb false, vb true, vb false, vb true, vi 6, .slice (pa bp) 1 1, vb false, vb true, vb false, vb true, vi 7, .slice (pa bq) 1 1, vb true, vb true, vb true, vb true, vi 8, .slice (pa br) 3 3, vb false, vb true, vb false, vb true, vi 9, .slice (pa bt) 1 1, vb false, vb true, vb false, vb true]) (Xj Z (Xj Z (Xj Z (Xj Z (Xj Z (Xj Z (Xj Z (Xj Z X5)))))))) (fun _ => by kernel_rfl) Z ?_)
 intro ck nr ae
 have l5 := Yi ae dq
 have k4 := (ku.grown0 af.grw)
 have eh := Xr ae (k4).lt
 have k5 := (kv.grown0 af.grw)
 have ff := Xr ae (k5).lt
 have k6 := (kw.grown0 af.grw)
 have fx := Xr ae (k6).lt
 have k7 := (kx.grown0 af.grw)
 have gl := Xr ae (k7).lt
 have k8 := (ky.grown0 af.grw)
 have g5 := Xr ae (k8).lt
 have k9 := (kz.grown0 af.grw)
 have ik := Xr ae (k9).lt
 have la := (k0.grown0 af.grw)
 have ix := Xr ae (la).lt
 have lc := (aj.blk.grown0 af.grw)
 have i7 := Xr ae (lc).lt
 have jg := Xr ae (af.blk).lt
 have ld := low0 dq ae.grw
 refine Xf (v := .slice (pa ck) 8 8) Z Z (Xc (Xs (Xa (Xb (v := .slice (pa ck) 8 8) Z Z (Yr (by kernel_rfl) Z Z (Xb (v := vi 0) Z Z (Xc (Yh ?_))))))))
 have ln := (k4.grown0 ae.grw)
 have lp := (k5.grown0 ae.grw)
 have lu := (k6.grown0 ae.grw)
 have lv := (k7.grown0 ae.grw)
 have lw := (k8.grown0 ae.grw)
 have ly := (k9.grown0 ae.grw)
 have lz := (la.grown0 ae.grw)
 have l0 := (lc.grown0 ae.grw)
 have l3 := (af.blk.grown0 ae.grw)
 refine Q0 (fun mm f' w' => ∃ (i : Int), mm = (8 - i : Int).toNat ∧ ((0 ≤ i ∧ i ≤ 8) ∧ (0 < i → ¬ q = 1) ∧ (1 < i → ¬ q = 2) ∧ (2 < i → ¬ q = 4) ∧ (3 < i → ¬ q = 5) ∧ (4 < i → ¬ q = 6) ∧ (5 < i → ¬ q = 7) ∧ (6 < i → ¬ q = 8) ∧ (7 < i → ¬ q = 9)) ∧ f' 25 = vi i ∧ f' 0 = vi q ∧ f' 2 = pt j7 0 ∧ f' 23 = .slice (pa ck) 8 8 ∧ f' 24 = vi 8 ∧ w.grownBy w' none ∧ Blk w' j7 103 #[vi 0, .slice none 0 0, vb false, vb false, vb false, vb false] ∧ Blk w' bk 3 (([1] : List Int).flatMap icell).toArray ∧ Blk w' bl 3 (([1] : List Int).flatMap icell).toArray ∧ Blk w' bm 3 (([2] : List Int).flatMap icell).toArray ∧ Blk w' bn 3 (([2] : List Int).flatMap icell).toArray ∧ Blk w' bp 3 (([4] : List Int).flatMap icell).toArray ∧ Blk w' bq 3 (([4] : List Int).flatMap icell).toArray ∧ Blk w' br 3 (([1, 2, 4] : List Int).flatMap icell).toArray ∧ Blk w' bt 3 (([5] : List Int).flatMap icell).toArray ∧ Blk w' ck 103 #[vi 1, .slice (pa bk) 1 1, vb true, vb false, vb true, vb false, vi 2, .slice (pa bl) 1 1, vb false, vb true, vb false, vb true, vi 4, .slice (pa bm) 1 1, vb true, vb false, vb true, vb false, vi 5, .slice (pa bn) 1 1, vb false, vb true, vb false, vb true, vi 6, .slice (pa bp) 1 1, vb false, vb true, vb false, vb true, vi 7, .slice (pa bq) 1 1, vb true, vb true, vb true, vb true, vi 8, .slice (pa br) 3 3, vb false, vb true, vb false, vb true, vi 9, .slice (pa bt) 1 1, vb false, vb true, vb false, vb true]) (8 - 0 : Int).toNat ⟨0, Z, (by omega), Z, Z, Z, Z, Z, ld, ln, lp, lu, lv, lw, ly, lz, l0, l3, ae.blk⟩ ?_
 rintro mm mu nu ⟨i, mg, hi, ag, a8, ah, bj, a9, am, ai, ba, bb, bc, bd, be, bf, bg, bh, ak⟩
 rcases (show i = 0 ∨ i = 1 ∨ i = 2 ∨ i = 3 ∨ i = 4 ∨ i = 5 ∨ i = 6 ∨ i = 7 ∨ i = 8 by omega) with rfl | rfl | rfl | rfl | rfl | rfl | rfl | rfl | rfl
 refine Xa (Qg (q := true) ag a9 (by decide) Z (Xc (Xs (Qe Z Z (Xy (Xv (Xs (Yh (Xa (Ya (o' := 0) W7 bj ag (by omega) (by omega) Z Z (Xq (vs := [vi 1, .slice (pa bk) 1 1, vb true, vb false, vb true, vb false]) Jc Z Z (ak.rangeL 0 6 Z) Z (Yf (cs := #[vi 0, .slice none 0 0, vb false, vb false, vb false, vb false]) Wb Z Z ?_))))))))))))
 intro mh nv E
 have l6 := Yi E am
 have ei := Xr E (ai).lt
 have fg := Xr E (ba).lt
 have fy := Xr E (bb).lt
 have gm := Xr E (bc).lt
 have g6 := Xr E (bd).lt
 have il := Xr E (be).lt
 have iy := Xr E (bf).lt
 have i8 := Xr E (bg).lt
 have jh := Xr E (bh).lt
 have jq := Xr E (ak).lt
 refine Xx (vs := [vi 1, .slice (pa bk) 1 1, vb true, vb false, vb true, vb false]) (cs' := #[vi 1, .slice (pa bk) 1 1, vb true, vb false, vb true, vb false]) Jc Z Z Z (by simp [Value.oneCell']) E.blk (Nat.le_of_ble_eq_true Z) Z ?_
 intro nw an
 have dr := low1 (low0 am E.grw) an.grw (by omega)
 refine Xc (Xa (Xd (o' := 0) Uf Z Z Z (Xh (v := vi 1) Xz Z (an.blk.cell Z) Z (Xb (v := vi q) a8 Z (X3 (q := decide (1 = q)) Z Z Z Z (Xc (X2 Z (fun cl => ?_) (fun cl => ?_))))))))
 have mv := of_decide_eq_true cl
 refine Xa (Xq (vs := [vi 1, .slice (pa bk) 1 1, vb true, vb false, vb true, vb false]) Jc Z Z (an.blk.rangeL 0 6 Z) Z (Xx (vs := [vi 1, .slice (pa bk) 1 1, vb true, vb false, vb true, vb false]) (cs' := #[vi 1, .slice (pa bk) 1 1, vb true, vb false, vb true, vb false]) Jc ah Z Z (by simp [Value.oneCell']) ((ai.grown0 E.grw).gn an.grw) (Nat.le_of_ble_eq_true Z) Z ?_))
 intro nx bz
 refine Xc (Xt (Q1 (Yo (Yo (Q1 (Yo ?_))))))
 have cz := of_decide_eq_true cl
 have le := (((ba.grown0 E.grw).gn an.grw).gn bz.grw)
 have d0 : kindsOf q = ([1] : List Int) := by rw [← cz]; decide
 refine ⟨.agg #[vi 1, .slice (pa bk) 1 1, vb true, vb false, vb true, vb false], J2 Z (Yn (vs := [vi 1, .slice (pa bk) 1 1, vb true, vb false, vb true, vb false]) Jc ah Z (bz.blk.rangeL 0 6 Z)), bk, ?_, jy, ?_, (low1 dr bz.grw (by omega))⟩
 rw [d0, ← cz]; rfl
 rw [d0]; exact le
 have mw := of_decide_eq_false cl
 exact Xy (Qc (Xv (X6 (Yv (c := 1) ag Z (by omega) (by omega) (by omega) Z (Xb (v := vi 1) Z Z (Xc (Xv (⟨(8 - 1 : Int).toNat, by omega, 1, Z, (by omega), Z, a8, ah, bj, a9, dr, ((ai.grown0 E.grw).gn an.grw), ((ba.grown0 E.grw).gn an.grw), ((bb.grown0 E.grw).gn an.grw), ((bc.grown0 E.grw).gn an.grw), ((bd.grown0 E.grw).gn an.grw), ((be.grown0 E.grw).gn an.grw), ((bf.grown0 E.grw).gn an.grw), ((bg.grown0 E.grw).gn an.grw), ((bh.grown0 E.grw).gn an.grw), ((ak.grown0 E.grw).gn an.grw)⟩))))))))
 refine Xa (Qg (q := true) ag a9 (by decide) Z (Xc (Xs (Qe Z Z (Xy (Xv (Xs (Yh (Xa (Ya (o' := 6) W7 bj ag (by omega) (by omega) Z Z (Xq (vs := [vi 2, .slice (pa bl) 1 1, vb false, vb true, vb false, vb true]) Jc Z Z (ak.rangeL 6 6 Z) Z (Yf (cs := #[vi 0, .slice none 0 0, vb false, vb false, vb false, vb false]) Wb Z Z ?_))))))))))))
 intro ml ny G
 have l7 := Yi G am
 have ej := Xr G (ai).lt
 have fh := Xr G (ba).lt
 have fz := Xr G (bb).lt
 have gp := Xr G (bc).lt
 have g7 := Xr G (bd).lt
 have im := Xr G (be).lt
 have iz := Xr G (bf).lt
 have i9 := Xr G (bg).lt
 have ji := Xr G (bh).lt
 have jr := Xr G (ak).lt
 refine Xx (vs := [vi 2, .slice (pa bl) 1 1, vb false, vb true, vb false, vb true]) (cs' := #[vi 2, .slice (pa bl) 1 1, vb false, vb true, vb false, vb true]) Jc Z Z Z (by simp [Value.oneCell']) G.blk (Nat.le_of_ble_eq_true Z) Z ?_
 intro n5 ao
 have dt := low1 (low0 am G.grw) ao.grw (by omega)
 refine Xc (Xa (Xd (o' := 0) Uf Z Z Z (Xh (v := vi 2) Xz Z (ao.blk.cell Z) Z (Xb (v := vi q) a8 Z (X3 (q := decide (2 = q)) Z Z Z Z (Xc (X2 Z (fun cm => ?_) (fun cm => ?_))))))))
 have my := of_decide_eq_true cm
 refine Xa (Xq (vs := [vi 2, .slice (pa bl) 1 1, vb false, vb true, vb false, vb true]) Jc Z Z (ao.blk.rangeL 0 6 Z) Z (Xx (vs := [vi 2, .slice (pa bl) 1 1, vb false, vb true, vb false, vb true]) (cs' := #[vi 2, .slice (pa bl) 1 1, vb false, vb true, vb false, vb true]) Jc ah Z Z (by simp [Value.oneCell']) ((ai.grown0 G.grw).gn ao.grw) (Nat.le_of_ble_eq_true Z) Z ?_))
 intro n7 ca
 refine Xc (Xt (Q1 (Yo (Yo (Q1 (Yo ?_))))))
 have c8 := of_decide_eq_true cm
 have lf := (((bb.grown0 G.grw).gn ao.grw).gn ca.grw)
 have d1 : kindsOf q = ([1] : List Int) := by rw [← c8]; decide
 refine ⟨.agg #[vi 2, .slice (pa bl) 1 1, vb false, vb true, vb false, vb true], J2 Z (Yn (vs := [vi 2, .slice (pa bl) 1 1, vb false, vb true, vb false, vb true]) Jc ah Z (ca.blk.rangeL 0 6 Z)), bl, ?_, jz, ?_, (low1 dt ca.grw (by omega))⟩
 rw [d1, ← c8]; rfl
 rw [d1]; exact lf
 have mz := of_decide_eq_false cm
 exact Xy (Qc (Xv (X6 (Yv (c := 2) ag Z (by omega) (by omega) (by omega) Z (Xb (v := vi 2) Z Z (Xc (Xv (⟨(8 - 2 : Int).toNat, by omega, 2, Z, (by omega), Z, a8, ah, bj, a9, dt, ((ai.grown0 G.grw).gn ao.grw), ((ba.grown0 G.grw).gn ao.grw), ((bb.grown0 G.grw).gn ao.grw), ((bc.grown0 G.grw).gn ao.grw), ((bd.grown0 G.grw).gn ao.grw), ((be.grown0 G.grw).gn ao.grw), ((bf.grown0 G.grw).gn ao.grw), ((bg.grown0 G.grw).gn ao.grw), ((bh.grown0 G.grw).gn ao.grw), ((ak.grown0 G.grw).gn ao.grw)⟩))))))))
 refine Xa (Qg (q := true) ag a9 (by decide) Z (Xc (Xs (Qe Z Z (Xy (Xv (Xs (Yh (Xa (Ya (o' := 12) W7 bj ag (by omega) (by omega) Z Z (Xq (vs := [vi 4, .slice (pa bm) 1 1, vb true, vb false, vb true, vb false]) Jc Z Z (ak.rangeL 12 6 Z) Z (Yf (cs := #[vi 0, .slice none 0 0, vb false, vb false, vb false, vb false]) Wb Z Z ?_))))))))))))
 intro mn n9 J
 have l8 := Yi J am
 have ek := Xr J (ai).lt
 have fi := Xr J (ba).lt
 have f8 := Xr J (bb).lt
 have gq := Xr J (bc).lt
 have g8 := Xr J (bd).lt
 have io := Xr J (be).lt
 have i0 := Xr J (bf).lt
 have ja := Xr J (bg).lt
 have jj := Xr J (bh).lt
 have js := Xr J (ak).lt
 refine Xx (vs := [vi 4, .slice (pa bm) 1 1, vb true, vb false, vb true, vb false]) (cs' := #[vi 4, .slice (pa bm) 1 1, vb true, vb false, vb true, vb false]) Jc Z Z Z (by simp [Value.oneCell']) J.blk (Nat.le_of_ble_eq_true Z) Z ?_
 intro oa ap
 have du := low1 (low0 am J.grw) ap.grw (by omega)
 refine Xc (Xa (Xd (o' := 0) Uf Z Z Z (Xh (v := vi 4) Xz Z (ap.blk.cell Z) Z (Xb (v := vi q) a8 Z (X3 (q := decide (4 = q)) Z Z Z Z (Xc (X2 Z (fun cn => ?_) (fun cn => ?_))))))))
 have m4 := of_decide_eq_true cn
 refine Xa (Xq (vs := [vi 4, .slice (pa bm) 1 1, vb true, vb false, vb true, vb false]) Jc Z Z (ap.blk.rangeL 0 6 Z) Z (Xx (vs := [vi 4, .slice (pa bm) 1 1, vb true, vb false, vb true, vb false]) (cs' := #[vi 4, .slice (pa bm) 1 1, vb true, vb false, vb true, vb false]) Jc ah Z Z (by simp [Value.oneCell']) ((ai.grown0 J.grw).gn ap.grw) (Nat.le_of_ble_eq_true Z) Z ?_))
 intro ob cc
 refine Xc (Xt (Q1 (Yo (Yo (Q1 (Yo ?_))))))
 have c9 := of_decide_eq_true cn
 have lg := (((bc.grown0 J.grw).gn ap.grw).gn cc.grw)
 have d2 : kindsOf q = ([2] : List Int) := by rw [← c9]; decide
 refine ⟨.agg #[vi 4, .slice (pa bm) 1 1, vb true, vb false, vb true, vb false], J2 Z (Yn (vs := [vi 4, .slice (pa bm) 1 1, vb true, vb false, vb true, vb false]) Jc ah Z (cc.blk.rangeL 0 6 Z)), bm, ?_, j1, ?_, (low1 du cc.grw (by omega))⟩
 rw [d2, ← c9]; rfl
 rw [d2]; exact lg
 have m5 := of_decide_eq_false cn
 exact Xy (Qc (Xv (X6 (Yv (c := 3) ag Z (by omega) (by omega) (by omega) Z (Xb (v := vi 3) Z Z (Xc (Xv (⟨(8 - 3 : Int).toNat, by omega, 3, Z, (by omega), Z, a8, ah, bj, a9, du, ((ai.grown0 J.grw).gn ap.grw), ((ba.grown0 J.grw).gn ap.grw), ((bb.grown0 J.grw).gn ap.grw), ((bc.grown0 J.grw).gn ap.grw), ((bd.grown0 J.grw).gn ap.grw), ((be.grown0 J.grw).gn ap.grw), ((bf.grown0 J.grw).gn ap.grw), ((bg.grown0 J.grw).gn ap.grw), ((bh.grown0 J.grw).gn ap.grw), ((ak.grown0 J.grw).gn ap.grw)⟩))))))))
 refine Xa (Qg (q := true) ag a9 (by decide) Z (Xc (Xs (Qe Z Z (Xy (Xv (Xs (Yh (Xa (Ya (o' := 18) W7 bj ag (by omega) (by omega) Z Z (Xq (vs := [vi 5, .slice (pa bn) 1 1, vb false, vb true, vb false, vb true]) Jc Z Z (ak.rangeL 18 6 Z) Z (Yf (cs := #[vi 0, .slice none 0 0, vb false, vb false, vb false, vb false]) Wb Z Z ?_))))))))))))
 intro mo oc O
 have l9 := Yi O am
 have em := Xr O (ai).lt
 have fj := Xr O (ba).lt
 have f9 := Xr O (bb).lt
 have gr := Xr O (bc).lt
 have g9 := Xr O (bd).lt
 have ip := Xr O (be).lt
 have i1 := Xr O (bf).lt
 have jb := Xr O (bg).lt
 have jk := Xr O (bh).lt
 have jt := Xr O (ak).lt
 refine Xx (vs := [vi 5, .slice (pa bn) 1 1, vb false, vb true, vb false, vb true]) (cs' := #[vi 5, .slice (pa bn) 1 1, vb false, vb true, vb false, vb true]) Jc Z Z Z (by simp [Value.oneCell']) O.blk (Nat.le_of_ble_eq_true Z) Z ?_
 intro od aq
 have dv := low1 (low0 am O.grw) aq.grw (by omega)
 refine Xc (Xa (Xd (o' := 0) Uf Z Z Z (Xh (v := vi 5) Xz Z (aq.blk.cell Z) Z (Xb (v := vi q) a8 Z (X3 (q := decide (5 = q)) Z Z Z Z (Xc (X2 Z (fun co => ?_) (fun co => ?_))))))))
 have m6 := of_decide_eq_true co
 refine Xa (Xq (vs := [vi 5, .slice (pa bn) 1 1, vb false, vb true, vb false, vb true]) Jc Z Z (aq.blk.rangeL 0 6 Z) Z (Xx (vs := [vi 5, .slice (pa bn) 1 1, vb false, vb true, vb false, vb true]) (cs' := #[vi 5, .slice (pa bn) 1 1, vb false, vb true, vb false, vb true]) Jc ah Z Z (by simp [Value.oneCell']) ((ai.grown0 O.grw).gn aq.grw) (Nat.le_of_ble_eq_true Z) Z ?_))
 intro oe cd
 refine Xc (Xt (Q1 (Yo (Yo (Q1 (Yo ?_))))))
 have da := of_decide_eq_true co
 have lh := (((bd.grown0 O.grw).gn aq.grw).gn cd.grw)
 have d3 : kindsOf q = ([2] : List Int) := by rw [← da]; decide
 refine ⟨.agg #[vi 5, .slice (pa bn) 1 1, vb false, vb true, vb false, vb true], J2 Z (Yn (vs := [vi 5, .slice (pa bn) 1 1, vb false, vb true, vb false, vb true]) Jc ah Z (cd.blk.rangeL 0 6 Z)), bn, ?_, j2, ?_, (low1 dv cd.grw (by omega))⟩
 rw [d3, ← da]; rfl
 rw [d3]; exact lh
 have m7 := of_decide_eq_false co
 exact Xy (Qc (Xv (X6 (Yv (c := 4) ag Z (by omega) (by omega) (by omega) Z (Xb (v := vi 4) Z Z (Xc (Xv (⟨(8 - 4 : Int).toNat, by omega, 4, Z, (by omega), Z, a8, ah, bj, a9, dv, ((ai.grown0 O.grw).gn aq.grw), ((ba.grown0 O.grw).gn aq.grw), ((bb.grown0 O.grw).gn aq.grw), ((bc.grown0 O.grw).gn aq.grw), ((bd.grown0 O.grw).gn aq.grw), ((be.grown0 O.grw).gn aq.grw), ((bf.grown0 O.grw).gn aq.grw), ((bg.grown0 O.grw).gn aq.grw), ((bh.grown0 O.grw).gn aq.grw), ((ak.grown0 O.grw).gn aq.grw)⟩))))))))
 refine Xa (Qg (q := true) ag a9 (by decide) Z (Xc (Xs (Qe Z Z (Xy (Xv (Xs (Yh (Xa (Ya (o' := 24) W7 bj ag (by omega) (by omega) Z Z (Xq (vs := [vi 6, .slice (pa bp) 1 1, vb false, vb true, vb false, vb true]) Jc Z Z (ak.rangeL 24 6 Z) Z (Yf (cs := #[vi 0, .slice none 0 0, vb false, vb false, vb false, vb false]) Wb Z Z ?_))))))))))))
 intro mp og V
 have ma := Yi V am
 have eo := Xr V (ai).lt
 have fk := Xr V (ba).lt
 have ga := Xr V (bb).lt
 have gt := Xr V (bc).lt
 have ia := Xr V (bd).lt
 have iq := Xr V (be).lt
 have i2 := Xr V (bf).lt
 have jc := Xr V (bg).lt
 have jl := Xr V (bh).lt
 have ju := Xr V (ak).lt
 refine Xx (vs := [vi 6, .slice (pa bp) 1 1, vb false, vb true, vb false, vb true]) (cs' := #[vi 6, .slice (pa bp) 1 1, vb false, vb true, vb false, vb true]) Jc Z Z Z (by simp [Value.oneCell']) V.blk (Nat.le_of_ble_eq_true Z) Z ?_
 intro oh ar
 have dw := low1 (low0 am V.grw) ar.grw (by omega)
 refine Xc (Xa (Xd (o' := 0) Uf Z Z Z (Xh (v := vi 6) Xz Z (ar.blk.cell Z) Z (Xb (v := vi q) a8 Z (X3 (q := decide (6 = q)) Z Z Z Z (Xc (X2 Z (fun ct => ?_) (fun ct => ?_))))))))
 have m8 := of_decide_eq_true ct
 refine Xa (Xq (vs := [vi 6, .slice (pa bp) 1 1, vb false, vb true, vb false, vb true]) Jc Z Z (ar.blk.rangeL 0 6 Z) Z (Xx (vs := [vi 6, .slice (pa bp) 1 1, vb false, vb true, vb false, vb true]) (cs' := #[vi 6, .slice (pa bp) 1 1, vb false, vb true, vb false, vb true]) Jc ah Z Z (by simp [Value.oneCell']) ((ai.grown0 V.grw).gn ar.grw) (Nat.le_of_ble_eq_true Z) Z ?_))
 intro ol ce
 refine Xc (Xt (Q1 (Yo (Yo (Q1 (Yo ?_))))))
 have db := of_decide_eq_true ct
 have li := (((be.grown0 V.grw).gn ar.grw).gn ce.grw)
 have d4 : kindsOf q = ([4] : List Int) := by rw [← db]; decide
 refine ⟨.agg #[vi 6, .slice (pa bp) 1 1, vb false, vb true, vb false, vb true], J2 Z (Yn (vs := [vi 6, .slice (pa bp) 1 1, vb false, vb true, vb false, vb true]) Jc ah Z (ce.blk.rangeL 0 6 Z)), bp, ?_, j3, ?_, (low1 dw ce.grw (by omega))⟩
 rw [d4, ← db]; rfl
 rw [d4]; exact li
 have m9 := of_decide_eq_false ct
 exact Xy (Qc (Xv (X6 (Yv (c := 5) ag Z (by omega) (by omega) (by omega) Z (Xb (v := vi 5) Z Z (Xc (Xv (⟨(8 - 5 : Int).toNat, by omega, 5, Z, (by omega), Z, a8, ah, bj, a9, dw, ((ai.grown0 V.grw).gn ar.grw), ((ba.grown0 V.grw).gn ar.grw), ((bb.grown0 V.grw).gn ar.grw), ((bc.grown0 V.grw).gn ar.grw), ((bd.grown0 V.grw).gn ar.grw), ((be.grown0 V.grw).gn ar.grw), ((bf.grown0 V.grw).gn ar.grw), ((bg.grown0 V.grw).gn ar.grw), ((bh.grown0 V.grw).gn ar.grw), ((ak.grown0 V.grw).gn ar.grw)⟩))))))))
 refine Xa (Qg (q := true) ag a9 (by decide) Z (Xc (Xs (Qe Z Z (Xy (Xv (Xs (Yh (Xa (Ya (o' := 30) W7 bj ag (by omega) (by omega) Z Z (Xq (vs := [vi 7, .slice (pa bq) 1 1, vb true, vb true, vb true, vb true]) Jc Z Z (ak.rangeL 30 6 Z) Z (Yf (cs := #[vi 0, .slice none 0 0, vb false, vb false, vb false, vb false]) Wb Z Z ?_))))))))))))
 intro mq om ab
 have mb := Yi ab am
 have ep := Xr ab (ai).lt
 have fm := Xr ab (ba).lt
 have gb := Xr ab (bb).lt
 have gu := Xr ab (bc).lt
 have ib := Xr ab (bd).lt
 have ir := Xr ab (be).lt
 have i3 := Xr ab (bf).lt
 have jd := Xr ab (bg).lt
 have jm := Xr ab (bh).lt
 have jv := Xr ab (ak).lt
 refine Xx (vs := [vi 7, .slice (pa bq) 1 1, vb true, vb true, vb true, vb true]) (cs' := #[vi 7, .slice (pa bq) 1 1, vb true, vb true, vb true, vb true]) Jc Z Z Z (by simp [Value.oneCell']) ab.blk (Nat.le_of_ble_eq_true Z) Z ?_
 intro oo au
 have dx := low1 (low0 am ab.grw) au.grw (by omega)
 refine Xc (Xa (Xd (o' := 0) Uf Z Z Z (Xh (v := vi 7) Xz Z (au.blk.cell Z) Z (Xb (v := vi q) a8 Z (X3 (q := decide (7 = q)) Z Z Z Z (Xc (X2 Z (fun cv => ?_) (fun cv => ?_))))))))
 have na := of_decide_eq_true cv
 refine Xa (Xq (vs := [vi 7, .slice (pa bq) 1 1, vb true, vb true, vb true, vb true]) Jc Z Z (au.blk.rangeL 0 6 Z) Z (Xx (vs := [vi 7, .slice (pa bq) 1 1, vb true, vb true, vb true, vb true]) (cs' := #[vi 7, .slice (pa bq) 1 1, vb true, vb true, vb true, vb true]) Jc ah Z Z (by simp [Value.oneCell']) ((ai.grown0 ab.grw).gn au.grw) (Nat.le_of_ble_eq_true Z) Z ?_))
 intro oq cf
 refine Xc (Xt (Q1 (Yo (Yo (Q1 (Yo ?_))))))
 have dc := of_decide_eq_true cv
 have lj := (((bf.grown0 ab.grw).gn au.grw).gn cf.grw)
 have d5 : kindsOf q = ([4] : List Int) := by rw [← dc]; decide
 refine ⟨.agg #[vi 7, .slice (pa bq) 1 1, vb true, vb true, vb true, vb true], J2 Z (Yn (vs := [vi 7, .slice (pa bq) 1 1, vb true, vb true, vb true, vb true]) Jc ah Z (cf.blk.rangeL 0 6 Z)), bq, ?_, j4, ?_, (low1 dx cf.grw (by omega))⟩
 rw [d5, ← dc]; rfl
 rw [d5]; exact lj
 have nb := of_decide_eq_false cv
 exact Xy (Qc (Xv (X6 (Yv (c := 6) ag Z (by omega) (by omega) (by omega) Z (Xb (v := vi 6) Z Z (Xc (Xv (⟨(8 - 6 : Int).toNat, by omega, 6, Z, (by omega), Z, a8, ah, bj, a9, dx, ((ai.grown0 ab.grw).gn au.grw), ((ba.grown0 ab.grw).gn au.grw), ((bb.grown0 ab.grw).gn au.grw), ((bc.grown0 ab.grw).gn au.grw), ((bd.grown0 ab.grw).gn au.grw), ((be.grown0 ab.grw).gn au.grw), ((bf.grown0 ab.grw).gn au.grw), ((bg.grown0 ab.grw).gn au.grw), ((bh.grown0 ab.grw).gn au.grw), ((ak.grown0 ab.grw).gn au.grw)⟩))))))))
 refine Xa (Qg (q := true) ag a9 (by decide) Z (Xc (Xs (Qe Z Z (Xy (Xv (Xs (Yh (Xa (Ya (o' := 36) W7 bj ag (by omega) (by omega) Z Z (Xq (vs := [vi 8, .slice (pa br) 3 3, vb false, vb true, vb false, vb true]) Jc Z Z (ak.rangeL 36 6 Z) Z (Yf (cs := #[vi 0, .slice none 0 0, vb false, vb false, vb false, vb false]) Wb Z Z ?_))))))))))))
 intro mr ot ac
 have mc := Yi ac am
 have eu := Xr ac (ai).lt
 have fo := Xr ac (ba).lt
 have gc := Xr ac (bb).lt
 have gv := Xr ac (bc).lt
 have ic := Xr ac (bd).lt
 have it := Xr ac (be).lt
 have i4 := Xr ac (bf).lt
 have je := Xr ac (bg).lt
 have jo := Xr ac (bh).lt
 have jw := Xr ac (ak).lt
 refine Xx (vs := [vi 8, .slice (pa br) 3 3, vb false, vb true, vb false, vb true]) (cs' := #[vi 8, .slice (pa br) 3 3, vb false, vb true, vb false, vb true]) Jc Z Z Z (by simp [Value.oneCell']) ac.blk (Nat.le_of_ble_eq_true Z) Z ?_
 intro ou av
 have dy := low1 (low0 am ac.grw) av.grw (by omega)
 refine Xc (Xa (Xd (o' := 0) Uf Z Z Z (Xh (v := vi 8) Xz Z (av.blk.cell Z) Z (Xb (v := vi q) a8 Z (X3 (q := decide (8 = q)) Z Z Z Z (Xc (X2 Z (fun cw => ?_) (fun cw => ?_))))))))
 have nc := of_decide_eq_true cw
 refine Xa (Xq (vs := [vi 8, .slice (pa br) 3 3, vb false, vb true, vb false, vb true]) Jc Z Z (av.blk.rangeL 0 6 Z) Z (Xx (vs := [vi 8, .slice (pa br) 3 3, vb false, vb true, vb false, vb true]) (cs' := #[vi 8, .slice (pa br) 3 3, vb false, vb true, vb false, vb true]) Jc ah Z Z (by simp [Value.oneCell']) ((ai.grown0 ac.grw).gn av.grw) (Nat.le_of_ble_eq_true Z) Z ?_))
 intro ov cg
 refine Xc (Xt (Q1 (Yo (Yo (Q1 (Yo ?_))))))
 have de := of_decide_eq_true cw
 have lk := (((bg.grown0 ac.grw).gn av.grw).gn cg.grw)
 have d6 : kindsOf q = ([1, 2, 4] : List Int) := by rw [← de]; decide
 refine ⟨.agg #[vi 8, .slice (pa br) 3 3, vb false, vb true, vb false, vb true], J2 Z (Yn (vs := [vi 8, .slice (pa br) 3 3, vb false, vb true, vb false, vb true]) Jc ah Z (cg.blk.rangeL 0 6 Z)), br, ?_, j5, ?_, (low1 dy cg.grw (by omega))⟩
 rw [d6, ← de]; rfl
 rw [d6]; exact lk
 have nd := of_decide_eq_false cw
 exact Xy (Qc (Xv (X6 (Yv (c := 7) ag Z (by omega) (by omega) (by omega) Z (Xb (v := vi 7) Z Z (Xc (Xv (⟨(8 - 7 : Int).toNat, by omega, 7, Z, (by omega), Z, a8, ah, bj, a9, dy, ((ai.grown0 ac.grw).gn av.grw), ((ba.grown0 ac.grw).gn av.grw), ((bb.grown0 ac.grw).gn av.grw), ((bc.grown0 ac.grw).gn av.grw), ((bd.grown0 ac.grw).gn av.grw), ((be.grown0 ac.grw).gn av.grw), ((bf.grown0 ac.grw).gn av.grw), ((bg.grown0 ac.grw).gn av.grw), ((bh.grown0 ac.grw).gn av.grw), ((ak.grown0 ac.grw).gn av.grw)⟩))))))))
 refine Xa (Qg (q := true) ag a9 (by decide) Z (Xc (Xs (Qe Z Z (Xy (Xv (Xs (Yh (Xa (Ya (o' := 42) W7 bj ag (by omega) (by omega) Z Z (Xq (vs := [vi 9, .slice (pa bt) 1 1, vb false, vb true, vb false, vb true]) Jc Z Z (ak.rangeL 42 6 Z) Z (Yf (cs := #[vi 0, .slice none 0 0, vb false, vb false, vb false, vb false]) Wb Z Z ?_))))))))))))
 intro mt ow ad
 have me := Yi ad am
 have ew := Xr ad (ai).lt
 have fp := Xr ad (ba).lt
 have gf := Xr ad (bb).lt
 have gw := Xr ad (bc).lt
 have ie := Xr ad (bd).lt
 have iu := Xr ad (be).lt
 have i5 := Xr ad (bf).lt
 have jf := Xr ad (bg).lt
 have jp := Xr ad (bh).lt
 have jx := Xr ad (ak).lt
 refine Xx (vs := [vi 9, .slice (pa bt) 1 1, vb false, vb true, vb false, vb true]) (cs' := #[vi 9, .slice (pa bt) 1 1, vb false, vb true, vb false, vb true]) Jc Z Z Z (by simp [Value.oneCell']) ad.blk (Nat.le_of_ble_eq_true Z) Z ?_
 intro ox aw
 have dz := low1 (low0 am ad.grw) aw.grw (by omega)
 refine Xc (Xa (Xd (o' := 0) Uf Z Z Z (Xh (v := vi 9) Xz Z (aw.blk.cell Z) Z (Xb (v := vi q) a8 Z (X3 (q := decide (9 = q)) Z Z Z Z (Xc (X2 Z (fun cy => ?_) (fun cy => ?_))))))))
 have ne := of_decide_eq_true cy
 refine Xa (Xq (vs := [vi 9, .slice (pa bt) 1 1, vb false, vb true, vb false, vb true]) Jc Z Z (aw.blk.rangeL 0 6 Z) Z (Xx (vs := [vi 9, .slice (pa bt) 1 1, vb false, vb true, vb false, vb true]) (cs' := #[vi 9, .slice (pa bt) 1 1, vb false, vb true, vb false, vb true]) Jc ah Z Z (by simp [Value.oneCell']) ((ai.grown0 ad.grw).gn aw.grw) (Nat.le_of_ble_eq_true Z) Z ?_))
 intro oy cj
 refine Xc (Xt (Q1 (Yo (Yo (Q1 (Yo ?_))))))
 have df := of_decide_eq_true cy
 have ll := (((bh.grown0 ad.grw).gn aw.grw).gn cj.grw)
 have d7 : kindsOf q = ([5] : List Int) := by rw [← df]; decide
 refine ⟨.agg #[vi 9, .slice (pa bt) 1 1, vb false, vb true, vb false, vb true], J2 Z (Yn (vs := [vi 9, .slice (pa bt) 1 1, vb false, vb true, vb false, vb true]) Jc ah Z (cj.blk.rangeL 0 6 Z)), bt, ?_, j6, ?_, (low1 dz cj.grw (by omega))⟩
 rw [d7, ← df]; rfl
 rw [d7]; exact ll
 have nf := of_decide_eq_false cy
 exact Xy (Qc (Xv (X6 (Yv (c := 8) ag Z (by omega) (by omega) (by omega) Z (Xb (v := vi 8) Z Z (Xc (Xv (⟨(8 - 8 : Int).toNat, by omega, 8, Z, (by omega), Z, a8, ah, bj, a9, dz, ((ai.grown0 ad.grw).gn aw.grw), ((ba.grown0 ad.grw).gn aw.grw), ((bb.grown0 ad.grw).gn aw.grw), ((bc.grown0 ad.grw).gn aw.grw), ((bd.grown0 ad.grw).gn aw.grw), ((be.grown0 ad.grw).gn aw.grw), ((bf.grown0 ad.grw).gn aw.grw), ((bg.grown0 ad.grw).gn aw.grw), ((bh.grown0 ad.grw).gn aw.grw), ((ak.grown0 ad.grw).gn aw.grw)⟩))))))))
 refine Xa (Qg (q := false) ag a9 (by decide) Z (Xc (Xs (Qb Z Z (Qp (Ql (Ql (Jv (Xv (Xa (Xb (v := vi q) a8 Z (Ys (ps := [(0, vi q)]) (v := .agg #[vi q, .slice none 0 0, vb false, vb false, vb false, vb false]) (Xj Z X5) (by kernel_rfl) Z ?_))))))))))))
 refine Xx (vs := [vi q, .slice none 0 0, vb false, vb false, vb false, vb false]) (cs' := #[vi q, .slice none 0 0, vb false, vb false, vb false, vb false]) Jc ah Z Z (by simp [Value.oneCell']) ai (Nat.le_of_ble_eq_true Z) Z ?_
 intro oz mf
 refine Xc (Xt ?_)
 exfalso; omega
theorem M2 (k x : Int) (b0 b1 b2 b3 : Bool) (w : World) (xs : List Int) (a : Option Addr) (c : Nat) (hs : SlAt w a 1 (xs.map icell)) (hn : xs.length ≤ 1048576) : CallsR Tryz.prog 70 #[.agg #[vi k, .slice a xs.length c, vb b0, vb b1, vb b2, vb b3], vi x] w (fun v w' => v = vb (xs.any (fun y : Int => decide (y = x))) ∧ w.grownBy w' none) := by
 refine Xw (n := 18) Tryz.func70 Z Tryz.ntmps70 Z ?_
 have aj := World.grownBy.refl w none
 refine Xa (Qd (v := .agg #[vi k, .slice a xs.length c, vb b0, vb b1, vb b2, vb b3]) (cs := #[vi k, .slice a xs.length c, vb b0, vb b1, vb b2, vb b3]) Z Z Z ?_)
 intro am az J
 have ak := Yi J aj
 refine Xf (v := vb false) Z Z (Xc (Xs (Xa (Xd (o' := 1) Cz Z Z Z (Xh (v := .slice a xs.length c) Jr Z (J.blk.cell Z) Z (Yr (by kernel_rfl) Z Z (Xb (v := vi 0) Z Z (Xc (Yh (Q0 (fun mm f' w' => ∃ (k1 : Nat), mm = xs.length - k1 ∧ k1 ≤ xs.length ∧ ((xs.take k1).any (fun y : Int => decide (y = x))) = false ∧ f' 10 = vi (k1 : Int) ∧ f' 1 = vi x ∧ f' 8 = .slice a xs.length c ∧ f' 9 = vi (xs.length : Int) ∧ w.grownBy w' none) (xs.length - 0) ⟨0, Z, (Nat.zero_le _), Z, Z, Z, Z, Z, (low0 aj J.grw)⟩ ?_))))))))))
 rintro mm ao a8 ⟨k1, al, a9, ha, ab, ad, ae, af, E⟩
 refine Xa (Qg (q := decide ((k1 : Int) < (xs.length : Int))) ab af Z Z (Xc (Xs (X2 Z (fun ac => ?_) (fun ac => ?_)))))
 have ap := of_decide_eq_true ac
 refine Xy (Xv (Xs (Yh (Xa ?_))))
 obtain ⟨V, O⟩ := Jl (l := xs) (i := k1) (by omega)
 obtain ⟨an, aw, av, ag, ah, ai⟩ := SlAt.at hs (Yk O)
 refine X0 Km ae ab ag ah (by omega) (by omega) Z (Xh (v := vi V) Xz Z ((Ye ai E) 0 _ Z) Z (Xf (v := vi V) Z Z (Xc (Xa (Xb (v := vi V) Z Z (Xb (v := vi x) ad Z (X3 (q := decide (V = x)) Z Z Z Z (Xc (X2 Z (fun G => ?_) (fun G => ?_))))))))))
 have aq := of_decide_eq_true G
 refine Xa (Xf (v := vb true) Z Z (Xc (Xt (Q1 (Yo (Yo (Q1 (Yo (⟨vb true, Yx Z Z, ?_, E⟩)))))))))
 exact cB (Rr (p := (fun y : Int => decide (y = x))) O G).symm
 have ar := of_decide_eq_false G
 exact Xy (Qc (Xv (X6 (Yv (c := (k1 : Int) + 1) ab Z (by omega) (by omega) (by omega) Z (Xb (v := vi ((k1 : Int) + 1)) Z Z (Xc (Xv (⟨xs.length - (k1 + 1), by omega, (k1 + 1), Z, (by omega), (Np (p := (fun y : Int => decide (y = x))) ha O G), Z, ad, ae, af, E⟩))))))))
 have au := of_decide_eq_false ac
 refine Qp (Ql (Ql (Jv (Xv (Xa (Xf (v := vb false) Z Z (Xc (Xt (⟨vb false, Yx Z Z, ?_, E⟩)))))))))
 exact cB (Rq (p := (fun y : Int => decide (y = x))) ha (by omega)).symm
theorem Nv (q : Cl) (w : World) (ms : List MTh) (a : Option Addr) (c : Nat) (ht : TabAt w a ms) (hlen : TabLen ms) (hn : ms.length ≤ 1048576) : CallsR Tryz.prog 47 #[.slice a ms.length c, .agg #[vi q.kind, vi q.run, vi q.a, vi q.b, vi q.n]] w (fun v w' => ((chkAll (tabT ms) q = 0 ∧ v = .nilIface) ∨ (∃ R : Nat, (¬ chkAll (tabT ms) q = 0 ∧ v = .iface 63 (pt R 0)) ∧ w.heap.size ≤ R ∧ Blk w' R 70 #[vi (chkAll (tabT ms) q)])) ∧ w.grownBy w' none) := by
 refine Xw (n := 107) Tryz.func47 Z Tryz.ntmps47 Z ?_
 have j3 := World.grownBy.refl w none
 refine Xa (Qd (v := .agg #[vi q.kind, vi q.run, vi q.a, vi q.b, vi q.n]) (cs := #[vi q.kind, vi q.run, vi q.a, vi q.b, vi q.n]) Z Z Z ?_)
 intro cc k0 bt
 have kb := Yi bt j3
 have dx := low0 j3 bt.grw
 refine Xf (v := .nilIface) Z Z (Xc (Xs (Xa (Xb (v := .slice a ms.length c) Z Z (Xq (vs := [vi q.kind, vi q.run, vi q.a, vi q.b, vi q.n]) Y1 Z Z (bt.blk.rangeL 0 5 Z) Z (Xm Ii (Xg Z (Xg Z Xl)) Z (Ll q _ ms _ _ (TabAt.low ht dx) hlen (by omega)) ?_))))))
 rintro _ k4 ⟨rfl, cz⟩
 have bu := low0 dx cz
 refine Yj (b' := !callPoss (tabT ms) q) Z Z Z (Xc (X2 Z (fun ae => ?_) (fun ae => ?_)))
 have j1 := Jm ae
 refine Xa (Ys (ps := [(0, vi (-1))]) (v := .agg #[vi (-1)]) (Xj Z X5) (by kernel_rfl) Z (Qd (v := .agg #[vi (-1)]) (cs := #[vi (-1)]) Z Z Z ?_))
 intro c8 k5 cf
 have fk := Yi cf bu
 have ed := Xr cf ((bt.blk.grown0 cz)).lt
 refine Vu (v := pt c8 0) (by kernel_rfl) Z Z (Xf (v := .iface 63 (pt c8 0)) Z Z (Xc (Xt (Yo ?_))))
 have dk : chkAll (tabT ms) q = -1 := Nt j1
 refine ⟨.iface 63 (pt c8 0), Yx Z Z, Or.inr ⟨c8, ⟨by rw [dk]; decide, Z⟩, fk, ?_⟩, (low0 bu cf.grw)⟩
 rw [dk]; exact cf.blk
 have ab := Qu ae
 obtain ⟨G, J, E⟩ := Yd ab
 have j9 := Yw J
 have ka := (Y5 E).1
 have kk := Qt G E
 have ki := Jk G
 refine Xy (Xv (Xs (Xa (Xd (o' := 0) Ji Z Z Z ?_))))
 have dr := (bt.blk.grown0 cz)
 refine Xh (v := vi q.kind) Xz Z (dr.cell Z) Z (X3 (q := decide (q.kind = 3)) Z Z Z Z (Xc (X2 Z (fun V => ?_) (fun V => ?_))))
 have kq := of_decide_eq_true V
 refine Xa (Xf (v := .nilIface) Z Z (Xc (Xt (Yo ?_))))
 have fi : chkAll (tabT ms) q = 0 := (Qz ab).trans (Lo V).symm
 exact ⟨.nilIface, Yx Z Z, Or.inl ⟨fi, Z⟩, bu⟩
 have kr := of_decide_eq_false V
 refine Xy (Xv (Xa (Xd (o' := 0) Ji Z Z Z (Xh (v := vi q.kind) Xz Z (dr.cell Z) Z (Xm Z7 (Xg Z Xl) Z (Fu q.kind (by omega) _) ?_)))))
 rintro _ k6 ⟨ck, rfl, dq, bb, d0⟩
 have dy := low0 bu d0
 have kc := nt bu.size dq
 have ee := nl (dr).lt dq
 refine Yf (cs := #[vi 0, .slice none 0 0, vb false, vb false, vb false, vb false]) Wb Z Z ?_
 intro c9 k7 am
 have ke := Yi am dy
 have bw := (dr.grown0 d0)
 have ef := Xr am (bw).lt
 have em := Xr am (bb).lt
 refine Xx (vs := [vi q.kind, .slice (pa ck) (kindsOf q.kind).length (kindsOf q.kind).length, vb (need0 q.kind), vb (need1 q.kind), vb (need0 q.kind), vb (need1 q.kind)]) (cs' := #[vi q.kind, .slice (pa ck) (kindsOf q.kind).length (kindsOf q.kind).length, vb (need0 q.kind), vb (need1 q.kind), vb (need0 q.kind), vb (need1 q.kind)]) Jc Z Z Z (by simp [Value.oneCell']) am.blk (Nat.le_of_ble_eq_true Z) Z ?_
 intro gc ag
 have cg := low1 (low0 dy am.grw) ag.grw (by omega)
 refine Xc (Xs ?_)
 obtain ⟨ft, kx, d9, gf, g6, g9⟩ := SlAt.at (TabAt.low ht cg).1 (Yk (xg ms (q.run - 1).toNat))
 have kg := TabLen.at hlen (xg ms (q.run - 1).toNat)
 obtain ⟨ie, ky, j5, gg, g7, ia⟩ := SlAt.at (TabAt.th (TabAt.low ht cg) (xg ms (q.run - 1).toNat)).1 (Yk (xr (mAt ms (q.run - 1).toNat).t.slots (q.a).toNat))
 have kj := Vg G (lq (q.run - 1).toNat ms.length) (lq (q.a).toNat (mAt ms (q.run - 1).toNat).t.slots.length)
 refine Q2 (m := 12) [[], [], [1], [1, 2], [0, 1, 2, 3], [0, 1, 2, 3, 4], [0, 1, 2, 3, 4, 5], [], [7], [0, 1, 2, 3, 4, 5, 6, 7, 8], [0, 1, 2, 3, 4, 5, 6, 7, 8, 9], [], [0, 1, 2, 3, 4, 5, 6, 7, 8, 9, 10, 11]] (fun S F w' => ∃ (O : Nat), gc.grownBy w' none ∧ F 0 = .slice a ms.length c ∧ F 3 = pt cc 0 ∧ F 4 = .nilIface ∧ F 5 = pt c9 0 ∧ (S 11 = true → F 6 = pt O 0 ∧ w.heap.size ≤ O ∧ Blk w' O 33 #[vi 0, vi 0, vb false, vb false, vb false] ∧ cc < O ∧ ck < O ∧ c9 < O ∧ gc.heap.size ≤ O) ∧ Vals S F [(0, 21, .slice a ms.length c), (1, 22, pt cc 1), (2, 23, vi q.run), (3, 24, vi (q.run - 1)), (4, 25, pt ft d9), (5, 26, pt ft (d9 + 5)), (6, 27, .slice (mAt ms (q.run - 1).toNat).sa (mAt ms (q.run - 1).toNat).t.slots.length (mAt ms (q.run - 1).toNat).sc), (7, 28, pt cc 2), (8, 29, vi q.a), (9, 30, pt ie j5), (10, 31, .agg #[vi (rAt (mAt ms (q.run - 1).toNat).t.slots (q.a).toNat).th, vi (rAt (mAt ms (q.run - 1).toNat).t.slots (q.a).toNat).ve, vb (rAt (mAt ms (q.run - 1).toNat).t.slots (q.a).toNat).rd, vb (rAt (mAt ms (q.run - 1).toNat).t.slots (q.a).toNat).wr, vb (rAt (mAt ms (q.run - 1).toNat).t.slots (q.a).toNat).wk])]) Y0 (by kernel_rfl) ⟨0, X7 _, Z, Z, Z, Z, Yy, Ka _⟩ ?_ ?_
 refine Xk (fun S F k8 hS hbef hcl hI => ?_) ?_
 obtain ⟨O, gm, fv, ig, ii, ij, ak, hvs⟩ := hI
 exact Xb (v := .slice a ms.length c) fv Z (Xc ⟨O, gm, fv, ig, ii, ij, ak, Vals.up 0 hvs Z Z Z⟩)
 refine Xk (fun S F k9 hS hbef hcl hI => ?_) ?_
 obtain ⟨O, gp, ik, fw, il, im, ak, hvs⟩ := hI
 exact Xd (o' := 1) Y9 fw Z Z (Xc ⟨O, gp, ik, fw, il, im, ak, Vals.up 1 hvs Z Z Z⟩)
 refine Xk (fun S F la hS hbef hcl hI => ?_) ?_
 obtain ⟨O, d1, io, ip, iq, ir, ak, hvs⟩ := hI
 exact Xh (v := vi q.run) Xz (Vals.at 1 hvs Z (Xp 1 hbef Z)) ((((bw.grown0 am.grw).gn ag.grw).grown0 d1).cell Z) Z (Xc ⟨O, d1, io, ip, iq, ir, ak, Vals.up 2 hvs Z Z Z⟩)
 refine Xk (fun S F lc hS hbef hcl hI => ?_) ?_
 obtain ⟨O, gq, it, iu, iv, iw, ak, hvs⟩ := hI
 exact Ym (c := q.run - 1) (Vals.at 2 hvs Z (Xp 2 hbef Z)) Z (by omega) (by omega) (by omega) Z (Xc ⟨O, gq, it, iu, iv, iw, ak, Vals.up 3 hvs Z Z Z⟩)
 refine Xk (fun S F ld hS hbef hcl hI => ?_) ?_
 obtain ⟨O, gr, ix, iy, iz, i0, ak, hvs⟩ := hI
 exact X0 Y6 (Vals.at 0 hvs Z (Xp 0 hbef Z)) (Vals.at 3 hvs Z (Xp 3 hbef Z)) gf g6 (by omega) (by omega) Z (Xc ⟨O, gr, ix, iy, iz, i0, ak, Vals.up 4 hvs Z Z Z⟩)
 refine Xk (fun S F le hS hbef hcl hI => ?_) ?_
 obtain ⟨O, gt, i1, i2, i3, i4, ak, hvs⟩ := hI
 exact Xd (o' := d9 + 5) Qi (Vals.at 4 hvs Z (Xp 4 hbef Z)) Z Z (Xc ⟨O, gt, i1, i2, i3, i4, ak, Vals.up 5 hvs Z Z Z⟩)
 refine Xk (fun S F lf hS hbef hcl hI => ?_) ?_
 obtain ⟨O, d2, i5, i6, i7, i8, ak, hvs⟩ := hI
 exact Xh (v := .slice (mAt ms (q.run - 1).toNat).sa (mAt ms (q.run - 1).toNat).t.slots.length (mAt ms (q.run - 1).toNat).sc) Jd (Vals.at 5 hvs Z (Xp 5 hbef Z)) ((Ye g9 d2) 5 _ Z) Z (Xc ⟨O, d2, i5, i6, i7, i8, ak, Vals.up 6 hvs Z Z Z⟩)
 refine Xk (fun S F lg hS hbef hcl hI => ?_) ?_
 obtain ⟨O, gu, i9, fx, ja, jb, ak, hvs⟩ := hI
 exact Xd (o' := 2) Ju fx Z Z (Xc ⟨O, gu, i9, fx, ja, jb, ak, Vals.up 7 hvs Z Z Z⟩)
 refine Xk (fun S F lh hS hbef hcl hI => ?_) ?_
 obtain ⟨O, d3, jc, jd, je, jf, ak, hvs⟩ := hI
 exact Xh (v := vi q.a) Xz (Vals.at 7 hvs Z (Xp 7 hbef Z)) ((((bw.grown0 am.grw).gn ag.grw).grown0 d3).cell Z) Z (Xc ⟨O, d3, jc, jd, je, jf, ak, Vals.up 8 hvs Z Z Z⟩)
 refine Xk (fun S F li hS hbef hcl hI => ?_) ?_
 obtain ⟨O, gv, jg, jh, ji, jj, ak, hvs⟩ := hI
 exact X0 J9 (Vals.at 6 hvs Z (Xp 6 hbef Z)) (Vals.at 8 hvs Z (Xp 8 hbef Z)) gg g7 (by omega) (by omega) Z (Xc ⟨O, gv, jg, jh, ji, jj, ak, Vals.up 9 hvs Z Z Z⟩)
 refine Xk (fun S F lj hS hbef hcl hI => ?_) ?_
 obtain ⟨O, d4, jk, jl, jm, jo, ak, hvs⟩ := hI
 exact Xq (vs := [vi (rAt (mAt ms (q.run - 1).toNat).t.slots (q.a).toNat).th, vi (rAt (mAt ms (q.run - 1).toNat).t.slots (q.a).toNat).ve, vb (rAt (mAt ms (q.run - 1).toNat).t.slots (q.a).toNat).rd, vb (rAt (mAt ms (q.run - 1).toNat).t.slots (q.a).toNat).wr, vb (rAt (mAt ms (q.run - 1).toNat).t.slots (q.a).toNat).wk]) Yz (Vals.at 9 hvs Z (Xp 9 hbef Z)) Z (Y3 (Ye ia d4) 0 5 Z) Z (Xc ⟨O, d4, jk, jl, jm, jo, ak, Vals.up 10 hvs Z Z Z⟩)
 refine Xk (fun S F lk hS hbef hcl hI => ?_) ?_
 obtain ⟨O, bm, jp, jq, jr, js, ak, hvs⟩ := hI
 refine Yf (cs := #[vi 0, vi 0, vb false, vb false, vb false]) K7 Z Z ?_
 intro ic ll bg
 have fm := Yi bg (low0 cg bm)
 have bx := Xr bg ((((bw.grown0 am.grw).gn ag.grw).grown0 bm)).lt
 have bz := Xr bg ((((bb.grown0 am.grw).gn ag.grw).grown0 bm)).lt
 have ca := Xr bg ((ag.blk.grown0 bm)).lt
 exact Xc ⟨ic, (low0 bm bg.grw), jp, jq, jr, js, fun _ => ⟨Z, fm, bg.blk, bx, bz, ca, (nt bm.size (Nat.le_of_eq bg.eq.symm))⟩, Vals.keep hvs Z⟩
 exact Je
 intro S F lm hall hI
 obtain ⟨O, an, dt, fy, fz, du, ak, hvs⟩ := hI
 obtain ⟨cd, kf, d8, eg, eo, e0, j4⟩ := ak (hall 11 (by decide))
 refine Xx (vs := [vi (rAt (mAt ms (q.run - 1).toNat).t.slots (q.a).toNat).th, vi (rAt (mAt ms (q.run - 1).toNat).t.slots (q.a).toNat).ve, vb (rAt (mAt ms (q.run - 1).toNat).t.slots (q.a).toNat).rd, vb (rAt (mAt ms (q.run - 1).toNat).t.slots (q.a).toNat).wr, vb (rAt (mAt ms (q.run - 1).toNat).t.slots (q.a).toNat).wk]) (cs' := #[vi (rAt (mAt ms (q.run - 1).toNat).t.slots (q.a).toNat).th, vi (rAt (mAt ms (q.run - 1).toNat).t.slots (q.a).toNat).ve, vb (rAt (mAt ms (q.run - 1).toNat).t.slots (q.a).toNat).rd, vb (rAt (mAt ms (q.run - 1).toNat).t.slots (q.a).toNat).wr, vb (rAt (mAt ms (q.run - 1).toNat).t.slots (q.a).toNat).wk]) Yz cd (Vals.at 10 hvs Z (hall 10 (by decide))) Z (by simp [Value.oneCell']) d8 (Nat.le_of_ble_eq_true Z) Z ?_
 intro eb ac
 have dz := low1 (low0 cg an) ac.grw (by omega)
 refine Xc (Xv (Xs (Ki (fun f' w' => (f' 0 = .slice a ms.length c ∧ f' 3 = pt cc 0 ∧ f' 4 = .nilIface ∧ f' 5 = pt c9 0 ∧ f' 6 = pt O 0 ∧ f' 46 = vb ((decide ((rAt (mAt ms (q.run - 1).toNat).t.slots (q.a).toNat).th = 0)) || (!kindFor q.kind (mAt ms ((rAt (mAt ms (q.run - 1).toNat).t.slots (q.a).toNat).th - 1).toNat).t.kind))) ∧ eb.grownBy w' none) ?_ ?_)))
 rcases Yb (decide ((rAt (mAt ms (q.run - 1).toNat).t.slots (q.a).toNat).th = 0)) with af | af
 have ks := of_decide_eq_true af
 refine Yt (m := 12) (vals := [(32, pt O 0), (33, vi (rAt (mAt ms (q.run - 1).toNat).t.slots (q.a).toNat).th), (34, vb (decide ((rAt (mAt ms (q.run - 1).toNat).t.slots (q.a).toNat).th = 0))), (35, vb (decide ((rAt (mAt ms (q.run - 1).toNat).t.slots (q.a).toNat).th = 0))), (36, undef), (37, undef), (38, undef), (39, undef), (40, undef), (41, undef), (42, undef), (43, undef)]) (fun w' => eb.grownBy w' none) Y0 (by kernel_rfl) (X7 _) ?_ ?_
 refine yl Z (fun _ _ k => Xd (o' := 0) Yl cd Z Z k) (yl Z (fun _ gw k => Xh (v := vi (rAt (mAt ms (q.run - 1).toNat).t.slots (q.a).toNat).th) Xz Z ((ac.blk.grown0 gw).cell Z) Z k) (yl Z (fun _ _ k => X3 (q := decide ((rAt (mAt ms (q.run - 1).toNat).t.slots (q.a).toNat).th = 0)) Z Z Z Z k) (yl Z (fun _ _ k => Xb (v := vb (decide ((rAt (mAt ms (q.run - 1).toNat).t.slots (q.a).toNat).th = 0))) Z Z k) (yl Z (fun _ _ k => Xi Z Z Z af Z k) (yl Z (fun _ _ k => Xi Z Z Z af Z k) (yl Z (fun _ _ k => Xi Z Z Z af Z k) (yl Z (fun _ _ k => Xi Z Z Z af Z k) (yl Z (fun _ _ k => Xi Z Z Z af Z k) (yl Z (fun _ _ k => Xi Z Z Z af Z k) (yl Z (fun _ _ k => Xi Z Z Z af Z k) ?_))))))))))
 exact yl Z (fun _ _ k => Xi Z Z Z af Z k) Y2
 intro ln gx
 exact Xi Z Z Z af Z (Xi Z Z Z af Z (Xo (v := vb true) Z af Z Z (Xc (Xv ⟨⟨dt, fy, fz, du, cd, (congrArg Value.bool (by first | (simp only [ae, ab, V, af, G, J, E, b0, b1, b2, b3, b4, b5, b6, b7, b8, b9]; done) | simp [ae, ab, V, af, G, J, E]))⟩, gx⟩))))
 have kt := of_decide_eq_false af
 obtain ⟨fu, kz, ea, gh, g8, ib⟩ := SlAt.at (TabAt.low ht dz).1 (Yk (xg ms ((rAt (mAt ms (q.run - 1).toNat).t.slots (q.a).toNat).th - 1).toNat))
 have kh := TabLen.at hlen (xg ms ((rAt (mAt ms (q.run - 1).toNat).t.slots (q.a).toNat).th - 1).toNat)
 refine Yt (m := 12) (vals := [(32, pt O 0), (33, vi (rAt (mAt ms (q.run - 1).toNat).t.slots (q.a).toNat).th), (34, vb (decide ((rAt (mAt ms (q.run - 1).toNat).t.slots (q.a).toNat).th = 0))), (35, vb (decide ((rAt (mAt ms (q.run - 1).toNat).t.slots (q.a).toNat).th = 0))), (36, .agg #[vi q.kind, .slice (pa ck) (kindsOf q.kind).length (kindsOf q.kind).length, vb (need0 q.kind), vb (need1 q.kind), vb (need0 q.kind), vb (need1 q.kind)]), (37, .slice a ms.length c), (38, pt O 0), (39, vi (rAt (mAt ms (q.run - 1).toNat).t.slots (q.a).toNat).th), (40, vi ((rAt (mAt ms (q.run - 1).toNat).t.slots (q.a).toNat).th - 1)), (41, pt fu ea), (42, pt fu ea), (43, vi (mAt ms ((rAt (mAt ms (q.run - 1).toNat).t.slots (q.a).toNat).th - 1).toNat).t.kind)]) (fun w' => eb.grownBy w' none) Y0 (by kernel_rfl) (X7 _) ?_ ?_
 refine yl Z (fun _ _ k => Xd (o' := 0) Yl cd Z Z k) (yl Z (fun _ gy k => Xh (v := vi (rAt (mAt ms (q.run - 1).toNat).t.slots (q.a).toNat).th) Xz Z ((ac.blk.grown0 gy).cell Z) Z k) (yl Z (fun _ _ k => X3 (q := decide ((rAt (mAt ms (q.run - 1).toNat).t.slots (q.a).toNat).th = 0)) Z Z Z Z k) (yl Z (fun _ _ k => Xb (v := vb (decide ((rAt (mAt ms (q.run - 1).toNat).t.slots (q.a).toNat).th = 0))) Z Z k) (yl Z (fun _ gz k => Xe Z Z Z af (Xq (vs := [vi q.kind, .slice (pa ck) (kindsOf q.kind).length (kindsOf q.kind).length, vb (need0 q.kind), vb (need1 q.kind), vb (need0 q.kind), vb (need1 q.kind)]) Jc du Z ((((ag.blk.grown0 an).gn ac.grw).grown0 gz).rangeL 0 6 Z) Z k)) (yl Z (fun _ _ k => Xe Z Z Z af (Xb (v := .slice a ms.length c) dt Z k)) (yl Z (fun _ _ k => Xe Z Z Z af (Xd (o' := 0) Yl cd Z Z k)) (yl Z (fun _ g0 k => Xe Z Z Z af (Xh (v := vi (rAt (mAt ms (q.run - 1).toNat).t.slots (q.a).toNat).th) Xz Z ((ac.blk.grown0 g0).cell Z) Z k)) (yl Z (fun _ _ k => Xe Z Z Z af (Ym (c := (rAt (mAt ms (q.run - 1).toNat).t.slots (q.a).toNat).th - 1) Z Z (by omega) (by omega) (by omega) Z k)) (yl Z (fun _ _ k => Xe Z Z Z af (X0 Y6 Z Z gh g8 (by omega) (by omega) Z k)) (yl Z (fun _ _ k => Xe Z Z Z af (Xd (o' := ea) Y7 Z Z Z k)) ?_))))))))))
 exact yl Z (fun _ g5 k => Xe Z Z Z af (Xh (v := vi (mAt ms ((rAt (mAt ms (q.run - 1).toNat).t.slots (q.a).toNat).th - 1).toNat).t.kind) Xz Z ((Ye ib g5) 0 _ Z) Z k)) Y2
 intro lp d5
 refine Xe Z Z Z af (Xm Z8 (Xg Z (Xg Z Xl)) Z (M2 q.kind (mAt ms ((rAt (mAt ms (q.run - 1).toNat).t.slots (q.a).toNat).th - 1).toNat).t.kind (need0 q.kind) (need1 q.kind) (need0 q.kind) (need1 q.kind) _ (kindsOf q.kind) _ _ (Jy Yu (((((bb.grown0 am.grw).gn ag.grw).grown0 an).gn ac.grw).grown0 d5)) (by exact nt M4 (by decide))) ?_)
 rintro _ lu ⟨rfl, gi⟩
 exact Xe Z Z Z af (Yj (b' := !kindFor q.kind (mAt ms ((rAt (mAt ms (q.run - 1).toNat).t.slots (q.a).toNat).th - 1).toNat).t.kind) (congrArg Value.bool (Dk q.kind (mAt ms ((rAt (mAt ms (q.run - 1).toNat).t.slots (q.a).toNat).th - 1).toNat).t.kind)) Z Z (Xn (v := vb (!kindFor q.kind (mAt ms ((rAt (mAt ms (q.run - 1).toNat).t.slots (q.a).toNat).th - 1).toNat).t.kind)) Z af Z Z (Xc (Xv ⟨⟨dt, fy, fz, du, cd, (congrArg Value.bool (by first | (simp only [ae, ab, V, af, G, J, E, b0, b1, b2, b3, b4, b5, b6, b7, b8, b9]; done) | simp [ae, ab, V, af, G, J, E]))⟩, (grown_trans d5 gi)⟩))))
 rintro km j6 ⟨⟨cl, cm, cn, bn, bp, jt⟩, ah⟩
 have bl := low0 dz ah
 refine X2 jt (fun ad => ?_) (fun ad => ?_)
 refine Xa (Ys (ps := [(0, vi (-1))]) (v := .agg #[vi (-1)]) (Xj Z X5) (by kernel_rfl) Z (Qd (v := .agg #[vi (-1)]) (cs := #[vi (-1)]) Z Z Z ?_))
 intro da lv bh
 have fo := Yi bh bl
 have eh := Xr bh ((((((bw.grown0 am.grw).gn ag.grw).grown0 an).gn ac.grw).grown0 ah)).lt
 have ep := Xr bh ((((((bb.grown0 am.grw).gn ag.grw).grown0 an).gn ac.grw).grown0 ah)).lt
 have fa := Xr bh ((((ag.blk.grown0 an).gn ac.grw).grown0 ah)).lt
 have fe := Xr bh ((ac.blk.grown0 ah)).lt
 refine Vu (v := pt da 0) (by kernel_rfl) Z Z (Xf (v := .iface 63 (pt da 0)) Z Z (Xc (Xt (Yo ?_))))
 have dl : chkAll (tabT ms) q = -1 := (Qz ab).trans (Po V (Oy ad)).symm
 refine ⟨.iface 63 (pt da 0), Yx Z Z, Or.inr ⟨da, ⟨by rw [dl]; decide, Z⟩, fo, ?_⟩, (low0 bl bh.grw)⟩
 rw [dl]; exact bh.blk
 have ai := J3 ad
 have ku := of_decide_eq_false ai
 have aj := J4 ad
 have al := Qu aj
 refine Xy (Xv (Xs (X8 (fun f' w' => (f' 0 = .slice a ms.length c ∧ f' 3 = pt cc 0 ∧ f' 4 = .nilIface ∧ f' 5 = pt c9 0 ∧ f' 6 = pt O 0 ∧ f' 65 = vb ((need0 q.kind && (!(rAt (mAt ms (q.run - 1).toNat).t.slots (q.a).toNat).rd)) || (need1 q.kind && (!(rAt (mAt ms (q.run - 1).toNat).t.slots (q.a).toNat).wr)))) ∧ j6 = w') ?_ ?_)))
 refine Xd (o' := 2) C0 bn Z Z ?_
 have d6 := (((ag.blk.grown0 an).gn ac.grw).grown0 ah)
 refine Xh (v := vb (need0 q.kind)) Jn Z (d6.cell Z) Z (Xb (v := vb (need0 q.kind)) Z Z ?_)
 rcases Yb (need0 q.kind) with au | au
 refine Xe Z Z Z au (Xd (o' := 2) Kx bp Z Z (Xe Z Z Z au ?_))
 have gb := (ac.blk.grown0 ah)
 refine Xh (v := vb (rAt (mAt ms (q.run - 1).toNat).t.slots (q.a).toNat).rd) Jn Z (gb.cell Z) Z (Xe Z Z Z au (Yj (b' := !(rAt (mAt ms (q.run - 1).toNat).t.slots (q.a).toNat).rd) Z Z Z (Xo (v := vb (!(rAt (mAt ms (q.run - 1).toNat).t.slots (q.a).toNat).rd)) Z au Z Z (Xb (v := vb (!(rAt (mAt ms (q.run - 1).toNat).t.slots (q.a).toNat).rd)) Z Z ?_))))
 rcases Yb (!(rAt (mAt ms (q.run - 1).toNat).t.slots (q.a).toNat).rd) with aq | aq
 have f9 := Jm aq
 iterate 3 refine Xi rfl rfl rfl aq rfl ?_
 iterate 3 refine Yq rfl rfl rfl rfl ?_
 exact Xi Z Z Z aq Z (Xo (v := vb true) Z aq Z Z (Xc ⟨⟨cl, cm, cn, bn, bp, (congrArg Value.bool (by first | (simp only [ae, ab, V, ad, ai, aj, al, au, aq, f9, G, J, E, b0, b1, b2, b3, b4, b5, b6, b7, b8, b9]; done) | simp [ae, ab, V, ad, ai, aj, al, au, aq, f9, G, J, E]))⟩, Z⟩))
 have df := Qu aq
 refine Xe Z Z Z aq (Xd (o' := 3) R1 bn Z Z (Xe Z Z Z aq (Xh (v := vb (need1 q.kind)) Jn Z (d6.cell Z) Z (Xe Z Z Z aq (Xb (v := vb (need1 q.kind)) Z Z ?_)))))
 rcases Yb (need1 q.kind) with bd | bd
 exact Xe Z Z Z bd (Xd (o' := 3) Kb bp Z Z (Xe Z Z Z bd (Xh (v := vb (rAt (mAt ms (q.run - 1).toNat).t.slots (q.a).toNat).wr) Jn Z (gb.cell Z) Z (Xe Z Z Z bd (Yj (b' := !(rAt (mAt ms (q.run - 1).toNat).t.slots (q.a).toNat).wr) Z Z Z (Xe Z Z Z aq (Xo (v := vb (!(rAt (mAt ms (q.run - 1).toNat).t.slots (q.a).toNat).wr)) Z bd Z Z (Xn (v := vb (!(rAt (mAt ms (q.run - 1).toNat).t.slots (q.a).toNat).wr)) Z aq Z Z (Xc ⟨⟨cl, cm, cn, bn, bp, (congrArg Value.bool (by first | (simp only [ae, ab, V, ad, ai, aj, al, au, aq, df, bd, G, J, E, b0, b1, b2, b3, b4, b5, b6, b7, b8, b9]; done) | simp [ae, ab, V, ad, ai, aj, al, au, aq, df, bd, G, J, E]))⟩, Z⟩)))))))))
 iterate 3 refine Xi rfl rfl rfl bd rfl ?_
 exact Xe Z Z Z aq (Xn (v := vb false) Z bd Z Z (Xn (v := vb false) Z aq Z Z (Xc ⟨⟨cl, cm, cn, bn, bp, (congrArg Value.bool (by first | (simp only [ae, ab, V, ad, ai, aj, al, au, aq, df, bd, G, J, E, b0, b1, b2, b3, b4, b5, b6, b7, b8, b9]; done) | simp [ae, ab, V, ad, ai, aj, al, au, aq, df, bd, G, J, E]))⟩, Z⟩)))
 iterate 3 refine Xi rfl rfl rfl au rfl ?_
 refine Xn (v := vb false) Z au Z Z (Xb (v := vb false) Z Z (Xe Z Z Z Z (Xd (o' := 3) R1 bn Z Z (Xe Z Z Z Z (Xh (v := vb (need1 q.kind)) Jn Z (d6.cell Z) Z (Xe Z Z Z Z (Xb (v := vb (need1 q.kind)) Z Z ?_)))))))
 rcases Yb (need1 q.kind) with be | be
 exact Xe Z Z Z be (Xd (o' := 3) Kb bp Z Z (Xe Z Z Z be (Xh (v := vb (rAt (mAt ms (q.run - 1).toNat).t.slots (q.a).toNat).wr) Jn Z ((ac.blk.grown0 ah).cell Z) Z (Xe Z Z Z be (Yj (b' := !(rAt (mAt ms (q.run - 1).toNat).t.slots (q.a).toNat).wr) Z Z Z (Xe Z Z Z Z (Xo (v := vb (!(rAt (mAt ms (q.run - 1).toNat).t.slots (q.a).toNat).wr)) Z be Z Z (Xn (v := vb (!(rAt (mAt ms (q.run - 1).toNat).t.slots (q.a).toNat).wr)) Z Z Z Z (Xc ⟨⟨cl, cm, cn, bn, bp, (congrArg Value.bool (by first | (simp only [ae, ab, V, ad, ai, aj, al, au, be, G, J, E, b0, b1, b2, b3, b4, b5, b6, b7, b8, b9]; done) | simp [ae, ab, V, ad, ai, aj, al, au, be, G, J, E]))⟩, Z⟩)))))))))
 iterate 3 refine Xi rfl rfl rfl be rfl ?_
 exact Xe Z Z Z Z (Xn (v := vb false) Z be Z Z (Xn (v := vb false) Z Z Z Z (Xc ⟨⟨cl, cm, cn, bn, bp, (congrArg Value.bool (by first | (simp only [ae, ab, V, ad, ai, aj, al, au, be, G, J, E, b0, b1, b2, b3, b4, b5, b6, b7, b8, b9]; done) | simp [ae, ab, V, ad, ai, aj, al, au, be, G, J, E]))⟩, Z⟩)))
 rintro kn lw ⟨⟨bq, dv, co, dw, br, ju⟩, rfl⟩
 refine X2 ju (fun ao => ?_) (fun ao => ?_)
 refine Xa (Ys (ps := [(0, vi (-1))]) (v := .agg #[vi (-1)]) (Xj Z X5) (by kernel_rfl) Z (Qd (v := .agg #[vi (-1)]) (cs := #[vi (-1)]) Z Z Z ?_))
 intro db ly bi
 have fp := Yi bi bl
 have ei := Xr bi ((((((bw.grown0 am.grw).gn ag.grw).grown0 an).gn ac.grw).grown0 ah)).lt
 have eu := Xr bi ((((((bb.grown0 am.grw).gn ag.grw).grown0 an).gn ac.grw).grown0 ah)).lt
 have fb := Xr bi ((((ag.blk.grown0 an).gn ac.grw).grown0 ah)).lt
 have ff := Xr bi ((ac.blk.grown0 ah)).lt
 refine Vu (v := pt db 0) (by kernel_rfl) Z Z (Xf (v := .iface 63 (pt db 0)) Z Z (Xc (Xt (Yo ?_))))
 have dm : chkAll (tabT ms) q = -1 := (Qz ab).trans (Po V (Oz ad ao)).symm
 refine ⟨.iface 63 (pt db 0), Yx Z Z, Or.inr ⟨db, ⟨by rw [dm]; decide, Z⟩, fp, ?_⟩, (low0 bl bi.grw)⟩
 rw [dm]; exact bi.blk
 have a8 := J3 ao
 have a9 := J4 ao
 refine Xy (Xv (Xa (Xb (v := .slice a ms.length c) bq Z (Xd (o' := 1) Y9 dv Z Z ?_))))
 have cv := (((((bw.grown0 am.grw).gn ag.grw).grown0 an).gn ac.grw).grown0 ah)
 refine Xh (v := vi q.run) Xz Z (cv.cell Z) Z (Xd (o' := 0) Yl br Z Z ?_)
 have ce := (ac.blk.grown0 ah)
 refine Xh (v := vi (rAt (mAt ms (q.run - 1).toNat).t.slots (q.a).toNat).th) Xz Z (ce.cell Z) Z (Xm Dh (Xg Z (Xg Z (Xg Z Xl))) Z (Ga q.run (rAt (mAt ms (q.run - 1).toNat).t.slots (q.a).toNat).th _ ms _ _ (TabAt.low ht bl) hlen (by omega) G (by omega) (by omega)) ?_)
 rintro _ j7 ⟨rfl, ap⟩
 have cw := low0 bl ap
 refine Xf (v := vb (sees (tabT ms) q.run (rAt (mAt ms (q.run - 1).toNat).t.slots (q.a).toNat).th)) Z Z (Xc (Xs (X8 (fun f' w' => (f' 0 = .slice a ms.length c ∧ f' 4 = .nilIface ∧ f' 6 = pt O 0 ∧ f' 7 = vb (sees (tabT ms) q.run (rAt (mAt ms (q.run - 1).toNat).t.slots (q.a).toNat).th) ∧ f' 93 = vb ((need0 q.kind && (!sees (tabT ms) q.run (rAt (mAt ms (q.run - 1).toNat).t.slots (q.a).toNat).th)) || (need1 q.kind && (!touches (tabT ms) q.run (rAt (mAt ms (q.run - 1).toNat).t.slots (q.a).toNat).th)))) ∧ j7.grownBy w' none) ?_ ?_)))
 refine Xd (o' := 4) C1 dw Z Z ?_
 have d7 := ((((ag.blk.grown0 an).gn ac.grw).grown0 ah).grown0 ap)
 refine Xh (v := vb (need0 q.kind)) Jn Z (d7.cell Z) Z (Xb (v := vb (need0 q.kind)) Z Z ?_)
 rcases Yb (need0 q.kind) with av | av
 refine Xe Z Z Z av (Xb (v := vb (sees (tabT ms) q.run (rAt (mAt ms (q.run - 1).toNat).t.slots (q.a).toNat).th)) Z Z (Xe Z Z Z av (Yj (b' := !sees (tabT ms) q.run (rAt (mAt ms (q.run - 1).toNat).t.slots (q.a).toNat).th) Z Z Z (Xo (v := vb (!sees (tabT ms) q.run (rAt (mAt ms (q.run - 1).toNat).t.slots (q.a).toNat).th)) Z av Z Z (Xb (v := vb (!sees (tabT ms) q.run (rAt (mAt ms (q.run - 1).toNat).t.slots (q.a).toNat).th)) Z Z ?_)))))
 rcases Yb (!sees (tabT ms) q.run (rAt (mAt ms (q.run - 1).toNat).t.slots (q.a).toNat).th) with ar | ar
 have ga := Jm ar
 iterate 3 refine Xi rfl rfl rfl ar rfl ?_
 iterate 7 refine Yq rfl rfl rfl rfl ?_
 exact Xi Z Z Z ar Z (Xo (v := vb true) Z ar Z Z (Xc ⟨⟨bq, co, br, Z, (congrArg Value.bool (by first | (simp only [ae, ab, V, ad, ai, aj, al, ao, a8, a9, av, ar, ga, G, J, E, b0, b1, b2, b3, b4, b5, b6, b7, b8, b9]; done) | simp [ae, ab, V, ad, ai, aj, al, ao, a8, a9, av, ar, ga, G, J, E]))⟩, (World.grownBy.refl _ _)⟩))
 have dg := Qu ar
 refine Xe Z Z Z ar (Xd (o' := 5) R2 dw Z Z (Xe Z Z Z ar (Xh (v := vb (need1 q.kind)) Jn Z (d7.cell Z) Z (Xe Z Z Z ar (Xb (v := vb (need1 q.kind)) Z Z ?_)))))
 rcases Yb (need1 q.kind) with aw | aw
 refine Xe Z Z Z aw (Xb (v := .slice a ms.length c) bq Z (Xe Z Z Z aw (Xd (o' := 1) Y9 dv Z Z (Xe Z Z Z aw (Xh (v := vi q.run) Xz Z ((cv.grown0 ap).cell Z) Z (Xe Z Z Z aw (Xd (o' := 0) Yl br Z Z (Xe Z Z Z aw (Xh (v := vi (rAt (mAt ms (q.run - 1).toNat).t.slots (q.a).toNat).th) Xz Z ((ce.grown0 ap).cell Z) Z (Xe Z Z Z aw (Xm Iw (Xg Z (Xg Z (Xg Z Xl))) Z (Gb q.run (rAt (mAt ms (q.run - 1).toNat).t.slots (q.a).toNat).th _ ms _ _ (TabAt.low ht cw) hlen (by omega) G (by omega) (by omega)) ?_)))))))))))
 rintro _ lz ⟨rfl, gj⟩
 exact Xe Z Z Z aw (Yj (b' := !touches (tabT ms) q.run (rAt (mAt ms (q.run - 1).toNat).t.slots (q.a).toNat).th) Z Z Z (Xe Z Z Z ar (Xo (v := vb (!touches (tabT ms) q.run (rAt (mAt ms (q.run - 1).toNat).t.slots (q.a).toNat).th)) Z aw Z Z (Xn (v := vb (!touches (tabT ms) q.run (rAt (mAt ms (q.run - 1).toNat).t.slots (q.a).toNat).th)) Z ar Z Z (Xc ⟨⟨bq, co, br, Z, (congrArg Value.bool (by first | (simp only [ae, ab, V, ad, ai, aj, al, ao, a8, a9, av, ar, dg, aw, G, J, E, b0, b1, b2, b3, b4, b5, b6, b7, b8, b9]; done) | simp [ae, ab, V, ad, ai, aj, al, ao, a8, a9, av, ar, dg, aw, G, J, E]))⟩, gj⟩)))))
 iterate 7 refine Xi rfl rfl rfl aw rfl ?_
 exact Xe Z Z Z ar (Xn (v := vb false) Z aw Z Z (Xn (v := vb false) Z ar Z Z (Xc ⟨⟨bq, co, br, Z, (congrArg Value.bool (by first | (simp only [ae, ab, V, ad, ai, aj, al, ao, a8, a9, av, ar, dg, aw, G, J, E, b0, b1, b2, b3, b4, b5, b6, b7, b8, b9]; done) | simp [ae, ab, V, ad, ai, aj, al, ao, a8, a9, av, ar, dg, aw, G, J, E]))⟩, (World.grownBy.refl _ _)⟩)))
 refine Xi Z Z Z av Z (Xi Z Z Z av Z (Xn (v := vb false) Z av Z Z (Xb (v := vb false) Z Z (Xe Z Z Z Z (Xd (o' := 5) R2 dw Z Z (Xe Z Z Z Z (Xh (v := vb (need1 q.kind)) Jn Z (d7.cell Z) Z (Xe Z Z Z Z (Xb (v := vb (need1 q.kind)) Z Z ?_)))))))))
 rcases Yb (need1 q.kind) with az | az
 refine Xe Z Z Z az (Xb (v := .slice a ms.length c) bq Z (Xe Z Z Z az (Xd (o' := 1) Y9 dv Z Z (Xe Z Z Z az (Xh (v := vi q.run) Xz Z ((cv.grown0 ap).cell Z) Z (Xe Z Z Z az (Xd (o' := 0) Yl br Z Z (Xe Z Z Z az (Xh (v := vi (rAt (mAt ms (q.run - 1).toNat).t.slots (q.a).toNat).th) Xz Z ((ce.grown0 ap).cell Z) Z (Xe Z Z Z az (Xm Iw (Xg Z (Xg Z (Xg Z Xl))) Z (Gb q.run (rAt (mAt ms (q.run - 1).toNat).t.slots (q.a).toNat).th _ ms _ _ (TabAt.low ht cw) hlen (by omega) G (by omega) (by omega)) ?_)))))))))))
 rintro _ l0 ⟨rfl, gk⟩
 exact Xe Z Z Z az (Yj (b' := !touches (tabT ms) q.run (rAt (mAt ms (q.run - 1).toNat).t.slots (q.a).toNat).th) Z Z Z (Xe Z Z Z Z (Xo (v := vb (!touches (tabT ms) q.run (rAt (mAt ms (q.run - 1).toNat).t.slots (q.a).toNat).th)) Z az Z Z (Xn (v := vb (!touches (tabT ms) q.run (rAt (mAt ms (q.run - 1).toNat).t.slots (q.a).toNat).th)) Z Z Z Z (Xc ⟨⟨bq, co, br, Z, (congrArg Value.bool (by first | (simp only [ae, ab, V, ad, ai, aj, al, ao, a8, a9, av, az, G, J, E, b0, b1, b2, b3, b4, b5, b6, b7, b8, b9]; done) | simp [ae, ab, V, ad, ai, aj, al, ao, a8, a9, av, az, G, J, E]))⟩, gk⟩)))))
 iterate 7 refine Xi rfl rfl rfl az rfl ?_
 exact Xe Z Z Z Z (Xn (v := vb false) Z az Z Z (Xn (v := vb false) Z Z Z Z (Xc ⟨⟨bq, co, br, Z, (congrArg Value.bool (by first | (simp only [ae, ab, V, ad, ai, aj, al, ao, a8, a9, av, az, G, J, E, b0, b1, b2, b3, b4, b5, b6, b7, b8, b9]; done) | simp [ae, ab, V, ad, ai, aj, al, ao, a8, a9, av, az, G, J, E]))⟩, (World.grownBy.refl _ _)⟩)))
 rintro ko j8 ⟨⟨jv, f8, jw, jx, jy⟩, ba⟩
 have cj := low0 cw ba
 refine X2 jy (fun bf => ?_) (fun bf => ?_)
 refine Xa (Ys (ps := [(0, vi (-2))]) (v := .agg #[vi (-2)]) (Xj Z X5) (by kernel_rfl) Z (Qd (v := .agg #[vi (-2)]) (cs := #[vi (-2)]) Z Z Z ?_))
 intro dc l3 bj
 have fq := Yi bj cj
 have ej := Xr bj (((cv.grown0 ap).grown0 ba)).lt
 have ew := Xr bj ((((((((bb.grown0 am.grw).gn ag.grw).grown0 an).gn ac.grw).grown0 ah).grown0 ap).grown0 ba)).lt
 have fc := Xr bj ((((((ag.blk.grown0 an).gn ac.grw).grown0 ah).grown0 ap).grown0 ba)).lt
 have fg := Xr bj (((ce.grown0 ap).grown0 ba)).lt
 refine Vu (v := pt dc 0) (by kernel_rfl) Z Z (Xf (v := .iface 63 (pt dc 0)) Z Z (Xc (Xt (Yo ?_))))
 have dn : chkAll (tabT ms) q = -2 := (Qz ab).trans (T2 V (S8 ad ao) bf).symm
 refine ⟨.iface 63 (pt dc 0), Yx Z Z, Or.inr ⟨dc, ⟨by rw [dn]; decide, Z⟩, fq, ?_⟩, (low0 cj bj.grw)⟩
 rw [dn]; exact bj.blk
 have dh := J3 bf
 have di := J4 bf
 refine Xy (Xv (Xs (X8 (fun f' w' => (f' 4 = .nilIface ∧ f' 103 = vb (sees (tabT ms) q.run (rAt (mAt ms (q.run - 1).toNat).t.slots (q.a).toNat).th && (!live (tabT ms) (rAt (mAt ms (q.run - 1).toNat).t.slots (q.a).toNat)))) ∧ j8.grownBy w' none) ?_ ?_)))
 refine Xb (v := vb (sees (tabT ms) q.run (rAt (mAt ms (q.run - 1).toNat).t.slots (q.a).toNat).th)) jx Z (Xb (v := vb (sees (tabT ms) q.run (rAt (mAt ms (q.run - 1).toNat).t.slots (q.a).toNat).th)) Z Z ?_)
 rcases Yb (sees (tabT ms) q.run (rAt (mAt ms (q.run - 1).toNat).t.slots (q.a).toNat).th) with bc | bc
 refine Xe Z Z Z bc (Xb (v := .slice a ms.length c) jv Z (Xe Z Z Z bc (Xq (vs := [vi (rAt (mAt ms (q.run - 1).toNat).t.slots (q.a).toNat).th, vi (rAt (mAt ms (q.run - 1).toNat).t.slots (q.a).toNat).ve, vb (rAt (mAt ms (q.run - 1).toNat).t.slots (q.a).toNat).rd, vb (rAt (mAt ms (q.run - 1).toNat).t.slots (q.a).toNat).wr, vb (rAt (mAt ms (q.run - 1).toNat).t.slots (q.a).toNat).wk]) Yz jw Z (((ce.grown0 ap).grown0 ba).rangeL 0 5 Z) Z (Xe Z Z Z bc (Xm Df (Xg Z (Xg Z Xl)) Z (Gf (rAt (mAt ms (q.run - 1).toNat).t.slots (q.a).toNat) (by omega) _ ms _ _ (TabAt.low ht cj) hlen (by omega)) ?_)))))
 rintro _ l4 ⟨rfl, gl⟩
 exact Xe Z Z Z bc (Yj (b' := !live (tabT ms) (rAt (mAt ms (q.run - 1).toNat).t.slots (q.a).toNat)) Z Z Z (Xo (v := vb (!live (tabT ms) (rAt (mAt ms (q.run - 1).toNat).t.slots (q.a).toNat))) Z bc Z Z (Xc ⟨⟨f8, (congrArg Value.bool (by first | (simp only [ae, ab, V, ad, ai, aj, al, ao, a8, a9, bf, dh, di, bc, G, J, E, b0, b1, b2, b3, b4, b5, b6, b7, b8, b9]; done) | simp [ae, ab, V, ad, ai, aj, al, ao, a8, a9, bf, dh, di, bc, G, J, E]))⟩, gl⟩)))
 iterate 4 refine Xi rfl rfl rfl bc rfl ?_
 exact Xn (v := vb false) Z bc Z Z (Xc ⟨⟨f8, (congrArg Value.bool (by first | (simp only [ae, ab, V, ad, ai, aj, al, ao, a8, a9, bf, dh, di, bc, G, J, E, b0, b1, b2, b3, b4, b5, b6, b7, b8, b9]; done) | simp [ae, ab, V, ad, ai, aj, al, ao, a8, a9, bf, dh, di, bc, G, J, E]))⟩, (World.grownBy.refl _ _)⟩)
 rintro kp l5 ⟨⟨kl, jz⟩, bv⟩
 have cy := low0 cj bv
 refine X2 jz (fun ct => ?_) (fun ct => ?_)
 have kv := Nr ct
 have j2 := Ns ct
 have kw := Jm j2
 refine Xa (Ys (ps := [(0, vi (-3))]) (v := .agg #[vi (-3)]) (Xj Z X5) (by kernel_rfl) Z (Qd (v := .agg #[vi (-3)]) (cs := #[vi (-3)]) Z Z Z ?_))
 intro de l6 bk
 have fr := Yi bk cy
 have ek := Xr bk ((((cv.grown0 ap).grown0 ba).grown0 bv)).lt
 have ez := Xr bk (((((((((bb.grown0 am.grw).gn ag.grw).grown0 an).gn ac.grw).grown0 ah).grown0 ap).grown0 ba).grown0 bv)).lt
 have fd := Xr bk (((((((ag.blk.grown0 an).gn ac.grw).grown0 ah).grown0 ap).grown0 ba).grown0 bv)).lt
 have fh := Xr bk ((((ce.grown0 ap).grown0 ba).grown0 bv)).lt
 refine Vu (v := pt de 0) (by kernel_rfl) Z Z (Xf (v := .iface 63 (pt de 0)) Z Z (Xc (Xt (Yo ?_))))
 have dp : chkAll (tabT ms) q = -3 := (Qz ab).trans (T3 V (S8 ad ao) bf ct).symm
 refine ⟨.iface 63 (pt de 0), Yx Z Z, Or.inr ⟨de, ⟨by rw [dp]; decide, Z⟩, fr, ?_⟩, (low0 cy bk.grw)⟩
 rw [dp]; exact bk.blk
 refine Xy (Xv (Xa (Xf (v := .nilIface) Z Z (Xc (Xt ?_)))))
 have fj : chkAll (tabT ms) q = 0 := (Qz ab).trans (T1 V (S8 ad ao) bf ct).symm
 exact ⟨.nilIface, Yx Z Z, Or.inl ⟨fj, Z⟩, cy⟩
theorem Rk (q : Cl) (w : World) (ms : List MTh) (a : Option Addr) (c : Nat) (ht : TabAt w a ms) (hlen : TabLen ms) (hn : ms.length ≤ 1048576) (hE : ErrT w) (hck : chkAll (tabT ms) q = 0) : CallsR Tryz.prog 22 #[.slice a ms.length c, .agg #[vi q.kind, vi q.run, vi q.a, vi q.b, vi q.n]] w (fun v w' => v = vi (chkAll (tabT ms) q) ∧ w.grownBy w' none) := by
 refine Xw (n := 15) Tryz.func22 Z Tryz.ntmps22 Z ?_
 have ae := World.grownBy.refl w none
 refine Xa (Qd (v := .agg #[vi q.kind, vi q.run, vi q.a, vi q.b, vi q.n]) (cs := #[vi q.kind, vi q.run, vi q.a, vi q.b, vi q.n]) Z Z Z ?_)
 intro ah ai E
 have af := Yi E ae
 have J := low0 ae E.grw
 refine Xf (v := vi 0) Z Z (Xc (Xa (Yf (cs := #[.pointer none]) I3 Z Z ?_)))
 intro ad aj G
 have ag := Yi G J
 have V := Xr G (E.blk).lt
 have O := low0 J G.grw
 refine Xc (Xs (Xa (Xb (v := .slice a ms.length c) Z Z (Xq (vs := [vi q.kind, vi q.run, vi q.a, vi q.b, vi q.n]) Y1 Z Z ((E.blk.grown0 G.grw).rangeL 0 5 Z) Z (Xm Il (Xg Z (Xg Z Xl)) Z (Nv q _ ms _ _ (TabAt.low ht O) hlen (by omega)) ?_)))))
 rintro _ ak ⟨ac, ab⟩
 obtain ⟨_, rfl⟩ := ac.resolve_right (fun ⟨_, h, _⟩ => h.1 hck)
 refine Vu (v := pt ad 0) (by kernel_rfl) Z Z (Xm Ik (Xg Z (Xg Z Xl)) Z (Cn _ _) ?_)
 rintro _ _ ⟨rfl, rfl⟩
 refine Xc (Qb Z Z (Xy (Xv (Xa (Xf (v := vi 0) Z Z (Xc (Xt (⟨vi 0, Yx Z Z, ?_, (low0 O ab)⟩))))))))
 rw [hck]
theorem Rl (q : Cl) (w : World) (ms : List MTh) (a : Option Addr) (c : Nat) (ht : TabAt w a ms) (hlen : TabLen ms) (hn : ms.length ≤ 1048576) (hE : ErrT w) (hck : ¬ chkAll (tabT ms) q = 0) : CallsR Tryz.prog 22 #[.slice a ms.length c, .agg #[vi q.kind, vi q.run, vi q.a, vi q.b, vi q.n]] w (fun v w' => v = vi (chkAll (tabT ms) q) ∧ w.grownBy w' none) := by
 refine Xw (n := 15) Tryz.func22 Z Tryz.ntmps22 Z ?_
 have al := World.grownBy.refl w none
 refine Xa (Qd (v := .agg #[vi q.kind, vi q.run, vi q.a, vi q.b, vi q.n]) (cs := #[vi q.kind, vi q.run, vi q.a, vi q.b, vi q.n]) Z Z Z ?_)
 intro ar au G
 have ao := Yi G al
 have V := low0 al G.grw
 refine Xf (v := vi 0) Z Z (Xc (Xa (Yf (cs := #[.pointer none]) I3 Z Z ?_)))
 intro ah av E
 have ap := Yi E V
 have ae := Xr E (G.blk).lt
 have O := low0 V E.grw
 refine Xc (Xs (Xa (Xb (v := .slice a ms.length c) Z Z ?_)))
 have aj := (G.blk.grown0 E.grw)
 refine Xq (vs := [vi q.kind, vi q.run, vi q.a, vi q.b, vi q.n]) Y1 Z Z (aj.rangeL 0 5 Z) Z (Xm Il (Xg Z (Xg Z Xl)) Z (Nv q _ ms _ _ (TabAt.low ht O) hlen (by omega)) ?_)
 rintro _ aw ⟨ak, ac⟩
 obtain ⟨ai, ⟨_, rfl⟩, J, am⟩ := ak.resolve_left (fun h => hck h.1)
 have ab := low0 O ac
 have aq := nt O.size J
 have af := nl (aj).lt J
 have ag := nl (E.blk).lt J
 refine Vu (v := pt ah 0) (by kernel_rfl) Z Z (Xm Ik (Xg Z (Xg Z Xl)) Z (Ck ai ah _ _ (ErrT.grown0 hE ab) (E.blk.grown0 ac)) ?_)
 rintro _ az ⟨rfl, an, ad⟩
 refine Xc (Qe Z Z (Xa (Xh (v := pt ai 0) Xau Z (an.cell Z) Z (Xu Z Z (Xd (o' := 0) Fb Z Z Z (Xh (v := vi (chkAll (tabT ms) q)) Xz Z ((am.gn ad).cell Z) Z (Xf (v := vi (chkAll (tabT ms) q)) Z Z (Xc (Xt (Yo (⟨vi (chkAll (tabT ms) q), Yx Z Z, ?_, (low1 ab ad (by omega))⟩)))))))))))
 rfl
theorem W3 (q : Cl) (w : World) (ms : List MTh) (a : Option Addr) (c : Nat) (ht : TabAt w a ms) (hlen : TabLen ms) (hn : ms.length ≤ 1048576) (hE : ErrT w) : CallsR Tryz.prog 22 #[.slice a ms.length c, .agg #[vi q.kind, vi q.run, vi q.a, vi q.b, vi q.n]] w (fun v w' => v = vi (chkAll (tabT ms) q) ∧ w.grownBy w' none) := by
 by_cases hck : chkAll (tabT ms) q = 0
 exact Rk q w ms a c ht hlen hn hE hck
 exact Rl q w ms a c ht hlen hn hE hck
end Go.Proofs.YtlhhijnmacogcaaGreatDoor
end
section
namespace Go.Proofs.YtlhhijnmacogcaaGreatDoor
open Go.RowKit Go.Dw
set_option maxRecDepth 100000
set_option maxHeartbeats 4000000
set_option linter.unusedSimpArgs false
set_option linter.unusedVariables false
theorem C2 : fieldOff Tryz.prog 151 0 = some 0 := by kernel_rfl
theorem Gr : fieldOff Tryz.prog 59 0 = some 0 := by kernel_rfl
theorem Ky : fieldOff Tryz.prog 59 1 = some 1 := by kernel_rfl
theorem Hb : fieldOff Tryz.prog 59 2 = some 6 := by kernel_rfl
theorem V0 : goFn Tryz.prog 106 = true := by kernel_rfl
theorem C9 : goFn Tryz.prog 107 = true := by kernel_rfl
theorem Da : goFn Tryz.prog 112 = true := by kernel_rfl
theorem O1 : goFn Tryz.prog 145 = true := by kernel_rfl
theorem O2 : goFn Tryz.prog 147 = true := by kernel_rfl
theorem Ie : goFn Tryz.prog 24 = true := by kernel_rfl
theorem R4 : goFn Tryz.prog 38 = true := by kernel_rfl
theorem Ff (a b c : Bool) (w : World) : CallsR Tryz.prog 145 #[.agg #[], vb a, vb b, vb c] w (fun v w' => v = .agg #[vi 0, vi 0, vb false, vb false, vb false] ∧ w.grownBy w' none) := by
 refine Xw (n := 10) Tryz.func145 Z Tryz.ntmps145 Z ?_
 have ab := World.grownBy.refl w none
 refine Xa (Qd (v := .agg #[]) (cs := #[]) Z Z Z ?_)
 intro ae ag G
 have ac := Yi G ab
 have O := low0 ab G.grw
 refine Yf (cs := #[vi 0, vi 0, vb false, vb false, vb false]) K7 Z Z ?_
 intro af ah E
 have ad := Yi E O
 have V := Xr E (G.blk).lt
 refine Xc (Xa (Ys (ps := []) (v := .agg #[vi 0, vi 0, vb false, vb false, vb false]) X5 (by kernel_rfl) Z (Xx (vs := [vi 0, vi 0, vb false, vb false, vb false]) (cs' := #[vi 0, vi 0, vb false, vb false, vb false]) Yz Z Z Z (by simp [Value.oneCell']) E.blk (Nat.le_of_ble_eq_true Z) Z ?_)))
 intro ai J
 refine Xc (Xt (⟨.agg #[vi 0, vi 0, vb false, vb false, vb false], J2 Z (Yn (vs := [vi 0, vi 0, vb false, vb false, vb false]) Yz Z Z (J.blk.rangeL 0 5 Z)), ?_, (low1 (low0 O E.grw) J.grw (by omega))⟩))
 rfl
theorem Fg (r : Rt) (a b c : Bool) (w : World) : CallsR Tryz.prog 147 #[.agg #[vi r.th, vi r.ve, vb r.rd, vb r.wr, vb r.wk], vb a, vb b, vb c] w (fun v w' => v = .agg #[vi r.th, vi r.ve, vb (r.rd && a), vb ((r.wr && b) && c), vb (r.wk || (!c))] ∧ w.grownBy w' none) := by
 refine Xw (n := 35) Tryz.func147 Z Tryz.ntmps147 Z ?_
 have be := World.grownBy.refl w none
 refine Xa (Qd (v := .agg #[vi r.th, vi r.ve, vb r.rd, vb r.wr, vb r.wk]) (cs := #[vi r.th, vi r.ve, vb r.rd, vb r.wr, vb r.wk]) Z Z Z ?_)
 intro bl bq ac
 have bi := Yi ac be
 have ao := low0 be ac.grw
 refine Yf (cs := #[vi 0, vi 0, vb false, vb false, vb false]) K7 Z Z ?_
 intro ak br G
 have bj := Yi G ao
 have aq := Xr G (ac.blk).lt
 have ap := low0 ao G.grw
 refine Xc (Xa (Xd (o' := 0) C2 Z Z Z ?_))
 have a8 := (ac.blk.grown0 G.grw)
 refine Xq (vs := [vi r.th, vi r.ve, vb r.rd, vb r.wr, vb r.wk]) Yz Z Z (a8.rangeL 0 5 Z) Z (Yf (cs := #[vi 0, vi 0, vb false, vb false, vb false]) K7 Z Z ?_)
 intro al bt J
 have bk := Yi J ap
 have ar := Xr J (a8).lt
 have au := Xr J (G.blk).lt
 refine Xx (vs := [vi r.th, vi r.ve, vb r.rd, vb r.wr, vb r.wk]) (cs' := #[vi r.th, vi r.ve, vb r.rd, vb r.wr, vb r.wk]) Yz Z Z Z (by simp [Value.oneCell']) J.blk (Nat.le_of_ble_eq_true Z) Z ?_
 intro bf ad
 refine Xc (Xa (Hy 5 (fun f' w' => (f' 2 = vb b ∧ f' 3 = vb c ∧ f' 8 = pt ak 0 ∧ f' 9 = pt al 0 ∧ f' 16 = vb (r.rd && a)) ∧ bf = w') ?_ ?_))
 simp only [List.take_succ_cons, List.take_zero]
 refine Xd (o' := 2) Kx Z Z Z (Xh (v := vb r.rd) Jn Z (ad.blk.cell Z) Z (Xb (v := vb r.rd) Z Z ?_))
 rcases Yb (r.rd) with V | V
 exact Xe Z Z Z V (Xb (v := vb a) Z Z (Xo (v := vb a) Z V Z Z (Xc ⟨⟨Z, Z, Z, Z, (cB (by simp [V]))⟩, Z⟩)))
 exact Xi Z Z Z V Z (Xn (v := vb false) Z V Z Z (Xc ⟨⟨Z, Z, Z, Z, (cB (by simp [V]))⟩, Z⟩))
 rintro bm bu ⟨⟨a9, ai, am, ag, ba⟩, rfl⟩
 simp only [List.drop_succ_cons, List.drop_zero]
 refine Xd (o' := 2) Kx ag Z Z (Yg (v := vb (r.rd && a)) (cs' := #[vi r.th, vi r.ve, vb (r.rd && a), vb r.wr, vb r.wk]) Jn Z ba Z ad.blk (Nat.le_of_ble_eq_true Z) Z ?_)
 intro bg ae
 refine Xc (Xa (Hy 8 (fun f' w' => (f' 3 = vb c ∧ f' 8 = pt ak 0 ∧ f' 9 = pt al 0 ∧ f' 25 = vb ((r.wr && b) && c)) ∧ bg = w') ?_ ?_))
 simp only [List.take_succ_cons, List.take_zero]
 refine Xd (o' := 3) Kb ag Z Z (Xh (v := vb r.wr) Jn Z (ae.blk.cell Z) Z (Xb (v := vb r.wr) Z Z ?_))
 rcases Yb (r.wr) with O | O
 refine Xe Z Z Z O (Xb (v := vb b) a9 Z (Xo (v := vb b) Z O Z Z (Xb (v := vb b) Z Z ?_)))
 rcases Yb (b) with ab | ab
 exact Xe Z Z Z ab (Xb (v := vb c) ai Z (Xo (v := vb c) Z ab Z Z (Xc ⟨⟨ai, am, ag, (cB (by simp [O, ab]))⟩, Z⟩)))
 exact Xi Z Z Z ab Z (Xn (v := vb false) Z ab Z Z (Xc ⟨⟨ai, am, ag, (cB (by simp [O, ab]))⟩, Z⟩))
 exact Xi Z Z Z O Z (Xn (v := vb false) Z O Z Z (Xb (v := vb false) Z Z (Xi Z Z Z Z Z (Xn (v := vb false) Z Z Z Z (Xc ⟨⟨ai, am, ag, (cB (by simp [O]))⟩, Z⟩)))))
 rintro bn bv ⟨⟨bb, av, aj, bc⟩, rfl⟩
 simp only [List.drop_succ_cons, List.drop_zero]
 refine Xd (o' := 3) Kb aj Z Z (Yg (v := vb ((r.wr && b) && c)) (cs' := #[vi r.th, vi r.ve, vb (r.rd && a), vb ((r.wr && b) && c), vb r.wk]) Jn Z bc Z ae.blk (Nat.le_of_ble_eq_true Z) Z ?_)
 intro bh af
 refine Xc (Xa (Hy 6 (fun f' w' => (f' 8 = pt ak 0 ∧ f' 9 = pt al 0 ∧ f' 32 = vb (r.wk || (!c))) ∧ bh = w') ?_ ?_))
 simp only [List.take_succ_cons, List.take_zero]
 refine Xd (o' := 4) K9 aj Z Z (Xh (v := vb r.wk) Jn Z (af.blk.cell Z) Z (Xb (v := vb r.wk) Z Z ?_))
 rcases Yb (r.wk) with E | E
 exact Xi Z Z Z E Z (Xi Z Z Z E Z (Xo (v := vb true) Z E Z Z (Xc ⟨⟨av, aj, (cB (by simp [E]))⟩, Z⟩)))
 exact Xe Z Z Z E (Xb (v := vb c) bb Z (Xe Z Z Z E (Yj (b' := !c) Z Z Z (Xn (v := vb (!c)) Z E Z Z (Xc ⟨⟨av, aj, (cB (by simp [E]))⟩, Z⟩)))))
 rintro bp bw ⟨⟨aw, az, bd⟩, rfl⟩
 simp only [List.drop_succ_cons, List.drop_zero]
 refine Xd (o' := 4) K9 az Z Z (Yg (v := vb (r.wk || (!c))) (cs' := #[vi r.th, vi r.ve, vb (r.rd && a), vb ((r.wr && b) && c), vb (r.wk || (!c))]) Jn Z bd Z af.blk (Nat.le_of_ble_eq_true Z) Z ?_)
 intro bx ah
 refine Xc (Xa (Xq (vs := [vi r.th, vi r.ve, vb (r.rd && a), vb ((r.wr && b) && c), vb (r.wk || (!c))]) Yz az Z (ah.blk.rangeL 0 5 Z) Z (Xx (vs := [vi r.th, vi r.ve, vb (r.rd && a), vb ((r.wr && b) && c), vb (r.wk || (!c))]) (cs' := #[vi r.th, vi r.ve, vb (r.rd && a), vb ((r.wr && b) && c), vb (r.wk || (!c))]) Yz aw Z Z (by simp [Value.oneCell']) (((((G.blk.grown0 J.grw).gn ad.grw).gn ae.grw).gn af.grw).gn ah.grw) (Nat.le_of_ble_eq_true Z) Z ?_)))
 intro bz an
 refine Xc (Xt (⟨.agg #[vi r.th, vi r.ve, vb (r.rd && a), vb ((r.wr && b) && c), vb (r.wk || (!c))], J2 Z (Yn (vs := [vi r.th, vi r.ve, vb (r.rd && a), vb ((r.wr && b) && c), vb (r.wk || (!c))]) Yz aw Z (an.blk.rangeL 0 5 Z)), ?_, (low1 (low1 (low1 (low1 (low1 (low0 ap J.grw) ad.grw (by omega)) ae.grw (by omega)) af.grw (by omega)) ah.grw (by omega)) an.grw (by omega))⟩))
 rfl
theorem He (r : Rt) (a b c : Bool) (w : World) : CallsR Tryz.prog 107 #[.agg #[vi r.th, vi r.ve, vb r.rd, vb r.wr, vb r.wk], vb a, vb b, vb c] w (fun v w' => v = .agg #[vi (rightLess r a b c).th, vi (rightLess r a b c).ve, vb (rightLess r a b c).rd, vb (rightLess r a b c).wr, vb (rightLess r a b c).wk] ∧ w.grownBy w' none) := by
 refine Xw (n := 19) Tryz.func107 Z Tryz.ntmps107 Z ?_
 have av := World.grownBy.refl w none
 rcases Yb (decide (r.th = 0)) with J | J
 have bk := of_decide_eq_true J
 refine Xa (Qd (v := .agg #[vi r.th, vi r.ve, vb r.rd, vb r.wr, vb r.wk]) (cs := #[vi r.th, vi r.ve, vb r.rd, vb r.wr, vb r.wk]) Z Z Z ?_)
 intro bg bm O
 have bc := Yi O av
 have aj := low0 av O.grw
 refine Yf (cs := #[vi 0, vi 0, vb false, vb false, vb false]) K7 Z Z ?_
 intro bh bn E
 have bd := Yi E aj
 have ar := Xr E (O.blk).lt
 refine Xc (Xs (Xa ?_))
 have az := (O.blk.grown0 E.grw)
 refine Xq (vs := [vi r.th, vi r.ve, vb r.rd, vb r.wr, vb r.wk]) Yz Z Z (az.rangeL 0 5 Z) Z (Xm Mb (Xg Z Xl) Z (Gm r _) ?_)
 rintro _ bp ⟨rfl, ab⟩
 have ak := low0 (low0 aj E.grw) ab
 refine Yj (b' := !rightOk r) Z Z Z (Xc (X2 Z (fun ad => ?_) (fun ad => ?_)))
 have a9 := Jm ad
 refine Xa (Ys (ps := []) (v := .agg #[vi 0, vi 0, vb false, vb false, vb false]) X5 (by kernel_rfl) Z (Xx (vs := [vi 0, vi 0, vb false, vb false, vb false]) (cs' := #[vi 0, vi 0, vb false, vb false, vb false]) Yz Z Z Z (by simp [Value.oneCell']) (E.blk.grown0 ab) (Nat.le_of_ble_eq_true Z) Z ?_))
 intro bq af
 refine Xc (Xt (Yo (⟨.agg #[vi 0, vi 0, vb false, vb false, vb false], J2 Z (Yn (vs := [vi 0, vi 0, vb false, vb false, vb false]) Yz Z Z (af.blk.rangeL 0 5 Z)), ?_, (low1 ak af.grw (by omega))⟩)))
 rw [H6 a9]; rfl
 have aw := Qu ad
 refine Xy (Xv (Xa (Xq (vs := [vi r.th, vi r.ve, vb r.rd, vb r.wr, vb r.wk]) Yz Z Z ((az.grown0 ab).rangeL 0 5 Z) Z (Xm Da (Xg Z Xl) Z (E1 r J _) ?_))))
 rintro _ br ⟨rfl, an⟩
 refine Xb (v := vb a) Z Z (Xb (v := vb b) Z Z (Xb (v := vb c) Z Z (Nh (T := 149) (rv := .agg #[]) (v0 := .agg #[]) (vs := [vb a, vb b, vb c]) O1 Z (fun _ => by kernel_rfl) (Xg Z (Xg Z (Xg Z Xl))) Z (Ff a b c _) ?_)))
 rintro _ bt ⟨rfl, ao⟩
 refine Xx (vs := [vi 0, vi 0, vb false, vb false, vb false]) (cs' := #[vi 0, vi 0, vb false, vb false, vb false]) Yz Z Z Z (by simp [Value.oneCell']) (((E.blk.grown0 ab).grown0 an).grown0 ao) (Nat.le_of_ble_eq_true Z) Z ?_
 intro bu ag
 refine Xc (Xt (⟨.agg #[vi 0, vi 0, vb false, vb false, vb false], J2 Z (Yn (vs := [vi 0, vi 0, vb false, vb false, vb false]) Yz Z Z (ag.blk.rangeL 0 5 Z)), ?_, (low1 (low0 (low0 ak an) ao) ag.grw (by omega))⟩))
 rw [U7 aw, Sa J, P1 aw J]; rfl
 have bl := of_decide_eq_false J
 refine Xa (Qd (v := .agg #[vi r.th, vi r.ve, vb r.rd, vb r.wr, vb r.wk]) (cs := #[vi r.th, vi r.ve, vb r.rd, vb r.wr, vb r.wk]) Z Z Z ?_)
 intro bi bv V
 have be := Yi V av
 have al := low0 av V.grw
 refine Yf (cs := #[vi 0, vi 0, vb false, vb false, vb false]) K7 Z Z ?_
 intro bj bw G
 have bf := Yi G al
 have au := Xr G (V.blk).lt
 refine Xc (Xs (Xa ?_))
 have a8 := (V.blk.grown0 G.grw)
 refine Xq (vs := [vi r.th, vi r.ve, vb r.rd, vb r.wr, vb r.wk]) Yz Z Z (a8.rangeL 0 5 Z) Z (Xm Mb (Xg Z Xl) Z (Gm r _) ?_)
 rintro _ bx ⟨rfl, ac⟩
 have am := low0 (low0 al G.grw) ac
 refine Yj (b' := !rightOk r) Z Z Z (Xc (X2 Z (fun ae => ?_) (fun ae => ?_)))
 have ba := Jm ae
 refine Xa (Ys (ps := []) (v := .agg #[vi 0, vi 0, vb false, vb false, vb false]) X5 (by kernel_rfl) Z (Xx (vs := [vi 0, vi 0, vb false, vb false, vb false]) (cs' := #[vi 0, vi 0, vb false, vb false, vb false]) Yz Z Z Z (by simp [Value.oneCell']) (G.blk.grown0 ac) (Nat.le_of_ble_eq_true Z) Z ?_))
 intro bz ah
 refine Xc (Xt (Yo (⟨.agg #[vi 0, vi 0, vb false, vb false, vb false], J2 Z (Yn (vs := [vi 0, vi 0, vb false, vb false, vb false]) Yz Z Z (ah.blk.rangeL 0 5 Z)), ?_, (low1 am ah.grw (by omega))⟩)))
 rw [H6 ba]; rfl
 have bb := Qu ae
 refine Xy (Xv (Xa (Xq (vs := [vi r.th, vi r.ve, vb r.rd, vb r.wr, vb r.wk]) Yz Z Z ((a8.grown0 ac).rangeL 0 5 Z) Z (Xm Da (Xg Z Xl) Z (E0 r J _) ?_))))
 rintro _ ca ⟨rfl, ap⟩
 refine Xb (v := vb a) Z Z (Xb (v := vb b) Z Z (Xb (v := vb c) Z Z (Nh (T := 151) (rv := .agg #[vi r.th, vi r.ve, vb r.rd, vb r.wr, vb r.wk]) (v0 := .agg #[vi r.th, vi r.ve, vb r.rd, vb r.wr, vb r.wk]) (vs := [vb a, vb b, vb c]) O2 Z (fun _ => by kernel_rfl) (Xg Z (Xg Z (Xg Z Xl))) Z (Fg r a b c _) ?_)))
 rintro _ cc ⟨rfl, aq⟩
 refine Xx (vs := [vi r.th, vi r.ve, vb (r.rd && a), vb ((r.wr && b) && c), vb (r.wk || (!c))]) (cs' := #[vi r.th, vi r.ve, vb (r.rd && a), vb ((r.wr && b) && c), vb (r.wk || (!c))]) Yz Z Z Z (by simp [Value.oneCell']) (((G.blk.grown0 ac).grown0 ap).grown0 aq) (Nat.le_of_ble_eq_true Z) Z ?_
 intro cd ai
 refine Xc (Xt (⟨.agg #[vi r.th, vi r.ve, vb (r.rd && a), vb ((r.wr && b) && c), vb (r.wk || (!c))], J2 Z (Yn (vs := [vi r.th, vi r.ve, vb (r.rd && a), vb ((r.wr && b) && c), vb (r.wk || (!c))]) Yz Z Z (ai.blk.rangeL 0 5 Z)), ?_, (low1 (low0 (low0 am ap) aq) ai.grw (by omega))⟩))
 rw [U7 bb, R9 J]
theorem Wf (q : Cl) (r : Rt) (B cap : Nat) (ms : List MTh) (w : World) (hB : Dw.Own w B 39 8 cap ms.length (ms.flatMap MTh.cells)) (hml : ms.length ≤ 8) (A : Nat) (hA : Blk w A 59 #[.slice (pa B) ms.length cap, vi q.kind, vi q.run, vi q.a, vi q.b, vi q.n, vi r.th, vi r.ve, vb r.rd, vb r.wr, vb r.wk]) (hi : 1 ≤ q.run ∧ q.run ≤ (ms.length : Int)) : CallsR Tryz.prog 38 #[pt A 0] w (fun v w' => v = pt B ((q.run - 1).toNat * 8) ∧ w.grownBy w' none) := by
 refine Xw (n := 14) Tryz.func38 Z Tryz.ntmps38 Z (Xa (Xf (v := .pointer none) Z Z (Xc (Xs (Yt (m := 10) (vals := [(3, pt A 0), (4, pt A 0), (5, pt A 0), (6, .slice (pa B) ms.length cap), (7, pt A 0), (8, pt A 0), (9, pt A 1), (10, pt A 2), (11, vi q.run), (12, vi (q.run - 1))]) (fun w' => w.grownBy w' none) Y0 (by kernel_rfl) (X7 _) ?_ ?_)))))
 exact yl Z (fun _ _ k => Xb (v := pt A 0) Z Z k) (yl Z (fun _ _ k => Xu Z Z k) (yl Z (fun _ _ k => Xd (o' := 0) Gr Z Z Z k) (yl Z (fun _ E k => Xh (v := .slice (pa B) ms.length cap) U6 Z ((hA.grown0 E).cell Z) Z k) (yl Z (fun _ _ k => Xb (v := pt A 0) Z Z k) (yl Z (fun _ _ k => Xu Z Z k) (yl Z (fun _ _ k => Xd (o' := 1) Ky Z Z Z k) (yl Z (fun _ _ k => Xd (o' := 2) Y9 Z Z Z k) (yl Z (fun _ G k => Xh (v := vi q.run) Xz Z ((hA.grown0 G).cell Z) Z k) (yl Z (fun _ _ k => Ym (c := q.run - 1) Z Z (by omega) (by omega) (by omega) Z k) Y2)))))))))
 intro O J
 refine Ya (o' := (q.run - 1).toNat * 8) Y6 Z Z (by omega) (by omega) (by omega) Z (Xf (v := pt B ((q.run - 1).toNat * 8)) Z Z (Xc (Xv (Xt (⟨pt B ((q.run - 1).toNat * 8), Yx Z Z, ?_, (low0 (World.grownBy.refl w none) J)⟩)))))
 rfl
theorem Kw (q : Cl) (r : Rt) (B cap : Nat) (ms : List MTh) (w : World) (hB : Dw.Own w B 39 8 cap ms.length (ms.flatMap MTh.cells)) (hml : ms.length ≤ 8) (A : Nat) (hA : Blk w A 59 #[.slice (pa B) ms.length cap, vi q.kind, vi q.run, vi q.a, vi q.b, vi q.n, vi r.th, vi r.ve, vb r.rd, vb r.wr, vb r.wk]) (hi : 1 ≤ r.th ∧ r.th ≤ (ms.length : Int)) : CallsR Tryz.prog 106 #[pt A 0] w (fun v w' => v = pt B ((r.th - 1).toNat * 8) ∧ w.grownBy w' none) := by
 refine Xw (n := 14) Tryz.func106 Z Tryz.ntmps106 Z (Xa (Xf (v := .pointer none) Z Z (Xc (Xs (Yt (m := 10) (vals := [(3, pt A 0), (4, pt A 0), (5, pt A 0), (6, .slice (pa B) ms.length cap), (7, pt A 0), (8, pt A 0), (9, pt A 6), (10, pt A 6), (11, vi r.th), (12, vi (r.th - 1))]) (fun w' => w.grownBy w' none) Y0 (by kernel_rfl) (X7 _) ?_ ?_)))))
 exact yl Z (fun _ _ k => Xb (v := pt A 0) Z Z k) (yl Z (fun _ _ k => Xu Z Z k) (yl Z (fun _ _ k => Xd (o' := 0) Gr Z Z Z k) (yl Z (fun _ E k => Xh (v := .slice (pa B) ms.length cap) U6 Z ((hA.grown0 E).cell Z) Z k) (yl Z (fun _ _ k => Xb (v := pt A 0) Z Z k) (yl Z (fun _ _ k => Xu Z Z k) (yl Z (fun _ _ k => Xd (o' := 6) Hb Z Z Z k) (yl Z (fun _ _ k => Xd (o' := 6) Yl Z Z Z k) (yl Z (fun _ G k => Xh (v := vi r.th) Xz Z ((hA.grown0 G).cell Z) Z k) (yl Z (fun _ _ k => Ym (c := r.th - 1) Z Z (by omega) (by omega) (by omega) Z k) Y2)))))))))
 intro O J
 refine Ya (o' := (r.th - 1).toNat * 8) Y6 Z Z (by omega) (by omega) (by omega) Z (Xf (v := pt B ((r.th - 1).toNat * 8)) Z Z (Xc (Xv (Xt (⟨pt B ((r.th - 1).toNat * 8), Yx Z Z, ?_, (low0 (World.grownBy.refl w none) J)⟩)))))
 rfl
theorem I4 (q : Cl) (r : Rt) (lo B cap : Nat) (ms : List MTh) (w : World) (hB : Dw.Own w B 39 8 cap ms.length (ms.flatMap MTh.cells)) (hR : RowsO 33 3 lo w ms) (hlo : lo ≤ B) (hi : Nat) (hH : HiO hi ms) (hBlt : B < hi) (hhi : hi ≤ w.heap.size) (hF : FarOk (tabT ms) q r) (A : Nat) (hA : Blk w A 59 #[.slice (pa B) ms.length cap, vi q.kind, vi q.run, vi q.a, vi q.b, vi q.n, vi r.th, vi r.ve, vb r.rd, vb r.wr, vb r.wk]) (hAhi : hi ≤ A) (hq : decide (q.kind = 1) = true) : CallsR Tryz.prog 89 #[pt A 0] w (fun v w' => ∃ ms' : List MTh, v = vi (far (tabT ms) q r).2 ∧ ms'.length = ms.length ∧ Dw.Own w' B 39 8 cap ms'.length (ms'.flatMap MTh.cells) ∧ RowsO 33 3 lo w' ms' ∧ tabT ms' = (far (tabT ms) q r).1 ∧ KeepsI lo hi [39, 33, 3] w w') := by
 refine Xw (n := 8) Tryz.func89 Z Tryz.ntmps89 Z ?_
 have J : KeepsI lo hi [39, 33, 3] w w := KeepsI.refl w
 have hlow : lo ≤ w.heap.size := by omega
 have hT := hF.tab
 have hco := Yw hF.call
 have hkp := (Y5 hF.run).1
 have h4 := Qt hT hF.run
 have hth := hF.th
 rw [Qa] at hth
 have hml := Jk hT
 have hkd := Q5 hF.kind hco.1
 rw [← Qo] at hkd
 have hrow := Jt hT (i := (r.th - 1).toNat) (by omega)
 have hln := TabLen.ok hT _ (List.mem_of_getElem? (xg ms (r.th - 1).toNat))
 have hcp := hF.copy
 have hve := U2 hrow
 have hqk := of_decide_eq_true hq
 refine Xa (Xf (v := vi 0) Z Z (Xc (Xa (Xb (v := pt A 0) Z Z (Xm V0 (Xg Z Xl) Z (Kw q r B cap _ _ hB (by first | omega | (simp only [List.length_set, Yc]; omega)) A hA (by first | omega | (simp only [List.length_set, Yc]; omega))) ?_)))))
 rintro _ O ⟨rfl, E⟩
 refine Xu Z Z (Xd (o' := (r.th - 1).toNat * 8 + 4) Q8 Z Z Z ?_)
 have G := (hB.grown0 E)
 refine Xh (v := vi (mj ms r.th).t.num) Xz Z ((Own.range Yp G (xg ms (r.th - 1).toNat)) 4 _ Z) Z (Xf (v := vi (mj ms r.th).t.num) Z Z (Xc (Xt ?_)))
 have hf : far (tabT ms) q r = (tabT (ms), (mj ms r.th).t.num) := F9 hq
 exact ⟨vi (mj ms r.th).t.num, Yx Z Z, ms, by rw [hf], by first | rfl | exact Yc | (simp only [List.length_set, Yc]), G, (RowsO.low hR E), by rw [hf], (KeepsI.low J E)⟩
theorem I5 (q : Cl) (r : Rt) (lo B cap : Nat) (ms : List MTh) (w : World) (hB : Dw.Own w B 39 8 cap ms.length (ms.flatMap MTh.cells)) (hR : RowsO 33 3 lo w ms) (hlo : lo ≤ B) (hi : Nat) (hH : HiO hi ms) (hBlt : B < hi) (hhi : hi ≤ w.heap.size) (hF : FarOk (tabT ms) q r) (A : Nat) (hA : Blk w A 59 #[.slice (pa B) ms.length cap, vi q.kind, vi q.run, vi q.a, vi q.b, vi q.n, vi r.th, vi r.ve, vb r.rd, vb r.wr, vb r.wk]) (hAhi : hi ≤ A) (hq : decide (q.kind = 2) = true) : CallsR Tryz.prog 90 #[pt A 0] w (fun v w' => ∃ ms' : List MTh, v = vi (far (tabT ms) q r).2 ∧ ms'.length = ms.length ∧ Dw.Own w' B 39 8 cap ms'.length (ms'.flatMap MTh.cells) ∧ RowsO 33 3 lo w' ms' ∧ tabT ms' = (far (tabT ms) q r).1 ∧ KeepsI lo hi [39, 33, 3] w w') := by
 refine Xw (n := 12) Tryz.func90 Z Tryz.ntmps90 Z ?_
 have af : KeepsI lo hi [39, 33, 3] w w := KeepsI.refl w
 have hlow : lo ≤ w.heap.size := by omega
 have hT := hF.tab
 have hco := Yw hF.call
 have hkp := (Y5 hF.run).1
 have h4 := Qt hT hF.run
 have hth := hF.th
 rw [Qa] at hth
 have hml := Jk hT
 have hkd := Q5 hF.kind hco.1
 rw [← Qo] at hkd
 have hrow := Jt hT (i := (r.th - 1).toNat) (by omega)
 have hln := TabLen.ok hT _ (List.mem_of_getElem? (xg ms (r.th - 1).toNat))
 have hcp := hF.copy
 have hve := U2 hrow
 have hqk := of_decide_eq_true hq
 refine Xa (Xf (v := vi 0) Z Z (Xc (Xs (Yt (m := 7) (vals := [(3, pt A 0), (4, pt B ((r.th - 1).toNat * 8)), (5, pt A 0), (6, pt A 0), (7, pt A 1), (8, pt A 5), (9, vi q.n)]) (fun w' => w.grownBy w' none) Y0 (by kernel_rfl) (X7 _) ?_ ?_))))
 refine yl Z (fun _ _ k => Xb (v := pt A 0) Z Z k) ?_
 refine Qk Z (fun ag E => ?_) ?_
 refine Xm V0 (Xg Z Xl) Z (Kw q r B cap _ _ (hB.grown0 E) (by first | omega | (simp only [List.length_set, Yc]; omega)) A (hA.grown0 E) (by first | omega | (simp only [List.length_set, Yc]; omega))) ?_
 rintro _ ah ⟨rfl, ac⟩
 exact Xc ⟨Z, (grown_trans E ac)⟩
 exact yl Z (fun _ _ k => Xb (v := pt A 0) Z Z k) (yl Z (fun _ _ k => Xu Z Z k) (yl Z (fun _ _ k => Xd (o' := 1) Ky Z Z Z k) (yl Z (fun _ _ k => Xd (o' := 5) J1 Z Z Z k) (yl Z (fun _ ad k => Xh (v := vi q.n) Xz Z ((hA.grown0 ad).cell Z) Z k) Y2))))
 intro ai G
 refine Xu Z Z (Xd (o' := (r.th - 1).toNat * 8 + 4) Q8 Z Z Z ?_)
 have O := (hB.grown0 G)
 refine Jh (g := MTh.cells) (j := 4) (z := (mj ms r.th)) (z' := (⟨⟨(mj ms r.th).t.kind, (mj ms r.th).t.lab, (mj ms r.th).t.ve, q.n, (mj ms r.th).t.slots, (mj ms r.th).t.queue, (mj ms r.th).t.to⟩, (mj ms r.th).sa, (mj ms r.th).sc, (mj ms r.th).qa, (mj ms r.th).qc⟩ : MTh)) (v := vi q.n) Xz Z Z Z Yp O (xg ms (r.th - 1).toNat) (by omega) Z Z ?_
 intro ae ab J
 have V : RowsO 33 3 lo ae (ms.set (r.th - 1).toNat (⟨⟨(mj ms r.th).t.kind, (mj ms r.th).t.lab, (mj ms r.th).t.ve, q.n, (mj ms r.th).t.slots, (mj ms r.th).t.queue, (mj ms r.th).t.to⟩, (mj ms r.th).sa, (mj ms r.th).sc, (mj ms r.th).qa, (mj ms r.th).qc⟩ : MTh)) := RowsO.set (RowsO.own (RowsO.low hR G) J O (by decide) (by decide)) (lq (r.th - 1).toNat ms.length) ⟨rfl, rfl, rfl⟩ ⟨rfl, rfl, rfl⟩
 refine Xc (Xv (Xa (Xf (v := vi 0) Z Z (Xc (Xt ?_)))))
 have hf : far (tabT ms) q r = (tabT (ms.set (r.th - 1).toNat (⟨⟨(mj ms r.th).t.kind, (mj ms r.th).t.lab, (mj ms r.th).t.ve, q.n, (mj ms r.th).t.slots, (mj ms r.th).t.queue, (mj ms r.th).t.to⟩, (mj ms r.th).sa, (mj ms r.th).sc, (mj ms r.th).qa, (mj ms r.th).qc⟩ : MTh)), 0) := Ia hq rfl
 exact ⟨vi 0, Yx Z Z, ms.set (r.th - 1).toNat (⟨⟨(mj ms r.th).t.kind, (mj ms r.th).t.lab, (mj ms r.th).t.ve, q.n, (mj ms r.th).t.slots, (mj ms r.th).t.queue, (mj ms r.th).t.to⟩, (mj ms r.th).sa, (mj ms r.th).sc, (mj ms r.th).qa, (mj ms r.th).qc⟩ : MTh), by rw [hf], by first | rfl | exact Yc | (simp only [List.length_set, Yc]), ab, V, by rw [hf], (KeepsI.own (KeepsI.low af G) J O (by decide) (by omega) (by omega))⟩
theorem I7 (q : Cl) (r : Rt) (lo B cap : Nat) (ms : List MTh) (w : World) (hB : Dw.Own w B 39 8 cap ms.length (ms.flatMap MTh.cells)) (hR : RowsO 33 3 lo w ms) (hlo : lo ≤ B) (hi : Nat) (hH : HiO hi ms) (hBlt : B < hi) (hhi : hi ≤ w.heap.size) (hF : FarOk (tabT ms) q r) (A : Nat) (hA : Blk w A 59 #[.slice (pa B) ms.length cap, vi q.kind, vi q.run, vi q.a, vi q.b, vi q.n, vi r.th, vi r.ve, vb r.rd, vb r.wr, vb r.wk]) (hAhi : hi ≤ A) (hq : decide (q.kind = 4) = true) : CallsR Tryz.prog 92 #[pt A 0] w (fun v w' => ∃ ms' : List MTh, v = vi (far (tabT ms) q r).2 ∧ ms'.length = ms.length ∧ Dw.Own w' B 39 8 cap ms'.length (ms'.flatMap MTh.cells) ∧ RowsO 33 3 lo w' ms' ∧ tabT ms' = (far (tabT ms) q r).1 ∧ KeepsI lo hi [39, 33, 3] w w') := by
 refine Xw (n := 36) Tryz.func92 Z Tryz.ntmps92 Z ?_
 have d4 : KeepsI lo hi [39, 33, 3] w w := KeepsI.refl w
 have hlow : lo ≤ w.heap.size := by omega
 have hT := hF.tab
 have hco := Yw hF.call
 have hkp := (Y5 hF.run).1
 have h4 := Qt hT hF.run
 have hth := hF.th
 rw [Qa] at hth
 have hml := Jk hT
 have hkd := Q5 hF.kind hco.1
 rw [← Qo] at hkd
 have hrow := Jt hT (i := (r.th - 1).toNat) (by omega)
 have hln := TabLen.ok hT _ (List.mem_of_getElem? (xg ms (r.th - 1).toNat))
 have hcp := hF.copy
 have hve := U2 hrow
 have eu := of_decide_eq_true hq
 have hs4 : (mAt ms (r.th - 1).toNat).t.slots.length = 4 := Uv hrow (Or.inl (by omega))
 have hqk := of_decide_eq_true hq
 have bv := (Vb hT (k := r.th) (by rw [Qa]; exact hth) (q.n % 4)).1
 rw [← Qy] at bv
 refine Xa (Xf (v := vi 0) Z Z (Xc (Xs ?_)))
 obtain ⟨br, ba, ej, af⟩ := RowsO.slot hR (lq (r.th - 1).toNat ms.length) (by omega)
 have eg := hH _ (List.mem_of_getElem? (xg ms (r.th - 1).toNat)) _ (Or.inl ba)
 have ek := V3 hB af (by decide)
 refine Q2 (m := 14) [[], [0], [0, 1], [0, 1, 2], [0, 1, 2, 3], [], [5], [5, 6], [5, 6, 7], [5, 6, 7, 8], [5, 6, 7, 8, 9], [0, 1, 2, 3, 4, 5, 6, 7, 8, 9, 10], [0, 1, 2, 3, 4, 5, 6, 7, 8, 9, 10, 11], [], [0, 1, 2, 3, 4, 5, 6, 7, 8, 9, 10, 11, 12, 13]] (fun S F w' => ∃ (E : Nat), w.grownBy w' none ∧ F 0 = pt A 0 ∧ F 2 = vi 0 ∧ (S 13 = true → F 3 = pt E 0 ∧ w.heap.size ≤ E ∧ Blk w' E 33 #[vi 0, vi 0, vb false, vb false, vb false] ∧ B < E ∧ A < E ∧ br < E ∧ w.heap.size ≤ E) ∧ Vals S F [(0, 4, pt A 0), (1, 5, pt B ((r.th - 1).toNat * 8)), (2, 6, pt B ((r.th - 1).toNat * 8)), (3, 7, pt B ((r.th - 1).toNat * 8 + 5)), (4, 8, .slice (mAt ms (r.th - 1).toNat).sa (mAt ms (r.th - 1).toNat).t.slots.length (mAt ms (r.th - 1).toNat).sc), (5, 9, pt A 0), (6, 10, pt A 0), (7, 11, pt A 1), (8, 12, pt A 5), (9, 13, vi q.n), (10, 14, vi (q.n % 4)), (11, 15, pt br ((q.n % 4).toNat * 5)), (12, 16, .agg #[vi (rAt (mAt ms (r.th - 1).toNat).t.slots (q.n % 4).toNat).th, vi (rAt (mAt ms (r.th - 1).toNat).t.slots (q.n % 4).toNat).ve, vb (rAt (mAt ms (r.th - 1).toNat).t.slots (q.n % 4).toNat).rd, vb (rAt (mAt ms (r.th - 1).toNat).t.slots (q.n % 4).toNat).wr, vb (rAt (mAt ms (r.th - 1).toNat).t.slots (q.n % 4).toNat).wk])]) Y0 (by kernel_rfl) ⟨0, X7 _, Z, Z, Yy, Ka _⟩ ?_ ?_
 refine Xk (fun S F fa hS hbef hcl hI => ?_) ?_
 obtain ⟨E, cc, bt, da, G, hvs⟩ := hI
 exact Xb (v := pt A 0) bt Z (Xc ⟨E, cc, bt, da, G, Vals.up 0 hvs Z Z Z⟩)
 refine Xk (fun S F fb hS hbef hcl hI => ?_) ?_
 obtain ⟨E, ap, db, dc, G, hvs⟩ := hI
 refine Xm V0 (Xg (Vals.at 0 hvs Z (Xp 0 hbef Z)) Xl) Z (Kw q r B cap _ _ (hB.grown0 ap) (by first | omega | (simp only [List.length_set, Yc]; omega)) A (hA.grown0 ap) (by first | omega | (simp only [List.length_set, Yc]; omega))) ?_
 rintro _ fc ⟨rfl, bf⟩
 exact Xc ⟨E, (low0 ap bf), db, dc, fun h => let ⟨d8, d9, ea, eb, ed, ee, ef⟩ := G h; ⟨d8, d9, (ea).grown0 bf, eb, ed, ee, ef⟩, Vals.up 1 hvs Z Z Z⟩
 refine Xk (fun S F fd hS hbef hcl hI => ?_) ?_
 obtain ⟨E, cd, de, df, G, hvs⟩ := hI
 exact Xu (Vals.at 1 hvs Z (Xp 1 hbef Z)) Z (Xc ⟨E, cd, de, df, G, Vals.up 2 hvs Z Z Z⟩)
 refine Xk (fun S F fe hS hbef hcl hI => ?_) ?_
 obtain ⟨E, ce, dg, dh, G, hvs⟩ := hI
 exact Xd (o' := (r.th - 1).toNat * 8 + 5) Qi (Vals.at 2 hvs Z (Xp 2 hbef Z)) Z Z (Xc ⟨E, ce, dg, dh, G, Vals.up 3 hvs Z Z Z⟩)
 refine Xk (fun S F ff hS hbef hcl hI => ?_) ?_
 obtain ⟨E, bg, di, dk, G, hvs⟩ := hI
 exact Xh (v := .slice (mAt ms (r.th - 1).toNat).sa (mAt ms (r.th - 1).toNat).t.slots.length (mAt ms (r.th - 1).toNat).sc) Jd (Vals.at 3 hvs Z (Xp 3 hbef Z)) ((Own.range Yp (hB.grown0 bg) (xg ms (r.th - 1).toNat)) 5 _ Z) Z (Xc ⟨E, bg, di, dk, G, Vals.up 4 hvs Z Z Z⟩)
 refine Xk (fun S F fg hS hbef hcl hI => ?_) ?_
 obtain ⟨E, cf, bu, dl, G, hvs⟩ := hI
 exact Xb (v := pt A 0) bu Z (Xc ⟨E, cf, bu, dl, G, Vals.up 5 hvs Z Z Z⟩)
 refine Xk (fun S F fh hS hbef hcl hI => ?_) ?_
 obtain ⟨E, cg, dm, dn, G, hvs⟩ := hI
 exact Xu (Vals.at 5 hvs Z (Xp 5 hbef Z)) Z (Xc ⟨E, cg, dm, dn, G, Vals.up 6 hvs Z Z Z⟩)
 refine Xk (fun S F fi hS hbef hcl hI => ?_) ?_
 obtain ⟨E, cj, dp, dq, G, hvs⟩ := hI
 exact Xd (o' := 1) Ky (Vals.at 6 hvs Z (Xp 6 hbef Z)) Z Z (Xc ⟨E, cj, dp, dq, G, Vals.up 7 hvs Z Z Z⟩)
 refine Xk (fun S F fj hS hbef hcl hI => ?_) ?_
 obtain ⟨E, ck, dr, dt, G, hvs⟩ := hI
 exact Xd (o' := 5) J1 (Vals.at 7 hvs Z (Xp 7 hbef Z)) Z Z (Xc ⟨E, ck, dr, dt, G, Vals.up 8 hvs Z Z Z⟩)
 refine Xk (fun S F fk hS hbef hcl hI => ?_) ?_
 obtain ⟨E, bh, du, dv, G, hvs⟩ := hI
 exact Xh (v := vi q.n) Xz (Vals.at 8 hvs Z (Xp 8 hbef Z)) ((hA.grown0 bh).cell Z) Z (Xc ⟨E, bh, du, dv, G, Vals.up 9 hvs Z Z Z⟩)
 refine Xk (fun S F fm hS hbef hcl hI => ?_) ?_
 obtain ⟨E, cl, dw, dx, G, hvs⟩ := hI
 exact Q4 (c := q.n % 4) (Vals.at 9 hvs Z (Xp 9 hbef Z)) Z (by omega) (by omega) (by omega) Z Z (Xc ⟨E, cl, dw, dx, G, Vals.up 10 hvs Z Z Z⟩)
 refine Xk (fun S F fo hS hbef hcl hI => ?_) ?_
 obtain ⟨E, cm, dy, dz, G, hvs⟩ := hI
 exact X0 J9 (Vals.at 4 hvs Z (Xp 4 hbef Z)) (Vals.at 10 hvs Z (Xp 10 hbef Z)) ba (Nat.zero_add _) (by omega) (by omega) Z (Xc ⟨E, cm, dy, dz, G, Vals.up 11 hvs Z Z Z⟩)
 refine Xk (fun S F fp hS hbef hcl hI => ?_) ?_
 obtain ⟨E, bi, d0, d1, G, hvs⟩ := hI
 exact Xq (vs := [vi (rAt (mAt ms (r.th - 1).toNat).t.slots (q.n % 4).toNat).th, vi (rAt (mAt ms (r.th - 1).toNat).t.slots (q.n % 4).toNat).ve, vb (rAt (mAt ms (r.th - 1).toNat).t.slots (q.n % 4).toNat).rd, vb (rAt (mAt ms (r.th - 1).toNat).t.slots (q.n % 4).toNat).wr, vb (rAt (mAt ms (r.th - 1).toNat).t.slots (q.n % 4).toNat).wk]) Yz (Vals.at 11 hvs Z (Xp 11 hbef Z)) Z (Y3 (Own.range Q6 (af.grown0 bi) (xr (mAt ms (r.th - 1).toNat).t.slots (q.n % 4).toNat)) 0 5 Z) Z (Xc ⟨E, bi, d0, d1, G, Vals.up 12 hvs Z Z Z⟩)
 refine Xk (fun S F fq hS hbef hcl hI => ?_) ?_
 obtain ⟨E, ac, d2, d3, G, hvs⟩ := hI
 refine Yf (cs := #[vi 0, vi 0, vb false, vb false, vb false]) K7 Z Z ?_
 intro c9 fr O
 have bq := V1 O (KeepsI.low d4 ac)
 have av := Xr O ((hB.grown0 ac)).lt
 have au := Xr O ((hA.grown0 ac)).lt
 have ae := Xr O ((af.grown0 ac)).lt
 exact Xc ⟨c9, (low0 ac O.grw), d2, d3, fun _ => ⟨Z, bq, O.blk, av, au, ae, (nt ac.size (Nat.le_of_eq O.eq.symm))⟩, Vals.keep hvs Z⟩
 exact Je
 intro S F ft hall hI
 obtain ⟨E, ad, ak, e0, G, hvs⟩ := hI
 obtain ⟨al, ep, bl, c8, cz, bm, d5⟩ := G (hall 13 (by decide))
 refine Xx (vs := [vi (rAt (mAt ms (r.th - 1).toNat).t.slots (q.n % 4).toNat).th, vi (rAt (mAt ms (r.th - 1).toNat).t.slots (q.n % 4).toNat).ve, vb (rAt (mAt ms (r.th - 1).toNat).t.slots (q.n % 4).toNat).rd, vb (rAt (mAt ms (r.th - 1).toNat).t.slots (q.n % 4).toNat).wr, vb (rAt (mAt ms (r.th - 1).toNat).t.slots (q.n % 4).toNat).wk]) (cs' := #[vi (rAt (mAt ms (r.th - 1).toNat).t.slots (q.n % 4).toNat).th, vi (rAt (mAt ms (r.th - 1).toNat).t.slots (q.n % 4).toNat).ve, vb (rAt (mAt ms (r.th - 1).toNat).t.slots (q.n % 4).toNat).rd, vb (rAt (mAt ms (r.th - 1).toNat).t.slots (q.n % 4).toNat).wr, vb (rAt (mAt ms (r.th - 1).toNat).t.slots (q.n % 4).toNat).wk]) Yz al (Vals.at 12 hvs Z (hall 12 (by decide))) Z (by simp [Value.oneCell']) bl (Nat.le_of_ble_eq_true Z) Z ?_
 intro d6 J
 have be := KeepsI.new (KeepsI.low d4 ad) J.grw (by omega)
 refine Xc (Xv (Xs (Xa (Xb (v := pt A 0) ak Z (Xu Z Z (Xd (o' := 6) Hb Z Z Z (Xd (o' := 10) K9 Z Z Z ?_)))))))
 have am := ((hA.grown0 ad).gn J.grw)
 refine Xh (v := vb r.wk) Jn Z (am.cell Z) Z (Xc (X2 Z (fun bd => ?_) (fun bd => ?_)))
 refine X6 (Xq (vs := [vi (rAt (mAt ms (r.th - 1).toNat).t.slots (q.n % 4).toNat).th, vi (rAt (mAt ms (r.th - 1).toNat).t.slots (q.n % 4).toNat).ve, vb (rAt (mAt ms (r.th - 1).toNat).t.slots (q.n % 4).toNat).rd, vb (rAt (mAt ms (r.th - 1).toNat).t.slots (q.n % 4).toNat).wr, vb (rAt (mAt ms (r.th - 1).toNat).t.slots (q.n % 4).toNat).wk]) Yz al Z (J.blk.rangeL 0 5 Z) Z (Xm C9 (Xg Z (Xg Z (Xg Z (Xg Z Xl)))) Z (He (rAt (mAt ms (r.th - 1).toNat).t.slots (q.n % 4).toNat) true false false _) ?_))
 rintro _ fu ⟨rfl, ab⟩
 refine Xx (vs := [vi (l2Less (rAt (mAt ms (r.th - 1).toNat).t.slots (q.n % 4).toNat) true false false).th, vi (l2Less (rAt (mAt ms (r.th - 1).toNat).t.slots (q.n % 4).toNat) true false false).ve, vb (l2Less (rAt (mAt ms (r.th - 1).toNat).t.slots (q.n % 4).toNat) true false false).rd, vb (l2Less (rAt (mAt ms (r.th - 1).toNat).t.slots (q.n % 4).toNat) true false false).wr, vb (l2Less (rAt (mAt ms (r.th - 1).toNat).t.slots (q.n % 4).toNat) true false false).wk]) (cs' := #[vi (l2Less (rAt (mAt ms (r.th - 1).toNat).t.slots (q.n % 4).toNat) true false false).th, vi (l2Less (rAt (mAt ms (r.th - 1).toNat).t.slots (q.n % 4).toNat) true false false).ve, vb (l2Less (rAt (mAt ms (r.th - 1).toNat).t.slots (q.n % 4).toNat) true false false).rd, vb (l2Less (rAt (mAt ms (r.th - 1).toNat).t.slots (q.n % 4).toNat) true false false).wr, vb (l2Less (rAt (mAt ms (r.th - 1).toNat).t.slots (q.n % 4).toNat) true false false).wk]) Yz al (congrArg (fun z : Rt => (.agg #[vi z.th, vi z.ve, vb z.rd, vb z.wr, vb z.wk] : Value)) (U7 (r := (rAt (mAt ms (r.th - 1).toNat).t.slots (q.n % 4).toNat)) (a := true) (b := false) (c := false) bv)) Z (by simp [Value.oneCell']) (J.blk.grown0 ab) (Nat.le_of_ble_eq_true Z) Z ?_
 intro d7 V
 refine Xc (Xv (Xs ?_))
 have aw := (RowsO.ge (RowsO.low (RowsO.ge (RowsO.low hR ad) J.grw hH (by omega)) ab) V.grw hH (by omega))
 obtain ⟨ew, ag, bn, a8⟩ := RowsO.slot aw (lq (q.run - 1).toNat ms.length) (by omega)
 have eh := hH _ (List.mem_of_getElem? (xg ms (q.run - 1).toNat)) _ (Or.inl ag)
 have bb := ((((hB.grown0 ad).gn J.grw).grown0 ab).gn V.grw)
 have em := V3 bb a8 (by decide)
 refine Yt (m := 11) (vals := [(24, pt A 0), (25, pt B ((q.run - 1).toNat * 8)), (26, pt B ((q.run - 1).toNat * 8)), (27, pt B ((q.run - 1).toNat * 8 + 5)), (28, .slice (mAt ms (q.run - 1).toNat).sa (mAt ms (q.run - 1).toNat).t.slots.length (mAt ms (q.run - 1).toNat).sc), (29, pt A 0), (30, pt A 0), (31, pt A 1), (32, pt A 4), (33, vi q.b), (34, .agg #[vi (l2Less (rAt (mAt ms (r.th - 1).toNat).t.slots (q.n % 4).toNat) true false false).th, vi (l2Less (rAt (mAt ms (r.th - 1).toNat).t.slots (q.n % 4).toNat) true false false).ve, vb (l2Less (rAt (mAt ms (r.th - 1).toNat).t.slots (q.n % 4).toNat) true false false).rd, vb (l2Less (rAt (mAt ms (r.th - 1).toNat).t.slots (q.n % 4).toNat) true false false).wr, vb (l2Less (rAt (mAt ms (r.th - 1).toNat).t.slots (q.n % 4).toNat) true false false).wk])]) (fun w' => d7.grownBy w' none) Y0 (by kernel_rfl) (X7 _) ?_ ?_
 refine yl Z (fun _ _ k => Xb (v := pt A 0) ak Z k) ?_
 refine Qk Z (fun fv aq => ?_) ?_
 refine Xm R4 (Xg Z Xl) Z (Wf q r B cap _ _ (bb.grown0 aq) (by first | omega | (simp only [List.length_set, Yc]; omega)) A (((am.grown0 ab).gn V.grw).grown0 aq) (by first | omega | (simp only [List.length_set, Yc]; omega))) ?_
 rintro _ fw ⟨rfl, bz⟩
 exact Xc ⟨Z, (grown_trans aq bz)⟩
 exact yl Z (fun _ _ k => Xu Z Z k) (yl Z (fun _ _ k => Xd (o' := (q.run - 1).toNat * 8 + 5) Qi Z Z Z k) (yl Z (fun _ cn k => Xh (v := .slice (mAt ms (q.run - 1).toNat).sa (mAt ms (q.run - 1).toNat).t.slots.length (mAt ms (q.run - 1).toNat).sc) Jd Z ((Own.range Yp (bb.grown0 cn) (xg ms (q.run - 1).toNat)) 5 _ Z) Z k) (yl Z (fun _ _ k => Xb (v := pt A 0) ak Z k) (yl Z (fun _ _ k => Xu Z Z k) (yl Z (fun _ _ k => Xd (o' := 1) Ky Z Z Z k) (yl Z (fun _ _ k => Xd (o' := 4) Vx Z Z Z k) (yl Z (fun _ co k => Xh (v := vi q.b) Xz Z ((((am.grown0 ab).gn V.grw).grown0 co).cell Z) Z k) (yl Z (fun _ ct k => Xq (vs := [vi (l2Less (rAt (mAt ms (r.th - 1).toNat).t.slots (q.n % 4).toNat) true false false).th, vi (l2Less (rAt (mAt ms (r.th - 1).toNat).t.slots (q.n % 4).toNat) true false false).ve, vb (l2Less (rAt (mAt ms (r.th - 1).toNat).t.slots (q.n % 4).toNat) true false false).rd, vb (l2Less (rAt (mAt ms (r.th - 1).toNat).t.slots (q.n % 4).toNat) true false false).wr, vb (l2Less (rAt (mAt ms (r.th - 1).toNat).t.slots (q.n % 4).toNat) true false false).wk]) Yz al Z ((V.blk.grown0 ct).rangeL 0 5 Z) Z k) Y2))))))))
 intro fx ai
 refine X0 J9 Z Z ag (Nat.zero_add _) (by omega) (by omega) Z ?_
 have bj := (a8.grown0 ai)
 refine Ja (g := Rt.cells) (z' := (l2Less (rAt (mAt ms (r.th - 1).toNat).t.slots (q.n % 4).toNat) true false false)) Yz Z Z (V7 _) Q6 bj (by omega) Z ?_
 intro fy bw an
 refine Xc (Xv (Xa (Xf (v := vi 0) Z Z (Xc (Xt ?_)))))
 have hf : far (tabT ms) q r = (tabT (putT ms (q.run - 1).toNat (q.b).toNat (l2Less (rAt (mAt ms (r.th - 1).toNat).t.slots (q.n % 4).toNat) true false false)), 0) := T5 hq (by unfold fetched; simp [bd])
 exact ⟨vi 0, Yx Z Z, putT ms (q.run - 1).toNat (q.b).toNat (l2Less (rAt (mAt ms (r.th - 1).toNat).t.slots (q.n % 4).toNat) true false false), by rw [hf], by first | rfl | exact Yc | (simp only [List.length_set, Yc]), (Ul (i := (q.run - 1).toNat) (j := (q.b).toNat) (x := (l2Less (rAt (mAt ms (r.th - 1).toNat).t.slots (q.n % 4).toNat) true false false)) ((bb.grown0 ai).gn an) (by omega)), (RowsO.put (RowsO.low aw ai) (lq (q.run - 1).toNat ms.length) ag bn bj Z bw an (by decide)), by rw [hf], (KeepsI.own (KeepsI.low (KeepsI.new (KeepsI.low be ab) V.grw (by omega)) ai) an bj (by decide) (by omega) (by omega))⟩
 refine Xy (Xv (Xs ?_))
 have az := (RowsO.ge (RowsO.low hR ad) J.grw hH (by omega))
 obtain ⟨ez, ah, bp, a9⟩ := RowsO.slot az (lq (q.run - 1).toNat ms.length) (by omega)
 have ei := hH _ (List.mem_of_getElem? (xg ms (q.run - 1).toNat)) _ (Or.inl ah)
 have bc := ((hB.grown0 ad).gn J.grw)
 have eo := V3 bc a9 (by decide)
 refine Yt (m := 11) (vals := [(24, pt A 0), (25, pt B ((q.run - 1).toNat * 8)), (26, pt B ((q.run - 1).toNat * 8)), (27, pt B ((q.run - 1).toNat * 8 + 5)), (28, .slice (mAt ms (q.run - 1).toNat).sa (mAt ms (q.run - 1).toNat).t.slots.length (mAt ms (q.run - 1).toNat).sc), (29, pt A 0), (30, pt A 0), (31, pt A 1), (32, pt A 4), (33, vi q.b), (34, .agg #[vi (rAt (mAt ms (r.th - 1).toNat).t.slots (q.n % 4).toNat).th, vi (rAt (mAt ms (r.th - 1).toNat).t.slots (q.n % 4).toNat).ve, vb (rAt (mAt ms (r.th - 1).toNat).t.slots (q.n % 4).toNat).rd, vb (rAt (mAt ms (r.th - 1).toNat).t.slots (q.n % 4).toNat).wr, vb (rAt (mAt ms (r.th - 1).toNat).t.slots (q.n % 4).toNat).wk])]) (fun w' => d6.grownBy w' none) Y0 (by kernel_rfl) (X7 _) ?_ ?_
 refine yl Z (fun _ _ k => Xb (v := pt A 0) ak Z k) ?_
 refine Qk Z (fun fz ar => ?_) ?_
 refine Xm R4 (Xg Z Xl) Z (Wf q r B cap _ _ (bc.grown0 ar) (by first | omega | (simp only [List.length_set, Yc]; omega)) A (am.grown0 ar) (by first | omega | (simp only [List.length_set, Yc]; omega))) ?_
 rintro _ f8 ⟨rfl, ca⟩
 exact Xc ⟨Z, (grown_trans ar ca)⟩
 exact yl Z (fun _ _ k => Xu Z Z k) (yl Z (fun _ _ k => Xd (o' := (q.run - 1).toNat * 8 + 5) Qi Z Z Z k) (yl Z (fun _ cv k => Xh (v := .slice (mAt ms (q.run - 1).toNat).sa (mAt ms (q.run - 1).toNat).t.slots.length (mAt ms (q.run - 1).toNat).sc) Jd Z ((Own.range Yp (bc.grown0 cv) (xg ms (q.run - 1).toNat)) 5 _ Z) Z k) (yl Z (fun _ _ k => Xb (v := pt A 0) ak Z k) (yl Z (fun _ _ k => Xu Z Z k) (yl Z (fun _ _ k => Xd (o' := 1) Ky Z Z Z k) (yl Z (fun _ _ k => Xd (o' := 4) Vx Z Z Z k) (yl Z (fun _ cw k => Xh (v := vi q.b) Xz Z ((am.grown0 cw).cell Z) Z k) (yl Z (fun _ cy k => Xq (vs := [vi (rAt (mAt ms (r.th - 1).toNat).t.slots (q.n % 4).toNat).th, vi (rAt (mAt ms (r.th - 1).toNat).t.slots (q.n % 4).toNat).ve, vb (rAt (mAt ms (r.th - 1).toNat).t.slots (q.n % 4).toNat).rd, vb (rAt (mAt ms (r.th - 1).toNat).t.slots (q.n % 4).toNat).wr, vb (rAt (mAt ms (r.th - 1).toNat).t.slots (q.n % 4).toNat).wk]) Yz al Z ((J.blk.grown0 cy).rangeL 0 5 Z) Z k) Y2))))))))
 intro f9 aj
 refine X0 J9 Z Z ah (Nat.zero_add _) (by omega) (by omega) Z ?_
 have bk := (a9.grown0 aj)
 refine Ja (g := Rt.cells) (z' := (rAt (mAt ms (r.th - 1).toNat).t.slots (q.n % 4).toNat)) Yz Z Z (V7 _) Q6 bk (by omega) Z ?_
 intro ga bx ao
 refine Xc (Xv (Xa (Xf (v := vi 0) Z Z (Xc (Xt ?_)))))
 have hf : far (tabT ms) q r = (tabT (putT ms (q.run - 1).toNat (q.b).toNat (rAt (mAt ms (r.th - 1).toNat).t.slots (q.n % 4).toNat)), 0) := T5 hq (by unfold fetched; simp [bd])
 exact ⟨vi 0, Yx Z Z, putT ms (q.run - 1).toNat (q.b).toNat (rAt (mAt ms (r.th - 1).toNat).t.slots (q.n % 4).toNat), by rw [hf], by first | rfl | exact Yc | (simp only [List.length_set, Yc]), (Ul (i := (q.run - 1).toNat) (j := (q.b).toNat) (x := (rAt (mAt ms (r.th - 1).toNat).t.slots (q.n % 4).toNat)) ((bc.grown0 aj).gn ao) (by omega)), (RowsO.put (RowsO.low az aj) (lq (q.run - 1).toNat ms.length) ah bp bk Z bx ao (by decide)), by rw [hf], (KeepsI.own (KeepsI.low be aj) ao bk (by decide) (by omega) (by omega))⟩
theorem I8 (q : Cl) (r : Rt) (lo B cap : Nat) (ms : List MTh) (w : World) (hB : Dw.Own w B 39 8 cap ms.length (ms.flatMap MTh.cells)) (hR : RowsO 33 3 lo w ms) (hlo : lo ≤ B) (hi : Nat) (hH : HiO hi ms) (hBlt : B < hi) (hhi : hi ≤ w.heap.size) (hF : FarOk (tabT ms) q r) (A : Nat) (hA : Blk w A 59 #[.slice (pa B) ms.length cap, vi q.kind, vi q.run, vi q.a, vi q.b, vi q.n, vi r.th, vi r.ve, vb r.rd, vb r.wr, vb r.wk]) (hAhi : hi ≤ A) (hq : decide (q.kind = 5) = true) : CallsR Tryz.prog 93 #[pt A 0] w (fun v w' => ∃ ms' : List MTh, v = vi (far (tabT ms) q r).2 ∧ ms'.length = ms.length ∧ Dw.Own w' B 39 8 cap ms'.length (ms'.flatMap MTh.cells) ∧ RowsO 33 3 lo w' ms' ∧ tabT ms' = (far (tabT ms) q r).1 ∧ KeepsI lo hi [39, 33, 3] w w') := by
 refine Xw (n := 27) Tryz.func93 Z Tryz.ntmps93 Z ?_
 have aw : KeepsI lo hi [39, 33, 3] w w := KeepsI.refl w
 have hlow : lo ≤ w.heap.size := by omega
 have hT := hF.tab
 have hco := Yw hF.call
 have hkp := (Y5 hF.run).1
 have h4 := Qt hT hF.run
 have hth := hF.th
 rw [Qa] at hth
 have hml := Jk hT
 have hkd := Q5 hF.kind hco.1
 rw [← Qo] at hkd
 have hrow := Jt hT (i := (r.th - 1).toNat) (by omega)
 have hln := TabLen.ok hT _ (List.mem_of_getElem? (xg ms (r.th - 1).toNat))
 have hcp := hF.copy
 have hve := U2 hrow
 have az := of_decide_eq_true hq
 have hs4 : (mAt ms (r.th - 1).toNat).t.slots.length = 4 := Uv hrow (Or.inl (by omega))
 have hqk := of_decide_eq_true hq
 refine Xa (Xf (v := vi 0) Z Z (Xc (Xs ?_)))
 obtain ⟨ao, ad, ar, ab⟩ := RowsO.slot hR (lq (q.run - 1).toNat ms.length) (by omega)
 have ap := hH _ (List.mem_of_getElem? (xg ms (q.run - 1).toNat)) _ (Or.inl ad)
 have au := V3 hB ab (by decide)
 obtain ⟨a8, E, af, ac⟩ := RowsO.slot hR (lq (r.th - 1).toNat ms.length) (by omega)
 have aq := hH _ (List.mem_of_getElem? (xg ms (r.th - 1).toNat)) _ (Or.inl E)
 have av := V3 hB ac (by decide)
 refine Yt (m := 23) (vals := [(3, pt A 0), (4, pt B ((r.th - 1).toNat * 8)), (5, pt B ((r.th - 1).toNat * 8)), (6, pt B ((r.th - 1).toNat * 8 + 5)), (7, .slice (mAt ms (r.th - 1).toNat).sa (mAt ms (r.th - 1).toNat).t.slots.length (mAt ms (r.th - 1).toNat).sc), (8, pt A 0), (9, pt A 0), (10, pt A 1), (11, pt A 5), (12, vi q.n), (13, vi (q.n % 4)), (14, pt A 0), (15, pt B ((q.run - 1).toNat * 8)), (16, pt B ((q.run - 1).toNat * 8)), (17, pt B ((q.run - 1).toNat * 8 + 5)), (18, .slice (mAt ms (q.run - 1).toNat).sa (mAt ms (q.run - 1).toNat).t.slots.length (mAt ms (q.run - 1).toNat).sc), (19, pt A 0), (20, pt A 0), (21, pt A 1), (22, pt A 4), (23, vi q.b), (24, pt ao ((q.b).toNat * 5)), (25, .agg #[vi (rAt (mAt ms (q.run - 1).toNat).t.slots (q.b).toNat).th, vi (rAt (mAt ms (q.run - 1).toNat).t.slots (q.b).toNat).ve, vb (rAt (mAt ms (q.run - 1).toNat).t.slots (q.b).toNat).rd, vb (rAt (mAt ms (q.run - 1).toNat).t.slots (q.b).toNat).wr, vb (rAt (mAt ms (q.run - 1).toNat).t.slots (q.b).toNat).wk])]) (fun w' => w.grownBy w' none) Y0 (by kernel_rfl) (X7 _) ?_ ?_
 refine yl Z (fun _ _ k => Xb (v := pt A 0) Z Z k) ?_
 refine Qk Z (fun a9 O => ?_) ?_
 refine Xm V0 (Xg Z Xl) Z (Kw q r B cap _ _ (hB.grown0 O) (by first | omega | (simp only [List.length_set, Yc]; omega)) A (hA.grown0 O) (by first | omega | (simp only [List.length_set, Yc]; omega))) ?_
 rintro _ ba ⟨rfl, ah⟩
 exact Xc ⟨Z, (grown_trans O ah)⟩
 refine yl Z (fun _ _ k => Xu Z Z k) (yl Z (fun _ _ k => Xd (o' := (r.th - 1).toNat * 8 + 5) Qi Z Z Z k) (yl Z (fun _ aj k => Xh (v := .slice (mAt ms (r.th - 1).toNat).sa (mAt ms (r.th - 1).toNat).t.slots.length (mAt ms (r.th - 1).toNat).sc) Jd Z ((Own.range Yp (hB.grown0 aj) (xg ms (r.th - 1).toNat)) 5 _ Z) Z k) (yl Z (fun _ _ k => Xb (v := pt A 0) Z Z k) (yl Z (fun _ _ k => Xu Z Z k) (yl Z (fun _ _ k => Xd (o' := 1) Ky Z Z Z k) (yl Z (fun _ _ k => Xd (o' := 5) J1 Z Z Z k) (yl Z (fun _ ak k => Xh (v := vi q.n) Xz Z ((hA.grown0 ak).cell Z) Z k) (yl Z (fun _ _ k => Q4 (c := q.n % 4) Z Z (by omega) (by omega) (by omega) Z Z k) (yl Z (fun _ _ k => Xb (v := pt A 0) Z Z k) ?_)))))))))
 refine Qk Z (fun bb V => ?_) ?_
 refine Xm R4 (Xg Z Xl) Z (Wf q r B cap _ _ (hB.grown0 V) (by first | omega | (simp only [List.length_set, Yc]; omega)) A (hA.grown0 V) (by first | omega | (simp only [List.length_set, Yc]; omega))) ?_
 rintro _ bc ⟨rfl, ai⟩
 exact Xc ⟨Z, (grown_trans V ai)⟩
 exact yl Z (fun _ _ k => Xu Z Z k) (yl Z (fun _ _ k => Xd (o' := (q.run - 1).toNat * 8 + 5) Qi Z Z Z k) (yl Z (fun _ al k => Xh (v := .slice (mAt ms (q.run - 1).toNat).sa (mAt ms (q.run - 1).toNat).t.slots.length (mAt ms (q.run - 1).toNat).sc) Jd Z ((Own.range Yp (hB.grown0 al) (xg ms (q.run - 1).toNat)) 5 _ Z) Z k) (yl Z (fun _ _ k => Xb (v := pt A 0) Z Z k) (yl Z (fun _ _ k => Xu Z Z k) (yl Z (fun _ _ k => Xd (o' := 1) Ky Z Z Z k) (yl Z (fun _ _ k => Xd (o' := 4) Vx Z Z Z k) (yl Z (fun _ am k => Xh (v := vi q.b) Xz Z ((hA.grown0 am).cell Z) Z k) (yl Z (fun _ _ k => X0 J9 Z Z ad (Nat.zero_add _) (by omega) (by omega) Z k) (yl Z (fun _ an k => Xq (vs := [vi (rAt (mAt ms (q.run - 1).toNat).t.slots (q.b).toNat).th, vi (rAt (mAt ms (q.run - 1).toNat).t.slots (q.b).toNat).ve, vb (rAt (mAt ms (q.run - 1).toNat).t.slots (q.b).toNat).rd, vb (rAt (mAt ms (q.run - 1).toNat).t.slots (q.b).toNat).wr, vb (rAt (mAt ms (q.run - 1).toNat).t.slots (q.b).toNat).wk]) Yz Z Z (Y3 (Own.range Q6 (ab.grown0 an) (xr (mAt ms (q.run - 1).toNat).t.slots (q.b).toNat)) 0 5 Z) Z k) Y2)))))))))
 intro bd G
 refine X0 J9 Z Z E (Nat.zero_add _) (by omega) (by omega) Z ?_
 have ae := (ac.grown0 G)
 refine Ja (g := Rt.cells) (z' := (rAt (mAt ms (q.run - 1).toNat).t.slots (q.b).toNat)) Yz Z Z (V7 _) Q6 ae (by omega) Z ?_
 intro be ag J
 refine Xc (Xv (Xa (Xf (v := vi 0) Z Z (Xc (Xt ?_)))))
 have hf : far (tabT ms) q r = (tabT (putT ms (r.th - 1).toNat (q.n % 4).toNat (rAt (mAt ms (q.run - 1).toNat).t.slots (q.b).toNat)), 0) := Ib hq rfl
 exact ⟨vi 0, Yx Z Z, putT ms (r.th - 1).toNat (q.n % 4).toNat (rAt (mAt ms (q.run - 1).toNat).t.slots (q.b).toNat), by rw [hf], by first | rfl | exact Yc | (simp only [List.length_set, Yc]), (Ul (i := (r.th - 1).toNat) (j := (q.n % 4).toNat) (x := (rAt (mAt ms (q.run - 1).toNat).t.slots (q.b).toNat)) ((hB.grown0 G).gn J) (by omega)), (RowsO.put (RowsO.low hR G) (lq (r.th - 1).toNat ms.length) E af ae Z ag J (by decide)), by rw [hf], (KeepsI.own (KeepsI.low aw G) J ae (by decide) (by omega) (by omega))⟩
theorem Oj (q : Cl) (r : Rt) (lo B cap : Nat) (ms : List MTh) (w : World) (hB : Dw.Own w B 39 8 cap ms.length (ms.flatMap MTh.cells)) (hR : RowsO 33 3 lo w ms) (hlo : lo ≤ B) (hi : Nat) (hH : HiO hi ms) (hBlt : B < hi) (hhi : hi ≤ w.heap.size) (hF : FarOk (tabT ms) q r) (A : Nat) (hA : Blk w A 59 #[.slice (pa B) ms.length cap, vi q.kind, vi q.run, vi q.a, vi q.b, vi q.n, vi r.th, vi r.ve, vb r.rd, vb r.wr, vb r.wk]) (hAhi : hi ≤ A) (hq : decide (q.kind = 8) = true) : CallsR Tryz.prog 96 #[pt A 0] w (fun v w' => ∃ ms' : List MTh, v = vi (far (tabT ms) q r).2 ∧ ms'.length = ms.length ∧ Dw.Own w' B 39 8 cap ms'.length (ms'.flatMap MTh.cells) ∧ RowsO 33 3 lo w' ms' ∧ tabT ms' = (far (tabT ms) q r).1 ∧ KeepsI lo hi [39, 33, 3] w w') := by
 refine Xw (n := 40) Tryz.func96 Z Tryz.ntmps96 Z ?_
 have i3 : KeepsI lo hi [39, 33, 3] w w := KeepsI.refl w
 have hlow : lo ≤ w.heap.size := by omega
 have hT := hF.tab
 have hco := Yw hF.call
 have hkp := (Y5 hF.run).1
 have h4 := Qt hT hF.run
 have hth := hF.th
 rw [Qa] at hth
 have hml := Jk hT
 have hkd := Q5 hF.kind hco.1
 rw [← Qo] at hkd
 have hrow := Jt hT (i := (r.th - 1).toNat) (by omega)
 have hln := TabLen.ok hT _ (List.mem_of_getElem? (xg ms (r.th - 1).toNat))
 have hcp := hF.copy
 have hve := U2 hrow
 have j8 := of_decide_eq_true hq
 have c9 := Mi hrow (by omega)
 have hqk := of_decide_eq_true hq
 rcases Yb ((decide ((mAt ms (r.th - 1).toNat).t.kind = 2)) || (decide ((mAt ms (r.th - 1).toNat).t.kind = 3))) with ak | ak
 refine Xa (Xf (v := vi 0) Z Z (Xc (Xa (Xb (v := pt A 0) Z Z (Xm V0 (Xg Z Xl) Z (Kw q r B cap _ _ hB (by first | omega | (simp only [List.length_set, Yc]; omega)) A hA (by first | omega | (simp only [List.length_set, Yc]; omega))) ?_)))))
 rintro _ cw ⟨rfl, ap⟩
 have bd := KeepsI.low i3 ap
 refine Xf (v := pt B ((r.th - 1).toNat * 8)) Z Z (Xc (Xs (Xa (Xb (v := pt B ((r.th - 1).toNat * 8)) Z Z (Xu Z Z (Xd (o' := (r.th - 1).toNat * 8 + 3) Jj Z Z Z ?_))))))
 have aq := (hB.grown0 ap)
 refine Xh (v := vi (mAt ms (r.th - 1).toNat).t.ve) Xz Z ((Own.range Yp aq (xg ms (r.th - 1).toNat)) 3 _ Z) Z (Ua (q := decide (5 ≤ (mAt ms (r.th - 1).toNat).t.ve)) Z Z Z Z (Xc (X2 Z (fun bx => ?_) (fun bx => ?_))))
 have kj := of_decide_eq_true bx
 refine Xa (Xf (v := vi (-4)) Z Z (Xc (Xt (Yo ?_))))
 have hf : far (tabT ms) q r = (tabT (ms), (-4)) := S9 hq (by omega)
 exact ⟨vi (-4), Yx Z Z, ms, by rw [hf], by first | rfl | exact Yc | (simp only [List.length_set, Yc]), aq, (RowsO.low hR ap), by rw [hf], bd⟩
 have kk := of_decide_eq_false bx
 refine Xy (Xv (Xs ?_))
 refine Q2 (m := 18) [[], [0], [0, 1], [0, 1, 2], [], [4], [4, 5], [4, 5, 6], [], [8], [8, 9], [8, 9, 10], [0, 1, 2, 3, 4, 5, 6, 7, 8, 9, 10, 11], [0, 1, 2, 3, 4, 5, 6, 7, 8, 9, 10, 11, 12], [0, 1, 2, 3, 4, 5, 6, 7, 8, 9, 10, 11, 12, 13], [0, 1, 2, 3, 4, 5, 6, 7, 8, 9, 10, 11, 12, 13], [], [0, 1, 2, 3, 4, 5, 6, 7, 8, 9, 10, 11, 12, 13, 14, 16], [0, 1, 2, 3, 4, 5, 6, 7, 8, 9, 10, 11, 12, 13, 14, 15, 16, 17]] (fun S F w' => ∃ (G : Nat) (O : Nat) (V : Nat), cw.grownBy w' none ∧ F 2 = vi 0 ∧ F 3 = pt B ((r.th - 1).toNat * 8) ∧ (S 12 = true → F 26 = .tuple #[.agg #[vi (mAt ms (r.th - 1).toNat).t.kind, vi (mAt ms (r.th - 1).toNat).t.lab.s, vi (mAt ms (r.th - 1).toNat).t.lab.v, vi 0, vi 0, .slice (pa O) 4 G, .slice none 0 0, vi (mAt ms (r.th - 1).toNat).t.to], vb true] ∧ w.heap.size ≤ O ∧ Dw.Own w' O 33 5 G zeros4.length (zeros4.flatMap Rt.cells) ∧ B < O ∧ A < O ∧ cw.heap.size ≤ O) ∧ (S 13 = true → F 13 = .tuple #[.agg #[vi (mAt ms (r.th - 1).toNat).t.kind, vi (mAt ms (r.th - 1).toNat).t.lab.s, vi (mAt ms (r.th - 1).toNat).t.lab.v, vi 0, vi 0, .slice (pa O) 4 G, .slice none 0 0, vi (mAt ms (r.th - 1).toNat).t.to], vb true]) ∧ (S 14 = true → F 27 = .agg #[vi (mAt ms (r.th - 1).toNat).t.kind, vi (mAt ms (r.th - 1).toNat).t.lab.s, vi (mAt ms (r.th - 1).toNat).t.lab.v, vi 0, vi 0, .slice (pa O) 4 G, .slice none 0 0, vi (mAt ms (r.th - 1).toNat).t.to]) ∧ (S 16 = true → F 4 = pt V 0 ∧ w.heap.size ≤ V ∧ (S 17 = false → Blk w' V 39 #[vi 0, vi 0, vi 0, vi 0, vi 0, .slice none 0 0, .slice none 0 0, vi 0]) ∧ B < V ∧ A < V ∧ cw.heap.size ≤ V) ∧ (S 17 = true → Blk w' V 39 #[vi (mAt ms (r.th - 1).toNat).t.kind, vi (mAt ms (r.th - 1).toNat).t.lab.s, vi (mAt ms (r.th - 1).toNat).t.lab.v, vi 0, vi 0, .slice (pa O) 4 G, .slice none 0 0, vi (mAt ms (r.th - 1).toNat).t.to]) ∧ Vals S F [(0, 14, pt B ((r.th - 1).toNat * 8)), (1, 15, pt B ((r.th - 1).toNat * 8)), (2, 16, pt B ((r.th - 1).toNat * 8)), (3, 17, vi (mAt ms (r.th - 1).toNat).t.kind), (4, 18, pt B ((r.th - 1).toNat * 8)), (5, 19, pt B ((r.th - 1).toNat * 8)), (6, 20, pt B ((r.th - 1).toNat * 8 + 1)), (7, 21, .agg #[vi (mAt ms (r.th - 1).toNat).t.lab.s, vi (mAt ms (r.th - 1).toNat).t.lab.v]), (8, 22, pt B ((r.th - 1).toNat * 8)), (9, 23, pt B ((r.th - 1).toNat * 8)), (10, 24, pt B ((r.th - 1).toNat * 8 + 7)), (11, 25, vi (mAt ms (r.th - 1).toNat).t.to), (15, 28, vb true)] ∧ (S 12 = true → S 16 = true → O ≠ V)) Y0 (by kernel_rfl) ⟨0, 0, 0, X7 _, Z, Z, Yy, Yy, Yy, Yy, Yy, Ka _, Yy⟩ ?_ ?_
 refine Xk (fun S F kr hS hbef hcl hI => ?_) ?_
 obtain ⟨G, O, V, dz, fc, dg, ad, ae, af, J, ac, hvs, E⟩ := hI
 exact Xb (v := pt B ((r.th - 1).toNat * 8)) dg Z (Xc ⟨G, O, V, dz, fc, dg, X4 12 hS hcl Z, X4 13 hS hcl Z, X4 14 hS hcl Z, J, X4 17 hS hcl Z, Vals.up 0 hvs Z Z Z, E⟩)
 refine Xk (fun S F ks hS hbef hcl hI => ?_) ?_
 obtain ⟨G, O, V, d0, fd, fe, ad, ae, af, J, ac, hvs, E⟩ := hI
 exact Xu (Vals.at 0 hvs Z (Xp 0 hbef Z)) Z (Xc ⟨G, O, V, d0, fd, fe, X4 12 hS hcl Z, X4 13 hS hcl Z, X4 14 hS hcl Z, J, X4 17 hS hcl Z, Vals.up 1 hvs Z Z Z, E⟩)
 refine Xk (fun S F kt hS hbef hcl hI => ?_) ?_
 obtain ⟨G, O, V, d1, ff, fg, ad, ae, af, J, ac, hvs, E⟩ := hI
 exact Xd (o' := (r.th - 1).toNat * 8) Y7 (Vals.at 1 hvs Z (Xp 1 hbef Z)) Z Z (Xc ⟨G, O, V, d1, ff, fg, X4 12 hS hcl Z, X4 13 hS hcl Z, X4 14 hS hcl Z, J, X4 17 hS hcl Z, Vals.up 2 hvs Z Z Z, E⟩)
 refine Xk (fun S F ku hS hbef hcl hI => ?_) ?_
 obtain ⟨G, O, V, cf, fh, fi, ad, ae, af, J, ac, hvs, E⟩ := hI
 exact Xh (v := vi (mAt ms (r.th - 1).toNat).t.kind) Xz (Vals.at 2 hvs Z (Xp 2 hbef Z)) ((Own.range Yp (aq.grown0 cf) (xg ms (r.th - 1).toNat)) 0 _ Z) Z (Xc ⟨G, O, V, cf, fh, fi, X4 12 hS hcl Z, X4 13 hS hcl Z, X4 14 hS hcl Z, J, X4 17 hS hcl Z, Vals.up 3 hvs Z Z Z, E⟩)
 refine Xk (fun S F kv hS hbef hcl hI => ?_) ?_
 obtain ⟨G, O, V, d2, fj, dh, ad, ae, af, J, ac, hvs, E⟩ := hI
 exact Xb (v := pt B ((r.th - 1).toNat * 8)) dh Z (Xc ⟨G, O, V, d2, fj, dh, X4 12 hS hcl Z, X4 13 hS hcl Z, X4 14 hS hcl Z, J, X4 17 hS hcl Z, Vals.up 4 hvs Z Z Z, E⟩)
 refine Xk (fun S F kw hS hbef hcl hI => ?_) ?_
 obtain ⟨G, O, V, d3, fk, fm, ad, ae, af, J, ac, hvs, E⟩ := hI
 exact Xu (Vals.at 4 hvs Z (Xp 4 hbef Z)) Z (Xc ⟨G, O, V, d3, fk, fm, X4 12 hS hcl Z, X4 13 hS hcl Z, X4 14 hS hcl Z, J, X4 17 hS hcl Z, Vals.up 5 hvs Z Z Z, E⟩)
 refine Xk (fun S F kx hS hbef hcl hI => ?_) ?_
 obtain ⟨G, O, V, d4, fo, fp, ad, ae, af, J, ac, hvs, E⟩ := hI
 exact Xd (o' := (r.th - 1).toNat * 8 + 1) J6 (Vals.at 5 hvs Z (Xp 5 hbef Z)) Z Z (Xc ⟨G, O, V, d4, fo, fp, X4 12 hS hcl Z, X4 13 hS hcl Z, X4 14 hS hcl Z, J, X4 17 hS hcl Z, Vals.up 6 hvs Z Z Z, E⟩)
 refine Xk (fun S F ky hS hbef hcl hI => ?_) ?_
 obtain ⟨G, O, V, cg, fq, fr, ad, ae, af, J, ac, hvs, E⟩ := hI
 exact Xq (vs := [vi (mAt ms (r.th - 1).toNat).t.lab.s, vi (mAt ms (r.th - 1).toNat).t.lab.v]) J5 (Vals.at 6 hvs Z (Xp 6 hbef Z)) Z (Y3 (Own.range Yp (aq.grown0 cg) (xg ms (r.th - 1).toNat)) 1 2 Z) Z (Xc ⟨G, O, V, cg, fq, fr, X4 12 hS hcl Z, X4 13 hS hcl Z, X4 14 hS hcl Z, J, X4 17 hS hcl Z, Vals.up 7 hvs Z Z Z, E⟩)
 refine Xk (fun S F kz hS hbef hcl hI => ?_) ?_
 obtain ⟨G, O, V, d5, ft, di, ad, ae, af, J, ac, hvs, E⟩ := hI
 exact Xb (v := pt B ((r.th - 1).toNat * 8)) di Z (Xc ⟨G, O, V, d5, ft, di, X4 12 hS hcl Z, X4 13 hS hcl Z, X4 14 hS hcl Z, J, X4 17 hS hcl Z, Vals.up 8 hvs Z Z Z, E⟩)
 refine Xk (fun S F k0 hS hbef hcl hI => ?_) ?_
 obtain ⟨G, O, V, d6, fu, fv, ad, ae, af, J, ac, hvs, E⟩ := hI
 exact Xu (Vals.at 8 hvs Z (Xp 8 hbef Z)) Z (Xc ⟨G, O, V, d6, fu, fv, X4 12 hS hcl Z, X4 13 hS hcl Z, X4 14 hS hcl Z, J, X4 17 hS hcl Z, Vals.up 9 hvs Z Z Z, E⟩)
 refine Xk (fun S F k4 hS hbef hcl hI => ?_) ?_
 obtain ⟨G, O, V, d7, fw, fx, ad, ae, af, J, ac, hvs, E⟩ := hI
 exact Xd (o' := (r.th - 1).toNat * 8 + 7) K2 (Vals.at 9 hvs Z (Xp 9 hbef Z)) Z Z (Xc ⟨G, O, V, d7, fw, fx, X4 12 hS hcl Z, X4 13 hS hcl Z, X4 14 hS hcl Z, J, X4 17 hS hcl Z, Vals.up 10 hvs Z Z Z, E⟩)
 refine Xk (fun S F k5 hS hbef hcl hI => ?_) ?_
 obtain ⟨G, O, V, cj, fy, fz, ad, ae, af, J, ac, hvs, E⟩ := hI
 exact Xh (v := vi (mAt ms (r.th - 1).toNat).t.to) Xz (Vals.at 10 hvs Z (Xp 10 hbef Z)) ((Own.range Yp (aq.grown0 cj) (xg ms (r.th - 1).toNat)) 7 _ Z) Z (Xc ⟨G, O, V, cj, fy, fz, X4 12 hS hcl Z, X4 13 hS hcl Z, X4 14 hS hcl Z, J, X4 17 hS hcl Z, Vals.up 11 hvs Z Z Z, E⟩)
 refine Xk (fun S F k6 hS hbef hcl hI => ?_) ?_
 obtain ⟨G, O, V, av, f8, f9, ad, ae, af, J, ac, hvs, E⟩ := hI
 have kl : thingOk (⟨(mAt ms (r.th - 1).toNat).t.kind, (mAt ms (r.th - 1).toNat).t.lab, 0, 0, zeros4, [], (mAt ms (r.th - 1).toNat).t.to⟩ : Th) = true := (Wt ak).symm.trans c9
 refine Xm Ie (Xg (Vals.at 3 hvs Z (Xp 3 hbef Z)) (Xg (Vals.at 7 hvs Z (Xp 7 hbef Z)) (Xg (Vals.at 11 hvs Z (Xp 11 hbef Z)) Xl))) Z (Rn (mAt ms (r.th - 1).toNat).t.kind (mAt ms (r.th - 1).toNat).t.to (mAt ms (r.th - 1).toNat).t.lab ak c9 _) ?_
 rintro _ k7 ⟨e0, cy, rfl, al, dw, cc⟩
 have db := nt (KeepsI.low bd av).size al
 have bt := nl ((aq.grown0 av)).lt al
 have bm := nl (((hA.grown0 ap).grown0 av)).lt al
 exact Xc ⟨cy, e0, V, (low0 av cc), f8, f9, fun _ => ⟨Z, db, dw, bt, bm, (nt av.size al)⟩, X4 13 hS hcl Z, X4 14 hS hcl Z, fun h => let ⟨i6, i7, i8, i9, ja, jb⟩ := J h; ⟨i6, i7, fun hn => (i8 hn).grown0 cc, i9, ja, jb⟩, X4 17 hS hcl Z, Vals.keep hvs Z, fun _ h => let ⟨me, mf, jc, mg, mh, ml⟩ := J h; Nat.ne_of_gt (nl ((jc (Bool.eq_false_iff.2 fun h6 => X4 17 hS hcl Z h6))).lt al)⟩
 refine Xk (fun S F k8 hS hbef hcl hI => ?_) ?_
 obtain ⟨G, O, V, d8, ga, gb, ad, ae, af, J, ac, hvs, E⟩ := hI
 obtain ⟨gc, an, aj, ah, ag, am⟩ := ad (Xp 12 hbef rfl)
 exact Xb (v := .tuple #[.agg #[vi (mAt ms (r.th - 1).toNat).t.kind, vi (mAt ms (r.th - 1).toNat).t.lab.s, vi (mAt ms (r.th - 1).toNat).t.lab.v, vi 0, vi 0, .slice (pa O) 4 G, .slice none 0 0, vi (mAt ms (r.th - 1).toNat).t.to], vb true]) gc Z (Xc ⟨G, O, V, d8, ga, gb, ad, fun _ => Z, X4 14 hS hcl Z, J, X4 17 hS hcl Z, Vals.keep hvs Z, E⟩)
 refine Xk (fun S F k9 hS hbef hcl hI => ?_) ?_
 obtain ⟨G, O, V, d9, gf, gg, ad, ae, af, J, ac, hvs, E⟩ := hI
 obtain ⟨j9, an, aj, ah, ag, am⟩ := ad (Xp 12 hbef rfl)
 obtain gh := ae (Xp 13 hbef rfl)
 exact X1 (v := .agg #[vi (mAt ms (r.th - 1).toNat).t.kind, vi (mAt ms (r.th - 1).toNat).t.lab.s, vi (mAt ms (r.th - 1).toNat).t.lab.v, vi 0, vi 0, .slice (pa O) 4 G, .slice none 0 0, vi (mAt ms (r.th - 1).toNat).t.to]) gh Z Z (Xc ⟨G, O, V, d9, gf, gg, ad, ae, fun _ => Z, J, X4 17 hS hcl Z, Vals.keep hvs Z, E⟩)
 refine Xk (fun S F la hS hbef hcl hI => ?_) ?_
 obtain ⟨G, O, V, ea, gi, gj, ad, ae, af, J, ac, hvs, E⟩ := hI
 obtain ⟨ka, an, aj, ah, ag, am⟩ := ad (Xp 12 hbef rfl)
 obtain gk := ae (Xp 13 hbef rfl)
 exact X1 (v := vb true) gk Z Z (Xc ⟨G, O, V, ea, gi, gj, ad, ae, af, J, ac, Vals.up 12 hvs Z Z Z, E⟩)
 refine Xk (fun S F lc hS hbef hcl hI => ?_) ?_
 obtain ⟨G, O, V, aw, gl, gm, ad, ae, af, J, ac, hvs, E⟩ := hI
 refine Yf (cs := #[vi 0, vi 0, vi 0, vi 0, vi 0, .slice none 0 0, .slice none 0 0, vi 0]) K8 Z Z ?_
 intro fa ld ai
 have dc := V1 ai (KeepsI.low bd aw)
 have bu := Xr ai ((aq.grown0 aw)).lt
 have bn := Xr ai (((hA.grown0 ap).grown0 aw)).lt
 exact Xc ⟨G, O, fa, (low0 aw ai.grw), gl, gm, fun h => let ⟨jd, je, jf, jg, jh, ji⟩ := ad h; ⟨jd, je, (jf).grown0 ai.grw, jg, jh, ji⟩, ae, af, fun _ => ⟨Z, dc, fun _ => ai.blk, bu, bn, (nt aw.size (Nat.le_of_eq ai.eq.symm))⟩, X4 17 hS hcl Z, Vals.keep hvs Z, fun h _ => let ⟨mm, mn, jj, mo, mp, mq⟩ := ad h; Nat.ne_of_lt (nl (jj).lt (Nat.le_of_eq ai.eq.symm))⟩
 refine Xk (fun S F le hS hbef hcl hI => ?_) ?_
 obtain ⟨G, O, V, eb, gp, gq, ad, ae, af, J, ac, hvs, E⟩ := hI
 obtain ⟨kb, an, aj, ah, ag, am⟩ := ad (Xp 12 hbef rfl)
 obtain kc := ae (Xp 13 hbef rfl)
 obtain gr := af (Xp 14 hbef rfl)
 obtain ⟨gt, da, be, br, bl, cn⟩ := J (Xp 16 hbef rfl)
 have bb := E (Xp 12 hbef rfl) (Xp 16 hbef rfl)
 refine Xx (vs := [vi (mAt ms (r.th - 1).toNat).t.kind, vi (mAt ms (r.th - 1).toNat).t.lab.s, vi (mAt ms (r.th - 1).toNat).t.lab.v, vi 0, vi 0, .slice (pa O) 4 G, .slice none 0 0, vi (mAt ms (r.th - 1).toNat).t.to]) (cs' := #[vi (mAt ms (r.th - 1).toNat).t.kind, vi (mAt ms (r.th - 1).toNat).t.lab.s, vi (mAt ms (r.th - 1).toNat).t.lab.v, vi 0, vi 0, .slice (pa O) 4 G, .slice none 0 0, vi (mAt ms (r.th - 1).toNat).t.to]) Y4 gt gr Z (by simp [Value.oneCell']) (be hS) (Nat.le_of_ble_eq_true Z) Z ?_
 intro lf bg
 exact Xc ⟨G, O, V, (low1 eb bg.grw (by omega)), gp, gq, fun h => let ⟨jk, jl, jm, jo, jp, jq⟩ := ad h; ⟨jk, jl, (jm).grown bg.grw (Jz (E h (Xp 16 hbef Z))), jo, jp, jq⟩, ae, af, fun h => let ⟨jr, js, mr, jt, ju, jv⟩ := J h; ⟨jr, js, fun h => J7 h, jt, ju, jv⟩, fun _ => bg.blk, Vals.keep0 hvs Z, E⟩
 exact Je
 intro S F lg hall hI
 obtain ⟨G, O, V, bj, ke, dk, ad, ae, af, J, ac, hvs, E⟩ := hI
 obtain ⟨kf, an, aj, ah, ag, am⟩ := ad (hall 12 (by decide))
 obtain kg := ae (hall 13 (by decide))
 obtain kh := af (hall 14 (by decide))
 obtain ⟨dl, da, be, br, bl, cn⟩ := J (hall 16 (by decide))
 obtain a9 := ac (hall 17 (by decide))
 have bb := E (hall 12 (by decide)) (hall 16 (by decide))
 refine Xf (v := vb true) (Vals.at 12 hvs Z (hall 15 (by decide))) Z (Xc (Xv (Xs (Xa (Xb (v := vb true) Z Z (Yj (b' := false) Z Z Z (Xc (Qb Z Z (Xy (Xv (Xa (Xb (v := pt B ((r.th - 1).toNat * 8)) dk Z ?_))))))))))))
 refine Xu Z Z (Xd (o' := (r.th - 1).toNat * 8 + 3) Jj Z Z Z ?_)
 have dt := (aq.grown0 bj)
 refine Xh (v := vi (mAt ms (r.th - 1).toNat).t.ve) Xz Z ((Own.range Yp dt (xg ms (r.th - 1).toNat)) 3 _ Z) Z (Yv (c := (mAt ms (r.th - 1).toNat).t.ve + 1) Z Z (by omega) (by omega) (by omega) Z (Xd (o' := 3) Jj dl Z Z (Yg (v := vi ((mAt ms (r.th - 1).toNat).t.ve + 1)) (cs' := #[vi (mAt ms (r.th - 1).toNat).t.kind, vi (mAt ms (r.th - 1).toNat).t.lab.s, vi (mAt ms (r.th - 1).toNat).t.lab.v, vi ((mAt ms (r.th - 1).toNat).t.ve + 1), vi 0, .slice (pa O) 4 G, .slice none 0 0, vi (mAt ms (r.th - 1).toNat).t.to]) Xz Z Z Z a9 (Nat.le_of_ble_eq_true Z) Z ?_)))
 intro lh ar
 refine Xc (Xa (Xb (v := pt B ((r.th - 1).toNat * 8)) dk Z (Xq (vs := [vi (mAt ms (r.th - 1).toNat).t.kind, vi (mAt ms (r.th - 1).toNat).t.lab.s, vi (mAt ms (r.th - 1).toNat).t.lab.v, vi ((mAt ms (r.th - 1).toNat).t.ve + 1), vi 0, .slice (pa O) 4 G, .slice none 0 0, vi (mAt ms (r.th - 1).toNat).t.to]) Y4 dl Z (ar.blk.rangeL 0 8 Z) Z (Xu Z Z ?_))))
 have ct := (dt.gn ar.grw)
 refine Ja (g := MTh.cells) (z' := (⟨⟨(mAt ms (r.th - 1).toNat).t.kind, (mAt ms (r.th - 1).toNat).t.lab, (mAt ms (r.th - 1).toNat).t.ve + 1, 0, zeros4, [], (mAt ms (r.th - 1).toNat).t.to⟩, some ⟨O, 0, none⟩, G, none, 0⟩ : MTh)) Y4 Z Z (K3 _) Yp ct (by omega) Z ?_
 intro i4 dx bi
 have cz : RowsO 33 3 lo i4 (ms.set (r.th - 1).toNat (⟨⟨(mAt ms (r.th - 1).toNat).t.kind, (mAt ms (r.th - 1).toNat).t.lab, (mAt ms (r.th - 1).toNat).t.ve + 1, 0, zeros4, [], (mAt ms (r.th - 1).toNat).t.to⟩, some ⟨O, 0, none⟩, G, none, 0⟩ : MTh)) := RowsO.setn (RowsO.own (RowsO.typB (RowsO.low (RowsO.low hR ap) bj) ar.grw a9 (by decide) (by decide)) bi ct (by decide) (by decide)) (lq (r.th - 1).toNat ms.length) ⟨(OwnN.mono (OwnN.of ((aj.gn ar.grw).gn bi) an) hlow), OwnN.nil⟩ hH (fun S e => by first | (cases e; done) | (simp only [Option.some.injEq, Addr.mk.injEq, and_true, reduceCtorEq] at e; omega))
 refine Xc (Xa (Xf (v := vi 0) Z Z (Xc (Xt ?_))))
 have hf : far (tabT ms) q r = (tabT (ms.set (r.th - 1).toNat (⟨⟨(mAt ms (r.th - 1).toNat).t.kind, (mAt ms (r.th - 1).toNat).t.lab, (mAt ms (r.th - 1).toNat).t.ve + 1, 0, zeros4, [], (mAt ms (r.th - 1).toNat).t.to⟩, some ⟨O, 0, none⟩, G, none, 0⟩ : MTh)), 0) := T8 hq (by omega) (N6 ak)
 exact ⟨vi 0, Yx Z Z, ms.set (r.th - 1).toNat (⟨⟨(mAt ms (r.th - 1).toNat).t.kind, (mAt ms (r.th - 1).toNat).t.lab, (mAt ms (r.th - 1).toNat).t.ve + 1, 0, zeros4, [], (mAt ms (r.th - 1).toNat).t.to⟩, some ⟨O, 0, none⟩, G, none, 0⟩ : MTh), by rw [hf], by first | rfl | exact Yc | (simp only [List.length_set, Yc]), dx, cz, by rw [hf], (KeepsI.own (KeepsI.new (KeepsI.low bd bj) ar.grw (by omega)) bi ct (by decide) (by omega) (by omega))⟩
 have i1 := J3 ak
 have km := of_decide_eq_false i1
 have i2 := J4 ak
 have kn := of_decide_eq_false i2
 refine Xa (Xf (v := vi 0) Z Z (Xc (Xa (Xb (v := pt A 0) Z Z (Xm V0 (Xg Z Xl) Z (Kw q r B cap _ _ hB (by first | omega | (simp only [List.length_set, Yc]; omega)) A hA (by first | omega | (simp only [List.length_set, Yc]; omega))) ?_)))))
 rintro _ dv ⟨rfl, au⟩
 have bh := KeepsI.low i3 au
 refine Xf (v := pt B ((r.th - 1).toNat * 8)) Z Z (Xc (Xs (Xa (Xb (v := pt B ((r.th - 1).toNat * 8)) Z Z (Xu Z Z (Xd (o' := (r.th - 1).toNat * 8 + 3) Jj Z Z Z ?_))))))
 have a8 := (hB.grown0 au)
 refine Xh (v := vi (mAt ms (r.th - 1).toNat).t.ve) Xz Z ((Own.range Yp a8 (xg ms (r.th - 1).toNat)) 3 _ Z) Z (Ua (q := decide (5 ≤ (mAt ms (r.th - 1).toNat).t.ve)) Z Z Z Z (Xc (X2 Z (fun bz => ?_) (fun bz => ?_))))
 have ko := of_decide_eq_true bz
 refine Xa (Xf (v := vi (-4)) Z Z (Xc (Xt (Yo ?_))))
 have hf : far (tabT ms) q r = (tabT (ms), (-4)) := S9 hq (by omega)
 exact ⟨vi (-4), Yx Z Z, ms, by rw [hf], by first | rfl | exact Yc | (simp only [List.length_set, Yc]), a8, (RowsO.low hR au), by rw [hf], bh⟩
 have kp := of_decide_eq_false bz
 refine Xy (Xv (Xs (Q2 (m := 18) [[], [0], [0, 1], [0, 1, 2], [], [4], [4, 5], [4, 5, 6], [], [8], [8, 9], [8, 9, 10], [0, 1, 2, 3, 4, 5, 6, 7, 8, 9, 10, 11], [0, 1, 2, 3, 4, 5, 6, 7, 8, 9, 10, 11, 12], [0, 1, 2, 3, 4, 5, 6, 7, 8, 9, 10, 11, 12, 13], [0, 1, 2, 3, 4, 5, 6, 7, 8, 9, 10, 11, 12, 13], [], [0, 1, 2, 3, 4, 5, 6, 7, 8, 9, 10, 11, 12, 13, 14, 16], [0, 1, 2, 3, 4, 5, 6, 7, 8, 9, 10, 11, 12, 13, 14, 15, 16, 17]] (fun S F w' => ∃ (ab : Nat), dv.grownBy w' none ∧ F 2 = vi 0 ∧ F 3 = pt B ((r.th - 1).toNat * 8) ∧ (S 16 = true → F 4 = pt ab 0 ∧ w.heap.size ≤ ab ∧ (S 17 = false → Blk w' ab 39 #[vi 0, vi 0, vi 0, vi 0, vi 0, .slice none 0 0, .slice none 0 0, vi 0]) ∧ B < ab ∧ A < ab ∧ dv.heap.size ≤ ab) ∧ (S 17 = true → Blk w' ab 39 #[vi (mAt ms (r.th - 1).toNat).t.kind, vi (mAt ms (r.th - 1).toNat).t.lab.s, vi (mAt ms (r.th - 1).toNat).t.lab.v, vi 0, vi 0, .slice none 0 0, .slice none 0 0, vi (mAt ms (r.th - 1).toNat).t.to]) ∧ Vals S F [(0, 14, pt B ((r.th - 1).toNat * 8)), (1, 15, pt B ((r.th - 1).toNat * 8)), (2, 16, pt B ((r.th - 1).toNat * 8)), (3, 17, vi (mAt ms (r.th - 1).toNat).t.kind), (4, 18, pt B ((r.th - 1).toNat * 8)), (5, 19, pt B ((r.th - 1).toNat * 8)), (6, 20, pt B ((r.th - 1).toNat * 8 + 1)), (7, 21, .agg #[vi (mAt ms (r.th - 1).toNat).t.lab.s, vi (mAt ms (r.th - 1).toNat).t.lab.v]), (8, 22, pt B ((r.th - 1).toNat * 8)), (9, 23, pt B ((r.th - 1).toNat * 8)), (10, 24, pt B ((r.th - 1).toNat * 8 + 7)), (11, 25, vi (mAt ms (r.th - 1).toNat).t.to), (12, 26, .tuple #[.agg #[vi (mAt ms (r.th - 1).toNat).t.kind, vi (mAt ms (r.th - 1).toNat).t.lab.s, vi (mAt ms (r.th - 1).toNat).t.lab.v, vi 0, vi 0, .slice none 0 0, .slice none 0 0, vi (mAt ms (r.th - 1).toNat).t.to], vb true]), (13, 13, .tuple #[.agg #[vi (mAt ms (r.th - 1).toNat).t.kind, vi (mAt ms (r.th - 1).toNat).t.lab.s, vi (mAt ms (r.th - 1).toNat).t.lab.v, vi 0, vi 0, .slice none 0 0, .slice none 0 0, vi (mAt ms (r.th - 1).toNat).t.to], vb true]), (14, 27, .agg #[vi (mAt ms (r.th - 1).toNat).t.kind, vi (mAt ms (r.th - 1).toNat).t.lab.s, vi (mAt ms (r.th - 1).toNat).t.lab.v, vi 0, vi 0, .slice none 0 0, .slice none 0 0, vi (mAt ms (r.th - 1).toNat).t.to]), (15, 28, vb true)]) Y0 (by kernel_rfl) ⟨0, X7 _, Z, Z, Yy, Yy, Ka _⟩ ?_ ?_)))
 refine Xk (fun S F li hS hbef hcl hI => ?_) ?_
 obtain ⟨ab, ed, gu, dm, J, ac, hvs⟩ := hI
 exact Xb (v := pt B ((r.th - 1).toNat * 8)) dm Z (Xc ⟨ab, ed, gu, dm, J, X4 17 hS hcl Z, Vals.up 0 hvs Z Z Z⟩)
 refine Xk (fun S F lj hS hbef hcl hI => ?_) ?_
 obtain ⟨ab, ee, gv, gw, J, ac, hvs⟩ := hI
 exact Xu (Vals.at 0 hvs Z (Xp 0 hbef Z)) Z (Xc ⟨ab, ee, gv, gw, J, X4 17 hS hcl Z, Vals.up 1 hvs Z Z Z⟩)
 refine Xk (fun S F lk hS hbef hcl hI => ?_) ?_
 obtain ⟨ab, ef, gx, gy, J, ac, hvs⟩ := hI
 exact Xd (o' := (r.th - 1).toNat * 8) Y7 (Vals.at 1 hvs Z (Xp 1 hbef Z)) Z Z (Xc ⟨ab, ef, gx, gy, J, X4 17 hS hcl Z, Vals.up 2 hvs Z Z Z⟩)
 refine Xk (fun S F ll hS hbef hcl hI => ?_) ?_
 obtain ⟨ab, ck, gz, g0, J, ac, hvs⟩ := hI
 exact Xh (v := vi (mAt ms (r.th - 1).toNat).t.kind) Xz (Vals.at 2 hvs Z (Xp 2 hbef Z)) ((Own.range Yp (a8.grown0 ck) (xg ms (r.th - 1).toNat)) 0 _ Z) Z (Xc ⟨ab, ck, gz, g0, J, X4 17 hS hcl Z, Vals.up 3 hvs Z Z Z⟩)
 refine Xk (fun S F lm hS hbef hcl hI => ?_) ?_
 obtain ⟨ab, eg, g5, dn, J, ac, hvs⟩ := hI
 exact Xb (v := pt B ((r.th - 1).toNat * 8)) dn Z (Xc ⟨ab, eg, g5, dn, J, X4 17 hS hcl Z, Vals.up 4 hvs Z Z Z⟩)
 refine Xk (fun S F ln hS hbef hcl hI => ?_) ?_
 obtain ⟨ab, eh, g6, g7, J, ac, hvs⟩ := hI
 exact Xu (Vals.at 4 hvs Z (Xp 4 hbef Z)) Z (Xc ⟨ab, eh, g6, g7, J, X4 17 hS hcl Z, Vals.up 5 hvs Z Z Z⟩)
 refine Xk (fun S F lp hS hbef hcl hI => ?_) ?_
 obtain ⟨ab, ei, g8, g9, J, ac, hvs⟩ := hI
 exact Xd (o' := (r.th - 1).toNat * 8 + 1) J6 (Vals.at 5 hvs Z (Xp 5 hbef Z)) Z Z (Xc ⟨ab, ei, g8, g9, J, X4 17 hS hcl Z, Vals.up 6 hvs Z Z Z⟩)
 refine Xk (fun S F lu hS hbef hcl hI => ?_) ?_
 obtain ⟨ab, cl, ia, ib, J, ac, hvs⟩ := hI
 exact Xq (vs := [vi (mAt ms (r.th - 1).toNat).t.lab.s, vi (mAt ms (r.th - 1).toNat).t.lab.v]) J5 (Vals.at 6 hvs Z (Xp 6 hbef Z)) Z (Y3 (Own.range Yp (a8.grown0 cl) (xg ms (r.th - 1).toNat)) 1 2 Z) Z (Xc ⟨ab, cl, ia, ib, J, X4 17 hS hcl Z, Vals.up 7 hvs Z Z Z⟩)
 refine Xk (fun S F lv hS hbef hcl hI => ?_) ?_
 obtain ⟨ab, ej, ic, dp, J, ac, hvs⟩ := hI
 exact Xb (v := pt B ((r.th - 1).toNat * 8)) dp Z (Xc ⟨ab, ej, ic, dp, J, X4 17 hS hcl Z, Vals.up 8 hvs Z Z Z⟩)
 refine Xk (fun S F lw hS hbef hcl hI => ?_) ?_
 obtain ⟨ab, ek, ie, ig, J, ac, hvs⟩ := hI
 exact Xu (Vals.at 8 hvs Z (Xp 8 hbef Z)) Z (Xc ⟨ab, ek, ie, ig, J, X4 17 hS hcl Z, Vals.up 9 hvs Z Z Z⟩)
 refine Xk (fun S F ly hS hbef hcl hI => ?_) ?_
 obtain ⟨ab, em, ii, ij, J, ac, hvs⟩ := hI
 exact Xd (o' := (r.th - 1).toNat * 8 + 7) K2 (Vals.at 9 hvs Z (Xp 9 hbef Z)) Z Z (Xc ⟨ab, em, ii, ij, J, X4 17 hS hcl Z, Vals.up 10 hvs Z Z Z⟩)
 refine Xk (fun S F lz hS hbef hcl hI => ?_) ?_
 obtain ⟨ab, cm, ik, il, J, ac, hvs⟩ := hI
 exact Xh (v := vi (mAt ms (r.th - 1).toNat).t.to) Xz (Vals.at 10 hvs Z (Xp 10 hbef Z)) ((Own.range Yp (a8.grown0 cm) (xg ms (r.th - 1).toNat)) 7 _ Z) Z (Xc ⟨ab, cm, ik, il, J, X4 17 hS hcl Z, Vals.up 11 hvs Z Z Z⟩)
 refine Xk (fun S F l0 hS hbef hcl hI => ?_) ?_
 obtain ⟨ab, eo, im, io, J, ac, hvs⟩ := hI
 have kq : thingOk (⟨(mAt ms (r.th - 1).toNat).t.kind, (mAt ms (r.th - 1).toNat).t.lab, 0, 0, [], [], (mAt ms (r.th - 1).toNat).t.to⟩ : Th) = true := (V6 ak).symm.trans c9
 refine Xm Ie (Xg (Vals.at 3 hvs Z (Xp 3 hbef Z)) (Xg (Vals.at 7 hvs Z (Xp 7 hbef Z)) (Xg (Vals.at 11 hvs Z (Xp 11 hbef Z)) Xl))) Z (Rm (mAt ms (r.th - 1).toNat).t.kind (mAt ms (r.th - 1).toNat).t.to (mAt ms (r.th - 1).toNat).t.lab ak c9 _) ?_
 rintro _ l3 ⟨rfl, cd⟩
 exact Xc ⟨ab, (low0 eo cd), im, io, fun h => let ⟨jw, jx, jy, jz, j1, j2⟩ := J h; ⟨jw, jx, fun hn => (jy hn).grown0 cd, jz, j1, j2⟩, X4 17 hS hcl Z, Vals.up 12 hvs Z Z Z⟩
 refine Xk (fun S F l4 hS hbef hcl hI => ?_) ?_
 obtain ⟨ab, ep, ip, iq, J, ac, hvs⟩ := hI
 exact Xb (v := .tuple #[.agg #[vi (mAt ms (r.th - 1).toNat).t.kind, vi (mAt ms (r.th - 1).toNat).t.lab.s, vi (mAt ms (r.th - 1).toNat).t.lab.v, vi 0, vi 0, .slice none 0 0, .slice none 0 0, vi (mAt ms (r.th - 1).toNat).t.to], vb true]) (Vals.at 12 hvs Z (Xp 12 hbef Z)) Z (Xc ⟨ab, ep, ip, iq, J, X4 17 hS hcl Z, Vals.up 13 hvs Z Z Z⟩)
 refine Xk (fun S F l5 hS hbef hcl hI => ?_) ?_
 obtain ⟨ab, eu, ir, it, J, ac, hvs⟩ := hI
 exact X1 (v := .agg #[vi (mAt ms (r.th - 1).toNat).t.kind, vi (mAt ms (r.th - 1).toNat).t.lab.s, vi (mAt ms (r.th - 1).toNat).t.lab.v, vi 0, vi 0, .slice none 0 0, .slice none 0 0, vi (mAt ms (r.th - 1).toNat).t.to]) (Vals.at 13 hvs Z (Xp 13 hbef Z)) Z Z (Xc ⟨ab, eu, ir, it, J, X4 17 hS hcl Z, Vals.up 14 hvs Z Z Z⟩)
 refine Xk (fun S F l6 hS hbef hcl hI => ?_) ?_
 obtain ⟨ab, ew, iu, iv, J, ac, hvs⟩ := hI
 exact X1 (v := vb true) (Vals.at 13 hvs Z (Xp 13 hbef Z)) Z Z (Xc ⟨ab, ew, iu, iv, J, ac, Vals.up 15 hvs Z Z Z⟩)
 refine Xk (fun S F l7 hS hbef hcl hI => ?_) ?_
 obtain ⟨ab, az, iw, ix, J, ac, hvs⟩ := hI
 refine Yf (cs := #[vi 0, vi 0, vi 0, vi 0, vi 0, .slice none 0 0, .slice none 0 0, vi 0]) K8 Z Z ?_
 intro fb l8 ao
 have df := V1 ao (KeepsI.low bh az)
 have bw := Xr ao ((a8.grown0 az)).lt
 have bq := Xr ao (((hA.grown0 au).grown0 az)).lt
 exact Xc ⟨fb, (low0 az ao.grw), iw, ix, fun _ => ⟨Z, df, fun _ => ao.blk, bw, bq, (nt az.size (Nat.le_of_eq ao.eq.symm))⟩, X4 17 hS hcl Z, Vals.keep hvs Z⟩
 refine Xk (fun S F l9 hS hbef hcl hI => ?_) ?_
 obtain ⟨ab, ez, iy, iz, J, ac, hvs⟩ := hI
 obtain ⟨i0, de, bf, bv, bp, co⟩ := J (Xp 16 hbef rfl)
 refine Xx (vs := [vi (mAt ms (r.th - 1).toNat).t.kind, vi (mAt ms (r.th - 1).toNat).t.lab.s, vi (mAt ms (r.th - 1).toNat).t.lab.v, vi 0, vi 0, .slice none 0 0, .slice none 0 0, vi (mAt ms (r.th - 1).toNat).t.to]) (cs' := #[vi (mAt ms (r.th - 1).toNat).t.kind, vi (mAt ms (r.th - 1).toNat).t.lab.s, vi (mAt ms (r.th - 1).toNat).t.lab.v, vi 0, vi 0, .slice none 0 0, .slice none 0 0, vi (mAt ms (r.th - 1).toNat).t.to]) Y4 i0 (Vals.at 14 hvs Z (Xp 14 hbef Z)) Z (by simp [Value.oneCell']) (bf hS) (Nat.le_of_ble_eq_true Z) Z ?_
 intro ma ca
 exact Xc ⟨ab, (low1 ez ca.grw (by omega)), iy, iz, fun h => let ⟨j3, j4, mt, j5, j6, j7⟩ := J h; ⟨j3, j4, fun h => J7 h, j5, j6, j7⟩, fun _ => ca.blk, Vals.keep0 hvs Z⟩
 exact Je
 intro S F mb hall hI
 obtain ⟨ab, bk, ki, dq, J, ac, hvs⟩ := hI
 obtain ⟨dr, de, bf, bv, bp, co⟩ := J (hall 16 (by decide))
 obtain ba := ac (hall 17 (by decide))
 refine Xf (v := vb true) (Vals.at 15 hvs Z (hall 15 (by decide))) Z (Xc (Xv (Xs (Xa (Xb (v := vb true) Z Z (Yj (b' := false) Z Z Z (Xc (Qb Z Z (Xy (Xv (Xa (Xb (v := pt B ((r.th - 1).toNat * 8)) dq Z ?_))))))))))))
 refine Xu Z Z (Xd (o' := (r.th - 1).toNat * 8 + 3) Jj Z Z Z ?_)
 have du := (a8.grown0 bk)
 refine Xh (v := vi (mAt ms (r.th - 1).toNat).t.ve) Xz Z ((Own.range Yp du (xg ms (r.th - 1).toNat)) 3 _ Z) Z (Yv (c := (mAt ms (r.th - 1).toNat).t.ve + 1) Z Z (by omega) (by omega) (by omega) Z (Xd (o' := 3) Jj dr Z Z (Yg (v := vi ((mAt ms (r.th - 1).toNat).t.ve + 1)) (cs' := #[vi (mAt ms (r.th - 1).toNat).t.kind, vi (mAt ms (r.th - 1).toNat).t.lab.s, vi (mAt ms (r.th - 1).toNat).t.lab.v, vi ((mAt ms (r.th - 1).toNat).t.ve + 1), vi 0, .slice none 0 0, .slice none 0 0, vi (mAt ms (r.th - 1).toNat).t.to]) Xz Z Z Z ba (Nat.le_of_ble_eq_true Z) Z ?_)))
 intro mc bc
 refine Xc (Xa (Xb (v := pt B ((r.th - 1).toNat * 8)) dq Z (Xq (vs := [vi (mAt ms (r.th - 1).toNat).t.kind, vi (mAt ms (r.th - 1).toNat).t.lab.s, vi (mAt ms (r.th - 1).toNat).t.lab.v, vi ((mAt ms (r.th - 1).toNat).t.ve + 1), vi 0, .slice none 0 0, .slice none 0 0, vi (mAt ms (r.th - 1).toNat).t.to]) Y4 dr Z (bc.blk.rangeL 0 8 Z) Z (Xu Z Z ?_))))
 have cv := (du.gn bc.grw)
 refine Ja (g := MTh.cells) (z' := (⟨⟨(mAt ms (r.th - 1).toNat).t.kind, (mAt ms (r.th - 1).toNat).t.lab, (mAt ms (r.th - 1).toNat).t.ve + 1, 0, [], [], (mAt ms (r.th - 1).toNat).t.to⟩, none, 0, none, 0⟩ : MTh)) Y4 Z Z (K3 _) Yp cv (by omega) Z ?_
 intro i5 dy ce
 have c8 : RowsO 33 3 lo i5 (ms.set (r.th - 1).toNat (⟨⟨(mAt ms (r.th - 1).toNat).t.kind, (mAt ms (r.th - 1).toNat).t.lab, (mAt ms (r.th - 1).toNat).t.ve + 1, 0, [], [], (mAt ms (r.th - 1).toNat).t.to⟩, none, 0, none, 0⟩ : MTh)) := RowsO.setn (RowsO.own (RowsO.typB (RowsO.low (RowsO.low hR au) bk) bc.grw ba (by decide) (by decide)) ce cv (by decide) (by decide)) (lq (r.th - 1).toNat ms.length) ⟨OwnN.nil, OwnN.nil⟩ hH (fun S e => by first | (cases e; done) | (simp only [Option.some.injEq, Addr.mk.injEq, and_true, reduceCtorEq] at e; omega))
 refine Xc (Xa (Xf (v := vi 0) Z Z (Xc (Xt ?_))))
 have hf : far (tabT ms) q r = (tabT (ms.set (r.th - 1).toNat (⟨⟨(mAt ms (r.th - 1).toNat).t.kind, (mAt ms (r.th - 1).toNat).t.lab, (mAt ms (r.th - 1).toNat).t.ve + 1, 0, [], [], (mAt ms (r.th - 1).toNat).t.to⟩, none, 0, none, 0⟩ : MTh)), 0) := T8 hq (by omega) (N5 ak)
 exact ⟨vi 0, Yx Z Z, ms.set (r.th - 1).toNat (⟨⟨(mAt ms (r.th - 1).toNat).t.kind, (mAt ms (r.th - 1).toNat).t.lab, (mAt ms (r.th - 1).toNat).t.ve + 1, 0, [], [], (mAt ms (r.th - 1).toNat).t.to⟩, none, 0, none, 0⟩ : MTh), by rw [hf], by first | rfl | exact Yc | (simp only [List.length_set, Yc]), dy, c8, by rw [hf], (KeepsI.own (KeepsI.new (KeepsI.low bh bk) bc.grw (by omega)) ce cv (by decide) (by omega) (by omega))⟩
theorem Ol (q : Cl) (r : Rt) (lo B cap : Nat) (ms : List MTh) (w : World) (hB : Dw.Own w B 39 8 cap ms.length (ms.flatMap MTh.cells)) (hR : RowsO 33 3 lo w ms) (hlo : lo ≤ B) (hi : Nat) (hH : HiO hi ms) (hBlt : B < hi) (hhi : hi ≤ w.heap.size) (hF : FarOk (tabT ms) q r) (A : Nat) (hA : Blk w A 59 #[.slice (pa B) ms.length cap, vi q.kind, vi q.run, vi q.a, vi q.b, vi q.n, vi r.th, vi r.ve, vb r.rd, vb r.wr, vb r.wk]) (hAhi : hi ≤ A) (hq : decide (q.kind = 9) = true) : CallsR Tryz.prog 97 #[pt A 0] w (fun v w' => ∃ ms' : List MTh, v = vi (far (tabT ms) q r).2 ∧ ms'.length = ms.length ∧ Dw.Own w' B 39 8 cap ms'.length (ms'.flatMap MTh.cells) ∧ RowsO 33 3 lo w' ms' ∧ tabT ms' = (far (tabT ms) q r).1 ∧ KeepsI lo hi [39, 33, 3] w w') := by
 refine Xw (n := 32) Tryz.func97 Z Tryz.ntmps97 Z ?_
 have an : KeepsI lo hi [39, 33, 3] w w := KeepsI.refl w
 have hlow : lo ≤ w.heap.size := by omega
 have hT := hF.tab
 have hco := Yw hF.call
 have hkp := (Y5 hF.run).1
 have h4 := Qt hT hF.run
 have hth := hF.th
 rw [Qa] at hth
 have hml := Jk hT
 have hkd := Q5 hF.kind hco.1
 rw [← Qo] at hkd
 have hrow := Jt hT (i := (r.th - 1).toNat) (by omega)
 have hln := TabLen.ok hT _ (List.mem_of_getElem? (xg ms (r.th - 1).toNat))
 have hcp := hF.copy
 have hve := U2 hrow
 have ao := of_decide_eq_true hq
 have aj := Y5 (Hd hT (by rw [Qa]; omega) (by rw [← Qo]; omega))
 rw [← Qo] at aj
 have hqk := of_decide_eq_true hq
 have G : ¬ ((mAt ms (r.th - 1).toNat).t.to - 1).toNat = (r.th - 1).toNat := fun e => by have h := aj.2; rw [e] at h; omega
 refine Xa (Xf (v := vi 0) Z Z (Xc (Xa (Xb (v := pt A 0) Z Z (Xm V0 (Xg Z Xl) Z (Kw q r B cap _ _ hB (by first | omega | (simp only [List.length_set, Yc]; omega)) A hA (by first | omega | (simp only [List.length_set, Yc]; omega))) ?_)))))
 rintro _ ak ⟨rfl, E⟩
 refine Xf (v := pt B ((r.th - 1).toNat * 8)) Z Z (Xc (Xs (Yt (m := 15) (vals := [(6, pt A 0), (7, pt A 0), (8, pt A 0), (9, .slice (pa B) ms.length cap), (10, pt B ((r.th - 1).toNat * 8)), (11, pt B ((r.th - 1).toNat * 8)), (12, pt B ((r.th - 1).toNat * 8 + 7)), (13, vi (mAt ms (r.th - 1).toNat).t.to), (14, vi ((mAt ms (r.th - 1).toNat).t.to - 1)), (15, pt A 0), (16, pt A 0), (17, pt A 1), (18, pt A 5), (19, vi q.n), (20, vi (q.n % 2))]) (fun w' => ak.grownBy w' none) Y0 (by kernel_rfl) (X7 _) ?_ ?_)))
 refine yl Z (fun _ _ k => Xb (v := pt A 0) Z Z k) (yl Z (fun _ _ k => Xu Z Z k) (yl Z (fun _ _ k => Xd (o' := 0) Gr Z Z Z k) (yl Z (fun _ ag k => Xh (v := .slice (pa B) ms.length cap) U6 Z (((hA.grown0 E).grown0 ag).cell Z) Z k) (yl Z (fun _ _ k => Xb (v := pt B ((r.th - 1).toNat * 8)) Z Z k) (yl Z (fun _ _ k => Xu Z Z k) (yl Z (fun _ _ k => Xd (o' := (r.th - 1).toNat * 8 + 7) K2 Z Z Z k) (yl Z (fun _ ah k => Xh (v := vi (mAt ms (r.th - 1).toNat).t.to) Xz Z ((Own.range Yp ((hB.grown0 E).grown0 ah) (xg ms (r.th - 1).toNat)) 7 _ Z) Z k) (yl Z (fun _ _ k => Ym (c := (mAt ms (r.th - 1).toNat).t.to - 1) Z Z (by omega) (by omega) (by omega) Z k) (yl Z (fun _ _ k => Xb (v := pt A 0) Z Z k) (yl Z (fun _ _ k => Xu Z Z k) ?_))))))))))
 exact yl Z (fun _ _ k => Xd (o' := 1) Ky Z Z Z k) (yl Z (fun _ _ k => Xd (o' := 5) J1 Z Z Z k) (yl Z (fun _ ai k => Xh (v := vi q.n) Xz Z (((hA.grown0 E).grown0 ai).cell Z) Z k) (yl Z (fun _ _ k => Q4 (c := q.n % 2) Z Z (by omega) (by omega) (by omega) Z Z k) Y2)))
 intro ap O
 refine Ya (o' := ((mAt ms (r.th - 1).toNat).t.to - 1).toNat * 8) Y6 Z Z (by omega) (by omega) (by omega) Z (Xd (o' := ((mAt ms (r.th - 1).toNat).t.to - 1).toNat * 8 + 4) Q8 Z Z Z ?_)
 have ac := ((hB.grown0 E).grown0 O)
 refine Jh (g := MTh.cells) (j := 4) (z := (mAt ms ((mAt ms (r.th - 1).toNat).t.to - 1).toNat)) (z' := (⟨⟨(mAt ms ((mAt ms (r.th - 1).toNat).t.to - 1).toNat).t.kind, (mAt ms ((mAt ms (r.th - 1).toNat).t.to - 1).toNat).t.lab, (mAt ms ((mAt ms (r.th - 1).toNat).t.to - 1).toNat).t.ve, q.n % 2, (mAt ms ((mAt ms (r.th - 1).toNat).t.to - 1).toNat).t.slots, (mAt ms ((mAt ms (r.th - 1).toNat).t.to - 1).toNat).t.queue, (mAt ms ((mAt ms (r.th - 1).toNat).t.to - 1).toNat).t.to⟩, (mAt ms ((mAt ms (r.th - 1).toNat).t.to - 1).toNat).sa, (mAt ms ((mAt ms (r.th - 1).toNat).t.to - 1).toNat).sc, (mAt ms ((mAt ms (r.th - 1).toNat).t.to - 1).toNat).qa, (mAt ms ((mAt ms (r.th - 1).toNat).t.to - 1).toNat).qc⟩ : MTh)) (v := vi (q.n % 2)) Xz Z Z Z Yp ac (xg ms ((mAt ms (r.th - 1).toNat).t.to - 1).toNat) (by omega) Z Z ?_
 intro al J V
 have ad : RowsO 33 3 lo al (ms.set ((mAt ms (r.th - 1).toNat).t.to - 1).toNat (⟨⟨(mAt ms ((mAt ms (r.th - 1).toNat).t.to - 1).toNat).t.kind, (mAt ms ((mAt ms (r.th - 1).toNat).t.to - 1).toNat).t.lab, (mAt ms ((mAt ms (r.th - 1).toNat).t.to - 1).toNat).t.ve, q.n % 2, (mAt ms ((mAt ms (r.th - 1).toNat).t.to - 1).toNat).t.slots, (mAt ms ((mAt ms (r.th - 1).toNat).t.to - 1).toNat).t.queue, (mAt ms ((mAt ms (r.th - 1).toNat).t.to - 1).toNat).t.to⟩, (mAt ms ((mAt ms (r.th - 1).toNat).t.to - 1).toNat).sa, (mAt ms ((mAt ms (r.th - 1).toNat).t.to - 1).toNat).sc, (mAt ms ((mAt ms (r.th - 1).toNat).t.to - 1).toNat).qa, (mAt ms ((mAt ms (r.th - 1).toNat).t.to - 1).toNat).qc⟩ : MTh)) := RowsO.set (RowsO.own (RowsO.low (RowsO.low hR E) O) V ac (by decide) (by decide)) (lq ((mAt ms (r.th - 1).toNat).t.to - 1).toNat ms.length) ⟨rfl, rfl, rfl⟩ ⟨rfl, rfl, rfl⟩
 refine Xc (Xv (Xa (Xb (v := pt B ((r.th - 1).toNat * 8)) Z Z (Xb (v := pt B ((r.th - 1).toNat * 8)) Z Z (Xu Z Z (Xd (o' := (r.th - 1).toNat * 8 + 4) Q8 Z Z Z (Xh (v := vi (mAt ms (r.th - 1).toNat).t.num) Xz Z ((Own.range Yp J (G7 (lq (r.th - 1).toNat ms.length) G)) 4 _ Z) Z (Yv (c := (mAt ms (r.th - 1).toNat).t.num + 1) Z Z (by omega) (by omega) (by omega) Z (Rf (c := min ((mAt ms (r.th - 1).toNat).t.num + 1) 99) Z Z Z Z (Xu Z Z (Xd (o' := (r.th - 1).toNat * 8 + 4) Q8 Z Z Z (Jh (g := MTh.cells) (j := 4) (z := (mAt ms (r.th - 1).toNat)) (z' := (⟨⟨(mAt ms (r.th - 1).toNat).t.kind, (mAt ms (r.th - 1).toNat).t.lab, (mAt ms (r.th - 1).toNat).t.ve, min ((mAt ms (r.th - 1).toNat).t.num + 1) 99, (mAt ms (r.th - 1).toNat).t.slots, (mAt ms (r.th - 1).toNat).t.queue, (mAt ms (r.th - 1).toNat).t.to⟩, (mAt ms (r.th - 1).toNat).sa, (mAt ms (r.th - 1).toNat).sc, (mAt ms (r.th - 1).toNat).qa, (mAt ms (r.th - 1).toNat).qc⟩ : MTh)) (v := vi (min ((mAt ms (r.th - 1).toNat).t.num + 1) 99)) Xz Z Z Z Yp J (G7 (lq (r.th - 1).toNat ms.length) G) (by omega) Z Z ?_))))))))))))
 intro am af ab
 have ae : RowsO 33 3 lo am ((ms.set ((mAt ms (r.th - 1).toNat).t.to - 1).toNat (⟨⟨(mAt ms ((mAt ms (r.th - 1).toNat).t.to - 1).toNat).t.kind, (mAt ms ((mAt ms (r.th - 1).toNat).t.to - 1).toNat).t.lab, (mAt ms ((mAt ms (r.th - 1).toNat).t.to - 1).toNat).t.ve, q.n % 2, (mAt ms ((mAt ms (r.th - 1).toNat).t.to - 1).toNat).t.slots, (mAt ms ((mAt ms (r.th - 1).toNat).t.to - 1).toNat).t.queue, (mAt ms ((mAt ms (r.th - 1).toNat).t.to - 1).toNat).t.to⟩, (mAt ms ((mAt ms (r.th - 1).toNat).t.to - 1).toNat).sa, (mAt ms ((mAt ms (r.th - 1).toNat).t.to - 1).toNat).sc, (mAt ms ((mAt ms (r.th - 1).toNat).t.to - 1).toNat).qa, (mAt ms ((mAt ms (r.th - 1).toNat).t.to - 1).toNat).qc⟩ : MTh)).set (r.th - 1).toNat (⟨⟨(mAt ms (r.th - 1).toNat).t.kind, (mAt ms (r.th - 1).toNat).t.lab, (mAt ms (r.th - 1).toNat).t.ve, min ((mAt ms (r.th - 1).toNat).t.num + 1) 99, (mAt ms (r.th - 1).toNat).t.slots, (mAt ms (r.th - 1).toNat).t.queue, (mAt ms (r.th - 1).toNat).t.to⟩, (mAt ms (r.th - 1).toNat).sa, (mAt ms (r.th - 1).toNat).sc, (mAt ms (r.th - 1).toNat).qa, (mAt ms (r.th - 1).toNat).qc⟩ : MTh)) := RowsO.set (RowsO.own ad ab J (by decide) (by decide)) (show (r.th - 1).toNat < (ms.set ((mAt ms (r.th - 1).toNat).t.to - 1).toNat (⟨⟨(mAt ms ((mAt ms (r.th - 1).toNat).t.to - 1).toNat).t.kind, (mAt ms ((mAt ms (r.th - 1).toNat).t.to - 1).toNat).t.lab, (mAt ms ((mAt ms (r.th - 1).toNat).t.to - 1).toNat).t.ve, q.n % 2, (mAt ms ((mAt ms (r.th - 1).toNat).t.to - 1).toNat).t.slots, (mAt ms ((mAt ms (r.th - 1).toNat).t.to - 1).toNat).t.queue, (mAt ms ((mAt ms (r.th - 1).toNat).t.to - 1).toNat).t.to⟩, (mAt ms ((mAt ms (r.th - 1).toNat).t.to - 1).toNat).sa, (mAt ms ((mAt ms (r.th - 1).toNat).t.to - 1).toNat).sc, (mAt ms ((mAt ms (r.th - 1).toNat).t.to - 1).toNat).qa, (mAt ms ((mAt ms (r.th - 1).toNat).t.to - 1).toNat).qc⟩ : MTh)).length by (simp only [List.length_set, Yc]; omega)) ⟨Gu (f := MTh.qa) (lq (r.th - 1).toNat ms.length) G, Gu (f := MTh.qc) (lq (r.th - 1).toNat ms.length) G, Gu (f := (fun m => m.t.queue)) (lq (r.th - 1).toNat ms.length) G⟩ ⟨Gu (f := MTh.sa) (lq (r.th - 1).toNat ms.length) G, Gu (f := MTh.sc) (lq (r.th - 1).toNat ms.length) G, Gu (f := (fun m => m.t.slots)) (lq (r.th - 1).toNat ms.length) G⟩
 refine Xc (Xa (Xf (v := vi 0) Z Z (Xc (Xt ?_))))
 have hf : far (tabT ms) q r = (tabT ((ms.set ((mAt ms (r.th - 1).toNat).t.to - 1).toNat (⟨⟨(mAt ms ((mAt ms (r.th - 1).toNat).t.to - 1).toNat).t.kind, (mAt ms ((mAt ms (r.th - 1).toNat).t.to - 1).toNat).t.lab, (mAt ms ((mAt ms (r.th - 1).toNat).t.to - 1).toNat).t.ve, q.n % 2, (mAt ms ((mAt ms (r.th - 1).toNat).t.to - 1).toNat).t.slots, (mAt ms ((mAt ms (r.th - 1).toNat).t.to - 1).toNat).t.queue, (mAt ms ((mAt ms (r.th - 1).toNat).t.to - 1).toNat).t.to⟩, (mAt ms ((mAt ms (r.th - 1).toNat).t.to - 1).toNat).sa, (mAt ms ((mAt ms (r.th - 1).toNat).t.to - 1).toNat).sc, (mAt ms ((mAt ms (r.th - 1).toNat).t.to - 1).toNat).qa, (mAt ms ((mAt ms (r.th - 1).toNat).t.to - 1).toNat).qc⟩ : MTh)).set (r.th - 1).toNat (⟨⟨(mAt ms (r.th - 1).toNat).t.kind, (mAt ms (r.th - 1).toNat).t.lab, (mAt ms (r.th - 1).toNat).t.ve, min ((mAt ms (r.th - 1).toNat).t.num + 1) 99, (mAt ms (r.th - 1).toNat).t.slots, (mAt ms (r.th - 1).toNat).t.queue, (mAt ms (r.th - 1).toNat).t.to⟩, (mAt ms (r.th - 1).toNat).sa, (mAt ms (r.th - 1).toNat).sc, (mAt ms (r.th - 1).toNat).qa, (mAt ms (r.th - 1).toNat).qc⟩ : MTh)), 0) := Ic hq rfl rfl
 exact ⟨vi 0, Yx Z Z, (ms.set ((mAt ms (r.th - 1).toNat).t.to - 1).toNat (⟨⟨(mAt ms ((mAt ms (r.th - 1).toNat).t.to - 1).toNat).t.kind, (mAt ms ((mAt ms (r.th - 1).toNat).t.to - 1).toNat).t.lab, (mAt ms ((mAt ms (r.th - 1).toNat).t.to - 1).toNat).t.ve, q.n % 2, (mAt ms ((mAt ms (r.th - 1).toNat).t.to - 1).toNat).t.slots, (mAt ms ((mAt ms (r.th - 1).toNat).t.to - 1).toNat).t.queue, (mAt ms ((mAt ms (r.th - 1).toNat).t.to - 1).toNat).t.to⟩, (mAt ms ((mAt ms (r.th - 1).toNat).t.to - 1).toNat).sa, (mAt ms ((mAt ms (r.th - 1).toNat).t.to - 1).toNat).sc, (mAt ms ((mAt ms (r.th - 1).toNat).t.to - 1).toNat).qa, (mAt ms ((mAt ms (r.th - 1).toNat).t.to - 1).toNat).qc⟩ : MTh)).set (r.th - 1).toNat (⟨⟨(mAt ms (r.th - 1).toNat).t.kind, (mAt ms (r.th - 1).toNat).t.lab, (mAt ms (r.th - 1).toNat).t.ve, min ((mAt ms (r.th - 1).toNat).t.num + 1) 99, (mAt ms (r.th - 1).toNat).t.slots, (mAt ms (r.th - 1).toNat).t.queue, (mAt ms (r.th - 1).toNat).t.to⟩, (mAt ms (r.th - 1).toNat).sa, (mAt ms (r.th - 1).toNat).sc, (mAt ms (r.th - 1).toNat).qa, (mAt ms (r.th - 1).toNat).qc⟩ : MTh), by rw [hf], by first | rfl | exact Yc | (simp only [List.length_set, Yc]), af, ae, by rw [hf], (KeepsI.own (KeepsI.own (KeepsI.low (KeepsI.low an E) O) V ac (by decide) (by omega) (by omega)) ab J (by decide) (by omega) (by omega))⟩
end Go.Proofs.YtlhhijnmacogcaaGreatDoor
end
section
namespace Go.Proofs.YtlhhijnmacogcaaGreatDoor
open Go.RowKit Go.Dw
set_option maxRecDepth 100000
set_option maxHeartbeats 4000000
set_option linter.unusedSimpArgs false
set_option linter.unusedVariables false
theorem Vz : arrTy Tryz.prog 145 = some (3, 3, 1) := by kernel_rfl
theorem Kv : fieldOff Tryz.prog 147 0 = some 0 := by kernel_rfl
theorem J0 : fieldOff Tryz.prog 147 1 = some 3 := by kernel_rfl
theorem Q9 : fieldOff Tryz.prog 147 2 = some 4 := by kernel_rfl
theorem D0 (n : Int) (x y z : Int) (R : Nat) (w : World) (hR : Blk w R 147 #[vi x, vi y, vi z, vi 0, vi 0]) : CallsR Tryz.prog 109 #[pt R 0, vi n] w (fun v w' => v = vb true ∧ Blk w' R 147 #[vi n, vi y, vi z, vi 0, vi 1] ∧ w.grownBy w' (some R)) := by
 refine Xw (n := 32) Tryz.func109 Z Tryz.ntmps109 Z (Xa (Xf (v := vb false) Z Z (Xc (Xs (Xa (Xb (v := pt R 0) Z Z (Xu Z Z (Xd (o' := 4) Q9 Z Z Z (Xh (v := vi 0) Xz Z (hR.cell Z) Z (X3 (q := false) Z Z (by decide) Z (Xc (Qb Z Z ?_))))))))))))
 refine Xy (Xv (Xs (Yt (m := 14) (vals := [(10, pt R 0), (11, pt R 0), (12, pt R 0), (13, pt R 3), (14, vi 0), (15, pt R 0), (16, pt R 0), (17, pt R 4), (18, vi 0), (19, vi 0), (20, vi 0), (21, vi n), (22, pt R 0), (23, pt R 0)]) (fun w' => w.grownBy w' none) Y0 (by kernel_rfl) (X7 _) ?_ ?_)))
 refine yl Z (fun _ _ k => Xb (v := pt R 0) Z Z k) (yl Z (fun _ _ k => Xb (v := pt R 0) Z Z k) (yl Z (fun _ _ k => Xu Z Z k) (yl Z (fun _ _ k => Xd (o' := 3) J0 Z Z Z k) (yl Z (fun _ O k => Xh (v := vi 0) Xz Z ((hR.grown0 O).cell Z) Z k) (yl Z (fun _ _ k => Xb (v := pt R 0) Z Z k) (yl Z (fun _ _ k => Xu Z Z k) (yl Z (fun _ _ k => Xd (o' := 4) Q9 Z Z Z k) (yl Z (fun _ V k => Xh (v := vi 0) Xz Z ((hR.grown0 V).cell Z) Z k) (yl Z (fun _ _ k => Yv (c := 0) Z Z (by omega) (by omega) (by omega) Z k) (yl Z (fun _ _ k => Q4 (c := 0) Z Z (by omega) (by omega) (by omega) Z Z k) ?_))))))))))
 exact yl Z (fun _ _ k => Xb (v := vi n) Z Z k) (yl Z (fun _ _ k => Xu Z Z k) (yl Z (fun _ _ k => Xd (o' := 0) Kv Z Z Z k) Y2))
 intro ab J
 refine Qr (o' := 0) Vz Z Z (by decide) (by decide) Z Z (Yg (v := vi n) (cs' := #[vi n, vi y, vi z, vi 0, vi 0]) Xz Z Z Z (hR.grown0 J) (Nat.le_of_ble_eq_true Z) Z ?_)
 intro ac E
 refine Xc (Xv (Xa (Xb (v := pt R 0) Z Z (Xu Z Z (Xd (o' := 4) Q9 Z Z Z (Xh (v := vi 0) Xz Z (E.blk.cell Z) Z (Yv (c := 1) Z Z (by omega) (by omega) (by omega) Z (Xu Z Z (Xd (o' := 4) Q9 Z Z Z (Yg (v := vi 1) (cs' := #[vi n, vi y, vi z, vi 0, vi 1]) Xz Z Z Z E.blk (Nat.le_of_ble_eq_true Z) Z ?_))))))))))
 intro ad G
 exact Xc (Xa (Xf (v := vb true) Z Z (Xc (Xt (⟨vb true, Yx Z Z, Z, G.blk, (grown_trans (grown_trans (low0 (World.grownBy.refl w (some R)) J) E.grw) G.grw)⟩)))))
theorem Xav (x y z : Int) (R : Nat) (w : World) (hR : Blk w R 147 #[vi x, vi y, vi z, vi 0, vi 0]) : CallsR Tryz.prog 111 #[pt R 0] w (fun v w' => v = .tuple #[vi 0, vb false] ∧ Blk w' R 147 #[vi x, vi y, vi z, vi 0, vi 0] ∧ w.grownBy w' (some R)) := by
 refine Xw (n := 36) Tryz.func111 Z Tryz.ntmps111 Z (Xa (Xf (v := vi 0) Z Z (Xf (v := vb false) Z Z (Xc (Xs (Xa (Xb (v := pt R 0) Z Z (Xu Z Z (Xd (o' := 4) Q9 Z Z Z (Xh (v := vi 0) Xz Z (hR.cell Z) Z (X3 (q := true) Z Z (by decide) Z (Xc ?_))))))))))))
 exact Qe Z Z (Xa (Xf (v := vi 0) Z Z (Xf (v := vb false) Z Z (Xc (Xt (Yo (⟨.tuple #[vi 0, vb false], Hl Z Z Z, Z, hR, (World.grownBy.refl w (some R))⟩)))))))
theorem D1 (n : Int) (x y z : Int) (R : Nat) (w : World) (hR : Blk w R 147 #[vi x, vi y, vi z, vi 0, vi 1]) : CallsR Tryz.prog 109 #[pt R 0, vi n] w (fun v w' => v = vb true ∧ Blk w' R 147 #[vi x, vi n, vi z, vi 0, vi 2] ∧ w.grownBy w' (some R)) := by
 refine Xw (n := 32) Tryz.func109 Z Tryz.ntmps109 Z (Xa (Xf (v := vb false) Z Z (Xc (Xs (Xa (Xb (v := pt R 0) Z Z (Xu Z Z (Xd (o' := 4) Q9 Z Z Z (Xh (v := vi 1) Xz Z (hR.cell Z) Z (X3 (q := false) Z Z (by decide) Z (Xc (Qb Z Z ?_))))))))))))
 refine Xy (Xv (Xs (Yt (m := 14) (vals := [(10, pt R 0), (11, pt R 0), (12, pt R 0), (13, pt R 3), (14, vi 0), (15, pt R 0), (16, pt R 0), (17, pt R 4), (18, vi 1), (19, vi 1), (20, vi 1), (21, vi n), (22, pt R 0), (23, pt R 0)]) (fun w' => w.grownBy w' none) Y0 (by kernel_rfl) (X7 _) ?_ ?_)))
 refine yl Z (fun _ _ k => Xb (v := pt R 0) Z Z k) (yl Z (fun _ _ k => Xb (v := pt R 0) Z Z k) (yl Z (fun _ _ k => Xu Z Z k) (yl Z (fun _ _ k => Xd (o' := 3) J0 Z Z Z k) (yl Z (fun _ O k => Xh (v := vi 0) Xz Z ((hR.grown0 O).cell Z) Z k) (yl Z (fun _ _ k => Xb (v := pt R 0) Z Z k) (yl Z (fun _ _ k => Xu Z Z k) (yl Z (fun _ _ k => Xd (o' := 4) Q9 Z Z Z k) (yl Z (fun _ V k => Xh (v := vi 1) Xz Z ((hR.grown0 V).cell Z) Z k) (yl Z (fun _ _ k => Yv (c := 1) Z Z (by omega) (by omega) (by omega) Z k) (yl Z (fun _ _ k => Q4 (c := 1) Z Z (by omega) (by omega) (by omega) Z Z k) ?_))))))))))
 exact yl Z (fun _ _ k => Xb (v := vi n) Z Z k) (yl Z (fun _ _ k => Xu Z Z k) (yl Z (fun _ _ k => Xd (o' := 0) Kv Z Z Z k) Y2))
 intro ab J
 refine Qr (o' := 1) Vz Z Z (by decide) (by decide) Z Z (Yg (v := vi n) (cs' := #[vi x, vi n, vi z, vi 0, vi 1]) Xz Z Z Z (hR.grown0 J) (Nat.le_of_ble_eq_true Z) Z ?_)
 intro ac E
 refine Xc (Xv (Xa (Xb (v := pt R 0) Z Z (Xu Z Z (Xd (o' := 4) Q9 Z Z Z (Xh (v := vi 1) Xz Z (E.blk.cell Z) Z (Yv (c := 2) Z Z (by omega) (by omega) (by omega) Z (Xu Z Z (Xd (o' := 4) Q9 Z Z Z (Yg (v := vi 2) (cs' := #[vi x, vi n, vi z, vi 0, vi 2]) Xz Z Z Z E.blk (Nat.le_of_ble_eq_true Z) Z ?_))))))))))
 intro ad G
 exact Xc (Xa (Xf (v := vb true) Z Z (Xc (Xt (⟨vb true, Yx Z Z, Z, G.blk, (grown_trans (grown_trans (low0 (World.grownBy.refl w (some R)) J) E.grw) G.grw)⟩)))))
theorem Xaw (x y z : Int) (R : Nat) (w : World) (hR : Blk w R 147 #[vi x, vi y, vi z, vi 0, vi 1]) : CallsR Tryz.prog 111 #[pt R 0] w (fun v w' => v = .tuple #[vi x, vb true] ∧ Blk w' R 147 #[vi x, vi y, vi z, vi 1, vi 0] ∧ w.grownBy w' (some R)) := by
 refine Xw (n := 36) Tryz.func111 Z Tryz.ntmps111 Z (Xa (Xf (v := vi 0) Z Z (Xf (v := vb false) Z Z (Xc (Xs (Xa (Xb (v := pt R 0) Z Z (Xu Z Z (Xd (o' := 4) Q9 Z Z Z (Xh (v := vi 1) Xz Z (hR.cell Z) Z (X3 (q := false) Z Z (by decide) Z (Xc ?_))))))))))))
 refine Qb Z Z (Xy (Xv (Xs (Yt (m := 7) (vals := [(10, pt R 0), (11, pt R 0), (12, pt R 0), (13, pt R 3), (14, vi 0), (15, pt R 0), (16, pt R 0)]) (fun w' => w.grownBy w' none) Y0 (by kernel_rfl) (X7 _) ?_ ?_))))
 exact yl Z (fun _ _ k => Xb (v := pt R 0) Z Z k) (yl Z (fun _ _ k => Xb (v := pt R 0) Z Z k) (yl Z (fun _ _ k => Xu Z Z k) (yl Z (fun _ _ k => Xd (o' := 3) J0 Z Z Z k) (yl Z (fun _ V k => Xh (v := vi 0) Xz Z ((hR.grown0 V).cell Z) Z k) (yl Z (fun _ _ k => Xu Z Z k) (yl Z (fun _ _ k => Xd (o' := 0) Kv Z Z Z k) Y2))))))
 intro ab J
 refine Qr (o' := 0) Vz Z Z (by decide) (by decide) Z Z ?_
 have O := (hR.grown0 J)
 refine Xh (v := vi x) Xz Z (O.cell Z) Z (Xf (v := vi x) Z Z (Xc (Xv (Xa (Xb (v := pt R 0) Z Z (Xb (v := pt R 0) Z Z (Xu Z Z (Xd (o' := 3) J0 Z Z Z (Xh (v := vi 0) Xz Z (O.cell Z) Z (Yv (c := 1) Z Z (by omega) (by omega) (by omega) Z (Q4 (c := 1) Z Z (by omega) (by omega) (by omega) Z Z (Xu Z Z ?_))))))))))))
 refine Xd (o' := 3) J0 Z Z Z (Yg (v := vi 1) (cs' := #[vi x, vi y, vi z, vi 1, vi 1]) Xz Z Z Z O (Nat.le_of_ble_eq_true Z) Z ?_)
 intro ac E
 refine Xc (Xa (Xb (v := pt R 0) Z Z (Xu Z Z (Xd (o' := 4) Q9 Z Z Z (Xh (v := vi 1) Xz Z (E.blk.cell Z) Z (Ym (c := 0) Z Z (by omega) (by omega) (by omega) Z (Xu Z Z (Xd (o' := 4) Q9 Z Z Z (Yg (v := vi 0) (cs' := #[vi x, vi y, vi z, vi 1, vi 0]) Xz Z Z Z E.blk (Nat.le_of_ble_eq_true Z) Z ?_)))))))))
 intro ad G
 exact Xc (Xa (Xb (v := vi x) Z Z (Xf (v := vi x) Z Z (Xf (v := vb true) Z Z (Xc (Xt (⟨.tuple #[vi x, vb true], Hl Z Z Z, Z, G.blk, (grown_trans (grown_trans (low0 (World.grownBy.refl w (some R)) J) E.grw) G.grw)⟩)))))))
theorem D2 (n : Int) (x y z : Int) (R : Nat) (w : World) (hR : Blk w R 147 #[vi x, vi y, vi z, vi 0, vi 2]) : CallsR Tryz.prog 109 #[pt R 0, vi n] w (fun v w' => v = vb true ∧ Blk w' R 147 #[vi x, vi y, vi n, vi 0, vi 3] ∧ w.grownBy w' (some R)) := by
 refine Xw (n := 32) Tryz.func109 Z Tryz.ntmps109 Z (Xa (Xf (v := vb false) Z Z (Xc (Xs (Xa (Xb (v := pt R 0) Z Z (Xu Z Z (Xd (o' := 4) Q9 Z Z Z (Xh (v := vi 2) Xz Z (hR.cell Z) Z (X3 (q := false) Z Z (by decide) Z (Xc (Qb Z Z ?_))))))))))))
 refine Xy (Xv (Xs (Yt (m := 14) (vals := [(10, pt R 0), (11, pt R 0), (12, pt R 0), (13, pt R 3), (14, vi 0), (15, pt R 0), (16, pt R 0), (17, pt R 4), (18, vi 2), (19, vi 2), (20, vi 2), (21, vi n), (22, pt R 0), (23, pt R 0)]) (fun w' => w.grownBy w' none) Y0 (by kernel_rfl) (X7 _) ?_ ?_)))
 refine yl Z (fun _ _ k => Xb (v := pt R 0) Z Z k) (yl Z (fun _ _ k => Xb (v := pt R 0) Z Z k) (yl Z (fun _ _ k => Xu Z Z k) (yl Z (fun _ _ k => Xd (o' := 3) J0 Z Z Z k) (yl Z (fun _ O k => Xh (v := vi 0) Xz Z ((hR.grown0 O).cell Z) Z k) (yl Z (fun _ _ k => Xb (v := pt R 0) Z Z k) (yl Z (fun _ _ k => Xu Z Z k) (yl Z (fun _ _ k => Xd (o' := 4) Q9 Z Z Z k) (yl Z (fun _ V k => Xh (v := vi 2) Xz Z ((hR.grown0 V).cell Z) Z k) (yl Z (fun _ _ k => Yv (c := 2) Z Z (by omega) (by omega) (by omega) Z k) (yl Z (fun _ _ k => Q4 (c := 2) Z Z (by omega) (by omega) (by omega) Z Z k) ?_))))))))))
 exact yl Z (fun _ _ k => Xb (v := vi n) Z Z k) (yl Z (fun _ _ k => Xu Z Z k) (yl Z (fun _ _ k => Xd (o' := 0) Kv Z Z Z k) Y2))
 intro ab J
 refine Qr (o' := 2) Vz Z Z (by decide) (by decide) Z Z (Yg (v := vi n) (cs' := #[vi x, vi y, vi n, vi 0, vi 2]) Xz Z Z Z (hR.grown0 J) (Nat.le_of_ble_eq_true Z) Z ?_)
 intro ac E
 refine Xc (Xv (Xa (Xb (v := pt R 0) Z Z (Xu Z Z (Xd (o' := 4) Q9 Z Z Z (Xh (v := vi 2) Xz Z (E.blk.cell Z) Z (Yv (c := 3) Z Z (by omega) (by omega) (by omega) Z (Xu Z Z (Xd (o' := 4) Q9 Z Z Z (Yg (v := vi 3) (cs' := #[vi x, vi y, vi n, vi 0, vi 3]) Xz Z Z Z E.blk (Nat.le_of_ble_eq_true Z) Z ?_))))))))))
 intro ad G
 exact Xc (Xa (Xf (v := vb true) Z Z (Xc (Xt (⟨vb true, Yx Z Z, Z, G.blk, (grown_trans (grown_trans (low0 (World.grownBy.refl w (some R)) J) E.grw) G.grw)⟩)))))
theorem Xax (x y z : Int) (R : Nat) (w : World) (hR : Blk w R 147 #[vi x, vi y, vi z, vi 0, vi 2]) : CallsR Tryz.prog 111 #[pt R 0] w (fun v w' => v = .tuple #[vi x, vb true] ∧ Blk w' R 147 #[vi x, vi y, vi z, vi 1, vi 1] ∧ w.grownBy w' (some R)) := by
 refine Xw (n := 36) Tryz.func111 Z Tryz.ntmps111 Z (Xa (Xf (v := vi 0) Z Z (Xf (v := vb false) Z Z (Xc (Xs (Xa (Xb (v := pt R 0) Z Z (Xu Z Z (Xd (o' := 4) Q9 Z Z Z (Xh (v := vi 2) Xz Z (hR.cell Z) Z (X3 (q := false) Z Z (by decide) Z (Xc ?_))))))))))))
 refine Qb Z Z (Xy (Xv (Xs (Yt (m := 7) (vals := [(10, pt R 0), (11, pt R 0), (12, pt R 0), (13, pt R 3), (14, vi 0), (15, pt R 0), (16, pt R 0)]) (fun w' => w.grownBy w' none) Y0 (by kernel_rfl) (X7 _) ?_ ?_))))
 exact yl Z (fun _ _ k => Xb (v := pt R 0) Z Z k) (yl Z (fun _ _ k => Xb (v := pt R 0) Z Z k) (yl Z (fun _ _ k => Xu Z Z k) (yl Z (fun _ _ k => Xd (o' := 3) J0 Z Z Z k) (yl Z (fun _ V k => Xh (v := vi 0) Xz Z ((hR.grown0 V).cell Z) Z k) (yl Z (fun _ _ k => Xu Z Z k) (yl Z (fun _ _ k => Xd (o' := 0) Kv Z Z Z k) Y2))))))
 intro ab J
 refine Qr (o' := 0) Vz Z Z (by decide) (by decide) Z Z ?_
 have O := (hR.grown0 J)
 refine Xh (v := vi x) Xz Z (O.cell Z) Z (Xf (v := vi x) Z Z (Xc (Xv (Xa (Xb (v := pt R 0) Z Z (Xb (v := pt R 0) Z Z (Xu Z Z (Xd (o' := 3) J0 Z Z Z (Xh (v := vi 0) Xz Z (O.cell Z) Z (Yv (c := 1) Z Z (by omega) (by omega) (by omega) Z (Q4 (c := 1) Z Z (by omega) (by omega) (by omega) Z Z (Xu Z Z ?_))))))))))))
 refine Xd (o' := 3) J0 Z Z Z (Yg (v := vi 1) (cs' := #[vi x, vi y, vi z, vi 1, vi 2]) Xz Z Z Z O (Nat.le_of_ble_eq_true Z) Z ?_)
 intro ac E
 refine Xc (Xa (Xb (v := pt R 0) Z Z (Xu Z Z (Xd (o' := 4) Q9 Z Z Z (Xh (v := vi 2) Xz Z (E.blk.cell Z) Z (Ym (c := 1) Z Z (by omega) (by omega) (by omega) Z (Xu Z Z (Xd (o' := 4) Q9 Z Z Z (Yg (v := vi 1) (cs' := #[vi x, vi y, vi z, vi 1, vi 1]) Xz Z Z Z E.blk (Nat.le_of_ble_eq_true Z) Z ?_)))))))))
 intro ad G
 exact Xc (Xa (Xb (v := vi x) Z Z (Xf (v := vi x) Z Z (Xf (v := vb true) Z Z (Xc (Xt (⟨.tuple #[vi x, vb true], Hl Z Z Z, Z, G.blk, (grown_trans (grown_trans (low0 (World.grownBy.refl w (some R)) J) E.grw) G.grw)⟩)))))))
theorem Za (n : Int) (x y z : Int) (R : Nat) (w : World) (hR : Blk w R 147 #[vi x, vi y, vi z, vi 0, vi 3]) : CallsR Tryz.prog 109 #[pt R 0, vi n] w (fun v w' => v = vb false ∧ Blk w' R 147 #[vi x, vi y, vi z, vi 0, vi 3] ∧ w.grownBy w' (some R)) := by
 refine Xw (n := 32) Tryz.func109 Z Tryz.ntmps109 Z (Xa (Xf (v := vb false) Z Z (Xc (Xs (Xa (Xb (v := pt R 0) Z Z (Xu Z Z (Xd (o' := 4) Q9 Z Z Z (Xh (v := vi 3) Xz Z (hR.cell Z) Z (X3 (q := true) Z Z (by decide) Z (Xc (Qe Z Z ?_))))))))))))
 exact Xa (Xf (v := vb false) Z Z (Xc (Xt (Yo (⟨vb false, Yx Z Z, Z, hR, (World.grownBy.refl w (some R))⟩)))))
theorem Xay (x y z : Int) (R : Nat) (w : World) (hR : Blk w R 147 #[vi x, vi y, vi z, vi 0, vi 3]) : CallsR Tryz.prog 111 #[pt R 0] w (fun v w' => v = .tuple #[vi x, vb true] ∧ Blk w' R 147 #[vi x, vi y, vi z, vi 1, vi 2] ∧ w.grownBy w' (some R)) := by
 refine Xw (n := 36) Tryz.func111 Z Tryz.ntmps111 Z (Xa (Xf (v := vi 0) Z Z (Xf (v := vb false) Z Z (Xc (Xs (Xa (Xb (v := pt R 0) Z Z (Xu Z Z (Xd (o' := 4) Q9 Z Z Z (Xh (v := vi 3) Xz Z (hR.cell Z) Z (X3 (q := false) Z Z (by decide) Z (Xc ?_))))))))))))
 refine Qb Z Z (Xy (Xv (Xs (Yt (m := 7) (vals := [(10, pt R 0), (11, pt R 0), (12, pt R 0), (13, pt R 3), (14, vi 0), (15, pt R 0), (16, pt R 0)]) (fun w' => w.grownBy w' none) Y0 (by kernel_rfl) (X7 _) ?_ ?_))))
 exact yl Z (fun _ _ k => Xb (v := pt R 0) Z Z k) (yl Z (fun _ _ k => Xb (v := pt R 0) Z Z k) (yl Z (fun _ _ k => Xu Z Z k) (yl Z (fun _ _ k => Xd (o' := 3) J0 Z Z Z k) (yl Z (fun _ V k => Xh (v := vi 0) Xz Z ((hR.grown0 V).cell Z) Z k) (yl Z (fun _ _ k => Xu Z Z k) (yl Z (fun _ _ k => Xd (o' := 0) Kv Z Z Z k) Y2))))))
 intro ab J
 refine Qr (o' := 0) Vz Z Z (by decide) (by decide) Z Z ?_
 have O := (hR.grown0 J)
 refine Xh (v := vi x) Xz Z (O.cell Z) Z (Xf (v := vi x) Z Z (Xc (Xv (Xa (Xb (v := pt R 0) Z Z (Xb (v := pt R 0) Z Z (Xu Z Z (Xd (o' := 3) J0 Z Z Z (Xh (v := vi 0) Xz Z (O.cell Z) Z (Yv (c := 1) Z Z (by omega) (by omega) (by omega) Z (Q4 (c := 1) Z Z (by omega) (by omega) (by omega) Z Z (Xu Z Z ?_))))))))))))
 refine Xd (o' := 3) J0 Z Z Z (Yg (v := vi 1) (cs' := #[vi x, vi y, vi z, vi 1, vi 3]) Xz Z Z Z O (Nat.le_of_ble_eq_true Z) Z ?_)
 intro ac E
 refine Xc (Xa (Xb (v := pt R 0) Z Z (Xu Z Z (Xd (o' := 4) Q9 Z Z Z (Xh (v := vi 3) Xz Z (E.blk.cell Z) Z (Ym (c := 2) Z Z (by omega) (by omega) (by omega) Z (Xu Z Z (Xd (o' := 4) Q9 Z Z Z (Yg (v := vi 2) (cs' := #[vi x, vi y, vi z, vi 1, vi 2]) Xz Z Z Z E.blk (Nat.le_of_ble_eq_true Z) Z ?_)))))))))
 intro ad G
 exact Xc (Xa (Xb (v := vi x) Z Z (Xf (v := vi x) Z Z (Xf (v := vb true) Z Z (Xc (Xt (⟨.tuple #[vi x, vb true], Hl Z Z Z, Z, G.blk, (grown_trans (grown_trans (low0 (World.grownBy.refl w (some R)) J) E.grw) G.grw)⟩)))))))
theorem Fi (x y z : Int) (R : Nat) (w : World) (hR : Blk w R 147 #[vi x, vi y, vi z, vi 0, vi 1]) : CallsR Tryz.prog 110 #[pt R 0] w (fun v w' => ∃ (a : Option Addr) (c : Nat), v = .slice a 1 c ∧ OwnN w.heap.size w' a 3 1 c ([x] : List Int).length (([x] : List Int).flatMap icell) ∧ w.grownBy w' none) := by
 refine Xw (n := 29) Tryz.func110 Z Tryz.ntmps110 Z (Xa (Xf (v := .slice none 0 0) Z Z (Xc (Xa (Xf (v := .slice none 0 0) Z Z (Xc (Xs (Xa (Xb (v := pt R 0) Z Z (Xu Z Z (Xd (o' := 4) Q9 Z Z Z (Xh (v := vi 1) Xz Z (hR.cell Z) Z ?_))))))))))))
 refine Xb (v := vi 0) Z Z (Xc (Yh (Q0 (fun mm f' w' => ∃ (i : Int) (aq : Option Addr) (cq : Nat) (ys : List Int), mm = (1 - i : Int).toNat ∧ (0 ≤ i ∧ i ≤ 1) ∧ (ys.length : Int) = i ∧ ys = ([x] : List Int).take i.toNat ∧ OwnN w.heap.size w' aq 3 1 cq ys.length (ys.flatMap icell) ∧ f' 3 = .slice aq ys.length cq ∧ f' 9 = vi i ∧ f' 0 = pt R 0 ∧ f' 2 = .slice none 0 0 ∧ f' 8 = vi 1 ∧ w.grownBy w' none ∧ Blk w' R 147 #[vi x, vi y, vi z, vi 0, vi 1]) (1 - 0 : Int).toNat ⟨0, none, 0, ([] : List Int), Z, (by omega), Z, Z, OwnN.nil, Z, Z, Z, Z, Z, (World.grownBy.refl w none), hR⟩ ?_)))
 rintro mm fq az ⟨i, aq, cq, ys, fm, hi, hyl, hys, hOw, ap, af, bm, bn, ah, ab, ag⟩
 rcases (show i = 0 ∨ i = 1 by omega) with rfl | rfl
 refine Xa (Qg (q := true) af ah (by decide) Z (Xc (Xs (Qe Z Z (Xy (Xv (Xs (Yh (Xa (Xb (v := vi 0) af Z (Xf (v := vi 0) Z Z (Xc ?_))))))))))))
 refine Q2 (m := 14) [[], [], [], [2], [2, 3], [2, 3, 4], [], [2, 3, 4, 5, 6], [2, 3, 4, 5, 6, 7], [1], [1, 9], [1, 2, 3, 4, 5, 6, 7, 8, 9, 10], [1, 2, 3, 4, 5, 6, 7, 8, 9, 10, 11], [1, 2, 3, 4, 5, 6, 7, 8, 9, 10, 11, 12], [0, 1, 2, 3, 4, 5, 6, 7, 8, 9, 10, 11, 12, 13], [0, 1, 2, 3, 4, 5, 6, 7, 8, 9, 10, 11, 12, 13, 14]] (fun S F w' => ∃ (E : Nat), az.grownBy w' none ∧ F 0 = pt R 0 ∧ F 2 = .slice none 0 0 ∧ F 3 = .slice aq ys.length cq ∧ F 4 = vi 0 ∧ F 8 = vi 1 ∧ F 9 = vi 0 ∧ (S 13 = true → F 25 = .slice (pa E) 1 1 ∧ w.heap.size ≤ E ∧ Blk w' E 3 (([x] : List Int).flatMap icell).toArray ∧ R < E ∧ az.heap.size ≤ E) ∧ Vals S F [(0, 12, .slice aq ys.length cq), (1, 13, pt R 0), (2, 14, pt R 0), (3, 15, pt R 0), (4, 16, pt R 3), (5, 17, vi 0), (6, 18, vi 0), (7, 19, vi 0), (8, 20, vi 0), (9, 21, pt R 0), (10, 22, pt R 0), (11, 23, pt R 0), (12, 24, vi x)]) Y0 (by kernel_rfl) ⟨0, X7 _, bm, bn, ap, Z, ah, af, Yy, Ka _⟩ ?_ ?_
 refine Xk (fun S F fr hS hbef hcl hI => ?_) ?_
 obtain ⟨E, a9, bp, bq, ar, br, bt, bu, G, hvs⟩ := hI
 exact Xb (v := .slice aq ys.length cq) ar Z (Xc ⟨E, a9, bp, bq, ar, br, bt, bu, G, Vals.up 0 hvs Z Z Z⟩)
 refine Xk (fun S F ft hS hbef hcl hI => ?_) ?_
 obtain ⟨E, ba, au, bv, bw, bx, bz, ca, G, hvs⟩ := hI
 exact Xb (v := pt R 0) au Z (Xc ⟨E, ba, au, bv, bw, bx, bz, ca, X4 13 hS hcl Z, Vals.up 1 hvs Z Z Z⟩)
 refine Xk (fun S F fu hS hbef hcl hI => ?_) ?_
 obtain ⟨E, bb, av, cc, cd, ce, cf, cg, G, hvs⟩ := hI
 exact Xb (v := pt R 0) av Z (Xc ⟨E, bb, av, cc, cd, ce, cf, cg, X4 13 hS hcl Z, Vals.up 2 hvs Z Z Z⟩)
 refine Xk (fun S F fv hS hbef hcl hI => ?_) ?_
 obtain ⟨E, bc, cj, ck, cl, cm, cn, co, G, hvs⟩ := hI
 exact Xu (Vals.at 2 hvs Z (Xp 2 hbef Z)) Z (Xc ⟨E, bc, cj, ck, cl, cm, cn, co, X4 13 hS hcl Z, Vals.up 3 hvs Z Z Z⟩)
 refine Xk (fun S F fw hS hbef hcl hI => ?_) ?_
 obtain ⟨E, bd, ct, cv, cw, cy, cz, c8, G, hvs⟩ := hI
 exact Xd (o' := 3) J0 (Vals.at 3 hvs Z (Xp 3 hbef Z)) Z Z (Xc ⟨E, bd, ct, cv, cw, cy, cz, c8, X4 13 hS hcl Z, Vals.up 4 hvs Z Z Z⟩)
 refine Xk (fun S F fx hS hbef hcl hI => ?_) ?_
 obtain ⟨E, ak, c9, da, db, dc, de, df, G, hvs⟩ := hI
 exact Xh (v := vi 0) Xz (Vals.at 4 hvs Z (Xp 4 hbef Z)) ((ag.grown0 ak).cell Z) Z (Xc ⟨E, ak, c9, da, db, dc, de, df, X4 13 hS hcl Z, Vals.up 5 hvs Z Z Z⟩)
 refine Xk (fun S F fy hS hbef hcl hI => ?_) ?_
 obtain ⟨E, be, dg, dh, di, aw, dk, dl, G, hvs⟩ := hI
 exact Xb (v := vi 0) aw Z (Xc ⟨E, be, dg, dh, di, aw, dk, dl, X4 13 hS hcl Z, Vals.up 6 hvs Z Z Z⟩)
 refine Xk (fun S F fz hS hbef hcl hI => ?_) ?_
 obtain ⟨E, bf, dm, dn, dp, dq, dr, dt, G, hvs⟩ := hI
 exact Yv (c := 0) (Vals.at 5 hvs Z (Xp 5 hbef Z)) (Vals.at 6 hvs Z (Xp 6 hbef Z)) (by omega) (by omega) (by omega) Z (Xc ⟨E, bf, dm, dn, dp, dq, dr, dt, X4 13 hS hcl Z, Vals.up 7 hvs Z Z Z⟩)
 refine Xk (fun S F f8 hS hbef hcl hI => ?_) ?_
 obtain ⟨E, bg, du, dv, dw, dx, dy, dz, G, hvs⟩ := hI
 exact Q4 (c := 0) (Vals.at 7 hvs Z (Xp 7 hbef Z)) Z (by omega) (by omega) (by omega) Z Z (Xc ⟨E, bg, du, dv, dw, dx, dy, dz, X4 13 hS hcl Z, Vals.up 8 hvs Z Z Z⟩)
 refine Xk (fun S F f9 hS hbef hcl hI => ?_) ?_
 obtain ⟨E, bh, d0, d1, d2, d3, d4, d5, G, hvs⟩ := hI
 exact Xu (Vals.at 1 hvs Z (Xp 1 hbef Z)) Z (Xc ⟨E, bh, d0, d1, d2, d3, d4, d5, X4 13 hS hcl Z, Vals.up 9 hvs Z Z Z⟩)
 refine Xk (fun S F ga hS hbef hcl hI => ?_) ?_
 obtain ⟨E, bi, d6, d7, d8, d9, ea, eb, G, hvs⟩ := hI
 exact Xd (o' := 0) Kv (Vals.at 9 hvs Z (Xp 9 hbef Z)) Z Z (Xc ⟨E, bi, d6, d7, d8, d9, ea, eb, X4 13 hS hcl Z, Vals.up 10 hvs Z Z Z⟩)
 refine Xk (fun S F gb hS hbef hcl hI => ?_) ?_
 obtain ⟨E, bj, ed, ee, ef, eg, eh, ei, G, hvs⟩ := hI
 exact Qr (o' := 0) Vz (Vals.at 10 hvs Z (Xp 10 hbef Z)) (Vals.at 8 hvs Z (Xp 8 hbef Z)) (by decide) (by decide) Z Z (Xc ⟨E, bj, ed, ee, ef, eg, eh, ei, X4 13 hS hcl Z, Vals.up 11 hvs Z Z Z⟩)
 refine Xk (fun S F gc hS hbef hcl hI => ?_) ?_
 obtain ⟨E, al, ej, ek, em, eo, ep, eu, G, hvs⟩ := hI
 exact Xh (v := vi x) Xz (Vals.at 11 hvs Z (Xp 11 hbef Z)) ((ag.grown0 al).cell Z) Z (Xc ⟨E, al, ej, ek, em, eo, ep, eu, X4 13 hS hcl Z, Vals.up 12 hvs Z Z Z⟩)
 refine Xk (fun S F gf hS hbef hcl hI => ?_) ?_
 obtain ⟨E, O, ew, ez, e0, fa, fb, fc, G, hvs⟩ := hI
 refine X9 (ps := [(0, vi x)]) (e := 3) (cs := (([x] : List Int).flatMap icell).toArray) (Xj (Vals.at 12 hvs Z (Xp 12 hbef Z)) X5) (fun _ => by kernel_rfl) Z ?_
 intro bl gg J
 have an := Yi J (low0 ab O)
 have ad := Xr J ((ag.grown0 O)).lt
 exact Xc ⟨bl, (low0 O J.grw), ew, ez, e0, fa, fb, fc, fun _ => ⟨Z, an, J.blk, ad, (nt O.size (Nat.le_of_eq J.eq.symm))⟩, Vals.keep hvs Z⟩
 exact Je
 intro S F gh hall hI
 obtain ⟨E, ac, fd, fe, fo, fp, ff, fg, G, hvs⟩ := hI
 have ai := low0 ab ac
 obtain ⟨fh, fj, am, bk, fi⟩ := G (hall 13 (by decide))
 have V := (hOw.grown0 ac)
 refine Jp (g := icell) (ys := ys) (zs := ([x] : List Int)) (lo := w.heap.size) Uk Z Yu (by omega) Ke (Vals.at 0 hvs Z (hall 0 (by decide))) fh V (Jy Yu am) (fun h => by cases h) (by first | omega | exact Nat.le_of_ble_eq_true rfl | (simp only [List.length_nil, List.length_cons, List.length_append, List.length_replicate]; omega)) (by omega) (by first | exact ai.size | omega) Z ?_
 intro ao ae gi a8 aj fk
 exact Xf (v := .slice ao (ys ++ ([x] : List Int)).length ae) Z Z (Xc (Qc (Xv (X6 (Yv (c := 1) fg Z (by omega) (by omega) (by omega) Z (Xb (v := vi 1) Z Z (Xc (Xv (⟨(1 - 1 : Int).toNat, by omega, 1, ao, ae, (ys ++ ([x] : List Int)), Z, (by omega), (by first | omega | (simp only [List.length_append, List.length_cons, List.length_nil]; omega)), (by rw [hys]; rfl), a8, Z, Z, fd, fe, ff, (Px ai V aj (by omega)), (Blk.typN (ag.grown0 ac) V aj (by decide))⟩)))))))))
 refine Xa (Qg (q := false) af ah (by decide) Z (Xc (Xs (Qb Z Z (Qp (Ql (Ql (Jv (Xv (Xa (Xb (v := .slice aq ys.length cq) ap Z (Xf (v := .slice aq ys.length cq) Z Z ?_))))))))))))
 refine Xc (Xt ?_)
 have hyz : ys = ([x] : List Int) := hys
 subst hyz
 exact ⟨.slice aq ([x] : List Int).length cq, Yx Z Z, aq, cq, Z, hOw, ab⟩
theorem Fj (x y z : Int) (R : Nat) (w : World) (hR : Blk w R 147 #[vi x, vi y, vi z, vi 0, vi 2]) : CallsR Tryz.prog 110 #[pt R 0] w (fun v w' => ∃ (a : Option Addr) (c : Nat), v = .slice a 2 c ∧ OwnN w.heap.size w' a 3 1 c ([x, y] : List Int).length (([x, y] : List Int).flatMap icell) ∧ w.grownBy w' none) := by
 refine Xw (n := 29) Tryz.func110 Z Tryz.ntmps110 Z (Xa (Xf (v := .slice none 0 0) Z Z (Xc (Xa (Xf (v := .slice none 0 0) Z Z (Xc (Xs (Xa (Xb (v := pt R 0) Z Z (Xu Z Z (Xd (o' := 4) Q9 Z Z Z (Xh (v := vi 2) Xz Z (hR.cell Z) Z ?_))))))))))))
 refine Xb (v := vi 0) Z Z (Xc (Yh (Q0 (fun mm f' w' => ∃ (i : Int) (aq : Option Addr) (cq : Nat) (ys : List Int), mm = (2 - i : Int).toNat ∧ (0 ≤ i ∧ i ≤ 2) ∧ (ys.length : Int) = i ∧ ys = ([x, y] : List Int).take i.toNat ∧ OwnN w.heap.size w' aq 3 1 cq ys.length (ys.flatMap icell) ∧ f' 3 = .slice aq ys.length cq ∧ f' 9 = vi i ∧ f' 0 = pt R 0 ∧ f' 2 = .slice none 0 0 ∧ f' 8 = vi 2 ∧ w.grownBy w' none ∧ Blk w' R 147 #[vi x, vi y, vi z, vi 0, vi 2]) (2 - 0 : Int).toNat ⟨0, none, 0, ([] : List Int), Z, (by omega), Z, Z, OwnN.nil, Z, Z, Z, Z, Z, (World.grownBy.refl w none), hR⟩ ?_)))
 rintro mm ku ap ⟨i, aq, cq, ys, kp, hi, hyl, hys, hOw, ar, V, bi, bj, ag, ad, O⟩
 rcases (show i = 0 ∨ i = 1 ∨ i = 2 by omega) with rfl | rfl | rfl
 refine Xa (Qg (q := true) V ag (by decide) Z (Xc (Xs (Qe Z Z (Xy (Xv (Xs (Yh (Xa (Xb (v := vi 0) V Z (Xf (v := vi 0) Z Z (Xc ?_))))))))))))
 refine Q2 (m := 14) [[], [], [], [2], [2, 3], [2, 3, 4], [], [2, 3, 4, 5, 6], [2, 3, 4, 5, 6, 7], [1], [1, 9], [1, 2, 3, 4, 5, 6, 7, 8, 9, 10], [1, 2, 3, 4, 5, 6, 7, 8, 9, 10, 11], [1, 2, 3, 4, 5, 6, 7, 8, 9, 10, 11, 12], [0, 1, 2, 3, 4, 5, 6, 7, 8, 9, 10, 11, 12, 13], [0, 1, 2, 3, 4, 5, 6, 7, 8, 9, 10, 11, 12, 13, 14]] (fun S F w' => ∃ (E : Nat), ap.grownBy w' none ∧ F 0 = pt R 0 ∧ F 2 = .slice none 0 0 ∧ F 3 = .slice aq ys.length cq ∧ F 4 = vi 0 ∧ F 8 = vi 2 ∧ F 9 = vi 0 ∧ (S 13 = true → F 25 = .slice (pa E) 1 1 ∧ w.heap.size ≤ E ∧ Blk w' E 3 (([x] : List Int).flatMap icell).toArray ∧ R < E ∧ ap.heap.size ≤ E) ∧ Vals S F [(0, 12, .slice aq ys.length cq), (1, 13, pt R 0), (2, 14, pt R 0), (3, 15, pt R 0), (4, 16, pt R 3), (5, 17, vi 0), (6, 18, vi 0), (7, 19, vi 0), (8, 20, vi 0), (9, 21, pt R 0), (10, 22, pt R 0), (11, 23, pt R 0), (12, 24, vi x)]) Y0 (by kernel_rfl) ⟨0, X7 _, bi, bj, ar, Z, ag, V, Yy, Ka _⟩ ?_ ?_
 refine Xk (fun S F kv hS hbef hcl hI => ?_) ?_
 obtain ⟨E, bw, df, dg, bk, dh, di, dk, J, hvs⟩ := hI
 exact Xb (v := .slice aq ys.length cq) bk Z (Xc ⟨E, bw, df, dg, bk, dh, di, dk, J, Vals.up 0 hvs Z Z Z⟩)
 refine Xk (fun S F kw hS hbef hcl hI => ?_) ?_
 obtain ⟨E, bx, bl, dl, dm, dn, dp, dq, J, hvs⟩ := hI
 exact Xb (v := pt R 0) bl Z (Xc ⟨E, bx, bl, dl, dm, dn, dp, dq, X4 13 hS hcl Z, Vals.up 1 hvs Z Z Z⟩)
 refine Xk (fun S F kx hS hbef hcl hI => ?_) ?_
 obtain ⟨E, bz, bm, dr, dt, du, dv, dw, J, hvs⟩ := hI
 exact Xb (v := pt R 0) bm Z (Xc ⟨E, bz, bm, dr, dt, du, dv, dw, X4 13 hS hcl Z, Vals.up 2 hvs Z Z Z⟩)
 refine Xk (fun S F ky hS hbef hcl hI => ?_) ?_
 obtain ⟨E, ca, dx, dy, dz, d0, d1, d2, J, hvs⟩ := hI
 exact Xu (Vals.at 2 hvs Z (Xp 2 hbef Z)) Z (Xc ⟨E, ca, dx, dy, dz, d0, d1, d2, X4 13 hS hcl Z, Vals.up 3 hvs Z Z Z⟩)
 refine Xk (fun S F kz hS hbef hcl hI => ?_) ?_
 obtain ⟨E, cc, d3, d4, d5, d6, d7, d8, J, hvs⟩ := hI
 exact Xd (o' := 3) J0 (Vals.at 3 hvs Z (Xp 3 hbef Z)) Z Z (Xc ⟨E, cc, d3, d4, d5, d6, d7, d8, X4 13 hS hcl Z, Vals.up 4 hvs Z Z Z⟩)
 refine Xk (fun S F k0 hS hbef hcl hI => ?_) ?_
 obtain ⟨E, a8, d9, ea, eb, ed, ee, ef, J, hvs⟩ := hI
 exact Xh (v := vi 0) Xz (Vals.at 4 hvs Z (Xp 4 hbef Z)) ((O.grown0 a8).cell Z) Z (Xc ⟨E, a8, d9, ea, eb, ed, ee, ef, X4 13 hS hcl Z, Vals.up 5 hvs Z Z Z⟩)
 refine Xk (fun S F k4 hS hbef hcl hI => ?_) ?_
 obtain ⟨E, cd, eg, eh, ei, bn, ej, ek, J, hvs⟩ := hI
 exact Xb (v := vi 0) bn Z (Xc ⟨E, cd, eg, eh, ei, bn, ej, ek, X4 13 hS hcl Z, Vals.up 6 hvs Z Z Z⟩)
 refine Xk (fun S F k5 hS hbef hcl hI => ?_) ?_
 obtain ⟨E, ce, em, eo, ep, eu, ew, ez, J, hvs⟩ := hI
 exact Yv (c := 0) (Vals.at 5 hvs Z (Xp 5 hbef Z)) (Vals.at 6 hvs Z (Xp 6 hbef Z)) (by omega) (by omega) (by omega) Z (Xc ⟨E, ce, em, eo, ep, eu, ew, ez, X4 13 hS hcl Z, Vals.up 7 hvs Z Z Z⟩)
 refine Xk (fun S F k6 hS hbef hcl hI => ?_) ?_
 obtain ⟨E, cf, e0, fa, fb, fc, fd, fe, J, hvs⟩ := hI
 exact Q4 (c := 0) (Vals.at 7 hvs Z (Xp 7 hbef Z)) Z (by omega) (by omega) (by omega) Z Z (Xc ⟨E, cf, e0, fa, fb, fc, fd, fe, X4 13 hS hcl Z, Vals.up 8 hvs Z Z Z⟩)
 refine Xk (fun S F k7 hS hbef hcl hI => ?_) ?_
 obtain ⟨E, cg, ff, fg, fh, fi, fj, fk, J, hvs⟩ := hI
 exact Xu (Vals.at 1 hvs Z (Xp 1 hbef Z)) Z (Xc ⟨E, cg, ff, fg, fh, fi, fj, fk, X4 13 hS hcl Z, Vals.up 9 hvs Z Z Z⟩)
 refine Xk (fun S F k8 hS hbef hcl hI => ?_) ?_
 obtain ⟨E, cj, fm, fo, fp, fq, fr, ft, J, hvs⟩ := hI
 exact Xd (o' := 0) Kv (Vals.at 9 hvs Z (Xp 9 hbef Z)) Z Z (Xc ⟨E, cj, fm, fo, fp, fq, fr, ft, X4 13 hS hcl Z, Vals.up 10 hvs Z Z Z⟩)
 refine Xk (fun S F k9 hS hbef hcl hI => ?_) ?_
 obtain ⟨E, ck, fu, fv, fw, fx, fy, fz, J, hvs⟩ := hI
 exact Qr (o' := 0) Vz (Vals.at 10 hvs Z (Xp 10 hbef Z)) (Vals.at 8 hvs Z (Xp 8 hbef Z)) (by decide) (by decide) Z Z (Xc ⟨E, ck, fu, fv, fw, fx, fy, fz, X4 13 hS hcl Z, Vals.up 11 hvs Z Z Z⟩)
 refine Xk (fun S F la hS hbef hcl hI => ?_) ?_
 obtain ⟨E, a9, f8, f9, ga, gb, gc, gf, J, hvs⟩ := hI
 exact Xh (v := vi x) Xz (Vals.at 11 hvs Z (Xp 11 hbef Z)) ((O.grown0 a9).cell Z) Z (Xc ⟨E, a9, f8, f9, ga, gb, gc, gf, X4 13 hS hcl Z, Vals.up 12 hvs Z Z Z⟩)
 refine Xk (fun S F lc hS hbef hcl hI => ?_) ?_
 obtain ⟨E, ae, gg, gh, gi, gj, gk, gl, J, hvs⟩ := hI
 refine X9 (ps := [(0, vi x)]) (e := 3) (cs := (([x] : List Int).flatMap icell).toArray) (Xj (Vals.at 12 hvs Z (Xp 12 hbef Z)) X5) (fun _ => by kernel_rfl) Z ?_
 intro dc ld ab
 have be := Yi ab (low0 ad ae)
 have al := Xr ab ((O.grown0 ae)).lt
 exact Xc ⟨dc, (low0 ae ab.grw), gg, gh, gi, gj, gk, gl, fun _ => ⟨Z, be, ab.blk, al, (nt ae.size (Nat.le_of_eq ab.eq.symm))⟩, Vals.keep hvs Z⟩
 exact Je
 intro S F le hall hI
 obtain ⟨E, aj, gm, gp, kq, kr, gq, gr, J, hvs⟩ := hI
 have au := low0 ad aj
 obtain ⟨gt, kl, bc, da, kj⟩ := J (hall 13 (by decide))
 have ah := (hOw.grown0 aj)
 refine Jp (g := icell) (ys := ys) (zs := ([x] : List Int)) (lo := w.heap.size) Uk Z Yu (by omega) Ke (Vals.at 0 hvs Z (hall 0 (by decide))) gt ah (Jy Yu bc) (fun h => by cases h) (by first | omega | exact Nat.le_of_ble_eq_true rfl | (simp only [List.length_nil, List.length_cons, List.length_append, List.length_replicate]; omega)) (by omega) (by first | exact au.size | omega) Z ?_
 intro bg an lf bu aw kn
 exact Xf (v := .slice bg (ys ++ ([x] : List Int)).length an) Z Z (Xc (Qc (Xv (X6 (Yv (c := 1) gr Z (by omega) (by omega) (by omega) Z (Xb (v := vi 1) Z Z (Xc (Xv (⟨(2 - 1 : Int).toNat, by omega, 1, bg, an, (ys ++ ([x] : List Int)), Z, (by omega), (by first | omega | (simp only [List.length_append, List.length_cons, List.length_nil]; omega)), (by rw [hys]; rfl), bu, Z, Z, gm, gp, gq, (Px au ah aw (by omega)), (Blk.typN (O.grown0 aj) ah aw (by decide))⟩)))))))))
 refine Xa (Qg (q := true) V ag (by decide) Z (Xc (Xs (Qe Z Z (Xy (Xv (Xs (Yh (Xa (Xb (v := vi 1) V Z (Xf (v := vi 1) Z Z (Xc ?_))))))))))))
 refine Q2 (m := 14) [[], [], [], [2], [2, 3], [2, 3, 4], [], [2, 3, 4, 5, 6], [2, 3, 4, 5, 6, 7], [1], [1, 9], [1, 2, 3, 4, 5, 6, 7, 8, 9, 10], [1, 2, 3, 4, 5, 6, 7, 8, 9, 10, 11], [1, 2, 3, 4, 5, 6, 7, 8, 9, 10, 11, 12], [0, 1, 2, 3, 4, 5, 6, 7, 8, 9, 10, 11, 12, 13], [0, 1, 2, 3, 4, 5, 6, 7, 8, 9, 10, 11, 12, 13, 14]] (fun S F w' => ∃ (G : Nat), ap.grownBy w' none ∧ F 0 = pt R 0 ∧ F 2 = .slice none 0 0 ∧ F 3 = .slice aq ys.length cq ∧ F 4 = vi 1 ∧ F 8 = vi 2 ∧ F 9 = vi 1 ∧ (S 13 = true → F 25 = .slice (pa G) 1 1 ∧ w.heap.size ≤ G ∧ Blk w' G 3 (([y] : List Int).flatMap icell).toArray ∧ R < G ∧ ap.heap.size ≤ G) ∧ Vals S F [(0, 12, .slice aq ys.length cq), (1, 13, pt R 0), (2, 14, pt R 0), (3, 15, pt R 0), (4, 16, pt R 3), (5, 17, vi 0), (6, 18, vi 1), (7, 19, vi 1), (8, 20, vi 1), (9, 21, pt R 0), (10, 22, pt R 0), (11, 23, pt R 1), (12, 24, vi y)]) Y0 (by kernel_rfl) ⟨0, X7 _, bi, bj, ar, Z, ag, V, Yy, Ka _⟩ ?_ ?_
 refine Xk (fun S F lg hS hbef hcl hI => ?_) ?_
 obtain ⟨G, cl, gu, gv, bp, gw, gx, gy, J, hvs⟩ := hI
 exact Xb (v := .slice aq ys.length cq) bp Z (Xc ⟨G, cl, gu, gv, bp, gw, gx, gy, J, Vals.up 0 hvs Z Z Z⟩)
 refine Xk (fun S F lh hS hbef hcl hI => ?_) ?_
 obtain ⟨G, cm, bq, gz, g0, g5, g6, g7, J, hvs⟩ := hI
 exact Xb (v := pt R 0) bq Z (Xc ⟨G, cm, bq, gz, g0, g5, g6, g7, X4 13 hS hcl Z, Vals.up 1 hvs Z Z Z⟩)
 refine Xk (fun S F li hS hbef hcl hI => ?_) ?_
 obtain ⟨G, cn, br, g8, g9, ia, ib, ic, J, hvs⟩ := hI
 exact Xb (v := pt R 0) br Z (Xc ⟨G, cn, br, g8, g9, ia, ib, ic, X4 13 hS hcl Z, Vals.up 2 hvs Z Z Z⟩)
 refine Xk (fun S F lj hS hbef hcl hI => ?_) ?_
 obtain ⟨G, co, ie, ig, ii, ij, ik, il, J, hvs⟩ := hI
 exact Xu (Vals.at 2 hvs Z (Xp 2 hbef Z)) Z (Xc ⟨G, co, ie, ig, ii, ij, ik, il, X4 13 hS hcl Z, Vals.up 3 hvs Z Z Z⟩)
 refine Xk (fun S F lk hS hbef hcl hI => ?_) ?_
 obtain ⟨G, ct, im, io, ip, iq, ir, it, J, hvs⟩ := hI
 exact Xd (o' := 3) J0 (Vals.at 3 hvs Z (Xp 3 hbef Z)) Z Z (Xc ⟨G, ct, im, io, ip, iq, ir, it, X4 13 hS hcl Z, Vals.up 4 hvs Z Z Z⟩)
 refine Xk (fun S F ll hS hbef hcl hI => ?_) ?_
 obtain ⟨G, ba, iu, iv, iw, ix, iy, iz, J, hvs⟩ := hI
 exact Xh (v := vi 0) Xz (Vals.at 4 hvs Z (Xp 4 hbef Z)) ((O.grown0 ba).cell Z) Z (Xc ⟨G, ba, iu, iv, iw, ix, iy, iz, X4 13 hS hcl Z, Vals.up 5 hvs Z Z Z⟩)
 refine Xk (fun S F lm hS hbef hcl hI => ?_) ?_
 obtain ⟨G, cv, i0, i1, i2, bt, i3, i4, J, hvs⟩ := hI
 exact Xb (v := vi 1) bt Z (Xc ⟨G, cv, i0, i1, i2, bt, i3, i4, X4 13 hS hcl Z, Vals.up 6 hvs Z Z Z⟩)
 refine Xk (fun S F ln hS hbef hcl hI => ?_) ?_
 obtain ⟨G, cw, i5, i6, i7, i8, i9, ja, J, hvs⟩ := hI
 exact Yv (c := 1) (Vals.at 5 hvs Z (Xp 5 hbef Z)) (Vals.at 6 hvs Z (Xp 6 hbef Z)) (by omega) (by omega) (by omega) Z (Xc ⟨G, cw, i5, i6, i7, i8, i9, ja, X4 13 hS hcl Z, Vals.up 7 hvs Z Z Z⟩)
 refine Xk (fun S F lp hS hbef hcl hI => ?_) ?_
 obtain ⟨G, cy, jb, jc, jd, je, jf, jg, J, hvs⟩ := hI
 exact Q4 (c := 1) (Vals.at 7 hvs Z (Xp 7 hbef Z)) Z (by omega) (by omega) (by omega) Z Z (Xc ⟨G, cy, jb, jc, jd, je, jf, jg, X4 13 hS hcl Z, Vals.up 8 hvs Z Z Z⟩)
 refine Xk (fun S F lu hS hbef hcl hI => ?_) ?_
 obtain ⟨G, cz, jh, ji, jj, jk, jl, jm, J, hvs⟩ := hI
 exact Xu (Vals.at 1 hvs Z (Xp 1 hbef Z)) Z (Xc ⟨G, cz, jh, ji, jj, jk, jl, jm, X4 13 hS hcl Z, Vals.up 9 hvs Z Z Z⟩)
 refine Xk (fun S F lv hS hbef hcl hI => ?_) ?_
 obtain ⟨G, c8, jo, jp, jq, jr, js, jt, J, hvs⟩ := hI
 exact Xd (o' := 0) Kv (Vals.at 9 hvs Z (Xp 9 hbef Z)) Z Z (Xc ⟨G, c8, jo, jp, jq, jr, js, jt, X4 13 hS hcl Z, Vals.up 10 hvs Z Z Z⟩)
 refine Xk (fun S F lw hS hbef hcl hI => ?_) ?_
 obtain ⟨G, c9, ju, jv, jw, jx, jy, jz, J, hvs⟩ := hI
 exact Qr (o' := 1) Vz (Vals.at 10 hvs Z (Xp 10 hbef Z)) (Vals.at 8 hvs Z (Xp 8 hbef Z)) (by decide) (by decide) Z Z (Xc ⟨G, c9, ju, jv, jw, jx, jy, jz, X4 13 hS hcl Z, Vals.up 11 hvs Z Z Z⟩)
 refine Xk (fun S F ly hS hbef hcl hI => ?_) ?_
 obtain ⟨G, bb, j1, j2, j3, j4, j5, j6, J, hvs⟩ := hI
 exact Xh (v := vi y) Xz (Vals.at 11 hvs Z (Xp 11 hbef Z)) ((O.grown0 bb).cell Z) Z (Xc ⟨G, bb, j1, j2, j3, j4, j5, j6, X4 13 hS hcl Z, Vals.up 12 hvs Z Z Z⟩)
 refine Xk (fun S F lz hS hbef hcl hI => ?_) ?_
 obtain ⟨G, af, j7, j8, j9, ka, kb, kc, J, hvs⟩ := hI
 refine X9 (ps := [(0, vi y)]) (e := 3) (cs := (([y] : List Int).flatMap icell).toArray) (Xj (Vals.at 12 hvs Z (Xp 12 hbef Z)) X5) (fun _ => by kernel_rfl) Z ?_
 intro de l0 ac
 have bf := Yi ac (low0 ad af)
 have am := Xr ac ((O.grown0 af)).lt
 exact Xc ⟨de, (low0 af ac.grw), j7, j8, j9, ka, kb, kc, fun _ => ⟨Z, bf, ac.blk, am, (nt af.size (Nat.le_of_eq ac.eq.symm))⟩, Vals.keep hvs Z⟩
 exact Je
 intro S F l3 hall hI
 obtain ⟨G, ak, ke, kf, ks, kt, kg, kh, J, hvs⟩ := hI
 have av := low0 ad ak
 obtain ⟨ki, km, bd, db, kk⟩ := J (hall 13 (by decide))
 have ai := (hOw.grown0 ak)
 refine Jp (g := icell) (ys := ys) (zs := ([y] : List Int)) (lo := w.heap.size) Uk Z Yu (by omega) Ke (Vals.at 0 hvs Z (hall 0 (by decide))) ki ai (Jy Yu bd) (fun h => by cases h) (by first | omega | exact Nat.le_of_ble_eq_true rfl | (simp only [List.length_nil, List.length_cons, List.length_append, List.length_replicate]; omega)) (by omega) (by first | exact av.size | omega) Z ?_
 intro bh ao l4 bv az ko
 exact Xf (v := .slice bh (ys ++ ([y] : List Int)).length ao) Z Z (Xc (Qc (Xv (X6 (Yv (c := 2) kh Z (by omega) (by omega) (by omega) Z (Xb (v := vi 2) Z Z (Xc (Xv (⟨(2 - 2 : Int).toNat, by omega, 2, bh, ao, (ys ++ ([y] : List Int)), Z, (by omega), (by first | omega | (simp only [List.length_append, List.length_cons, List.length_nil]; omega)), (by rw [hys]; rfl), bv, Z, Z, ke, kf, kg, (Px av ai az (by omega)), (Blk.typN (O.grown0 ak) ai az (by decide))⟩)))))))))
 refine Xa (Qg (q := false) V ag (by decide) Z (Xc (Xs (Qb Z Z (Qp (Ql (Ql (Jv (Xv (Xa (Xb (v := .slice aq ys.length cq) ar Z (Xf (v := .slice aq ys.length cq) Z Z ?_))))))))))))
 refine Xc (Xt ?_)
 have hyz : ys = ([x, y] : List Int) := hys
 subst hyz
 exact ⟨.slice aq ([x, y] : List Int).length cq, Yx Z Z, aq, cq, Z, hOw, ad⟩
end Go.Proofs.YtlhhijnmacogcaaGreatDoor
end
