/- Laws and walks: my templates, and what a program of mine (gen.py) printed out of the functions; only what the row reaches. -/
import Derived.Test.YtjpgffmkcmcolaaGreatDoorT23
section
namespace Go.Proofs.YtjpgffmkcmcolaaGreatDoor
open Go.RowKit Go.Dw
set_option maxRecDepth 100000
set_option maxHeartbeats 4000000
set_option linter.unusedSimpArgs false
set_option linter.unusedVariables false
theorem Ei (q : Cl) (lo B cap : Nat) (ms : List MTh) (w : World) (hB : Dw.Own w B 38 8 cap ms.length (ms.flatMap MTh.cells)) (hR : RowsO 42 3 lo w ms) (hlo : lo ≤ B) (hp : callPoss (tabT ms) q = true) : CallsR Tryz.prog 34 #[.slice (pa B) ms.length cap, .agg #[vi q.kind, vi q.run, vi q.a, vi q.b, vi q.n]] w (fun v w' => ∃ ms' : List MTh, v = .tuple #[.slice (pa B) ms.length cap, vi (doCall (tabT ms) q).2] ∧ ms'.length = ms.length ∧ Dw.Own w' B 38 8 cap ms'.length (ms'.flatMap MTh.cells) ∧ RowsO 42 3 lo w' ms' ∧ tabT ms' = (doCall (tabT ms) q).1 ∧ KeepsI lo w.heap.size [38, 42, 3] w w') := by
 refine Xx (n := 79) Tryz.func34 Z Tryz.ntmps34 Z ?_
 have gw : KeepsI lo w.heap.size [38, 42, 3] w w := KeepsI.refl w
 have hBlt := hB.lt
 have hH := RowsO.hi hR
 have hlow : lo ≤ w.heap.size := by omega
 obtain ⟨hT, hc, hk⟩ := Yh hp
 have hco := Yq hc
 have hkp := (Y3 hk).1
 have h4 := Qp hT hk
 have hml := Jb hT
 have hTL := TabLen.ok hT
 have hck := Kj (tabT ms) q
 have hts := Hc hT (i := (q.run - 1).toNat) (j := q.a.toNat) (by omega) (by omega)
 refine Xa (Qf (v := .agg #[vi q.kind, vi q.run, vi q.a, vi q.b, vi q.n]) (cs := #[vi q.kind, vi q.run, vi q.a, vi q.b, vi q.n]) Z Z Z ?_)
 intro aj ik V
 have g8 := Vs V gw
 have ea := Xr V (hB).lt
 refine Xe (v := .slice none 0 0) Z Z (Xe (v := vi 0) Z Z (Xc (Xa (Xb (v := .slice (pa B) ms.length cap) Z Z (Xp (vs := [vi q.kind, vi q.run, vi q.a, vi q.b, vi q.n]) Y1 Z Z (V.blk.rangeL 0 5 Z) Z ?_)))))
 have bl := (RowsO.low hR V.grw)
 have dg := (hB.grown0 V.grw)
 refine Xl Fw (Xg Z (Xg Z Xk)) Z (Lq q _ ms _ _ (RowsO.tab bl dg) hTL (by omega) hT hc hk) ?_
 rintro _ dk ⟨rfl, ae⟩
 have bn := KeepsI.low (KeepsI.low gw V.grw) ae
 refine Xe (v := vi (check1 (tabT ms) q)) Z Z (Xc (Xq ?_))
 have ao := (RowsO.low bl ae)
 obtain ⟨db, aq, c8, ap⟩ := RowsO.slot ao (lq (q.run - 1).toNat ms.length) (by omega)
 have g6 := hH _ (List.mem_of_getElem? (xg ms (q.run - 1).toNat)) _ (Or.inl aq)
 have aw := (dg.grown0 ae)
 have g7 := Vt aw ap (by decide)
 refine Qy (m := 12) [[], [], [1], [1, 2], [0, 1, 2, 3], [0, 1, 2, 3, 4], [0, 1, 2, 3, 4, 5], [], [7], [0, 1, 2, 3, 4, 5, 6, 7, 8], [0, 1, 2, 3, 4, 5, 6, 7, 8, 9], [], [0, 1, 2, 3, 4, 5, 6, 7, 8, 9, 10, 11]] (fun S F w' => ∃ (G : Nat), dk.grownBy w' none ∧ F 0 = .slice (pa B) ms.length cap ∧ F 3 = pt aj 0 ∧ F 4 = .slice none 0 0 ∧ F 5 = vi 0 ∧ F 6 = vi (check1 (tabT ms) q) ∧ (S 11 = true → F 7 = pt G 0 ∧ w.heap.size ≤ G ∧ Blk w' G 42 #[vi 0, vi 0, vb false, vb false, vb false] ∧ B < G ∧ aj < G ∧ db < G ∧ dk.heap.size ≤ G) ∧ Vals S F [(0, 11, .slice (pa B) ms.length cap), (1, 12, pt aj 1), (2, 13, vi q.run), (3, 14, vi (q.run - 1)), (4, 15, pt B ((q.run - 1).toNat * 8)), (5, 16, pt B ((q.run - 1).toNat * 8 + 5)), (6, 17, .slice (mAt ms (q.run - 1).toNat).sa (mAt ms (q.run - 1).toNat).t.slots.length (mAt ms (q.run - 1).toNat).sc), (7, 18, pt aj 2), (8, 19, vi q.a), (9, 20, pt db ((q.a).toNat * 5)), (10, 21, .agg #[vi (rAt (mAt ms (q.run - 1).toNat).t.slots (q.a).toNat).th, vi (rAt (mAt ms (q.run - 1).toNat).t.slots (q.a).toNat).ve, vb (rAt (mAt ms (q.run - 1).toNat).t.slots (q.a).toNat).rd, vb (rAt (mAt ms (q.run - 1).toNat).t.slots (q.a).toNat).wr, vb (rAt (mAt ms (q.run - 1).toNat).t.slots (q.a).toNat).wk])]) Yy (by kernel_rfl) ⟨0, X6 _, Z, Z, Z, Z, Z, Yt, J3 _⟩ ?_ ?_
 refine Xj (fun S F il hS hbef hcl hI => ?_) ?_
 obtain ⟨G, dv, dc, ee, ef, eg, eh, J, hvs⟩ := hI
 exact Xb (v := .slice (pa B) ms.length cap) dc Z (Xc ⟨G, dv, dc, ee, ef, eg, eh, J, Vals.up 0 hvs Z Z Z⟩)
 refine Xj (fun S F im hS hbef hcl hI => ?_) ?_
 obtain ⟨G, dw, ei, de, ej, ek, em, J, hvs⟩ := hI
 exact Xd (o' := 1) Qv de Z Z (Xc ⟨G, dw, ei, de, ej, ek, em, J, Vals.up 1 hvs Z Z Z⟩)
 refine Xj (fun S F io hS hbef hcl hI => ?_) ?_
 obtain ⟨G, bw, eo, ep, er, eu, ew, J, hvs⟩ := hI
 exact Xh (v := vi q.run) X1 (Vals.at 1 hvs Z (Xm 1 hbef Z)) (((V.blk.grown0 ae).grown0 bw).cell Z) Z (Xc ⟨G, bw, eo, ep, er, eu, ew, J, Vals.up 2 hvs Z Z Z⟩)
 refine Xj (fun S F ip hS hbef hcl hI => ?_) ?_
 obtain ⟨G, dx, ex, ey, ez, e0, fa, J, hvs⟩ := hI
 exact Ys (c := q.run - 1) (Vals.at 2 hvs Z (Xm 2 hbef Z)) Z (by omega) (by omega) (by omega) Z (Xc ⟨G, dx, ex, ey, ez, e0, fa, J, Vals.up 3 hvs Z Z Z⟩)
 refine Xj (fun S F iq hS hbef hcl hI => ?_) ?_
 obtain ⟨G, dy, fb, fc, fd, fe, ff, J, hvs⟩ := hI
 exact Yb (o' := (q.run - 1).toNat * 8) Y2 (Vals.at 0 hvs Z (Xm 0 hbef Z)) (Vals.at 3 hvs Z (Xm 3 hbef Z)) (by omega) (by omega) (by omega) Z (Xc ⟨G, dy, fb, fc, fd, fe, ff, J, Vals.up 4 hvs Z Z Z⟩)
 refine Xj (fun S F ir hS hbef hcl hI => ?_) ?_
 obtain ⟨G, dz, fg, fh, fi, fj, fk, J, hvs⟩ := hI
 exact Xd (o' := (q.run - 1).toNat * 8 + 5) Qj (Vals.at 4 hvs Z (Xm 4 hbef Z)) Z Z (Xc ⟨G, dz, fg, fh, fi, fj, fk, J, Vals.up 5 hvs Z Z Z⟩)
 refine Xj (fun S F it hS hbef hcl hI => ?_) ?_
 obtain ⟨G, bx, fm, fo, fp, fq, fr, J, hvs⟩ := hI
 exact Xh (v := .slice (mAt ms (q.run - 1).toNat).sa (mAt ms (q.run - 1).toNat).t.slots.length (mAt ms (q.run - 1).toNat).sc) Jh (Vals.at 5 hvs Z (Xm 5 hbef Z)) ((Own.range Yo (aw.grown0 bx) (xg ms (q.run - 1).toNat)) 5 _ Z) Z (Xc ⟨G, bx, fm, fo, fp, fq, fr, J, Vals.up 6 hvs Z Z Z⟩)
 refine Xj (fun S F iu hS hbef hcl hI => ?_) ?_
 obtain ⟨G, d0, ft, df, fu, fv, fw, J, hvs⟩ := hI
 exact Xd (o' := 2) Km df Z Z (Xc ⟨G, d0, ft, df, fu, fv, fw, J, Vals.up 7 hvs Z Z Z⟩)
 refine Xj (fun S F iv hS hbef hcl hI => ?_) ?_
 obtain ⟨G, bz, fx, fy, fz, f8, f9, J, hvs⟩ := hI
 exact Xh (v := vi q.a) X1 (Vals.at 7 hvs Z (Xm 7 hbef Z)) (((V.blk.grown0 ae).grown0 bz).cell Z) Z (Xc ⟨G, bz, fx, fy, fz, f8, f9, J, Vals.up 8 hvs Z Z Z⟩)
 refine Xj (fun S F iw hS hbef hcl hI => ?_) ?_
 obtain ⟨G, d1, ga, gb, gc, gf, gg, J, hvs⟩ := hI
 exact Xz Ka (Vals.at 6 hvs Z (Xm 6 hbef Z)) (Vals.at 8 hvs Z (Xm 8 hbef Z)) aq (Nat.zero_add _) (by omega) (by omega) Z (Xc ⟨G, d1, ga, gb, gc, gf, gg, J, Vals.up 9 hvs Z Z Z⟩)
 refine Xj (fun S F ix hS hbef hcl hI => ?_) ?_
 obtain ⟨G, ca, gh, gi, gj, gk, gl, J, hvs⟩ := hI
 exact Xp (vs := [vi (rAt (mAt ms (q.run - 1).toNat).t.slots (q.a).toNat).th, vi (rAt (mAt ms (q.run - 1).toNat).t.slots (q.a).toNat).ve, vb (rAt (mAt ms (q.run - 1).toNat).t.slots (q.a).toNat).rd, vb (rAt (mAt ms (q.run - 1).toNat).t.slots (q.a).toNat).wr, vb (rAt (mAt ms (q.run - 1).toNat).t.slots (q.a).toNat).wk]) Yx (Vals.at 9 hvs Z (Xm 9 hbef Z)) Z (Yr (Own.range Q7 (ap.grown0 ca) (xr (mAt ms (q.run - 1).toNat).t.slots (q.a).toNat)) 0 5 Z) Z (Xc ⟨G, ca, gh, gi, gj, gk, gl, J, Vals.up 10 hvs Z Z Z⟩)
 refine Xj (fun S F iy hS hbef hcl hI => ?_) ?_
 obtain ⟨G, am, gm, gp, gq, gr, gt, J, hvs⟩ := hI
 refine Ye (cs := #[vi 0, vi 0, vb false, vb false, vb false]) Kz Z Z ?_
 intro ed iz ag
 have da := Vs ag (KeepsI.low bn am)
 have bk := Xr ag ((aw.grown0 am)).lt
 have az := Xr ag (((V.blk.grown0 ae).grown0 am)).lt
 have a8 := Xr ag ((ap.grown0 am)).lt
 exact Xc ⟨ed, (low0 am ag.grw), gm, gp, gq, gr, gt, fun _ => ⟨Z, da, ag.blk, bk, az, a8, (nt am.size (Nat.le_of_eq ag.eq.symm))⟩, Vals.keep hvs Z⟩
 exact Q5
 intro S F i0 hall hI
 obtain ⟨G, ab, ac, ad, ib, ic, ar, J, hvs⟩ := hI
 obtain ⟨bc, g9, cm, eb, cn, co, gx⟩ := J (hall 11 (by decide))
 refine X0 (vs := [vi (rAt (mAt ms (q.run - 1).toNat).t.slots (q.a).toNat).th, vi (rAt (mAt ms (q.run - 1).toNat).t.slots (q.a).toNat).ve, vb (rAt (mAt ms (q.run - 1).toNat).t.slots (q.a).toNat).rd, vb (rAt (mAt ms (q.run - 1).toNat).t.slots (q.a).toNat).wr, vb (rAt (mAt ms (q.run - 1).toNat).t.slots (q.a).toNat).wk]) (cs' := #[vi (rAt (mAt ms (q.run - 1).toNat).t.slots (q.a).toNat).th, vi (rAt (mAt ms (q.run - 1).toNat).t.slots (q.a).toNat).ve, vb (rAt (mAt ms (q.run - 1).toNat).t.slots (q.a).toNat).rd, vb (rAt (mAt ms (q.run - 1).toNat).t.slots (q.a).toNat).wr, vb (rAt (mAt ms (q.run - 1).toNat).t.slots (q.a).toNat).wk]) Yx bc (Vals.at 10 hvs Z (hall 10 (by decide))) Z (by simp [Value.oneCell']) cm (Nat.le_of_ble_eq_true Z) Z ?_
 intro gz O
 have bi := KeepsI.new (KeepsI.low bn ab) O.grw (by omega)
 refine Xc (Xu (Xq (Yc (Xa (Xb (v := vi (check1 (tabT ms) q)) ar Z (Qa (q := decide (check1 (tabT ms) q < 0)) Z Z Z Z (Xe (v := vb (decide (check1 (tabT ms) q < 0))) Z Z (Xc (Xy Z (fun ak => ?_) (fun ak => ?_))))))))))
 have ie := of_decide_eq_true ak
 refine Xw (Y7 (Xu (Xa (Xb (v := .slice (pa B) ms.length cap) ac Z (Xd (o' := 1) Qv ad Z Z (Xh (v := vi q.run) X1 Z ((((V.blk.grown0 ae).grown0 ab).gn O.grw).cell Z) Z (Ys (c := q.run - 1) Z Z (by omega) (by omega) (by omega) Z (Xb (v := vi (check1 (tabT ms) q)) ar Z (Yb (o' := (q.run - 1).toNat * 8) Y2 Z Z (by omega) (by omega) (by omega) Z (Xd (o' := (q.run - 1).toNat * 8 + 4) Q6 Z Z Z ?_))))))))))
 have cc := ((aw.grown0 ab).gn O.grw)
 refine Jj (g := MTh.cells) (j := 4) (z := (mAt ms (q.run - 1).toNat)) (z' := (⟨⟨(mAt ms (q.run - 1).toNat).t.kind, (mAt ms (q.run - 1).toNat).t.lab, (mAt ms (q.run - 1).toNat).t.ve, check1 (tabT ms) q, (mAt ms (q.run - 1).toNat).t.slots, (mAt ms (q.run - 1).toNat).t.queue, (mAt ms (q.run - 1).toNat).t.to⟩, (mAt ms (q.run - 1).toNat).sa, (mAt ms (q.run - 1).toNat).sc, (mAt ms (q.run - 1).toNat).qa, (mAt ms (q.run - 1).toNat).qc⟩ : MTh)) (v := vi (check1 (tabT ms) q)) X1 Z Z Z Yo cc (xg ms (q.run - 1).toNat) (by omega) Z Z ?_
 intro g0 dl bq
 have ct : RowsO 42 3 lo g0 (ms.set (q.run - 1).toNat (⟨⟨(mAt ms (q.run - 1).toNat).t.kind, (mAt ms (q.run - 1).toNat).t.lab, (mAt ms (q.run - 1).toNat).t.ve, check1 (tabT ms) q, (mAt ms (q.run - 1).toNat).t.slots, (mAt ms (q.run - 1).toNat).t.queue, (mAt ms (q.run - 1).toNat).t.to⟩, (mAt ms (q.run - 1).toNat).sa, (mAt ms (q.run - 1).toNat).sc, (mAt ms (q.run - 1).toNat).qa, (mAt ms (q.run - 1).toNat).qc⟩ : MTh)) := RowsO.set (RowsO.own (RowsO.ge (RowsO.low ao ab) O.grw hH (by omega)) bq cc (by decide) (by decide)) (lq (q.run - 1).toNat ms.length) ⟨rfl, rfl, rfl⟩ ⟨rfl, rfl, rfl⟩
 refine Xc (Xa (Xb (v := .slice (pa B) ms.length cap) ac Z (Xb (v := vi (check1 (tabT ms) q)) ar Z (Xe (v := .slice (pa B) ms.length cap) Z Z (Xe (v := vi (check1 (tabT ms) q)) Z Z (Xc (Xt ?_)))))))
 have hf : doCall (tabT ms) q = (tabT (ms.set (q.run - 1).toNat (⟨⟨(mAt ms (q.run - 1).toNat).t.kind, (mAt ms (q.run - 1).toNat).t.lab, (mAt ms (q.run - 1).toNat).t.ve, check1 (tabT ms) q, (mAt ms (q.run - 1).toNat).t.slots, (mAt ms (q.run - 1).toNat).t.queue, (mAt ms (q.run - 1).toNat).t.to⟩, (mAt ms (q.run - 1).toNat).sa, (mAt ms (q.run - 1).toNat).sc, (mAt ms (q.run - 1).toNat).qa, (mAt ms (q.run - 1).toNat).qc⟩ : MTh)), check1 (tabT ms) q) := I3 ak rfl
 exact ⟨.tuple #[.slice (pa B) ms.length cap, vi (check1 (tabT ms) q)], G9 Z Z Z, ms.set (q.run - 1).toNat (⟨⟨(mAt ms (q.run - 1).toNat).t.kind, (mAt ms (q.run - 1).toNat).t.lab, (mAt ms (q.run - 1).toNat).t.ve, check1 (tabT ms) q, (mAt ms (q.run - 1).toNat).t.slots, (mAt ms (q.run - 1).toNat).t.queue, (mAt ms (q.run - 1).toNat).t.to⟩, (mAt ms (q.run - 1).toNat).sa, (mAt ms (q.run - 1).toNat).sc, (mAt ms (q.run - 1).toNat).qa, (mAt ms (q.run - 1).toNat).qc⟩ : MTh), by rw [hf], by first | omega | (simp only [List.length_set, Yd]; try omega), dl, ct, by rw [hf], (KeepsI.own bi bq cc (by decide) (by omega) (by omega))⟩
 have ig := of_decide_eq_false ak
 refine Xa (Xd (o' := 0) Ja ad Z Z ?_)
 have al := (((V.blk.grown0 ae).grown0 ab).gn O.grw)
 refine Xh (v := vi q.kind) X1 Z (al.cell Z) Z (X3 (q := decide (q.kind = 3)) Z Z Z Z (Xe (v := vb (decide (q.kind = 3))) Z Z (Xc (Xy Z (fun an => ?_) (fun an => ?_)))))
 have ii := of_decide_eq_true an
 refine Yw (m := 25) (vals := [(29, .slice (pa B) ms.length cap), (30, pt aj 1), (31, vi q.run), (32, vi (q.run - 1)), (33, pt B ((q.run - 1).toNat * 8)), (34, pt B ((q.run - 1).toNat * 8 + 5)), (35, .slice (mAt ms (q.run - 1).toNat).sa (mAt ms (q.run - 1).toNat).t.slots.length (mAt ms (q.run - 1).toNat).sc), (36, pt aj 3), (37, vi q.b), (38, .agg #[vi (rAt (mAt ms (q.run - 1).toNat).t.slots (q.a).toNat).th, vi (rAt (mAt ms (q.run - 1).toNat).t.slots (q.a).toNat).ve, vb (rAt (mAt ms (q.run - 1).toNat).t.slots (q.a).toNat).rd, vb (rAt (mAt ms (q.run - 1).toNat).t.slots (q.a).toNat).wr, vb (rAt (mAt ms (q.run - 1).toNat).t.slots (q.a).toNat).wk]), (39, pt aj 4), (40, vi q.n), (41, vi (q.n % 2)), (42, vb (decide (q.n % 2 = 1))), (43, pt aj 4), (44, vi q.n), (45, vi (q.n / 2)), (46, vi ((q.n / 2) % 2)), (47, vb (decide ((q.n / 2) % 2 = 1))), (48, pt aj 4), (49, vi q.n), (50, vi (q.n / 4)), (51, vi ((q.n / 4) % 2)), (52, vb (decide ((q.n / 4) % 2 = 1))), (53, .agg #[vi (l2Less (rAt (mAt ms (q.run - 1).toNat).t.slots (q.a).toNat) (decide (q.n % 2 = 1)) (decide ((q.n / 2) % 2 = 1)) (decide ((q.n / 4) % 2 = 1))).th, vi (l2Less (rAt (mAt ms (q.run - 1).toNat).t.slots (q.a).toNat) (decide (q.n % 2 = 1)) (decide ((q.n / 2) % 2 = 1)) (decide ((q.n / 4) % 2 = 1))).ve, vb (l2Less (rAt (mAt ms (q.run - 1).toNat).t.slots (q.a).toNat) (decide (q.n % 2 = 1)) (decide ((q.n / 2) % 2 = 1)) (decide ((q.n / 4) % 2 = 1))).rd, vb (l2Less (rAt (mAt ms (q.run - 1).toNat).t.slots (q.a).toNat) (decide (q.n % 2 = 1)) (decide ((q.n / 2) % 2 = 1)) (decide ((q.n / 4) % 2 = 1))).wr, vb (l2Less (rAt (mAt ms (q.run - 1).toNat).t.slots (q.a).toNat) (decide (q.n % 2 = 1)) (decide ((q.n / 2) % 2 = 1)) (decide ((q.n / 4) % 2 = 1))).wk])]) (fun w' => gz.grownBy w' none) Yy (by kernel_rfl) (X6 _) ?_ ?_
 refine yl Z (fun _ _ k => Xb (v := .slice (pa B) ms.length cap) ac Z k) (yl Z (fun _ _ k => Xd (o' := 1) Qv ad Z Z k) (yl Z (fun _ d2 k => Xh (v := vi q.run) X1 Z ((al.grown0 d2).cell Z) Z k) (yl Z (fun _ _ k => Ys (c := q.run - 1) Z Z (by omega) (by omega) (by omega) Z k) (yl Z (fun _ _ k => Yb (o' := (q.run - 1).toNat * 8) Y2 Z Z (by omega) (by omega) (by omega) Z k) (yl Z (fun _ _ k => Xd (o' := (q.run - 1).toNat * 8 + 5) Qj Z Z Z k) (yl Z (fun _ d3 k => Xh (v := .slice (mAt ms (q.run - 1).toNat).sa (mAt ms (q.run - 1).toNat).t.slots.length (mAt ms (q.run - 1).toNat).sc) Jh Z ((Own.range Yo (((aw.grown0 ab).gn O.grw).grown0 d3) (xg ms (q.run - 1).toNat)) 5 _ Z) Z k) (yl Z (fun _ _ k => Xd (o' := 3) K6 ad Z Z k) (yl Z (fun _ d4 k => Xh (v := vi q.b) X1 Z ((al.grown0 d4).cell Z) Z k) (yl Z (fun _ d5 k => Xp (vs := [vi (rAt (mAt ms (q.run - 1).toNat).t.slots (q.a).toNat).th, vi (rAt (mAt ms (q.run - 1).toNat).t.slots (q.a).toNat).ve, vb (rAt (mAt ms (q.run - 1).toNat).t.slots (q.a).toNat).rd, vb (rAt (mAt ms (q.run - 1).toNat).t.slots (q.a).toNat).wr, vb (rAt (mAt ms (q.run - 1).toNat).t.slots (q.a).toNat).wk]) Yx bc Z ((O.blk.grown0 d5).rangeL 0 5 Z) Z k) (yl Z (fun _ _ k => Xd (o' := 4) Jk ad Z Z k) ?_))))))))))
 refine yl Z (fun _ d6 k => Xh (v := vi q.n) X1 Z ((al.grown0 d6).cell Z) Z k) (yl Z (fun _ _ k => Q8 (c := q.n % 2) Z Z (by omega) (by omega) (by omega) Z Z k) (yl Z (fun _ _ k => X3 (q := decide (q.n % 2 = 1)) Z Z Z Z k) (yl Z (fun _ _ k => Xd (o' := 4) Jk ad Z Z k) (yl Z (fun _ d7 k => Xh (v := vi q.n) X1 Z ((al.grown0 d7).cell Z) Z k) (yl Z (fun _ _ k => Vp (c := q.n / 2) Z Z (by omega) (by omega) (by omega) Z Z k) (yl Z (fun _ _ k => Q8 (c := (q.n / 2) % 2) Z Z (by omega) (by omega) (by omega) Z Z k) (yl Z (fun _ _ k => X3 (q := decide ((q.n / 2) % 2 = 1)) Z Z Z Z k) (yl Z (fun _ _ k => Xd (o' := 4) Jk ad Z Z k) (yl Z (fun _ d8 k => Xh (v := vi q.n) X1 Z ((al.grown0 d8).cell Z) Z k) (yl Z (fun _ _ k => Vp (c := q.n / 4) Z Z (by omega) (by omega) (by omega) Z Z k) ?_))))))))))
 refine yl Z (fun _ _ k => Q8 (c := (q.n / 4) % 2) Z Z (by omega) (by omega) (by omega) Z Z k) (yl Z (fun _ _ k => X3 (q := decide ((q.n / 4) % 2 = 1)) Z Z Z Z k) ?_)
 refine Ql Z (fun i1 d9 => ?_) ?_
 refine Xl Fx (Xg Z (Xg Z (Xg Z (Xg Z Xk)))) Z (Rw (rAt (mAt ms (q.run - 1).toNat).t.slots (q.a).toNat) (decide (q.n % 2 = 1)) (decide ((q.n / 2) % 2 = 1)) (decide ((q.n / 4) % 2 = 1)) _) ?_
 rintro _ i2 ⟨rfl, du⟩
 exact Xc ⟨Z, (grown_trans d9 du)⟩
 exact Y5
 intro i3 au
 refine Xz Ka Z Z aq (Nat.zero_add _) (by omega) (by omega) Z ?_
 have cd := (((ap.grown0 ab).gn O.grw).grown0 au)
 refine Je (g := Rt.cells) (z' := (l2Less (rAt (mAt ms (q.run - 1).toNat).t.slots (q.a).toNat) (decide (q.n % 2 = 1)) (decide ((q.n / 2) % 2 = 1)) (decide ((q.n / 4) % 2 = 1)))) Yx Z Z (Vy _) Q7 cd (by omega) Z ?_
 intro i4 dm bb
 have cv := RowsO.put (RowsO.low (RowsO.ge (RowsO.low ao ab) O.grw hH (by omega)) au) (lq (q.run - 1).toNat ms.length) aq c8 cd rfl dm bb (by decide)
 have ce := V9 (i := (q.run - 1).toNat) (j := (q.b).toNat) (x := (l2Less (rAt (mAt ms (q.run - 1).toNat).t.slots (q.a).toNat) (decide (q.n % 2 = 1)) (decide ((q.n / 2) % 2 = 1)) (decide ((q.n / 4) % 2 = 1)))) ((((aw.grown0 ab).gn O.grw).grown0 au).gn bb) (by omega)
 refine Xc (Y7 (Xu (Xa (Xb (v := .slice (pa B) ms.length cap) ac Z (Xd (o' := 1) Qv ad Z Z (Xh (v := vi q.run) X1 Z (((al.grown0 au).gn bb).cell Z) Z (Ys (c := q.run - 1) Z Z (by omega) (by omega) (by omega) Z (Xb (v := vi (check1 (tabT ms) q)) ar Z (Yb (o' := (q.run - 1).toNat * 8) Y2 Z Z (by omega) (by omega) (by omega) Z (Xd (o' := (q.run - 1).toNat * 8 + 4) Q6 Z Z Z ?_))))))))))
 refine Jj (g := MTh.cells) (j := 4) (z := (mAt (putT ms (q.run - 1).toNat (q.b).toNat (l2Less (rAt (mAt ms (q.run - 1).toNat).t.slots (q.a).toNat) (decide (q.n % 2 = 1)) (decide ((q.n / 2) % 2 = 1)) (decide ((q.n / 4) % 2 = 1)))) (q.run - 1).toNat)) (z' := (⟨⟨(mAt (putT ms (q.run - 1).toNat (q.b).toNat (l2Less (rAt (mAt ms (q.run - 1).toNat).t.slots (q.a).toNat) (decide (q.n % 2 = 1)) (decide ((q.n / 2) % 2 = 1)) (decide ((q.n / 4) % 2 = 1)))) (q.run - 1).toNat).t.kind, (mAt (putT ms (q.run - 1).toNat (q.b).toNat (l2Less (rAt (mAt ms (q.run - 1).toNat).t.slots (q.a).toNat) (decide (q.n % 2 = 1)) (decide ((q.n / 2) % 2 = 1)) (decide ((q.n / 4) % 2 = 1)))) (q.run - 1).toNat).t.lab, (mAt (putT ms (q.run - 1).toNat (q.b).toNat (l2Less (rAt (mAt ms (q.run - 1).toNat).t.slots (q.a).toNat) (decide (q.n % 2 = 1)) (decide ((q.n / 2) % 2 = 1)) (decide ((q.n / 4) % 2 = 1)))) (q.run - 1).toNat).t.ve, check1 (tabT ms) q, (mAt (putT ms (q.run - 1).toNat (q.b).toNat (l2Less (rAt (mAt ms (q.run - 1).toNat).t.slots (q.a).toNat) (decide (q.n % 2 = 1)) (decide ((q.n / 2) % 2 = 1)) (decide ((q.n / 4) % 2 = 1)))) (q.run - 1).toNat).t.slots, (mAt (putT ms (q.run - 1).toNat (q.b).toNat (l2Less (rAt (mAt ms (q.run - 1).toNat).t.slots (q.a).toNat) (decide (q.n % 2 = 1)) (decide ((q.n / 2) % 2 = 1)) (decide ((q.n / 4) % 2 = 1)))) (q.run - 1).toNat).t.queue, (mAt (putT ms (q.run - 1).toNat (q.b).toNat (l2Less (rAt (mAt ms (q.run - 1).toNat).t.slots (q.a).toNat) (decide (q.n % 2 = 1)) (decide ((q.n / 2) % 2 = 1)) (decide ((q.n / 4) % 2 = 1)))) (q.run - 1).toNat).t.to⟩, (mAt (putT ms (q.run - 1).toNat (q.b).toNat (l2Less (rAt (mAt ms (q.run - 1).toNat).t.slots (q.a).toNat) (decide (q.n % 2 = 1)) (decide ((q.n / 2) % 2 = 1)) (decide ((q.n / 4) % 2 = 1)))) (q.run - 1).toNat).sa, (mAt (putT ms (q.run - 1).toNat (q.b).toNat (l2Less (rAt (mAt ms (q.run - 1).toNat).t.slots (q.a).toNat) (decide (q.n % 2 = 1)) (decide ((q.n / 2) % 2 = 1)) (decide ((q.n / 4) % 2 = 1)))) (q.run - 1).toNat).sc, (mAt (putT ms (q.run - 1).toNat (q.b).toNat (l2Less (rAt (mAt ms (q.run - 1).toNat).t.slots (q.a).toNat) (decide (q.n % 2 = 1)) (decide ((q.n / 2) % 2 = 1)) (decide ((q.n / 4) % 2 = 1)))) (q.run - 1).toNat).qa, (mAt (putT ms (q.run - 1).toNat (q.b).toNat (l2Less (rAt (mAt ms (q.run - 1).toNat).t.slots (q.a).toNat) (decide (q.n % 2 = 1)) (decide ((q.n / 2) % 2 = 1)) (decide ((q.n / 4) % 2 = 1)))) (q.run - 1).toNat).qc⟩ : MTh)) (v := vi (check1 (tabT ms) q)) X1 Z Z Z Yo ce (J5 (show (q.run - 1).toNat < (putT ms (q.run - 1).toNat (q.b).toNat (l2Less (rAt (mAt ms (q.run - 1).toNat).t.slots (q.a).toNat) (decide (q.n % 2 = 1)) (decide ((q.n / 2) % 2 = 1)) (decide ((q.n / 4) % 2 = 1)))).length by (simp only [List.length_set, Yd]; omega))) (by omega) Z Z ?_
 intro g1 dn br
 have dt := KeepsI.own (KeepsI.own (KeepsI.low bi au) bb cd (by decide) (by omega) (by omega)) br ce (by decide) (by omega) (by omega)
 have cw : RowsO 42 3 lo g1 ((putT ms (q.run - 1).toNat (q.b).toNat (l2Less (rAt (mAt ms (q.run - 1).toNat).t.slots (q.a).toNat) (decide (q.n % 2 = 1)) (decide ((q.n / 2) % 2 = 1)) (decide ((q.n / 4) % 2 = 1)))).set (q.run - 1).toNat (⟨⟨(mAt (putT ms (q.run - 1).toNat (q.b).toNat (l2Less (rAt (mAt ms (q.run - 1).toNat).t.slots (q.a).toNat) (decide (q.n % 2 = 1)) (decide ((q.n / 2) % 2 = 1)) (decide ((q.n / 4) % 2 = 1)))) (q.run - 1).toNat).t.kind, (mAt (putT ms (q.run - 1).toNat (q.b).toNat (l2Less (rAt (mAt ms (q.run - 1).toNat).t.slots (q.a).toNat) (decide (q.n % 2 = 1)) (decide ((q.n / 2) % 2 = 1)) (decide ((q.n / 4) % 2 = 1)))) (q.run - 1).toNat).t.lab, (mAt (putT ms (q.run - 1).toNat (q.b).toNat (l2Less (rAt (mAt ms (q.run - 1).toNat).t.slots (q.a).toNat) (decide (q.n % 2 = 1)) (decide ((q.n / 2) % 2 = 1)) (decide ((q.n / 4) % 2 = 1)))) (q.run - 1).toNat).t.ve, check1 (tabT ms) q, (mAt (putT ms (q.run - 1).toNat (q.b).toNat (l2Less (rAt (mAt ms (q.run - 1).toNat).t.slots (q.a).toNat) (decide (q.n % 2 = 1)) (decide ((q.n / 2) % 2 = 1)) (decide ((q.n / 4) % 2 = 1)))) (q.run - 1).toNat).t.slots, (mAt (putT ms (q.run - 1).toNat (q.b).toNat (l2Less (rAt (mAt ms (q.run - 1).toNat).t.slots (q.a).toNat) (decide (q.n % 2 = 1)) (decide ((q.n / 2) % 2 = 1)) (decide ((q.n / 4) % 2 = 1)))) (q.run - 1).toNat).t.queue, (mAt (putT ms (q.run - 1).toNat (q.b).toNat (l2Less (rAt (mAt ms (q.run - 1).toNat).t.slots (q.a).toNat) (decide (q.n % 2 = 1)) (decide ((q.n / 2) % 2 = 1)) (decide ((q.n / 4) % 2 = 1)))) (q.run - 1).toNat).t.to⟩, (mAt (putT ms (q.run - 1).toNat (q.b).toNat (l2Less (rAt (mAt ms (q.run - 1).toNat).t.slots (q.a).toNat) (decide (q.n % 2 = 1)) (decide ((q.n / 2) % 2 = 1)) (decide ((q.n / 4) % 2 = 1)))) (q.run - 1).toNat).sa, (mAt (putT ms (q.run - 1).toNat (q.b).toNat (l2Less (rAt (mAt ms (q.run - 1).toNat).t.slots (q.a).toNat) (decide (q.n % 2 = 1)) (decide ((q.n / 2) % 2 = 1)) (decide ((q.n / 4) % 2 = 1)))) (q.run - 1).toNat).sc, (mAt (putT ms (q.run - 1).toNat (q.b).toNat (l2Less (rAt (mAt ms (q.run - 1).toNat).t.slots (q.a).toNat) (decide (q.n % 2 = 1)) (decide ((q.n / 2) % 2 = 1)) (decide ((q.n / 4) % 2 = 1)))) (q.run - 1).toNat).qa, (mAt (putT ms (q.run - 1).toNat (q.b).toNat (l2Less (rAt (mAt ms (q.run - 1).toNat).t.slots (q.a).toNat) (decide (q.n % 2 = 1)) (decide ((q.n / 2) % 2 = 1)) (decide ((q.n / 4) % 2 = 1)))) (q.run - 1).toNat).qc⟩ : MTh)) := RowsO.set (RowsO.own cv br ce (by decide) (by decide)) (show (q.run - 1).toNat < (putT ms (q.run - 1).toNat (q.b).toNat (l2Less (rAt (mAt ms (q.run - 1).toNat).t.slots (q.a).toNat) (decide (q.n % 2 = 1)) (decide ((q.n / 2) % 2 = 1)) (decide ((q.n / 4) % 2 = 1)))).length by (simp only [List.length_set, Yd]; omega)) ⟨rfl, rfl, rfl⟩ ⟨rfl, rfl, rfl⟩
 refine Xc (Xa (Xb (v := .slice (pa B) ms.length cap) ac Z (Xb (v := vi (check1 (tabT ms) q)) ar Z (Xe (v := .slice (pa B) ms.length cap) Z Z (Xe (v := vi (check1 (tabT ms) q)) Z Z (Xc (Xt ?_)))))))
 have hf : doCall (tabT ms) q = (tabT ((putT ms (q.run - 1).toNat (q.b).toNat (l2Less (rAt (mAt ms (q.run - 1).toNat).t.slots (q.a).toNat) (decide (q.n % 2 = 1)) (decide ((q.n / 2) % 2 = 1)) (decide ((q.n / 4) % 2 = 1)))).set (q.run - 1).toNat (⟨⟨(mAt (putT ms (q.run - 1).toNat (q.b).toNat (l2Less (rAt (mAt ms (q.run - 1).toNat).t.slots (q.a).toNat) (decide (q.n % 2 = 1)) (decide ((q.n / 2) % 2 = 1)) (decide ((q.n / 4) % 2 = 1)))) (q.run - 1).toNat).t.kind, (mAt (putT ms (q.run - 1).toNat (q.b).toNat (l2Less (rAt (mAt ms (q.run - 1).toNat).t.slots (q.a).toNat) (decide (q.n % 2 = 1)) (decide ((q.n / 2) % 2 = 1)) (decide ((q.n / 4) % 2 = 1)))) (q.run - 1).toNat).t.lab, (mAt (putT ms (q.run - 1).toNat (q.b).toNat (l2Less (rAt (mAt ms (q.run - 1).toNat).t.slots (q.a).toNat) (decide (q.n % 2 = 1)) (decide ((q.n / 2) % 2 = 1)) (decide ((q.n / 4) % 2 = 1)))) (q.run - 1).toNat).t.ve, check1 (tabT ms) q, (mAt (putT ms (q.run - 1).toNat (q.b).toNat (l2Less (rAt (mAt ms (q.run - 1).toNat).t.slots (q.a).toNat) (decide (q.n % 2 = 1)) (decide ((q.n / 2) % 2 = 1)) (decide ((q.n / 4) % 2 = 1)))) (q.run - 1).toNat).t.slots, (mAt (putT ms (q.run - 1).toNat (q.b).toNat (l2Less (rAt (mAt ms (q.run - 1).toNat).t.slots (q.a).toNat) (decide (q.n % 2 = 1)) (decide ((q.n / 2) % 2 = 1)) (decide ((q.n / 4) % 2 = 1)))) (q.run - 1).toNat).t.queue, (mAt (putT ms (q.run - 1).toNat (q.b).toNat (l2Less (rAt (mAt ms (q.run - 1).toNat).t.slots (q.a).toNat) (decide (q.n % 2 = 1)) (decide ((q.n / 2) % 2 = 1)) (decide ((q.n / 4) % 2 = 1)))) (q.run - 1).toNat).t.to⟩, (mAt (putT ms (q.run - 1).toNat (q.b).toNat (l2Less (rAt (mAt ms (q.run - 1).toNat).t.slots (q.a).toNat) (decide (q.n % 2 = 1)) (decide ((q.n / 2) % 2 = 1)) (decide ((q.n / 4) % 2 = 1)))) (q.run - 1).toNat).sa, (mAt (putT ms (q.run - 1).toNat (q.b).toNat (l2Less (rAt (mAt ms (q.run - 1).toNat).t.slots (q.a).toNat) (decide (q.n % 2 = 1)) (decide ((q.n / 2) % 2 = 1)) (decide ((q.n / 4) % 2 = 1)))) (q.run - 1).toNat).sc, (mAt (putT ms (q.run - 1).toNat (q.b).toNat (l2Less (rAt (mAt ms (q.run - 1).toNat).t.slots (q.a).toNat) (decide (q.n % 2 = 1)) (decide ((q.n / 2) % 2 = 1)) (decide ((q.n / 4) % 2 = 1)))) (q.run - 1).toNat).qa, (mAt (putT ms (q.run - 1).toNat (q.b).toNat (l2Less (rAt (mAt ms (q.run - 1).toNat).t.slots (q.a).toNat) (decide (q.n % 2 = 1)) (decide ((q.n / 2) % 2 = 1)) (decide ((q.n / 4) % 2 = 1)))) (q.run - 1).toNat).qc⟩ : MTh)), check1 (tabT ms) q) := D6 ak an rfl rfl
 exact ⟨.tuple #[.slice (pa B) ms.length cap, vi (check1 (tabT ms) q)], G9 Z Z Z, (putT ms (q.run - 1).toNat (q.b).toNat (l2Less (rAt (mAt ms (q.run - 1).toNat).t.slots (q.a).toNat) (decide (q.n % 2 = 1)) (decide ((q.n / 2) % 2 = 1)) (decide ((q.n / 4) % 2 = 1)))).set (q.run - 1).toNat (⟨⟨(mAt (putT ms (q.run - 1).toNat (q.b).toNat (l2Less (rAt (mAt ms (q.run - 1).toNat).t.slots (q.a).toNat) (decide (q.n % 2 = 1)) (decide ((q.n / 2) % 2 = 1)) (decide ((q.n / 4) % 2 = 1)))) (q.run - 1).toNat).t.kind, (mAt (putT ms (q.run - 1).toNat (q.b).toNat (l2Less (rAt (mAt ms (q.run - 1).toNat).t.slots (q.a).toNat) (decide (q.n % 2 = 1)) (decide ((q.n / 2) % 2 = 1)) (decide ((q.n / 4) % 2 = 1)))) (q.run - 1).toNat).t.lab, (mAt (putT ms (q.run - 1).toNat (q.b).toNat (l2Less (rAt (mAt ms (q.run - 1).toNat).t.slots (q.a).toNat) (decide (q.n % 2 = 1)) (decide ((q.n / 2) % 2 = 1)) (decide ((q.n / 4) % 2 = 1)))) (q.run - 1).toNat).t.ve, check1 (tabT ms) q, (mAt (putT ms (q.run - 1).toNat (q.b).toNat (l2Less (rAt (mAt ms (q.run - 1).toNat).t.slots (q.a).toNat) (decide (q.n % 2 = 1)) (decide ((q.n / 2) % 2 = 1)) (decide ((q.n / 4) % 2 = 1)))) (q.run - 1).toNat).t.slots, (mAt (putT ms (q.run - 1).toNat (q.b).toNat (l2Less (rAt (mAt ms (q.run - 1).toNat).t.slots (q.a).toNat) (decide (q.n % 2 = 1)) (decide ((q.n / 2) % 2 = 1)) (decide ((q.n / 4) % 2 = 1)))) (q.run - 1).toNat).t.queue, (mAt (putT ms (q.run - 1).toNat (q.b).toNat (l2Less (rAt (mAt ms (q.run - 1).toNat).t.slots (q.a).toNat) (decide (q.n % 2 = 1)) (decide ((q.n / 2) % 2 = 1)) (decide ((q.n / 4) % 2 = 1)))) (q.run - 1).toNat).t.to⟩, (mAt (putT ms (q.run - 1).toNat (q.b).toNat (l2Less (rAt (mAt ms (q.run - 1).toNat).t.slots (q.a).toNat) (decide (q.n % 2 = 1)) (decide ((q.n / 2) % 2 = 1)) (decide ((q.n / 4) % 2 = 1)))) (q.run - 1).toNat).sa, (mAt (putT ms (q.run - 1).toNat (q.b).toNat (l2Less (rAt (mAt ms (q.run - 1).toNat).t.slots (q.a).toNat) (decide (q.n % 2 = 1)) (decide ((q.n / 2) % 2 = 1)) (decide ((q.n / 4) % 2 = 1)))) (q.run - 1).toNat).sc, (mAt (putT ms (q.run - 1).toNat (q.b).toNat (l2Less (rAt (mAt ms (q.run - 1).toNat).t.slots (q.a).toNat) (decide (q.n % 2 = 1)) (decide ((q.n / 2) % 2 = 1)) (decide ((q.n / 4) % 2 = 1)))) (q.run - 1).toNat).qa, (mAt (putT ms (q.run - 1).toNat (q.b).toNat (l2Less (rAt (mAt ms (q.run - 1).toNat).t.slots (q.a).toNat) (decide (q.n % 2 = 1)) (decide ((q.n / 2) % 2 = 1)) (decide ((q.n / 4) % 2 = 1)))) (q.run - 1).toNat).qc⟩ : MTh), by rw [hf], by first | omega | (simp only [List.length_set, Yd]; try omega), dn, cw, by rw [hf], dt⟩
 have ij := of_decide_eq_false an
 refine Xa (Xb (v := .slice (pa B) ms.length cap) ac Z (Xp (vs := [vi (rAt (mAt ms (q.run - 1).toNat).t.slots (q.a).toNat).th, vi (rAt (mAt ms (q.run - 1).toNat).t.slots (q.a).toNat).ve, vb (rAt (mAt ms (q.run - 1).toNat).t.slots (q.a).toNat).rd, vb (rAt (mAt ms (q.run - 1).toNat).t.slots (q.a).toNat).wr, vb (rAt (mAt ms (q.run - 1).toNat).t.slots (q.a).toNat).wk]) Yx bc Z (O.blk.rangeL 0 5 Z) Z ?_))
 have a9 := (RowsO.ge (RowsO.low ao ab) O.grw hH (by omega))
 have cf := ((aw.grown0 ab).gn O.grw)
 refine Xl Fy (Xg Z (Xg Z Xk)) Z (Rz (rAt (mAt ms (q.run - 1).toNat).t.slots (q.a).toNat) (by omega) _ ms _ _ (RowsO.tab a9 cf) hTL (by omega)) ?_
 rintro _ i5 ⟨rfl, af⟩
 have bj := KeepsI.low bi af
 refine Xe (v := vb (live (tabT ms) (rAt (mAt ms (q.run - 1).toNat).t.slots (q.a).toNat))) Z Z (Xc (Xy Z (fun bd => ?_) (fun bd => ?_)))
 refine Xa (Xb (v := .slice (pa B) ms.length cap) ac Z ?_)
 have dh := (al.grown0 af)
 refine Xp (vs := [vi q.kind, vi q.run, vi q.a, vi q.b, vi q.n]) Y1 ad Z (dh.rangeL 0 5 Z) Z ?_
 have di := (O.blk.grown0 af)
 refine Xp (vs := [vi (rAt (mAt ms (q.run - 1).toNat).t.slots (q.a).toNat).th, vi (rAt (mAt ms (q.run - 1).toNat).t.slots (q.a).toNat).ve, vb (rAt (mAt ms (q.run - 1).toNat).t.slots (q.a).toNat).rd, vb (rAt (mAt ms (q.run - 1).toNat).t.slots (q.a).toNat).wr, vb (rAt (mAt ms (q.run - 1).toNat).t.slots (q.a).toNat).wk]) Yx bc Z (di.rangeL 0 5 Z) Z ?_
 have be := Ec hp ak an bd
 have gy := be.th
 rw [Qd] at gy
 refine Xl Zi (Xg Z (Xg Z (Xg Z Xk))) Z (Cu q (rAt (mAt ms (q.run - 1).toNat).t.slots (q.a).toNat) lo B cap ms _ (cf.grown0 af) (RowsO.low a9 af) hlo _ hH hBlt bj.size be) ?_
 rintro _ i6 ⟨E, rfl, ai, bg, ba, av, bf⟩
 have bh : tableOk (tabT E) = true := by rw [av]; exact (Pf be).1
 have c9 := TabLen.ok bh
 have ia := Jb bh
 refine Xe (v := vi (far (tabT ms) q (rAt (mAt ms (q.run - 1).toNat).t.slots (q.a).toNat)).2) Z Z (Xc (Xa (Xb (v := .slice (pa B) E.length cap) (ac.trans (congrArg (fun n : Nat => Value.slice (pa B) n cap) ai.symm)) Z (Xd (o' := 1) Qv ad Z Z ?_))))
 have cg := (Blk.keepsI dh bf (Or.inr (Or.inr (by decide))))
 refine Xh (v := vi q.run) X1 Z (cg.cell Z) Z (Xd (o' := 0) Yz bc Z Z (Xh (v := vi (rAt (mAt ms (q.run - 1).toNat).t.slots (q.a).toNat).th) X1 Z ((Blk.keepsI di bf (by omega)).cell Z) Z (Xl Fz (Xg Z (Xg Z (Xg Z Xk))) Z (Nm q.run (rAt (mAt ms (q.run - 1).toNat).t.slots (q.a).toNat).th _ E _ _ (RowsO.tab ba bg) c9 (by omega) bh (by omega) (by omega)) ?_)))
 rintro _ i7 ⟨rfl, ah⟩
 have bp := KeepsI.low (KeepsI.trans bj bf) ah
 refine Yl (b' := !sees (tabT E) q.run (rAt (mAt ms (q.run - 1).toNat).t.slots (q.a).toNat).th) Z Z Z (Xc (Xy Z (fun bm => ?_) (fun bm => ?_)))
 have gu := Q2 bm
 refine X2 (Xe (v := vi 0) Z Z (Xc (Y7 (Xu (Xa (Xb (v := .slice (pa B) E.length cap) (ac.trans (congrArg (fun n : Nat => Value.slice (pa B) n cap) ai.symm)) Z (Xd (o' := 1) Qv ad Z Z (Xh (v := vi q.run) X1 Z ((cg.grown0 ah).cell Z) Z (Ys (c := q.run - 1) Z Z (by omega) (by omega) (by omega) Z (Xb (v := vi 0) Z Z (Yb (o' := (q.run - 1).toNat * 8) Y2 Z Z (by omega) (by omega) (by omega) Z (Xd (o' := (q.run - 1).toNat * 8 + 4) Q6 Z Z Z ?_))))))))))))
 have cj := (bg.grown0 ah)
 refine Jj (g := MTh.cells) (j := 4) (z := (mAt E (q.run - 1).toNat)) (z' := (⟨⟨(mAt E (q.run - 1).toNat).t.kind, (mAt E (q.run - 1).toNat).t.lab, (mAt E (q.run - 1).toNat).t.ve, 0, (mAt E (q.run - 1).toNat).t.slots, (mAt E (q.run - 1).toNat).t.queue, (mAt E (q.run - 1).toNat).t.to⟩, (mAt E (q.run - 1).toNat).sa, (mAt E (q.run - 1).toNat).sc, (mAt E (q.run - 1).toNat).qa, (mAt E (q.run - 1).toNat).qc⟩ : MTh)) (v := vi 0) X1 Z Z Z Yo cj (xg E (q.run - 1).toNat) (by omega) Z Z ?_
 intro g2 dp bt
 have cx : RowsO 42 3 lo g2 (E.set (q.run - 1).toNat (⟨⟨(mAt E (q.run - 1).toNat).t.kind, (mAt E (q.run - 1).toNat).t.lab, (mAt E (q.run - 1).toNat).t.ve, 0, (mAt E (q.run - 1).toNat).t.slots, (mAt E (q.run - 1).toNat).t.queue, (mAt E (q.run - 1).toNat).t.to⟩, (mAt E (q.run - 1).toNat).sa, (mAt E (q.run - 1).toNat).sc, (mAt E (q.run - 1).toNat).qa, (mAt E (q.run - 1).toNat).qc⟩ : MTh)) := RowsO.set (RowsO.own (RowsO.low ba ah) bt cj (by decide) (by decide)) (lq (q.run - 1).toNat E.length) ⟨rfl, rfl, rfl⟩ ⟨rfl, rfl, rfl⟩
 refine Xc (Xa (Xb (v := .slice (pa B) E.length cap) (ac.trans (congrArg (fun n : Nat => Value.slice (pa B) n cap) ai.symm)) Z (Xb (v := vi 0) Z Z (Xe (v := .slice (pa B) E.length cap) Z Z (Xe (v := vi 0) Z Z (Xc (Xt ?_)))))))
 have hf : doCall (tabT ms) q = (tabT (E.set (q.run - 1).toNat (⟨⟨(mAt E (q.run - 1).toNat).t.kind, (mAt E (q.run - 1).toNat).t.lab, (mAt E (q.run - 1).toNat).t.ve, 0, (mAt E (q.run - 1).toNat).t.slots, (mAt E (q.run - 1).toNat).t.queue, (mAt E (q.run - 1).toNat).t.to⟩, (mAt E (q.run - 1).toNat).sa, (mAt E (q.run - 1).toNat).sc, (mAt E (q.run - 1).toNat).qa, (mAt E (q.run - 1).toNat).qc⟩ : MTh)), 0) := Bz ak an bd av gu rfl
 exact ⟨.tuple #[.slice (pa B) E.length cap, vi 0], G9 Z Z Z, E.set (q.run - 1).toNat (⟨⟨(mAt E (q.run - 1).toNat).t.kind, (mAt E (q.run - 1).toNat).t.lab, (mAt E (q.run - 1).toNat).t.ve, 0, (mAt E (q.run - 1).toNat).t.slots, (mAt E (q.run - 1).toNat).t.queue, (mAt E (q.run - 1).toNat).t.to⟩, (mAt E (q.run - 1).toNat).sa, (mAt E (q.run - 1).toNat).sc, (mAt E (q.run - 1).toNat).qa, (mAt E (q.run - 1).toNat).qc⟩ : MTh), by rw [hf, ai], by first | omega | (simp only [List.length_set, Yd]; try omega), dp, cx, by rw [hf], (KeepsI.own bp bt cj (by decide) (by omega) (by omega))⟩
 have gv := Qx bm
 refine Xw (Y7 (Xu (Xa (Xb (v := .slice (pa B) E.length cap) (ac.trans (congrArg (fun n : Nat => Value.slice (pa B) n cap) ai.symm)) Z (Xd (o' := 1) Qv ad Z Z (Xh (v := vi q.run) X1 Z ((cg.grown0 ah).cell Z) Z (Ys (c := q.run - 1) Z Z (by omega) (by omega) (by omega) Z (Xb (v := vi (far (tabT ms) q (rAt (mAt ms (q.run - 1).toNat).t.slots (q.a).toNat)).2) Z Z (Yb (o' := (q.run - 1).toNat * 8) Y2 Z Z (by omega) (by omega) (by omega) Z (Xd (o' := (q.run - 1).toNat * 8 + 4) Q6 Z Z Z ?_))))))))))
 have ck := (bg.grown0 ah)
 refine Jj (g := MTh.cells) (j := 4) (z := (mAt E (q.run - 1).toNat)) (z' := (⟨⟨(mAt E (q.run - 1).toNat).t.kind, (mAt E (q.run - 1).toNat).t.lab, (mAt E (q.run - 1).toNat).t.ve, (far (tabT ms) q (rAt (mAt ms (q.run - 1).toNat).t.slots (q.a).toNat)).2, (mAt E (q.run - 1).toNat).t.slots, (mAt E (q.run - 1).toNat).t.queue, (mAt E (q.run - 1).toNat).t.to⟩, (mAt E (q.run - 1).toNat).sa, (mAt E (q.run - 1).toNat).sc, (mAt E (q.run - 1).toNat).qa, (mAt E (q.run - 1).toNat).qc⟩ : MTh)) (v := vi (far (tabT ms) q (rAt (mAt ms (q.run - 1).toNat).t.slots (q.a).toNat)).2) X1 Z Z Z Yo ck (xg E (q.run - 1).toNat) (by omega) Z Z ?_
 intro g3 dq bu
 have cy : RowsO 42 3 lo g3 (E.set (q.run - 1).toNat (⟨⟨(mAt E (q.run - 1).toNat).t.kind, (mAt E (q.run - 1).toNat).t.lab, (mAt E (q.run - 1).toNat).t.ve, (far (tabT ms) q (rAt (mAt ms (q.run - 1).toNat).t.slots (q.a).toNat)).2, (mAt E (q.run - 1).toNat).t.slots, (mAt E (q.run - 1).toNat).t.queue, (mAt E (q.run - 1).toNat).t.to⟩, (mAt E (q.run - 1).toNat).sa, (mAt E (q.run - 1).toNat).sc, (mAt E (q.run - 1).toNat).qa, (mAt E (q.run - 1).toNat).qc⟩ : MTh)) := RowsO.set (RowsO.own (RowsO.low ba ah) bu ck (by decide) (by decide)) (lq (q.run - 1).toNat E.length) ⟨rfl, rfl, rfl⟩ ⟨rfl, rfl, rfl⟩
 refine Xc (Xa (Xb (v := .slice (pa B) E.length cap) (ac.trans (congrArg (fun n : Nat => Value.slice (pa B) n cap) ai.symm)) Z (Xb (v := vi (far (tabT ms) q (rAt (mAt ms (q.run - 1).toNat).t.slots (q.a).toNat)).2) Z Z (Xe (v := .slice (pa B) E.length cap) Z Z (Xe (v := vi (far (tabT ms) q (rAt (mAt ms (q.run - 1).toNat).t.slots (q.a).toNat)).2) Z Z (Xc (Xt ?_)))))))
 have hf : doCall (tabT ms) q = (tabT (E.set (q.run - 1).toNat (⟨⟨(mAt E (q.run - 1).toNat).t.kind, (mAt E (q.run - 1).toNat).t.lab, (mAt E (q.run - 1).toNat).t.ve, (far (tabT ms) q (rAt (mAt ms (q.run - 1).toNat).t.slots (q.a).toNat)).2, (mAt E (q.run - 1).toNat).t.slots, (mAt E (q.run - 1).toNat).t.queue, (mAt E (q.run - 1).toNat).t.to⟩, (mAt E (q.run - 1).toNat).sa, (mAt E (q.run - 1).toNat).sc, (mAt E (q.run - 1).toNat).qa, (mAt E (q.run - 1).toNat).qc⟩ : MTh)), (far (tabT ms) q (rAt (mAt ms (q.run - 1).toNat).t.slots (q.a).toNat)).2) := D9 ak an bd av gv rfl
 exact ⟨.tuple #[.slice (pa B) E.length cap, vi (far (tabT ms) q (rAt (mAt ms (q.run - 1).toNat).t.slots (q.a).toNat)).2], G9 Z Z Z, E.set (q.run - 1).toNat (⟨⟨(mAt E (q.run - 1).toNat).t.kind, (mAt E (q.run - 1).toNat).t.lab, (mAt E (q.run - 1).toNat).t.ve, (far (tabT ms) q (rAt (mAt ms (q.run - 1).toNat).t.slots (q.a).toNat)).2, (mAt E (q.run - 1).toNat).t.slots, (mAt E (q.run - 1).toNat).t.queue, (mAt E (q.run - 1).toNat).t.to⟩, (mAt E (q.run - 1).toNat).sa, (mAt E (q.run - 1).toNat).sc, (mAt E (q.run - 1).toNat).qa, (mAt E (q.run - 1).toNat).qc⟩ : MTh), by rw [hf, ai], by first | omega | (simp only [List.length_set, Yd]; try omega), dq, cy, by rw [hf], (KeepsI.own bp bu ck (by decide) (by omega) (by omega))⟩
 refine Xw (Y7 (Xu (Xa (Xb (v := .slice (pa B) ms.length cap) ac Z (Xd (o' := 1) Qv ad Z Z (Xh (v := vi q.run) X1 Z ((al.grown0 af).cell Z) Z (Ys (c := q.run - 1) Z Z (by omega) (by omega) (by omega) Z (Xb (v := vi (check1 (tabT ms) q)) ar Z (Yb (o' := (q.run - 1).toNat * 8) Y2 Z Z (by omega) (by omega) (by omega) Z (Xd (o' := (q.run - 1).toNat * 8 + 4) Q6 Z Z Z ?_))))))))))
 have cl := (cf.grown0 af)
 refine Jj (g := MTh.cells) (j := 4) (z := (mAt ms (q.run - 1).toNat)) (z' := (⟨⟨(mAt ms (q.run - 1).toNat).t.kind, (mAt ms (q.run - 1).toNat).t.lab, (mAt ms (q.run - 1).toNat).t.ve, check1 (tabT ms) q, (mAt ms (q.run - 1).toNat).t.slots, (mAt ms (q.run - 1).toNat).t.queue, (mAt ms (q.run - 1).toNat).t.to⟩, (mAt ms (q.run - 1).toNat).sa, (mAt ms (q.run - 1).toNat).sc, (mAt ms (q.run - 1).toNat).qa, (mAt ms (q.run - 1).toNat).qc⟩ : MTh)) (v := vi (check1 (tabT ms) q)) X1 Z Z Z Yo cl (xg ms (q.run - 1).toNat) (by omega) Z Z ?_
 intro g5 dr bv
 have cz : RowsO 42 3 lo g5 (ms.set (q.run - 1).toNat (⟨⟨(mAt ms (q.run - 1).toNat).t.kind, (mAt ms (q.run - 1).toNat).t.lab, (mAt ms (q.run - 1).toNat).t.ve, check1 (tabT ms) q, (mAt ms (q.run - 1).toNat).t.slots, (mAt ms (q.run - 1).toNat).t.queue, (mAt ms (q.run - 1).toNat).t.to⟩, (mAt ms (q.run - 1).toNat).sa, (mAt ms (q.run - 1).toNat).sc, (mAt ms (q.run - 1).toNat).qa, (mAt ms (q.run - 1).toNat).qc⟩ : MTh)) := RowsO.set (RowsO.own (RowsO.low a9 af) bv cl (by decide) (by decide)) (lq (q.run - 1).toNat ms.length) ⟨rfl, rfl, rfl⟩ ⟨rfl, rfl, rfl⟩
 refine Xc (Xa (Xb (v := .slice (pa B) ms.length cap) ac Z (Xb (v := vi (check1 (tabT ms) q)) ar Z (Xe (v := .slice (pa B) ms.length cap) Z Z (Xe (v := vi (check1 (tabT ms) q)) Z Z (Xc (Xt ?_)))))))
 have hf : doCall (tabT ms) q = (tabT (ms.set (q.run - 1).toNat (⟨⟨(mAt ms (q.run - 1).toNat).t.kind, (mAt ms (q.run - 1).toNat).t.lab, (mAt ms (q.run - 1).toNat).t.ve, check1 (tabT ms) q, (mAt ms (q.run - 1).toNat).t.slots, (mAt ms (q.run - 1).toNat).t.queue, (mAt ms (q.run - 1).toNat).t.to⟩, (mAt ms (q.run - 1).toNat).sa, (mAt ms (q.run - 1).toNat).sc, (mAt ms (q.run - 1).toNat).qa, (mAt ms (q.run - 1).toNat).qc⟩ : MTh)), check1 (tabT ms) q) := D7 ak an bd rfl
 exact ⟨.tuple #[.slice (pa B) ms.length cap, vi (check1 (tabT ms) q)], G9 Z Z Z, ms.set (q.run - 1).toNat (⟨⟨(mAt ms (q.run - 1).toNat).t.kind, (mAt ms (q.run - 1).toNat).t.lab, (mAt ms (q.run - 1).toNat).t.ve, check1 (tabT ms) q, (mAt ms (q.run - 1).toNat).t.slots, (mAt ms (q.run - 1).toNat).t.queue, (mAt ms (q.run - 1).toNat).t.to⟩, (mAt ms (q.run - 1).toNat).sa, (mAt ms (q.run - 1).toNat).sc, (mAt ms (q.run - 1).toNat).qa, (mAt ms (q.run - 1).toNat).qc⟩ : MTh), by rw [hf], by first | omega | (simp only [List.length_set, Yd]; try omega), dr, cz, by rw [hf], (KeepsI.own bj bv cl (by decide) (by omega) (by omega))⟩
end Go.Proofs.YtjpgffmkcmcolaaGreatDoor
end
section
namespace Go.Dw
def chkAll (ts : List Th) (q : Cl) : Int := if callPoss ts q = true then check1 ts q else -1
def chkSees (ts : List Th) (run th : Int) : Bool := ((tableOk ts && kindAt ts run 3) && inR th 1 (ts.length : Int)) && sees ts run th
def tabLive (ts : List Th) (r : Rt) : Bool := (tableOk ts && rightOk r) && live ts r
def kindsOf (c : Int) : List Int := if c = 1 ∨ c = 2 then [1] else if c = 4 ∨ c = 5 then [2] else if c = 6 ∨ c = 7 then [4] else if c = 9 then [5] else [1, 2, 4]
theorem Cr (c x : Int) : (kindsOf c).any (fun y => decide (y = x)) = kindFor c x := by
  have e : ∀ a b : Int, decide (a = b) = decide (b = a) := fun a b => by rw [Bool.eq_iff_iff]; simp [eq_comm]
  unfold kindsOf kindFor
  split
  · simp [e 1 x]
  split
  · simp [e 2 x]
  split
  · simp [e 4 x]
  split
  · simp [e 5 x]
  · simp [e 1 x, e 2 x, e 4 x, Bool.or_assoc]
section
variable {ts : List Th} {q : Cl}
theorem Gs : -3 ≤ chkAll ts q ∧ chkAll ts q ≤ 0 := by
  have := Kj ts q
  unfold chkAll
  split <;> omega
theorem Jr (h : callPoss ts q = true) : chkAll ts q = check1 ts q := by unfold chkAll; rw [if_pos h]
theorem Nh (h : callPoss ts q = false) : chkAll ts q = -1 := by unfold chkAll; rw [h]; rfl
theorem Hr (h : (((!tableOk ts) || (!callOk q)) || (!kindAt ts q.run 3)) = true) : callPoss ts q = false := by
  unfold callPoss
  cases h1 : tableOk ts <;> cases h2 : callOk q <;> cases h3 : kindAt ts q.run 3 <;> simp_all
theorem Wk (h : (((!tableOk ts) || (!callOk q)) || (!kindAt ts q.run 3)) = false) : callPoss ts q = true := by
  unfold callPoss
  cases h1 : tableOk ts <;> cases h2 : callOk q <;> cases h3 : kindAt ts q.run 3 <;> simp_all
theorem Uw (h : ¬ chkAll ts q = -1) : callPoss ts q = true := by
  unfold chkAll at h
  split at h
  · assumption
  · exact absurd rfl h
theorem Ni (h : ¬ chkAll ts q = -1) (h3 : ¬ q.kind = 3) : (1 ≤ (slotAt ts q.run q.a).th ∧ (slotAt ts q.run q.a).th ≤ (ts.length : Int)) ∧ kindFor q.kind (thAt ts (slotAt ts q.run q.a).th).kind = true ∧ (need0 q.kind = true → (slotAt ts q.run q.a).rd = true) ∧ (need1 q.kind = true → (slotAt ts q.run q.a).wr = true) := by
  have hp := Uw h
  obtain ⟨hT, hc, hr⟩ := Yh hp
  have hs := V0 hT (Qn hr).1 q.a
  rw [Jr hp] at h
  unfold check1 at h
  rw [if_neg h3] at h
  split at h
  · exact absurd rfl h
  rename_i h1
  unfold chk1 at h1
  simp only [Bool.or_eq_true, Bool.and_eq_true, Bool.not_eq_true', decide_eq_true_eq, not_or, not_and, Bool.not_eq_false] at h1
  obtain ⟨⟨⟨h0, hk⟩, hr1⟩, hw1⟩ := h1
  refine ⟨?_, hk, hr1, hw1⟩
  have h2 := hs.2
  unfold rightTo at h2
  rw [Bool.or_eq_true] at h2
  rcases h2 with h2 | h2
  · exact absurd (of_decide_eq_true h2) h0
  · exact Qu.1 (Bool.and_eq_true_iff.1 h2).1
theorem Rj (h : ¬ chkAll ts q = -1) (h2 : ¬ chkAll ts q = -2) (h3 : ¬ q.kind = 3) : (need0 q.kind = true → sees ts q.run (slotAt ts q.run q.a).th = true) ∧ (need1 q.kind = true → touches ts q.run (slotAt ts q.run q.a).th = true) := by
  have hp := Uw h
  rw [Jr hp] at h h2
  unfold check1 at h h2
  rw [if_neg h3] at h h2
  split at h
  · exact absurd rfl h
  rename_i h1
  rw [if_neg h1] at h2
  split at h2
  · exact absurd rfl h2
  rename_i h4
  unfold chk2 at h4
  simp only [Bool.or_eq_true, Bool.and_eq_true, Bool.not_eq_true', not_or, not_and, Bool.not_eq_false] at h4
  exact h4
theorem Lh (h : chkAll ts q = 0) (h3 : ¬ q.kind = 3) (hs : sees ts q.run (slotAt ts q.run q.a).th = true) : live ts (slotAt ts q.run q.a) = true := by
  have hp := Uw (ts := ts) (q := q) (by omega)
  rw [Jr hp] at h
  unfold check1 at h
  rw [if_neg h3] at h
  split at h
  · exact absurd h (by decide)
  split at h
  · exact absurd h (by decide)
  split at h
  · exact absurd h (by decide)
  rename_i h4
  unfold chk3 at h4
  rw [hs] at h4
  simpa using h4
theorem Mo (h : chkAll ts q = -3) (h3 : ¬ q.kind = 3) : sees ts q.run (slotAt ts q.run q.a).th = true ∧ live ts (slotAt ts q.run q.a) = false := by
  have hp := Uw (ts := ts) (q := q) (by omega)
  rw [Jr hp] at h
  unfold check1 at h
  rw [if_neg h3] at h
  split at h
  · exact absurd h (by decide)
  split at h
  · exact absurd h (by decide)
  split at h
  · rename_i h4
    unfold chk3 at h4
    simpa using h4
  · exact absurd h (by decide)
theorem Sy (hT : tableOk ts = true) (hk : kindAt ts q.run 3 = true) {t : Int} (ht : 1 ≤ t ∧ t ≤ (ts.length : Int)) : chkSees ts q.run t = sees ts q.run t := by
  unfold chkSees
  rw [hT, hk, Qu.2 ht]
  rfl
theorem To (hT : tableOk ts = true) (hk : kindAt ts q.run 3 = true) : tabLive ts (slotAt ts q.run q.a) = live ts (slotAt ts q.run q.a) := by
  unfold tabLive
  rw [hT, (V0 hT (Qn hk).1 q.a).1]
  rfl
theorem On {ms : List MTh} {run th : Int} (hT : tableOk (tabT ms) = true) (hr : 1 ≤ run ∧ run ≤ (ms.length : Int)) (ht : 1 ≤ th ∧ th ≤ (ms.length : Int)) : labelFlow (mAt ms (th - 1).toNat).t.lab (mAt ms (run - 1).toNat).t.lab = sees (tabT ms) run th := by
  rw [← De]
  unfold labelFlow
  rw [U2 hT (i := (th - 1).toNat) (by omega), U2 hT (i := (run - 1).toNat) (by omega)]
  rfl
theorem Bh {ms : List MTh} {run th : Int} (hT : tableOk (tabT ms) = true) (hr : 1 ≤ run ∧ run ≤ (ms.length : Int)) (ht : 1 ≤ th ∧ th ≤ (ms.length : Int)) : labelFlow (mAt ms (run - 1).toNat).t.lab (mAt ms (th - 1).toNat).t.lab = touches (tabT ms) run th := by
  rw [← N5]
  unfold labelFlow
  rw [U2 hT (i := (th - 1).toNat) (by omega), U2 hT (i := (run - 1).toNat) (by omega)]
  rfl
theorem Mv {c : Int} : (kindsOf c).length ≤ 3 := by
  unfold kindsOf
  repeat' split
  all_goals decide
theorem I6 {ms : List MTh} {r : Rt} (h : (decide (r.th = 0) || !kindFor q.kind (mAt ms (r.th - 1).toNat).t.kind) = true) : chk1m ms q r = true := by unfold chk1m; rw [h]; rfl
theorem I7 {ms : List MTh} {r : Rt} (h : (decide (r.th = 0) || !kindFor q.kind (mAt ms (r.th - 1).toNat).t.kind) = false) (h2 : ((need0 q.kind && !r.rd) || (need1 q.kind && !r.wr)) = true) : chk1m ms q r = true := by unfold chk1m; rw [h, Bool.false_or]; exact h2
theorem S1 {ms : List MTh} {r : Rt} (h : (decide (r.th = 0) || !kindFor q.kind (mAt ms (r.th - 1).toNat).t.kind) = false) (h2 : ((need0 q.kind && !r.rd) || (need1 q.kind && !r.wr)) = false) : chk1m ms q r = false := by unfold chk1m; rw [h, Bool.false_or]; exact h2
theorem T9 {r : Rt} (h : rightOk r = true) (h0 : decide (r.th = 0) = true) : r = Rt.zero := by
  rw [← Nx h0] at h
  exact of_decide_eq_true h
theorem G1 {ms : List MTh} {i j : Nat} {m : MTh} (hi : i < ms.length) (hne : ¬ j = i) : (ms.set j m)[i]? = some (mAt ms i) := by
  rw [List.getElem?_set_ne hne]
  exact J5 hi
theorem Gl {ms : List MTh} {i j : Nat} {m : MTh} {α : Type} {f : MTh → α} (hi : i < ms.length) (hne : ¬ j = i) : f (mAt ms i) = f (mAt (ms.set j m) i) := by
  have h := G1 (m := m) hi hne
  have h2 := J5 (ms := ms.set j m) (i := i) (by rw [List.length_set]; exact hi)
  rw [h] at h2
  rw [Option.some.inj h2]
end
end Go.Dw
end
section
namespace Go.Dw
section
variable {ts : List Th} {q : Cl}
def doPre (ts : List Th) (q : Cl) : List Th :=
  if check1 ts q < 0 then ts else if q.kind = 3 then putSl ts q.run q.b (lessBits (slotAt ts q.run q.a) q.n) else if live ts (slotAt ts q.run q.a) = true then (far ts q (slotAt ts q.run q.a)).1 else ts
def doAns (ts : List Th) (q : Cl) : Int :=
  if check1 ts q < 0 then check1 ts q else if q.kind = 3 then check1 ts q else if live ts (slotAt ts q.run q.a) = true then told ts q (slotAt ts q.run q.a) else check1 ts q
theorem U9 : doCall ts q = (setNum (doPre ts q) q.run (doAns ts q), doAns ts q) := by
  unfold doCall doPre doAns
  split
  · rfl
  split
  · rfl
  split <;> rfl
def Like (a b : Th) : Prop := b.kind = a.kind ∧ b.lab = a.lab ∧ b.to = a.to ∧ a.ve ≤ b.ve
theorem Like.refl (a : Th) : Like a a := ⟨rfl, rfl, rfl, Int.le_refl _⟩
theorem Like.trans {a b c : Th} (h : Like a b) (k : Like b c) : Like a c := ⟨k.1.trans h.1, k.2.1.trans h.2.1, k.2.2.1.trans h.2.2.1, Int.le_trans h.2.2.2 k.2.2.2⟩
theorem Vz {us : List Th} {k : Int} {t : Th} (hk : 1 ≤ k ∧ k ≤ (us.length : Int)) (h : Like (thAt us k) t) (j : Int) (hj : 1 ≤ j) : Like (thAt us j) (thAt (setTh us k t) j) := by
  rw [Ji hk j hj]
  split
  · rename_i e; rw [e]; exact h
  · exact Like.refl _
theorem Lm {r : Rt} (h : FarOk ts q r) (j : Int) (hj : 1 ≤ j) : Like (thAt ts j) (thAt (far ts q r).1 j) := by
  have hrun := (Qn h.run).1
  have hc := Yq h.call
  have hn := h.copy
  unfold far
  split
  · exact Like.refl _
  split
  · refine Vz h.th ?_ j hj; exact ⟨rfl, rfl, rfl, Int.le_refl _⟩
  split
  · refine Vz hrun ?_ j hj; exact ⟨rfl, rfl, rfl, Int.le_refl _⟩
  split
  · refine Vz h.th ?_ j hj; exact ⟨rfl, rfl, rfl, Int.le_refl _⟩
  split
  · split
    · refine Vz h.th ?_ j hj; exact ⟨rfl, rfl, rfl, Int.le_refl _⟩
    · exact Like.refl _
  split
  · split
    · exact Like.refl _
    · refine Vz h.th ?_ j hj; exact ⟨rfl, rfl, rfl, Int.le_refl _⟩
  split
  · split
    · refine Vz h.th ?_ j hj; exact ⟨rfl, rfl, rfl, by show _ ≤ (_ : Int) + 1; omega⟩
    · exact Like.refl _
  · rename_i e1 e2 e4 e5 e6 e7 e8
    have h5 := (Q0 h.kind hc.1).2.2.2.2.2.2.2 (by omega)
    have hg := Qn (Uz h.tab h.th h5)
    have h1 := Vz (t := { thAt ts (thAt ts r.th).to with num := q.n % 2 }) hg.1 ⟨rfl, rfl, rfl, Int.le_refl _⟩ j hj
    have hth : 1 ≤ r.th ∧ r.th ≤ ((setNum ts (thAt ts r.th).to (q.n % 2)).length : Int) := by unfold setNum; rw [Jt]; exact h.th
    show Like (thAt ts j) (thAt (setTh (setNum ts (thAt ts r.th).to (q.n % 2)) r.th _) j)
    rw [Ji hth j hj]
    split
    · rename_i e; rw [e]; exact ⟨rfl, rfl, rfl, Int.le_refl _⟩
    · exact h1
theorem S0 (hp : callPoss ts q = true) (j : Int) (hj : 1 ≤ j) : Like (thAt ts j) (thAt (doPre ts q) j) := by
  obtain ⟨hT, hc, hr⟩ := Yh hp
  unfold doPre
  split
  · exact Like.refl _
  rename_i h0
  split
  · refine Vz (Qn hr).1 ?_ j hj; exact ⟨rfl, rfl, rfl, Int.le_refl _⟩
  rename_i h3
  split
  · rename_i hl
    exact Lm (Vi hp h0 h3 hl) j hj
  · exact Like.refl _
theorem Mq (hp : callPoss ts q = true) : (doPre ts q).length = ts.length := by
  unfold doPre
  split
  · rfl
  rename_i h0
  split
  · exact Jt
  rename_i h3
  split
  · rename_i hl
    exact (Pf (Vi hp h0 h3 hl)).2.1
  · rfl
theorem Gx (hp : callPoss ts q = true) : 1 ≤ q.run ∧ q.run ≤ ((doPre ts q).length : Int) := by rw [Mq hp]; exact (Qn (Yh hp).2.2).1
theorem Rn (hp : callPoss ts q = true) (j : Int) (hj : 1 ≤ j) : Like (thAt ts j) (thAt (doCall ts q).1 j) := by
  rw [U9]
  refine (S0 hp j hj).trans (Vz (Gx hp) ?_ j hj)
  exact ⟨rfl, rfl, rfl, Int.le_refl _⟩
theorem Sz (hp : callPoss ts q = true) : (thAt (doCall ts q).1 q.run).num = (doCall ts q).2 := by
  rw [U9]
  show (thAt (setTh (doPre ts q) q.run _) q.run).num = _
  rw [Ji (Gx hp) q.run (Gx hp).1, if_pos rfl]
theorem Ed {r : Rt} (h : FarOk ts q r) : (0 ≤ (far ts q r).2 ∨ ((far ts q r).2 = -4 ∧ (q.kind = 6 ∨ q.kind = 7 ∨ q.kind = 8))) ∧ ((far ts q r).2 ≤ 0 ∨ q.kind = 1 ∨ q.kind = 7) := by
  have hc := Yq h.call
  have hk := Q0 h.kind hc.1
  have hrow := Ur h.tab h.th
  unfold far
  split
  · rename_i e
    have h4 := (Jg hrow.1).2.2.2.1
    unfold numOk at h4
    rw [if_pos (Or.inl (hk.1 e))] at h4
    exact ⟨Or.inl (Qu.1 h4).1, Or.inr (Or.inl e)⟩
  split
  · exact ⟨Or.inl (Int.le_refl 0), Or.inl (Int.le_refl 0)⟩
  split
  · exact ⟨Or.inl (Int.le_refl 0), Or.inl (Int.le_refl 0)⟩
  split
  · exact ⟨Or.inl (Int.le_refl 0), Or.inl (Int.le_refl 0)⟩
  split
  · rename_i e
    split
    · exact ⟨Or.inl (Int.le_refl 0), Or.inl (Int.le_refl 0)⟩
    · exact ⟨Or.inr ⟨rfl, Or.inl e⟩, Or.inl (show (-4 : Int) ≤ 0 by decide)⟩
  split
  · rename_i e
    have hp := Hk hrow.1 (hk.2.2.2.2.2.1 e)
    split
    · exact ⟨Or.inr ⟨rfl, Or.inr (Or.inl e)⟩, Or.inl (show (-4 : Int) ≤ 0 by decide)⟩
    · rename_i hl
      have := Qu.1 (List.all_eq_true.1 hp.2 _ (List.mem_of_getElem? (Ve (i := 0) (by omega))))
      exact ⟨Or.inl this.1, Or.inr (Or.inr e)⟩
  split
  · rename_i e
    split
    · exact ⟨Or.inl (Int.le_refl 0), Or.inl (Int.le_refl 0)⟩
    · exact ⟨Or.inr ⟨rfl, Or.inr (Or.inr e)⟩, Or.inl (show (-4 : Int) ≤ 0 by decide)⟩
  · exact ⟨Or.inl (Int.le_refl 0), Or.inl (Int.le_refl 0)⟩
theorem Nj (hp : callPoss ts q = true) : ((0 ≤ doAns ts q ∨ (doAns ts q = -4 ∧ (q.kind = 6 ∨ q.kind = 7 ∨ q.kind = 8))) ∨ (check1 ts q < 0 ∧ doAns ts q = check1 ts q)) ∧ (doAns ts q ≤ 0 ∨ q.kind = 1 ∨ q.kind = 7) := by
  have hr := Kj ts q
  unfold doAns
  split
  · rename_i h0; exact ⟨Or.inr ⟨h0, rfl⟩, Or.inl hr.2⟩
  rename_i h0
  split
  · exact ⟨Or.inl (Or.inl (by omega)), Or.inl hr.2⟩
  rename_i h3
  split
  · rename_i hl
    have h := Ed (Vi hp h0 h3 hl)
    unfold told
    split
    · exact ⟨Or.inl h.1, h.2⟩
    · exact ⟨Or.inl (Or.inl (Int.le_refl 0)), Or.inl (Int.le_refl 0)⟩
  · exact ⟨Or.inl (Or.inl (by omega)), Or.inl hr.2⟩
theorem Mp (hp : callPoss ts q = true) : -4 ≤ doAns ts q ∧ doAns ts q ≤ 99 := by
  have hr := Kj ts q
  unfold doAns
  split
  · omega
  rename_i h0
  split
  · omega
  rename_i h3
  split
  · rename_i hl; exact Sh (Vi hp h0 h3 hl)
  · omega
theorem Dt {us vs : List Th} (hl : us.length = vs.length) (h : ∀ j : Int, 1 ≤ j → j ≤ (us.length : Int) → thAt us j = thAt vs j) : us = vs := by
  refine List.ext_getElem? fun i => ?_
  by_cases hi : i < us.length
  · have h1 := h ((i : Int) + 1) (by omega) (by omega)
    have e : ((i : Int) + 1 - 1).toNat = i := by omega
    have h2 := L1 (ts := us) (k := (i : Int) + 1) ⟨by omega, by omega⟩
    have h3 := L1 (ts := vs) (k := (i : Int) + 1) ⟨by omega, by omega⟩
    rw [e] at h2 h3
    rw [h2, h3, h1]
  · rw [List.getElem?_eq_none (by omega), List.getElem?_eq_none (by omega)]
theorem Sc {k n : Int} (hk : 1 ≤ k ∧ k ≤ (ts.length : Int)) : setNum (setNum ts k n) k (thAt ts k).num = ts := by
  unfold setNum
  rw [N4]
  refine Dt Jt fun j hj _ => ?_
  rw [Ji hk j hj]
  split
  · rename_i e
    rw [Ji hk k hk.1, if_pos rfl, e]
  · rfl
theorem Mr {r : Rt} (h : FarOk ts q r) {j : Int} (hj : 1 ≤ j) (hne : ¬ thAt (far ts q r).1 j = thAt ts j) : (q.kind = 4 ∧ j = q.run) ∨ ((q.kind = 2 ∨ q.kind = 5 ∨ q.kind = 6 ∨ q.kind = 7 ∨ q.kind = 8 ∨ q.kind = 9) ∧ j = r.th) ∨ (q.kind = 9 ∧ j = (thAt ts r.th).to) := by
  have hrun := (Qn h.run).1
  have hc := Yq h.call
  have hn := h.copy
  have one : ∀ {k : Int} {t : Th}, 1 ≤ k ∧ k ≤ (ts.length : Int) → ¬ thAt (setTh ts k t) j = thAt ts j → j = k := fun hk hx => by
    rw [Ji hk j hj] at hx
    split at hx
    · assumption
    · exact absurd rfl hx
  unfold far at hne
  split at hne
  · exact absurd rfl hne
  split at hne
  · rename_i e; exact Or.inr (Or.inl ⟨by omega, one h.th hne⟩)
  split at hne
  · rename_i e; exact Or.inl ⟨e, one hrun hne⟩
  split at hne
  · rename_i e; exact Or.inr (Or.inl ⟨by omega, one h.th hne⟩)
  split at hne
  · rename_i e
    split at hne
    · exact Or.inr (Or.inl ⟨by omega, one h.th hne⟩)
    · exact absurd rfl hne
  split at hne
  · rename_i e
    split at hne
    · exact absurd rfl hne
    · exact Or.inr (Or.inl ⟨by omega, one h.th hne⟩)
  split at hne
  · rename_i e
    split at hne
    · exact Or.inr (Or.inl ⟨by omega, one h.th hne⟩)
    · exact absurd rfl hne
  · rename_i e1 e2 e4 e5 e6 e7 e8
    have h9 : q.kind = 9 := by omega
    have h5 := (Q0 h.kind hc.1).2.2.2.2.2.2.2 h9
    have hg := Qn (Uz h.tab h.th h5)
    have hth : 1 ≤ r.th ∧ r.th ≤ ((setNum ts (thAt ts r.th).to (q.n % 2)).length : Int) := by unfold setNum; rw [Jt]; exact h.th
    change ¬ thAt (setTh (setNum ts (thAt ts r.th).to (q.n % 2)) r.th _) j = thAt ts j at hne
    rw [Ji hth j hj] at hne
    split at hne
    · rename_i e; exact Or.inr (Or.inl ⟨by omega, e⟩)
    · exact Or.inr (Or.inr ⟨h9, one hg.1 hne⟩)
theorem G3 (hp : callPoss ts q = true) {j : Int} (hj : 1 ≤ j) (hne : ¬ thAt (doCall ts q).1 j = thAt ts j) : j = q.run ∨ ((kindFor q.kind (thAt ts (slotAt ts q.run q.a).th).kind = true ∧ ¬ q.kind = 3 ∧ 1 ≤ (slotAt ts q.run q.a).th ∧ (slotAt ts q.run q.a).th ≤ (ts.length : Int)) ∧ (((q.kind = 2 ∨ q.kind = 5 ∨ q.kind = 6 ∨ q.kind = 7 ∨ q.kind = 8 ∨ q.kind = 9) ∧ j = (slotAt ts q.run q.a).th) ∨ (q.kind = 9 ∧ j = (thAt ts (slotAt ts q.run q.a).th).to))) := by
  by_cases hjr : j = q.run
  · exact Or.inl hjr
  refine Or.inr ?_
  rw [U9] at hne
  change ¬ thAt (setTh (doPre ts q) q.run _) j = thAt ts j at hne
  rw [Ji (Gx hp) j hj, if_neg hjr] at hne
  unfold doPre at hne
  have hrun := (Qn (Yh hp).2.2).1
  split at hne
  · exact absurd rfl hne
  rename_i h0
  split at hne
  · unfold putSl at hne
    rw [Ji hrun j hj, if_neg hjr] at hne
    exact absurd rfl hne
  rename_i h3
  split at hne
  · rename_i hl
    have hF := Vi hp h0 h3 hl
    refine ⟨⟨hF.kind, h3, hF.th⟩, ?_⟩
    rcases Mr hF hj hne with h | h | h
    · exact absurd h.2 hjr
    · exact Or.inl h
    · exact Or.inr h
  · exact absurd rfl hne
theorem M0 (hp : callPoss ts q = true) {j : Int} (hj : 1 ≤ j) (hr : ¬ j = q.run) (hk : (thAt ts j).kind = 3) : thAt (doCall ts q).1 j = thAt ts j := by
  by_cases hne : thAt (doCall ts q).1 j = thAt ts j
  · exact hne
  exfalso
  obtain ⟨hT, hc, hrun⟩ := Yh hp
  have hco := Yq hc
  rcases G3 hp hj hne with h | ⟨⟨hkf, h3, hth⟩, h | h⟩
  · exact hr h
  · have := Q0 hkf hco.1
    rw [← h.2, hk] at this
    omega
  · have h5 := (Q0 hkf hco.1).2.2.2.2.2.2.2 h.1
    have hg := Qn (Uz hT hth h5)
    rw [← h.2, hk] at hg
    exact absurd hg.2 (by decide)
theorem M1 (hp : callPoss ts q = true) {j : Int} (hj : 1 ≤ j) (hne : ¬ thAt (doCall ts q).1 j = thAt ts j) : ((thAt ts j).kind = 1 → q.kind = 2 ∨ q.kind = 8 ∨ q.kind = 9) ∧ ((thAt ts j).kind = 2 → q.kind = 5 ∨ q.kind = 8) ∧ ((thAt ts j).kind = 4 → q.kind = 6 ∨ q.kind = 7 ∨ q.kind = 8) ∧ ((thAt ts j).kind = 5 → q.kind = 9) := by
  obtain ⟨hT, hc, hrun⟩ := Yh hp
  have hco := Yq hc
  have hr := (Qn hrun).2
  rcases G3 hp hj hne with h | ⟨⟨hkf, h3, hth⟩, h | h⟩
  · rw [h, hr]
    exact ⟨by omega, by omega, by omega, by omega⟩
  · have := Q0 hkf hco.1
    rw [← h.2] at this
    exact ⟨by omega, by omega, by omega, by omega⟩
  · have h5 := (Q0 hkf hco.1).2.2.2.2.2.2.2 h.1
    have hg := Qn (Uz hT hth h5)
    rw [← h.2] at hg
    exact ⟨by omega, by omega, by omega, by omega⟩
theorem D8 (hp : callPoss ts q = true) (h1 : q.kind = 1) (ha : 0 ≤ doAns ts q) : doAns ts q = (thAt ts (slotAt ts q.run q.a).th).num ∧ doPre ts q = ts := by
  have h3 : ¬ q.kind = 3 := by omega
  have hck := Kj ts q
  have e := Jr hp
  have h0 : ¬ check1 ts q < 0 := fun h => by unfold doAns at ha; rw [if_pos h] at ha; omega
  have hz : chkAll ts q = 0 := by omega
  have hs := (Rj (ts := ts) (q := q) (by omega) (by omega) h3).1 (by unfold need0; rw [if_pos (Or.inl h1)])
  have hl := Lh hz h3 hs
  have hf : far ts q (slotAt ts q.run q.a) = (ts, (thAt ts (slotAt ts q.run q.a).th).num) := by unfold far; rw [if_pos h1]
  unfold doAns doPre told
  rw [if_neg h0, if_neg h3, if_pos hl, if_neg h0, if_neg h3, if_pos hl, hf, if_pos hs]
  exact ⟨rfl, rfl⟩
theorem Wl (h : check1 ts q < 0) : doAns ts q = check1 ts q ∧ doPre ts q = ts := by
  unfold doAns doPre
  rw [if_pos h, if_pos h]
  exact ⟨rfl, rfl⟩
theorem Qs (h : callPoss ts q = true) : callDo ts q = doCall ts q := by unfold callDo; rw [if_pos h]
theorem Gi (h : callPoss ts q = false) : callDo ts q = ([], -1) := by unfold callDo; rw [h]; rfl
theorem TabG.nil {lo : Nat} {w : World} {a : Option Addr} : TabG lo w a [] := ⟨fun k x h => by simp at h, fun m hm => by cases hm⟩
theorem Q3 {xs : List MTh} (h : tabT xs = (callDo ts q).1) : TabLen xs := by
  cases hp : callPoss ts q with
  | true => exact TabLen.ok (by rw [h, Qs hp]; exact (Uj hp).1)
  | false =>
    rw [Gi hp] at h
    have : xs = [] := List.map_eq_nil_iff.1 h
    rw [this]
    intro m hm
    cases hm
theorem Qo {xs : List MTh} (h : tabT xs = (callDo ts q).1) : xs.length ≤ 8 := by
  cases hp : callPoss ts q with
  | true =>
    have hT : tableOk (tabT xs) = true := by rw [h, Qs hp]; exact (Uj hp).1
    exact (Jb hT).2
  | false =>
    rw [Gi hp] at h
    have : xs = [] := List.map_eq_nil_iff.1 h
    rw [this]
    exact Nat.zero_le _
theorem Q1 {ms xs : List MTh} (h : tabT xs = (callDo (tabT ms) q).1) (hp : callPoss (tabT ms) q = true) : xs.length = ms.length := by
  have := congrArg List.length h
  rwa [Qs hp, (Uj hp).2.1, Qd, Qd] at this
def rc (ns : List Int) (k : Int) (j : Nat) : Int := if (j : Int) < k then iAt ns j else 0
theorem Ue {ns : List Int} {k : Int} {j : Nat} (h : (ns.length : Int) ≤ k) : rc ns k j = iAt ns j := by
  unfold rc
  split
  · rfl
  · unfold iAt
    rw [List.getD_eq_getElem?_getD, List.getElem?_eq_none (by omega)]
    rfl
theorem q_0 {l : List Int} (h : l.length = 0) (n : Int) : [n] = l ++ [n] := by
  rw [List.length_eq_zero_iff.1 h]; rfl
theorem q_1 {l : List Int} (h : l.length = 1) (n : Int) : [iAt l 0, n] = l ++ [n] := by
  obtain ⟨a, rfl⟩ := List.length_eq_one_iff.1 h
  rfl
theorem q_2 {l : List Int} (h : l.length = 2) (n : Int) : [iAt l 0, iAt l 1, n] = l ++ [n] := by
  match l, h with
  | [a, b], _ => rfl
theorem t_1 {l : List Int} (h : l.length = 1) : [] = l.drop 1 := by
  match l, h with
  | [a], _ => rfl
theorem t_2 {l : List Int} (h : l.length = 2) : [iAt l 1] = l.drop 1 := by
  match l, h with
  | [a, b], _ => rfl
theorem t_3 {l : List Int} (h : l.length = 3) : [iAt l 1, iAt l 2] = l.drop 1 := by
  match l, h with
  | [a, b, c], _ => rfl
theorem Pv {zs ms : List MTh} {k : Nat} {m' : MTh} (h : (tabT zs).take k = (tabT ms).take k) (hk : k < zs.length) (hk2 : k < ms.length) (e : m'.t = (mAt ms k).t) : (tabT (zs.set k m')).take (k + 1) = (tabT ms).take (k + 1) := by
  apply List.ext_getElem?
  intro i
  rw [List.getElem?_take, List.getElem?_take]
  by_cases hi : i < k + 1
  · rw [if_pos hi, if_pos hi]
    unfold tabT
    rw [List.getElem?_map, List.getElem?_map, List.getElem?_set]
    by_cases e2 : k = i
    · subst e2
      rw [if_pos rfl, if_pos hk, J5 hk2]
      simp [e]
    · rw [if_neg e2]
      have h3 := congrArg (fun l => l[i]?) h
      simp only [List.getElem?_take, tabT, List.getElem?_map] at h3
      rw [if_pos (by omega), if_pos (by omega)] at h3
      exact h3
  · rw [if_neg hi, if_neg hi]
theorem Pw {zs ms : List MTh} {k : Nat} (h : (tabT zs).take k = (tabT ms).take k) (h1 : zs.length ≤ k) (h2 : ms.length ≤ k) : tabT zs = tabT ms := by
  rwa [List.take_of_length_le (by rw [Qd]; exact h1), List.take_of_length_le (by rw [Qd]; exact h2)] at h
theorem Tk {TR TI lo n : Nat} {w : World} : RowsO TR TI lo w (List.replicate n MTh.zero) := by
  refine ⟨fun m hm => ?_, fun i j S hi hj _ e => ?_⟩
  · obtain ⟨_, rfl⟩ := List.mem_replicate.1 hm
    exact ⟨OwnN.nil, OwnN.nil⟩
  · exfalso
    have h1 := List.mem_of_getElem? (J5 hi)
    have h2 := (List.mem_replicate.1 h1).2
    rw [h2] at e
    cases e
theorem B8 {r : Rt} (h : FarOk ts q r) : sees (far ts q r).1 q.run r.th = sees ts q.run r.th := by
  have h1 := Lm h q.run (Qn h.run).1.1
  have h2 := Lm h r.th h.th.1
  unfold sees
  rw [h1.2.1, h2.2.1]
theorem U7 (h0 : check1 ts q = 0) (h3 : ¬ q.kind = 3) (hl : live ts (slotAt ts q.run q.a) = false) : doAns ts q = 0 ∧ doPre ts q = ts := by
  have h1 : ¬ check1 ts q < 0 := by omega
  refine ⟨?_, ?_⟩
  · unfold doAns
    rw [if_neg h1, if_neg h3, if_neg (by rw [hl]; exact Bool.false_ne_true)]
    exact h0
  · unfold doPre
    rw [if_neg h1, if_neg h3, if_neg (by rw [hl]; exact Bool.false_ne_true)]
theorem Wh {r : Rt} (hr : slotAt ts q.run q.a = r) (h0 : check1 ts q = 0) (h3 : ¬ q.kind = 3) (hl : live ts r = true) (hF : FarOk ts q r) : doAns ts q = (if sees ts q.run r.th = true then (far ts q r).2 else 0) ∧ doPre ts q = (far ts q r).1 := by
  subst hr
  have h1 : ¬ check1 ts q < 0 := by omega
  refine ⟨?_, ?_⟩
  · unfold doAns told
    rw [if_neg h1, if_neg h3, if_pos hl, B8 hF]
  · unfold doPre
    rw [if_neg h1, if_neg h3, if_pos hl]
theorem Bn {r : Rt} (hr : slotAt ts q.run q.a = r) (h3 : q.kind = 3) : doAns ts q = 0 ∧ doPre ts q = putSl ts q.run q.b (lessBits r q.n) := by
  subst hr
  have hc : check1 ts q = 0 := by unfold check1; rw [if_pos h3]
  have h1 : ¬ check1 ts q < 0 := by omega
  refine ⟨?_, ?_⟩
  · unfold doAns
    rw [if_neg h1, if_pos h3]
    exact hc
  · unfold doPre
    rw [if_neg h1, if_pos h3]
theorem Bm {n : Int} (h : 0 ≤ n ∧ n ≤ 99) : (!decide (bits .and .i64 n 1 = 0)) = decide (n % 2 = 1) ∧ (!decide (bits .and .i64 n 2 = 0)) = decide (n / 2 % 2 = 1) ∧ (!decide (bits .and .i64 n 4 = 0)) = decide (n / 4 % 2 = 1) := by
  have key : ∀ k : Fin 100, (!decide (bits .and .i64 (k.val : Int) 1 = 0)) = decide ((k.val : Int) % 2 = 1) ∧ (!decide (bits .and .i64 (k.val : Int) 2 = 0)) = decide ((k.val : Int) / 2 % 2 = 1) ∧ (!decide (bits .and .i64 (k.val : Int) 4 = 0)) = decide ((k.val : Int) / 4 % 2 = 1) := by decide +kernel
  have h1 := key ⟨n.toNat, by omega⟩
  have e : ((n.toNat : Nat) : Int) = n := by omega
  simp only [e] at h1
  exact h1
theorem C0 {r : Rt} {n : Int} (h : 0 ≤ n ∧ n ≤ 99) : l2Less r (!decide (bits .and .i64 n 1 = 0)) (!decide (bits .and .i64 n 2 = 0)) (!decide (bits .and .i64 n 4 = 0)) = lessBits r n := by
  obtain ⟨h1, h2, h3⟩ := Bm h
  unfold lessBits
  rw [h1, h2, h3]
theorem U8 : (doCall ts q).1 = setNum (doPre ts q) q.run (doAns ts q) := by rw [U9]
theorem Um : (doCall ts q).2 = doAns ts q := by rw [U9]
theorem O6 {ms : List MTh} : (((tableOk (tabT ms) && callOk q) && decide (q.run ≤ (ms.length : Int))) && decide ((mAt ms (q.run - 1).toNat).t.kind = 3)) = callPoss (tabT ms) q := by
  unfold callPoss
  rw [← G5]
  cases h1 : tableOk (tabT ms) <;> cases h2 : callOk q <;> try rfl
  have hco := Yq h2
  have e : inR q.run 1 (ms.length : Int) = decide (q.run ≤ (ms.length : Int)) := by
    unfold inR
    rw [decide_eq_true hco.2.1.1]
    rfl
  rw [e]
  rfl
theorem Wr (ms : List MTh) (k : Nat) : (mAt ms k).t = thAt (tabT ms) ((k : Int) + 1) := by
  have h := Qw ms ((k : Int) + 1)
  rwa [show ((k : Int) + 1 - 1).toNat = k by omega] at h
theorem Ts {ms xs : List MTh} (ht : tabT xs = (callDo (tabT ms) q).1) (hp : callPoss (tabT ms) q = true) (k : Nat) : (mAt xs k).t = thAt (doCall (tabT ms) q).1 ((k : Int) + 1) := by rw [Wr, ht, Qs hp]
theorem C1 {ms xs : List MTh} (ht : tabT xs = (callDo (tabT ms) q).1) (hp : callPoss (tabT ms) q = true) (k : Nat) : Like (mAt ms k).t (mAt xs k).t := by
  rw [Ts ht hp, Wr]
  exact Rn hp _ (by omega)
theorem Z9 {ms xs : List MTh} (ht : tabT xs = (callDo (tabT ms) q).1) (hp : callPoss (tabT ms) q = true) {k : Nat} (h1 : ¬ (k : Int) + 1 = q.run) (h2 : (mAt ms k).t.kind = 3) : (mAt xs k).t = (mAt ms k).t := by
  rw [Wr] at h2
  rw [Ts ht hp, Wr]
  exact M0 hp (by omega) h1 h2
theorem Pp {ms xs : List MTh} (ht : tabT xs = (callDo (tabT ms) q).1) (hp : callPoss (tabT ms) q = true) {k : Nat} (hne : ¬ (mAt xs k).t = (mAt ms k).t) : ((mAt ms k).t.kind = 1 → q.kind = 2 ∨ q.kind = 8 ∨ q.kind = 9) ∧ ((mAt ms k).t.kind = 2 → q.kind = 5 ∨ q.kind = 8) ∧ ((mAt ms k).t.kind = 4 → q.kind = 6 ∨ q.kind = 7 ∨ q.kind = 8) ∧ ((mAt ms k).t.kind = 5 → q.kind = 9) := by
  rw [Ts ht hp, Wr] at hne
  rw [Wr]
  exact M1 hp (by omega) hne
theorem Od {ms xs : List MTh} (ht : tabT xs = (callDo (tabT ms) q).1) (hp : callPoss (tabT ms) q = true) : (mAt xs (q.run - 1).toNat).t.num = (callDo (tabT ms) q).2 := by
  rw [Qw, ht, Qs hp]
  exact Sz hp
theorem Z6 (hp : callPoss ts q = true) : tableOk (callDo ts q).1 = true := by rw [Qs hp]; exact (Uj hp).1
theorem Ol (hp : callPoss ts q = true) : -4 ≤ (callDo ts q).2 ∧ (callDo ts q).2 ≤ 99 := by rw [Qs hp, Um]; exact Mp hp
theorem Bp (hp : callPoss ts q = true) (h : decide ((callDo ts q).2 = (-4)) = true) : ((decide (q.kind = 6) || decide (q.kind = 7)) || decide (q.kind = 8)) = true := by
  rw [Qs hp, Um] at h
  have h := of_decide_eq_true h
  have hc := Kj ts q
  rcases (Nj hp).1 with (h1 | ⟨_, h1 | h1 | h1⟩) | ⟨_, h1⟩
  · omega
  · simp [h1]
  · simp [h1]
  · simp [h1]
  · omega
theorem Bo (hp : callPoss ts q = true) : ((decide ((callDo ts q).2 ≤ 0) || decide (q.kind = 1)) || decide (q.kind = 7)) = true := by
  rw [Qs hp, Um]
  rcases (Nj hp).2 with h1 | h1 | h1 <;> simp [h1]
end
end Go.Dw
end
section
namespace Go.Proofs.YtjpgffmkcmcolaaGreatDoor
open Go.RowKit Go.Dw
set_option maxRecDepth 100000
set_option maxHeartbeats 4000000
set_option linter.unusedSimpArgs false
set_option linter.unusedVariables false
theorem Fo : goFn Tryz.prog 32 = true := by kernel_rfl
theorem Ps (q : Cl) (w : World) (ms : List MTh) (a : Option Addr) (c : Nat) (ht : TabAt w a ms) (hlen : TabLen ms) (hn : ms.length ≤ 1048576) : CallsR Tryz.prog 30 #[.slice a ms.length c, .agg #[vi q.kind, vi q.run, vi q.a, vi q.b, vi q.n]] w (fun v w' => v = vi (chkAll (tabT ms) q) ∧ w.grownBy w' none) := by
 refine Xx (n := 23) Tryz.func30 Z Tryz.ntmps30 Z ?_
 have a9 := World.grownBy.refl w none
 refine Xa (Qf (v := .agg #[vi q.kind, vi q.run, vi q.a, vi q.b, vi q.n]) (cs := #[vi q.kind, vi q.run, vi q.a, vi q.b, vi q.n]) Z Z Z ?_)
 intro am ba O
 have bd := Yj O a9
 have ac := low0 a9 O.grw
 refine Xe (v := vi 0) Z Z (Xc (Xq (X7 (fun f' w' => (f' 0 = .slice a ms.length c ∧ f' 3 = pt am 0 ∧ f' 4 = vi 0 ∧ f' 19 = vb (((!tableOk (tabT ms)) || (!callOk q)) || (!kindAt (tabT ms) q.run 3))) ∧ ba.grownBy w' none) ?_ ?_)))
 refine Xb (v := .slice a ms.length c) Z Z (Xl Cj (Xg Z Xk) Z (G0  _ ms _ _ (TabAt.low ht ac) hlen (by omega)) ?_)
 rintro _ bg ⟨rfl, J⟩
 refine Yl (b' := !tableOk (tabT ms)) Z Z Z (Xb (v := vb (!tableOk (tabT ms))) Z Z ?_)
 rcases Yf (!tableOk (tabT ms)) with G | G
 have aq := Q2 G
 iterate 3 refine Xi rfl rfl rfl G rfl ?_
 refine Xs (v := vb true) Z G Z Z (Xb (v := vb true) Z Z ?_)
 iterate 5 refine Xi rfl rfl rfl rfl rfl ?_
 exact Xs (v := vb true) Z Z Z Z (Xc ⟨⟨Z, Z, Z, (cB (by simp [G, aq]))⟩, J⟩)
 have af := Qx G
 refine Xf Z Z Z G ?_
 have aj := (O.blk.grown0 J)
 refine Xp (vs := [vi q.kind, vi q.run, vi q.a, vi q.b, vi q.n]) Y1 Z Z (aj.rangeL 0 5 Z) Z (Xf Z Z Z G (Xl Fo (Xg Z Xk) Z (N3 q _) ?_))
 rintro _ bh ⟨rfl, V⟩
 refine Xf Z Z Z G (Yl (b' := !callOk q) Z Z Z (Xo (v := vb (!callOk q)) Z G Z Z (Xb (v := vb (!callOk q)) Z Z ?_)))
 rcases Yf (!callOk q) with E | E
 have ar := Q2 E
 iterate 5 refine Xi rfl rfl rfl E rfl ?_
 exact Xs (v := vb true) Z E Z Z (Xc ⟨⟨Z, Z, Z, (cB (by simp [G, af, E, ar]))⟩, (grown_trans J V)⟩)
 have ag := Qx E
 have bb := Yq ag
 refine Xf Z Z Z E (Xb (v := .slice a ms.length c) Z Z (Xf Z Z Z E (Xd (o' := 1) Qv Z Z Z (Xf Z Z Z E (Xh (v := vi q.run) X1 Z ((aj.grown0 V).cell Z) Z (Xf Z Z Z E (Xl Ck (Xg Z (Xg Z Xk)) Z (Lr q.run (by omega) _ ms _ _ (TabAt.low ht (low0 (low0 ac J) V)) hlen (by omega)) ?_)))))))
 rintro _ bi ⟨rfl, ak⟩
 exact Xf Z Z Z E (Yl (b' := !kindAt (tabT ms) q.run 3) Z Z Z (Xo (v := vb (!kindAt (tabT ms) q.run 3)) Z E Z Z (Xc ⟨⟨Z, Z, Z, (cB (by simp [G, af, E, ag]))⟩, (grown_trans (grown_trans J V) ak)⟩)))
 rintro bf bj ⟨⟨an, ao, be, ap⟩, ae⟩
 have ad := low0 ac ae
 refine Xy ap (fun ab => ?_) (fun ab => ?_)
 refine Xa (Xe (v := vi (-1)) Z Z (Xc (Xt (Yk (⟨vi (-1), Yp Z Z, ?_, ad⟩)))))
 exact congrArg (Value.int .i64) (Nh (Hr ab)).symm
 have ah := Kq ab
 have au := Kq ah
 have av := Qx au
 have aw := Kr ah
 have ai := Qx aw
 have bc := Yq ai
 have az := Kr ab
 have a8 := Qx az
 refine Xw (Xu (Xa (Xb (v := .slice a ms.length c) an Z (Xp (vs := [vi q.kind, vi q.run, vi q.a, vi q.b, vi q.n]) Y1 ao Z ((O.blk.grown0 ae).rangeL 0 5 Z) Z (Xl Fw (Xg Z (Xg Z Xk)) Z (Lq q _ ms _ _ (TabAt.low ht ad) hlen (by omega) av ai a8) ?_)))))
 rintro _ bk ⟨rfl, al⟩
 refine Xe (v := vi (check1 (tabT ms) q)) Z Z (Xc (Xt (⟨vi (check1 (tabT ms) q), Yp Z Z, ?_, (low0 ad al)⟩)))
 exact congrArg (Value.int .i64) (Jr (Wk ab)).symm
end Go.Proofs.YtjpgffmkcmcolaaGreatDoor
end
section
namespace Go.Proofs.YtjpgffmkcmcolaaGreatDoor
open Go.RowKit Go.Extern.Stop Go.Stop Go.Extern
theorem Iy (t : Value) (w : World) :
    Calls Tryz.prog 50 #[.nilIface, t] w fun e w' => e = .returned (.bool false) ∧ w' = w := by
  go_enter Tryz.func50, Tryz.ntmps50
  go_wp2
  go_ret
  exact ⟨rfl, rfl⟩
theorem Pa (t : Addr) (w : World) : (ReflectliteValue.unpack (.iface 75 (.pointer (some t)))).run Tryz.prog w
    = .ok (.agg #[.pointer (some ⟨1, 75, none⟩), .pointer (some ⟨w.heap.size, 0, none⟩), .int .u64 150]) (w.alloc (.cells #[.pointer (some t)] 75)) := by kernel_rfl
theorem Mm (a : Addr) (w : World) : (ReflectliteValue.methodAny (ReflectliteValue.valueError "reflectlite.Value.Type" 0) (fun t _ _ _ => ReflectliteType.toType t) #[.agg #[.pointer (some ⟨1, 75, none⟩), .pointer (some a), .int .u64 150]]).run Tryz.prog w
    = .ok (.iface 127 (.agg #[.pointer (some ⟨1, 75, none⟩)])) w := by kernel_rfl
theorem Nb (h : Value) (w : World) : (Go.method 280 127 (.agg #[h]) "Kind").run Tryz.prog w = .ok (127, h) w := by kernel_rfl
theorem Mj (w : World) : ((ReflectliteType.abiMethod fun t => (fun a : Nat => Value.int IntKind.u8 (a : Int)) <$> Rtype.kind t) #[.pointer (some ⟨1, 75, none⟩)]).run Tryz.prog w = .ok (.int .u8 22) w := by kernel_rfl
theorem Bu (w : World) : ((ReflectliteType.abiMethod fun t => (fun a : Nat => Value.int IntKind.u8 (a : Int)) <$> Rtype.kind t) #[.pointer (some ⟨1, 70, none⟩)]).run Tryz.prog w = .ok (.int .u8 22) w := by kernel_rfl
theorem rlm (z : Sem Value) (f : TypeId → Addr → Nat → Nat → Sem Value) (v : Value) :
    ReflectliteValue.method z f #[v] = (do match ← ReflectliteValue.parts v with | none => z | some (t, a, fl) => f t a fl (fl % 32)) := rfl
theorem La (a : Addr) (w : World) : (ReflectliteValue.parts (.agg #[.pointer (some ⟨1, 75, none⟩), .pointer (some a), .int .u64 150])).run Tryz.prog w = .ok (some (75, a, 150)) w := by kernel_rfl
theorem Sq (a p : Addr) (W : World) (ha : W.cell? a = some (.pointer (some p))) :
    (ReflectliteValue.method (ReflectliteValue.valueError "reflectlite.Value.IsNil" 0) ReflectliteValue.isNil #[.agg #[.pointer (some ⟨1, 75, none⟩), .pointer (some a), .int .u64 150]]).run Tryz.prog W = .ok (.bool false) W := by
  rw [rlm]
  simp only [Sem.run_bind, La, Result.andThen]
  simp [ReflectliteValue.isNil, loadVar, isAgg, underlying, Tryz.underlying75, ha, Result.andThen]
theorem Na (h : Value) (w : World) : (Go.method 280 127 (.agg #[h]) "Elem").run Tryz.prog w = .ok (141, .agg #[h]) w := by kernel_rfl
theorem Gp (h : Value) (w : World) : (Go.method 280 127 (.agg #[h]) "Implements").run Tryz.prog w = .ok (142, .agg #[h]) w := by kernel_rfl
theorem W1 (h : Value) (w : World) : (Go.method 280 127 (.agg #[h]) "AssignableTo").run Tryz.prog w = .ok (139, .agg #[h]) w := by kernel_rfl
theorem Mi (w : World) : (ReflectliteType.method ReflectliteType.elem #[.agg #[.pointer (some ⟨1, 75, none⟩)]]).run Tryz.prog w = .ok (.iface 127 (.agg #[.pointer (some ⟨1, 70, none⟩)])) w := by kernel_rfl
theorem H9 (w : World) : (ReflectliteType.relation "Implements" ReflectliteType.implements_ #[.agg #[.pointer (some ⟨1, 70, none⟩)], .iface 127 (.agg #[.pointer (some ⟨1, 73, none⟩)])]).run Tryz.prog w = .ok (.bool true) w := by kernel_rfl
theorem Ss (v : Value) (w : World) : (ReflectliteType.typeOf #[.iface 70 v]).run Tryz.prog w = .ok (.iface 127 (.agg #[.pointer (some ⟨1, 70, none⟩)])) w := by kernel_rfl
theorem H8 (w : World) : (ReflectliteType.relation "AssignableTo" ReflectliteType.assignableTo #[.agg #[.pointer (some ⟨1, 70, none⟩)], .iface 127 (.agg #[.pointer (some ⟨1, 70, none⟩)])]).run Tryz.prog w = .ok (.bool true) w := by kernel_rfl
theorem Rh (e : Addr) (w : World) : (ReflectliteValue.unpack (.iface 70 (.pointer (some e)))).run Tryz.prog w
    = .ok (.agg #[.pointer (some ⟨1, 70, none⟩), .pointer (some ⟨w.heap.size, 0, none⟩), .int .u64 150]) (w.alloc (.cells #[.pointer (some e)] 70)) := by kernel_rfl
theorem Rg (w : World) : (Rtype.elem? 75).run Tryz.prog w = .ok (some 70) w := by kernel_rfl
theorem Ix (p : Addr) (w : World) : (ReflectliteValue.mk 70 p ReflectliteValue.flagAddr).run Tryz.prog w = .ok (.agg #[.pointer (some ⟨1, 70, none⟩), .pointer (some p), .int .u64 406]) w := by kernel_rfl
theorem So (a p : Addr) (W : World) (ha : W.cell? a = some (.pointer (some p))) :
    (ReflectliteValue.method (ReflectliteValue.valueError "reflectlite.Value.Elem" 0) ReflectliteValue.elem #[.agg #[.pointer (some ⟨1, 75, none⟩), .pointer (some a), .int .u64 150]]).run Tryz.prog W
      = .ok (.agg #[.pointer (some ⟨1, 70, none⟩), .pointer (some p), .int .u64 406]) W := by
  rw [rlm]
  simp only [Sem.run_bind, La, Result.andThen]
  simp [ReflectliteValue.elem, loadVar, isAgg, underlying, Tryz.underlying75, ha, Result.andThen, Rg, Ix]
theorem rls (v x : Value) : ReflectliteValue.set #[v, x] = (do
    let (some (dst, a, fl), some (src, b, _)) := (← ReflectliteValue.parts v, ← ReflectliteValue.parts x)
      | unsupported (.noEntry "extern/(internal/reflectlite.Value).Set.zeroValue")
    if fl / ReflectliteValue.flagAddr % 2 == 0 then unsupported (.noEntry "extern/(internal/reflectlite.Value).Set.unaddressable")
    let val ← loadVar src b
    if ← Rtype.directlyAssignable dst src then storeVar dst a val
    else if ← Rtype.implements dst src then
      if (← Rtype.kind src) == 20 then
        match val with
        | .nilIface => unsupported (.noEntry "extern/reflectlite: a nil value of one interface type handed on as a value of another")
        | _ => storeVar dst a val
      else storeVar dst a (.iface src val)
    else panicString ("reflectlite.Set: value of type " ++ (← Rtype.spelt src) ++ " is not assignable to type " ++ (← Rtype.spelt dst))
    pure (.tuple #[])) := rfl
theorem Sr (a : Addr) (w : World) : (ReflectliteValue.parts (.agg #[.pointer (some ⟨1, 70, none⟩), .pointer (some a), .int .u64 406])).run Tryz.prog w = .ok (some (70, a, 406)) w := by kernel_rfl
theorem Ml (a : Addr) (w : World) : (ReflectliteValue.parts (.agg #[.pointer (some ⟨1, 70, none⟩), .pointer (some a), .int .u64 150])).run Tryz.prog w = .ok (some (70, a, 150)) w := by kernel_rfl
theorem Sn (w : World) : (Rtype.directlyAssignable 70 70).run Tryz.prog w = .ok true w := by kernel_rfl
theorem D0 (ta b e : Addr) (old : Value) (W : World) (hb : W.cell? b = some (.pointer (some e))) (ht : W.cell? ta = some old) (hf : W.frozen? ta = false) :
    (ReflectliteValue.set #[.agg #[.pointer (some ⟨1, 70, none⟩), .pointer (some ta), .int .u64 406], .agg #[.pointer (some ⟨1, 70, none⟩), .pointer (some b), .int .u64 150]]).run Tryz.prog W
      = .ok (.tuple #[]) (W.setCell ta (.pointer (some e))) := by
  rw [rls]
  simp only [Sem.run_bind, Sr, Ml, Result.andThen]
  simp [ReflectliteValue.flagAddr, loadVar, isAgg, underlying, Tryz.underlying70, hb, Result.andThen, Sn, storeVar, Value.cells, storeCells, Addr.add]
  rw [run_store Tryz.prog W ta _ _ (by rfl)]
  simp [ht, hf]
set_option maxHeartbeats 4000000 in
theorem Iw (e t : Addr) (old : Value) (w : World) (hg : w.cell? ⟨0, 0, none⟩ = some (.iface 127 (.agg #[.pointer (some ⟨1, 73, none⟩)]))) (ht0 : w.cell? t = some old) (hf0 : w.frozen? t = false) :
    Calls Tryz.prog 50 #[.iface 70 (.pointer (some e)), .iface 75 (.pointer (some t))] w fun ev w' => ev = .returned (.bool true) ∧ w' = ((((w.alloc (.cells #[.pointer (some t)] 75)).alloc (.cells #[.pointer (some ⟨1, 75, none⟩), .pointer (some ⟨w.heap.size, 0, none⟩), .int .u64 150] 95)).alloc (.cells #[.pointer (some ⟨1, 75, none⟩), .pointer (some ⟨w.heap.size, 0, none⟩), .int .u64 150] 95)).alloc (.cells #[.pointer (some e)] 70)).setCell t (.pointer (some e)) := by
  have h6 := @run_callFunc_extern Tryz.prog 72 _ (fun args => ReflectliteValue.unpack (args.getD 0 (.tuple #[]))) Tryz.func72 (by kernel_rfl) (by kernel_rfl) (by kernel_rfl) (by kernel_rfl)
  have h7 := @run_callFunc_extern Tryz.prog 73 _ (ReflectliteValue.methodAny (ReflectliteValue.valueError "reflectlite.Value.Type" 0) (fun t _ _ _ => ReflectliteType.toType t)) Tryz.func73 (by kernel_rfl) (by kernel_rfl) (by kernel_rfl) (by kernel_rfl)
  have h8 := @run_callFunc_extern Tryz.prog 74 _ (ReflectliteValue.method (ReflectliteValue.valueError "reflectlite.Value.IsNil" 0) ReflectliteValue.isNil) Tryz.func74 (by kernel_rfl) (by kernel_rfl) (by kernel_rfl) (by kernel_rfl)
  have h27 := @run_callFunc_extern Tryz.prog 127 _ (ReflectliteType.abiMethod fun t => do pure (.int .u8 (← Rtype.kind t))) Tryz.func127 (by kernel_rfl) (by kernel_rfl) (by kernel_rfl) (by kernel_rfl)
  have h37 := @run_callFunc_extern Tryz.prog 141 _ (ReflectliteType.method ReflectliteType.elem) Tryz.func141 (by kernel_rfl) (by kernel_rfl) (by kernel_rfl) (by kernel_rfl)
  have h38 := @run_callFunc_extern Tryz.prog 142 _ (ReflectliteType.relation "Implements" ReflectliteType.implements_) Tryz.func142 (by kernel_rfl) (by kernel_rfl) (by kernel_rfl) (by kernel_rfl)
  have h10 := @run_callFunc_extern Tryz.prog 101 _ ReflectliteType.typeOf Tryz.func101 (by kernel_rfl) (by kernel_rfl) (by kernel_rfl) (by kernel_rfl)
  have h35 := @run_callFunc_extern Tryz.prog 139 _ (ReflectliteType.relation "AssignableTo" ReflectliteType.assignableTo) Tryz.func139 (by kernel_rfl) (by kernel_rfl) (by kernel_rfl) (by kernel_rfl)
  have h11 := @run_callFunc_extern Tryz.prog 102 _ (ReflectliteValue.method (ReflectliteValue.valueError "reflectlite.Value.Elem" 0) ReflectliteValue.elem) Tryz.func102 (by kernel_rfl) (by kernel_rfl) (by kernel_rfl) (by kernel_rfl)
  have h12 := @run_callFunc_extern Tryz.prog 103 _ ReflectliteValue.set Tryz.func103 (by kernel_rfl) (by kernel_rfl) (by kernel_rfl) (by kernel_rfl)
  have tO := Ss
  have mA := W1
  have a25 := H8
  have v25 := Rh
  have f6 := Pa
  have f7 := Mm
  have mK := Nb
  have mE := Na
  have mI := Gp
  have k27 := Mj
  have k25 := Bu
  have e27 := Mi
  have i25 := H9
  have n8 := Sq ⟨w.heap.size, 0, none⟩ t ((w.alloc (.cells #[.pointer (some t)] 75)).alloc (.cells #[.pointer (some ⟨1, 75, none⟩), .pointer (some ⟨w.heap.size, 0, none⟩), .int .u64 150] 95)) (by simp)
  have hlt : 0 < w.heap.size := by
    rcases Nat.lt_or_ge 0 w.heap.size with h | h
    · exact h
    · simp [World.cell?, Array.getElem?_eq_none h] at hg
  have hg2 : ((w.alloc (.cells #[.pointer (some t)] 75)).alloc (.cells #[.pointer (some ⟨1, 75, none⟩), .pointer (some ⟨w.heap.size, 0, none⟩), .int .u64 150] 95)).cell? ⟨0, 0, none⟩ = some (.iface 127 (.agg #[.pointer (some ⟨1, 73, none⟩)])) := by
    rw [World.cell?_alloc_lt _ _ ⟨0, 0, none⟩ (by simp), World.cell?_alloc_lt _ _ ⟨0, 0, none⟩ hlt]; exact hg
  have htl : t.block < w.heap.size := by
    rcases Nat.lt_or_ge t.block w.heap.size with h | h
    · exact h
    · simp [World.cell?, Array.getElem?_eq_none h] at ht0
  have el := So ⟨w.heap.size, 0, none⟩ t (((w.alloc (.cells #[.pointer (some t)] 75)).alloc (.cells #[.pointer (some ⟨1, 75, none⟩), .pointer (some ⟨w.heap.size, 0, none⟩), .int .u64 150] 95)).alloc (.cells #[.pointer (some ⟨1, 75, none⟩), .pointer (some ⟨w.heap.size, 0, none⟩), .int .u64 150] 95)) (by rw [World.cell?_alloc_lt _ _ ⟨w.heap.size, 0, none⟩ (by simp; omega)]; simp)
  have st := D0 t ⟨w.heap.size + 1 + 1 + 1, 0, none⟩ e old ((((w.alloc (.cells #[.pointer (some t)] 75)).alloc (.cells #[.pointer (some ⟨1, 75, none⟩), .pointer (some ⟨w.heap.size, 0, none⟩), .int .u64 150] 95)).alloc (.cells #[.pointer (some ⟨1, 75, none⟩), .pointer (some ⟨w.heap.size, 0, none⟩), .int .u64 150] 95)).alloc (.cells #[.pointer (some e)] 70))
    (by rw [World.cell?_alloc_at _ _ _ _ (by simp)]; rfl)
    (by rw [World.cell?_alloc_lt _ _ t (by simp; omega), World.cell?_alloc_lt _ _ t (by simp; omega), World.cell?_alloc_lt _ _ t (by simp; omega), World.cell?_alloc_lt _ _ t htl]; exact ht0)
    (by rw [World.frozen?_alloc_old _ _ t (by simp; omega), World.frozen?_alloc_old _ _ t (by simp; omega), World.frozen?_alloc_old _ _ t (by simp; omega), World.frozen?_alloc_old _ _ t (Nat.ne_of_lt htl)]; exact hf0)
  go_enter Tryz.func50, Tryz.ntmps50
  go_wp2
  refine wp_loop_rounds 1 ?_
  rw [rounds_succ]
  go_wp2
  go_ret
  exact ⟨rfl, rfl⟩
def ErrT (w : World) : Prop := w.cell? ⟨0, 0, none⟩ = some (.iface 127 (.agg #[.pointer (some ⟨1, 73, none⟩)]))
theorem ErrT.lt {w : World} (h : ErrT w) : 0 < w.heap.size := by
  rcases Nat.lt_or_ge 0 w.heap.size with h1 | h1
  · exact h1
  · simp [ErrT, World.cell?, Array.getElem?_eq_none h1] at h
theorem ErrT.grown0 {w w' : World} (h : ErrT w) (hg : w.grownBy w' none) : ErrT w' := by
  have h1 := hg.block 0 h.lt (by simp)
  unfold ErrT World.cell? at h ⊢
  rw [h1]; exact h
theorem Bv (t : Value) (w : World) : Dw.CallsR Tryz.prog 50 #[.nilIface, t] w fun v w' => v = .bool false ∧ w' = w :=
  Calls.mono (Iy t w) fun _ _ ⟨h1, h2⟩ => ⟨_, h1, rfl, h2⟩
theorem Bs (e T : Nat) (old : Value) (w : World) (hg : ErrT w) (hT : Dw.Blk w T 70 #[old]) : Dw.CallsR Tryz.prog 50 #[.iface 70 (.pointer (some ⟨e, 0, none⟩)), .iface 75 (.pointer (some ⟨T, 0, none⟩))] w fun v w' => v = .bool true ∧ Dw.Blk w' T 70 #[.pointer (some ⟨e, 0, none⟩)] ∧ w.grownBy w' (some T) := by
  refine Calls.mono (Iw ⟨e, 0, none⟩ ⟨T, 0, none⟩ old w hg (hT.cell rfl) (hT.froz 0)) ?_
  rintro _ _ ⟨rfl, rfl⟩
  have g4 := Dw.grown_trans (Dw.grown_trans (Dw.grown_trans (World.grownBy_alloc w (.cells #[.pointer (some ⟨T, 0, none⟩)] 75) none) (World.grownBy_alloc _ (.cells #[.pointer (some ⟨1, 75, none⟩), .pointer (some ⟨w.heap.size, 0, none⟩), .int .u64 150] 95) none)) (World.grownBy_alloc _ (.cells #[.pointer (some ⟨1, 75, none⟩), .pointer (some ⟨w.heap.size, 0, none⟩), .int .u64 150] 95) none)) (World.grownBy_alloc _ (.cells #[.pointer (some ⟨e, 0, none⟩)] 70) none)
  have hb := hT.grown0 g4
  have s := Dw.setB_setRow hb #[.pointer (some ⟨e, 0, none⟩)]
  refine ⟨_, rfl, rfl, ?_⟩
  rw [setCell_eq_setRow _ T 0 #[old] 70 (0, 0) _ hb]
  exact ⟨s.blk, Dw.grown_trans ⟨g4.os, g4.tape, g4.output, g4.size, fun i hi _ => g4.block i hi (by simp)⟩ s.grw⟩
end Go.Proofs.YtjpgffmkcmcolaaGreatDoor
end
section
namespace Go.Proofs.YtjpgffmkcmcolaaGreatDoor
open Go.RowKit Go.Dw
set_option maxRecDepth 100000
set_option maxHeartbeats 4000000
set_option linter.unusedSimpArgs false
set_option linter.unusedVariables false
theorem W4 : elemSz Tryz.prog 140 = some 6 := by kernel_rfl
theorem V6 : fieldOff Tryz.prog 106 0 = some 0 := by kernel_rfl
theorem Ca : fieldOff Tryz.prog 106 1 = some 1 := by kernel_rfl
theorem Cb : fieldOff Tryz.prog 106 2 = some 2 := by kernel_rfl
theorem Ro : fieldOff Tryz.prog 106 3 = some 3 := by kernel_rfl
theorem Cc : fieldOff Tryz.prog 106 4 = some 4 := by kernel_rfl
theorem Rp : fieldOff Tryz.prog 106 5 = some 5 := by kernel_rfl
theorem Ef : fieldOff Tryz.prog 77 0 = some 0 := by kernel_rfl
theorem Fp : goFn Tryz.prog 36 = true := by kernel_rfl
theorem Co : goFn Tryz.prog 48 = true := by kernel_rfl
theorem Cp : goFn Tryz.prog 49 = true := by kernel_rfl
theorem Ft : goFn Tryz.prog 50 = true := by kernel_rfl
theorem Fu : goFn Tryz.prog 51 = true := by kernel_rfl
theorem F1 : goFn Tryz.prog 71 = true := by kernel_rfl
theorem Zp : goFn Tryz.prog 76 = true := by kernel_rfl
theorem Zq : goFn Tryz.prog 77 = true := by kernel_rfl
theorem F2 : goFn Tryz.prog 78 = true := by kernel_rfl
theorem Z8 : oneTy Tryz.prog 70 = true := by kernel_rfl
theorem Jf : rowTy Tryz.prog 106 = some 6 := by kernel_rfl
theorem U5 : zeroTy Tryz.prog 106 = some (.agg #[.int .i64 0, .slice none 0 0, .bool false, .bool false, .bool false, .bool false]) := by kernel_rfl
theorem F9 : zeroTy Tryz.prog 70 = some (.pointer none) := by kernel_rfl
theorem W6 (run thing : Int) (w : World) (ms : List MTh) (a : Option Addr) (c : Nat) (ht : TabAt w a ms) (hlen : TabLen ms) (hn : ms.length ≤ 1048576) (hT : tableOk (tabT ms) = true) (hr : 1 ≤ run ∧ run ≤ (ms.length : Int)) (hth : 1 ≤ thing ∧ thing ≤ (ms.length : Int)) : CallsR Tryz.prog 48 #[.slice a ms.length c, vi run, vi thing] w (fun v w' => v = vb (sees (tabT ms) run thing) ∧ w.grownBy w' none) := by
 refine Xx (n := 20) Tryz.func48 Z Tryz.ntmps48 Z ?_
 have ac := World.grownBy.refl w none
 refine Xa (Xe (v := vb false) Z Z (Xc (Xq ?_)))
 obtain ⟨J, an, E, V, ah, aj⟩ := SlAt.at (TabAt.low ht ac).1 (Yi (xg ms (thing - 1).toNat))
 have al := TabLen.at hlen (xg ms (thing - 1).toNat)
 obtain ⟨O, ao, G, ab, ai, ak⟩ := SlAt.at (TabAt.low ht ac).1 (Yi (xg ms (run - 1).toNat))
 have am := TabLen.at hlen (xg ms (run - 1).toNat)
 refine Yw (m := 12) (vals := [(7, .slice a ms.length c), (8, vi thing), (9, vi (thing - 1)), (10, pt J E), (11, pt J (E + 1)), (12, .agg #[vi (mj ms thing).t.lab.s, vi (mj ms thing).t.lab.v]), (13, .slice a ms.length c), (14, vi run), (15, vi (run - 1)), (16, pt O G), (17, pt O (G + 1)), (18, .agg #[vi (mj ms run).t.lab.s, vi (mj ms run).t.lab.v])]) (fun w' => w.grownBy w' none) Yy (by kernel_rfl) (X6 _) ?_ ?_
 refine yl Z (fun _ _ k => Xb (v := .slice a ms.length c) Z Z k) (yl Z (fun _ _ k => Xb (v := vi thing) Z Z k) (yl Z (fun _ _ k => Ys (c := thing - 1) Z Z (by omega) (by omega) (by omega) Z k) (yl Z (fun _ _ k => Xz Y2 Z Z V ah (by omega) (by omega) Z k) (yl Z (fun _ _ k => Xd (o' := E + 1) Kd Z Z Z k) (yl Z (fun _ ae k => Xp (vs := [vi (mj ms thing).t.lab.s, vi (mj ms thing).t.lab.v]) Kb Z Z (Yr (X9 aj ae) 1 2 Z) Z k) (yl Z (fun _ _ k => Xb (v := .slice a ms.length c) Z Z k) (yl Z (fun _ _ k => Xb (v := vi run) Z Z k) (yl Z (fun _ _ k => Ys (c := run - 1) Z Z (by omega) (by omega) (by omega) Z k) (yl Z (fun _ _ k => Xz Y2 Z Z ab ai (by omega) (by omega) Z k) (yl Z (fun _ _ k => Xd (o' := G + 1) Kd Z Z Z k) ?_))))))))))
 exact yl Z (fun _ af k => Xp (vs := [vi (mj ms run).t.lab.s, vi (mj ms run).t.lab.v]) Kb Z Z (Yr (X9 ak af) 1 2 Z) Z k) Y5
 intro ap ag
 refine Xl F1 (Xg Z (Xg Z Xk)) Z (Hp (mj ms thing).t.lab (mj ms run).t.lab _) ?_
 rintro _ aq ⟨rfl, ad⟩
 refine Xe (v := vb (labelFlow (mj ms thing).t.lab (mj ms run).t.lab)) Z Z (Xc (Xu (Xt (⟨vb (labelFlow (mj ms thing).t.lab (mj ms run).t.lab), Yp Z Z, ?_, (low0 (low0 ac ag) ad)⟩))))
 exact cB (On hT hr hth)
theorem W7 (run thing : Int) (w : World) (ms : List MTh) (a : Option Addr) (c : Nat) (ht : TabAt w a ms) (hlen : TabLen ms) (hn : ms.length ≤ 1048576) (hT : tableOk (tabT ms) = true) (hr : 1 ≤ run ∧ run ≤ (ms.length : Int)) (hth : 1 ≤ thing ∧ thing ≤ (ms.length : Int)) : CallsR Tryz.prog 78 #[.slice a ms.length c, vi run, vi thing] w (fun v w' => v = vb (touches (tabT ms) run thing) ∧ w.grownBy w' none) := by
 refine Xx (n := 20) Tryz.func78 Z Tryz.ntmps78 Z ?_
 have ac := World.grownBy.refl w none
 refine Xa (Xe (v := vb false) Z Z (Xc (Xq ?_)))
 obtain ⟨J, an, E, V, ah, aj⟩ := SlAt.at (TabAt.low ht ac).1 (Yi (xg ms (run - 1).toNat))
 have al := TabLen.at hlen (xg ms (run - 1).toNat)
 obtain ⟨O, ao, G, ab, ai, ak⟩ := SlAt.at (TabAt.low ht ac).1 (Yi (xg ms (thing - 1).toNat))
 have am := TabLen.at hlen (xg ms (thing - 1).toNat)
 refine Yw (m := 12) (vals := [(7, .slice a ms.length c), (8, vi run), (9, vi (run - 1)), (10, pt J E), (11, pt J (E + 1)), (12, .agg #[vi (mj ms run).t.lab.s, vi (mj ms run).t.lab.v]), (13, .slice a ms.length c), (14, vi thing), (15, vi (thing - 1)), (16, pt O G), (17, pt O (G + 1)), (18, .agg #[vi (mj ms thing).t.lab.s, vi (mj ms thing).t.lab.v])]) (fun w' => w.grownBy w' none) Yy (by kernel_rfl) (X6 _) ?_ ?_
 refine yl Z (fun _ _ k => Xb (v := .slice a ms.length c) Z Z k) (yl Z (fun _ _ k => Xb (v := vi run) Z Z k) (yl Z (fun _ _ k => Ys (c := run - 1) Z Z (by omega) (by omega) (by omega) Z k) (yl Z (fun _ _ k => Xz Y2 Z Z V ah (by omega) (by omega) Z k) (yl Z (fun _ _ k => Xd (o' := E + 1) Kd Z Z Z k) (yl Z (fun _ ae k => Xp (vs := [vi (mj ms run).t.lab.s, vi (mj ms run).t.lab.v]) Kb Z Z (Yr (X9 aj ae) 1 2 Z) Z k) (yl Z (fun _ _ k => Xb (v := .slice a ms.length c) Z Z k) (yl Z (fun _ _ k => Xb (v := vi thing) Z Z k) (yl Z (fun _ _ k => Ys (c := thing - 1) Z Z (by omega) (by omega) (by omega) Z k) (yl Z (fun _ _ k => Xz Y2 Z Z ab ai (by omega) (by omega) Z k) (yl Z (fun _ _ k => Xd (o' := G + 1) Kd Z Z Z k) ?_))))))))))
 exact yl Z (fun _ af k => Xp (vs := [vi (mj ms thing).t.lab.s, vi (mj ms thing).t.lab.v]) Kb Z Z (Yr (X9 ak af) 1 2 Z) Z k) Y5
 intro ap ag
 refine Xl F1 (Xg Z (Xg Z Xk)) Z (Hp (mj ms run).t.lab (mj ms thing).t.lab _) ?_
 rintro _ aq ⟨rfl, ad⟩
 refine Xe (v := vb (labelFlow (mj ms run).t.lab (mj ms thing).t.lab)) Z Z (Xc (Xu (Xt (⟨vb (labelFlow (mj ms run).t.lab (mj ms thing).t.lab), Yp Z Z, ?_, (low0 (low0 ac ag) ad)⟩))))
 exact cB (Bh hT hr hth)
theorem W9 (r : Rt) (hr : -9223372036854775807 ≤ r.th) (w : World) (ms : List MTh) (a : Option Addr) (c : Nat) (ht : TabAt w a ms) (hlen : TabLen ms) (hn : ms.length ≤ 1048576) : CallsR Tryz.prog 49 #[.slice a ms.length c, .agg #[vi r.th, vi r.ve, vb r.rd, vb r.wr, vb r.wk]] w (fun v w' => v = vb (live (tabT ms) r) ∧ w.grownBy w' none) := by
 refine Xx (n := 21) Tryz.func49 Z Tryz.ntmps49 Z ?_
 have av := World.grownBy.refl w none
 refine Xa (Qf (v := .agg #[vi r.th, vi r.ve, vb r.rd, vb r.wr, vb r.wk]) (cs := #[vi r.th, vi r.ve, vb r.rd, vb r.wr, vb r.wk]) Z Z Z ?_)
 intro J ab G
 have aw := Yj G av
 have O := low0 av G.grw
 refine Xe (v := vb false) Z Z (Xc (Kn (fun f' w' => (f' 4 = vb (inR r.th 1 (ms.length : Int) && (decide ((mj ms r.th).t.ve = r.ve)))) ∧ ab.grownBy w' none) ?_ ?_))
 rcases Yf (inR r.th 1 (ms.length : Int)) with E | E
 have a8 := Qu.1 E
 obtain ⟨ac, ba, V, ad, aq, ar⟩ := SlAt.at (TabAt.low ht O).1 (Yi (xg ms (r.th - 1).toNat))
 have az := TabLen.at hlen (xg ms (r.th - 1).toNat)
 refine Yw (m := 14) (vals := [(5, .slice a ms.length c), (6, pt J 0), (7, vi r.th), (8, vb (inR r.th 1 (ms.length : Int))), (9, vb (inR r.th 1 (ms.length : Int))), (10, .slice a ms.length c), (11, pt J 0), (12, vi r.th), (13, vi (r.th - 1)), (14, pt ac V), (15, pt ac (V + 3)), (16, vi (mj ms r.th).t.ve), (17, pt J 1), (18, vi r.ve)]) (fun w' => ab.grownBy w' none) Yy (by kernel_rfl) (X6 _) ?_ ?_
 refine yl Z (fun _ _ k => Xb (v := .slice a ms.length c) Z Z k) (yl Z (fun _ _ k => Xd (o' := 0) Yz Z Z Z k) (yl Z (fun _ ah k => Xh (v := vi r.th) X1 Z ((G.blk.grown0 ah).cell Z) Z k) ?_))
 refine Ql Z (fun bb ai => ?_) ?_
 refine Xl Nl (Xg Z (Xg Z Xk)) Z (K5 r.th _ _ _ _) ?_
 rintro _ bc ⟨rfl, ae⟩
 exact Xc ⟨Z, (grown_trans ai ae)⟩
 exact yl Z (fun _ _ k => Xb (v := vb (inR r.th 1 (ms.length : Int))) Z Z k) (yl Z (fun _ _ k => Xf Z Z Z E (Xb (v := .slice a ms.length c) Z Z k)) (yl Z (fun _ _ k => Xf Z Z Z E (Xd (o' := 0) Yz Z Z Z k)) (yl Z (fun _ aj k => Xf Z Z Z E (Xh (v := vi r.th) X1 Z ((G.blk.grown0 aj).cell Z) Z k)) (yl Z (fun _ _ k => Xf Z Z Z E (Ys (c := r.th - 1) Z Z (by omega) (by omega) (by omega) Z k)) (yl Z (fun _ _ k => Xf Z Z Z E (Xz Y2 Z Z ad aq (by omega) (by omega) Z k)) (yl Z (fun _ _ k => Xf Z Z Z E (Xd (o' := V + 3) Jl Z Z Z k)) (yl Z (fun _ ak k => Xf Z Z Z E (Xh (v := vi (mj ms r.th).t.ve) X1 Z ((X9 ar ak) 3 _ Z) Z k)) (yl Z (fun _ _ k => Xf Z Z Z E (Xd (o' := 1) Vd Z Z Z k)) (yl Z (fun _ al k => Xf Z Z Z E (Xh (v := vi r.ve) X1 Z ((G.blk.grown0 al).cell Z) Z k)) Y5)))))))))
 intro bd am
 exact Xf Z Z Z E (X3 (q := decide ((mj ms r.th).t.ve = r.ve)) Z Z Z Z (Xs (v := vb (decide ((mj ms r.th).t.ve = r.ve))) Z E Z Z (Xe (v := vb (decide ((mj ms r.th).t.ve = r.ve))) Z Z (Xc (Xu ⟨(cB (by simp [E])), am⟩)))))
 refine Yw (m := 14) (vals := [(5, .slice a ms.length c), (6, pt J 0), (7, vi r.th), (8, vb (inR r.th 1 (ms.length : Int))), (9, vb (inR r.th 1 (ms.length : Int))), (10, undef), (11, undef), (12, undef), (13, undef), (14, undef), (15, undef), (16, undef), (17, undef), (18, undef)]) (fun w' => ab.grownBy w' none) Yy (by kernel_rfl) (X6 _) ?_ ?_
 refine yl Z (fun _ _ k => Xb (v := .slice a ms.length c) Z Z k) (yl Z (fun _ _ k => Xd (o' := 0) Yz Z Z Z k) (yl Z (fun _ an k => Xh (v := vi r.th) X1 Z ((G.blk.grown0 an).cell Z) Z k) ?_))
 refine Ql Z (fun be ao => ?_) ?_
 refine Xl Nl (Xg Z (Xg Z Xk)) Z (K5 r.th _ _ _ _) ?_
 rintro _ bf ⟨rfl, af⟩
 exact Xc ⟨Z, (grown_trans ao af)⟩
 exact yl Z (fun _ _ k => Xb (v := vb (inR r.th 1 (ms.length : Int))) Z Z k) (yl Z (fun _ _ k => Xi Z Z Z E Z k) (yl Z (fun _ _ k => Xi Z Z Z E Z k) (yl Z (fun _ _ k => Xi Z Z Z E Z k) (yl Z (fun _ _ k => Xi Z Z Z E Z k) (yl Z (fun _ _ k => Xi Z Z Z E Z k) (yl Z (fun _ _ k => Xi Z Z Z E Z k) (yl Z (fun _ _ k => Xi Z Z Z E Z k) (yl Z (fun _ _ k => Xi Z Z Z E Z k) (yl Z (fun _ _ k => Xi Z Z Z E Z k) Y5)))))))))
 intro bg ap
 exact Xi Z Z Z E Z (Xo (v := vb false) Z E Z Z (Xe (v := vb false) Z Z (Xc (Xu ⟨(cB (by simp [E])), ap⟩))))
 rintro a9 bh ⟨au, ag⟩
 refine Xt (⟨vb (inR r.th 1 (ms.length : Int) && (decide ((mj ms r.th).t.ve = r.ve))), Yp Z au, ?_, (low0 O ag)⟩)
 exact cB C2
theorem P9 (run thing : Int) (hr : -9223372036854775807 ≤ run) (w : World) (ms : List MTh) (a : Option Addr) (c : Nat) (ht : TabAt w a ms) (hlen : TabLen ms) (hn : ms.length ≤ 1048576) : CallsR Tryz.prog 23 #[.slice a ms.length c, vi run, vi thing] w (fun v w' => v = vb (chkSees (tabT ms) run thing) ∧ w.grownBy w' none) := by
 refine Xx (n := 25) Tryz.func23 Z Tryz.ntmps23 Z ?_
 have ad := World.grownBy.refl w none
 refine Xa (Xe (v := vb false) Z Z (Xc (X7 (fun f' w' => (f' 6 = vb (((tableOk (tabT ms) && kindAt (tabT ms) run 3) && inR thing 1 (ms.length : Int)) && sees (tabT ms) run thing)) ∧ w.grownBy w' none) ?_ ?_)))
 refine Xb (v := .slice a ms.length c) Z Z (Xl Rq (Xg Z Xk) Z (U6  _ ms _ _ (TabAt.low ht ad) hlen (by omega)) ?_)
 rintro _ ak ⟨rfl, O⟩
 have ac := low0 ad O
 refine Xb (v := vb (tableOk (tabT ms))) Z Z ?_
 rcases Yf (tableOk (tabT ms)) with E | E
 refine Xf Z Z Z E (Xb (v := .slice a ms.length c) Z Z (Xf Z Z Z E (Xb (v := vi run) Z Z (Xf Z Z Z E (Xl Cn (Xg Z (Xg Z (Xg Z Xk))) Z (Lp run 3 (by omega) _ ms _ _ (TabAt.low ht ac) hlen (by omega)) ?_)))))
 rintro _ al ⟨rfl, V⟩
 refine Xs (v := vb (kindAt (tabT ms) run 3)) Z E Z Z (Xb (v := vb (kindAt (tabT ms) run 3)) Z Z ?_)
 rcases Yf (kindAt (tabT ms) run 3) with G | G
 have ah := (Y3 G).1
 refine Xf Z Z Z G (Xb (v := .slice a ms.length c) Z Z (Xf Z Z Z G (Xb (v := vi thing) Z Z (Xf Z Z Z G (Xl Nl (Xg Z (Xg Z Xk)) Z (K5 thing _ _ _ _) ?_)))))
 rintro _ am ⟨rfl, ab⟩
 refine Xs (v := vb (inR thing 1 (ms.length : Int))) Z G Z Z (Xb (v := vb (inR thing 1 (ms.length : Int))) Z Z ?_)
 rcases Yf (inR thing 1 (ms.length : Int)) with J | J
 have ai := Qu.1 J
 refine Xf Z Z Z J (Xb (v := .slice a ms.length c) Z Z (Xf Z Z Z J (Xb (v := vi run) Z Z (Xf Z Z Z J (Xb (v := vi thing) Z Z (Xf Z Z Z J (Xl Co (Xg Z (Xg Z (Xg Z Xk))) Z (W6 run thing _ ms _ _ (TabAt.low ht (low0 (low0 ac V) ab)) hlen (by omega) E (by omega) (by omega)) ?_)))))))
 rintro _ an ⟨rfl, ae⟩
 exact Xs (v := vb (sees (tabT ms) run thing)) Z J Z Z (Xe (v := vb (sees (tabT ms) run thing)) Z Z (Xc ⟨(cB (by simp [E, G, J])), (grown_trans (grown_trans (grown_trans O V) ab) ae)⟩))
 iterate 4 refine Xi rfl rfl rfl J rfl ?_
 exact Xo (v := vb false) Z J Z Z (Xe (v := vb false) Z Z (Xc ⟨(cB (by simp [E, G, J])), (grown_trans (grown_trans O V) ab)⟩))
 iterate 3 refine Xi rfl rfl rfl G rfl ?_
 refine Xo (v := vb false) Z G Z Z (Xb (v := vb false) Z Z ?_)
 iterate 4 refine Xi rfl rfl rfl rfl rfl ?_
 exact Xo (v := vb false) Z Z Z Z (Xe (v := vb false) Z Z (Xc ⟨(cB (by simp [E, G])), (grown_trans O V)⟩))
 iterate 3 refine Xi rfl rfl rfl E rfl ?_
 refine Xo (v := vb false) Z E Z Z (Xb (v := vb false) Z Z ?_)
 iterate 3 refine Xi rfl rfl rfl rfl rfl ?_
 refine Xo (v := vb false) Z Z Z Z (Xb (v := vb false) Z Z ?_)
 iterate 4 refine Xi rfl rfl rfl rfl rfl ?_
 exact Xo (v := vb false) Z Z Z Z (Xe (v := vb false) Z Z (Xc ⟨(cB (by simp [E])), O⟩))
 rintro aj ao ⟨ag, af⟩
 refine Xt (⟨vb (((tableOk (tabT ms) && kindAt (tabT ms) run 3) && inR thing 1 (ms.length : Int)) && sees (tabT ms) run thing), Yp Z ag, ?_, (low0 ad af)⟩)
 unfold chkSees; rw [Qd]
theorem Hq (r : Rt) (w : World) (ms : List MTh) (a : Option Addr) (c : Nat) (ht : TabAt w a ms) (hlen : TabLen ms) (hn : ms.length ≤ 1048576) : CallsR Tryz.prog 24 #[.slice a ms.length c, .agg #[vi r.th, vi r.ve, vb r.rd, vb r.wr, vb r.wk]] w (fun v w' => v = vb (tabLive (tabT ms) r) ∧ w.grownBy w' none) := by
 refine Xx (n := 16) Tryz.func24 Z Tryz.ntmps24 Z ?_
 have ag := World.grownBy.refl w none
 refine Xa (Qf (v := .agg #[vi r.th, vi r.ve, vb r.rd, vb r.wr, vb r.wk]) (cs := #[vi r.th, vi r.ve, vb r.rd, vb r.wr, vb r.wk]) Z Z Z ?_)
 intro ak ah V
 have ai := Yj V ag
 have ab := low0 ag V.grw
 refine Xe (v := vb false) Z Z (Xc (X7 (fun f' w' => (f' 4 = vb ((tableOk (tabT ms) && rightOk r) && live (tabT ms) r)) ∧ ah.grownBy w' none) ?_ ?_))
 refine Xb (v := .slice a ms.length c) Z Z (Xl Rq (Xg Z Xk) Z (U6  _ ms _ _ (TabAt.low ht ab) hlen (by omega)) ?_)
 rintro _ am ⟨rfl, J⟩
 refine Xb (v := vb (tableOk (tabT ms))) Z Z ?_
 rcases Yf (tableOk (tabT ms)) with E | E
 refine Xf Z Z Z E ?_
 have ac := (V.blk.grown0 J)
 refine Xp (vs := [vi r.th, vi r.ve, vb r.rd, vb r.wr, vb r.wk]) Yx Z Z (ac.rangeL 0 5 Z) Z (Xf Z Z Z E (Xl T2 (Xg Z Xk) Z (Gh r _) ?_))
 rintro _ an ⟨rfl, O⟩
 refine Xs (v := vb (rightOk r)) Z E Z Z (Xb (v := vb (rightOk r)) Z Z ?_)
 rcases Yf (rightOk r) with G | G
 have aj := Uq G
 refine Xf Z Z Z G (Xb (v := .slice a ms.length c) Z Z (Xf Z Z Z G (Xp (vs := [vi r.th, vi r.ve, vb r.rd, vb r.wr, vb r.wk]) Yx Z Z ((ac.grown0 O).rangeL 0 5 Z) Z (Xf Z Z Z G (Xl Cp (Xg Z (Xg Z Xk)) Z (W9 r (by omega) _ ms _ _ (TabAt.low ht (low0 (low0 ab J) O)) hlen (by omega)) ?_)))))
 rintro _ ao ⟨rfl, ad⟩
 exact Xs (v := vb (live (tabT ms) r)) Z G Z Z (Xe (v := vb (live (tabT ms) r)) Z Z (Xc ⟨(cB (by simp [E, G])), (grown_trans (grown_trans J O) ad)⟩))
 iterate 3 refine Xi rfl rfl rfl G rfl ?_
 exact Xo (v := vb false) Z G Z Z (Xe (v := vb false) Z Z (Xc ⟨(cB (by simp [E, G])), (grown_trans J O)⟩))
 refine Xi Z Z Z E Z (Xi Z Z Z E Z (Xo (v := vb false) Z E Z Z (Xb (v := vb false) Z Z ?_)))
 iterate 3 refine Xi rfl rfl rfl rfl rfl ?_
 exact Xo (v := vb false) Z Z Z Z (Xe (v := vb false) Z Z (Xc ⟨(cB (by simp [E])), J⟩))
 rintro al ap ⟨af, ae⟩
 refine Xt (⟨vb ((tableOk (tabT ms) && rightOk r) && live (tabT ms) r), Yp Z af, ?_, (low0 ab ae)⟩)
 rfl
theorem E0 (q : Int) (hq : (1 ≤ q ∧ q ≤ 9) ∧ ¬ q = 3) (w : World) : CallsR Tryz.prog 76 #[vi q] w (fun v w' => ∃ B : Nat, v = .agg #[vi q, .slice (pa B) (kindsOf q).length (kindsOf q).length, vb (need0 q), vb (need1 q), vb (need0 q), vb (need1 q)] ∧ w.heap.size ≤ B ∧ Blk w' B 3 ((kindsOf q).flatMap icell).toArray ∧ w.grownBy w' none) := by
 refine Xx (n := 37) Tryz.func76 Z Tryz.ntmps76 Z ?_
 have le := World.grownBy.refl w none
 refine Xa (Ye (cs := #[vi 0, .slice none 0 0, vb false, vb false, vb false, vb false]) U5 Z Z ?_)
 intro jz m6 bx
 have lp := Yj bx le
 have df := low0 le bx.grw
 refine Xc (Xa (Ya (ps := [(0, vi 1)]) (e := 3) (cs := (([1] : List Int).flatMap icell).toArray) (Xn Z X8) (fun _ => by kernel_rfl) Z ?_))
 intro bk m7 bw
 have jr := Yj bw df
 have d7 := Xr bw (bx.blk).lt
 have dg := low0 df bw.grw
 refine Y6 (ps := [(0, vi 1), (1, .slice (pa bk) 1 1), (2, vb true), (4, vb true)]) (v := .agg #[vi 1, .slice (pa bk) 1 1, vb true, vb false, vb true, vb false]) (Xn Z (Xn Z (Xn Z (Xn Z X8)))) (by kernel_rfl) Z (Ya (ps := [(0, vi 1)]) (e := 3) (cs := (([1] : List Int).flatMap icell).toArray) (Xn Z X8) (fun _ => by kernel_rfl) Z ?_)
 intro bl m8 bv
 have js := Yj bv dg
 have j1 := (bx.blk.grown0 bw.grw)
 have d8 := Xr bv (j1).lt
 have eu := Xr bv (bw.blk).lt
 have dh := low0 dg bv.grw
 refine Y6 (ps := [(0, vi 2), (1, .slice (pa bl) 1 1), (3, vb true), (5, vb true)]) (v := .agg #[vi 2, .slice (pa bl) 1 1, vb false, vb true, vb false, vb true]) (Xn Z (Xn Z (Xn Z (Xn Z X8)))) (by kernel_rfl) Z (Ya (ps := [(0, vi 2)]) (e := 3) (cs := (([2] : List Int).flatMap icell).toArray) (Xn Z X8) (fun _ => by kernel_rfl) Z ?_)
 intro bm m9 bu
 have jt := Yj bu dh
 have j2 := (j1.grown0 bv.grw)
 have d9 := Xr bu (j2).lt
 have j3 := (bw.blk.grown0 bv.grw)
 have ew := Xr bu (j3).lt
 have fk := Xr bu (bv.blk).lt
 have di := low0 dh bu.grw
 refine Y6 (ps := [(0, vi 4), (1, .slice (pa bm) 1 1), (2, vb true), (4, vb true)]) (v := .agg #[vi 4, .slice (pa bm) 1 1, vb true, vb false, vb true, vb false]) (Xn Z (Xn Z (Xn Z (Xn Z X8)))) (by kernel_rfl) Z (Ya (ps := [(0, vi 2)]) (e := 3) (cs := (([2] : List Int).flatMap icell).toArray) (Xn Z X8) (fun _ => by kernel_rfl) Z ?_)
 intro bn na bi
 have ju := Yj bi di
 have j4 := (j2.grown0 bu.grw)
 have ea := Xr bi (j4).lt
 have j5 := (j3.grown0 bu.grw)
 have ex := Xr bi (j5).lt
 have j6 := (bv.blk.grown0 bu.grw)
 have fm := Xr bi (j6).lt
 have ga := Xr bi (bu.blk).lt
 have dk := low0 di bi.grw
 refine Y6 (ps := [(0, vi 5), (1, .slice (pa bn) 1 1), (3, vb true), (5, vb true)]) (v := .agg #[vi 5, .slice (pa bn) 1 1, vb false, vb true, vb false, vb true]) (Xn Z (Xn Z (Xn Z (Xn Z X8)))) (by kernel_rfl) Z (Ya (ps := [(0, vi 4)]) (e := 3) (cs := (([4] : List Int).flatMap icell).toArray) (Xn Z X8) (fun _ => by kernel_rfl) Z ?_)
 intro bp nb az
 have jv := Yj az dk
 have j7 := (j4.grown0 bi.grw)
 have eb := Xr az (j7).lt
 have j8 := (j5.grown0 bi.grw)
 have ey := Xr az (j8).lt
 have j9 := (j6.grown0 bi.grw)
 have fo := Xr az (j9).lt
 have ka := (bu.blk.grown0 bi.grw)
 have gb := Xr az (ka).lt
 have gt := Xr az (bi.blk).lt
 have dl := low0 dk az.grw
 refine Y6 (ps := [(0, vi 6), (1, .slice (pa bp) 1 1), (3, vb true), (5, vb true)]) (v := .agg #[vi 6, .slice (pa bp) 1 1, vb false, vb true, vb false, vb true]) (Xn Z (Xn Z (Xn Z (Xn Z X8)))) (by kernel_rfl) Z (Ya (ps := [(0, vi 4)]) (e := 3) (cs := (([4] : List Int).flatMap icell).toArray) (Xn Z X8) (fun _ => by kernel_rfl) Z ?_)
 intro bq nc al
 have jw := Yj al dl
 have kb := (j7.grown0 az.grw)
 have ed := Xr al (kb).lt
 have kc := (j8.grown0 az.grw)
 have ez := Xr al (kc).lt
 have ke := (j9.grown0 az.grw)
 have fp := Xr al (ke).lt
 have kf := (ka.grown0 az.grw)
 have gc := Xr al (kf).lt
 have kg := (bi.blk.grown0 az.grw)
 have gu := Xr al (kg).lt
 have g7 := Xr al (az.blk).lt
 have dm := low0 dl al.grw
 refine Y6 (ps := [(0, vi 7), (1, .slice (pa bq) 1 1), (2, vb true), (3, vb true), (4, vb true), (5, vb true)]) (v := .agg #[vi 7, .slice (pa bq) 1 1, vb true, vb true, vb true, vb true]) (Xn Z (Xn Z (Xn Z (Xn Z (Xn Z (Xn Z X8)))))) (by kernel_rfl) Z (Ya (ps := [(0, vi 1), (1, vi 2), (2, vi 4)]) (e := 3) (cs := (([1, 2, 4] : List Int).flatMap icell).toArray) (Xn Z (Xn Z (Xn Z X8))) (fun _ => by kernel_rfl) Z ?_)
 intro br nd aj
 have jx := Yj aj dm
 have kh := (kb.grown0 al.grw)
 have ee := Xr aj (kh).lt
 have ki := (kc.grown0 al.grw)
 have e0 := Xr aj (ki).lt
 have kj := (ke.grown0 al.grw)
 have fq := Xr aj (kj).lt
 have kk := (kf.grown0 al.grw)
 have gf := Xr aj (kk).lt
 have kl := (kg.grown0 al.grw)
 have gv := Xr aj (kl).lt
 have km := (az.blk.grown0 al.grw)
 have g8 := Xr aj (km).lt
 have im := Xr aj (al.blk).lt
 have dn := low0 dm aj.grw
 refine Y6 (ps := [(0, vi 8), (1, .slice (pa br) 3 3), (3, vb true), (5, vb true)]) (v := .agg #[vi 8, .slice (pa br) 3 3, vb false, vb true, vb false, vb true]) (Xn Z (Xn Z (Xn Z (Xn Z X8)))) (by kernel_rfl) Z (Ya (ps := [(0, vi 5)]) (e := 3) (cs := (([5] : List Int).flatMap icell).toArray) (Xn Z X8) (fun _ => by kernel_rfl) Z ?_)
 intro bt ne af
 have jy := Yj af dn
 have kn := (kh.grown0 aj.grw)
 have ef := Xr af (kn).lt
 have ko := (ki.grown0 aj.grw)
 have fa := Xr af (ko).lt
 have kp := (kj.grown0 aj.grw)
 have fr := Xr af (kp).lt
 have kq := (kk.grown0 aj.grw)
 have gg := Xr af (kq).lt
 have kr := (kl.grown0 aj.grw)
 have gw := Xr af (kr).lt
 have ks := (km.grown0 aj.grw)
 have g9 := Xr af (ks).lt
 have kt := (al.blk.grown0 aj.grw)
 have io := Xr af (kt).lt
 have iz := Xr af (aj.blk).lt
 have dp := low0 dn af.grw
 refine Y6 (ps := [(0, vi 9), (1, .slice (pa bt) 1 1), (3, vb true), (5, vb true)]) (v := .agg #[vi 9, .slice (pa bt) 1 1, vb false, vb true, vb false, vb true]) (Xn Z (Xn Z (Xn Z (Xn Z X8)))) (by kernel_rfl) Z (Ya (ps := [(0, .agg #[vi 1, .slice (pa bk) 1 1, vb true, vb false, vb true, vb false]), (1, .agg #[vi 2, .slice (pa bl) 1 1, vb false, vb true, vb false, vb true]), (2, .agg #[vi 4, .slice (pa bm) 1 1, vb true, vb false, vb true, vb false]), (3, .agg #[vi 5, .slice (pa bn) 1 1, vb false, vb true, vb false, vb true]), (4, .agg #[vi 6, .slice (pa bp) 1 1, vb false, vb true, vb false, vb true]), (5, .agg #[vi 7, .slice (pa bq) 1 1, vb true, vb true, vb true, vb true]), (6, .agg #[vi 8, .slice (pa br) 3 3, vb false, vb true, vb false, vb true]), (7, .agg #[vi 9, .slice (pa bt) 1 1, vb false, vb true, vb false, vb true])]) (e := 106) (cs := #[vi 1, .slice (pa bk) 1 1, vb true, vb false, vb true, vb false, vi 2, .slice (pa bl) 1 1, vb false, vb true, vb false, vb true, vi 4, .slice (pa bm) 1 1, vb true, vb false, vb true, vb false, vi 5, .slice (pa bn) 1 1, vb false, vb true, vb false, vb true, vi 6, .slice (pa bp) 1 1, vb false, vb true, vb false, vb true, vi 7, .slice (pa bq) 1 1, vb true, vb true, vb true, vb true, vi 8, .slice (pa br) 3 3, vb false, vb true, vb false, vb true, vi 9, .slice (pa bt) 1 1, vb false, vb true, vb false, vb true]) (Xn Z (Xn Z (Xn Z (Xn Z (Xn Z (Xn Z (Xn Z (Xn Z X8)))))))) (fun _ => by kernel_rfl) Z ?_)
 intro ck nf ae
 have lu := Yj ae dp
 have ku := (kn.grown0 af.grw)
 have eg := Xr ae (ku).lt
 have kv := (ko.grown0 af.grw)
 have fb := Xr ae (kv).lt
 have kw := (kp.grown0 af.grw)
 have ft := Xr ae (kw).lt
 have kx := (kq.grown0 af.grw)
 have gh := Xr ae (kx).lt
 have ky := (kr.grown0 af.grw)
 have gx := Xr ae (ky).lt
 have kz := (ks.grown0 af.grw)
 have ia := Xr ae (kz).lt
 have k0 := (kt.grown0 af.grw)
 have ip := Xr ae (k0).lt
 have k3 := (aj.blk.grown0 af.grw)
 have i0 := Xr ae (k3).lt
 have i9 := Xr ae (af.blk).lt
 have k4 := low0 dp ae.grw
 refine Xe (v := .slice (pa ck) 8 8) Z Z (Xc (Xq (Xa (Xb (v := .slice (pa ck) 8 8) Z Z (Yu (by kernel_rfl) Z Z (Xb (v := vi 0) Z Z (Xc (Yc ?_))))))))
 have lf := (ku.grown0 ae.grw)
 have lg := (kv.grown0 ae.grw)
 have lh := (kw.grown0 ae.grw)
 have li := (kx.grown0 ae.grw)
 have lj := (ky.grown0 ae.grw)
 have lk := (kz.grown0 ae.grw)
 have ll := (k0.grown0 ae.grw)
 have lm := (k3.grown0 ae.grw)
 have ln := (af.blk.grown0 ae.grw)
 refine Qm (fun mm f' w' => ∃ (i : Int), mm = (8 - i : Int).toNat ∧ ((0 ≤ i ∧ i ≤ 8) ∧ (0 < i → ¬ q = 1) ∧ (1 < i → ¬ q = 2) ∧ (2 < i → ¬ q = 4) ∧ (3 < i → ¬ q = 5) ∧ (4 < i → ¬ q = 6) ∧ (5 < i → ¬ q = 7) ∧ (6 < i → ¬ q = 8) ∧ (7 < i → ¬ q = 9)) ∧ f' 25 = vi i ∧ f' 0 = vi q ∧ f' 2 = pt jz 0 ∧ f' 23 = .slice (pa ck) 8 8 ∧ f' 24 = vi 8 ∧ w.grownBy w' none ∧ Blk w' jz 106 #[vi 0, .slice none 0 0, vb false, vb false, vb false, vb false] ∧ Blk w' bk 3 (([1] : List Int).flatMap icell).toArray ∧ Blk w' bl 3 (([1] : List Int).flatMap icell).toArray ∧ Blk w' bm 3 (([2] : List Int).flatMap icell).toArray ∧ Blk w' bn 3 (([2] : List Int).flatMap icell).toArray ∧ Blk w' bp 3 (([4] : List Int).flatMap icell).toArray ∧ Blk w' bq 3 (([4] : List Int).flatMap icell).toArray ∧ Blk w' br 3 (([1, 2, 4] : List Int).flatMap icell).toArray ∧ Blk w' bt 3 (([5] : List Int).flatMap icell).toArray ∧ Blk w' ck 106 #[vi 1, .slice (pa bk) 1 1, vb true, vb false, vb true, vb false, vi 2, .slice (pa bl) 1 1, vb false, vb true, vb false, vb true, vi 4, .slice (pa bm) 1 1, vb true, vb false, vb true, vb false, vi 5, .slice (pa bn) 1 1, vb false, vb true, vb false, vb true, vi 6, .slice (pa bp) 1 1, vb false, vb true, vb false, vb true, vi 7, .slice (pa bq) 1 1, vb true, vb true, vb true, vb true, vi 8, .slice (pa br) 3 3, vb false, vb true, vb false, vb true, vi 9, .slice (pa bt) 1 1, vb false, vb true, vb false, vb true]) (8 - 0 : Int).toNat ⟨0, Z, (by omega), Z, Z, Z, Z, Z, k4, lf, lg, lh, li, lj, lk, ll, lm, ln, ae.blk⟩ ?_
 rintro mm mg ng ⟨i, l6, hi, ag, a8, ah, bj, a9, am, ai, ba, bb, bc, bd, be, bf, bg, bh, ak⟩
 rcases (show i = 0 ∨ i = 1 ∨ i = 2 ∨ i = 3 ∨ i = 4 ∨ i = 5 ∨ i = 6 ∨ i = 7 ∨ i = 8 by omega) with rfl | rfl | rfl | rfl | rfl | rfl | rfl | rfl | rfl
 refine Xa (Qa (q := true) ag a9 (by decide) Z (Xc (Xq (Qg Z Z (Xw (Xu (Xq (Yc (Xa (Yb (o' := 0) W4 bj ag (by omega) (by omega) Z Z (Xp (vs := [vi 1, .slice (pa bk) 1 1, vb true, vb false, vb true, vb false]) Jf Z Z (ak.rangeL 0 6 Z) Z (Ye (cs := #[vi 0, .slice none 0 0, vb false, vb false, vb false, vb false]) U5 Z Z ?_))))))))))))
 intro l7 nh E
 have lv := Yj E am
 have eh := Xr E (ai).lt
 have fc := Xr E (ba).lt
 have fu := Xr E (bb).lt
 have gi := Xr E (bc).lt
 have gy := Xr E (bd).lt
 have ib := Xr E (be).lt
 have iq := Xr E (bf).lt
 have i1 := Xr E (bg).lt
 have ja := Xr E (bh).lt
 have ji := Xr E (ak).lt
 refine X0 (vs := [vi 1, .slice (pa bk) 1 1, vb true, vb false, vb true, vb false]) (cs' := #[vi 1, .slice (pa bk) 1 1, vb true, vb false, vb true, vb false]) Jf Z Z Z (by simp [Value.oneCell']) E.blk (Nat.le_of_ble_eq_true Z) Z ?_
 intro ni an
 have dq := low1 (low0 am E.grw) an.grw (by omega)
 refine Xc (Xa (Xd (o' := 0) V6 Z Z Z (Xh (v := vi 1) X1 Z (an.blk.cell Z) Z (Xb (v := vi q) a8 Z (X3 (q := decide (1 = q)) Z Z Z Z (Xc (Xy Z (fun cl => ?_) (fun cl => ?_))))))))
 have mh := of_decide_eq_true cl
 refine Xa (Xp (vs := [vi 1, .slice (pa bk) 1 1, vb true, vb false, vb true, vb false]) Jf Z Z (an.blk.rangeL 0 6 Z) Z (X0 (vs := [vi 1, .slice (pa bk) 1 1, vb true, vb false, vb true, vb false]) (cs' := #[vi 1, .slice (pa bk) 1 1, vb true, vb false, vb true, vb false]) Jf ah Z Z (by simp [Value.oneCell']) ((ai.grown0 E.grw).gn an.grw) (Nat.le_of_ble_eq_true Z) Z ?_))
 intro nj bz
 refine Xc (Xt (Qi (Yk (Yk (Qi (Yk ?_))))))
 have cy := of_decide_eq_true cl
 have k5 := (((ba.grown0 E.grw).gn an.grw).gn bz.grw)
 have dz : kindsOf q = ([1] : List Int) := by rw [← cy]; decide
 refine ⟨.agg #[vi 1, .slice (pa bk) 1 1, vb true, vb false, vb true, vb false], J2 Z (Ym (vs := [vi 1, .slice (pa bk) 1 1, vb true, vb false, vb true, vb false]) Jf ah Z (bz.blk.rangeL 0 6 Z)), bk, ?_, jr, ?_, (low1 dq bz.grw (by omega))⟩
 rw [dz, ← cy]; rfl
 rw [dz]; exact k5
 have ml := of_decide_eq_false cl
 exact Xw (Y7 (Xu (X2 (Yn (c := 1) ag Z (by omega) (by omega) (by omega) Z (Xb (v := vi 1) Z Z (Xc (Xu (⟨(8 - 1 : Int).toNat, by omega, 1, Z, (by omega), Z, a8, ah, bj, a9, dq, ((ai.grown0 E.grw).gn an.grw), ((ba.grown0 E.grw).gn an.grw), ((bb.grown0 E.grw).gn an.grw), ((bc.grown0 E.grw).gn an.grw), ((bd.grown0 E.grw).gn an.grw), ((be.grown0 E.grw).gn an.grw), ((bf.grown0 E.grw).gn an.grw), ((bg.grown0 E.grw).gn an.grw), ((bh.grown0 E.grw).gn an.grw), ((ak.grown0 E.grw).gn an.grw)⟩))))))))
 refine Xa (Qa (q := true) ag a9 (by decide) Z (Xc (Xq (Qg Z Z (Xw (Xu (Xq (Yc (Xa (Yb (o' := 6) W4 bj ag (by omega) (by omega) Z Z (Xp (vs := [vi 2, .slice (pa bl) 1 1, vb false, vb true, vb false, vb true]) Jf Z Z (ak.rangeL 6 6 Z) Z (Ye (cs := #[vi 0, .slice none 0 0, vb false, vb false, vb false, vb false]) U5 Z Z ?_))))))))))))
 intro l8 nk G
 have lw := Yj G am
 have ei := Xr G (ai).lt
 have fd := Xr G (ba).lt
 have fv := Xr G (bb).lt
 have gj := Xr G (bc).lt
 have gz := Xr G (bd).lt
 have ic := Xr G (be).lt
 have ir := Xr G (bf).lt
 have i2 := Xr G (bg).lt
 have jb := Xr G (bh).lt
 have jj := Xr G (ak).lt
 refine X0 (vs := [vi 2, .slice (pa bl) 1 1, vb false, vb true, vb false, vb true]) (cs' := #[vi 2, .slice (pa bl) 1 1, vb false, vb true, vb false, vb true]) Jf Z Z Z (by simp [Value.oneCell']) G.blk (Nat.le_of_ble_eq_true Z) Z ?_
 intro nn ao
 have dr := low1 (low0 am G.grw) ao.grw (by omega)
 refine Xc (Xa (Xd (o' := 0) V6 Z Z Z (Xh (v := vi 2) X1 Z (ao.blk.cell Z) Z (Xb (v := vi q) a8 Z (X3 (q := decide (2 = q)) Z Z Z Z (Xc (Xy Z (fun cm => ?_) (fun cm => ?_))))))))
 have mn := of_decide_eq_true cm
 refine Xa (Xp (vs := [vi 2, .slice (pa bl) 1 1, vb false, vb true, vb false, vb true]) Jf Z Z (ao.blk.rangeL 0 6 Z) Z (X0 (vs := [vi 2, .slice (pa bl) 1 1, vb false, vb true, vb false, vb true]) (cs' := #[vi 2, .slice (pa bl) 1 1, vb false, vb true, vb false, vb true]) Jf ah Z Z (by simp [Value.oneCell']) ((ai.grown0 G.grw).gn ao.grw) (Nat.le_of_ble_eq_true Z) Z ?_))
 intro no ca
 refine Xc (Xt (Qi (Yk (Yk (Qi (Yk ?_))))))
 have cz := of_decide_eq_true cm
 have k6 := (((bb.grown0 G.grw).gn ao.grw).gn ca.grw)
 have d0 : kindsOf q = ([1] : List Int) := by rw [← cz]; decide
 refine ⟨.agg #[vi 2, .slice (pa bl) 1 1, vb false, vb true, vb false, vb true], J2 Z (Ym (vs := [vi 2, .slice (pa bl) 1 1, vb false, vb true, vb false, vb true]) Jf ah Z (ca.blk.rangeL 0 6 Z)), bl, ?_, js, ?_, (low1 dr ca.grw (by omega))⟩
 rw [d0, ← cz]; rfl
 rw [d0]; exact k6
 have mo := of_decide_eq_false cm
 exact Xw (Y7 (Xu (X2 (Yn (c := 2) ag Z (by omega) (by omega) (by omega) Z (Xb (v := vi 2) Z Z (Xc (Xu (⟨(8 - 2 : Int).toNat, by omega, 2, Z, (by omega), Z, a8, ah, bj, a9, dr, ((ai.grown0 G.grw).gn ao.grw), ((ba.grown0 G.grw).gn ao.grw), ((bb.grown0 G.grw).gn ao.grw), ((bc.grown0 G.grw).gn ao.grw), ((bd.grown0 G.grw).gn ao.grw), ((be.grown0 G.grw).gn ao.grw), ((bf.grown0 G.grw).gn ao.grw), ((bg.grown0 G.grw).gn ao.grw), ((bh.grown0 G.grw).gn ao.grw), ((ak.grown0 G.grw).gn ao.grw)⟩))))))))
 refine Xa (Qa (q := true) ag a9 (by decide) Z (Xc (Xq (Qg Z Z (Xw (Xu (Xq (Yc (Xa (Yb (o' := 12) W4 bj ag (by omega) (by omega) Z Z (Xp (vs := [vi 4, .slice (pa bm) 1 1, vb true, vb false, vb true, vb false]) Jf Z Z (ak.rangeL 12 6 Z) Z (Ye (cs := #[vi 0, .slice none 0 0, vb false, vb false, vb false, vb false]) U5 Z Z ?_))))))))))))
 intro l9 np J
 have lx := Yj J am
 have ej := Xr J (ai).lt
 have fe := Xr J (ba).lt
 have fw := Xr J (bb).lt
 have gk := Xr J (bc).lt
 have g0 := Xr J (bd).lt
 have ie := Xr J (be).lt
 have it := Xr J (bf).lt
 have i3 := Xr J (bg).lt
 have jc := Xr J (bh).lt
 have jk := Xr J (ak).lt
 refine X0 (vs := [vi 4, .slice (pa bm) 1 1, vb true, vb false, vb true, vb false]) (cs' := #[vi 4, .slice (pa bm) 1 1, vb true, vb false, vb true, vb false]) Jf Z Z Z (by simp [Value.oneCell']) J.blk (Nat.le_of_ble_eq_true Z) Z ?_
 intro nq ap
 have dt := low1 (low0 am J.grw) ap.grw (by omega)
 refine Xc (Xa (Xd (o' := 0) V6 Z Z Z (Xh (v := vi 4) X1 Z (ap.blk.cell Z) Z (Xb (v := vi q) a8 Z (X3 (q := decide (4 = q)) Z Z Z Z (Xc (Xy Z (fun cn => ?_) (fun cn => ?_))))))))
 have mp := of_decide_eq_true cn
 refine Xa (Xp (vs := [vi 4, .slice (pa bm) 1 1, vb true, vb false, vb true, vb false]) Jf Z Z (ap.blk.rangeL 0 6 Z) Z (X0 (vs := [vi 4, .slice (pa bm) 1 1, vb true, vb false, vb true, vb false]) (cs' := #[vi 4, .slice (pa bm) 1 1, vb true, vb false, vb true, vb false]) Jf ah Z Z (by simp [Value.oneCell']) ((ai.grown0 J.grw).gn ap.grw) (Nat.le_of_ble_eq_true Z) Z ?_))
 intro nr cc
 refine Xc (Xt (Qi (Yk (Yk (Qi (Yk ?_))))))
 have c8 := of_decide_eq_true cn
 have k7 := (((bc.grown0 J.grw).gn ap.grw).gn cc.grw)
 have d1 : kindsOf q = ([2] : List Int) := by rw [← c8]; decide
 refine ⟨.agg #[vi 4, .slice (pa bm) 1 1, vb true, vb false, vb true, vb false], J2 Z (Ym (vs := [vi 4, .slice (pa bm) 1 1, vb true, vb false, vb true, vb false]) Jf ah Z (cc.blk.rangeL 0 6 Z)), bm, ?_, jt, ?_, (low1 dt cc.grw (by omega))⟩
 rw [d1, ← c8]; rfl
 rw [d1]; exact k7
 have mq := of_decide_eq_false cn
 exact Xw (Y7 (Xu (X2 (Yn (c := 3) ag Z (by omega) (by omega) (by omega) Z (Xb (v := vi 3) Z Z (Xc (Xu (⟨(8 - 3 : Int).toNat, by omega, 3, Z, (by omega), Z, a8, ah, bj, a9, dt, ((ai.grown0 J.grw).gn ap.grw), ((ba.grown0 J.grw).gn ap.grw), ((bb.grown0 J.grw).gn ap.grw), ((bc.grown0 J.grw).gn ap.grw), ((bd.grown0 J.grw).gn ap.grw), ((be.grown0 J.grw).gn ap.grw), ((bf.grown0 J.grw).gn ap.grw), ((bg.grown0 J.grw).gn ap.grw), ((bh.grown0 J.grw).gn ap.grw), ((ak.grown0 J.grw).gn ap.grw)⟩))))))))
 refine Xa (Qa (q := true) ag a9 (by decide) Z (Xc (Xq (Qg Z Z (Xw (Xu (Xq (Yc (Xa (Yb (o' := 18) W4 bj ag (by omega) (by omega) Z Z (Xp (vs := [vi 5, .slice (pa bn) 1 1, vb false, vb true, vb false, vb true]) Jf Z Z (ak.rangeL 18 6 Z) Z (Ye (cs := #[vi 0, .slice none 0 0, vb false, vb false, vb false, vb false]) U5 Z Z ?_))))))))))))
 intro ma nu O
 have ly := Yj O am
 have ek := Xr O (ai).lt
 have ff := Xr O (ba).lt
 have fx := Xr O (bb).lt
 have gl := Xr O (bc).lt
 have g1 := Xr O (bd).lt
 have ig := Xr O (be).lt
 have iu := Xr O (bf).lt
 have i4 := Xr O (bg).lt
 have jd := Xr O (bh).lt
 have jl := Xr O (ak).lt
 refine X0 (vs := [vi 5, .slice (pa bn) 1 1, vb false, vb true, vb false, vb true]) (cs' := #[vi 5, .slice (pa bn) 1 1, vb false, vb true, vb false, vb true]) Jf Z Z Z (by simp [Value.oneCell']) O.blk (Nat.le_of_ble_eq_true Z) Z ?_
 intro nv aq
 have du := low1 (low0 am O.grw) aq.grw (by omega)
 refine Xc (Xa (Xd (o' := 0) V6 Z Z Z (Xh (v := vi 5) X1 Z (aq.blk.cell Z) Z (Xb (v := vi q) a8 Z (X3 (q := decide (5 = q)) Z Z Z Z (Xc (Xy Z (fun co => ?_) (fun co => ?_))))))))
 have mr := of_decide_eq_true co
 refine Xa (Xp (vs := [vi 5, .slice (pa bn) 1 1, vb false, vb true, vb false, vb true]) Jf Z Z (aq.blk.rangeL 0 6 Z) Z (X0 (vs := [vi 5, .slice (pa bn) 1 1, vb false, vb true, vb false, vb true]) (cs' := #[vi 5, .slice (pa bn) 1 1, vb false, vb true, vb false, vb true]) Jf ah Z Z (by simp [Value.oneCell']) ((ai.grown0 O.grw).gn aq.grw) (Nat.le_of_ble_eq_true Z) Z ?_))
 intro nw cd
 refine Xc (Xt (Qi (Yk (Yk (Qi (Yk ?_))))))
 have c9 := of_decide_eq_true co
 have k8 := (((bd.grown0 O.grw).gn aq.grw).gn cd.grw)
 have d2 : kindsOf q = ([2] : List Int) := by rw [← c9]; decide
 refine ⟨.agg #[vi 5, .slice (pa bn) 1 1, vb false, vb true, vb false, vb true], J2 Z (Ym (vs := [vi 5, .slice (pa bn) 1 1, vb false, vb true, vb false, vb true]) Jf ah Z (cd.blk.rangeL 0 6 Z)), bn, ?_, ju, ?_, (low1 du cd.grw (by omega))⟩
 rw [d2, ← c9]; rfl
 rw [d2]; exact k8
 have mt := of_decide_eq_false co
 exact Xw (Y7 (Xu (X2 (Yn (c := 4) ag Z (by omega) (by omega) (by omega) Z (Xb (v := vi 4) Z Z (Xc (Xu (⟨(8 - 4 : Int).toNat, by omega, 4, Z, (by omega), Z, a8, ah, bj, a9, du, ((ai.grown0 O.grw).gn aq.grw), ((ba.grown0 O.grw).gn aq.grw), ((bb.grown0 O.grw).gn aq.grw), ((bc.grown0 O.grw).gn aq.grw), ((bd.grown0 O.grw).gn aq.grw), ((be.grown0 O.grw).gn aq.grw), ((bf.grown0 O.grw).gn aq.grw), ((bg.grown0 O.grw).gn aq.grw), ((bh.grown0 O.grw).gn aq.grw), ((ak.grown0 O.grw).gn aq.grw)⟩))))))))
 refine Xa (Qa (q := true) ag a9 (by decide) Z (Xc (Xq (Qg Z Z (Xw (Xu (Xq (Yc (Xa (Yb (o' := 24) W4 bj ag (by omega) (by omega) Z Z (Xp (vs := [vi 6, .slice (pa bp) 1 1, vb false, vb true, vb false, vb true]) Jf Z Z (ak.rangeL 24 6 Z) Z (Ye (cs := #[vi 0, .slice none 0 0, vb false, vb false, vb false, vb false]) U5 Z Z ?_))))))))))))
 intro mb nx V
 have lz := Yj V am
 have em := Xr V (ai).lt
 have fg := Xr V (ba).lt
 have fy := Xr V (bb).lt
 have gm := Xr V (bc).lt
 have g2 := Xr V (bd).lt
 have ii := Xr V (be).lt
 have iv := Xr V (bf).lt
 have i5 := Xr V (bg).lt
 have je := Xr V (bh).lt
 have jm := Xr V (ak).lt
 refine X0 (vs := [vi 6, .slice (pa bp) 1 1, vb false, vb true, vb false, vb true]) (cs' := #[vi 6, .slice (pa bp) 1 1, vb false, vb true, vb false, vb true]) Jf Z Z Z (by simp [Value.oneCell']) V.blk (Nat.le_of_ble_eq_true Z) Z ?_
 intro ny ar
 have dv := low1 (low0 am V.grw) ar.grw (by omega)
 refine Xc (Xa (Xd (o' := 0) V6 Z Z Z (Xh (v := vi 6) X1 Z (ar.blk.cell Z) Z (Xb (v := vi q) a8 Z (X3 (q := decide (6 = q)) Z Z Z Z (Xc (Xy Z (fun ct => ?_) (fun ct => ?_))))))))
 have mu := of_decide_eq_true ct
 refine Xa (Xp (vs := [vi 6, .slice (pa bp) 1 1, vb false, vb true, vb false, vb true]) Jf Z Z (ar.blk.rangeL 0 6 Z) Z (X0 (vs := [vi 6, .slice (pa bp) 1 1, vb false, vb true, vb false, vb true]) (cs' := #[vi 6, .slice (pa bp) 1 1, vb false, vb true, vb false, vb true]) Jf ah Z Z (by simp [Value.oneCell']) ((ai.grown0 V.grw).gn ar.grw) (Nat.le_of_ble_eq_true Z) Z ?_))
 intro nz ce
 refine Xc (Xt (Qi (Yk (Yk (Qi (Yk ?_))))))
 have da := of_decide_eq_true ct
 have k9 := (((be.grown0 V.grw).gn ar.grw).gn ce.grw)
 have d3 : kindsOf q = ([4] : List Int) := by rw [← da]; decide
 refine ⟨.agg #[vi 6, .slice (pa bp) 1 1, vb false, vb true, vb false, vb true], J2 Z (Ym (vs := [vi 6, .slice (pa bp) 1 1, vb false, vb true, vb false, vb true]) Jf ah Z (ce.blk.rangeL 0 6 Z)), bp, ?_, jv, ?_, (low1 dv ce.grw (by omega))⟩
 rw [d3, ← da]; rfl
 rw [d3]; exact k9
 have mv := of_decide_eq_false ct
 exact Xw (Y7 (Xu (X2 (Yn (c := 5) ag Z (by omega) (by omega) (by omega) Z (Xb (v := vi 5) Z Z (Xc (Xu (⟨(8 - 5 : Int).toNat, by omega, 5, Z, (by omega), Z, a8, ah, bj, a9, dv, ((ai.grown0 V.grw).gn ar.grw), ((ba.grown0 V.grw).gn ar.grw), ((bb.grown0 V.grw).gn ar.grw), ((bc.grown0 V.grw).gn ar.grw), ((bd.grown0 V.grw).gn ar.grw), ((be.grown0 V.grw).gn ar.grw), ((bf.grown0 V.grw).gn ar.grw), ((bg.grown0 V.grw).gn ar.grw), ((bh.grown0 V.grw).gn ar.grw), ((ak.grown0 V.grw).gn ar.grw)⟩))))))))
 refine Xa (Qa (q := true) ag a9 (by decide) Z (Xc (Xq (Qg Z Z (Xw (Xu (Xq (Yc (Xa (Yb (o' := 30) W4 bj ag (by omega) (by omega) Z Z (Xp (vs := [vi 7, .slice (pa bq) 1 1, vb true, vb true, vb true, vb true]) Jf Z Z (ak.rangeL 30 6 Z) Z (Ye (cs := #[vi 0, .slice none 0 0, vb false, vb false, vb false, vb false]) U5 Z Z ?_))))))))))))
 intro mc n5 ab
 have l0 := Yj ab am
 have eo := Xr ab (ai).lt
 have fh := Xr ab (ba).lt
 have fz := Xr ab (bb).lt
 have gp := Xr ab (bc).lt
 have g3 := Xr ab (bd).lt
 have ij := Xr ab (be).lt
 have iw := Xr ab (bf).lt
 have i6 := Xr ab (bg).lt
 have jf := Xr ab (bh).lt
 have jo := Xr ab (ak).lt
 refine X0 (vs := [vi 7, .slice (pa bq) 1 1, vb true, vb true, vb true, vb true]) (cs' := #[vi 7, .slice (pa bq) 1 1, vb true, vb true, vb true, vb true]) Jf Z Z Z (by simp [Value.oneCell']) ab.blk (Nat.le_of_ble_eq_true Z) Z ?_
 intro n7 au
 have dw := low1 (low0 am ab.grw) au.grw (by omega)
 refine Xc (Xa (Xd (o' := 0) V6 Z Z Z (Xh (v := vi 7) X1 Z (au.blk.cell Z) Z (Xb (v := vi q) a8 Z (X3 (q := decide (7 = q)) Z Z Z Z (Xc (Xy Z (fun cv => ?_) (fun cv => ?_))))))))
 have mw := of_decide_eq_true cv
 refine Xa (Xp (vs := [vi 7, .slice (pa bq) 1 1, vb true, vb true, vb true, vb true]) Jf Z Z (au.blk.rangeL 0 6 Z) Z (X0 (vs := [vi 7, .slice (pa bq) 1 1, vb true, vb true, vb true, vb true]) (cs' := #[vi 7, .slice (pa bq) 1 1, vb true, vb true, vb true, vb true]) Jf ah Z Z (by simp [Value.oneCell']) ((ai.grown0 ab.grw).gn au.grw) (Nat.le_of_ble_eq_true Z) Z ?_))
 intro n9 cf
 refine Xc (Xt (Qi (Yk (Yk (Qi (Yk ?_))))))
 have db := of_decide_eq_true cv
 have la := (((bf.grown0 ab.grw).gn au.grw).gn cf.grw)
 have d4 : kindsOf q = ([4] : List Int) := by rw [← db]; decide
 refine ⟨.agg #[vi 7, .slice (pa bq) 1 1, vb true, vb true, vb true, vb true], J2 Z (Ym (vs := [vi 7, .slice (pa bq) 1 1, vb true, vb true, vb true, vb true]) Jf ah Z (cf.blk.rangeL 0 6 Z)), bq, ?_, jw, ?_, (low1 dw cf.grw (by omega))⟩
 rw [d4, ← db]; rfl
 rw [d4]; exact la
 have my := of_decide_eq_false cv
 exact Xw (Y7 (Xu (X2 (Yn (c := 6) ag Z (by omega) (by omega) (by omega) Z (Xb (v := vi 6) Z Z (Xc (Xu (⟨(8 - 6 : Int).toNat, by omega, 6, Z, (by omega), Z, a8, ah, bj, a9, dw, ((ai.grown0 ab.grw).gn au.grw), ((ba.grown0 ab.grw).gn au.grw), ((bb.grown0 ab.grw).gn au.grw), ((bc.grown0 ab.grw).gn au.grw), ((bd.grown0 ab.grw).gn au.grw), ((be.grown0 ab.grw).gn au.grw), ((bf.grown0 ab.grw).gn au.grw), ((bg.grown0 ab.grw).gn au.grw), ((bh.grown0 ab.grw).gn au.grw), ((ak.grown0 ab.grw).gn au.grw)⟩))))))))
 refine Xa (Qa (q := true) ag a9 (by decide) Z (Xc (Xq (Qg Z Z (Xw (Xu (Xq (Yc (Xa (Yb (o' := 36) W4 bj ag (by omega) (by omega) Z Z (Xp (vs := [vi 8, .slice (pa br) 3 3, vb false, vb true, vb false, vb true]) Jf Z Z (ak.rangeL 36 6 Z) Z (Ye (cs := #[vi 0, .slice none 0 0, vb false, vb false, vb false, vb false]) U5 Z Z ?_))))))))))))
 intro me oa ac
 have l3 := Yj ac am
 have ep := Xr ac (ai).lt
 have fi := Xr ac (ba).lt
 have f8 := Xr ac (bb).lt
 have gq := Xr ac (bc).lt
 have g5 := Xr ac (bd).lt
 have ik := Xr ac (be).lt
 have ix := Xr ac (bf).lt
 have i7 := Xr ac (bg).lt
 have jg := Xr ac (bh).lt
 have jp := Xr ac (ak).lt
 refine X0 (vs := [vi 8, .slice (pa br) 3 3, vb false, vb true, vb false, vb true]) (cs' := #[vi 8, .slice (pa br) 3 3, vb false, vb true, vb false, vb true]) Jf Z Z Z (by simp [Value.oneCell']) ac.blk (Nat.le_of_ble_eq_true Z) Z ?_
 intro ob av
 have dx := low1 (low0 am ac.grw) av.grw (by omega)
 refine Xc (Xa (Xd (o' := 0) V6 Z Z Z (Xh (v := vi 8) X1 Z (av.blk.cell Z) Z (Xb (v := vi q) a8 Z (X3 (q := decide (8 = q)) Z Z Z Z (Xc (Xy Z (fun cw => ?_) (fun cw => ?_))))))))
 have mz := of_decide_eq_true cw
 refine Xa (Xp (vs := [vi 8, .slice (pa br) 3 3, vb false, vb true, vb false, vb true]) Jf Z Z (av.blk.rangeL 0 6 Z) Z (X0 (vs := [vi 8, .slice (pa br) 3 3, vb false, vb true, vb false, vb true]) (cs' := #[vi 8, .slice (pa br) 3 3, vb false, vb true, vb false, vb true]) Jf ah Z Z (by simp [Value.oneCell']) ((ai.grown0 ac.grw).gn av.grw) (Nat.le_of_ble_eq_true Z) Z ?_))
 intro oc cg
 refine Xc (Xt (Qi (Yk (Yk (Qi (Yk ?_))))))
 have dc := of_decide_eq_true cw
 have lc := (((bg.grown0 ac.grw).gn av.grw).gn cg.grw)
 have d5 : kindsOf q = ([1, 2, 4] : List Int) := by rw [← dc]; decide
 refine ⟨.agg #[vi 8, .slice (pa br) 3 3, vb false, vb true, vb false, vb true], J2 Z (Ym (vs := [vi 8, .slice (pa br) 3 3, vb false, vb true, vb false, vb true]) Jf ah Z (cg.blk.rangeL 0 6 Z)), br, ?_, jx, ?_, (low1 dx cg.grw (by omega))⟩
 rw [d5, ← dc]; rfl
 rw [d5]; exact lc
 have m3 := of_decide_eq_false cw
 exact Xw (Y7 (Xu (X2 (Yn (c := 7) ag Z (by omega) (by omega) (by omega) Z (Xb (v := vi 7) Z Z (Xc (Xu (⟨(8 - 7 : Int).toNat, by omega, 7, Z, (by omega), Z, a8, ah, bj, a9, dx, ((ai.grown0 ac.grw).gn av.grw), ((ba.grown0 ac.grw).gn av.grw), ((bb.grown0 ac.grw).gn av.grw), ((bc.grown0 ac.grw).gn av.grw), ((bd.grown0 ac.grw).gn av.grw), ((be.grown0 ac.grw).gn av.grw), ((bf.grown0 ac.grw).gn av.grw), ((bg.grown0 ac.grw).gn av.grw), ((bh.grown0 ac.grw).gn av.grw), ((ak.grown0 ac.grw).gn av.grw)⟩))))))))
 refine Xa (Qa (q := true) ag a9 (by decide) Z (Xc (Xq (Qg Z Z (Xw (Xu (Xq (Yc (Xa (Yb (o' := 42) W4 bj ag (by omega) (by omega) Z Z (Xp (vs := [vi 9, .slice (pa bt) 1 1, vb false, vb true, vb false, vb true]) Jf Z Z (ak.rangeL 42 6 Z) Z (Ye (cs := #[vi 0, .slice none 0 0, vb false, vb false, vb false, vb false]) U5 Z Z ?_))))))))))))
 intro mf od ad
 have l4 := Yj ad am
 have er := Xr ad (ai).lt
 have fj := Xr ad (ba).lt
 have f9 := Xr ad (bb).lt
 have gr := Xr ad (bc).lt
 have g6 := Xr ad (bd).lt
 have il := Xr ad (be).lt
 have iy := Xr ad (bf).lt
 have i8 := Xr ad (bg).lt
 have jh := Xr ad (bh).lt
 have jq := Xr ad (ak).lt
 refine X0 (vs := [vi 9, .slice (pa bt) 1 1, vb false, vb true, vb false, vb true]) (cs' := #[vi 9, .slice (pa bt) 1 1, vb false, vb true, vb false, vb true]) Jf Z Z Z (by simp [Value.oneCell']) ad.blk (Nat.le_of_ble_eq_true Z) Z ?_
 intro oe aw
 have dy := low1 (low0 am ad.grw) aw.grw (by omega)
 refine Xc (Xa (Xd (o' := 0) V6 Z Z Z (Xh (v := vi 9) X1 Z (aw.blk.cell Z) Z (Xb (v := vi q) a8 Z (X3 (q := decide (9 = q)) Z Z Z Z (Xc (Xy Z (fun cx => ?_) (fun cx => ?_))))))))
 have m4 := of_decide_eq_true cx
 refine Xa (Xp (vs := [vi 9, .slice (pa bt) 1 1, vb false, vb true, vb false, vb true]) Jf Z Z (aw.blk.rangeL 0 6 Z) Z (X0 (vs := [vi 9, .slice (pa bt) 1 1, vb false, vb true, vb false, vb true]) (cs' := #[vi 9, .slice (pa bt) 1 1, vb false, vb true, vb false, vb true]) Jf ah Z Z (by simp [Value.oneCell']) ((ai.grown0 ad.grw).gn aw.grw) (Nat.le_of_ble_eq_true Z) Z ?_))
 intro og cj
 refine Xc (Xt (Qi (Yk (Yk (Qi (Yk ?_))))))
 have de := of_decide_eq_true cx
 have ld := (((bh.grown0 ad.grw).gn aw.grw).gn cj.grw)
 have d6 : kindsOf q = ([5] : List Int) := by rw [← de]; decide
 refine ⟨.agg #[vi 9, .slice (pa bt) 1 1, vb false, vb true, vb false, vb true], J2 Z (Ym (vs := [vi 9, .slice (pa bt) 1 1, vb false, vb true, vb false, vb true]) Jf ah Z (cj.blk.rangeL 0 6 Z)), bt, ?_, jy, ?_, (low1 dy cj.grw (by omega))⟩
 rw [d6, ← de]; rfl
 rw [d6]; exact ld
 have m5 := of_decide_eq_false cx
 exact Xw (Y7 (Xu (X2 (Yn (c := 8) ag Z (by omega) (by omega) (by omega) Z (Xb (v := vi 8) Z Z (Xc (Xu (⟨(8 - 8 : Int).toNat, by omega, 8, Z, (by omega), Z, a8, ah, bj, a9, dy, ((ai.grown0 ad.grw).gn aw.grw), ((ba.grown0 ad.grw).gn aw.grw), ((bb.grown0 ad.grw).gn aw.grw), ((bc.grown0 ad.grw).gn aw.grw), ((bd.grown0 ad.grw).gn aw.grw), ((be.grown0 ad.grw).gn aw.grw), ((bf.grown0 ad.grw).gn aw.grw), ((bg.grown0 ad.grw).gn aw.grw), ((bh.grown0 ad.grw).gn aw.grw), ((ak.grown0 ad.grw).gn aw.grw)⟩))))))))
 refine Xa (Qa (q := false) ag a9 (by decide) Z (Xc (Xq (Qc Z Z (Qe (Qb (Qb (Jm (Xu (Xa (Xb (v := vi q) a8 Z (Y6 (ps := [(0, vi q)]) (v := .agg #[vi q, .slice none 0 0, vb false, vb false, vb false, vb false]) (Xn Z X8) (by kernel_rfl) Z ?_))))))))))))
 refine X0 (vs := [vi q, .slice none 0 0, vb false, vb false, vb false, vb false]) (cs' := #[vi q, .slice none 0 0, vb false, vb false, vb false, vb false]) Jf ah Z Z (by simp [Value.oneCell']) ai (Nat.le_of_ble_eq_true Z) Z ?_
 intro oh l5
 refine Xc (Xt ?_)
 exfalso; omega
theorem Mt (k x : Int) (b0 b1 b2 b3 : Bool) (w : World) (xs : List Int) (a : Option Addr) (c : Nat) (hs : SlAt w a 1 (xs.map icell)) (hn : xs.length ≤ 1048576) : CallsR Tryz.prog 77 #[.agg #[vi k, .slice a xs.length c, vb b0, vb b1, vb b2, vb b3], vi x] w (fun v w' => v = vb (xs.any (fun y : Int => decide (y = x))) ∧ w.grownBy w' none) := by
 refine Xx (n := 18) Tryz.func77 Z Tryz.ntmps77 Z ?_
 have aj := World.grownBy.refl w none
 refine Xa (Qf (v := .agg #[vi k, .slice a xs.length c, vb b0, vb b1, vb b2, vb b3]) (cs := #[vi k, .slice a xs.length c, vb b0, vb b1, vb b2, vb b3]) Z Z Z ?_)
 intro am az J
 have ak := Yj J aj
 refine Xe (v := vb false) Z Z (Xc (Xq (Xa (Xd (o' := 1) Ca Z Z Z (Xh (v := .slice a xs.length c) Js Z (J.blk.cell Z) Z (Yu (by kernel_rfl) Z Z (Xb (v := vi 0) Z Z (Xc (Yc (Qm (fun mm f' w' => ∃ (k1 : Nat), mm = xs.length - k1 ∧ k1 ≤ xs.length ∧ ((xs.take k1).any (fun y : Int => decide (y = x))) = false ∧ f' 10 = vi (k1 : Int) ∧ f' 1 = vi x ∧ f' 8 = .slice a xs.length c ∧ f' 9 = vi (xs.length : Int) ∧ w.grownBy w' none) (xs.length - 0) ⟨0, Z, (Nat.zero_le _), Z, Z, Z, Z, Z, (low0 aj J.grw)⟩ ?_))))))))))
 rintro mm ao a8 ⟨k1, al, a9, ha, ab, ad, ae, af, E⟩
 refine Xa (Qa (q := decide ((k1 : Int) < (xs.length : Int))) ab af Z Z (Xc (Xq (Xy Z (fun ac => ?_) (fun ac => ?_)))))
 have ap := of_decide_eq_true ac
 refine Xw (Xu (Xq (Yc (Xa ?_))))
 obtain ⟨V, O⟩ := Jn (l := xs) (i := k1) (by omega)
 obtain ⟨an, aw, av, ag, ah, ai⟩ := SlAt.at hs (Yi O)
 refine Xz J6 ae ab ag ah (by omega) (by omega) Z (Xh (v := vi V) X1 Z ((X9 ai E) 0 _ Z) Z (Xe (v := vi V) Z Z (Xc (Xa (Xb (v := vi V) Z Z (Xb (v := vi x) ad Z (X3 (q := decide (V = x)) Z Z Z Z (Xc (Xy Z (fun G => ?_) (fun G => ?_))))))))))
 have aq := of_decide_eq_true G
 refine Xa (Xe (v := vb true) Z Z (Xc (Xt (Qi (Yk (Yk (Qi (Yk (⟨vb true, Yp Z Z, ?_, E⟩)))))))))
 exact cB (Rf (p := (fun y : Int => decide (y = x))) O G).symm
 have ar := of_decide_eq_false G
 exact Xw (Y7 (Xu (X2 (Yn (c := (k1 : Int) + 1) ab Z (by omega) (by omega) (by omega) Z (Xb (v := vi ((k1 : Int) + 1)) Z Z (Xc (Xu (⟨xs.length - (k1 + 1), by omega, (k1 + 1), Z, (by omega), (Nf (p := (fun y : Int => decide (y = x))) ha O G), Z, ad, ae, af, E⟩))))))))
 have au := of_decide_eq_false ac
 refine Qe (Qb (Qb (Jm (Xu (Xa (Xe (v := vb false) Z Z (Xc (Xt (⟨vb false, Yp Z Z, ?_, E⟩)))))))))
 exact cB (Rd (p := (fun y : Int => decide (y = x))) ha (by omega)).symm
theorem Nk (q : Cl) (w : World) (ms : List MTh) (a : Option Addr) (c : Nat) (ht : TabAt w a ms) (hlen : TabLen ms) (hn : ms.length ≤ 1048576) : CallsR Tryz.prog 51 #[.slice a ms.length c, .agg #[vi q.kind, vi q.run, vi q.a, vi q.b, vi q.n]] w (fun v w' => ((chkAll (tabT ms) q = 0 ∧ v = .nilIface) ∨ (∃ R : Nat, (¬ chkAll (tabT ms) q = 0 ∧ v = .iface 70 (pt R 0)) ∧ w.heap.size ≤ R ∧ Blk w' R 77 #[vi (chkAll (tabT ms) q)])) ∧ w.grownBy w' none) := by
 refine Xx (n := 107) Tryz.func51 Z Tryz.ntmps51 Z ?_
 have jv := World.grownBy.refl w none
 refine Xa (Qf (v := .agg #[vi q.kind, vi q.run, vi q.a, vi q.b, vi q.n]) (cs := #[vi q.kind, vi q.run, vi q.a, vi q.b, vi q.n]) Z Z Z ?_)
 intro cc kt bt
 have j4 := Yj bt jv
 have dw := low0 jv bt.grw
 refine Xe (v := .nilIface) Z Z (Xc (Xq (Xa (Xb (v := .slice a ms.length c) Z Z (Xp (vs := [vi q.kind, vi q.run, vi q.a, vi q.b, vi q.n]) Y1 Z Z (bt.blk.rangeL 0 5 Z) Z (Xl Fp (Xg Z (Xg Z Xk)) Z (Lc q _ ms _ _ (TabAt.low ht dw) hlen (by omega)) ?_))))))
 rintro _ ku ⟨rfl, cy⟩
 have bu := low0 dw cy
 refine Yl (b' := !callPoss (tabT ms) q) Z Z Z (Xc (Xy Z (fun ae => ?_) (fun ae => ?_)))
 have jt := Q2 ae
 refine Xa (Y6 (ps := [(0, vi (-1))]) (v := .agg #[vi (-1)]) (Xn Z X8) (by kernel_rfl) Z (Qf (v := .agg #[vi (-1)]) (cs := #[vi (-1)]) Z Z Z ?_))
 intro cz kv cf
 have fg := Yj cf bu
 have eb := Xr cf ((bt.blk.grown0 cy)).lt
 refine Vh (v := pt cz 0) (by kernel_rfl) Z Z (Xe (v := .iface 70 (pt cz 0)) Z Z (Xc (Xt (Yk ?_))))
 have di : chkAll (tabT ms) q = -1 := Nh jt
 refine ⟨.iface 70 (pt cz 0), Yp Z Z, Or.inr ⟨cz, ⟨by rw [di]; decide, Z⟩, fg, ?_⟩, (low0 bu cf.grw)⟩
 rw [di]; exact cf.blk
 have ab := Qx ae
 obtain ⟨G, J, E⟩ := Yh ab
 have j2 := Yq J
 have j3 := (Y3 E).1
 have kc := Qp G E
 have ka := Jb G
 refine Xw (Xu (Xq (Xa (Xd (o' := 0) Ja Z Z Z ?_))))
 have dq := (bt.blk.grown0 cy)
 refine Xh (v := vi q.kind) X1 Z (dq.cell Z) Z (X3 (q := decide (q.kind = 3)) Z Z Z Z (Xc (Xy Z (fun V => ?_) (fun V => ?_))))
 have kj := of_decide_eq_true V
 refine Xa (Xe (v := .nilIface) Z Z (Xc (Xt (Yk ?_))))
 have fe : chkAll (tabT ms) q = 0 := (Jr ab).trans (Lg V).symm
 exact ⟨.nilIface, Yp Z Z, Or.inl ⟨fe, Z⟩, bu⟩
 have kk := of_decide_eq_false V
 refine Xw (Xu (Xa (Xd (o' := 0) Ja Z Z Z (Xh (v := vi q.kind) X1 Z (dq.cell Z) Z (Xl Zp (Xg Z Xk) Z (E0 q.kind (by omega) _) ?_)))))
 rintro _ kw ⟨ck, rfl, dp, bb, dz⟩
 have dx := low0 bu dz
 have j5 := nt bu.size dp
 have ed := nl (dq).lt dp
 refine Ye (cs := #[vi 0, .slice none 0 0, vb false, vb false, vb false, vb false]) U5 Z Z ?_
 intro c8 kx am
 have j6 := Yj am dx
 have bw := (dq.grown0 dz)
 have ee := Xr am (bw).lt
 have ek := Xr am (bb).lt
 refine X0 (vs := [vi q.kind, .slice (pa ck) (kindsOf q.kind).length (kindsOf q.kind).length, vb (need0 q.kind), vb (need1 q.kind), vb (need0 q.kind), vb (need1 q.kind)]) (cs' := #[vi q.kind, .slice (pa ck) (kindsOf q.kind).length (kindsOf q.kind).length, vb (need0 q.kind), vb (need1 q.kind), vb (need0 q.kind), vb (need1 q.kind)]) Jf Z Z Z (by simp [Value.oneCell']) am.blk (Nat.le_of_ble_eq_true Z) Z ?_
 intro f8 ag
 have cg := low1 (low0 dx am.grw) ag.grw (by omega)
 refine Xc (Xq ?_)
 obtain ⟨fo, kq, d8, f9, gy, g1⟩ := SlAt.at (TabAt.low ht cg).1 (Yi (xg ms (q.run - 1).toNat))
 have j8 := TabLen.at hlen (xg ms (q.run - 1).toNat)
 obtain ⟨g6, kr, jx, ga, gz, g2⟩ := SlAt.at (TabAt.th (TabAt.low ht cg) (xg ms (q.run - 1).toNat)).1 (Yi (xr (mAt ms (q.run - 1).toNat).t.slots (q.a).toNat))
 have kb := Hc G (lq (q.run - 1).toNat ms.length) (lq (q.a).toNat (mAt ms (q.run - 1).toNat).t.slots.length)
 refine Qy (m := 12) [[], [], [1], [1, 2], [0, 1, 2, 3], [0, 1, 2, 3, 4], [0, 1, 2, 3, 4, 5], [], [7], [0, 1, 2, 3, 4, 5, 6, 7, 8], [0, 1, 2, 3, 4, 5, 6, 7, 8, 9], [], [0, 1, 2, 3, 4, 5, 6, 7, 8, 9, 10, 11]] (fun S F w' => ∃ (O : Nat), f8.grownBy w' none ∧ F 0 = .slice a ms.length c ∧ F 3 = pt cc 0 ∧ F 4 = .nilIface ∧ F 5 = pt c8 0 ∧ (S 11 = true → F 6 = pt O 0 ∧ w.heap.size ≤ O ∧ Blk w' O 42 #[vi 0, vi 0, vb false, vb false, vb false] ∧ cc < O ∧ ck < O ∧ c8 < O ∧ f8.heap.size ≤ O) ∧ Vals S F [(0, 21, .slice a ms.length c), (1, 22, pt cc 1), (2, 23, vi q.run), (3, 24, vi (q.run - 1)), (4, 25, pt fo d8), (5, 26, pt fo (d8 + 5)), (6, 27, .slice (mAt ms (q.run - 1).toNat).sa (mAt ms (q.run - 1).toNat).t.slots.length (mAt ms (q.run - 1).toNat).sc), (7, 28, pt cc 2), (8, 29, vi q.a), (9, 30, pt g6 jx), (10, 31, .agg #[vi (rAt (mAt ms (q.run - 1).toNat).t.slots (q.a).toNat).th, vi (rAt (mAt ms (q.run - 1).toNat).t.slots (q.a).toNat).ve, vb (rAt (mAt ms (q.run - 1).toNat).t.slots (q.a).toNat).rd, vb (rAt (mAt ms (q.run - 1).toNat).t.slots (q.a).toNat).wr, vb (rAt (mAt ms (q.run - 1).toNat).t.slots (q.a).toNat).wk])]) Yy (by kernel_rfl) ⟨0, X6 _, Z, Z, Z, Z, Yt, J3 _⟩ ?_ ?_
 refine Xj (fun S F ky hS hbef hcl hI => ?_) ?_
 obtain ⟨O, gi, fq, g7, g8, g9, ak, hvs⟩ := hI
 exact Xb (v := .slice a ms.length c) fq Z (Xc ⟨O, gi, fq, g7, g8, g9, ak, Vals.up 0 hvs Z Z Z⟩)
 refine Xj (fun S F kz hS hbef hcl hI => ?_) ?_
 obtain ⟨O, gj, ia, fr, ib, ic, ak, hvs⟩ := hI
 exact Xd (o' := 1) Qv fr Z Z (Xc ⟨O, gj, ia, fr, ib, ic, ak, Vals.up 1 hvs Z Z Z⟩)
 refine Xj (fun S F k0 hS hbef hcl hI => ?_) ?_
 obtain ⟨O, d0, ie, ig, ii, ij, ak, hvs⟩ := hI
 exact Xh (v := vi q.run) X1 (Vals.at 1 hvs Z (Xm 1 hbef Z)) ((((bw.grown0 am.grw).gn ag.grw).grown0 d0).cell Z) Z (Xc ⟨O, d0, ie, ig, ii, ij, ak, Vals.up 2 hvs Z Z Z⟩)
 refine Xj (fun S F k3 hS hbef hcl hI => ?_) ?_
 obtain ⟨O, gk, ik, il, im, io, ak, hvs⟩ := hI
 exact Ys (c := q.run - 1) (Vals.at 2 hvs Z (Xm 2 hbef Z)) Z (by omega) (by omega) (by omega) Z (Xc ⟨O, gk, ik, il, im, io, ak, Vals.up 3 hvs Z Z Z⟩)
 refine Xj (fun S F k4 hS hbef hcl hI => ?_) ?_
 obtain ⟨O, gl, ip, iq, ir, it, ak, hvs⟩ := hI
 exact Xz Y2 (Vals.at 0 hvs Z (Xm 0 hbef Z)) (Vals.at 3 hvs Z (Xm 3 hbef Z)) f9 gy (by omega) (by omega) Z (Xc ⟨O, gl, ip, iq, ir, it, ak, Vals.up 4 hvs Z Z Z⟩)
 refine Xj (fun S F k5 hS hbef hcl hI => ?_) ?_
 obtain ⟨O, gm, iu, iv, iw, ix, ak, hvs⟩ := hI
 exact Xd (o' := d8 + 5) Qj (Vals.at 4 hvs Z (Xm 4 hbef Z)) Z Z (Xc ⟨O, gm, iu, iv, iw, ix, ak, Vals.up 5 hvs Z Z Z⟩)
 refine Xj (fun S F k6 hS hbef hcl hI => ?_) ?_
 obtain ⟨O, d1, iy, iz, i0, i1, ak, hvs⟩ := hI
 exact Xh (v := .slice (mAt ms (q.run - 1).toNat).sa (mAt ms (q.run - 1).toNat).t.slots.length (mAt ms (q.run - 1).toNat).sc) Jh (Vals.at 5 hvs Z (Xm 5 hbef Z)) ((X9 g1 d1) 5 _ Z) Z (Xc ⟨O, d1, iy, iz, i0, i1, ak, Vals.up 6 hvs Z Z Z⟩)
 refine Xj (fun S F k7 hS hbef hcl hI => ?_) ?_
 obtain ⟨O, gp, i2, ft, i3, i4, ak, hvs⟩ := hI
 exact Xd (o' := 2) Km ft Z Z (Xc ⟨O, gp, i2, ft, i3, i4, ak, Vals.up 7 hvs Z Z Z⟩)
 refine Xj (fun S F k8 hS hbef hcl hI => ?_) ?_
 obtain ⟨O, d2, i5, i6, i7, i8, ak, hvs⟩ := hI
 exact Xh (v := vi q.a) X1 (Vals.at 7 hvs Z (Xm 7 hbef Z)) ((((bw.grown0 am.grw).gn ag.grw).grown0 d2).cell Z) Z (Xc ⟨O, d2, i5, i6, i7, i8, ak, Vals.up 8 hvs Z Z Z⟩)
 refine Xj (fun S F k9 hS hbef hcl hI => ?_) ?_
 obtain ⟨O, gq, i9, ja, jb, jc, ak, hvs⟩ := hI
 exact Xz Ka (Vals.at 6 hvs Z (Xm 6 hbef Z)) (Vals.at 8 hvs Z (Xm 8 hbef Z)) ga gz (by omega) (by omega) Z (Xc ⟨O, gq, i9, ja, jb, jc, ak, Vals.up 9 hvs Z Z Z⟩)
 refine Xj (fun S F la hS hbef hcl hI => ?_) ?_
 obtain ⟨O, d3, jd, je, jf, jg, ak, hvs⟩ := hI
 exact Xp (vs := [vi (rAt (mAt ms (q.run - 1).toNat).t.slots (q.a).toNat).th, vi (rAt (mAt ms (q.run - 1).toNat).t.slots (q.a).toNat).ve, vb (rAt (mAt ms (q.run - 1).toNat).t.slots (q.a).toNat).rd, vb (rAt (mAt ms (q.run - 1).toNat).t.slots (q.a).toNat).wr, vb (rAt (mAt ms (q.run - 1).toNat).t.slots (q.a).toNat).wk]) Yx (Vals.at 9 hvs Z (Xm 9 hbef Z)) Z (Yr (X9 g2 d3) 0 5 Z) Z (Xc ⟨O, d3, jd, je, jf, jg, ak, Vals.up 10 hvs Z Z Z⟩)
 refine Xj (fun S F lc hS hbef hcl hI => ?_) ?_
 obtain ⟨O, bm, jh, ji, jj, jk, ak, hvs⟩ := hI
 refine Ye (cs := #[vi 0, vi 0, vb false, vb false, vb false]) Kz Z Z ?_
 intro g5 ld bg
 have fh := Yj bg (low0 cg bm)
 have bx := Xr bg ((((bw.grown0 am.grw).gn ag.grw).grown0 bm)).lt
 have bz := Xr bg ((((bb.grown0 am.grw).gn ag.grw).grown0 bm)).lt
 have ca := Xr bg ((ag.blk.grown0 bm)).lt
 exact Xc ⟨g5, (low0 bm bg.grw), jh, ji, jj, jk, fun _ => ⟨Z, fh, bg.blk, bx, bz, ca, (nt bm.size (Nat.le_of_eq bg.eq.symm))⟩, Vals.keep hvs Z⟩
 exact Q5
 intro S F le hall hI
 obtain ⟨O, an, dr, fu, fv, dt, ak, hvs⟩ := hI
 obtain ⟨cd, j7, d7, ef, em, ew, jw⟩ := ak (hall 11 (by decide))
 refine X0 (vs := [vi (rAt (mAt ms (q.run - 1).toNat).t.slots (q.a).toNat).th, vi (rAt (mAt ms (q.run - 1).toNat).t.slots (q.a).toNat).ve, vb (rAt (mAt ms (q.run - 1).toNat).t.slots (q.a).toNat).rd, vb (rAt (mAt ms (q.run - 1).toNat).t.slots (q.a).toNat).wr, vb (rAt (mAt ms (q.run - 1).toNat).t.slots (q.a).toNat).wk]) (cs' := #[vi (rAt (mAt ms (q.run - 1).toNat).t.slots (q.a).toNat).th, vi (rAt (mAt ms (q.run - 1).toNat).t.slots (q.a).toNat).ve, vb (rAt (mAt ms (q.run - 1).toNat).t.slots (q.a).toNat).rd, vb (rAt (mAt ms (q.run - 1).toNat).t.slots (q.a).toNat).wr, vb (rAt (mAt ms (q.run - 1).toNat).t.slots (q.a).toNat).wk]) Yx cd (Vals.at 10 hvs Z (hall 10 (by decide))) Z (by simp [Value.oneCell']) d7 (Nat.le_of_ble_eq_true Z) Z ?_
 intro ea ac
 have dy := low1 (low0 cg an) ac.grw (by omega)
 refine Xc (Xu (Xq (Kn (fun f' w' => (f' 0 = .slice a ms.length c ∧ f' 3 = pt cc 0 ∧ f' 4 = .nilIface ∧ f' 5 = pt c8 0 ∧ f' 6 = pt O 0 ∧ f' 46 = vb ((decide ((rAt (mAt ms (q.run - 1).toNat).t.slots (q.a).toNat).th = 0)) || (!kindFor q.kind (mAt ms ((rAt (mAt ms (q.run - 1).toNat).t.slots (q.a).toNat).th - 1).toNat).t.kind))) ∧ ea.grownBy w' none) ?_ ?_)))
 rcases Yf (decide ((rAt (mAt ms (q.run - 1).toNat).t.slots (q.a).toNat).th = 0)) with af | af
 have kl := of_decide_eq_true af
 refine Yw (m := 12) (vals := [(32, pt O 0), (33, vi (rAt (mAt ms (q.run - 1).toNat).t.slots (q.a).toNat).th), (34, vb (decide ((rAt (mAt ms (q.run - 1).toNat).t.slots (q.a).toNat).th = 0))), (35, vb (decide ((rAt (mAt ms (q.run - 1).toNat).t.slots (q.a).toNat).th = 0))), (36, undef), (37, undef), (38, undef), (39, undef), (40, undef), (41, undef), (42, undef), (43, undef)]) (fun w' => ea.grownBy w' none) Yy (by kernel_rfl) (X6 _) ?_ ?_
 refine yl Z (fun _ _ k => Xd (o' := 0) Yz cd Z Z k) (yl Z (fun _ gr k => Xh (v := vi (rAt (mAt ms (q.run - 1).toNat).t.slots (q.a).toNat).th) X1 Z ((ac.blk.grown0 gr).cell Z) Z k) (yl Z (fun _ _ k => X3 (q := decide ((rAt (mAt ms (q.run - 1).toNat).t.slots (q.a).toNat).th = 0)) Z Z Z Z k) (yl Z (fun _ _ k => Xb (v := vb (decide ((rAt (mAt ms (q.run - 1).toNat).t.slots (q.a).toNat).th = 0))) Z Z k) (yl Z (fun _ _ k => Xi Z Z Z af Z k) (yl Z (fun _ _ k => Xi Z Z Z af Z k) (yl Z (fun _ _ k => Xi Z Z Z af Z k) (yl Z (fun _ _ k => Xi Z Z Z af Z k) (yl Z (fun _ _ k => Xi Z Z Z af Z k) (yl Z (fun _ _ k => Xi Z Z Z af Z k) (yl Z (fun _ _ k => Xi Z Z Z af Z k) ?_))))))))))
 exact yl Z (fun _ _ k => Xi Z Z Z af Z k) Y5
 intro lf gt
 exact Xi Z Z Z af Z (Xi Z Z Z af Z (Xs (v := vb true) Z af Z Z (Xc (Xu ⟨⟨dr, fu, fv, dt, cd, (congrArg Value.bool (by first | (simp only [ae, ab, V, af, G, J, E, b0, b1, b2, b3, b4, b5, b6, b7, b8, b9]; done) | simp [ae, ab, V, af, G, J, E]))⟩, gt⟩))))
 have km := of_decide_eq_false af
 obtain ⟨fp, ks, d9, gb, g0, g3⟩ := SlAt.at (TabAt.low ht dy).1 (Yi (xg ms ((rAt (mAt ms (q.run - 1).toNat).t.slots (q.a).toNat).th - 1).toNat))
 have j9 := TabLen.at hlen (xg ms ((rAt (mAt ms (q.run - 1).toNat).t.slots (q.a).toNat).th - 1).toNat)
 refine Yw (m := 12) (vals := [(32, pt O 0), (33, vi (rAt (mAt ms (q.run - 1).toNat).t.slots (q.a).toNat).th), (34, vb (decide ((rAt (mAt ms (q.run - 1).toNat).t.slots (q.a).toNat).th = 0))), (35, vb (decide ((rAt (mAt ms (q.run - 1).toNat).t.slots (q.a).toNat).th = 0))), (36, .agg #[vi q.kind, .slice (pa ck) (kindsOf q.kind).length (kindsOf q.kind).length, vb (need0 q.kind), vb (need1 q.kind), vb (need0 q.kind), vb (need1 q.kind)]), (37, .slice a ms.length c), (38, pt O 0), (39, vi (rAt (mAt ms (q.run - 1).toNat).t.slots (q.a).toNat).th), (40, vi ((rAt (mAt ms (q.run - 1).toNat).t.slots (q.a).toNat).th - 1)), (41, pt fp d9), (42, pt fp d9), (43, vi (mAt ms ((rAt (mAt ms (q.run - 1).toNat).t.slots (q.a).toNat).th - 1).toNat).t.kind)]) (fun w' => ea.grownBy w' none) Yy (by kernel_rfl) (X6 _) ?_ ?_
 refine yl Z (fun _ _ k => Xd (o' := 0) Yz cd Z Z k) (yl Z (fun _ gu k => Xh (v := vi (rAt (mAt ms (q.run - 1).toNat).t.slots (q.a).toNat).th) X1 Z ((ac.blk.grown0 gu).cell Z) Z k) (yl Z (fun _ _ k => X3 (q := decide ((rAt (mAt ms (q.run - 1).toNat).t.slots (q.a).toNat).th = 0)) Z Z Z Z k) (yl Z (fun _ _ k => Xb (v := vb (decide ((rAt (mAt ms (q.run - 1).toNat).t.slots (q.a).toNat).th = 0))) Z Z k) (yl Z (fun _ gv k => Xf Z Z Z af (Xp (vs := [vi q.kind, .slice (pa ck) (kindsOf q.kind).length (kindsOf q.kind).length, vb (need0 q.kind), vb (need1 q.kind), vb (need0 q.kind), vb (need1 q.kind)]) Jf dt Z ((((ag.blk.grown0 an).gn ac.grw).grown0 gv).rangeL 0 6 Z) Z k)) (yl Z (fun _ _ k => Xf Z Z Z af (Xb (v := .slice a ms.length c) dr Z k)) (yl Z (fun _ _ k => Xf Z Z Z af (Xd (o' := 0) Yz cd Z Z k)) (yl Z (fun _ gw k => Xf Z Z Z af (Xh (v := vi (rAt (mAt ms (q.run - 1).toNat).t.slots (q.a).toNat).th) X1 Z ((ac.blk.grown0 gw).cell Z) Z k)) (yl Z (fun _ _ k => Xf Z Z Z af (Ys (c := (rAt (mAt ms (q.run - 1).toNat).t.slots (q.a).toNat).th - 1) Z Z (by omega) (by omega) (by omega) Z k)) (yl Z (fun _ _ k => Xf Z Z Z af (Xz Y2 Z Z gb g0 (by omega) (by omega) Z k)) (yl Z (fun _ _ k => Xf Z Z Z af (Xd (o' := d9) Y9 Z Z Z k)) ?_))))))))))
 exact yl Z (fun _ gx k => Xf Z Z Z af (Xh (v := vi (mAt ms ((rAt (mAt ms (q.run - 1).toNat).t.slots (q.a).toNat).th - 1).toNat).t.kind) X1 Z ((X9 g3 gx) 0 _ Z) Z k)) Y5
 intro lg d4
 refine Xf Z Z Z af (Xl Zq (Xg Z (Xg Z Xk)) Z (Mt q.kind (mAt ms ((rAt (mAt ms (q.run - 1).toNat).t.slots (q.a).toNat).th - 1).toNat).t.kind (need0 q.kind) (need1 q.kind) (need0 q.kind) (need1 q.kind) _ (kindsOf q.kind) _ _ (Jw Yv (((((bb.grown0 am.grw).gn ag.grw).grown0 an).gn ac.grw).grown0 d4)) (by exact nt Mv (by decide))) ?_)
 rintro _ lh ⟨rfl, gc⟩
 exact Xf Z Z Z af (Yl (b' := !kindFor q.kind (mAt ms ((rAt (mAt ms (q.run - 1).toNat).t.slots (q.a).toNat).th - 1).toNat).t.kind) (congrArg Value.bool (Cr q.kind (mAt ms ((rAt (mAt ms (q.run - 1).toNat).t.slots (q.a).toNat).th - 1).toNat).t.kind)) Z Z (Xo (v := vb (!kindFor q.kind (mAt ms ((rAt (mAt ms (q.run - 1).toNat).t.slots (q.a).toNat).th - 1).toNat).t.kind)) Z af Z Z (Xc (Xu ⟨⟨dr, fu, fv, dt, cd, (congrArg Value.bool (by first | (simp only [ae, ab, V, af, G, J, E, b0, b1, b2, b3, b4, b5, b6, b7, b8, b9]; done) | simp [ae, ab, V, af, G, J, E]))⟩, (grown_trans d4 gc)⟩))))
 rintro kf jy ⟨⟨cl, cm, cn, bn, bp, jl⟩, ah⟩
 have bl := low0 dy ah
 refine Xy jl (fun ad => ?_) (fun ad => ?_)
 refine Xa (Y6 (ps := [(0, vi (-1))]) (v := .agg #[vi (-1)]) (Xn Z X8) (by kernel_rfl) Z (Qf (v := .agg #[vi (-1)]) (cs := #[vi (-1)]) Z Z Z ?_))
 intro c9 li bh
 have fi := Yj bh bl
 have eg := Xr bh ((((((bw.grown0 am.grw).gn ag.grw).grown0 an).gn ac.grw).grown0 ah)).lt
 have eo := Xr bh ((((((bb.grown0 am.grw).gn ag.grw).grown0 an).gn ac.grw).grown0 ah)).lt
 have ex := Xr bh ((((ag.blk.grown0 an).gn ac.grw).grown0 ah)).lt
 have fa := Xr bh ((ac.blk.grown0 ah)).lt
 refine Vh (v := pt c9 0) (by kernel_rfl) Z Z (Xe (v := .iface 70 (pt c9 0)) Z Z (Xc (Xt (Yk ?_))))
 have dk : chkAll (tabT ms) q = -1 := (Jr ab).trans (Pb V (I6 ad)).symm
 refine ⟨.iface 70 (pt c9 0), Yp Z Z, Or.inr ⟨c9, ⟨by rw [dk]; decide, Z⟩, fi, ?_⟩, (low0 bl bh.grw)⟩
 rw [dk]; exact bh.blk
 have ai := Kq ad
 have kn := of_decide_eq_false ai
 have aj := Kr ad
 have al := Qx aj
 refine Xw (Xu (Xq (X7 (fun f' w' => (f' 0 = .slice a ms.length c ∧ f' 3 = pt cc 0 ∧ f' 4 = .nilIface ∧ f' 5 = pt c8 0 ∧ f' 6 = pt O 0 ∧ f' 65 = vb ((need0 q.kind && (!(rAt (mAt ms (q.run - 1).toNat).t.slots (q.a).toNat).rd)) || (need1 q.kind && (!(rAt (mAt ms (q.run - 1).toNat).t.slots (q.a).toNat).wr)))) ∧ jy = w') ?_ ?_)))
 refine Xd (o' := 2) Cb bn Z Z ?_
 have d5 := (((ag.blk.grown0 an).gn ac.grw).grown0 ah)
 refine Xh (v := vb (need0 q.kind)) J4 Z (d5.cell Z) Z (Xb (v := vb (need0 q.kind)) Z Z ?_)
 rcases Yf (need0 q.kind) with au | au
 refine Xf Z Z Z au (Xd (o' := 2) Ux bp Z Z (Xf Z Z Z au ?_))
 have fz := (ac.blk.grown0 ah)
 refine Xh (v := vb (rAt (mAt ms (q.run - 1).toNat).t.slots (q.a).toNat).rd) J4 Z (fz.cell Z) Z (Xf Z Z Z au (Yl (b' := !(rAt (mAt ms (q.run - 1).toNat).t.slots (q.a).toNat).rd) Z Z Z (Xs (v := vb (!(rAt (mAt ms (q.run - 1).toNat).t.slots (q.a).toNat).rd)) Z au Z Z (Xb (v := vb (!(rAt (mAt ms (q.run - 1).toNat).t.slots (q.a).toNat).rd)) Z Z ?_))))
 rcases Yf (!(rAt (mAt ms (q.run - 1).toNat).t.slots (q.a).toNat).rd) with aq | aq
 have fx := Q2 aq
 iterate 3 refine Xi rfl rfl rfl aq rfl ?_
 iterate 3 refine Y4 rfl rfl rfl rfl ?_
 exact Xi Z Z Z aq Z (Xs (v := vb true) Z aq Z Z (Xc ⟨⟨cl, cm, cn, bn, bp, (congrArg Value.bool (by first | (simp only [ae, ab, V, ad, ai, aj, al, au, aq, fx, G, J, E, b0, b1, b2, b3, b4, b5, b6, b7, b8, b9]; done) | simp [ae, ab, V, ad, ai, aj, al, au, aq, fx, G, J, E]))⟩, Z⟩))
 have de := Qx aq
 refine Xf Z Z Z aq (Xd (o' := 3) Ro bn Z Z (Xf Z Z Z aq (Xh (v := vb (need1 q.kind)) J4 Z (d5.cell Z) Z (Xf Z Z Z aq (Xb (v := vb (need1 q.kind)) Z Z ?_)))))
 rcases Yf (need1 q.kind) with bd | bd
 exact Xf Z Z Z bd (Xd (o' := 3) Vk bp Z Z (Xf Z Z Z bd (Xh (v := vb (rAt (mAt ms (q.run - 1).toNat).t.slots (q.a).toNat).wr) J4 Z (fz.cell Z) Z (Xf Z Z Z bd (Yl (b' := !(rAt (mAt ms (q.run - 1).toNat).t.slots (q.a).toNat).wr) Z Z Z (Xf Z Z Z aq (Xs (v := vb (!(rAt (mAt ms (q.run - 1).toNat).t.slots (q.a).toNat).wr)) Z bd Z Z (Xo (v := vb (!(rAt (mAt ms (q.run - 1).toNat).t.slots (q.a).toNat).wr)) Z aq Z Z (Xc ⟨⟨cl, cm, cn, bn, bp, (congrArg Value.bool (by first | (simp only [ae, ab, V, ad, ai, aj, al, au, aq, de, bd, G, J, E, b0, b1, b2, b3, b4, b5, b6, b7, b8, b9]; done) | simp [ae, ab, V, ad, ai, aj, al, au, aq, de, bd, G, J, E]))⟩, Z⟩)))))))))
 iterate 3 refine Xi rfl rfl rfl bd rfl ?_
 exact Xf Z Z Z aq (Xo (v := vb false) Z bd Z Z (Xo (v := vb false) Z aq Z Z (Xc ⟨⟨cl, cm, cn, bn, bp, (congrArg Value.bool (by first | (simp only [ae, ab, V, ad, ai, aj, al, au, aq, de, bd, G, J, E, b0, b1, b2, b3, b4, b5, b6, b7, b8, b9]; done) | simp [ae, ab, V, ad, ai, aj, al, au, aq, de, bd, G, J, E]))⟩, Z⟩)))
 iterate 3 refine Xi rfl rfl rfl au rfl ?_
 refine Xo (v := vb false) Z au Z Z (Xb (v := vb false) Z Z (Xf Z Z Z Z (Xd (o' := 3) Ro bn Z Z (Xf Z Z Z Z (Xh (v := vb (need1 q.kind)) J4 Z (d5.cell Z) Z (Xf Z Z Z Z (Xb (v := vb (need1 q.kind)) Z Z ?_)))))))
 rcases Yf (need1 q.kind) with be | be
 exact Xf Z Z Z be (Xd (o' := 3) Vk bp Z Z (Xf Z Z Z be (Xh (v := vb (rAt (mAt ms (q.run - 1).toNat).t.slots (q.a).toNat).wr) J4 Z ((ac.blk.grown0 ah).cell Z) Z (Xf Z Z Z be (Yl (b' := !(rAt (mAt ms (q.run - 1).toNat).t.slots (q.a).toNat).wr) Z Z Z (Xf Z Z Z Z (Xs (v := vb (!(rAt (mAt ms (q.run - 1).toNat).t.slots (q.a).toNat).wr)) Z be Z Z (Xo (v := vb (!(rAt (mAt ms (q.run - 1).toNat).t.slots (q.a).toNat).wr)) Z Z Z Z (Xc ⟨⟨cl, cm, cn, bn, bp, (congrArg Value.bool (by first | (simp only [ae, ab, V, ad, ai, aj, al, au, be, G, J, E, b0, b1, b2, b3, b4, b5, b6, b7, b8, b9]; done) | simp [ae, ab, V, ad, ai, aj, al, au, be, G, J, E]))⟩, Z⟩)))))))))
 iterate 3 refine Xi rfl rfl rfl be rfl ?_
 exact Xf Z Z Z Z (Xo (v := vb false) Z be Z Z (Xo (v := vb false) Z Z Z Z (Xc ⟨⟨cl, cm, cn, bn, bp, (congrArg Value.bool (by first | (simp only [ae, ab, V, ad, ai, aj, al, au, be, G, J, E, b0, b1, b2, b3, b4, b5, b6, b7, b8, b9]; done) | simp [ae, ab, V, ad, ai, aj, al, au, be, G, J, E]))⟩, Z⟩)))
 rintro kg lj ⟨⟨bq, du, co, dv, br, jm⟩, rfl⟩
 refine Xy jm (fun ao => ?_) (fun ao => ?_)
 refine Xa (Y6 (ps := [(0, vi (-1))]) (v := .agg #[vi (-1)]) (Xn Z X8) (by kernel_rfl) Z (Qf (v := .agg #[vi (-1)]) (cs := #[vi (-1)]) Z Z Z ?_))
 intro da lk bi
 have fj := Yj bi bl
 have eh := Xr bi ((((((bw.grown0 am.grw).gn ag.grw).grown0 an).gn ac.grw).grown0 ah)).lt
 have ep := Xr bi ((((((bb.grown0 am.grw).gn ag.grw).grown0 an).gn ac.grw).grown0 ah)).lt
 have ey := Xr bi ((((ag.blk.grown0 an).gn ac.grw).grown0 ah)).lt
 have fb := Xr bi ((ac.blk.grown0 ah)).lt
 refine Vh (v := pt da 0) (by kernel_rfl) Z Z (Xe (v := .iface 70 (pt da 0)) Z Z (Xc (Xt (Yk ?_))))
 have dl : chkAll (tabT ms) q = -1 := (Jr ab).trans (Pb V (I7 ad ao)).symm
 refine ⟨.iface 70 (pt da 0), Yp Z Z, Or.inr ⟨da, ⟨by rw [dl]; decide, Z⟩, fj, ?_⟩, (low0 bl bi.grw)⟩
 rw [dl]; exact bi.blk
 have a8 := Kq ao
 have a9 := Kr ao
 refine Xw (Xu (Xa (Xb (v := .slice a ms.length c) bq Z (Xd (o' := 1) Qv du Z Z ?_))))
 have cv := (((((bw.grown0 am.grw).gn ag.grw).grown0 an).gn ac.grw).grown0 ah)
 refine Xh (v := vi q.run) X1 Z (cv.cell Z) Z (Xd (o' := 0) Yz br Z Z ?_)
 have ce := (ac.blk.grown0 ah)
 refine Xh (v := vi (rAt (mAt ms (q.run - 1).toNat).t.slots (q.a).toNat).th) X1 Z (ce.cell Z) Z (Xl Co (Xg Z (Xg Z (Xg Z Xk))) Z (W6 q.run (rAt (mAt ms (q.run - 1).toNat).t.slots (q.a).toNat).th _ ms _ _ (TabAt.low ht bl) hlen (by omega) G (by omega) (by omega)) ?_)
 rintro _ jz ⟨rfl, ap⟩
 have cw := low0 bl ap
 refine Xe (v := vb (sees (tabT ms) q.run (rAt (mAt ms (q.run - 1).toNat).t.slots (q.a).toNat).th)) Z Z (Xc (Xq (X7 (fun f' w' => (f' 0 = .slice a ms.length c ∧ f' 4 = .nilIface ∧ f' 6 = pt O 0 ∧ f' 7 = vb (sees (tabT ms) q.run (rAt (mAt ms (q.run - 1).toNat).t.slots (q.a).toNat).th) ∧ f' 93 = vb ((need0 q.kind && (!sees (tabT ms) q.run (rAt (mAt ms (q.run - 1).toNat).t.slots (q.a).toNat).th)) || (need1 q.kind && (!touches (tabT ms) q.run (rAt (mAt ms (q.run - 1).toNat).t.slots (q.a).toNat).th)))) ∧ jz.grownBy w' none) ?_ ?_)))
 refine Xd (o' := 4) Cc dv Z Z ?_
 have d6 := ((((ag.blk.grown0 an).gn ac.grw).grown0 ah).grown0 ap)
 refine Xh (v := vb (need0 q.kind)) J4 Z (d6.cell Z) Z (Xb (v := vb (need0 q.kind)) Z Z ?_)
 rcases Yf (need0 q.kind) with av | av
 refine Xf Z Z Z av (Xb (v := vb (sees (tabT ms) q.run (rAt (mAt ms (q.run - 1).toNat).t.slots (q.a).toNat).th)) Z Z (Xf Z Z Z av (Yl (b' := !sees (tabT ms) q.run (rAt (mAt ms (q.run - 1).toNat).t.slots (q.a).toNat).th) Z Z Z (Xs (v := vb (!sees (tabT ms) q.run (rAt (mAt ms (q.run - 1).toNat).t.slots (q.a).toNat).th)) Z av Z Z (Xb (v := vb (!sees (tabT ms) q.run (rAt (mAt ms (q.run - 1).toNat).t.slots (q.a).toNat).th)) Z Z ?_)))))
 rcases Yf (!sees (tabT ms) q.run (rAt (mAt ms (q.run - 1).toNat).t.slots (q.a).toNat).th) with ar | ar
 have fy := Q2 ar
 iterate 3 refine Xi rfl rfl rfl ar rfl ?_
 iterate 7 refine Y4 rfl rfl rfl rfl ?_
 exact Xi Z Z Z ar Z (Xs (v := vb true) Z ar Z Z (Xc ⟨⟨bq, co, br, Z, (congrArg Value.bool (by first | (simp only [ae, ab, V, ad, ai, aj, al, ao, a8, a9, av, ar, fy, G, J, E, b0, b1, b2, b3, b4, b5, b6, b7, b8, b9]; done) | simp [ae, ab, V, ad, ai, aj, al, ao, a8, a9, av, ar, fy, G, J, E]))⟩, (World.grownBy.refl _ _)⟩))
 have df := Qx ar
 refine Xf Z Z Z ar (Xd (o' := 5) Rp dv Z Z (Xf Z Z Z ar (Xh (v := vb (need1 q.kind)) J4 Z (d6.cell Z) Z (Xf Z Z Z ar (Xb (v := vb (need1 q.kind)) Z Z ?_)))))
 rcases Yf (need1 q.kind) with aw | aw
 refine Xf Z Z Z aw (Xb (v := .slice a ms.length c) bq Z (Xf Z Z Z aw (Xd (o' := 1) Qv du Z Z (Xf Z Z Z aw (Xh (v := vi q.run) X1 Z ((cv.grown0 ap).cell Z) Z (Xf Z Z Z aw (Xd (o' := 0) Yz br Z Z (Xf Z Z Z aw (Xh (v := vi (rAt (mAt ms (q.run - 1).toNat).t.slots (q.a).toNat).th) X1 Z ((ce.grown0 ap).cell Z) Z (Xf Z Z Z aw (Xl F2 (Xg Z (Xg Z (Xg Z Xk))) Z (W7 q.run (rAt (mAt ms (q.run - 1).toNat).t.slots (q.a).toNat).th _ ms _ _ (TabAt.low ht cw) hlen (by omega) G (by omega) (by omega)) ?_)))))))))))
 rintro _ ll ⟨rfl, gf⟩
 exact Xf Z Z Z aw (Yl (b' := !touches (tabT ms) q.run (rAt (mAt ms (q.run - 1).toNat).t.slots (q.a).toNat).th) Z Z Z (Xf Z Z Z ar (Xs (v := vb (!touches (tabT ms) q.run (rAt (mAt ms (q.run - 1).toNat).t.slots (q.a).toNat).th)) Z aw Z Z (Xo (v := vb (!touches (tabT ms) q.run (rAt (mAt ms (q.run - 1).toNat).t.slots (q.a).toNat).th)) Z ar Z Z (Xc ⟨⟨bq, co, br, Z, (congrArg Value.bool (by first | (simp only [ae, ab, V, ad, ai, aj, al, ao, a8, a9, av, ar, df, aw, G, J, E, b0, b1, b2, b3, b4, b5, b6, b7, b8, b9]; done) | simp [ae, ab, V, ad, ai, aj, al, ao, a8, a9, av, ar, df, aw, G, J, E]))⟩, gf⟩)))))
 iterate 7 refine Xi rfl rfl rfl aw rfl ?_
 exact Xf Z Z Z ar (Xo (v := vb false) Z aw Z Z (Xo (v := vb false) Z ar Z Z (Xc ⟨⟨bq, co, br, Z, (congrArg Value.bool (by first | (simp only [ae, ab, V, ad, ai, aj, al, ao, a8, a9, av, ar, df, aw, G, J, E, b0, b1, b2, b3, b4, b5, b6, b7, b8, b9]; done) | simp [ae, ab, V, ad, ai, aj, al, ao, a8, a9, av, ar, df, aw, G, J, E]))⟩, (World.grownBy.refl _ _)⟩)))
 refine Xi Z Z Z av Z (Xi Z Z Z av Z (Xo (v := vb false) Z av Z Z (Xb (v := vb false) Z Z (Xf Z Z Z Z (Xd (o' := 5) Rp dv Z Z (Xf Z Z Z Z (Xh (v := vb (need1 q.kind)) J4 Z (d6.cell Z) Z (Xf Z Z Z Z (Xb (v := vb (need1 q.kind)) Z Z ?_)))))))))
 rcases Yf (need1 q.kind) with az | az
 refine Xf Z Z Z az (Xb (v := .slice a ms.length c) bq Z (Xf Z Z Z az (Xd (o' := 1) Qv du Z Z (Xf Z Z Z az (Xh (v := vi q.run) X1 Z ((cv.grown0 ap).cell Z) Z (Xf Z Z Z az (Xd (o' := 0) Yz br Z Z (Xf Z Z Z az (Xh (v := vi (rAt (mAt ms (q.run - 1).toNat).t.slots (q.a).toNat).th) X1 Z ((ce.grown0 ap).cell Z) Z (Xf Z Z Z az (Xl F2 (Xg Z (Xg Z (Xg Z Xk))) Z (W7 q.run (rAt (mAt ms (q.run - 1).toNat).t.slots (q.a).toNat).th _ ms _ _ (TabAt.low ht cw) hlen (by omega) G (by omega) (by omega)) ?_)))))))))))
 rintro _ lm ⟨rfl, gg⟩
 exact Xf Z Z Z az (Yl (b' := !touches (tabT ms) q.run (rAt (mAt ms (q.run - 1).toNat).t.slots (q.a).toNat).th) Z Z Z (Xf Z Z Z Z (Xs (v := vb (!touches (tabT ms) q.run (rAt (mAt ms (q.run - 1).toNat).t.slots (q.a).toNat).th)) Z az Z Z (Xo (v := vb (!touches (tabT ms) q.run (rAt (mAt ms (q.run - 1).toNat).t.slots (q.a).toNat).th)) Z Z Z Z (Xc ⟨⟨bq, co, br, Z, (congrArg Value.bool (by first | (simp only [ae, ab, V, ad, ai, aj, al, ao, a8, a9, av, az, G, J, E, b0, b1, b2, b3, b4, b5, b6, b7, b8, b9]; done) | simp [ae, ab, V, ad, ai, aj, al, ao, a8, a9, av, az, G, J, E]))⟩, gg⟩)))))
 iterate 7 refine Xi rfl rfl rfl az rfl ?_
 exact Xf Z Z Z Z (Xo (v := vb false) Z az Z Z (Xo (v := vb false) Z Z Z Z (Xc ⟨⟨bq, co, br, Z, (congrArg Value.bool (by first | (simp only [ae, ab, V, ad, ai, aj, al, ao, a8, a9, av, az, G, J, E, b0, b1, b2, b3, b4, b5, b6, b7, b8, b9]; done) | simp [ae, ab, V, ad, ai, aj, al, ao, a8, a9, av, az, G, J, E]))⟩, (World.grownBy.refl _ _)⟩)))
 rintro kh j1 ⟨⟨jo, fw, jp, jq, jr⟩, ba⟩
 have cj := low0 cw ba
 refine Xy jr (fun bf => ?_) (fun bf => ?_)
 refine Xa (Y6 (ps := [(0, vi (-2))]) (v := .agg #[vi (-2)]) (Xn Z X8) (by kernel_rfl) Z (Qf (v := .agg #[vi (-2)]) (cs := #[vi (-2)]) Z Z Z ?_))
 intro db ln bj
 have fk := Yj bj cj
 have ei := Xr bj (((cv.grown0 ap).grown0 ba)).lt
 have er := Xr bj ((((((((bb.grown0 am.grw).gn ag.grw).grown0 an).gn ac.grw).grown0 ah).grown0 ap).grown0 ba)).lt
 have ez := Xr bj ((((((ag.blk.grown0 an).gn ac.grw).grown0 ah).grown0 ap).grown0 ba)).lt
 have fc := Xr bj (((ce.grown0 ap).grown0 ba)).lt
 refine Vh (v := pt db 0) (by kernel_rfl) Z Z (Xe (v := .iface 70 (pt db 0)) Z Z (Xc (Xt (Yk ?_))))
 have dm : chkAll (tabT ms) q = -2 := (Jr ab).trans (Tu V (S1 ad ao) bf).symm
 refine ⟨.iface 70 (pt db 0), Yp Z Z, Or.inr ⟨db, ⟨by rw [dm]; decide, Z⟩, fk, ?_⟩, (low0 cj bj.grw)⟩
 rw [dm]; exact bj.blk
 have dg := Kq bf
 have dh := Kr bf
 refine Xw (Xu (Xq (X7 (fun f' w' => (f' 4 = .nilIface ∧ f' 103 = vb (sees (tabT ms) q.run (rAt (mAt ms (q.run - 1).toNat).t.slots (q.a).toNat).th && (!live (tabT ms) (rAt (mAt ms (q.run - 1).toNat).t.slots (q.a).toNat)))) ∧ j1.grownBy w' none) ?_ ?_)))
 refine Xb (v := vb (sees (tabT ms) q.run (rAt (mAt ms (q.run - 1).toNat).t.slots (q.a).toNat).th)) jq Z (Xb (v := vb (sees (tabT ms) q.run (rAt (mAt ms (q.run - 1).toNat).t.slots (q.a).toNat).th)) Z Z ?_)
 rcases Yf (sees (tabT ms) q.run (rAt (mAt ms (q.run - 1).toNat).t.slots (q.a).toNat).th) with bc | bc
 refine Xf Z Z Z bc (Xb (v := .slice a ms.length c) jo Z (Xf Z Z Z bc (Xp (vs := [vi (rAt (mAt ms (q.run - 1).toNat).t.slots (q.a).toNat).th, vi (rAt (mAt ms (q.run - 1).toNat).t.slots (q.a).toNat).ve, vb (rAt (mAt ms (q.run - 1).toNat).t.slots (q.a).toNat).rd, vb (rAt (mAt ms (q.run - 1).toNat).t.slots (q.a).toNat).wr, vb (rAt (mAt ms (q.run - 1).toNat).t.slots (q.a).toNat).wk]) Yx jp Z (((ce.grown0 ap).grown0 ba).rangeL 0 5 Z) Z (Xf Z Z Z bc (Xl Cp (Xg Z (Xg Z Xk)) Z (W9 (rAt (mAt ms (q.run - 1).toNat).t.slots (q.a).toNat) (by omega) _ ms _ _ (TabAt.low ht cj) hlen (by omega)) ?_)))))
 rintro _ lp ⟨rfl, gh⟩
 exact Xf Z Z Z bc (Yl (b' := !live (tabT ms) (rAt (mAt ms (q.run - 1).toNat).t.slots (q.a).toNat)) Z Z Z (Xs (v := vb (!live (tabT ms) (rAt (mAt ms (q.run - 1).toNat).t.slots (q.a).toNat))) Z bc Z Z (Xc ⟨⟨fw, (congrArg Value.bool (by first | (simp only [ae, ab, V, ad, ai, aj, al, ao, a8, a9, bf, dg, dh, bc, G, J, E, b0, b1, b2, b3, b4, b5, b6, b7, b8, b9]; done) | simp [ae, ab, V, ad, ai, aj, al, ao, a8, a9, bf, dg, dh, bc, G, J, E]))⟩, gh⟩)))
 iterate 4 refine Xi rfl rfl rfl bc rfl ?_
 exact Xo (v := vb false) Z bc Z Z (Xc ⟨⟨fw, (congrArg Value.bool (by first | (simp only [ae, ab, V, ad, ai, aj, al, ao, a8, a9, bf, dg, dh, bc, G, J, E, b0, b1, b2, b3, b4, b5, b6, b7, b8, b9]; done) | simp [ae, ab, V, ad, ai, aj, al, ao, a8, a9, bf, dg, dh, bc, G, J, E]))⟩, (World.grownBy.refl _ _)⟩)
 rintro ki lu ⟨⟨ke, js⟩, bv⟩
 have cx := low0 cj bv
 refine Xy js (fun ct => ?_) (fun ct => ?_)
 have ko := Uk ct
 have ju := Ul ct
 have kp := Q2 ju
 refine Xa (Y6 (ps := [(0, vi (-3))]) (v := .agg #[vi (-3)]) (Xn Z X8) (by kernel_rfl) Z (Qf (v := .agg #[vi (-3)]) (cs := #[vi (-3)]) Z Z Z ?_))
 intro dc lv bk
 have fm := Yj bk cx
 have ej := Xr bk ((((cv.grown0 ap).grown0 ba).grown0 bv)).lt
 have eu := Xr bk (((((((((bb.grown0 am.grw).gn ag.grw).grown0 an).gn ac.grw).grown0 ah).grown0 ap).grown0 ba).grown0 bv)).lt
 have e0 := Xr bk (((((((ag.blk.grown0 an).gn ac.grw).grown0 ah).grown0 ap).grown0 ba).grown0 bv)).lt
 have fd := Xr bk ((((ce.grown0 ap).grown0 ba).grown0 bv)).lt
 refine Vh (v := pt dc 0) (by kernel_rfl) Z Z (Xe (v := .iface 70 (pt dc 0)) Z Z (Xc (Xt (Yk ?_))))
 have dn : chkAll (tabT ms) q = -3 := (Jr ab).trans (Tv V (S1 ad ao) bf ct).symm
 refine ⟨.iface 70 (pt dc 0), Yp Z Z, Or.inr ⟨dc, ⟨by rw [dn]; decide, Z⟩, fm, ?_⟩, (low0 cx bk.grw)⟩
 rw [dn]; exact bk.blk
 refine Xw (Xu (Xa (Xe (v := .nilIface) Z Z (Xc (Xt ?_)))))
 have ff : chkAll (tabT ms) q = 0 := (Jr ab).trans (Tt V (S1 ad ao) bf ct).symm
 exact ⟨.nilIface, Yp Z Z, Or.inl ⟨ff, Z⟩, cx⟩
theorem P7 (q : Cl) (w : World) (ms : List MTh) (a : Option Addr) (c : Nat) (ht : TabAt w a ms) (hlen : TabLen ms) (hn : ms.length ≤ 1048576) (hE : ErrT w) (hck : chkAll (tabT ms) q = 0) : CallsR Tryz.prog 25 #[.slice a ms.length c, .agg #[vi q.kind, vi q.run, vi q.a, vi q.b, vi q.n]] w (fun v w' => v = vi (chkAll (tabT ms) q) ∧ w.grownBy w' none) := by
 refine Xx (n := 15) Tryz.func25 Z Tryz.ntmps25 Z ?_
 have ae := World.grownBy.refl w none
 refine Xa (Qf (v := .agg #[vi q.kind, vi q.run, vi q.a, vi q.b, vi q.n]) (cs := #[vi q.kind, vi q.run, vi q.a, vi q.b, vi q.n]) Z Z Z ?_)
 intro ah ai E
 have af := Yj E ae
 have J := low0 ae E.grw
 refine Xe (v := vi 0) Z Z (Xc (Xa (Ye (cs := #[.pointer none]) F9 Z Z ?_)))
 intro ad aj G
 have ag := Yj G J
 have V := Xr G (E.blk).lt
 have O := low0 J G.grw
 refine Xc (Xq (Xa (Xb (v := .slice a ms.length c) Z Z (Xp (vs := [vi q.kind, vi q.run, vi q.a, vi q.b, vi q.n]) Y1 Z Z ((E.blk.grown0 G.grw).rangeL 0 5 Z) Z (Xl Fu (Xg Z (Xg Z Xk)) Z (Nk q _ ms _ _ (TabAt.low ht O) hlen (by omega)) ?_)))))
 rintro _ ak ⟨ac, ab⟩
 obtain ⟨_, rfl⟩ := ac.resolve_right (fun ⟨_, h, _⟩ => h.1 hck)
 refine Vh (v := pt ad 0) (by kernel_rfl) Z Z (Xl Ft (Xg Z (Xg Z Xk)) Z (Bv _ _) ?_)
 rintro _ _ ⟨rfl, rfl⟩
 refine Xc (Qc Z Z (Xw (Xu (Xa (Xe (v := vi 0) Z Z (Xc (Xt (⟨vi 0, Yp Z Z, ?_, (low0 O ab)⟩))))))))
 rw [hck]
theorem P8 (q : Cl) (w : World) (ms : List MTh) (a : Option Addr) (c : Nat) (ht : TabAt w a ms) (hlen : TabLen ms) (hn : ms.length ≤ 1048576) (hE : ErrT w) (hck : ¬ chkAll (tabT ms) q = 0) : CallsR Tryz.prog 25 #[.slice a ms.length c, .agg #[vi q.kind, vi q.run, vi q.a, vi q.b, vi q.n]] w (fun v w' => v = vi (chkAll (tabT ms) q) ∧ w.grownBy w' none) := by
 refine Xx (n := 15) Tryz.func25 Z Tryz.ntmps25 Z ?_
 have al := World.grownBy.refl w none
 refine Xa (Qf (v := .agg #[vi q.kind, vi q.run, vi q.a, vi q.b, vi q.n]) (cs := #[vi q.kind, vi q.run, vi q.a, vi q.b, vi q.n]) Z Z Z ?_)
 intro ar au G
 have ao := Yj G al
 have V := low0 al G.grw
 refine Xe (v := vi 0) Z Z (Xc (Xa (Ye (cs := #[.pointer none]) F9 Z Z ?_)))
 intro ah av E
 have ap := Yj E V
 have ae := Xr E (G.blk).lt
 have O := low0 V E.grw
 refine Xc (Xq (Xa (Xb (v := .slice a ms.length c) Z Z ?_)))
 have aj := (G.blk.grown0 E.grw)
 refine Xp (vs := [vi q.kind, vi q.run, vi q.a, vi q.b, vi q.n]) Y1 Z Z (aj.rangeL 0 5 Z) Z (Xl Fu (Xg Z (Xg Z Xk)) Z (Nk q _ ms _ _ (TabAt.low ht O) hlen (by omega)) ?_)
 rintro _ aw ⟨ak, ac⟩
 obtain ⟨ai, ⟨_, rfl⟩, J, am⟩ := ak.resolve_left (fun h => hck h.1)
 have ab := low0 O ac
 have aq := nt O.size J
 have af := nl (aj).lt J
 have ag := nl (E.blk).lt J
 refine Vh (v := pt ah 0) (by kernel_rfl) Z Z (Xl Ft (Xg Z (Xg Z Xk)) Z (Bs ai ah _ _ (ErrT.grown0 hE ab) (E.blk.grown0 ac)) ?_)
 rintro _ az ⟨rfl, an, ad⟩
 refine Xc (Qg Z Z (Xa (Xh (v := pt ai 0) Z8 Z (an.cell Z) Z (Xv Z Z (Xd (o' := 0) Ef Z Z Z (Xh (v := vi (chkAll (tabT ms) q)) X1 Z ((am.gn ad).cell Z) Z (Xe (v := vi (chkAll (tabT ms) q)) Z Z (Xc (Xt (Yk (⟨vi (chkAll (tabT ms) q), Yp Z Z, ?_, (low1 ab ad (by omega))⟩)))))))))))
 rfl
theorem Ho (q : Cl) (w : World) (ms : List MTh) (a : Option Addr) (c : Nat) (ht : TabAt w a ms) (hlen : TabLen ms) (hn : ms.length ≤ 1048576) (hE : ErrT w) : CallsR Tryz.prog 25 #[.slice a ms.length c, .agg #[vi q.kind, vi q.run, vi q.a, vi q.b, vi q.n]] w (fun v w' => v = vi (chkAll (tabT ms) q) ∧ w.grownBy w' none) := by
 by_cases hck : chkAll (tabT ms) q = 0
 exact P7 q w ms a c ht hlen hn hE hck
 exact P8 q w ms a c ht hlen hn hE hck
end Go.Proofs.YtjpgffmkcmcolaaGreatDoor
end
section
namespace Go.Proofs.YtjpgffmkcmcolaaGreatDoor
open Go.RowKit Go.Dw
set_option maxRecDepth 100000
set_option maxHeartbeats 4000000
set_option linter.unusedSimpArgs false
set_option linter.unusedVariables false
theorem Gk : fieldOff Tryz.prog 57 0 = some 0 := by kernel_rfl
theorem Ks : fieldOff Tryz.prog 57 1 = some 1 := by kernel_rfl
theorem G4 : fieldOff Tryz.prog 57 2 = some 6 := by kernel_rfl
theorem Eg : fieldOff Tryz.prog 90 0 = some 0 := by kernel_rfl
theorem Vr : goFn Tryz.prog 106 = true := by kernel_rfl
theorem Cg : goFn Tryz.prog 111 = true := by kernel_rfl
theorem Oa : goFn Tryz.prog 131 = true := by kernel_rfl
theorem Ob : goFn Tryz.prog 133 = true := by kernel_rfl
theorem Ch : goFn Tryz.prog 22 = true := by kernel_rfl
theorem Rr : goFn Tryz.prog 39 = true := by kernel_rfl
theorem Fs : goFn Tryz.prog 47 = true := by kernel_rfl
theorem Ej (a b c : Bool) (w : World) : CallsR Tryz.prog 131 #[.agg #[], vb a, vb b, vb c] w (fun v w' => v = .agg #[vi 0, vi 0, vb false, vb false, vb false] ∧ w.grownBy w' none) := by
 refine Xx (n := 10) Tryz.func131 Z Tryz.ntmps131 Z ?_
 have ab := World.grownBy.refl w none
 refine Xa (Qf (v := .agg #[]) (cs := #[]) Z Z Z ?_)
 intro ae ag G
 have ac := Yj G ab
 have O := low0 ab G.grw
 refine Ye (cs := #[vi 0, vi 0, vb false, vb false, vb false]) Kz Z Z ?_
 intro af ah E
 have ad := Yj E O
 have V := Xr E (G.blk).lt
 refine Xc (Xa (Y6 (ps := []) (v := .agg #[vi 0, vi 0, vb false, vb false, vb false]) X8 (by kernel_rfl) Z (X0 (vs := [vi 0, vi 0, vb false, vb false, vb false]) (cs' := #[vi 0, vi 0, vb false, vb false, vb false]) Yx Z Z Z (by simp [Value.oneCell']) E.blk (Nat.le_of_ble_eq_true Z) Z ?_)))
 intro ai J
 refine Xc (Xt (⟨.agg #[vi 0, vi 0, vb false, vb false, vb false], J2 Z (Ym (vs := [vi 0, vi 0, vb false, vb false, vb false]) Yx Z Z (J.blk.rangeL 0 5 Z)), ?_, (low1 (low0 O E.grw) J.grw (by omega))⟩))
 rfl
theorem Ek (r : Rt) (a b c : Bool) (w : World) : CallsR Tryz.prog 133 #[.agg #[vi r.th, vi r.ve, vb r.rd, vb r.wr, vb r.wk], vb a, vb b, vb c] w (fun v w' => v = .agg #[vi r.th, vi r.ve, vb (r.rd && a), vb ((r.wr && b) && c), vb (r.wk || (!c))] ∧ w.grownBy w' none) := by
 refine Xx (n := 35) Tryz.func133 Z Tryz.ntmps133 Z ?_
 have be := World.grownBy.refl w none
 refine Xa (Qf (v := .agg #[vi r.th, vi r.ve, vb r.rd, vb r.wr, vb r.wk]) (cs := #[vi r.th, vi r.ve, vb r.rd, vb r.wr, vb r.wk]) Z Z Z ?_)
 intro bl bq ac
 have bi := Yj ac be
 have ao := low0 be ac.grw
 refine Ye (cs := #[vi 0, vi 0, vb false, vb false, vb false]) Kz Z Z ?_
 intro ak br G
 have bj := Yj G ao
 have aq := Xr G (ac.blk).lt
 have ap := low0 ao G.grw
 refine Xc (Xa (Xd (o' := 0) Eg Z Z Z ?_))
 have a8 := (ac.blk.grown0 G.grw)
 refine Xp (vs := [vi r.th, vi r.ve, vb r.rd, vb r.wr, vb r.wk]) Yx Z Z (a8.rangeL 0 5 Z) Z (Ye (cs := #[vi 0, vi 0, vb false, vb false, vb false]) Kz Z Z ?_)
 intro al bt J
 have bk := Yj J ap
 have ar := Xr J (a8).lt
 have au := Xr J (G.blk).lt
 refine X0 (vs := [vi r.th, vi r.ve, vb r.rd, vb r.wr, vb r.wk]) (cs' := #[vi r.th, vi r.ve, vb r.rd, vb r.wr, vb r.wk]) Yx Z Z Z (by simp [Value.oneCell']) J.blk (Nat.le_of_ble_eq_true Z) Z ?_
 intro bf ad
 refine Xc (Xa (Hm 5 (fun f' w' => (f' 2 = vb b ∧ f' 3 = vb c ∧ f' 8 = pt ak 0 ∧ f' 9 = pt al 0 ∧ f' 16 = vb (r.rd && a)) ∧ bf = w') ?_ ?_))
 simp only [List.take_succ_cons, List.take_zero]
 refine Xd (o' := 2) Ux Z Z Z (Xh (v := vb r.rd) J4 Z (ad.blk.cell Z) Z (Xb (v := vb r.rd) Z Z ?_))
 rcases Yf (r.rd) with V | V
 exact Xf Z Z Z V (Xb (v := vb a) Z Z (Xs (v := vb a) Z V Z Z (Xc ⟨⟨Z, Z, Z, Z, (cB (by simp [V]))⟩, Z⟩)))
 exact Xi Z Z Z V Z (Xo (v := vb false) Z V Z Z (Xc ⟨⟨Z, Z, Z, Z, (cB (by simp [V]))⟩, Z⟩))
 rintro bm bu ⟨⟨a9, ai, am, ag, ba⟩, rfl⟩
 simp only [List.drop_succ_cons, List.drop_zero]
 refine Xd (o' := 2) Ux ag Z Z (Yg (v := vb (r.rd && a)) (cs' := #[vi r.th, vi r.ve, vb (r.rd && a), vb r.wr, vb r.wk]) J4 Z ba Z ad.blk (Nat.le_of_ble_eq_true Z) Z ?_)
 intro bg ae
 refine Xc (Xa (Hm 8 (fun f' w' => (f' 3 = vb c ∧ f' 8 = pt ak 0 ∧ f' 9 = pt al 0 ∧ f' 25 = vb ((r.wr && b) && c)) ∧ bg = w') ?_ ?_))
 simp only [List.take_succ_cons, List.take_zero]
 refine Xd (o' := 3) Vk ag Z Z (Xh (v := vb r.wr) J4 Z (ae.blk.cell Z) Z (Xb (v := vb r.wr) Z Z ?_))
 rcases Yf (r.wr) with O | O
 refine Xf Z Z Z O (Xb (v := vb b) a9 Z (Xs (v := vb b) Z O Z Z (Xb (v := vb b) Z Z ?_)))
 rcases Yf (b) with ab | ab
 exact Xf Z Z Z ab (Xb (v := vb c) ai Z (Xs (v := vb c) Z ab Z Z (Xc ⟨⟨ai, am, ag, (cB (by simp [O, ab]))⟩, Z⟩)))
 exact Xi Z Z Z ab Z (Xo (v := vb false) Z ab Z Z (Xc ⟨⟨ai, am, ag, (cB (by simp [O, ab]))⟩, Z⟩))
 exact Xi Z Z Z O Z (Xo (v := vb false) Z O Z Z (Xb (v := vb false) Z Z (Xi Z Z Z Z Z (Xo (v := vb false) Z Z Z Z (Xc ⟨⟨ai, am, ag, (cB (by simp [O]))⟩, Z⟩)))))
 rintro bn bv ⟨⟨bb, av, aj, bc⟩, rfl⟩
 simp only [List.drop_succ_cons, List.drop_zero]
 refine Xd (o' := 3) Vk aj Z Z (Yg (v := vb ((r.wr && b) && c)) (cs' := #[vi r.th, vi r.ve, vb (r.rd && a), vb ((r.wr && b) && c), vb r.wk]) J4 Z bc Z ae.blk (Nat.le_of_ble_eq_true Z) Z ?_)
 intro bh af
 refine Xc (Xa (Hm 6 (fun f' w' => (f' 8 = pt ak 0 ∧ f' 9 = pt al 0 ∧ f' 32 = vb (r.wk || (!c))) ∧ bh = w') ?_ ?_))
 simp only [List.take_succ_cons, List.take_zero]
 refine Xd (o' := 4) K7 aj Z Z (Xh (v := vb r.wk) J4 Z (af.blk.cell Z) Z (Xb (v := vb r.wk) Z Z ?_))
 rcases Yf (r.wk) with E | E
 exact Xi Z Z Z E Z (Xi Z Z Z E Z (Xs (v := vb true) Z E Z Z (Xc ⟨⟨av, aj, (cB (by simp [E]))⟩, Z⟩)))
 exact Xf Z Z Z E (Xb (v := vb c) bb Z (Xf Z Z Z E (Yl (b' := !c) Z Z Z (Xo (v := vb (!c)) Z E Z Z (Xc ⟨⟨av, aj, (cB (by simp [E]))⟩, Z⟩)))))
 rintro bp bw ⟨⟨aw, az, bd⟩, rfl⟩
 simp only [List.drop_succ_cons, List.drop_zero]
 refine Xd (o' := 4) K7 az Z Z (Yg (v := vb (r.wk || (!c))) (cs' := #[vi r.th, vi r.ve, vb (r.rd && a), vb ((r.wr && b) && c), vb (r.wk || (!c))]) J4 Z bd Z af.blk (Nat.le_of_ble_eq_true Z) Z ?_)
 intro bx ah
 refine Xc (Xa (Xp (vs := [vi r.th, vi r.ve, vb (r.rd && a), vb ((r.wr && b) && c), vb (r.wk || (!c))]) Yx az Z (ah.blk.rangeL 0 5 Z) Z (X0 (vs := [vi r.th, vi r.ve, vb (r.rd && a), vb ((r.wr && b) && c), vb (r.wk || (!c))]) (cs' := #[vi r.th, vi r.ve, vb (r.rd && a), vb ((r.wr && b) && c), vb (r.wk || (!c))]) Yx aw Z Z (by simp [Value.oneCell']) (((((G.blk.grown0 J.grw).gn ad.grw).gn ae.grw).gn af.grw).gn ah.grw) (Nat.le_of_ble_eq_true Z) Z ?_)))
 intro bz an
 refine Xc (Xt (⟨.agg #[vi r.th, vi r.ve, vb (r.rd && a), vb ((r.wr && b) && c), vb (r.wk || (!c))], J2 Z (Ym (vs := [vi r.th, vi r.ve, vb (r.rd && a), vb ((r.wr && b) && c), vb (r.wk || (!c))]) Yx aw Z (an.blk.rangeL 0 5 Z)), ?_, (low1 (low1 (low1 (low1 (low1 (low0 ap J.grw) ad.grw (by omega)) ae.grw (by omega)) af.grw (by omega)) ah.grw (by omega)) an.grw (by omega))⟩))
 rfl
theorem Wq (r : Rt) (a b c : Bool) (w : World) : CallsR Tryz.prog 22 #[.agg #[vi r.th, vi r.ve, vb r.rd, vb r.wr, vb r.wk], vb a, vb b, vb c] w (fun v w' => v = .agg #[vi (rightLess r a b c).th, vi (rightLess r a b c).ve, vb (rightLess r a b c).rd, vb (rightLess r a b c).wr, vb (rightLess r a b c).wk] ∧ w.grownBy w' none) := by
 refine Xx (n := 19) Tryz.func22 Z Tryz.ntmps22 Z ?_
 have av := World.grownBy.refl w none
 rcases Yf (decide (r.th = 0)) with J | J
 have bk := of_decide_eq_true J
 refine Xa (Qf (v := .agg #[vi r.th, vi r.ve, vb r.rd, vb r.wr, vb r.wk]) (cs := #[vi r.th, vi r.ve, vb r.rd, vb r.wr, vb r.wk]) Z Z Z ?_)
 intro bg bm O
 have bc := Yj O av
 have aj := low0 av O.grw
 refine Ye (cs := #[vi 0, vi 0, vb false, vb false, vb false]) Kz Z Z ?_
 intro bh bn E
 have bd := Yj E aj
 have ar := Xr E (O.blk).lt
 refine Xc (Xq (Xa ?_))
 have az := (O.blk.grown0 E.grw)
 refine Xp (vs := [vi r.th, vi r.ve, vb r.rd, vb r.wr, vb r.wk]) Yx Z Z (az.rangeL 0 5 Z) Z (Xl T2 (Xg Z Xk) Z (Gh r _) ?_)
 rintro _ bp ⟨rfl, ab⟩
 have ak := low0 (low0 aj E.grw) ab
 refine Yl (b' := !rightOk r) Z Z Z (Xc (Xy Z (fun ad => ?_) (fun ad => ?_)))
 have a9 := Q2 ad
 refine Xa (Y6 (ps := []) (v := .agg #[vi 0, vi 0, vb false, vb false, vb false]) X8 (by kernel_rfl) Z (X0 (vs := [vi 0, vi 0, vb false, vb false, vb false]) (cs' := #[vi 0, vi 0, vb false, vb false, vb false]) Yx Z Z Z (by simp [Value.oneCell']) (E.blk.grown0 ab) (Nat.le_of_ble_eq_true Z) Z ?_))
 intro bq af
 refine Xc (Xt (Yk (⟨.agg #[vi 0, vi 0, vb false, vb false, vb false], J2 Z (Ym (vs := [vi 0, vi 0, vb false, vb false, vb false]) Yx Z Z (af.blk.rangeL 0 5 Z)), ?_, (low1 ak af.grw (by omega))⟩)))
 rw [Hx a9]; rfl
 have aw := Qx ad
 refine Xw (Xu (Xa (Xp (vs := [vi r.th, vi r.ve, vb r.rd, vb r.wr, vb r.wk]) Yx Z Z ((az.grown0 ab).rangeL 0 5 Z) Z (Xl Fs (Xg Z Xk) Z (D4 r J _) ?_))))
 rintro _ br ⟨rfl, an⟩
 refine Xb (v := vb a) Z Z (Xb (v := vb b) Z Z (Xb (v := vb c) Z Z (L6 (T := 88) (rv := .agg #[]) (v0 := .agg #[]) (vs := [vb a, vb b, vb c]) Oa Z (fun _ => by kernel_rfl) (Xg Z (Xg Z (Xg Z Xk))) Z (Ej a b c _) ?_)))
 rintro _ bt ⟨rfl, ao⟩
 refine X0 (vs := [vi 0, vi 0, vb false, vb false, vb false]) (cs' := #[vi 0, vi 0, vb false, vb false, vb false]) Yx Z Z Z (by simp [Value.oneCell']) (((E.blk.grown0 ab).grown0 an).grown0 ao) (Nat.le_of_ble_eq_true Z) Z ?_
 intro bu ag
 refine Xc (Xt (⟨.agg #[vi 0, vi 0, vb false, vb false, vb false], J2 Z (Ym (vs := [vi 0, vi 0, vb false, vb false, vb false]) Yx Z Z (ag.blk.rangeL 0 5 Z)), ?_, (low1 (low0 (low0 ak an) ao) ag.grw (by omega))⟩))
 rw [U1 aw, Ry J, T9 aw J]; rfl
 have bl := of_decide_eq_false J
 refine Xa (Qf (v := .agg #[vi r.th, vi r.ve, vb r.rd, vb r.wr, vb r.wk]) (cs := #[vi r.th, vi r.ve, vb r.rd, vb r.wr, vb r.wk]) Z Z Z ?_)
 intro bi bv V
 have be := Yj V av
 have al := low0 av V.grw
 refine Ye (cs := #[vi 0, vi 0, vb false, vb false, vb false]) Kz Z Z ?_
 intro bj bw G
 have bf := Yj G al
 have au := Xr G (V.blk).lt
 refine Xc (Xq (Xa ?_))
 have a8 := (V.blk.grown0 G.grw)
 refine Xp (vs := [vi r.th, vi r.ve, vb r.rd, vb r.wr, vb r.wk]) Yx Z Z (a8.rangeL 0 5 Z) Z (Xl T2 (Xg Z Xk) Z (Gh r _) ?_)
 rintro _ bx ⟨rfl, ac⟩
 have am := low0 (low0 al G.grw) ac
 refine Yl (b' := !rightOk r) Z Z Z (Xc (Xy Z (fun ae => ?_) (fun ae => ?_)))
 have ba := Q2 ae
 refine Xa (Y6 (ps := []) (v := .agg #[vi 0, vi 0, vb false, vb false, vb false]) X8 (by kernel_rfl) Z (X0 (vs := [vi 0, vi 0, vb false, vb false, vb false]) (cs' := #[vi 0, vi 0, vb false, vb false, vb false]) Yx Z Z Z (by simp [Value.oneCell']) (G.blk.grown0 ac) (Nat.le_of_ble_eq_true Z) Z ?_))
 intro bz ah
 refine Xc (Xt (Yk (⟨.agg #[vi 0, vi 0, vb false, vb false, vb false], J2 Z (Ym (vs := [vi 0, vi 0, vb false, vb false, vb false]) Yx Z Z (ah.blk.rangeL 0 5 Z)), ?_, (low1 am ah.grw (by omega))⟩)))
 rw [Hx ba]; rfl
 have bb := Qx ae
 refine Xw (Xu (Xa (Xp (vs := [vi r.th, vi r.ve, vb r.rd, vb r.wr, vb r.wk]) Yx Z Z ((a8.grown0 ac).rangeL 0 5 Z) Z (Xl Fs (Xg Z Xk) Z (D3 r J _) ?_))))
 rintro _ ca ⟨rfl, ap⟩
 refine Xb (v := vb a) Z Z (Xb (v := vb b) Z Z (Xb (v := vb c) Z Z (L6 (T := 90) (rv := .agg #[vi r.th, vi r.ve, vb r.rd, vb r.wr, vb r.wk]) (v0 := .agg #[vi r.th, vi r.ve, vb r.rd, vb r.wr, vb r.wk]) (vs := [vb a, vb b, vb c]) Ob Z (fun _ => by kernel_rfl) (Xg Z (Xg Z (Xg Z Xk))) Z (Ek r a b c _) ?_)))
 rintro _ cc ⟨rfl, aq⟩
 refine X0 (vs := [vi r.th, vi r.ve, vb (r.rd && a), vb ((r.wr && b) && c), vb (r.wk || (!c))]) (cs' := #[vi r.th, vi r.ve, vb (r.rd && a), vb ((r.wr && b) && c), vb (r.wk || (!c))]) Yx Z Z Z (by simp [Value.oneCell']) (((G.blk.grown0 ac).grown0 ap).grown0 aq) (Nat.le_of_ble_eq_true Z) Z ?_
 intro cd ai
 refine Xc (Xt (⟨.agg #[vi r.th, vi r.ve, vb (r.rd && a), vb ((r.wr && b) && c), vb (r.wk || (!c))], J2 Z (Ym (vs := [vi r.th, vi r.ve, vb (r.rd && a), vb ((r.wr && b) && c), vb (r.wk || (!c))]) Yx Z Z (ai.blk.rangeL 0 5 Z)), ?_, (low1 (low0 (low0 am ap) aq) ai.grw (by omega))⟩))
 rw [U1 bb, Rx J]
theorem Wc (q : Cl) (r : Rt) (B cap : Nat) (ms : List MTh) (w : World) (hB : Dw.Own w B 38 8 cap ms.length (ms.flatMap MTh.cells)) (hml : ms.length ≤ 8) (A : Nat) (hA : Blk w A 57 #[.slice (pa B) ms.length cap, vi q.kind, vi q.run, vi q.a, vi q.b, vi q.n, vi r.th, vi r.ve, vb r.rd, vb r.wr, vb r.wk]) (hi : 1 ≤ q.run ∧ q.run ≤ (ms.length : Int)) : CallsR Tryz.prog 39 #[pt A 0] w (fun v w' => v = pt B ((q.run - 1).toNat * 8) ∧ w.grownBy w' none) := by
 refine Xx (n := 14) Tryz.func39 Z Tryz.ntmps39 Z (Xa (Xe (v := .pointer none) Z Z (Xc (Xq (Yw (m := 10) (vals := [(3, pt A 0), (4, pt A 0), (5, pt A 0), (6, .slice (pa B) ms.length cap), (7, pt A 0), (8, pt A 0), (9, pt A 1), (10, pt A 2), (11, vi q.run), (12, vi (q.run - 1))]) (fun w' => w.grownBy w' none) Yy (by kernel_rfl) (X6 _) ?_ ?_)))))
 exact yl Z (fun _ _ k => Xb (v := pt A 0) Z Z k) (yl Z (fun _ _ k => Xv Z Z k) (yl Z (fun _ _ k => Xd (o' := 0) Gk Z Z Z k) (yl Z (fun _ E k => Xh (v := .slice (pa B) ms.length cap) U0 Z ((hA.grown0 E).cell Z) Z k) (yl Z (fun _ _ k => Xb (v := pt A 0) Z Z k) (yl Z (fun _ _ k => Xv Z Z k) (yl Z (fun _ _ k => Xd (o' := 1) Ks Z Z Z k) (yl Z (fun _ _ k => Xd (o' := 2) Qv Z Z Z k) (yl Z (fun _ G k => Xh (v := vi q.run) X1 Z ((hA.grown0 G).cell Z) Z k) (yl Z (fun _ _ k => Ys (c := q.run - 1) Z Z (by omega) (by omega) (by omega) Z k) Y5)))))))))
 intro O J
 refine Yb (o' := (q.run - 1).toNat * 8) Y2 Z Z (by omega) (by omega) (by omega) Z (Xe (v := pt B ((q.run - 1).toNat * 8)) Z Z (Xc (Xu (Xt (⟨pt B ((q.run - 1).toNat * 8), Yp Z Z, ?_, (low0 (World.grownBy.refl w none) J)⟩)))))
 rfl
theorem Kp (q : Cl) (r : Rt) (B cap : Nat) (ms : List MTh) (w : World) (hB : Dw.Own w B 38 8 cap ms.length (ms.flatMap MTh.cells)) (hml : ms.length ≤ 8) (A : Nat) (hA : Blk w A 57 #[.slice (pa B) ms.length cap, vi q.kind, vi q.run, vi q.a, vi q.b, vi q.n, vi r.th, vi r.ve, vb r.rd, vb r.wr, vb r.wk]) (hi : 1 ≤ r.th ∧ r.th ≤ (ms.length : Int)) : CallsR Tryz.prog 106 #[pt A 0] w (fun v w' => v = pt B ((r.th - 1).toNat * 8) ∧ w.grownBy w' none) := by
 refine Xx (n := 14) Tryz.func106 Z Tryz.ntmps106 Z (Xa (Xe (v := .pointer none) Z Z (Xc (Xq (Yw (m := 10) (vals := [(3, pt A 0), (4, pt A 0), (5, pt A 0), (6, .slice (pa B) ms.length cap), (7, pt A 0), (8, pt A 0), (9, pt A 6), (10, pt A 6), (11, vi r.th), (12, vi (r.th - 1))]) (fun w' => w.grownBy w' none) Yy (by kernel_rfl) (X6 _) ?_ ?_)))))
 exact yl Z (fun _ _ k => Xb (v := pt A 0) Z Z k) (yl Z (fun _ _ k => Xv Z Z k) (yl Z (fun _ _ k => Xd (o' := 0) Gk Z Z Z k) (yl Z (fun _ E k => Xh (v := .slice (pa B) ms.length cap) U0 Z ((hA.grown0 E).cell Z) Z k) (yl Z (fun _ _ k => Xb (v := pt A 0) Z Z k) (yl Z (fun _ _ k => Xv Z Z k) (yl Z (fun _ _ k => Xd (o' := 6) G4 Z Z Z k) (yl Z (fun _ _ k => Xd (o' := 6) Yz Z Z Z k) (yl Z (fun _ G k => Xh (v := vi r.th) X1 Z ((hA.grown0 G).cell Z) Z k) (yl Z (fun _ _ k => Ys (c := r.th - 1) Z Z (by omega) (by omega) (by omega) Z k) Y5)))))))))
 intro O J
 refine Yb (o' := (r.th - 1).toNat * 8) Y2 Z Z (by omega) (by omega) (by omega) Z (Xe (v := pt B ((r.th - 1).toNat * 8)) Z Z (Xc (Xu (Xt (⟨pt B ((r.th - 1).toNat * 8), Yp Z Z, ?_, (low0 (World.grownBy.refl w none) J)⟩)))))
 rfl
theorem Ia (q : Cl) (r : Rt) (lo B cap : Nat) (ms : List MTh) (w : World) (hB : Dw.Own w B 38 8 cap ms.length (ms.flatMap MTh.cells)) (hR : RowsO 42 3 lo w ms) (hlo : lo ≤ B) (hi : Nat) (hH : HiO hi ms) (hBlt : B < hi) (hhi : hi ≤ w.heap.size) (hF : FarOk (tabT ms) q r) (A : Nat) (hA : Blk w A 57 #[.slice (pa B) ms.length cap, vi q.kind, vi q.run, vi q.a, vi q.b, vi q.n, vi r.th, vi r.ve, vb r.rd, vb r.wr, vb r.wk]) (hAhi : hi ≤ A) (hq : decide (q.kind = 1) = true) : CallsR Tryz.prog 90 #[pt A 0] w (fun v w' => ∃ ms' : List MTh, v = vi (far (tabT ms) q r).2 ∧ ms'.length = ms.length ∧ Dw.Own w' B 38 8 cap ms'.length (ms'.flatMap MTh.cells) ∧ RowsO 42 3 lo w' ms' ∧ tabT ms' = (far (tabT ms) q r).1 ∧ KeepsI lo hi [38, 42, 3] w w') := by
 refine Xx (n := 8) Tryz.func90 Z Tryz.ntmps90 Z ?_
 have J : KeepsI lo hi [38, 42, 3] w w := KeepsI.refl w
 have hlow : lo ≤ w.heap.size := by omega
 have hT := hF.tab
 have hco := Yq hF.call
 have hkp := (Y3 hF.run).1
 have h4 := Qp hT hF.run
 have hth := hF.th
 rw [Qd] at hth
 have hml := Jb hT
 have hkd := Q0 hF.kind hco.1
 rw [← Qw] at hkd
 have hrow := Ju hT (i := (r.th - 1).toNat) (by omega)
 have hln := TabLen.ok hT _ (List.mem_of_getElem? (xg ms (r.th - 1).toNat))
 have hcp := hF.copy
 have hve := Uu hrow
 have hqk := of_decide_eq_true hq
 refine Xa (Xe (v := vi 0) Z Z (Xc (Xa (Xb (v := pt A 0) Z Z (Xl Vr (Xg Z Xk) Z (Kp q r B cap _ _ hB (by first | omega | (simp only [List.length_set, Yd]; omega)) A hA (by first | omega | (simp only [List.length_set, Yd]; omega))) ?_)))))
 rintro _ O ⟨rfl, E⟩
 refine Xv Z Z (Xd (o' := (r.th - 1).toNat * 8 + 4) Q6 Z Z Z ?_)
 have G := (hB.grown0 E)
 refine Xh (v := vi (mj ms r.th).t.num) X1 Z ((Own.range Yo G (xg ms (r.th - 1).toNat)) 4 _ Z) Z (Xe (v := vi (mj ms r.th).t.num) Z Z (Xc (Xt ?_)))
 have hf : far (tabT ms) q r = (tabT (ms), (mj ms r.th).t.num) := Fh hq
 exact ⟨vi (mj ms r.th).t.num, Yp Z Z, ms, by rw [hf], by first | rfl | exact Yd | (simp only [List.length_set, Yd]), G, (RowsO.low hR E), by rw [hf], (KeepsI.low J E)⟩
theorem Ib (q : Cl) (r : Rt) (lo B cap : Nat) (ms : List MTh) (w : World) (hB : Dw.Own w B 38 8 cap ms.length (ms.flatMap MTh.cells)) (hR : RowsO 42 3 lo w ms) (hlo : lo ≤ B) (hi : Nat) (hH : HiO hi ms) (hBlt : B < hi) (hhi : hi ≤ w.heap.size) (hF : FarOk (tabT ms) q r) (A : Nat) (hA : Blk w A 57 #[.slice (pa B) ms.length cap, vi q.kind, vi q.run, vi q.a, vi q.b, vi q.n, vi r.th, vi r.ve, vb r.rd, vb r.wr, vb r.wk]) (hAhi : hi ≤ A) (hq : decide (q.kind = 2) = true) : CallsR Tryz.prog 91 #[pt A 0] w (fun v w' => ∃ ms' : List MTh, v = vi (far (tabT ms) q r).2 ∧ ms'.length = ms.length ∧ Dw.Own w' B 38 8 cap ms'.length (ms'.flatMap MTh.cells) ∧ RowsO 42 3 lo w' ms' ∧ tabT ms' = (far (tabT ms) q r).1 ∧ KeepsI lo hi [38, 42, 3] w w') := by
 refine Xx (n := 12) Tryz.func91 Z Tryz.ntmps91 Z ?_
 have af : KeepsI lo hi [38, 42, 3] w w := KeepsI.refl w
 have hlow : lo ≤ w.heap.size := by omega
 have hT := hF.tab
 have hco := Yq hF.call
 have hkp := (Y3 hF.run).1
 have h4 := Qp hT hF.run
 have hth := hF.th
 rw [Qd] at hth
 have hml := Jb hT
 have hkd := Q0 hF.kind hco.1
 rw [← Qw] at hkd
 have hrow := Ju hT (i := (r.th - 1).toNat) (by omega)
 have hln := TabLen.ok hT _ (List.mem_of_getElem? (xg ms (r.th - 1).toNat))
 have hcp := hF.copy
 have hve := Uu hrow
 have hqk := of_decide_eq_true hq
 refine Xa (Xe (v := vi 0) Z Z (Xc (Xq (Yw (m := 7) (vals := [(3, pt A 0), (4, pt B ((r.th - 1).toNat * 8)), (5, pt A 0), (6, pt A 0), (7, pt A 1), (8, pt A 5), (9, vi q.n)]) (fun w' => w.grownBy w' none) Yy (by kernel_rfl) (X6 _) ?_ ?_))))
 refine yl Z (fun _ _ k => Xb (v := pt A 0) Z Z k) ?_
 refine Ql Z (fun ag E => ?_) ?_
 refine Xl Vr (Xg Z Xk) Z (Kp q r B cap _ _ (hB.grown0 E) (by first | omega | (simp only [List.length_set, Yd]; omega)) A (hA.grown0 E) (by first | omega | (simp only [List.length_set, Yd]; omega))) ?_
 rintro _ ah ⟨rfl, ac⟩
 exact Xc ⟨Z, (grown_trans E ac)⟩
 exact yl Z (fun _ _ k => Xb (v := pt A 0) Z Z k) (yl Z (fun _ _ k => Xv Z Z k) (yl Z (fun _ _ k => Xd (o' := 1) Ks Z Z Z k) (yl Z (fun _ _ k => Xd (o' := 5) Jk Z Z Z k) (yl Z (fun _ ad k => Xh (v := vi q.n) X1 Z ((hA.grown0 ad).cell Z) Z k) Y5))))
 intro ai G
 refine Xv Z Z (Xd (o' := (r.th - 1).toNat * 8 + 4) Q6 Z Z Z ?_)
 have O := (hB.grown0 G)
 refine Jj (g := MTh.cells) (j := 4) (z := (mj ms r.th)) (z' := (⟨⟨(mj ms r.th).t.kind, (mj ms r.th).t.lab, (mj ms r.th).t.ve, q.n, (mj ms r.th).t.slots, (mj ms r.th).t.queue, (mj ms r.th).t.to⟩, (mj ms r.th).sa, (mj ms r.th).sc, (mj ms r.th).qa, (mj ms r.th).qc⟩ : MTh)) (v := vi q.n) X1 Z Z Z Yo O (xg ms (r.th - 1).toNat) (by omega) Z Z ?_
 intro ae ab J
 have V : RowsO 42 3 lo ae (ms.set (r.th - 1).toNat (⟨⟨(mj ms r.th).t.kind, (mj ms r.th).t.lab, (mj ms r.th).t.ve, q.n, (mj ms r.th).t.slots, (mj ms r.th).t.queue, (mj ms r.th).t.to⟩, (mj ms r.th).sa, (mj ms r.th).sc, (mj ms r.th).qa, (mj ms r.th).qc⟩ : MTh)) := RowsO.set (RowsO.own (RowsO.low hR G) J O (by decide) (by decide)) (lq (r.th - 1).toNat ms.length) ⟨rfl, rfl, rfl⟩ ⟨rfl, rfl, rfl⟩
 refine Xc (Xu (Xa (Xe (v := vi 0) Z Z (Xc (Xt ?_)))))
 have hf : far (tabT ms) q r = (tabT (ms.set (r.th - 1).toNat (⟨⟨(mj ms r.th).t.kind, (mj ms r.th).t.lab, (mj ms r.th).t.ve, q.n, (mj ms r.th).t.slots, (mj ms r.th).t.queue, (mj ms r.th).t.to⟩, (mj ms r.th).sa, (mj ms r.th).sc, (mj ms r.th).qa, (mj ms r.th).qc⟩ : MTh)), 0) := Fi hq rfl
 exact ⟨vi 0, Yp Z Z, ms.set (r.th - 1).toNat (⟨⟨(mj ms r.th).t.kind, (mj ms r.th).t.lab, (mj ms r.th).t.ve, q.n, (mj ms r.th).t.slots, (mj ms r.th).t.queue, (mj ms r.th).t.to⟩, (mj ms r.th).sa, (mj ms r.th).sc, (mj ms r.th).qa, (mj ms r.th).qc⟩ : MTh), by rw [hf], by first | rfl | exact Yd | (simp only [List.length_set, Yd]), ab, V, by rw [hf], (KeepsI.own (KeepsI.low af G) J O (by decide) (by omega) (by omega))⟩
theorem Ie (q : Cl) (r : Rt) (lo B cap : Nat) (ms : List MTh) (w : World) (hB : Dw.Own w B 38 8 cap ms.length (ms.flatMap MTh.cells)) (hR : RowsO 42 3 lo w ms) (hlo : lo ≤ B) (hi : Nat) (hH : HiO hi ms) (hBlt : B < hi) (hhi : hi ≤ w.heap.size) (hF : FarOk (tabT ms) q r) (A : Nat) (hA : Blk w A 57 #[.slice (pa B) ms.length cap, vi q.kind, vi q.run, vi q.a, vi q.b, vi q.n, vi r.th, vi r.ve, vb r.rd, vb r.wr, vb r.wk]) (hAhi : hi ≤ A) (hq : decide (q.kind = 4) = true) : CallsR Tryz.prog 93 #[pt A 0] w (fun v w' => ∃ ms' : List MTh, v = vi (far (tabT ms) q r).2 ∧ ms'.length = ms.length ∧ Dw.Own w' B 38 8 cap ms'.length (ms'.flatMap MTh.cells) ∧ RowsO 42 3 lo w' ms' ∧ tabT ms' = (far (tabT ms) q r).1 ∧ KeepsI lo hi [38, 42, 3] w w') := by
 refine Xx (n := 36) Tryz.func93 Z Tryz.ntmps93 Z ?_
 have d3 : KeepsI lo hi [38, 42, 3] w w := KeepsI.refl w
 have hlow : lo ≤ w.heap.size := by omega
 have hT := hF.tab
 have hco := Yq hF.call
 have hkp := (Y3 hF.run).1
 have h4 := Qp hT hF.run
 have hth := hF.th
 rw [Qd] at hth
 have hml := Jb hT
 have hkd := Q0 hF.kind hco.1
 rw [← Qw] at hkd
 have hrow := Ju hT (i := (r.th - 1).toNat) (by omega)
 have hln := TabLen.ok hT _ (List.mem_of_getElem? (xg ms (r.th - 1).toNat))
 have hcp := hF.copy
 have hve := Uu hrow
 have ep := of_decide_eq_true hq
 have hs4 : (mAt ms (r.th - 1).toNat).t.slots.length = 4 := U3 hrow (Or.inl (by omega))
 have hqk := of_decide_eq_true hq
 have bv := (V0 hT (k := r.th) (by rw [Qd]; exact hth) (q.n % 4)).1
 rw [← Jq] at bv
 refine Xa (Xe (v := vi 0) Z Z (Xc (Xq ?_)))
 obtain ⟨br, ba, ei, af⟩ := RowsO.slot hR (lq (r.th - 1).toNat ms.length) (by omega)
 have ef := hH _ (List.mem_of_getElem? (xg ms (r.th - 1).toNat)) _ (Or.inl ba)
 have ej := Vt hB af (by decide)
 refine Qy (m := 14) [[], [0], [0, 1], [0, 1, 2], [0, 1, 2, 3], [], [5], [5, 6], [5, 6, 7], [5, 6, 7, 8], [5, 6, 7, 8, 9], [0, 1, 2, 3, 4, 5, 6, 7, 8, 9, 10], [0, 1, 2, 3, 4, 5, 6, 7, 8, 9, 10, 11], [], [0, 1, 2, 3, 4, 5, 6, 7, 8, 9, 10, 11, 12, 13]] (fun S F w' => ∃ (E : Nat), w.grownBy w' none ∧ F 0 = pt A 0 ∧ F 2 = vi 0 ∧ (S 13 = true → F 3 = pt E 0 ∧ w.heap.size ≤ E ∧ Blk w' E 42 #[vi 0, vi 0, vb false, vb false, vb false] ∧ B < E ∧ A < E ∧ br < E ∧ w.heap.size ≤ E) ∧ Vals S F [(0, 4, pt A 0), (1, 5, pt B ((r.th - 1).toNat * 8)), (2, 6, pt B ((r.th - 1).toNat * 8)), (3, 7, pt B ((r.th - 1).toNat * 8 + 5)), (4, 8, .slice (mAt ms (r.th - 1).toNat).sa (mAt ms (r.th - 1).toNat).t.slots.length (mAt ms (r.th - 1).toNat).sc), (5, 9, pt A 0), (6, 10, pt A 0), (7, 11, pt A 1), (8, 12, pt A 5), (9, 13, vi q.n), (10, 14, vi (q.n % 4)), (11, 15, pt br ((q.n % 4).toNat * 5)), (12, 16, .agg #[vi (rAt (mAt ms (r.th - 1).toNat).t.slots (q.n % 4).toNat).th, vi (rAt (mAt ms (r.th - 1).toNat).t.slots (q.n % 4).toNat).ve, vb (rAt (mAt ms (r.th - 1).toNat).t.slots (q.n % 4).toNat).rd, vb (rAt (mAt ms (r.th - 1).toNat).t.slots (q.n % 4).toNat).wr, vb (rAt (mAt ms (r.th - 1).toNat).t.slots (q.n % 4).toNat).wk])]) Yy (by kernel_rfl) ⟨0, X6 _, Z, Z, Yt, J3 _⟩ ?_ ?_
 refine Xj (fun S F ex hS hbef hcl hI => ?_) ?_
 obtain ⟨E, cc, bt, c9, G, hvs⟩ := hI
 exact Xb (v := pt A 0) bt Z (Xc ⟨E, cc, bt, c9, G, Vals.up 0 hvs Z Z Z⟩)
 refine Xj (fun S F ey hS hbef hcl hI => ?_) ?_
 obtain ⟨E, ap, da, db, G, hvs⟩ := hI
 refine Xl Vr (Xg (Vals.at 0 hvs Z (Xm 0 hbef Z)) Xk) Z (Kp q r B cap _ _ (hB.grown0 ap) (by first | omega | (simp only [List.length_set, Yd]; omega)) A (hA.grown0 ap) (by first | omega | (simp only [List.length_set, Yd]; omega))) ?_
 rintro _ ez ⟨rfl, bf⟩
 exact Xc ⟨E, (low0 ap bf), da, db, fun h => let ⟨d7, d8, d9, ea, eb, ed, ee⟩ := G h; ⟨d7, d8, (d9).grown0 bf, ea, eb, ed, ee⟩, Vals.up 1 hvs Z Z Z⟩
 refine Xj (fun S F e0 hS hbef hcl hI => ?_) ?_
 obtain ⟨E, cd, dc, de, G, hvs⟩ := hI
 exact Xv (Vals.at 1 hvs Z (Xm 1 hbef Z)) Z (Xc ⟨E, cd, dc, de, G, Vals.up 2 hvs Z Z Z⟩)
 refine Xj (fun S F fa hS hbef hcl hI => ?_) ?_
 obtain ⟨E, ce, df, dg, G, hvs⟩ := hI
 exact Xd (o' := (r.th - 1).toNat * 8 + 5) Qj (Vals.at 2 hvs Z (Xm 2 hbef Z)) Z Z (Xc ⟨E, ce, df, dg, G, Vals.up 3 hvs Z Z Z⟩)
 refine Xj (fun S F fb hS hbef hcl hI => ?_) ?_
 obtain ⟨E, bg, dh, di, G, hvs⟩ := hI
 exact Xh (v := .slice (mAt ms (r.th - 1).toNat).sa (mAt ms (r.th - 1).toNat).t.slots.length (mAt ms (r.th - 1).toNat).sc) Jh (Vals.at 3 hvs Z (Xm 3 hbef Z)) ((Own.range Yo (hB.grown0 bg) (xg ms (r.th - 1).toNat)) 5 _ Z) Z (Xc ⟨E, bg, dh, di, G, Vals.up 4 hvs Z Z Z⟩)
 refine Xj (fun S F fc hS hbef hcl hI => ?_) ?_
 obtain ⟨E, cf, bu, dk, G, hvs⟩ := hI
 exact Xb (v := pt A 0) bu Z (Xc ⟨E, cf, bu, dk, G, Vals.up 5 hvs Z Z Z⟩)
 refine Xj (fun S F fd hS hbef hcl hI => ?_) ?_
 obtain ⟨E, cg, dl, dm, G, hvs⟩ := hI
 exact Xv (Vals.at 5 hvs Z (Xm 5 hbef Z)) Z (Xc ⟨E, cg, dl, dm, G, Vals.up 6 hvs Z Z Z⟩)
 refine Xj (fun S F fe hS hbef hcl hI => ?_) ?_
 obtain ⟨E, cj, dn, dp, G, hvs⟩ := hI
 exact Xd (o' := 1) Ks (Vals.at 6 hvs Z (Xm 6 hbef Z)) Z Z (Xc ⟨E, cj, dn, dp, G, Vals.up 7 hvs Z Z Z⟩)
 refine Xj (fun S F ff hS hbef hcl hI => ?_) ?_
 obtain ⟨E, ck, dq, dr, G, hvs⟩ := hI
 exact Xd (o' := 5) Jk (Vals.at 7 hvs Z (Xm 7 hbef Z)) Z Z (Xc ⟨E, ck, dq, dr, G, Vals.up 8 hvs Z Z Z⟩)
 refine Xj (fun S F fg hS hbef hcl hI => ?_) ?_
 obtain ⟨E, bh, dt, du, G, hvs⟩ := hI
 exact Xh (v := vi q.n) X1 (Vals.at 8 hvs Z (Xm 8 hbef Z)) ((hA.grown0 bh).cell Z) Z (Xc ⟨E, bh, dt, du, G, Vals.up 9 hvs Z Z Z⟩)
 refine Xj (fun S F fh hS hbef hcl hI => ?_) ?_
 obtain ⟨E, cl, dv, dw, G, hvs⟩ := hI
 exact Q8 (c := q.n % 4) (Vals.at 9 hvs Z (Xm 9 hbef Z)) Z (by omega) (by omega) (by omega) Z Z (Xc ⟨E, cl, dv, dw, G, Vals.up 10 hvs Z Z Z⟩)
 refine Xj (fun S F fi hS hbef hcl hI => ?_) ?_
 obtain ⟨E, cm, dx, dy, G, hvs⟩ := hI
 exact Xz Ka (Vals.at 4 hvs Z (Xm 4 hbef Z)) (Vals.at 10 hvs Z (Xm 10 hbef Z)) ba (Nat.zero_add _) (by omega) (by omega) Z (Xc ⟨E, cm, dx, dy, G, Vals.up 11 hvs Z Z Z⟩)
 refine Xj (fun S F fj hS hbef hcl hI => ?_) ?_
 obtain ⟨E, bi, dz, d0, G, hvs⟩ := hI
 exact Xp (vs := [vi (rAt (mAt ms (r.th - 1).toNat).t.slots (q.n % 4).toNat).th, vi (rAt (mAt ms (r.th - 1).toNat).t.slots (q.n % 4).toNat).ve, vb (rAt (mAt ms (r.th - 1).toNat).t.slots (q.n % 4).toNat).rd, vb (rAt (mAt ms (r.th - 1).toNat).t.slots (q.n % 4).toNat).wr, vb (rAt (mAt ms (r.th - 1).toNat).t.slots (q.n % 4).toNat).wk]) Yx (Vals.at 11 hvs Z (Xm 11 hbef Z)) Z (Yr (Own.range Q7 (af.grown0 bi) (xr (mAt ms (r.th - 1).toNat).t.slots (q.n % 4).toNat)) 0 5 Z) Z (Xc ⟨E, bi, dz, d0, G, Vals.up 12 hvs Z Z Z⟩)
 refine Xj (fun S F fk hS hbef hcl hI => ?_) ?_
 obtain ⟨E, ac, d1, d2, G, hvs⟩ := hI
 refine Ye (cs := #[vi 0, vi 0, vb false, vb false, vb false]) Kz Z Z ?_
 intro c8 fm O
 have bq := Vs O (KeepsI.low d3 ac)
 have av := Xr O ((hB.grown0 ac)).lt
 have au := Xr O ((hA.grown0 ac)).lt
 have ae := Xr O ((af.grown0 ac)).lt
 exact Xc ⟨c8, (low0 ac O.grw), d1, d2, fun _ => ⟨Z, bq, O.blk, av, au, ae, (nt ac.size (Nat.le_of_eq O.eq.symm))⟩, Vals.keep hvs Z⟩
 exact Q5
 intro S F fo hall hI
 obtain ⟨E, ad, ak, ew, G, hvs⟩ := hI
 obtain ⟨al, eo, bl, cz, cy, bm, d4⟩ := G (hall 13 (by decide))
 refine X0 (vs := [vi (rAt (mAt ms (r.th - 1).toNat).t.slots (q.n % 4).toNat).th, vi (rAt (mAt ms (r.th - 1).toNat).t.slots (q.n % 4).toNat).ve, vb (rAt (mAt ms (r.th - 1).toNat).t.slots (q.n % 4).toNat).rd, vb (rAt (mAt ms (r.th - 1).toNat).t.slots (q.n % 4).toNat).wr, vb (rAt (mAt ms (r.th - 1).toNat).t.slots (q.n % 4).toNat).wk]) (cs' := #[vi (rAt (mAt ms (r.th - 1).toNat).t.slots (q.n % 4).toNat).th, vi (rAt (mAt ms (r.th - 1).toNat).t.slots (q.n % 4).toNat).ve, vb (rAt (mAt ms (r.th - 1).toNat).t.slots (q.n % 4).toNat).rd, vb (rAt (mAt ms (r.th - 1).toNat).t.slots (q.n % 4).toNat).wr, vb (rAt (mAt ms (r.th - 1).toNat).t.slots (q.n % 4).toNat).wk]) Yx al (Vals.at 12 hvs Z (hall 12 (by decide))) Z (by simp [Value.oneCell']) bl (Nat.le_of_ble_eq_true Z) Z ?_
 intro d5 J
 have be := KeepsI.new (KeepsI.low d3 ad) J.grw (by omega)
 refine Xc (Xu (Xq (Xa (Xb (v := pt A 0) ak Z (Xv Z Z (Xd (o' := 6) G4 Z Z Z (Xd (o' := 10) K7 Z Z Z ?_)))))))
 have am := ((hA.grown0 ad).gn J.grw)
 refine Xh (v := vb r.wk) J4 Z (am.cell Z) Z (Xc (Xy Z (fun bd => ?_) (fun bd => ?_)))
 refine X2 (Xp (vs := [vi (rAt (mAt ms (r.th - 1).toNat).t.slots (q.n % 4).toNat).th, vi (rAt (mAt ms (r.th - 1).toNat).t.slots (q.n % 4).toNat).ve, vb (rAt (mAt ms (r.th - 1).toNat).t.slots (q.n % 4).toNat).rd, vb (rAt (mAt ms (r.th - 1).toNat).t.slots (q.n % 4).toNat).wr, vb (rAt (mAt ms (r.th - 1).toNat).t.slots (q.n % 4).toNat).wk]) Yx al Z (J.blk.rangeL 0 5 Z) Z (Xl Ch (Xg Z (Xg Z (Xg Z (Xg Z Xk)))) Z (Wq (rAt (mAt ms (r.th - 1).toNat).t.slots (q.n % 4).toNat) true false false _) ?_))
 rintro _ fp ⟨rfl, ab⟩
 refine X0 (vs := [vi (l2Less (rAt (mAt ms (r.th - 1).toNat).t.slots (q.n % 4).toNat) true false false).th, vi (l2Less (rAt (mAt ms (r.th - 1).toNat).t.slots (q.n % 4).toNat) true false false).ve, vb (l2Less (rAt (mAt ms (r.th - 1).toNat).t.slots (q.n % 4).toNat) true false false).rd, vb (l2Less (rAt (mAt ms (r.th - 1).toNat).t.slots (q.n % 4).toNat) true false false).wr, vb (l2Less (rAt (mAt ms (r.th - 1).toNat).t.slots (q.n % 4).toNat) true false false).wk]) (cs' := #[vi (l2Less (rAt (mAt ms (r.th - 1).toNat).t.slots (q.n % 4).toNat) true false false).th, vi (l2Less (rAt (mAt ms (r.th - 1).toNat).t.slots (q.n % 4).toNat) true false false).ve, vb (l2Less (rAt (mAt ms (r.th - 1).toNat).t.slots (q.n % 4).toNat) true false false).rd, vb (l2Less (rAt (mAt ms (r.th - 1).toNat).t.slots (q.n % 4).toNat) true false false).wr, vb (l2Less (rAt (mAt ms (r.th - 1).toNat).t.slots (q.n % 4).toNat) true false false).wk]) Yx al (congrArg (fun z : Rt => (.agg #[vi z.th, vi z.ve, vb z.rd, vb z.wr, vb z.wk] : Value)) (U1 (r := (rAt (mAt ms (r.th - 1).toNat).t.slots (q.n % 4).toNat)) (a := true) (b := false) (c := false) bv)) Z (by simp [Value.oneCell']) (J.blk.grown0 ab) (Nat.le_of_ble_eq_true Z) Z ?_
 intro d6 V
 refine Xc (Xu (Xq ?_))
 have aw := (RowsO.ge (RowsO.low (RowsO.ge (RowsO.low hR ad) J.grw hH (by omega)) ab) V.grw hH (by omega))
 obtain ⟨er, ag, bn, a8⟩ := RowsO.slot aw (lq (q.run - 1).toNat ms.length) (by omega)
 have eg := hH _ (List.mem_of_getElem? (xg ms (q.run - 1).toNat)) _ (Or.inl ag)
 have bb := ((((hB.grown0 ad).gn J.grw).grown0 ab).gn V.grw)
 have ek := Vt bb a8 (by decide)
 refine Yw (m := 11) (vals := [(24, pt A 0), (25, pt B ((q.run - 1).toNat * 8)), (26, pt B ((q.run - 1).toNat * 8)), (27, pt B ((q.run - 1).toNat * 8 + 5)), (28, .slice (mAt ms (q.run - 1).toNat).sa (mAt ms (q.run - 1).toNat).t.slots.length (mAt ms (q.run - 1).toNat).sc), (29, pt A 0), (30, pt A 0), (31, pt A 1), (32, pt A 4), (33, vi q.b), (34, .agg #[vi (l2Less (rAt (mAt ms (r.th - 1).toNat).t.slots (q.n % 4).toNat) true false false).th, vi (l2Less (rAt (mAt ms (r.th - 1).toNat).t.slots (q.n % 4).toNat) true false false).ve, vb (l2Less (rAt (mAt ms (r.th - 1).toNat).t.slots (q.n % 4).toNat) true false false).rd, vb (l2Less (rAt (mAt ms (r.th - 1).toNat).t.slots (q.n % 4).toNat) true false false).wr, vb (l2Less (rAt (mAt ms (r.th - 1).toNat).t.slots (q.n % 4).toNat) true false false).wk])]) (fun w' => d6.grownBy w' none) Yy (by kernel_rfl) (X6 _) ?_ ?_
 refine yl Z (fun _ _ k => Xb (v := pt A 0) ak Z k) ?_
 refine Ql Z (fun fq aq => ?_) ?_
 refine Xl Rr (Xg Z Xk) Z (Wc q r B cap _ _ (bb.grown0 aq) (by first | omega | (simp only [List.length_set, Yd]; omega)) A (((am.grown0 ab).gn V.grw).grown0 aq) (by first | omega | (simp only [List.length_set, Yd]; omega))) ?_
 rintro _ fr ⟨rfl, bz⟩
 exact Xc ⟨Z, (grown_trans aq bz)⟩
 exact yl Z (fun _ _ k => Xv Z Z k) (yl Z (fun _ _ k => Xd (o' := (q.run - 1).toNat * 8 + 5) Qj Z Z Z k) (yl Z (fun _ cn k => Xh (v := .slice (mAt ms (q.run - 1).toNat).sa (mAt ms (q.run - 1).toNat).t.slots.length (mAt ms (q.run - 1).toNat).sc) Jh Z ((Own.range Yo (bb.grown0 cn) (xg ms (q.run - 1).toNat)) 5 _ Z) Z k) (yl Z (fun _ _ k => Xb (v := pt A 0) ak Z k) (yl Z (fun _ _ k => Xv Z Z k) (yl Z (fun _ _ k => Xd (o' := 1) Ks Z Z Z k) (yl Z (fun _ _ k => Xd (o' := 4) K6 Z Z Z k) (yl Z (fun _ co k => Xh (v := vi q.b) X1 Z ((((am.grown0 ab).gn V.grw).grown0 co).cell Z) Z k) (yl Z (fun _ ct k => Xp (vs := [vi (l2Less (rAt (mAt ms (r.th - 1).toNat).t.slots (q.n % 4).toNat) true false false).th, vi (l2Less (rAt (mAt ms (r.th - 1).toNat).t.slots (q.n % 4).toNat) true false false).ve, vb (l2Less (rAt (mAt ms (r.th - 1).toNat).t.slots (q.n % 4).toNat) true false false).rd, vb (l2Less (rAt (mAt ms (r.th - 1).toNat).t.slots (q.n % 4).toNat) true false false).wr, vb (l2Less (rAt (mAt ms (r.th - 1).toNat).t.slots (q.n % 4).toNat) true false false).wk]) Yx al Z ((V.blk.grown0 ct).rangeL 0 5 Z) Z k) Y5))))))))
 intro ft ai
 refine Xz Ka Z Z ag (Nat.zero_add _) (by omega) (by omega) Z ?_
 have bj := (a8.grown0 ai)
 refine Je (g := Rt.cells) (z' := (l2Less (rAt (mAt ms (r.th - 1).toNat).t.slots (q.n % 4).toNat) true false false)) Yx Z Z (Vy _) Q7 bj (by omega) Z ?_
 intro fu bw an
 refine Xc (Xu (Xa (Xe (v := vi 0) Z Z (Xc (Xt ?_)))))
 have hf : far (tabT ms) q r = (tabT (putT ms (q.run - 1).toNat (q.b).toNat (l2Less (rAt (mAt ms (r.th - 1).toNat).t.slots (q.n % 4).toNat) true false false)), 0) := Tx hq (by unfold fetched; simp [bd])
 exact ⟨vi 0, Yp Z Z, putT ms (q.run - 1).toNat (q.b).toNat (l2Less (rAt (mAt ms (r.th - 1).toNat).t.slots (q.n % 4).toNat) true false false), by rw [hf], by first | rfl | exact Yd | (simp only [List.length_set, Yd]), (V9 (i := (q.run - 1).toNat) (j := (q.b).toNat) (x := (l2Less (rAt (mAt ms (r.th - 1).toNat).t.slots (q.n % 4).toNat) true false false)) ((bb.grown0 ai).gn an) (by omega)), (RowsO.put (RowsO.low aw ai) (lq (q.run - 1).toNat ms.length) ag bn bj Z bw an (by decide)), by rw [hf], (KeepsI.own (KeepsI.low (KeepsI.new (KeepsI.low be ab) V.grw (by omega)) ai) an bj (by decide) (by omega) (by omega))⟩
 refine Xw (Xu (Xq ?_))
 have az := (RowsO.ge (RowsO.low hR ad) J.grw hH (by omega))
 obtain ⟨eu, ah, bp, a9⟩ := RowsO.slot az (lq (q.run - 1).toNat ms.length) (by omega)
 have eh := hH _ (List.mem_of_getElem? (xg ms (q.run - 1).toNat)) _ (Or.inl ah)
 have bc := ((hB.grown0 ad).gn J.grw)
 have em := Vt bc a9 (by decide)
 refine Yw (m := 11) (vals := [(24, pt A 0), (25, pt B ((q.run - 1).toNat * 8)), (26, pt B ((q.run - 1).toNat * 8)), (27, pt B ((q.run - 1).toNat * 8 + 5)), (28, .slice (mAt ms (q.run - 1).toNat).sa (mAt ms (q.run - 1).toNat).t.slots.length (mAt ms (q.run - 1).toNat).sc), (29, pt A 0), (30, pt A 0), (31, pt A 1), (32, pt A 4), (33, vi q.b), (34, .agg #[vi (rAt (mAt ms (r.th - 1).toNat).t.slots (q.n % 4).toNat).th, vi (rAt (mAt ms (r.th - 1).toNat).t.slots (q.n % 4).toNat).ve, vb (rAt (mAt ms (r.th - 1).toNat).t.slots (q.n % 4).toNat).rd, vb (rAt (mAt ms (r.th - 1).toNat).t.slots (q.n % 4).toNat).wr, vb (rAt (mAt ms (r.th - 1).toNat).t.slots (q.n % 4).toNat).wk])]) (fun w' => d5.grownBy w' none) Yy (by kernel_rfl) (X6 _) ?_ ?_
 refine yl Z (fun _ _ k => Xb (v := pt A 0) ak Z k) ?_
 refine Ql Z (fun fv ar => ?_) ?_
 refine Xl Rr (Xg Z Xk) Z (Wc q r B cap _ _ (bc.grown0 ar) (by first | omega | (simp only [List.length_set, Yd]; omega)) A (am.grown0 ar) (by first | omega | (simp only [List.length_set, Yd]; omega))) ?_
 rintro _ fw ⟨rfl, ca⟩
 exact Xc ⟨Z, (grown_trans ar ca)⟩
 exact yl Z (fun _ _ k => Xv Z Z k) (yl Z (fun _ _ k => Xd (o' := (q.run - 1).toNat * 8 + 5) Qj Z Z Z k) (yl Z (fun _ cv k => Xh (v := .slice (mAt ms (q.run - 1).toNat).sa (mAt ms (q.run - 1).toNat).t.slots.length (mAt ms (q.run - 1).toNat).sc) Jh Z ((Own.range Yo (bc.grown0 cv) (xg ms (q.run - 1).toNat)) 5 _ Z) Z k) (yl Z (fun _ _ k => Xb (v := pt A 0) ak Z k) (yl Z (fun _ _ k => Xv Z Z k) (yl Z (fun _ _ k => Xd (o' := 1) Ks Z Z Z k) (yl Z (fun _ _ k => Xd (o' := 4) K6 Z Z Z k) (yl Z (fun _ cw k => Xh (v := vi q.b) X1 Z ((am.grown0 cw).cell Z) Z k) (yl Z (fun _ cx k => Xp (vs := [vi (rAt (mAt ms (r.th - 1).toNat).t.slots (q.n % 4).toNat).th, vi (rAt (mAt ms (r.th - 1).toNat).t.slots (q.n % 4).toNat).ve, vb (rAt (mAt ms (r.th - 1).toNat).t.slots (q.n % 4).toNat).rd, vb (rAt (mAt ms (r.th - 1).toNat).t.slots (q.n % 4).toNat).wr, vb (rAt (mAt ms (r.th - 1).toNat).t.slots (q.n % 4).toNat).wk]) Yx al Z ((J.blk.grown0 cx).rangeL 0 5 Z) Z k) Y5))))))))
 intro fx aj
 refine Xz Ka Z Z ah (Nat.zero_add _) (by omega) (by omega) Z ?_
 have bk := (a9.grown0 aj)
 refine Je (g := Rt.cells) (z' := (rAt (mAt ms (r.th - 1).toNat).t.slots (q.n % 4).toNat)) Yx Z Z (Vy _) Q7 bk (by omega) Z ?_
 intro fy bx ao
 refine Xc (Xu (Xa (Xe (v := vi 0) Z Z (Xc (Xt ?_)))))
 have hf : far (tabT ms) q r = (tabT (putT ms (q.run - 1).toNat (q.b).toNat (rAt (mAt ms (r.th - 1).toNat).t.slots (q.n % 4).toNat)), 0) := Tx hq (by unfold fetched; simp [bd])
 exact ⟨vi 0, Yp Z Z, putT ms (q.run - 1).toNat (q.b).toNat (rAt (mAt ms (r.th - 1).toNat).t.slots (q.n % 4).toNat), by rw [hf], by first | rfl | exact Yd | (simp only [List.length_set, Yd]), (V9 (i := (q.run - 1).toNat) (j := (q.b).toNat) (x := (rAt (mAt ms (r.th - 1).toNat).t.slots (q.n % 4).toNat)) ((bc.grown0 aj).gn ao) (by omega)), (RowsO.put (RowsO.low az aj) (lq (q.run - 1).toNat ms.length) ah bp bk Z bx ao (by decide)), by rw [hf], (KeepsI.own (KeepsI.low be aj) ao bk (by decide) (by omega) (by omega))⟩
theorem Ig (q : Cl) (r : Rt) (lo B cap : Nat) (ms : List MTh) (w : World) (hB : Dw.Own w B 38 8 cap ms.length (ms.flatMap MTh.cells)) (hR : RowsO 42 3 lo w ms) (hlo : lo ≤ B) (hi : Nat) (hH : HiO hi ms) (hBlt : B < hi) (hhi : hi ≤ w.heap.size) (hF : FarOk (tabT ms) q r) (A : Nat) (hA : Blk w A 57 #[.slice (pa B) ms.length cap, vi q.kind, vi q.run, vi q.a, vi q.b, vi q.n, vi r.th, vi r.ve, vb r.rd, vb r.wr, vb r.wk]) (hAhi : hi ≤ A) (hq : decide (q.kind = 5) = true) : CallsR Tryz.prog 94 #[pt A 0] w (fun v w' => ∃ ms' : List MTh, v = vi (far (tabT ms) q r).2 ∧ ms'.length = ms.length ∧ Dw.Own w' B 38 8 cap ms'.length (ms'.flatMap MTh.cells) ∧ RowsO 42 3 lo w' ms' ∧ tabT ms' = (far (tabT ms) q r).1 ∧ KeepsI lo hi [38, 42, 3] w w') := by
 refine Xx (n := 27) Tryz.func94 Z Tryz.ntmps94 Z ?_
 have aw : KeepsI lo hi [38, 42, 3] w w := KeepsI.refl w
 have hlow : lo ≤ w.heap.size := by omega
 have hT := hF.tab
 have hco := Yq hF.call
 have hkp := (Y3 hF.run).1
 have h4 := Qp hT hF.run
 have hth := hF.th
 rw [Qd] at hth
 have hml := Jb hT
 have hkd := Q0 hF.kind hco.1
 rw [← Qw] at hkd
 have hrow := Ju hT (i := (r.th - 1).toNat) (by omega)
 have hln := TabLen.ok hT _ (List.mem_of_getElem? (xg ms (r.th - 1).toNat))
 have hcp := hF.copy
 have hve := Uu hrow
 have az := of_decide_eq_true hq
 have hs4 : (mAt ms (r.th - 1).toNat).t.slots.length = 4 := U3 hrow (Or.inl (by omega))
 have hqk := of_decide_eq_true hq
 refine Xa (Xe (v := vi 0) Z Z (Xc (Xq ?_)))
 obtain ⟨ao, ad, ar, ab⟩ := RowsO.slot hR (lq (q.run - 1).toNat ms.length) (by omega)
 have ap := hH _ (List.mem_of_getElem? (xg ms (q.run - 1).toNat)) _ (Or.inl ad)
 have au := Vt hB ab (by decide)
 obtain ⟨a8, E, af, ac⟩ := RowsO.slot hR (lq (r.th - 1).toNat ms.length) (by omega)
 have aq := hH _ (List.mem_of_getElem? (xg ms (r.th - 1).toNat)) _ (Or.inl E)
 have av := Vt hB ac (by decide)
 refine Yw (m := 23) (vals := [(3, pt A 0), (4, pt B ((r.th - 1).toNat * 8)), (5, pt B ((r.th - 1).toNat * 8)), (6, pt B ((r.th - 1).toNat * 8 + 5)), (7, .slice (mAt ms (r.th - 1).toNat).sa (mAt ms (r.th - 1).toNat).t.slots.length (mAt ms (r.th - 1).toNat).sc), (8, pt A 0), (9, pt A 0), (10, pt A 1), (11, pt A 5), (12, vi q.n), (13, vi (q.n % 4)), (14, pt A 0), (15, pt B ((q.run - 1).toNat * 8)), (16, pt B ((q.run - 1).toNat * 8)), (17, pt B ((q.run - 1).toNat * 8 + 5)), (18, .slice (mAt ms (q.run - 1).toNat).sa (mAt ms (q.run - 1).toNat).t.slots.length (mAt ms (q.run - 1).toNat).sc), (19, pt A 0), (20, pt A 0), (21, pt A 1), (22, pt A 4), (23, vi q.b), (24, pt ao ((q.b).toNat * 5)), (25, .agg #[vi (rAt (mAt ms (q.run - 1).toNat).t.slots (q.b).toNat).th, vi (rAt (mAt ms (q.run - 1).toNat).t.slots (q.b).toNat).ve, vb (rAt (mAt ms (q.run - 1).toNat).t.slots (q.b).toNat).rd, vb (rAt (mAt ms (q.run - 1).toNat).t.slots (q.b).toNat).wr, vb (rAt (mAt ms (q.run - 1).toNat).t.slots (q.b).toNat).wk])]) (fun w' => w.grownBy w' none) Yy (by kernel_rfl) (X6 _) ?_ ?_
 refine yl Z (fun _ _ k => Xb (v := pt A 0) Z Z k) ?_
 refine Ql Z (fun a9 O => ?_) ?_
 refine Xl Vr (Xg Z Xk) Z (Kp q r B cap _ _ (hB.grown0 O) (by first | omega | (simp only [List.length_set, Yd]; omega)) A (hA.grown0 O) (by first | omega | (simp only [List.length_set, Yd]; omega))) ?_
 rintro _ ba ⟨rfl, ah⟩
 exact Xc ⟨Z, (grown_trans O ah)⟩
 refine yl Z (fun _ _ k => Xv Z Z k) (yl Z (fun _ _ k => Xd (o' := (r.th - 1).toNat * 8 + 5) Qj Z Z Z k) (yl Z (fun _ aj k => Xh (v := .slice (mAt ms (r.th - 1).toNat).sa (mAt ms (r.th - 1).toNat).t.slots.length (mAt ms (r.th - 1).toNat).sc) Jh Z ((Own.range Yo (hB.grown0 aj) (xg ms (r.th - 1).toNat)) 5 _ Z) Z k) (yl Z (fun _ _ k => Xb (v := pt A 0) Z Z k) (yl Z (fun _ _ k => Xv Z Z k) (yl Z (fun _ _ k => Xd (o' := 1) Ks Z Z Z k) (yl Z (fun _ _ k => Xd (o' := 5) Jk Z Z Z k) (yl Z (fun _ ak k => Xh (v := vi q.n) X1 Z ((hA.grown0 ak).cell Z) Z k) (yl Z (fun _ _ k => Q8 (c := q.n % 4) Z Z (by omega) (by omega) (by omega) Z Z k) (yl Z (fun _ _ k => Xb (v := pt A 0) Z Z k) ?_)))))))))
 refine Ql Z (fun bb V => ?_) ?_
 refine Xl Rr (Xg Z Xk) Z (Wc q r B cap _ _ (hB.grown0 V) (by first | omega | (simp only [List.length_set, Yd]; omega)) A (hA.grown0 V) (by first | omega | (simp only [List.length_set, Yd]; omega))) ?_
 rintro _ bc ⟨rfl, ai⟩
 exact Xc ⟨Z, (grown_trans V ai)⟩
 exact yl Z (fun _ _ k => Xv Z Z k) (yl Z (fun _ _ k => Xd (o' := (q.run - 1).toNat * 8 + 5) Qj Z Z Z k) (yl Z (fun _ al k => Xh (v := .slice (mAt ms (q.run - 1).toNat).sa (mAt ms (q.run - 1).toNat).t.slots.length (mAt ms (q.run - 1).toNat).sc) Jh Z ((Own.range Yo (hB.grown0 al) (xg ms (q.run - 1).toNat)) 5 _ Z) Z k) (yl Z (fun _ _ k => Xb (v := pt A 0) Z Z k) (yl Z (fun _ _ k => Xv Z Z k) (yl Z (fun _ _ k => Xd (o' := 1) Ks Z Z Z k) (yl Z (fun _ _ k => Xd (o' := 4) K6 Z Z Z k) (yl Z (fun _ am k => Xh (v := vi q.b) X1 Z ((hA.grown0 am).cell Z) Z k) (yl Z (fun _ _ k => Xz Ka Z Z ad (Nat.zero_add _) (by omega) (by omega) Z k) (yl Z (fun _ an k => Xp (vs := [vi (rAt (mAt ms (q.run - 1).toNat).t.slots (q.b).toNat).th, vi (rAt (mAt ms (q.run - 1).toNat).t.slots (q.b).toNat).ve, vb (rAt (mAt ms (q.run - 1).toNat).t.slots (q.b).toNat).rd, vb (rAt (mAt ms (q.run - 1).toNat).t.slots (q.b).toNat).wr, vb (rAt (mAt ms (q.run - 1).toNat).t.slots (q.b).toNat).wk]) Yx Z Z (Yr (Own.range Q7 (ab.grown0 an) (xr (mAt ms (q.run - 1).toNat).t.slots (q.b).toNat)) 0 5 Z) Z k) Y5)))))))))
 intro bd G
 refine Xz Ka Z Z E (Nat.zero_add _) (by omega) (by omega) Z ?_
 have ae := (ac.grown0 G)
 refine Je (g := Rt.cells) (z' := (rAt (mAt ms (q.run - 1).toNat).t.slots (q.b).toNat)) Yx Z Z (Vy _) Q7 ae (by omega) Z ?_
 intro be ag J
 refine Xc (Xu (Xa (Xe (v := vi 0) Z Z (Xc (Xt ?_)))))
 have hf : far (tabT ms) q r = (tabT (putT ms (r.th - 1).toNat (q.n % 4).toNat (rAt (mAt ms (q.run - 1).toNat).t.slots (q.b).toNat)), 0) := Fj hq rfl
 exact ⟨vi 0, Yp Z Z, putT ms (r.th - 1).toNat (q.n % 4).toNat (rAt (mAt ms (q.run - 1).toNat).t.slots (q.b).toNat), by rw [hf], by first | rfl | exact Yd | (simp only [List.length_set, Yd]), (V9 (i := (r.th - 1).toNat) (j := (q.n % 4).toNat) (x := (rAt (mAt ms (q.run - 1).toNat).t.slots (q.b).toNat)) ((hB.grown0 G).gn J) (by omega)), (RowsO.put (RowsO.low hR G) (lq (r.th - 1).toNat ms.length) E af ae Z ag J (by decide)), by rw [hf], (KeepsI.own (KeepsI.low aw G) J ae (by decide) (by omega) (by omega))⟩
theorem Iu (q : Cl) (r : Rt) (lo B cap : Nat) (ms : List MTh) (w : World) (hB : Dw.Own w B 38 8 cap ms.length (ms.flatMap MTh.cells)) (hR : RowsO 42 3 lo w ms) (hlo : lo ≤ B) (hi : Nat) (hH : HiO hi ms) (hBlt : B < hi) (hhi : hi ≤ w.heap.size) (hF : FarOk (tabT ms) q r) (A : Nat) (hA : Blk w A 57 #[.slice (pa B) ms.length cap, vi q.kind, vi q.run, vi q.a, vi q.b, vi q.n, vi r.th, vi r.ve, vb r.rd, vb r.wr, vb r.wk]) (hAhi : hi ≤ A) (hq : decide (q.kind = 8) = true) : CallsR Tryz.prog 97 #[pt A 0] w (fun v w' => ∃ ms' : List MTh, v = vi (far (tabT ms) q r).2 ∧ ms'.length = ms.length ∧ Dw.Own w' B 38 8 cap ms'.length (ms'.flatMap MTh.cells) ∧ RowsO 42 3 lo w' ms' ∧ tabT ms' = (far (tabT ms) q r).1 ∧ KeepsI lo hi [38, 42, 3] w w') := by
 refine Xx (n := 40) Tryz.func97 Z Tryz.ntmps97 Z ?_
 have iw : KeepsI lo hi [38, 42, 3] w w := KeepsI.refl w
 have hlow : lo ≤ w.heap.size := by omega
 have hT := hF.tab
 have hco := Yq hF.call
 have hkp := (Y3 hF.run).1
 have h4 := Qp hT hF.run
 have hth := hF.th
 rw [Qd] at hth
 have hml := Jb hT
 have hkd := Q0 hF.kind hco.1
 rw [← Qw] at hkd
 have hrow := Ju hT (i := (r.th - 1).toNat) (by omega)
 have hln := TabLen.ok hT _ (List.mem_of_getElem? (xg ms (r.th - 1).toNat))
 have hcp := hF.copy
 have hve := Uu hrow
 have j1 := of_decide_eq_true hq
 have c8 := T8 hrow (by omega)
 have hqk := of_decide_eq_true hq
 rcases Yf ((decide ((mAt ms (r.th - 1).toNat).t.kind = 2)) || (decide ((mAt ms (r.th - 1).toNat).t.kind = 3))) with ak | ak
 refine Xa (Xe (v := vi 0) Z Z (Xc (Xa (Xb (v := pt A 0) Z Z (Xl Vr (Xg Z Xk) Z (Kp q r B cap _ _ hB (by first | omega | (simp only [List.length_set, Yd]; omega)) A hA (by first | omega | (simp only [List.length_set, Yd]; omega))) ?_)))))
 rintro _ cw ⟨rfl, ap⟩
 have bd := KeepsI.low iw ap
 refine Xe (v := pt B ((r.th - 1).toNat * 8)) Z Z (Xc (Xq (Xa (Xb (v := pt B ((r.th - 1).toNat * 8)) Z Z (Xv Z Z (Xd (o' := (r.th - 1).toNat * 8 + 3) Jl Z Z Z ?_))))))
 have aq := (hB.grown0 ap)
 refine Xh (v := vi (mAt ms (r.th - 1).toNat).t.ve) X1 Z ((Own.range Yo aq (xg ms (r.th - 1).toNat)) 3 _ Z) Z (V5 (q := decide (5 ≤ (mAt ms (r.th - 1).toNat).t.ve)) Z Z Z Z (Xc (Xy Z (fun bx => ?_) (fun bx => ?_))))
 have kb := of_decide_eq_true bx
 refine Xa (Xe (v := vi (-4)) Z Z (Xc (Xt (Yk ?_))))
 have hf : far (tabT ms) q r = (tabT (ms), (-4)) := S2 hq (by omega)
 exact ⟨vi (-4), Yp Z Z, ms, by rw [hf], by first | rfl | exact Yd | (simp only [List.length_set, Yd]), aq, (RowsO.low hR ap), by rw [hf], bd⟩
 have kc := of_decide_eq_false bx
 refine Xw (Xu (Xq ?_))
 refine Qy (m := 18) [[], [0], [0, 1], [0, 1, 2], [], [4], [4, 5], [4, 5, 6], [], [8], [8, 9], [8, 9, 10], [0, 1, 2, 3, 4, 5, 6, 7, 8, 9, 10, 11], [0, 1, 2, 3, 4, 5, 6, 7, 8, 9, 10, 11, 12], [0, 1, 2, 3, 4, 5, 6, 7, 8, 9, 10, 11, 12, 13], [0, 1, 2, 3, 4, 5, 6, 7, 8, 9, 10, 11, 12, 13], [], [0, 1, 2, 3, 4, 5, 6, 7, 8, 9, 10, 11, 12, 13, 14, 16], [0, 1, 2, 3, 4, 5, 6, 7, 8, 9, 10, 11, 12, 13, 14, 15, 16, 17]] (fun S F w' => ∃ (G : Nat) (O : Nat) (V : Nat), cw.grownBy w' none ∧ F 2 = vi 0 ∧ F 3 = pt B ((r.th - 1).toNat * 8) ∧ (S 12 = true → F 26 = .tuple #[.agg #[vi (mAt ms (r.th - 1).toNat).t.kind, vi (mAt ms (r.th - 1).toNat).t.lab.s, vi (mAt ms (r.th - 1).toNat).t.lab.v, vi 0, vi 0, .slice (pa O) 4 G, .slice none 0 0, vi (mAt ms (r.th - 1).toNat).t.to], vb true] ∧ w.heap.size ≤ O ∧ Dw.Own w' O 42 5 G zeros4.length (zeros4.flatMap Rt.cells) ∧ B < O ∧ A < O ∧ cw.heap.size ≤ O) ∧ (S 13 = true → F 13 = .tuple #[.agg #[vi (mAt ms (r.th - 1).toNat).t.kind, vi (mAt ms (r.th - 1).toNat).t.lab.s, vi (mAt ms (r.th - 1).toNat).t.lab.v, vi 0, vi 0, .slice (pa O) 4 G, .slice none 0 0, vi (mAt ms (r.th - 1).toNat).t.to], vb true]) ∧ (S 14 = true → F 27 = .agg #[vi (mAt ms (r.th - 1).toNat).t.kind, vi (mAt ms (r.th - 1).toNat).t.lab.s, vi (mAt ms (r.th - 1).toNat).t.lab.v, vi 0, vi 0, .slice (pa O) 4 G, .slice none 0 0, vi (mAt ms (r.th - 1).toNat).t.to]) ∧ (S 16 = true → F 4 = pt V 0 ∧ w.heap.size ≤ V ∧ (S 17 = false → Blk w' V 38 #[vi 0, vi 0, vi 0, vi 0, vi 0, .slice none 0 0, .slice none 0 0, vi 0]) ∧ B < V ∧ A < V ∧ cw.heap.size ≤ V) ∧ (S 17 = true → Blk w' V 38 #[vi (mAt ms (r.th - 1).toNat).t.kind, vi (mAt ms (r.th - 1).toNat).t.lab.s, vi (mAt ms (r.th - 1).toNat).t.lab.v, vi 0, vi 0, .slice (pa O) 4 G, .slice none 0 0, vi (mAt ms (r.th - 1).toNat).t.to]) ∧ Vals S F [(0, 14, pt B ((r.th - 1).toNat * 8)), (1, 15, pt B ((r.th - 1).toNat * 8)), (2, 16, pt B ((r.th - 1).toNat * 8)), (3, 17, vi (mAt ms (r.th - 1).toNat).t.kind), (4, 18, pt B ((r.th - 1).toNat * 8)), (5, 19, pt B ((r.th - 1).toNat * 8)), (6, 20, pt B ((r.th - 1).toNat * 8 + 1)), (7, 21, .agg #[vi (mAt ms (r.th - 1).toNat).t.lab.s, vi (mAt ms (r.th - 1).toNat).t.lab.v]), (8, 22, pt B ((r.th - 1).toNat * 8)), (9, 23, pt B ((r.th - 1).toNat * 8)), (10, 24, pt B ((r.th - 1).toNat * 8 + 7)), (11, 25, vi (mAt ms (r.th - 1).toNat).t.to), (15, 28, vb true)] ∧ (S 12 = true → S 16 = true → O ≠ V)) Yy (by kernel_rfl) ⟨0, 0, 0, X6 _, Z, Z, Yt, Yt, Yt, Yt, Yt, J3 _, Yt⟩ ?_ ?_
 refine Xj (fun S F kk hS hbef hcl hI => ?_) ?_
 obtain ⟨G, O, V, dy, ez, df, ad, ae, af, J, ac, hvs, E⟩ := hI
 exact Xb (v := pt B ((r.th - 1).toNat * 8)) df Z (Xc ⟨G, O, V, dy, ez, df, X5 12 hS hcl Z, X5 13 hS hcl Z, X5 14 hS hcl Z, J, X5 17 hS hcl Z, Vals.up 0 hvs Z Z Z, E⟩)
 refine Xj (fun S F kl hS hbef hcl hI => ?_) ?_
 obtain ⟨G, O, V, dz, e0, fa, ad, ae, af, J, ac, hvs, E⟩ := hI
 exact Xv (Vals.at 0 hvs Z (Xm 0 hbef Z)) Z (Xc ⟨G, O, V, dz, e0, fa, X5 12 hS hcl Z, X5 13 hS hcl Z, X5 14 hS hcl Z, J, X5 17 hS hcl Z, Vals.up 1 hvs Z Z Z, E⟩)
 refine Xj (fun S F km hS hbef hcl hI => ?_) ?_
 obtain ⟨G, O, V, d0, fb, fc, ad, ae, af, J, ac, hvs, E⟩ := hI
 exact Xd (o' := (r.th - 1).toNat * 8) Y9 (Vals.at 1 hvs Z (Xm 1 hbef Z)) Z Z (Xc ⟨G, O, V, d0, fb, fc, X5 12 hS hcl Z, X5 13 hS hcl Z, X5 14 hS hcl Z, J, X5 17 hS hcl Z, Vals.up 2 hvs Z Z Z, E⟩)
 refine Xj (fun S F kn hS hbef hcl hI => ?_) ?_
 obtain ⟨G, O, V, cf, fd, fe, ad, ae, af, J, ac, hvs, E⟩ := hI
 exact Xh (v := vi (mAt ms (r.th - 1).toNat).t.kind) X1 (Vals.at 2 hvs Z (Xm 2 hbef Z)) ((Own.range Yo (aq.grown0 cf) (xg ms (r.th - 1).toNat)) 0 _ Z) Z (Xc ⟨G, O, V, cf, fd, fe, X5 12 hS hcl Z, X5 13 hS hcl Z, X5 14 hS hcl Z, J, X5 17 hS hcl Z, Vals.up 3 hvs Z Z Z, E⟩)
 refine Xj (fun S F ko hS hbef hcl hI => ?_) ?_
 obtain ⟨G, O, V, d1, ff, dg, ad, ae, af, J, ac, hvs, E⟩ := hI
 exact Xb (v := pt B ((r.th - 1).toNat * 8)) dg Z (Xc ⟨G, O, V, d1, ff, dg, X5 12 hS hcl Z, X5 13 hS hcl Z, X5 14 hS hcl Z, J, X5 17 hS hcl Z, Vals.up 4 hvs Z Z Z, E⟩)
 refine Xj (fun S F kp hS hbef hcl hI => ?_) ?_
 obtain ⟨G, O, V, d2, fg, fh, ad, ae, af, J, ac, hvs, E⟩ := hI
 exact Xv (Vals.at 4 hvs Z (Xm 4 hbef Z)) Z (Xc ⟨G, O, V, d2, fg, fh, X5 12 hS hcl Z, X5 13 hS hcl Z, X5 14 hS hcl Z, J, X5 17 hS hcl Z, Vals.up 5 hvs Z Z Z, E⟩)
 refine Xj (fun S F kq hS hbef hcl hI => ?_) ?_
 obtain ⟨G, O, V, d3, fi, fj, ad, ae, af, J, ac, hvs, E⟩ := hI
 exact Xd (o' := (r.th - 1).toNat * 8 + 1) Kd (Vals.at 5 hvs Z (Xm 5 hbef Z)) Z Z (Xc ⟨G, O, V, d3, fi, fj, X5 12 hS hcl Z, X5 13 hS hcl Z, X5 14 hS hcl Z, J, X5 17 hS hcl Z, Vals.up 6 hvs Z Z Z, E⟩)
 refine Xj (fun S F kr hS hbef hcl hI => ?_) ?_
 obtain ⟨G, O, V, cg, fk, fm, ad, ae, af, J, ac, hvs, E⟩ := hI
 exact Xp (vs := [vi (mAt ms (r.th - 1).toNat).t.lab.s, vi (mAt ms (r.th - 1).toNat).t.lab.v]) Kb (Vals.at 6 hvs Z (Xm 6 hbef Z)) Z (Yr (Own.range Yo (aq.grown0 cg) (xg ms (r.th - 1).toNat)) 1 2 Z) Z (Xc ⟨G, O, V, cg, fk, fm, X5 12 hS hcl Z, X5 13 hS hcl Z, X5 14 hS hcl Z, J, X5 17 hS hcl Z, Vals.up 7 hvs Z Z Z, E⟩)
 refine Xj (fun S F ks hS hbef hcl hI => ?_) ?_
 obtain ⟨G, O, V, d4, fo, dh, ad, ae, af, J, ac, hvs, E⟩ := hI
 exact Xb (v := pt B ((r.th - 1).toNat * 8)) dh Z (Xc ⟨G, O, V, d4, fo, dh, X5 12 hS hcl Z, X5 13 hS hcl Z, X5 14 hS hcl Z, J, X5 17 hS hcl Z, Vals.up 8 hvs Z Z Z, E⟩)
 refine Xj (fun S F kt hS hbef hcl hI => ?_) ?_
 obtain ⟨G, O, V, d5, fp, fq, ad, ae, af, J, ac, hvs, E⟩ := hI
 exact Xv (Vals.at 8 hvs Z (Xm 8 hbef Z)) Z (Xc ⟨G, O, V, d5, fp, fq, X5 12 hS hcl Z, X5 13 hS hcl Z, X5 14 hS hcl Z, J, X5 17 hS hcl Z, Vals.up 9 hvs Z Z Z, E⟩)
 refine Xj (fun S F ku hS hbef hcl hI => ?_) ?_
 obtain ⟨G, O, V, d6, fr, ft, ad, ae, af, J, ac, hvs, E⟩ := hI
 exact Xd (o' := (r.th - 1).toNat * 8 + 7) Kk (Vals.at 9 hvs Z (Xm 9 hbef Z)) Z Z (Xc ⟨G, O, V, d6, fr, ft, X5 12 hS hcl Z, X5 13 hS hcl Z, X5 14 hS hcl Z, J, X5 17 hS hcl Z, Vals.up 10 hvs Z Z Z, E⟩)
 refine Xj (fun S F kv hS hbef hcl hI => ?_) ?_
 obtain ⟨G, O, V, cj, fu, fv, ad, ae, af, J, ac, hvs, E⟩ := hI
 exact Xh (v := vi (mAt ms (r.th - 1).toNat).t.to) X1 (Vals.at 10 hvs Z (Xm 10 hbef Z)) ((Own.range Yo (aq.grown0 cj) (xg ms (r.th - 1).toNat)) 7 _ Z) Z (Xc ⟨G, O, V, cj, fu, fv, X5 12 hS hcl Z, X5 13 hS hcl Z, X5 14 hS hcl Z, J, X5 17 hS hcl Z, Vals.up 11 hvs Z Z Z, E⟩)
 refine Xj (fun S F kw hS hbef hcl hI => ?_) ?_
 obtain ⟨G, O, V, av, fw, fx, ad, ae, af, J, ac, hvs, E⟩ := hI
 have ke : thingOk (⟨(mAt ms (r.th - 1).toNat).t.kind, (mAt ms (r.th - 1).toNat).t.lab, 0, 0, zeros4, [], (mAt ms (r.th - 1).toNat).t.to⟩ : Th) = true := (Wt ak).symm.trans c8
 refine Xl Cg (Xg (Vals.at 3 hvs Z (Xm 3 hbef Z)) (Xg (Vals.at 7 hvs Z (Xm 7 hbef Z)) (Xg (Vals.at 11 hvs Z (Xm 11 hbef Z)) Xk))) Z (Rb (mAt ms (r.th - 1).toNat).t.kind (mAt ms (r.th - 1).toNat).t.to (mAt ms (r.th - 1).toNat).t.lab ak c8 _) ?_
 rintro _ kx ⟨ew, cx, rfl, al, dv, cc⟩
 have da := nt (KeepsI.low bd av).size al
 have bt := nl ((aq.grown0 av)).lt al
 have bm := nl (((hA.grown0 ap).grown0 av)).lt al
 exact Xc ⟨cx, ew, V, (low0 av cc), fw, fx, fun _ => ⟨Z, da, dv, bt, bm, (nt av.size al)⟩, X5 13 hS hcl Z, X5 14 hS hcl Z, fun h => let ⟨iz, i0, i1, i2, i3, i4⟩ := J h; ⟨iz, i0, fun hn => (i1 hn).grown0 cc, i2, i3, i4⟩, X5 17 hS hcl Z, Vals.keep hvs Z, fun _ h => let ⟨l4, l5, i5, l6, l7, l8⟩ := J h; Nat.ne_of_gt (nl ((i5 (Bool.eq_false_iff.2 fun h6 => X5 17 hS hcl Z h6))).lt al)⟩
 refine Xj (fun S F ky hS hbef hcl hI => ?_) ?_
 obtain ⟨G, O, V, d7, fy, fz, ad, ae, af, J, ac, hvs, E⟩ := hI
 obtain ⟨f8, an, aj, ah, ag, am⟩ := ad (Xm 12 hbef rfl)
 exact Xb (v := .tuple #[.agg #[vi (mAt ms (r.th - 1).toNat).t.kind, vi (mAt ms (r.th - 1).toNat).t.lab.s, vi (mAt ms (r.th - 1).toNat).t.lab.v, vi 0, vi 0, .slice (pa O) 4 G, .slice none 0 0, vi (mAt ms (r.th - 1).toNat).t.to], vb true]) f8 Z (Xc ⟨G, O, V, d7, fy, fz, ad, fun _ => Z, X5 14 hS hcl Z, J, X5 17 hS hcl Z, Vals.keep hvs Z, E⟩)
 refine Xj (fun S F kz hS hbef hcl hI => ?_) ?_
 obtain ⟨G, O, V, d8, f9, ga, ad, ae, af, J, ac, hvs, E⟩ := hI
 obtain ⟨j2, an, aj, ah, ag, am⟩ := ad (Xm 12 hbef rfl)
 obtain gb := ae (Xm 13 hbef rfl)
 exact X4 (v := .agg #[vi (mAt ms (r.th - 1).toNat).t.kind, vi (mAt ms (r.th - 1).toNat).t.lab.s, vi (mAt ms (r.th - 1).toNat).t.lab.v, vi 0, vi 0, .slice (pa O) 4 G, .slice none 0 0, vi (mAt ms (r.th - 1).toNat).t.to]) gb Z Z (Xc ⟨G, O, V, d8, f9, ga, ad, ae, fun _ => Z, J, X5 17 hS hcl Z, Vals.keep hvs Z, E⟩)
 refine Xj (fun S F k0 hS hbef hcl hI => ?_) ?_
 obtain ⟨G, O, V, d9, gc, gf, ad, ae, af, J, ac, hvs, E⟩ := hI
 obtain ⟨j3, an, aj, ah, ag, am⟩ := ad (Xm 12 hbef rfl)
 obtain gg := ae (Xm 13 hbef rfl)
 exact X4 (v := vb true) gg Z Z (Xc ⟨G, O, V, d9, gc, gf, ad, ae, af, J, ac, Vals.up 12 hvs Z Z Z, E⟩)
 refine Xj (fun S F k3 hS hbef hcl hI => ?_) ?_
 obtain ⟨G, O, V, aw, gh, gi, ad, ae, af, J, ac, hvs, E⟩ := hI
 refine Ye (cs := #[vi 0, vi 0, vi 0, vi 0, vi 0, .slice none 0 0, .slice none 0 0, vi 0]) Kw Z Z ?_
 intro ex k4 ai
 have db := Vs ai (KeepsI.low bd aw)
 have bu := Xr ai ((aq.grown0 aw)).lt
 have bn := Xr ai (((hA.grown0 ap).grown0 aw)).lt
 exact Xc ⟨G, O, ex, (low0 aw ai.grw), gh, gi, fun h => let ⟨i6, i7, i8, i9, ja, jb⟩ := ad h; ⟨i6, i7, (i8).grown0 ai.grw, i9, ja, jb⟩, ae, af, fun _ => ⟨Z, db, fun _ => ai.blk, bu, bn, (nt aw.size (Nat.le_of_eq ai.eq.symm))⟩, X5 17 hS hcl Z, Vals.keep hvs Z, fun h _ => let ⟨l9, ma, jc, mb, mc, me⟩ := ad h; Nat.ne_of_lt (nl (jc).lt (Nat.le_of_eq ai.eq.symm))⟩
 refine Xj (fun S F k5 hS hbef hcl hI => ?_) ?_
 obtain ⟨G, O, V, ea, gj, gk, ad, ae, af, J, ac, hvs, E⟩ := hI
 obtain ⟨j4, an, aj, ah, ag, am⟩ := ad (Xm 12 hbef rfl)
 obtain j5 := ae (Xm 13 hbef rfl)
 obtain gl := af (Xm 14 hbef rfl)
 obtain ⟨gm, c9, be, br, bl, cn⟩ := J (Xm 16 hbef rfl)
 have bb := E (Xm 12 hbef rfl) (Xm 16 hbef rfl)
 refine X0 (vs := [vi (mAt ms (r.th - 1).toNat).t.kind, vi (mAt ms (r.th - 1).toNat).t.lab.s, vi (mAt ms (r.th - 1).toNat).t.lab.v, vi 0, vi 0, .slice (pa O) 4 G, .slice none 0 0, vi (mAt ms (r.th - 1).toNat).t.to]) (cs' := #[vi (mAt ms (r.th - 1).toNat).t.kind, vi (mAt ms (r.th - 1).toNat).t.lab.s, vi (mAt ms (r.th - 1).toNat).t.lab.v, vi 0, vi 0, .slice (pa O) 4 G, .slice none 0 0, vi (mAt ms (r.th - 1).toNat).t.to]) Y0 gm gl Z (by simp [Value.oneCell']) (be hS) (Nat.le_of_ble_eq_true Z) Z ?_
 intro k6 bg
 exact Xc ⟨G, O, V, (low1 ea bg.grw (by omega)), gj, gk, fun h => let ⟨jd, je, jf, jg, jh, ji⟩ := ad h; ⟨jd, je, (jf).grown bg.grw (Jy (E h (Xm 16 hbef Z))), jg, jh, ji⟩, ae, af, fun h => let ⟨jj, jk, mf, jl, jm, jo⟩ := J h; ⟨jj, jk, fun h => J8 h, jl, jm, jo⟩, fun _ => bg.blk, Vals.keep0 hvs Z, E⟩
 exact Q5
 intro S F k7 hall hI
 obtain ⟨G, O, V, bj, j6, di, ad, ae, af, J, ac, hvs, E⟩ := hI
 obtain ⟨j7, an, aj, ah, ag, am⟩ := ad (hall 12 (by decide))
 obtain j8 := ae (hall 13 (by decide))
 obtain j9 := af (hall 14 (by decide))
 obtain ⟨dk, c9, be, br, bl, cn⟩ := J (hall 16 (by decide))
 obtain a9 := ac (hall 17 (by decide))
 have bb := E (hall 12 (by decide)) (hall 16 (by decide))
 refine Xe (v := vb true) (Vals.at 12 hvs Z (hall 15 (by decide))) Z (Xc (Xu (Xq (Xa (Xb (v := vb true) Z Z (Yl (b' := false) Z Z Z (Xc (Qc Z Z (Xw (Xu (Xa (Xb (v := pt B ((r.th - 1).toNat * 8)) di Z ?_))))))))))))
 refine Xv Z Z (Xd (o' := (r.th - 1).toNat * 8 + 3) Jl Z Z Z ?_)
 have dr := (aq.grown0 bj)
 refine Xh (v := vi (mAt ms (r.th - 1).toNat).t.ve) X1 Z ((Own.range Yo dr (xg ms (r.th - 1).toNat)) 3 _ Z) Z (Yn (c := (mAt ms (r.th - 1).toNat).t.ve + 1) Z Z (by omega) (by omega) (by omega) Z (Xd (o' := 3) Jl dk Z Z (Yg (v := vi ((mAt ms (r.th - 1).toNat).t.ve + 1)) (cs' := #[vi (mAt ms (r.th - 1).toNat).t.kind, vi (mAt ms (r.th - 1).toNat).t.lab.s, vi (mAt ms (r.th - 1).toNat).t.lab.v, vi ((mAt ms (r.th - 1).toNat).t.ve + 1), vi 0, .slice (pa O) 4 G, .slice none 0 0, vi (mAt ms (r.th - 1).toNat).t.to]) X1 Z Z Z a9 (Nat.le_of_ble_eq_true Z) Z ?_)))
 intro k8 ar
 refine Xc (Xa (Xb (v := pt B ((r.th - 1).toNat * 8)) di Z (Xp (vs := [vi (mAt ms (r.th - 1).toNat).t.kind, vi (mAt ms (r.th - 1).toNat).t.lab.s, vi (mAt ms (r.th - 1).toNat).t.lab.v, vi ((mAt ms (r.th - 1).toNat).t.ve + 1), vi 0, .slice (pa O) 4 G, .slice none 0 0, vi (mAt ms (r.th - 1).toNat).t.to]) Y0 dk Z (ar.blk.rangeL 0 8 Z) Z (Xv Z Z ?_))))
 have ct := (dr.gn ar.grw)
 refine Je (g := MTh.cells) (z' := (⟨⟨(mAt ms (r.th - 1).toNat).t.kind, (mAt ms (r.th - 1).toNat).t.lab, (mAt ms (r.th - 1).toNat).t.ve + 1, 0, zeros4, [], (mAt ms (r.th - 1).toNat).t.to⟩, some ⟨O, 0, none⟩, G, none, 0⟩ : MTh)) Y0 Z Z (Kv _) Yo ct (by omega) Z ?_
 intro ix dw bi
 have cy : RowsO 42 3 lo ix (ms.set (r.th - 1).toNat (⟨⟨(mAt ms (r.th - 1).toNat).t.kind, (mAt ms (r.th - 1).toNat).t.lab, (mAt ms (r.th - 1).toNat).t.ve + 1, 0, zeros4, [], (mAt ms (r.th - 1).toNat).t.to⟩, some ⟨O, 0, none⟩, G, none, 0⟩ : MTh)) := RowsO.setn (RowsO.own (RowsO.typB (RowsO.low (RowsO.low hR ap) bj) ar.grw a9 (by decide) (by decide)) bi ct (by decide) (by decide)) (lq (r.th - 1).toNat ms.length) ⟨(OwnN.mono (OwnN.of ((aj.gn ar.grw).gn bi) an) hlow), OwnN.nil⟩ hH (fun S e => by first | (cases e; done) | (simp only [Option.some.injEq, Addr.mk.injEq, and_true, reduceCtorEq] at e; omega))
 refine Xc (Xa (Xe (v := vi 0) Z Z (Xc (Xt ?_))))
 have hf : far (tabT ms) q r = (tabT (ms.set (r.th - 1).toNat (⟨⟨(mAt ms (r.th - 1).toNat).t.kind, (mAt ms (r.th - 1).toNat).t.lab, (mAt ms (r.th - 1).toNat).t.ve + 1, 0, zeros4, [], (mAt ms (r.th - 1).toNat).t.to⟩, some ⟨O, 0, none⟩, G, none, 0⟩ : MTh)), 0) := T1 hq (by omega) (Nv ak)
 exact ⟨vi 0, Yp Z Z, ms.set (r.th - 1).toNat (⟨⟨(mAt ms (r.th - 1).toNat).t.kind, (mAt ms (r.th - 1).toNat).t.lab, (mAt ms (r.th - 1).toNat).t.ve + 1, 0, zeros4, [], (mAt ms (r.th - 1).toNat).t.to⟩, some ⟨O, 0, none⟩, G, none, 0⟩ : MTh), by rw [hf], by first | rfl | exact Yd | (simp only [List.length_set, Yd]), dw, cy, by rw [hf], (KeepsI.own (KeepsI.new (KeepsI.low bd bj) ar.grw (by omega)) bi ct (by decide) (by omega) (by omega))⟩
 have iu := Kq ak
 have kf := of_decide_eq_false iu
 have iv := Kr ak
 have kg := of_decide_eq_false iv
 refine Xa (Xe (v := vi 0) Z Z (Xc (Xa (Xb (v := pt A 0) Z Z (Xl Vr (Xg Z Xk) Z (Kp q r B cap _ _ hB (by first | omega | (simp only [List.length_set, Yd]; omega)) A hA (by first | omega | (simp only [List.length_set, Yd]; omega))) ?_)))))
 rintro _ du ⟨rfl, au⟩
 have bh := KeepsI.low iw au
 refine Xe (v := pt B ((r.th - 1).toNat * 8)) Z Z (Xc (Xq (Xa (Xb (v := pt B ((r.th - 1).toNat * 8)) Z Z (Xv Z Z (Xd (o' := (r.th - 1).toNat * 8 + 3) Jl Z Z Z ?_))))))
 have a8 := (hB.grown0 au)
 refine Xh (v := vi (mAt ms (r.th - 1).toNat).t.ve) X1 Z ((Own.range Yo a8 (xg ms (r.th - 1).toNat)) 3 _ Z) Z (V5 (q := decide (5 ≤ (mAt ms (r.th - 1).toNat).t.ve)) Z Z Z Z (Xc (Xy Z (fun bz => ?_) (fun bz => ?_))))
 have kh := of_decide_eq_true bz
 refine Xa (Xe (v := vi (-4)) Z Z (Xc (Xt (Yk ?_))))
 have hf : far (tabT ms) q r = (tabT (ms), (-4)) := S2 hq (by omega)
 exact ⟨vi (-4), Yp Z Z, ms, by rw [hf], by first | rfl | exact Yd | (simp only [List.length_set, Yd]), a8, (RowsO.low hR au), by rw [hf], bh⟩
 have ki := of_decide_eq_false bz
 refine Xw (Xu (Xq (Qy (m := 18) [[], [0], [0, 1], [0, 1, 2], [], [4], [4, 5], [4, 5, 6], [], [8], [8, 9], [8, 9, 10], [0, 1, 2, 3, 4, 5, 6, 7, 8, 9, 10, 11], [0, 1, 2, 3, 4, 5, 6, 7, 8, 9, 10, 11, 12], [0, 1, 2, 3, 4, 5, 6, 7, 8, 9, 10, 11, 12, 13], [0, 1, 2, 3, 4, 5, 6, 7, 8, 9, 10, 11, 12, 13], [], [0, 1, 2, 3, 4, 5, 6, 7, 8, 9, 10, 11, 12, 13, 14, 16], [0, 1, 2, 3, 4, 5, 6, 7, 8, 9, 10, 11, 12, 13, 14, 15, 16, 17]] (fun S F w' => ∃ (ab : Nat), du.grownBy w' none ∧ F 2 = vi 0 ∧ F 3 = pt B ((r.th - 1).toNat * 8) ∧ (S 16 = true → F 4 = pt ab 0 ∧ w.heap.size ≤ ab ∧ (S 17 = false → Blk w' ab 38 #[vi 0, vi 0, vi 0, vi 0, vi 0, .slice none 0 0, .slice none 0 0, vi 0]) ∧ B < ab ∧ A < ab ∧ du.heap.size ≤ ab) ∧ (S 17 = true → Blk w' ab 38 #[vi (mAt ms (r.th - 1).toNat).t.kind, vi (mAt ms (r.th - 1).toNat).t.lab.s, vi (mAt ms (r.th - 1).toNat).t.lab.v, vi 0, vi 0, .slice none 0 0, .slice none 0 0, vi (mAt ms (r.th - 1).toNat).t.to]) ∧ Vals S F [(0, 14, pt B ((r.th - 1).toNat * 8)), (1, 15, pt B ((r.th - 1).toNat * 8)), (2, 16, pt B ((r.th - 1).toNat * 8)), (3, 17, vi (mAt ms (r.th - 1).toNat).t.kind), (4, 18, pt B ((r.th - 1).toNat * 8)), (5, 19, pt B ((r.th - 1).toNat * 8)), (6, 20, pt B ((r.th - 1).toNat * 8 + 1)), (7, 21, .agg #[vi (mAt ms (r.th - 1).toNat).t.lab.s, vi (mAt ms (r.th - 1).toNat).t.lab.v]), (8, 22, pt B ((r.th - 1).toNat * 8)), (9, 23, pt B ((r.th - 1).toNat * 8)), (10, 24, pt B ((r.th - 1).toNat * 8 + 7)), (11, 25, vi (mAt ms (r.th - 1).toNat).t.to), (12, 26, .tuple #[.agg #[vi (mAt ms (r.th - 1).toNat).t.kind, vi (mAt ms (r.th - 1).toNat).t.lab.s, vi (mAt ms (r.th - 1).toNat).t.lab.v, vi 0, vi 0, .slice none 0 0, .slice none 0 0, vi (mAt ms (r.th - 1).toNat).t.to], vb true]), (13, 13, .tuple #[.agg #[vi (mAt ms (r.th - 1).toNat).t.kind, vi (mAt ms (r.th - 1).toNat).t.lab.s, vi (mAt ms (r.th - 1).toNat).t.lab.v, vi 0, vi 0, .slice none 0 0, .slice none 0 0, vi (mAt ms (r.th - 1).toNat).t.to], vb true]), (14, 27, .agg #[vi (mAt ms (r.th - 1).toNat).t.kind, vi (mAt ms (r.th - 1).toNat).t.lab.s, vi (mAt ms (r.th - 1).toNat).t.lab.v, vi 0, vi 0, .slice none 0 0, .slice none 0 0, vi (mAt ms (r.th - 1).toNat).t.to]), (15, 28, vb true)]) Yy (by kernel_rfl) ⟨0, X6 _, Z, Z, Yt, Yt, J3 _⟩ ?_ ?_)))
 refine Xj (fun S F k9 hS hbef hcl hI => ?_) ?_
 obtain ⟨ab, eb, gp, dl, J, ac, hvs⟩ := hI
 exact Xb (v := pt B ((r.th - 1).toNat * 8)) dl Z (Xc ⟨ab, eb, gp, dl, J, X5 17 hS hcl Z, Vals.up 0 hvs Z Z Z⟩)
 refine Xj (fun S F la hS hbef hcl hI => ?_) ?_
 obtain ⟨ab, ed, gq, gr, J, ac, hvs⟩ := hI
 exact Xv (Vals.at 0 hvs Z (Xm 0 hbef Z)) Z (Xc ⟨ab, ed, gq, gr, J, X5 17 hS hcl Z, Vals.up 1 hvs Z Z Z⟩)
 refine Xj (fun S F lc hS hbef hcl hI => ?_) ?_
 obtain ⟨ab, ee, gt, gu, J, ac, hvs⟩ := hI
 exact Xd (o' := (r.th - 1).toNat * 8) Y9 (Vals.at 1 hvs Z (Xm 1 hbef Z)) Z Z (Xc ⟨ab, ee, gt, gu, J, X5 17 hS hcl Z, Vals.up 2 hvs Z Z Z⟩)
 refine Xj (fun S F ld hS hbef hcl hI => ?_) ?_
 obtain ⟨ab, ck, gv, gw, J, ac, hvs⟩ := hI
 exact Xh (v := vi (mAt ms (r.th - 1).toNat).t.kind) X1 (Vals.at 2 hvs Z (Xm 2 hbef Z)) ((Own.range Yo (a8.grown0 ck) (xg ms (r.th - 1).toNat)) 0 _ Z) Z (Xc ⟨ab, ck, gv, gw, J, X5 17 hS hcl Z, Vals.up 3 hvs Z Z Z⟩)
 refine Xj (fun S F le hS hbef hcl hI => ?_) ?_
 obtain ⟨ab, ef, gx, dm, J, ac, hvs⟩ := hI
 exact Xb (v := pt B ((r.th - 1).toNat * 8)) dm Z (Xc ⟨ab, ef, gx, dm, J, X5 17 hS hcl Z, Vals.up 4 hvs Z Z Z⟩)
 refine Xj (fun S F lf hS hbef hcl hI => ?_) ?_
 obtain ⟨ab, eg, gy, gz, J, ac, hvs⟩ := hI
 exact Xv (Vals.at 4 hvs Z (Xm 4 hbef Z)) Z (Xc ⟨ab, eg, gy, gz, J, X5 17 hS hcl Z, Vals.up 5 hvs Z Z Z⟩)
 refine Xj (fun S F lg hS hbef hcl hI => ?_) ?_
 obtain ⟨ab, eh, g0, g1, J, ac, hvs⟩ := hI
 exact Xd (o' := (r.th - 1).toNat * 8 + 1) Kd (Vals.at 5 hvs Z (Xm 5 hbef Z)) Z Z (Xc ⟨ab, eh, g0, g1, J, X5 17 hS hcl Z, Vals.up 6 hvs Z Z Z⟩)
 refine Xj (fun S F lh hS hbef hcl hI => ?_) ?_
 obtain ⟨ab, cl, g2, g3, J, ac, hvs⟩ := hI
 exact Xp (vs := [vi (mAt ms (r.th - 1).toNat).t.lab.s, vi (mAt ms (r.th - 1).toNat).t.lab.v]) Kb (Vals.at 6 hvs Z (Xm 6 hbef Z)) Z (Yr (Own.range Yo (a8.grown0 cl) (xg ms (r.th - 1).toNat)) 1 2 Z) Z (Xc ⟨ab, cl, g2, g3, J, X5 17 hS hcl Z, Vals.up 7 hvs Z Z Z⟩)
 refine Xj (fun S F li hS hbef hcl hI => ?_) ?_
 obtain ⟨ab, ei, g5, dn, J, ac, hvs⟩ := hI
 exact Xb (v := pt B ((r.th - 1).toNat * 8)) dn Z (Xc ⟨ab, ei, g5, dn, J, X5 17 hS hcl Z, Vals.up 8 hvs Z Z Z⟩)
 refine Xj (fun S F lj hS hbef hcl hI => ?_) ?_
 obtain ⟨ab, ej, g6, g7, J, ac, hvs⟩ := hI
 exact Xv (Vals.at 8 hvs Z (Xm 8 hbef Z)) Z (Xc ⟨ab, ej, g6, g7, J, X5 17 hS hcl Z, Vals.up 9 hvs Z Z Z⟩)
 refine Xj (fun S F lk hS hbef hcl hI => ?_) ?_
 obtain ⟨ab, ek, g8, g9, J, ac, hvs⟩ := hI
 exact Xd (o' := (r.th - 1).toNat * 8 + 7) Kk (Vals.at 9 hvs Z (Xm 9 hbef Z)) Z Z (Xc ⟨ab, ek, g8, g9, J, X5 17 hS hcl Z, Vals.up 10 hvs Z Z Z⟩)
 refine Xj (fun S F ll hS hbef hcl hI => ?_) ?_
 obtain ⟨ab, cm, ia, ib, J, ac, hvs⟩ := hI
 exact Xh (v := vi (mAt ms (r.th - 1).toNat).t.to) X1 (Vals.at 10 hvs Z (Xm 10 hbef Z)) ((Own.range Yo (a8.grown0 cm) (xg ms (r.th - 1).toNat)) 7 _ Z) Z (Xc ⟨ab, cm, ia, ib, J, X5 17 hS hcl Z, Vals.up 11 hvs Z Z Z⟩)
 refine Xj (fun S F lm hS hbef hcl hI => ?_) ?_
 obtain ⟨ab, em, ic, ie, J, ac, hvs⟩ := hI
 have kj : thingOk (⟨(mAt ms (r.th - 1).toNat).t.kind, (mAt ms (r.th - 1).toNat).t.lab, 0, 0, [], [], (mAt ms (r.th - 1).toNat).t.to⟩ : Th) = true := (Vx ak).symm.trans c8
 refine Xl Cg (Xg (Vals.at 3 hvs Z (Xm 3 hbef Z)) (Xg (Vals.at 7 hvs Z (Xm 7 hbef Z)) (Xg (Vals.at 11 hvs Z (Xm 11 hbef Z)) Xk))) Z (Ra (mAt ms (r.th - 1).toNat).t.kind (mAt ms (r.th - 1).toNat).t.to (mAt ms (r.th - 1).toNat).t.lab ak c8 _) ?_
 rintro _ ln ⟨rfl, cd⟩
 exact Xc ⟨ab, (low0 em cd), ic, ie, fun h => let ⟨jp, jq, jr, js, jt, ju⟩ := J h; ⟨jp, jq, fun hn => (jr hn).grown0 cd, js, jt, ju⟩, X5 17 hS hcl Z, Vals.up 12 hvs Z Z Z⟩
 refine Xj (fun S F lp hS hbef hcl hI => ?_) ?_
 obtain ⟨ab, eo, ig, ii, J, ac, hvs⟩ := hI
 exact Xb (v := .tuple #[.agg #[vi (mAt ms (r.th - 1).toNat).t.kind, vi (mAt ms (r.th - 1).toNat).t.lab.s, vi (mAt ms (r.th - 1).toNat).t.lab.v, vi 0, vi 0, .slice none 0 0, .slice none 0 0, vi (mAt ms (r.th - 1).toNat).t.to], vb true]) (Vals.at 12 hvs Z (Xm 12 hbef Z)) Z (Xc ⟨ab, eo, ig, ii, J, X5 17 hS hcl Z, Vals.up 13 hvs Z Z Z⟩)
 refine Xj (fun S F lu hS hbef hcl hI => ?_) ?_
 obtain ⟨ab, ep, ij, ik, J, ac, hvs⟩ := hI
 exact X4 (v := .agg #[vi (mAt ms (r.th - 1).toNat).t.kind, vi (mAt ms (r.th - 1).toNat).t.lab.s, vi (mAt ms (r.th - 1).toNat).t.lab.v, vi 0, vi 0, .slice none 0 0, .slice none 0 0, vi (mAt ms (r.th - 1).toNat).t.to]) (Vals.at 13 hvs Z (Xm 13 hbef Z)) Z Z (Xc ⟨ab, ep, ij, ik, J, X5 17 hS hcl Z, Vals.up 14 hvs Z Z Z⟩)
 refine Xj (fun S F lv hS hbef hcl hI => ?_) ?_
 obtain ⟨ab, er, il, im, J, ac, hvs⟩ := hI
 exact X4 (v := vb true) (Vals.at 13 hvs Z (Xm 13 hbef Z)) Z Z (Xc ⟨ab, er, il, im, J, ac, Vals.up 15 hvs Z Z Z⟩)
 refine Xj (fun S F lw hS hbef hcl hI => ?_) ?_
 obtain ⟨ab, az, io, ip, J, ac, hvs⟩ := hI
 refine Ye (cs := #[vi 0, vi 0, vi 0, vi 0, vi 0, .slice none 0 0, .slice none 0 0, vi 0]) Kw Z Z ?_
 intro ey lx ao
 have de := Vs ao (KeepsI.low bh az)
 have bw := Xr ao ((a8.grown0 az)).lt
 have bq := Xr ao (((hA.grown0 au).grown0 az)).lt
 exact Xc ⟨ey, (low0 az ao.grw), io, ip, fun _ => ⟨Z, de, fun _ => ao.blk, bw, bq, (nt az.size (Nat.le_of_eq ao.eq.symm))⟩, X5 17 hS hcl Z, Vals.keep hvs Z⟩
 refine Xj (fun S F ly hS hbef hcl hI => ?_) ?_
 obtain ⟨ab, eu, iq, ir, J, ac, hvs⟩ := hI
 obtain ⟨it, dc, bf, bv, bp, co⟩ := J (Xm 16 hbef rfl)
 refine X0 (vs := [vi (mAt ms (r.th - 1).toNat).t.kind, vi (mAt ms (r.th - 1).toNat).t.lab.s, vi (mAt ms (r.th - 1).toNat).t.lab.v, vi 0, vi 0, .slice none 0 0, .slice none 0 0, vi (mAt ms (r.th - 1).toNat).t.to]) (cs' := #[vi (mAt ms (r.th - 1).toNat).t.kind, vi (mAt ms (r.th - 1).toNat).t.lab.s, vi (mAt ms (r.th - 1).toNat).t.lab.v, vi 0, vi 0, .slice none 0 0, .slice none 0 0, vi (mAt ms (r.th - 1).toNat).t.to]) Y0 it (Vals.at 14 hvs Z (Xm 14 hbef Z)) Z (by simp [Value.oneCell']) (bf hS) (Nat.le_of_ble_eq_true Z) Z ?_
 intro lz ca
 exact Xc ⟨ab, (low1 eu ca.grw (by omega)), iq, ir, fun h => let ⟨jv, jw, mg, jx, jy, jz⟩ := J h; ⟨jv, jw, fun h => J8 h, jx, jy, jz⟩, fun _ => ca.blk, Vals.keep0 hvs Z⟩
 exact Q5
 intro S F l0 hall hI
 obtain ⟨ab, bk, ka, dp, J, ac, hvs⟩ := hI
 obtain ⟨dq, dc, bf, bv, bp, co⟩ := J (hall 16 (by decide))
 obtain ba := ac (hall 17 (by decide))
 refine Xe (v := vb true) (Vals.at 15 hvs Z (hall 15 (by decide))) Z (Xc (Xu (Xq (Xa (Xb (v := vb true) Z Z (Yl (b' := false) Z Z Z (Xc (Qc Z Z (Xw (Xu (Xa (Xb (v := pt B ((r.th - 1).toNat * 8)) dp Z ?_))))))))))))
 refine Xv Z Z (Xd (o' := (r.th - 1).toNat * 8 + 3) Jl Z Z Z ?_)
 have dt := (a8.grown0 bk)
 refine Xh (v := vi (mAt ms (r.th - 1).toNat).t.ve) X1 Z ((Own.range Yo dt (xg ms (r.th - 1).toNat)) 3 _ Z) Z (Yn (c := (mAt ms (r.th - 1).toNat).t.ve + 1) Z Z (by omega) (by omega) (by omega) Z (Xd (o' := 3) Jl dq Z Z (Yg (v := vi ((mAt ms (r.th - 1).toNat).t.ve + 1)) (cs' := #[vi (mAt ms (r.th - 1).toNat).t.kind, vi (mAt ms (r.th - 1).toNat).t.lab.s, vi (mAt ms (r.th - 1).toNat).t.lab.v, vi ((mAt ms (r.th - 1).toNat).t.ve + 1), vi 0, .slice none 0 0, .slice none 0 0, vi (mAt ms (r.th - 1).toNat).t.to]) X1 Z Z Z ba (Nat.le_of_ble_eq_true Z) Z ?_)))
 intro l3 bc
 refine Xc (Xa (Xb (v := pt B ((r.th - 1).toNat * 8)) dp Z (Xp (vs := [vi (mAt ms (r.th - 1).toNat).t.kind, vi (mAt ms (r.th - 1).toNat).t.lab.s, vi (mAt ms (r.th - 1).toNat).t.lab.v, vi ((mAt ms (r.th - 1).toNat).t.ve + 1), vi 0, .slice none 0 0, .slice none 0 0, vi (mAt ms (r.th - 1).toNat).t.to]) Y0 dq Z (bc.blk.rangeL 0 8 Z) Z (Xv Z Z ?_))))
 have cv := (dt.gn bc.grw)
 refine Je (g := MTh.cells) (z' := (⟨⟨(mAt ms (r.th - 1).toNat).t.kind, (mAt ms (r.th - 1).toNat).t.lab, (mAt ms (r.th - 1).toNat).t.ve + 1, 0, [], [], (mAt ms (r.th - 1).toNat).t.to⟩, none, 0, none, 0⟩ : MTh)) Y0 Z Z (Kv _) Yo cv (by omega) Z ?_
 intro iy dx ce
 have cz : RowsO 42 3 lo iy (ms.set (r.th - 1).toNat (⟨⟨(mAt ms (r.th - 1).toNat).t.kind, (mAt ms (r.th - 1).toNat).t.lab, (mAt ms (r.th - 1).toNat).t.ve + 1, 0, [], [], (mAt ms (r.th - 1).toNat).t.to⟩, none, 0, none, 0⟩ : MTh)) := RowsO.setn (RowsO.own (RowsO.typB (RowsO.low (RowsO.low hR au) bk) bc.grw ba (by decide) (by decide)) ce cv (by decide) (by decide)) (lq (r.th - 1).toNat ms.length) ⟨OwnN.nil, OwnN.nil⟩ hH (fun S e => by first | (cases e; done) | (simp only [Option.some.injEq, Addr.mk.injEq, and_true, reduceCtorEq] at e; omega))
 refine Xc (Xa (Xe (v := vi 0) Z Z (Xc (Xt ?_))))
 have hf : far (tabT ms) q r = (tabT (ms.set (r.th - 1).toNat (⟨⟨(mAt ms (r.th - 1).toNat).t.kind, (mAt ms (r.th - 1).toNat).t.lab, (mAt ms (r.th - 1).toNat).t.ve + 1, 0, [], [], (mAt ms (r.th - 1).toNat).t.to⟩, none, 0, none, 0⟩ : MTh)), 0) := T1 hq (by omega) (Nu ak)
 exact ⟨vi 0, Yp Z Z, ms.set (r.th - 1).toNat (⟨⟨(mAt ms (r.th - 1).toNat).t.kind, (mAt ms (r.th - 1).toNat).t.lab, (mAt ms (r.th - 1).toNat).t.ve + 1, 0, [], [], (mAt ms (r.th - 1).toNat).t.to⟩, none, 0, none, 0⟩ : MTh), by rw [hf], by first | rfl | exact Yd | (simp only [List.length_set, Yd]), dx, cz, by rw [hf], (KeepsI.own (KeepsI.new (KeepsI.low bh bk) bc.grw (by omega)) ce cv (by decide) (by omega) (by omega))⟩
theorem Iv (q : Cl) (r : Rt) (lo B cap : Nat) (ms : List MTh) (w : World) (hB : Dw.Own w B 38 8 cap ms.length (ms.flatMap MTh.cells)) (hR : RowsO 42 3 lo w ms) (hlo : lo ≤ B) (hi : Nat) (hH : HiO hi ms) (hBlt : B < hi) (hhi : hi ≤ w.heap.size) (hF : FarOk (tabT ms) q r) (A : Nat) (hA : Blk w A 57 #[.slice (pa B) ms.length cap, vi q.kind, vi q.run, vi q.a, vi q.b, vi q.n, vi r.th, vi r.ve, vb r.rd, vb r.wr, vb r.wk]) (hAhi : hi ≤ A) (hq : decide (q.kind = 9) = true) : CallsR Tryz.prog 98 #[pt A 0] w (fun v w' => ∃ ms' : List MTh, v = vi (far (tabT ms) q r).2 ∧ ms'.length = ms.length ∧ Dw.Own w' B 38 8 cap ms'.length (ms'.flatMap MTh.cells) ∧ RowsO 42 3 lo w' ms' ∧ tabT ms' = (far (tabT ms) q r).1 ∧ KeepsI lo hi [38, 42, 3] w w') := by
 refine Xx (n := 32) Tryz.func98 Z Tryz.ntmps98 Z ?_
 have an : KeepsI lo hi [38, 42, 3] w w := KeepsI.refl w
 have hlow : lo ≤ w.heap.size := by omega
 have hT := hF.tab
 have hco := Yq hF.call
 have hkp := (Y3 hF.run).1
 have h4 := Qp hT hF.run
 have hth := hF.th
 rw [Qd] at hth
 have hml := Jb hT
 have hkd := Q0 hF.kind hco.1
 rw [← Qw] at hkd
 have hrow := Ju hT (i := (r.th - 1).toNat) (by omega)
 have hln := TabLen.ok hT _ (List.mem_of_getElem? (xg ms (r.th - 1).toNat))
 have hcp := hF.copy
 have hve := Uu hrow
 have ao := of_decide_eq_true hq
 have aj := Y3 (Uz hT (by rw [Qd]; omega) (by rw [← Qw]; omega))
 rw [← Qw] at aj
 have hqk := of_decide_eq_true hq
 have G : ¬ ((mAt ms (r.th - 1).toNat).t.to - 1).toNat = (r.th - 1).toNat := fun e => by have h := aj.2; rw [e] at h; omega
 refine Xa (Xe (v := vi 0) Z Z (Xc (Xa (Xb (v := pt A 0) Z Z (Xl Vr (Xg Z Xk) Z (Kp q r B cap _ _ hB (by first | omega | (simp only [List.length_set, Yd]; omega)) A hA (by first | omega | (simp only [List.length_set, Yd]; omega))) ?_)))))
 rintro _ ak ⟨rfl, E⟩
 refine Xe (v := pt B ((r.th - 1).toNat * 8)) Z Z (Xc (Xq (Yw (m := 15) (vals := [(6, pt A 0), (7, pt A 0), (8, pt A 0), (9, .slice (pa B) ms.length cap), (10, pt B ((r.th - 1).toNat * 8)), (11, pt B ((r.th - 1).toNat * 8)), (12, pt B ((r.th - 1).toNat * 8 + 7)), (13, vi (mAt ms (r.th - 1).toNat).t.to), (14, vi ((mAt ms (r.th - 1).toNat).t.to - 1)), (15, pt A 0), (16, pt A 0), (17, pt A 1), (18, pt A 5), (19, vi q.n), (20, vi (q.n % 2))]) (fun w' => ak.grownBy w' none) Yy (by kernel_rfl) (X6 _) ?_ ?_)))
 refine yl Z (fun _ _ k => Xb (v := pt A 0) Z Z k) (yl Z (fun _ _ k => Xv Z Z k) (yl Z (fun _ _ k => Xd (o' := 0) Gk Z Z Z k) (yl Z (fun _ ag k => Xh (v := .slice (pa B) ms.length cap) U0 Z (((hA.grown0 E).grown0 ag).cell Z) Z k) (yl Z (fun _ _ k => Xb (v := pt B ((r.th - 1).toNat * 8)) Z Z k) (yl Z (fun _ _ k => Xv Z Z k) (yl Z (fun _ _ k => Xd (o' := (r.th - 1).toNat * 8 + 7) Kk Z Z Z k) (yl Z (fun _ ah k => Xh (v := vi (mAt ms (r.th - 1).toNat).t.to) X1 Z ((Own.range Yo ((hB.grown0 E).grown0 ah) (xg ms (r.th - 1).toNat)) 7 _ Z) Z k) (yl Z (fun _ _ k => Ys (c := (mAt ms (r.th - 1).toNat).t.to - 1) Z Z (by omega) (by omega) (by omega) Z k) (yl Z (fun _ _ k => Xb (v := pt A 0) Z Z k) (yl Z (fun _ _ k => Xv Z Z k) ?_))))))))))
 exact yl Z (fun _ _ k => Xd (o' := 1) Ks Z Z Z k) (yl Z (fun _ _ k => Xd (o' := 5) Jk Z Z Z k) (yl Z (fun _ ai k => Xh (v := vi q.n) X1 Z (((hA.grown0 E).grown0 ai).cell Z) Z k) (yl Z (fun _ _ k => Q8 (c := q.n % 2) Z Z (by omega) (by omega) (by omega) Z Z k) Y5)))
 intro ap O
 refine Yb (o' := ((mAt ms (r.th - 1).toNat).t.to - 1).toNat * 8) Y2 Z Z (by omega) (by omega) (by omega) Z (Xd (o' := ((mAt ms (r.th - 1).toNat).t.to - 1).toNat * 8 + 4) Q6 Z Z Z ?_)
 have ac := ((hB.grown0 E).grown0 O)
 refine Jj (g := MTh.cells) (j := 4) (z := (mAt ms ((mAt ms (r.th - 1).toNat).t.to - 1).toNat)) (z' := (⟨⟨(mAt ms ((mAt ms (r.th - 1).toNat).t.to - 1).toNat).t.kind, (mAt ms ((mAt ms (r.th - 1).toNat).t.to - 1).toNat).t.lab, (mAt ms ((mAt ms (r.th - 1).toNat).t.to - 1).toNat).t.ve, q.n % 2, (mAt ms ((mAt ms (r.th - 1).toNat).t.to - 1).toNat).t.slots, (mAt ms ((mAt ms (r.th - 1).toNat).t.to - 1).toNat).t.queue, (mAt ms ((mAt ms (r.th - 1).toNat).t.to - 1).toNat).t.to⟩, (mAt ms ((mAt ms (r.th - 1).toNat).t.to - 1).toNat).sa, (mAt ms ((mAt ms (r.th - 1).toNat).t.to - 1).toNat).sc, (mAt ms ((mAt ms (r.th - 1).toNat).t.to - 1).toNat).qa, (mAt ms ((mAt ms (r.th - 1).toNat).t.to - 1).toNat).qc⟩ : MTh)) (v := vi (q.n % 2)) X1 Z Z Z Yo ac (xg ms ((mAt ms (r.th - 1).toNat).t.to - 1).toNat) (by omega) Z Z ?_
 intro al J V
 have ad : RowsO 42 3 lo al (ms.set ((mAt ms (r.th - 1).toNat).t.to - 1).toNat (⟨⟨(mAt ms ((mAt ms (r.th - 1).toNat).t.to - 1).toNat).t.kind, (mAt ms ((mAt ms (r.th - 1).toNat).t.to - 1).toNat).t.lab, (mAt ms ((mAt ms (r.th - 1).toNat).t.to - 1).toNat).t.ve, q.n % 2, (mAt ms ((mAt ms (r.th - 1).toNat).t.to - 1).toNat).t.slots, (mAt ms ((mAt ms (r.th - 1).toNat).t.to - 1).toNat).t.queue, (mAt ms ((mAt ms (r.th - 1).toNat).t.to - 1).toNat).t.to⟩, (mAt ms ((mAt ms (r.th - 1).toNat).t.to - 1).toNat).sa, (mAt ms ((mAt ms (r.th - 1).toNat).t.to - 1).toNat).sc, (mAt ms ((mAt ms (r.th - 1).toNat).t.to - 1).toNat).qa, (mAt ms ((mAt ms (r.th - 1).toNat).t.to - 1).toNat).qc⟩ : MTh)) := RowsO.set (RowsO.own (RowsO.low (RowsO.low hR E) O) V ac (by decide) (by decide)) (lq ((mAt ms (r.th - 1).toNat).t.to - 1).toNat ms.length) ⟨rfl, rfl, rfl⟩ ⟨rfl, rfl, rfl⟩
 refine Xc (Xu (Xa (Xb (v := pt B ((r.th - 1).toNat * 8)) Z Z (Xb (v := pt B ((r.th - 1).toNat * 8)) Z Z (Xv Z Z (Xd (o' := (r.th - 1).toNat * 8 + 4) Q6 Z Z Z (Xh (v := vi (mAt ms (r.th - 1).toNat).t.num) X1 Z ((Own.range Yo J (G1 (lq (r.th - 1).toNat ms.length) G)) 4 _ Z) Z (Yn (c := (mAt ms (r.th - 1).toNat).t.num + 1) Z Z (by omega) (by omega) (by omega) Z (Mg (c := min ((mAt ms (r.th - 1).toNat).t.num + 1) 99) Z Z Z Z (Xv Z Z (Xd (o' := (r.th - 1).toNat * 8 + 4) Q6 Z Z Z (Jj (g := MTh.cells) (j := 4) (z := (mAt ms (r.th - 1).toNat)) (z' := (⟨⟨(mAt ms (r.th - 1).toNat).t.kind, (mAt ms (r.th - 1).toNat).t.lab, (mAt ms (r.th - 1).toNat).t.ve, min ((mAt ms (r.th - 1).toNat).t.num + 1) 99, (mAt ms (r.th - 1).toNat).t.slots, (mAt ms (r.th - 1).toNat).t.queue, (mAt ms (r.th - 1).toNat).t.to⟩, (mAt ms (r.th - 1).toNat).sa, (mAt ms (r.th - 1).toNat).sc, (mAt ms (r.th - 1).toNat).qa, (mAt ms (r.th - 1).toNat).qc⟩ : MTh)) (v := vi (min ((mAt ms (r.th - 1).toNat).t.num + 1) 99)) X1 Z Z Z Yo J (G1 (lq (r.th - 1).toNat ms.length) G) (by omega) Z Z ?_))))))))))))
 intro am af ab
 have ae : RowsO 42 3 lo am ((ms.set ((mAt ms (r.th - 1).toNat).t.to - 1).toNat (⟨⟨(mAt ms ((mAt ms (r.th - 1).toNat).t.to - 1).toNat).t.kind, (mAt ms ((mAt ms (r.th - 1).toNat).t.to - 1).toNat).t.lab, (mAt ms ((mAt ms (r.th - 1).toNat).t.to - 1).toNat).t.ve, q.n % 2, (mAt ms ((mAt ms (r.th - 1).toNat).t.to - 1).toNat).t.slots, (mAt ms ((mAt ms (r.th - 1).toNat).t.to - 1).toNat).t.queue, (mAt ms ((mAt ms (r.th - 1).toNat).t.to - 1).toNat).t.to⟩, (mAt ms ((mAt ms (r.th - 1).toNat).t.to - 1).toNat).sa, (mAt ms ((mAt ms (r.th - 1).toNat).t.to - 1).toNat).sc, (mAt ms ((mAt ms (r.th - 1).toNat).t.to - 1).toNat).qa, (mAt ms ((mAt ms (r.th - 1).toNat).t.to - 1).toNat).qc⟩ : MTh)).set (r.th - 1).toNat (⟨⟨(mAt ms (r.th - 1).toNat).t.kind, (mAt ms (r.th - 1).toNat).t.lab, (mAt ms (r.th - 1).toNat).t.ve, min ((mAt ms (r.th - 1).toNat).t.num + 1) 99, (mAt ms (r.th - 1).toNat).t.slots, (mAt ms (r.th - 1).toNat).t.queue, (mAt ms (r.th - 1).toNat).t.to⟩, (mAt ms (r.th - 1).toNat).sa, (mAt ms (r.th - 1).toNat).sc, (mAt ms (r.th - 1).toNat).qa, (mAt ms (r.th - 1).toNat).qc⟩ : MTh)) := RowsO.set (RowsO.own ad ab J (by decide) (by decide)) (show (r.th - 1).toNat < (ms.set ((mAt ms (r.th - 1).toNat).t.to - 1).toNat (⟨⟨(mAt ms ((mAt ms (r.th - 1).toNat).t.to - 1).toNat).t.kind, (mAt ms ((mAt ms (r.th - 1).toNat).t.to - 1).toNat).t.lab, (mAt ms ((mAt ms (r.th - 1).toNat).t.to - 1).toNat).t.ve, q.n % 2, (mAt ms ((mAt ms (r.th - 1).toNat).t.to - 1).toNat).t.slots, (mAt ms ((mAt ms (r.th - 1).toNat).t.to - 1).toNat).t.queue, (mAt ms ((mAt ms (r.th - 1).toNat).t.to - 1).toNat).t.to⟩, (mAt ms ((mAt ms (r.th - 1).toNat).t.to - 1).toNat).sa, (mAt ms ((mAt ms (r.th - 1).toNat).t.to - 1).toNat).sc, (mAt ms ((mAt ms (r.th - 1).toNat).t.to - 1).toNat).qa, (mAt ms ((mAt ms (r.th - 1).toNat).t.to - 1).toNat).qc⟩ : MTh)).length by (simp only [List.length_set, Yd]; omega)) ⟨Gl (f := MTh.qa) (lq (r.th - 1).toNat ms.length) G, Gl (f := MTh.qc) (lq (r.th - 1).toNat ms.length) G, Gl (f := (fun m => m.t.queue)) (lq (r.th - 1).toNat ms.length) G⟩ ⟨Gl (f := MTh.sa) (lq (r.th - 1).toNat ms.length) G, Gl (f := MTh.sc) (lq (r.th - 1).toNat ms.length) G, Gl (f := (fun m => m.t.slots)) (lq (r.th - 1).toNat ms.length) G⟩
 refine Xc (Xa (Xe (v := vi 0) Z Z (Xc (Xt ?_))))
 have hf : far (tabT ms) q r = (tabT ((ms.set ((mAt ms (r.th - 1).toNat).t.to - 1).toNat (⟨⟨(mAt ms ((mAt ms (r.th - 1).toNat).t.to - 1).toNat).t.kind, (mAt ms ((mAt ms (r.th - 1).toNat).t.to - 1).toNat).t.lab, (mAt ms ((mAt ms (r.th - 1).toNat).t.to - 1).toNat).t.ve, q.n % 2, (mAt ms ((mAt ms (r.th - 1).toNat).t.to - 1).toNat).t.slots, (mAt ms ((mAt ms (r.th - 1).toNat).t.to - 1).toNat).t.queue, (mAt ms ((mAt ms (r.th - 1).toNat).t.to - 1).toNat).t.to⟩, (mAt ms ((mAt ms (r.th - 1).toNat).t.to - 1).toNat).sa, (mAt ms ((mAt ms (r.th - 1).toNat).t.to - 1).toNat).sc, (mAt ms ((mAt ms (r.th - 1).toNat).t.to - 1).toNat).qa, (mAt ms ((mAt ms (r.th - 1).toNat).t.to - 1).toNat).qc⟩ : MTh)).set (r.th - 1).toNat (⟨⟨(mAt ms (r.th - 1).toNat).t.kind, (mAt ms (r.th - 1).toNat).t.lab, (mAt ms (r.th - 1).toNat).t.ve, min ((mAt ms (r.th - 1).toNat).t.num + 1) 99, (mAt ms (r.th - 1).toNat).t.slots, (mAt ms (r.th - 1).toNat).t.queue, (mAt ms (r.th - 1).toNat).t.to⟩, (mAt ms (r.th - 1).toNat).sa, (mAt ms (r.th - 1).toNat).sc, (mAt ms (r.th - 1).toNat).qa, (mAt ms (r.th - 1).toNat).qc⟩ : MTh)), 0) := Fk hq rfl rfl
 exact ⟨vi 0, Yp Z Z, (ms.set ((mAt ms (r.th - 1).toNat).t.to - 1).toNat (⟨⟨(mAt ms ((mAt ms (r.th - 1).toNat).t.to - 1).toNat).t.kind, (mAt ms ((mAt ms (r.th - 1).toNat).t.to - 1).toNat).t.lab, (mAt ms ((mAt ms (r.th - 1).toNat).t.to - 1).toNat).t.ve, q.n % 2, (mAt ms ((mAt ms (r.th - 1).toNat).t.to - 1).toNat).t.slots, (mAt ms ((mAt ms (r.th - 1).toNat).t.to - 1).toNat).t.queue, (mAt ms ((mAt ms (r.th - 1).toNat).t.to - 1).toNat).t.to⟩, (mAt ms ((mAt ms (r.th - 1).toNat).t.to - 1).toNat).sa, (mAt ms ((mAt ms (r.th - 1).toNat).t.to - 1).toNat).sc, (mAt ms ((mAt ms (r.th - 1).toNat).t.to - 1).toNat).qa, (mAt ms ((mAt ms (r.th - 1).toNat).t.to - 1).toNat).qc⟩ : MTh)).set (r.th - 1).toNat (⟨⟨(mAt ms (r.th - 1).toNat).t.kind, (mAt ms (r.th - 1).toNat).t.lab, (mAt ms (r.th - 1).toNat).t.ve, min ((mAt ms (r.th - 1).toNat).t.num + 1) 99, (mAt ms (r.th - 1).toNat).t.slots, (mAt ms (r.th - 1).toNat).t.queue, (mAt ms (r.th - 1).toNat).t.to⟩, (mAt ms (r.th - 1).toNat).sa, (mAt ms (r.th - 1).toNat).sc, (mAt ms (r.th - 1).toNat).qa, (mAt ms (r.th - 1).toNat).qc⟩ : MTh), by rw [hf], by first | rfl | exact Yd | (simp only [List.length_set, Yd]), af, ae, by rw [hf], (KeepsI.own (KeepsI.own (KeepsI.low (KeepsI.low an E) O) V ac (by decide) (by omega) (by omega)) ab J (by decide) (by omega) (by omega))⟩
end Go.Proofs.YtjpgffmkcmcolaaGreatDoor
end
section
namespace Go.Proofs.YtjpgffmkcmcolaaGreatDoor
open Go.RowKit Go.Dw
set_option maxRecDepth 100000
set_option maxHeartbeats 4000000
set_option linter.unusedSimpArgs false
set_option linter.unusedVariables false
theorem Vq : arrTy Tryz.prog 147 = some (3, 3, 1) := by kernel_rfl
theorem Ko : fieldOff Tryz.prog 149 0 = some 0 := by kernel_rfl
theorem Jz : fieldOff Tryz.prog 149 1 = some 3 := by kernel_rfl
theorem Jc : fieldOff Tryz.prog 149 2 = some 4 := by kernel_rfl
theorem C5 (n : Int) (x y z : Int) (R : Nat) (w : World) (hR : Blk w R 149 #[vi x, vi y, vi z, vi 0, vi 0]) : CallsR Tryz.prog 108 #[pt R 0, vi n] w (fun v w' => v = vb true ∧ Blk w' R 149 #[vi n, vi y, vi z, vi 0, vi 1] ∧ w.grownBy w' (some R)) := by
 refine Xx (n := 32) Tryz.func108 Z Tryz.ntmps108 Z (Xa (Xe (v := vb false) Z Z (Xc (Xq (Xa (Xb (v := pt R 0) Z Z (Xv Z Z (Xd (o' := 4) Jc Z Z Z (Xh (v := vi 0) X1 Z (hR.cell Z) Z (X3 (q := false) Z Z (by decide) Z (Xc (Qc Z Z ?_))))))))))))
 refine Xw (Xu (Xq (Yw (m := 14) (vals := [(10, pt R 0), (11, pt R 0), (12, pt R 0), (13, pt R 3), (14, vi 0), (15, pt R 0), (16, pt R 0), (17, pt R 4), (18, vi 0), (19, vi 0), (20, vi 0), (21, vi n), (22, pt R 0), (23, pt R 0)]) (fun w' => w.grownBy w' none) Yy (by kernel_rfl) (X6 _) ?_ ?_)))
 refine yl Z (fun _ _ k => Xb (v := pt R 0) Z Z k) (yl Z (fun _ _ k => Xb (v := pt R 0) Z Z k) (yl Z (fun _ _ k => Xv Z Z k) (yl Z (fun _ _ k => Xd (o' := 3) Jz Z Z Z k) (yl Z (fun _ O k => Xh (v := vi 0) X1 Z ((hR.grown0 O).cell Z) Z k) (yl Z (fun _ _ k => Xb (v := pt R 0) Z Z k) (yl Z (fun _ _ k => Xv Z Z k) (yl Z (fun _ _ k => Xd (o' := 4) Jc Z Z Z k) (yl Z (fun _ V k => Xh (v := vi 0) X1 Z ((hR.grown0 V).cell Z) Z k) (yl Z (fun _ _ k => Yn (c := 0) Z Z (by omega) (by omega) (by omega) Z k) (yl Z (fun _ _ k => Q8 (c := 0) Z Z (by omega) (by omega) (by omega) Z Z k) ?_))))))))))
 exact yl Z (fun _ _ k => Xb (v := vi n) Z Z k) (yl Z (fun _ _ k => Xv Z Z k) (yl Z (fun _ _ k => Xd (o' := 0) Ko Z Z Z k) Y5))
 intro ab J
 refine Qr (o' := 0) Vq Z Z (by decide) (by decide) Z Z (Yg (v := vi n) (cs' := #[vi n, vi y, vi z, vi 0, vi 0]) X1 Z Z Z (hR.grown0 J) (Nat.le_of_ble_eq_true Z) Z ?_)
 intro ac E
 refine Xc (Xu (Xa (Xb (v := pt R 0) Z Z (Xv Z Z (Xd (o' := 4) Jc Z Z Z (Xh (v := vi 0) X1 Z (E.blk.cell Z) Z (Yn (c := 1) Z Z (by omega) (by omega) (by omega) Z (Xv Z Z (Xd (o' := 4) Jc Z Z Z (Yg (v := vi 1) (cs' := #[vi n, vi y, vi z, vi 0, vi 1]) X1 Z Z Z E.blk (Nat.le_of_ble_eq_true Z) Z ?_))))))))))
 intro ad G
 exact Xc (Xa (Xe (v := vb true) Z Z (Xc (Xt (⟨vb true, Yp Z Z, Z, G.blk, (grown_trans (grown_trans (low0 (World.grownBy.refl w (some R)) J) E.grw) G.grw)⟩)))))
theorem Xaa (x y z : Int) (R : Nat) (w : World) (hR : Blk w R 149 #[vi x, vi y, vi z, vi 0, vi 0]) : CallsR Tryz.prog 110 #[pt R 0] w (fun v w' => v = .tuple #[vi 0, vb false] ∧ Blk w' R 149 #[vi x, vi y, vi z, vi 0, vi 0] ∧ w.grownBy w' (some R)) := by
 refine Xx (n := 36) Tryz.func110 Z Tryz.ntmps110 Z (Xa (Xe (v := vi 0) Z Z (Xe (v := vb false) Z Z (Xc (Xq (Xa (Xb (v := pt R 0) Z Z (Xv Z Z (Xd (o' := 4) Jc Z Z Z (Xh (v := vi 0) X1 Z (hR.cell Z) Z (X3 (q := true) Z Z (by decide) Z (Xc ?_))))))))))))
 exact Qg Z Z (Xa (Xe (v := vi 0) Z Z (Xe (v := vb false) Z Z (Xc (Xt (Yk (⟨.tuple #[vi 0, vb false], G9 Z Z Z, Z, hR, (World.grownBy.refl w (some R))⟩)))))))
theorem C6 (n : Int) (x y z : Int) (R : Nat) (w : World) (hR : Blk w R 149 #[vi x, vi y, vi z, vi 0, vi 1]) : CallsR Tryz.prog 108 #[pt R 0, vi n] w (fun v w' => v = vb true ∧ Blk w' R 149 #[vi x, vi n, vi z, vi 0, vi 2] ∧ w.grownBy w' (some R)) := by
 refine Xx (n := 32) Tryz.func108 Z Tryz.ntmps108 Z (Xa (Xe (v := vb false) Z Z (Xc (Xq (Xa (Xb (v := pt R 0) Z Z (Xv Z Z (Xd (o' := 4) Jc Z Z Z (Xh (v := vi 1) X1 Z (hR.cell Z) Z (X3 (q := false) Z Z (by decide) Z (Xc (Qc Z Z ?_))))))))))))
 refine Xw (Xu (Xq (Yw (m := 14) (vals := [(10, pt R 0), (11, pt R 0), (12, pt R 0), (13, pt R 3), (14, vi 0), (15, pt R 0), (16, pt R 0), (17, pt R 4), (18, vi 1), (19, vi 1), (20, vi 1), (21, vi n), (22, pt R 0), (23, pt R 0)]) (fun w' => w.grownBy w' none) Yy (by kernel_rfl) (X6 _) ?_ ?_)))
 refine yl Z (fun _ _ k => Xb (v := pt R 0) Z Z k) (yl Z (fun _ _ k => Xb (v := pt R 0) Z Z k) (yl Z (fun _ _ k => Xv Z Z k) (yl Z (fun _ _ k => Xd (o' := 3) Jz Z Z Z k) (yl Z (fun _ O k => Xh (v := vi 0) X1 Z ((hR.grown0 O).cell Z) Z k) (yl Z (fun _ _ k => Xb (v := pt R 0) Z Z k) (yl Z (fun _ _ k => Xv Z Z k) (yl Z (fun _ _ k => Xd (o' := 4) Jc Z Z Z k) (yl Z (fun _ V k => Xh (v := vi 1) X1 Z ((hR.grown0 V).cell Z) Z k) (yl Z (fun _ _ k => Yn (c := 1) Z Z (by omega) (by omega) (by omega) Z k) (yl Z (fun _ _ k => Q8 (c := 1) Z Z (by omega) (by omega) (by omega) Z Z k) ?_))))))))))
 exact yl Z (fun _ _ k => Xb (v := vi n) Z Z k) (yl Z (fun _ _ k => Xv Z Z k) (yl Z (fun _ _ k => Xd (o' := 0) Ko Z Z Z k) Y5))
 intro ab J
 refine Qr (o' := 1) Vq Z Z (by decide) (by decide) Z Z (Yg (v := vi n) (cs' := #[vi x, vi n, vi z, vi 0, vi 1]) X1 Z Z Z (hR.grown0 J) (Nat.le_of_ble_eq_true Z) Z ?_)
 intro ac E
 refine Xc (Xu (Xa (Xb (v := pt R 0) Z Z (Xv Z Z (Xd (o' := 4) Jc Z Z Z (Xh (v := vi 1) X1 Z (E.blk.cell Z) Z (Yn (c := 2) Z Z (by omega) (by omega) (by omega) Z (Xv Z Z (Xd (o' := 4) Jc Z Z Z (Yg (v := vi 2) (cs' := #[vi x, vi n, vi z, vi 0, vi 2]) X1 Z Z Z E.blk (Nat.le_of_ble_eq_true Z) Z ?_))))))))))
 intro ad G
 exact Xc (Xa (Xe (v := vb true) Z Z (Xc (Xt (⟨vb true, Yp Z Z, Z, G.blk, (grown_trans (grown_trans (low0 (World.grownBy.refl w (some R)) J) E.grw) G.grw)⟩)))))
theorem Xab (x y z : Int) (R : Nat) (w : World) (hR : Blk w R 149 #[vi x, vi y, vi z, vi 0, vi 1]) : CallsR Tryz.prog 110 #[pt R 0] w (fun v w' => v = .tuple #[vi x, vb true] ∧ Blk w' R 149 #[vi x, vi y, vi z, vi 1, vi 0] ∧ w.grownBy w' (some R)) := by
 refine Xx (n := 36) Tryz.func110 Z Tryz.ntmps110 Z (Xa (Xe (v := vi 0) Z Z (Xe (v := vb false) Z Z (Xc (Xq (Xa (Xb (v := pt R 0) Z Z (Xv Z Z (Xd (o' := 4) Jc Z Z Z (Xh (v := vi 1) X1 Z (hR.cell Z) Z (X3 (q := false) Z Z (by decide) Z (Xc ?_))))))))))))
 refine Qc Z Z (Xw (Xu (Xq (Yw (m := 7) (vals := [(10, pt R 0), (11, pt R 0), (12, pt R 0), (13, pt R 3), (14, vi 0), (15, pt R 0), (16, pt R 0)]) (fun w' => w.grownBy w' none) Yy (by kernel_rfl) (X6 _) ?_ ?_))))
 exact yl Z (fun _ _ k => Xb (v := pt R 0) Z Z k) (yl Z (fun _ _ k => Xb (v := pt R 0) Z Z k) (yl Z (fun _ _ k => Xv Z Z k) (yl Z (fun _ _ k => Xd (o' := 3) Jz Z Z Z k) (yl Z (fun _ V k => Xh (v := vi 0) X1 Z ((hR.grown0 V).cell Z) Z k) (yl Z (fun _ _ k => Xv Z Z k) (yl Z (fun _ _ k => Xd (o' := 0) Ko Z Z Z k) Y5))))))
 intro ab J
 refine Qr (o' := 0) Vq Z Z (by decide) (by decide) Z Z ?_
 have O := (hR.grown0 J)
 refine Xh (v := vi x) X1 Z (O.cell Z) Z (Xe (v := vi x) Z Z (Xc (Xu (Xa (Xb (v := pt R 0) Z Z (Xb (v := pt R 0) Z Z (Xv Z Z (Xd (o' := 3) Jz Z Z Z (Xh (v := vi 0) X1 Z (O.cell Z) Z (Yn (c := 1) Z Z (by omega) (by omega) (by omega) Z (Q8 (c := 1) Z Z (by omega) (by omega) (by omega) Z Z (Xv Z Z ?_))))))))))))
 refine Xd (o' := 3) Jz Z Z Z (Yg (v := vi 1) (cs' := #[vi x, vi y, vi z, vi 1, vi 1]) X1 Z Z Z O (Nat.le_of_ble_eq_true Z) Z ?_)
 intro ac E
 refine Xc (Xa (Xb (v := pt R 0) Z Z (Xv Z Z (Xd (o' := 4) Jc Z Z Z (Xh (v := vi 1) X1 Z (E.blk.cell Z) Z (Ys (c := 0) Z Z (by omega) (by omega) (by omega) Z (Xv Z Z (Xd (o' := 4) Jc Z Z Z (Yg (v := vi 0) (cs' := #[vi x, vi y, vi z, vi 1, vi 0]) X1 Z Z Z E.blk (Nat.le_of_ble_eq_true Z) Z ?_)))))))))
 intro ad G
 exact Xc (Xa (Xb (v := vi x) Z Z (Xe (v := vi x) Z Z (Xe (v := vb true) Z Z (Xc (Xt (⟨.tuple #[vi x, vb true], G9 Z Z Z, Z, G.blk, (grown_trans (grown_trans (low0 (World.grownBy.refl w (some R)) J) E.grw) G.grw)⟩)))))))
theorem C7 (n : Int) (x y z : Int) (R : Nat) (w : World) (hR : Blk w R 149 #[vi x, vi y, vi z, vi 0, vi 2]) : CallsR Tryz.prog 108 #[pt R 0, vi n] w (fun v w' => v = vb true ∧ Blk w' R 149 #[vi x, vi y, vi n, vi 0, vi 3] ∧ w.grownBy w' (some R)) := by
 refine Xx (n := 32) Tryz.func108 Z Tryz.ntmps108 Z (Xa (Xe (v := vb false) Z Z (Xc (Xq (Xa (Xb (v := pt R 0) Z Z (Xv Z Z (Xd (o' := 4) Jc Z Z Z (Xh (v := vi 2) X1 Z (hR.cell Z) Z (X3 (q := false) Z Z (by decide) Z (Xc (Qc Z Z ?_))))))))))))
 refine Xw (Xu (Xq (Yw (m := 14) (vals := [(10, pt R 0), (11, pt R 0), (12, pt R 0), (13, pt R 3), (14, vi 0), (15, pt R 0), (16, pt R 0), (17, pt R 4), (18, vi 2), (19, vi 2), (20, vi 2), (21, vi n), (22, pt R 0), (23, pt R 0)]) (fun w' => w.grownBy w' none) Yy (by kernel_rfl) (X6 _) ?_ ?_)))
 refine yl Z (fun _ _ k => Xb (v := pt R 0) Z Z k) (yl Z (fun _ _ k => Xb (v := pt R 0) Z Z k) (yl Z (fun _ _ k => Xv Z Z k) (yl Z (fun _ _ k => Xd (o' := 3) Jz Z Z Z k) (yl Z (fun _ O k => Xh (v := vi 0) X1 Z ((hR.grown0 O).cell Z) Z k) (yl Z (fun _ _ k => Xb (v := pt R 0) Z Z k) (yl Z (fun _ _ k => Xv Z Z k) (yl Z (fun _ _ k => Xd (o' := 4) Jc Z Z Z k) (yl Z (fun _ V k => Xh (v := vi 2) X1 Z ((hR.grown0 V).cell Z) Z k) (yl Z (fun _ _ k => Yn (c := 2) Z Z (by omega) (by omega) (by omega) Z k) (yl Z (fun _ _ k => Q8 (c := 2) Z Z (by omega) (by omega) (by omega) Z Z k) ?_))))))))))
 exact yl Z (fun _ _ k => Xb (v := vi n) Z Z k) (yl Z (fun _ _ k => Xv Z Z k) (yl Z (fun _ _ k => Xd (o' := 0) Ko Z Z Z k) Y5))
 intro ab J
 refine Qr (o' := 2) Vq Z Z (by decide) (by decide) Z Z (Yg (v := vi n) (cs' := #[vi x, vi y, vi n, vi 0, vi 2]) X1 Z Z Z (hR.grown0 J) (Nat.le_of_ble_eq_true Z) Z ?_)
 intro ac E
 refine Xc (Xu (Xa (Xb (v := pt R 0) Z Z (Xv Z Z (Xd (o' := 4) Jc Z Z Z (Xh (v := vi 2) X1 Z (E.blk.cell Z) Z (Yn (c := 3) Z Z (by omega) (by omega) (by omega) Z (Xv Z Z (Xd (o' := 4) Jc Z Z Z (Yg (v := vi 3) (cs' := #[vi x, vi y, vi n, vi 0, vi 3]) X1 Z Z Z E.blk (Nat.le_of_ble_eq_true Z) Z ?_))))))))))
 intro ad G
 exact Xc (Xa (Xe (v := vb true) Z Z (Xc (Xt (⟨vb true, Yp Z Z, Z, G.blk, (grown_trans (grown_trans (low0 (World.grownBy.refl w (some R)) J) E.grw) G.grw)⟩)))))
theorem Xac (x y z : Int) (R : Nat) (w : World) (hR : Blk w R 149 #[vi x, vi y, vi z, vi 0, vi 2]) : CallsR Tryz.prog 110 #[pt R 0] w (fun v w' => v = .tuple #[vi x, vb true] ∧ Blk w' R 149 #[vi x, vi y, vi z, vi 1, vi 1] ∧ w.grownBy w' (some R)) := by
 refine Xx (n := 36) Tryz.func110 Z Tryz.ntmps110 Z (Xa (Xe (v := vi 0) Z Z (Xe (v := vb false) Z Z (Xc (Xq (Xa (Xb (v := pt R 0) Z Z (Xv Z Z (Xd (o' := 4) Jc Z Z Z (Xh (v := vi 2) X1 Z (hR.cell Z) Z (X3 (q := false) Z Z (by decide) Z (Xc ?_))))))))))))
 refine Qc Z Z (Xw (Xu (Xq (Yw (m := 7) (vals := [(10, pt R 0), (11, pt R 0), (12, pt R 0), (13, pt R 3), (14, vi 0), (15, pt R 0), (16, pt R 0)]) (fun w' => w.grownBy w' none) Yy (by kernel_rfl) (X6 _) ?_ ?_))))
 exact yl Z (fun _ _ k => Xb (v := pt R 0) Z Z k) (yl Z (fun _ _ k => Xb (v := pt R 0) Z Z k) (yl Z (fun _ _ k => Xv Z Z k) (yl Z (fun _ _ k => Xd (o' := 3) Jz Z Z Z k) (yl Z (fun _ V k => Xh (v := vi 0) X1 Z ((hR.grown0 V).cell Z) Z k) (yl Z (fun _ _ k => Xv Z Z k) (yl Z (fun _ _ k => Xd (o' := 0) Ko Z Z Z k) Y5))))))
 intro ab J
 refine Qr (o' := 0) Vq Z Z (by decide) (by decide) Z Z ?_
 have O := (hR.grown0 J)
 refine Xh (v := vi x) X1 Z (O.cell Z) Z (Xe (v := vi x) Z Z (Xc (Xu (Xa (Xb (v := pt R 0) Z Z (Xb (v := pt R 0) Z Z (Xv Z Z (Xd (o' := 3) Jz Z Z Z (Xh (v := vi 0) X1 Z (O.cell Z) Z (Yn (c := 1) Z Z (by omega) (by omega) (by omega) Z (Q8 (c := 1) Z Z (by omega) (by omega) (by omega) Z Z (Xv Z Z ?_))))))))))))
 refine Xd (o' := 3) Jz Z Z Z (Yg (v := vi 1) (cs' := #[vi x, vi y, vi z, vi 1, vi 2]) X1 Z Z Z O (Nat.le_of_ble_eq_true Z) Z ?_)
 intro ac E
 refine Xc (Xa (Xb (v := pt R 0) Z Z (Xv Z Z (Xd (o' := 4) Jc Z Z Z (Xh (v := vi 2) X1 Z (E.blk.cell Z) Z (Ys (c := 1) Z Z (by omega) (by omega) (by omega) Z (Xv Z Z (Xd (o' := 4) Jc Z Z Z (Yg (v := vi 1) (cs' := #[vi x, vi y, vi z, vi 1, vi 1]) X1 Z Z Z E.blk (Nat.le_of_ble_eq_true Z) Z ?_)))))))))
 intro ad G
 exact Xc (Xa (Xb (v := vi x) Z Z (Xe (v := vi x) Z Z (Xe (v := vb true) Z Z (Xc (Xt (⟨.tuple #[vi x, vb true], G9 Z Z Z, Z, G.blk, (grown_trans (grown_trans (low0 (World.grownBy.refl w (some R)) J) E.grw) G.grw)⟩)))))))
theorem Oi (n : Int) (x y z : Int) (R : Nat) (w : World) (hR : Blk w R 149 #[vi x, vi y, vi z, vi 0, vi 3]) : CallsR Tryz.prog 108 #[pt R 0, vi n] w (fun v w' => v = vb false ∧ Blk w' R 149 #[vi x, vi y, vi z, vi 0, vi 3] ∧ w.grownBy w' (some R)) := by
 refine Xx (n := 32) Tryz.func108 Z Tryz.ntmps108 Z (Xa (Xe (v := vb false) Z Z (Xc (Xq (Xa (Xb (v := pt R 0) Z Z (Xv Z Z (Xd (o' := 4) Jc Z Z Z (Xh (v := vi 3) X1 Z (hR.cell Z) Z (X3 (q := true) Z Z (by decide) Z (Xc (Qg Z Z ?_))))))))))))
 exact Xa (Xe (v := vb false) Z Z (Xc (Xt (Yk (⟨vb false, Yp Z Z, Z, hR, (World.grownBy.refl w (some R))⟩)))))
theorem Xad (x y z : Int) (R : Nat) (w : World) (hR : Blk w R 149 #[vi x, vi y, vi z, vi 0, vi 3]) : CallsR Tryz.prog 110 #[pt R 0] w (fun v w' => v = .tuple #[vi x, vb true] ∧ Blk w' R 149 #[vi x, vi y, vi z, vi 1, vi 2] ∧ w.grownBy w' (some R)) := by
 refine Xx (n := 36) Tryz.func110 Z Tryz.ntmps110 Z (Xa (Xe (v := vi 0) Z Z (Xe (v := vb false) Z Z (Xc (Xq (Xa (Xb (v := pt R 0) Z Z (Xv Z Z (Xd (o' := 4) Jc Z Z Z (Xh (v := vi 3) X1 Z (hR.cell Z) Z (X3 (q := false) Z Z (by decide) Z (Xc ?_))))))))))))
 refine Qc Z Z (Xw (Xu (Xq (Yw (m := 7) (vals := [(10, pt R 0), (11, pt R 0), (12, pt R 0), (13, pt R 3), (14, vi 0), (15, pt R 0), (16, pt R 0)]) (fun w' => w.grownBy w' none) Yy (by kernel_rfl) (X6 _) ?_ ?_))))
 exact yl Z (fun _ _ k => Xb (v := pt R 0) Z Z k) (yl Z (fun _ _ k => Xb (v := pt R 0) Z Z k) (yl Z (fun _ _ k => Xv Z Z k) (yl Z (fun _ _ k => Xd (o' := 3) Jz Z Z Z k) (yl Z (fun _ V k => Xh (v := vi 0) X1 Z ((hR.grown0 V).cell Z) Z k) (yl Z (fun _ _ k => Xv Z Z k) (yl Z (fun _ _ k => Xd (o' := 0) Ko Z Z Z k) Y5))))))
 intro ab J
 refine Qr (o' := 0) Vq Z Z (by decide) (by decide) Z Z ?_
 have O := (hR.grown0 J)
 refine Xh (v := vi x) X1 Z (O.cell Z) Z (Xe (v := vi x) Z Z (Xc (Xu (Xa (Xb (v := pt R 0) Z Z (Xb (v := pt R 0) Z Z (Xv Z Z (Xd (o' := 3) Jz Z Z Z (Xh (v := vi 0) X1 Z (O.cell Z) Z (Yn (c := 1) Z Z (by omega) (by omega) (by omega) Z (Q8 (c := 1) Z Z (by omega) (by omega) (by omega) Z Z (Xv Z Z ?_))))))))))))
 refine Xd (o' := 3) Jz Z Z Z (Yg (v := vi 1) (cs' := #[vi x, vi y, vi z, vi 1, vi 3]) X1 Z Z Z O (Nat.le_of_ble_eq_true Z) Z ?_)
 intro ac E
 refine Xc (Xa (Xb (v := pt R 0) Z Z (Xv Z Z (Xd (o' := 4) Jc Z Z Z (Xh (v := vi 3) X1 Z (E.blk.cell Z) Z (Ys (c := 2) Z Z (by omega) (by omega) (by omega) Z (Xv Z Z (Xd (o' := 4) Jc Z Z Z (Yg (v := vi 2) (cs' := #[vi x, vi y, vi z, vi 1, vi 2]) X1 Z Z Z E.blk (Nat.le_of_ble_eq_true Z) Z ?_)))))))))
 intro ad G
 exact Xc (Xa (Xb (v := vi x) Z Z (Xe (v := vi x) Z Z (Xe (v := vb true) Z Z (Xc (Xt (⟨.tuple #[vi x, vb true], G9 Z Z Z, Z, G.blk, (grown_trans (grown_trans (low0 (World.grownBy.refl w (some R)) J) E.grw) G.grw)⟩)))))))
theorem Em (x y z : Int) (R : Nat) (w : World) (hR : Blk w R 149 #[vi x, vi y, vi z, vi 0, vi 1]) : CallsR Tryz.prog 109 #[pt R 0] w (fun v w' => ∃ (a : Option Addr) (c : Nat), v = .slice a 1 c ∧ OwnN w.heap.size w' a 3 1 c ([x] : List Int).length (([x] : List Int).flatMap icell) ∧ w.grownBy w' none) := by
 refine Xx (n := 29) Tryz.func109 Z Tryz.ntmps109 Z (Xa (Xe (v := .slice none 0 0) Z Z (Xc (Xa (Xe (v := .slice none 0 0) Z Z (Xc (Xq (Xa (Xb (v := pt R 0) Z Z (Xv Z Z (Xd (o' := 4) Jc Z Z Z (Xh (v := vi 1) X1 Z (hR.cell Z) Z ?_))))))))))))
 refine Xb (v := vi 0) Z Z (Xc (Yc (Qm (fun mm f' w' => ∃ (i : Int) (aq : Option Addr) (cq : Nat) (ys : List Int), mm = (1 - i : Int).toNat ∧ (0 ≤ i ∧ i ≤ 1) ∧ (ys.length : Int) = i ∧ ys = ([x] : List Int).take i.toNat ∧ OwnN w.heap.size w' aq 3 1 cq ys.length (ys.flatMap icell) ∧ f' 3 = .slice aq ys.length cq ∧ f' 9 = vi i ∧ f' 0 = pt R 0 ∧ f' 2 = .slice none 0 0 ∧ f' 8 = vi 1 ∧ w.grownBy w' none ∧ Blk w' R 149 #[vi x, vi y, vi z, vi 0, vi 1]) (1 - 0 : Int).toNat ⟨0, none, 0, ([] : List Int), Z, (by omega), Z, Z, OwnN.nil, Z, Z, Z, Z, Z, (World.grownBy.refl w none), hR⟩ ?_)))
 rintro mm fk az ⟨i, aq, cq, ys, fh, hi, hyl, hys, hOw, ap, af, bm, bn, ah, ab, ag⟩
 rcases (show i = 0 ∨ i = 1 by omega) with rfl | rfl
 refine Xa (Qa (q := true) af ah (by decide) Z (Xc (Xq (Qg Z Z (Xw (Xu (Xq (Yc (Xa (Xb (v := vi 0) af Z (Xe (v := vi 0) Z Z (Xc ?_))))))))))))
 refine Qy (m := 14) [[], [], [], [2], [2, 3], [2, 3, 4], [], [2, 3, 4, 5, 6], [2, 3, 4, 5, 6, 7], [1], [1, 9], [1, 2, 3, 4, 5, 6, 7, 8, 9, 10], [1, 2, 3, 4, 5, 6, 7, 8, 9, 10, 11], [1, 2, 3, 4, 5, 6, 7, 8, 9, 10, 11, 12], [0, 1, 2, 3, 4, 5, 6, 7, 8, 9, 10, 11, 12, 13], [0, 1, 2, 3, 4, 5, 6, 7, 8, 9, 10, 11, 12, 13, 14]] (fun S F w' => ∃ (E : Nat), az.grownBy w' none ∧ F 0 = pt R 0 ∧ F 2 = .slice none 0 0 ∧ F 3 = .slice aq ys.length cq ∧ F 4 = vi 0 ∧ F 8 = vi 1 ∧ F 9 = vi 0 ∧ (S 13 = true → F 25 = .slice (pa E) 1 1 ∧ w.heap.size ≤ E ∧ Blk w' E 3 (([x] : List Int).flatMap icell).toArray ∧ R < E ∧ az.heap.size ≤ E) ∧ Vals S F [(0, 12, .slice aq ys.length cq), (1, 13, pt R 0), (2, 14, pt R 0), (3, 15, pt R 0), (4, 16, pt R 3), (5, 17, vi 0), (6, 18, vi 0), (7, 19, vi 0), (8, 20, vi 0), (9, 21, pt R 0), (10, 22, pt R 0), (11, 23, pt R 0), (12, 24, vi x)]) Yy (by kernel_rfl) ⟨0, X6 _, bm, bn, ap, Z, ah, af, Yt, J3 _⟩ ?_ ?_
 refine Xj (fun S F fm hS hbef hcl hI => ?_) ?_
 obtain ⟨E, a9, bp, bq, ar, br, bt, bu, G, hvs⟩ := hI
 exact Xb (v := .slice aq ys.length cq) ar Z (Xc ⟨E, a9, bp, bq, ar, br, bt, bu, G, Vals.up 0 hvs Z Z Z⟩)
 refine Xj (fun S F fo hS hbef hcl hI => ?_) ?_
 obtain ⟨E, ba, au, bv, bw, bx, bz, ca, G, hvs⟩ := hI
 exact Xb (v := pt R 0) au Z (Xc ⟨E, ba, au, bv, bw, bx, bz, ca, X5 13 hS hcl Z, Vals.up 1 hvs Z Z Z⟩)
 refine Xj (fun S F fp hS hbef hcl hI => ?_) ?_
 obtain ⟨E, bb, av, cc, cd, ce, cf, cg, G, hvs⟩ := hI
 exact Xb (v := pt R 0) av Z (Xc ⟨E, bb, av, cc, cd, ce, cf, cg, X5 13 hS hcl Z, Vals.up 2 hvs Z Z Z⟩)
 refine Xj (fun S F fq hS hbef hcl hI => ?_) ?_
 obtain ⟨E, bc, cj, ck, cl, cm, cn, co, G, hvs⟩ := hI
 exact Xv (Vals.at 2 hvs Z (Xm 2 hbef Z)) Z (Xc ⟨E, bc, cj, ck, cl, cm, cn, co, X5 13 hS hcl Z, Vals.up 3 hvs Z Z Z⟩)
 refine Xj (fun S F fr hS hbef hcl hI => ?_) ?_
 obtain ⟨E, bd, ct, cv, cw, cx, cy, cz, G, hvs⟩ := hI
 exact Xd (o' := 3) Jz (Vals.at 3 hvs Z (Xm 3 hbef Z)) Z Z (Xc ⟨E, bd, ct, cv, cw, cx, cy, cz, X5 13 hS hcl Z, Vals.up 4 hvs Z Z Z⟩)
 refine Xj (fun S F ft hS hbef hcl hI => ?_) ?_
 obtain ⟨E, ak, c8, c9, da, db, dc, de, G, hvs⟩ := hI
 exact Xh (v := vi 0) X1 (Vals.at 4 hvs Z (Xm 4 hbef Z)) ((ag.grown0 ak).cell Z) Z (Xc ⟨E, ak, c8, c9, da, db, dc, de, X5 13 hS hcl Z, Vals.up 5 hvs Z Z Z⟩)
 refine Xj (fun S F fu hS hbef hcl hI => ?_) ?_
 obtain ⟨E, be, df, dg, dh, aw, di, dk, G, hvs⟩ := hI
 exact Xb (v := vi 0) aw Z (Xc ⟨E, be, df, dg, dh, aw, di, dk, X5 13 hS hcl Z, Vals.up 6 hvs Z Z Z⟩)
 refine Xj (fun S F fv hS hbef hcl hI => ?_) ?_
 obtain ⟨E, bf, dl, dm, dn, dp, dq, dr, G, hvs⟩ := hI
 exact Yn (c := 0) (Vals.at 5 hvs Z (Xm 5 hbef Z)) (Vals.at 6 hvs Z (Xm 6 hbef Z)) (by omega) (by omega) (by omega) Z (Xc ⟨E, bf, dl, dm, dn, dp, dq, dr, X5 13 hS hcl Z, Vals.up 7 hvs Z Z Z⟩)
 refine Xj (fun S F fw hS hbef hcl hI => ?_) ?_
 obtain ⟨E, bg, dt, du, dv, dw, dx, dy, G, hvs⟩ := hI
 exact Q8 (c := 0) (Vals.at 7 hvs Z (Xm 7 hbef Z)) Z (by omega) (by omega) (by omega) Z Z (Xc ⟨E, bg, dt, du, dv, dw, dx, dy, X5 13 hS hcl Z, Vals.up 8 hvs Z Z Z⟩)
 refine Xj (fun S F fx hS hbef hcl hI => ?_) ?_
 obtain ⟨E, bh, dz, d0, d1, d2, d3, d4, G, hvs⟩ := hI
 exact Xv (Vals.at 1 hvs Z (Xm 1 hbef Z)) Z (Xc ⟨E, bh, dz, d0, d1, d2, d3, d4, X5 13 hS hcl Z, Vals.up 9 hvs Z Z Z⟩)
 refine Xj (fun S F fy hS hbef hcl hI => ?_) ?_
 obtain ⟨E, bi, d5, d6, d7, d8, d9, ea, G, hvs⟩ := hI
 exact Xd (o' := 0) Ko (Vals.at 9 hvs Z (Xm 9 hbef Z)) Z Z (Xc ⟨E, bi, d5, d6, d7, d8, d9, ea, X5 13 hS hcl Z, Vals.up 10 hvs Z Z Z⟩)
 refine Xj (fun S F fz hS hbef hcl hI => ?_) ?_
 obtain ⟨E, bj, eb, ed, ee, ef, eg, eh, G, hvs⟩ := hI
 exact Qr (o' := 0) Vq (Vals.at 10 hvs Z (Xm 10 hbef Z)) (Vals.at 8 hvs Z (Xm 8 hbef Z)) (by decide) (by decide) Z Z (Xc ⟨E, bj, eb, ed, ee, ef, eg, eh, X5 13 hS hcl Z, Vals.up 11 hvs Z Z Z⟩)
 refine Xj (fun S F f8 hS hbef hcl hI => ?_) ?_
 obtain ⟨E, al, ei, ej, ek, em, eo, ep, G, hvs⟩ := hI
 exact Xh (v := vi x) X1 (Vals.at 11 hvs Z (Xm 11 hbef Z)) ((ag.grown0 al).cell Z) Z (Xc ⟨E, al, ei, ej, ek, em, eo, ep, X5 13 hS hcl Z, Vals.up 12 hvs Z Z Z⟩)
 refine Xj (fun S F f9 hS hbef hcl hI => ?_) ?_
 obtain ⟨E, O, er, eu, ew, ex, ey, ez, G, hvs⟩ := hI
 refine Ya (ps := [(0, vi x)]) (e := 3) (cs := (([x] : List Int).flatMap icell).toArray) (Xn (Vals.at 12 hvs Z (Xm 12 hbef Z)) X8) (fun _ => by kernel_rfl) Z ?_
 intro bl ga J
 have an := Yj J (low0 ab O)
 have ad := Xr J ((ag.grown0 O)).lt
 exact Xc ⟨bl, (low0 O J.grw), er, eu, ew, ex, ey, ez, fun _ => ⟨Z, an, J.blk, ad, (nt O.size (Nat.le_of_eq J.eq.symm))⟩, Vals.keep hvs Z⟩
 exact Q5
 intro S F gb hall hI
 obtain ⟨E, ac, e0, fa, fi, fj, fb, fc, G, hvs⟩ := hI
 have ai := low0 ab ac
 obtain ⟨fd, ff, am, bk, fe⟩ := G (hall 13 (by decide))
 have V := (hOw.grown0 ac)
 refine Jp (g := icell) (ys := ys) (zs := ([x] : List Int)) (lo := w.heap.size) V8 Z Yv (by omega) Kf (Vals.at 0 hvs Z (hall 0 (by decide))) fd V (Jw Yv am) (fun h => by cases h) (by first | omega | exact Nat.le_of_ble_eq_true rfl | (simp only [List.length_nil, List.length_cons, List.length_append, List.length_replicate]; omega)) (by omega) (by first | exact ai.size | omega) Z ?_
 intro ao ae gc a8 aj fg
 exact Xe (v := .slice ao (ys ++ ([x] : List Int)).length ae) Z Z (Xc (Y7 (Xu (X2 (Yn (c := 1) fc Z (by omega) (by omega) (by omega) Z (Xb (v := vi 1) Z Z (Xc (Xu (⟨(1 - 1 : Int).toNat, by omega, 1, ao, ae, (ys ++ ([x] : List Int)), Z, (by omega), (by first | omega | (simp only [List.length_append, List.length_cons, List.length_nil]; omega)), (by rw [hys]; rfl), a8, Z, Z, e0, fa, fb, (Pm ai V aj (by omega)), (Blk.typN (ag.grown0 ac) V aj (by decide))⟩)))))))))
 refine Xa (Qa (q := false) af ah (by decide) Z (Xc (Xq (Qc Z Z (Qe (Qb (Qb (Jm (Xu (Xa (Xb (v := .slice aq ys.length cq) ap Z (Xe (v := .slice aq ys.length cq) Z Z ?_))))))))))))
 refine Xc (Xt ?_)
 have hyz : ys = ([x] : List Int) := hys
 subst hyz
 exact ⟨.slice aq ([x] : List Int).length cq, Yp Z Z, aq, cq, Z, hOw, ab⟩
end Go.Proofs.YtjpgffmkcmcolaaGreatDoor
end
