/- Laws and walks: my templates, and what a program of mine (gen.py) printed out of the functions; only what the row reaches. -/
import Derived.Test.YtjpgffmkcmcolaaGreatDoorT25
section
namespace Go.Dw
set_option linter.unusedVariables false
set_option linter.unusedSimpArgs false
section
variable {ts : List Th} {q : Cl}
theorem Ht (hp : callPoss ts q = true) (h0 : check1 ts q = 0) (h3 : ¬ q.kind = 3) : (1 ≤ (slotAt ts q.run q.a).th ∧ (slotAt ts q.run q.a).th ≤ (ts.length : Int)) ∧ kindFor q.kind (thAt ts (slotAt ts q.run q.a).th).kind = true ∧ (need0 q.kind = true → sees ts q.run (slotAt ts q.run q.a).th = true) := by
  have e := Jr hp
  have h := Ni (ts := ts) (q := q) (by omega) h3
  exact ⟨h.1, h.2.1, (Rj (ts := ts) (q := q) (by omega) (by omega) h3).1⟩
theorem Wa (hp : callPoss ts q = true) (h0 : check1 ts q = 0) (h3 : ¬ q.kind = 3) : FarOk ts q (slotAt ts q.run q.a) := by
  have h := Ht hp h0 h3
  obtain ⟨hT, hc, hr⟩ := Yh hp
  exact ⟨hT, hc, hr, h.1, h.2.1, h3⟩
theorem Sw (hp : callPoss ts q = true) (h3 : ¬ q.kind = 3) (hs : chkSees ts q.run (slotAt ts q.run q.a).th = false) : doAns ts q = -1 ∨ doAns ts q = -2 ∨ doAns ts q = 0 := by
  have hr := Kj ts q
  have e := Jr hp
  obtain ⟨hT, hc, hrun⟩ := Yh hp
  by_cases h1 : check1 ts q = -1
  · exact Or.inl ((Wl (by omega)).1.trans h1)
  by_cases h2 : check1 ts q = -2
  · exact Or.inr (Or.inl ((Wl (by omega)).1.trans h2))
  have hp1 := Ni (ts := ts) (q := q) (by omega) h3
  rw [Sy hT hrun hp1.1] at hs
  by_cases h4 : check1 ts q = -3
  · have := (Mo (ts := ts) (q := q) (by omega) h3).1
    rw [hs] at this
    cases this
  have h0 : check1 ts q = 0 := by omega
  refine Or.inr (Or.inr ?_)
  cases hl : live ts (slotAt ts q.run q.a) with
  | false => exact (U7 h0 h3 hl).1
  | true =>
    rw [(Wh rfl h0 h3 hl (Wa hp h0 h3)).1, if_neg (by rw [hs]; exact Bool.false_ne_true)]
theorem R3 (hp : callPoss ts q = true) : callPoss (doCall ts q).1 q = true := by
  obtain ⟨hT, hc, hr⟩ := Yh hp
  have h := Uj hp
  have hr := Qn hr
  unfold callPoss
  rw [h.1, hc, Mu (by rw [h.2.1]; exact hr.1) ((h.2.2 _ hr.1.1).trans hr.2)]
  rfl
def Kept (n : Int) (a b : Th) : Prop := (a.kind = 1 → b.num = a.num ∨ b.num = 0 ∨ b.num = n ∨ b.num = n % 2) ∧ ∀ v ∈ b.queue, v = n ∨ v ∈ a.queue
theorem Kept.refl (n : Int) (a : Th) : Kept n a a := ⟨fun _ => Or.inl rfl, fun _ h => Or.inr h⟩
section
variable {ms xs : List MTh}
theorem Nc (hp : callPoss (tabT ms) q = true) : (callDo (tabT ms) q).2 = doAns (tabT ms) q := by rw [Qs hp, Um]
theorem Hi (ht : tabT xs = (callDo (tabT ms) q).1) (hp : callPoss (tabT ms) q = true) : (mAt xs (q.run - 1).toNat).t.slots.length = 4 := by
  have h := R3 hp
  have h2 := (Yh h)
  rw [← Qs hp, ← ht] at h2
  exact Qp h2.1 h2.2.2
theorem D2 (hp : callPoss (tabT ms) q = true) (h : (((decide (q.kind = 3)) || (decide ((rAt (mAt ms (q.run - 1).toNat).t.slots q.a.toNat).th = 0))) || (chkSees (tabT ms) q.run (rAt (mAt ms (q.run - 1).toNat).t.slots q.a.toNat).th)) = false) : ((decide ((callDo (tabT ms) q).2 = -1) || decide ((callDo (tabT ms) q).2 = -2)) || decide ((callDo (tabT ms) q).2 = 0)) = true := by
  simp only [Bool.or_eq_false_iff, decide_eq_false_iff_not] at h
  rw [Jq] at h
  rw [Nc hp]
  rcases Sw hp h.1.1 h.2 with e | e | e <;> rw [e] <;> rfl
end
end
end Go.Dw
end
section
namespace Go.Proofs.YtjpgffmkcmcolaaGreatDoor
open Go.RowKit Go.Dw
set_option maxRecDepth 100000
set_option maxHeartbeats 4000000
set_option linter.unusedSimpArgs false
set_option linter.unusedVariables false
theorem Va : goFn Tryz.prog 15 = true := by kernel_rfl
theorem Vb : goFn Tryz.prog 16 = true := by kernel_rfl
theorem K8 : goFn Tryz.prog 17 = true := by kernel_rfl
theorem Kc : goFn Tryz.prog 18 = true := by kernel_rfl
theorem Vc : goFn Tryz.prog 19 = true := by kernel_rfl
theorem O8 : goFn Tryz.prog 23 = true := by kernel_rfl
theorem law_FnBlindSame (bs : List Int) (a : Option Addr) (c : Nat) (w : World) (ga : SlAt w a 1 (bs.map bcell)) (hb : ∀ b ∈ bs, 0 ≤ b ∧ b ≤ 255) (hn : bs.length ≤ 9223372036854775807) (hc : bs.length ≤ c) (hE : ErrT w) : CallsR Tryz.prog 8 #[.slice a bs.length c] w (fun v w' => v = .bool true ∧ w.grownBy w' none) := by
 refine Xx (n := 90) Tryz.func8 Z Tryz.ntmps8 Z ?_
 have dk := World.grownBy.refl w none
 have hs := SlAt.lt Kl (by omega) ga
 refine Xa (Xe (v := vb false) Z Z (Xc (Xq (Xa (Xb (v := .slice a bs.length c) Z Z (Yu (by kernel_rfl) Z Z (Jd (q := decide (1048576 < (bs.length : Int))) Z Z Z Z (Xc (Xy Z (fun ag => ?_) (fun ag => ?_))))))))))
 have g3 := of_decide_eq_true ag
 refine Xa (Xe (v := vb true) Z Z (Xc (Xt (Yk (⟨vb true, Yp Z Z, ?_, dk⟩)))))
 rfl
 have g5 := of_decide_eq_false ag
 refine Xw (Xu (Xa (Xb (v := .slice a bs.length c) Z Z (Xl Va (Xg Z Xk) Z (J0 bs a c _ (SlAt.low ga dk) hb (by omega) (by omega)) ?_))))
 rintro _ im ⟨ap, ae, G, E, rfl, bb, cy, gh, gy, dl⟩
 have cf := low0 dk dl
 have az := cy.len
 refine Xb (v := .tuple #[.slice (pa ap) G.length ae, .agg #[vi E.kind, vi E.run, vi E.a, vi E.b, vi E.n]]) Z Z (X4 (v := .slice (pa ap) G.length ae) Z Z Z (X4 (v := .agg #[vi E.kind, vi E.run, vi E.a, vi E.b, vi E.n]) Z Z Z (Ye (cs := #[vi 0, vi 0, vi 0, vi 0, vi 0]) Uh Z Z ?_)))
 intro bv io ak
 have gk := Yj ak cf
 refine Xe (v := .slice (pa ap) G.length ae) Z Z (X0 (vs := [vi E.kind, vi E.run, vi E.a, vi E.b, vi E.n]) (cs' := #[vi E.kind, vi E.run, vi E.a, vi E.b, vi E.n]) Y1 Z Z Z (by simp [Value.oneCell']) ak.blk (Nat.le_of_ble_eq_true Z) Z ?_)
 intro ip an
 refine Xc (Xa (Xb (v := .slice (pa ap) G.length ae) Z Z (Xp (vs := [vi E.kind, vi E.run, vi E.a, vi E.b, vi E.n]) Y1 Z Z (an.blk.rangeL 0 5 Z) Z ?_)))
 have gp := (an.blk).lt
 refine Xl Vb (Xg Z (Xg Z Xk)) Z (Ku E _ G _ _ (TabG.at (TabG.low bb (low1 ak.grw an.grw (nt ((World.grownBy.refl _ none)).size (Nat.le_of_eq ak.eq.symm))))) az (by omega)) ?_
 rintro _ iq ⟨bp, av, ar, rfl, cx, bj, bg⟩
 have cg := low0 (low1 (low0 cf ak.grw) an.grw (by omega)) bg
 have bw := Q3 bj
 have gt := Qo bj
 refine Xb (v := .tuple #[.slice (pa bp) ar.length av, vi (callDo (tabT G) E).2]) Z Z (X4 (v := .slice (pa bp) ar.length av) Z Z Z (X4 (v := vi (callDo (tabT G) E).2) Z Z Z (Xe (v := .slice (pa bp) ar.length av) Z Z (Xe (v := vi (callDo (tabT G) E).2) Z Z (Xc (Xa (Xb (v := .slice (pa ap) G.length ae) Z Z ?_)))))))
 have co := (an.blk.grown0 bg)
 refine Xp (vs := [vi E.kind, vi E.run, vi E.a, vi E.b, vi E.n]) Y1 Z Z (co.rangeL 0 5 Z) Z ?_
 have gq := (co).lt
 refine Xl K8 (Xg Z (Xg Z Xk)) Z (K2 E _ G _ _ (TabG.at (TabG.low bb (low0 (low1 ak.grw an.grw (nt ((World.grownBy.refl _ none)).size (Nat.le_of_eq ak.eq.symm))) bg))) az (by omega) (ErrT.grown0 hE cg)) ?_
 rintro _ ir ⟨br, aw, au, rfl, bm, a9, bh⟩
 have bx := Q3 a9
 have gu := Qo a9
 refine Xb (v := .tuple #[.slice br au.length aw, vi (callDo (tabT G) E).2]) Z Z (X4 (v := .slice br au.length aw) Z Z Z (X4 (v := vi (callDo (tabT G) E).2) Z Z Z (Xe (v := .slice br au.length aw) Z Z (Xe (v := vi (callDo (tabT G) E).2) Z Z (Xc (Xq (Xa (Xb (v := vi (callDo (tabT G) E).2) Z Z (Xb (v := vi (callDo (tabT G) E).2) Z Z (Y8 (q := false) Z Z (by simp) Z (Xb (v := vb false) Z Z (Xf Z Z Z Z ?_))))))))))))
 refine Xb (v := .slice br au.length aw) Z Z (Xf Z Z Z Z (Xb (v := .slice (pa bp) ar.length av) Z Z (Xf Z Z Z Z ?_)))
 have bn := (TabG.low cx bh)
 refine Xl Kc (Xg Z (Xg Z Xk)) Z (Q9 _ au ar _ _ _ _ (TabG.at bm) (TabG.at bn) bx bw (by omega) (by omega)) ?_
 rintro _ it ⟨rfl, ao⟩
 refine Xf Z Z Z Z (Yl (b' := false) (congrArg Value.bool (decide_eq_true (a9.trans bj.symm))) Z Z (Xo (v := vb false) Z Z Z Z (Xb (v := vb false) Z Z (Xf Z Z Z Z (Xb (v := .slice (pa ap) G.length ae) Z Z (Xf Z Z Z Z ?_))))))
 have bq := ((co.grown0 bh).grown0 ao)
 refine Xp (vs := [vi E.kind, vi E.run, vi E.a, vi E.b, vi E.n]) Y1 Z Z (bq.rangeL 0 5 Z) Z (Xf Z Z Z Z (Xl Vc (Xg Z (Xg Z Xk)) Z (Vl E _ G _ _ (TabG.at (TabG.low bb (low0 (low0 (low0 (low1 ak.grw an.grw (nt ((World.grownBy.refl _ none)).size (Nat.le_of_eq ak.eq.symm))) bg) bh) ao))) az (by omega)) ?_))
 rintro _ bz ⟨rfl, al⟩
 have bt := low0 (low0 (low0 cg bh) ao) al
 refine Xf Z Z Z Z (Yl (b' := !callPoss (tabT G) E) Z Z Z (Xo (v := vb (!callPoss (tabT G) E)) Z Z Z Z (Xc (Xy Z (fun ah => ?_) (fun ah => ?_)))))
 have g6 := Q2 ah
 refine Xa (Xb (v := vi (callDo (tabT G) E).2) Z Z (Xb (v := vi (callDo (tabT G) E).2) Z Z (X3 (q := true) Z Z (by simp) Z (Xb (v := vb true) Z Z (Xf Z Z Z Z (Xb (v := .slice br au.length aw) Z Z (Xf Z Z Z Z (Xb (v := .slice (pa bp) ar.length av) Z Z (Xf Z Z Z Z (Xl Kc (Xg Z (Xg Z Xk)) Z (Q9 _ au ar _ _ _ _ (TabG.at (TabG.low (TabG.low bm ao) al)) (TabG.at (TabG.low (TabG.low bn ao) al)) bx bw (by omega) (by omega)) ?_))))))))))
 rintro _ iu ⟨rfl, dm⟩
 refine Xs (v := vb true) Z Z (congrArg Value.bool (decide_eq_true (a9.trans bj.symm))) Z (Xe (v := vb true) Z Z (Xc (Xt (Yk (⟨vb true, Yp Z Z, ?_, (low0 bt dm)⟩)))))
 rfl
 have ab := Qx ah
 obtain ⟨ac, ad, V⟩ := Yh ab
 have gi := Yq ad
 have gj := (Y3 V).1
 have gx := Qp ac V
 have gr := Jb ac
 have hde := Qs ab
 have hrk := Qn (Yh ab).2.2
 have gv := Q1 bj ab
 have gw := Q1 a9 ab
 obtain ⟨hi, hhi⟩ : ∃ n, n = bz.heap.size := ⟨_, rfl⟩
 have bc := (TabG.low bb (low0 (low0 (low0 (low0 (low1 ak.grw an.grw (nt ((World.grownBy.refl _ none)).size (Nat.le_of_eq ak.eq.symm))) bg) bh) ao) al))
 have df := TabG.hi bc
 rw [← hhi] at df
 have fy := TabG.hi (TabG.low (TabG.low bn ao) al)
 rw [← hhi] at fy
 have fz := TabG.hi (TabG.low (TabG.low bm ao) al)
 rw [← hhi] at fz
 have gg := Hi a9 ab
 refine Xw (Xu (Xq ?_))
 obtain ⟨c9, ik, cv, dh, dy, d0⟩ := SlAt.at (TabG.at bc).1 (Yi (xg G (E.run - 1).toNat))
 have gm := TabLen.at az (xg G (E.run - 1).toNat)
 obtain ⟨d2, il, gb, di, dz, d1⟩ := SlAt.at (TabAt.th (TabG.at bc) (xg G (E.run - 1).toNat)).1 (Yi (xr (mAt G (E.run - 1).toNat).t.slots (E.a).toNat))
 have gz : hi ≤ bz.heap.size := (Nat.le_of_eq hhi)
 refine Qy (m := 12) [[], [], [1], [1, 2], [0, 1, 2, 3], [0, 1, 2, 3, 4], [0, 1, 2, 3, 4, 5], [], [7], [0, 1, 2, 3, 4, 5, 6, 7, 8], [0, 1, 2, 3, 4, 5, 6, 7, 8, 9], [], [0, 1, 2, 3, 4, 5, 6, 7, 8, 9, 10, 11]] (fun S F w' => ∃ (J : Nat), bz.grownBy w' none ∧ F 2 = vb false ∧ F 3 = .slice (pa ap) G.length ae ∧ F 4 = pt bv 0 ∧ F 8 = vi (callDo (tabT G) E).2 ∧ (S 11 = true → F 9 = pt J 0 ∧ w.heap.size ≤ J ∧ Blk w' J 42 #[vi 0, vi 0, vb false, vb false, vb false] ∧ bv < J ∧ bz.heap.size ≤ J) ∧ Vals S F [(0, 53, .slice (pa ap) G.length ae), (1, 54, pt bv 1), (2, 55, vi E.run), (3, 56, vi (E.run - 1)), (4, 57, pt c9 cv), (5, 58, pt c9 (cv + 5)), (6, 59, .slice (mAt G (E.run - 1).toNat).sa (mAt G (E.run - 1).toNat).t.slots.length (mAt G (E.run - 1).toNat).sc), (7, 60, pt bv 2), (8, 61, vi E.a), (9, 62, pt d2 gb), (10, 63, .agg #[vi (rAt (mAt G (E.run - 1).toNat).t.slots (E.a).toNat).th, vi (rAt (mAt G (E.run - 1).toNat).t.slots (E.a).toNat).ve, vb (rAt (mAt G (E.run - 1).toNat).t.slots (E.a).toNat).rd, vb (rAt (mAt G (E.run - 1).toNat).t.slots (E.a).toNat).wr, vb (rAt (mAt G (E.run - 1).toNat).t.slots (E.a).toNat).wk])]) Yy (by kernel_rfl) ⟨0, X6 _, Z, Z, Z, Z, Yt, J3 _⟩ ?_ ?_
 refine Xj (fun S F iv hS hbef hcl hI => ?_) ?_
 obtain ⟨J, dq, d3, da, d4, d5, O, hvs⟩ := hI
 exact Xb (v := .slice (pa ap) G.length ae) da Z (Xc ⟨J, dq, d3, da, d4, d5, O, Vals.up 0 hvs Z Z Z⟩)
 refine Xj (fun S F iw hS hbef hcl hI => ?_) ?_
 obtain ⟨J, dr, d6, d7, db, d8, O, hvs⟩ := hI
 exact Xd (o' := 1) Qv db Z Z (Xc ⟨J, dr, d6, d7, db, d8, O, Vals.up 1 hvs Z Z Z⟩)
 refine Xj (fun S F ix hS hbef hcl hI => ?_) ?_
 obtain ⟨J, ck, d9, ea, eb, ed, O, hvs⟩ := hI
 exact Xh (v := vi E.run) X1 (Vals.at 1 hvs Z (Xm 1 hbef Z)) (((bq.grown0 al).grown0 ck).cell Z) Z (Xc ⟨J, ck, d9, ea, eb, ed, O, Vals.up 2 hvs Z Z Z⟩)
 refine Xj (fun S F iy hS hbef hcl hI => ?_) ?_
 obtain ⟨J, dt, ee, ef, eg, eh, O, hvs⟩ := hI
 exact Ys (c := E.run - 1) (Vals.at 2 hvs Z (Xm 2 hbef Z)) Z (by omega) (by omega) (by omega) Z (Xc ⟨J, dt, ee, ef, eg, eh, O, Vals.up 3 hvs Z Z Z⟩)
 refine Xj (fun S F iz hS hbef hcl hI => ?_) ?_
 obtain ⟨J, du, ei, ej, ek, em, O, hvs⟩ := hI
 exact Xz Y2 (Vals.at 0 hvs Z (Xm 0 hbef Z)) (Vals.at 3 hvs Z (Xm 3 hbef Z)) dh dy (by omega) (by omega) Z (Xc ⟨J, du, ei, ej, ek, em, O, Vals.up 4 hvs Z Z Z⟩)
 refine Xj (fun S F i0 hS hbef hcl hI => ?_) ?_
 obtain ⟨J, dv, eo, ep, er, eu, O, hvs⟩ := hI
 exact Xd (o' := cv + 5) Qj (Vals.at 4 hvs Z (Xm 4 hbef Z)) Z Z (Xc ⟨J, dv, eo, ep, er, eu, O, Vals.up 5 hvs Z Z Z⟩)
 refine Xj (fun S F i1 hS hbef hcl hI => ?_) ?_
 obtain ⟨J, cl, ew, ex, ey, ez, O, hvs⟩ := hI
 exact Xh (v := .slice (mAt G (E.run - 1).toNat).sa (mAt G (E.run - 1).toNat).t.slots.length (mAt G (E.run - 1).toNat).sc) Jh (Vals.at 5 hvs Z (Xm 5 hbef Z)) ((X9 d0 cl) 5 _ Z) Z (Xc ⟨J, cl, ew, ex, ey, ez, O, Vals.up 6 hvs Z Z Z⟩)
 refine Xj (fun S F i2 hS hbef hcl hI => ?_) ?_
 obtain ⟨J, dw, e0, fa, dc, fb, O, hvs⟩ := hI
 exact Xd (o' := 2) Km dc Z Z (Xc ⟨J, dw, e0, fa, dc, fb, O, Vals.up 7 hvs Z Z Z⟩)
 refine Xj (fun S F i3 hS hbef hcl hI => ?_) ?_
 obtain ⟨J, cm, fc, fd, fe, ff, O, hvs⟩ := hI
 exact Xh (v := vi E.a) X1 (Vals.at 7 hvs Z (Xm 7 hbef Z)) (((bq.grown0 al).grown0 cm).cell Z) Z (Xc ⟨J, cm, fc, fd, fe, ff, O, Vals.up 8 hvs Z Z Z⟩)
 refine Xj (fun S F i4 hS hbef hcl hI => ?_) ?_
 obtain ⟨J, dx, fg, fh, fi, fj, O, hvs⟩ := hI
 exact Xz Ka (Vals.at 6 hvs Z (Xm 6 hbef Z)) (Vals.at 8 hvs Z (Xm 8 hbef Z)) di dz (by omega) (by omega) Z (Xc ⟨J, dx, fg, fh, fi, fj, O, Vals.up 9 hvs Z Z Z⟩)
 refine Xj (fun S F i5 hS hbef hcl hI => ?_) ?_
 obtain ⟨J, cn, fk, fm, fo, fp, O, hvs⟩ := hI
 exact Xp (vs := [vi (rAt (mAt G (E.run - 1).toNat).t.slots (E.a).toNat).th, vi (rAt (mAt G (E.run - 1).toNat).t.slots (E.a).toNat).ve, vb (rAt (mAt G (E.run - 1).toNat).t.slots (E.a).toNat).rd, vb (rAt (mAt G (E.run - 1).toNat).t.slots (E.a).toNat).wr, vb (rAt (mAt G (E.run - 1).toNat).t.slots (E.a).toNat).wk]) Yx (Vals.at 9 hvs Z (Xm 9 hbef Z)) Z (Yr (X9 d1 cn) 0 5 Z) Z (Xc ⟨J, cn, fk, fm, fo, fp, O, Vals.up 10 hvs Z Z Z⟩)
 refine Xj (fun S F i6 hS hbef hcl hI => ?_) ?_
 obtain ⟨J, bi, fq, fr, ft, fu, O, hvs⟩ := hI
 refine Ye (cs := #[vi 0, vi 0, vb false, vb false, vb false]) Kz Z Z ?_
 intro c8 i7 a8
 have cz := Yj a8 (low0 bt bi)
 have f8 : hi ≤ c8 := nt (nt (Nat.le_of_eq hhi) bi.size) (Nat.le_of_eq a8.eq.symm)
 have bk := Xr a8 (((bq.grown0 al).grown0 bi)).lt
 exact Xc ⟨c8, (low0 bi a8.grw), fq, fr, ft, fu, fun _ => ⟨Z, cz, a8.blk, bk, (nt bi.size (Nat.le_of_eq a8.eq.symm))⟩, Vals.keep hvs Z⟩
 exact Q5
 intro S F i8 hall hI
 obtain ⟨J, bu, ca, fv, de, cc, O, hvs⟩ := hI
 obtain ⟨cd, gl, ct, cw, f9⟩ := O (hall 11 (by decide))
 refine X0 (vs := [vi (rAt (mAt G (E.run - 1).toNat).t.slots (E.a).toNat).th, vi (rAt (mAt G (E.run - 1).toNat).t.slots (E.a).toNat).ve, vb (rAt (mAt G (E.run - 1).toNat).t.slots (E.a).toNat).rd, vb (rAt (mAt G (E.run - 1).toNat).t.slots (E.a).toNat).wr, vb (rAt (mAt G (E.run - 1).toNat).t.slots (E.a).toNat).wk]) (cs' := #[vi (rAt (mAt G (E.run - 1).toNat).t.slots (E.a).toNat).th, vi (rAt (mAt G (E.run - 1).toNat).t.slots (E.a).toNat).ve, vb (rAt (mAt G (E.run - 1).toNat).t.slots (E.a).toNat).rd, vb (rAt (mAt G (E.run - 1).toNat).t.slots (E.a).toNat).wr, vb (rAt (mAt G (E.run - 1).toNat).t.slots (E.a).toNat).wk]) Yx cd (Vals.at 10 hvs Z (hall 10 (by decide))) Z (by simp [Value.oneCell']) ct (Nat.le_of_ble_eq_true Z) Z ?_
 intro gc bf
 refine Xc (Xu (Xq (X7 (fun f' w' => (f' 2 = vb false ∧ f' 8 = vi (callDo (tabT G) E).2 ∧ f' 79 = vb (((decide (E.kind = 3)) || (decide ((rAt (mAt G (E.run - 1).toNat).t.slots (E.a).toNat).th = 0))) || chkSees (tabT G) E.run (rAt (mAt G (E.run - 1).toNat).t.slots (E.a).toNat).th)) ∧ gc.grownBy w' none) ?_ ?_)))
 refine Xd (o' := 0) Ja de Z Z ?_
 have dg := (((bq.grown0 al).grown0 bu).gn bf.grw)
 refine Xh (v := vi E.kind) X1 Z (dg.cell Z) Z (X3 (q := decide (E.kind = 3)) Z Z Z Z (Xb (v := vb (decide (E.kind = 3))) Z Z ?_))
 rcases Yf (decide (E.kind = 3)) with ai | ai
 have g7 := of_decide_eq_true ai
 iterate 3 refine Xi rfl rfl rfl ai rfl ?_
 refine Xs (v := vb true) Z ai Z Z (Xb (v := vb true) Z Z ?_)
 iterate 6 refine Xi rfl rfl rfl rfl rfl ?_
 exact Xs (v := vb true) Z Z Z Z (Xc ⟨⟨ca, cc, (congrArg Value.bool (by first | (simp only [ag, ah, ab, ai, ac, ad, V, b0, b1, b2, b3, b4, b5, b6, b7, b8, b9]; done) | simp [ag, ah, ab, ai, ac, ad, V]))⟩, (World.grownBy.refl _ _)⟩)
 have g8 := of_decide_eq_false ai
 refine Xf Z Z Z ai (Xd (o' := 0) Yz cd Z Z (Xf Z Z Z ai (Xh (v := vi (rAt (mAt G (E.run - 1).toNat).t.slots (E.a).toNat).th) X1 Z (bf.blk.cell Z) Z (Xf Z Z Z ai (X3 (q := decide ((rAt (mAt G (E.run - 1).toNat).t.slots (E.a).toNat).th = 0)) Z Z Z Z (Xo (v := vb (decide ((rAt (mAt G (E.run - 1).toNat).t.slots (E.a).toNat).th = 0))) Z ai Z Z (Xb (v := vb (decide ((rAt (mAt G (E.run - 1).toNat).t.slots (E.a).toNat).th = 0))) Z Z ?_)))))))
 rcases Yf (decide ((rAt (mAt G (E.run - 1).toNat).t.slots (E.a).toNat).th = 0)) with af | af
 have g9 := of_decide_eq_true af
 iterate 6 refine Xi rfl rfl rfl af rfl ?_
 exact Xs (v := vb true) Z af Z Z (Xc ⟨⟨ca, cc, (congrArg Value.bool (by first | (simp only [ag, ah, ab, ai, af, ac, ad, V, b0, b1, b2, b3, b4, b5, b6, b7, b8, b9]; done) | simp [ag, ah, ab, ai, af, ac, ad, V]))⟩, (World.grownBy.refl _ _)⟩)
 have ia := of_decide_eq_false af
 refine Xf Z Z Z af (Xb (v := .slice (pa ap) G.length ae) fv Z (Xf Z Z Z af (Xd (o' := 1) Qv de Z Z (Xf Z Z Z af (Xh (v := vi E.run) X1 Z (dg.cell Z) Z (Xf Z Z Z af (Xd (o' := 0) Yz cd Z Z (Xf Z Z Z af (Xh (v := vi (rAt (mAt G (E.run - 1).toNat).t.slots (E.a).toNat).th) X1 Z (bf.blk.cell Z) Z (Xf Z Z Z af (Xl O8 (Xg Z (Xg Z (Xg Z Xk))) Z (P9 E.run (rAt (mAt G (E.run - 1).toNat).t.slots (E.a).toNat).th (by omega) _ G _ _ (TabG.at (TabG.ge (TabG.low bc bu) bf.grw df (by omega))) az (by omega)) ?_)))))))))))
 rintro _ i9 ⟨rfl, dn⟩
 exact Xo (v := vb (chkSees (tabT G) E.run (rAt (mAt G (E.run - 1).toNat).t.slots (E.a).toNat).th)) Z af Z Z (Xc ⟨⟨ca, cc, (congrArg Value.bool (by first | (simp only [ag, ah, ab, ai, af, ac, ad, V, b0, b1, b2, b3, b4, b5, b6, b7, b8, b9]; done) | simp [ag, ah, ab, ai, af, ac, ad, V]))⟩, dn⟩)
 rintro g1 gf ⟨⟨g0, ce, fw⟩, dp⟩
 have cj := low0 (low1 (low0 bt bu) bf.grw (by omega)) dp
 refine Xy fw (fun aq => ?_) (fun aq => ?_)
 refine Xa (Xe (v := vb true) Z Z (Xc (Xt (Yk (⟨vb true, Yp Z Z, ?_, cj⟩)))))
 rfl
 have ba := Kq aq
 have bd := Kq ba
 have ib := of_decide_eq_false bd
 have be := Kr ba
 have ic := of_decide_eq_false be
 have bl := Kr aq
 refine Xw (Xu (X7 (fun f' w' => (f' 2 = vb (((decide ((callDo (tabT G) E).2 = (-1))) || (decide ((callDo (tabT G) E).2 = (-2)))) || (decide ((callDo (tabT G) E).2 = 0)))) ∧ gf = w') ?_ ?_))
 refine Xb (v := vi (callDo (tabT G) E).2) ce Z (X3 (q := decide ((callDo (tabT G) E).2 = (-1))) Z Z Z Z (Xb (v := vb (decide ((callDo (tabT G) E).2 = (-1)))) Z Z ?_))
 rcases Yf (decide ((callDo (tabT G) E).2 = (-1))) with aj | aj
 have ie := of_decide_eq_true aj
 exact Xi Z Z Z aj Z (Xi Z Z Z aj Z (Xs (v := vb true) Z aj Z Z (Xb (v := vb true) Z Z (Xi Z Z Z Z Z (Xi Z Z Z Z Z (Xs (v := vb true) Z Z Z Z (Xe (v := vb true) Z Z (Xc ⟨(congrArg Value.bool (by first | (simp only [ag, ah, ab, aq, ba, bd, be, bl, aj, ac, ad, V, b0, b1, b2, b3, b4, b5, b6, b7, b8, b9]; done) | simp [ag, ah, ab, aq, ba, bd, be, bl, aj, ac, ad, V])), Z⟩))))))))
 have ig := of_decide_eq_false aj
 refine Xf Z Z Z aj (Xb (v := vi (callDo (tabT G) E).2) ce Z (Xf Z Z Z aj (X3 (q := decide ((callDo (tabT G) E).2 = (-2))) Z Z Z Z (Xo (v := vb (decide ((callDo (tabT G) E).2 = (-2)))) Z aj Z Z (Xb (v := vb (decide ((callDo (tabT G) E).2 = (-2)))) Z Z ?_)))))
 rcases Yf (decide ((callDo (tabT G) E).2 = (-2))) with am | am
 have ii := of_decide_eq_true am
 exact Xi Z Z Z am Z (Xi Z Z Z am Z (Xs (v := vb true) Z am Z Z (Xe (v := vb true) Z Z (Xc ⟨(congrArg Value.bool (by first | (simp only [ag, ah, ab, aq, ba, bd, be, bl, aj, am, ac, ad, V, b0, b1, b2, b3, b4, b5, b6, b7, b8, b9]; done) | simp [ag, ah, ab, aq, ba, bd, be, bl, aj, am, ac, ad, V])), Z⟩))))
 have ij := of_decide_eq_false am
 exact Xf Z Z Z am (Xb (v := vi (callDo (tabT G) E).2) ce Z (Xf Z Z Z am (X3 (q := decide ((callDo (tabT G) E).2 = 0)) Z Z Z Z (Xo (v := vb (decide ((callDo (tabT G) E).2 = 0))) Z am Z Z (Xe (v := vb (decide ((callDo (tabT G) E).2 = 0))) Z Z (Xc ⟨(congrArg Value.bool (by first | (simp only [ag, ah, ab, aq, ba, bd, be, bl, aj, am, ac, ad, V, b0, b1, b2, b3, b4, b5, b6, b7, b8, b9]; done) | simp [ag, ah, ab, aq, ba, bd, be, bl, aj, am, ac, ad, V])), Z⟩))))))
 rintro g2 ja ⟨fx, rfl⟩
 refine Xt (⟨vb (((decide ((callDo (tabT G) E).2 = (-1))) || (decide ((callDo (tabT G) E).2 = (-2)))) || (decide ((callDo (tabT G) E).2 = 0))), Yp Z fx, ?_, cj⟩)
 exact congrArg Value.bool (D2 ab aq)
end Go.Proofs.YtjpgffmkcmcolaaGreatDoor
end
