/- Laws and walks: my templates, and what a program of mine (gen.py) printed out of the functions; only what the row reaches. -/
import Derived.Test.YtjpgffmkcmcolaaGreatDoorT25
section
namespace Go.Dw
set_option linter.unusedVariables false
set_option linter.unusedSimpArgs false
section
variable {ts : List Th} {q : Cl}
theorem W2 (hp : callPoss ts q = true) (h : 0 ≤ doAns ts q) : check1 ts q = 0 := by
  have hr := Kj ts q
  by_cases h0 : check1 ts q < 0
  · have := (Wl h0).1
    omega
  · omega
theorem Ht (hp : callPoss ts q = true) (h0 : check1 ts q = 0) (h3 : ¬ q.kind = 3) : (1 ≤ (slotAt ts q.run q.a).th ∧ (slotAt ts q.run q.a).th ≤ (ts.length : Int)) ∧ kindFor q.kind (thAt ts (slotAt ts q.run q.a).th).kind = true ∧ (need0 q.kind = true → sees ts q.run (slotAt ts q.run q.a).th = true) := by
  have e := Jr hp
  have h := Ni (ts := ts) (q := q) (by omega) h3
  exact ⟨h.1, h.2.1, (Rj (ts := ts) (q := q) (by omega) (by omega) h3).1⟩
theorem Wa (hp : callPoss ts q = true) (h0 : check1 ts q = 0) (h3 : ¬ q.kind = 3) : FarOk ts q (slotAt ts q.run q.a) := by
  have h := Ht hp h0 h3
  obtain ⟨hT, hc, hr⟩ := Yh hp
  exact ⟨hT, hc, hr, h.1, h.2.1, h3⟩
theorem Ri (hp : callPoss ts q = true) {j : Int} (hj : 1 ≤ j) (hne : ¬ j = q.run) : thAt (doCall ts q).1 j = thAt (doPre ts q) j := by
  rw [U8]
  unfold setNum
  rw [Ji (Gx hp) j hj, if_neg hne]
theorem Md (hp : callPoss ts q = true) (h0 : check1 ts q = 0) (h3 : ¬ q.kind = 3) : ¬ (slotAt ts q.run q.a).th = q.run := fun e => by
  have h := Ht hp h0 h3
  have hr := (Qn (Yh hp).2.2).2
  have hc := Yq (Yh hp).2.1
  have hk := Q0 h.2.1 hc.1
  rw [e, hr] at hk
  omega
theorem B2 (hp : callPoss ts q = true) (h2 : q.kind = 2) (ha : 0 ≤ doAns ts q) : doAns ts q = 0 ∧ thAt (doCall ts q).1 (slotAt ts q.run q.a).th = if live ts (slotAt ts q.run q.a) = true then { thAt ts (slotAt ts q.run q.a).th with num := q.n } else thAt ts (slotAt ts q.run q.a).th := by
  have h3 : ¬ q.kind = 3 := by omega
  have h0 := W2 hp ha
  have hF := Wa hp h0 h3
  rw [Ri hp hF.th.1 (Md hp h0 h3)]
  cases hl : live ts (slotAt ts q.run q.a) with
  | false => rw [(U7 h0 h3 hl).1, (U7 h0 h3 hl).2]; exact ⟨rfl, rfl⟩
  | true =>
    have h := Wh rfl h0 h3 hl hF
    have hf : far ts q (slotAt ts q.run q.a) = (setNum ts (slotAt ts q.run q.a).th q.n, 0) := by
      unfold far
      rw [if_neg (by omega), if_pos h2]
    rw [hf] at h
    rw [h.1, h.2]
    refine ⟨by split <;> rfl, ?_⟩
    show thAt (setTh ts _ _) _ = _
    rw [Ji hF.th _ hF.th.1, if_pos rfl, if_pos rfl]
theorem R3 (hp : callPoss ts q = true) : callPoss (doCall ts q).1 q = true := by
  obtain ⟨hT, hc, hr⟩ := Yh hp
  have h := Uj hp
  have hr := Qn hr
  unfold callPoss
  rw [h.1, hc, Mu (by rw [h.2.1]; exact hr.1) ((h.2.2 _ hr.1.1).trans hr.2)]
  rfl
def Kept (n : Int) (a b : Th) : Prop := (a.kind = 1 → b.num = a.num ∨ b.num = 0 ∨ b.num = n ∨ b.num = n % 2) ∧ ∀ v ∈ b.queue, v = n ∨ v ∈ a.queue
theorem Kept.refl (n : Int) (a : Th) : Kept n a a := ⟨fun _ => Or.inl rfl, fun _ h => Or.inr h⟩
section
variable {ms xs : List MTh}
theorem Nc (hp : callPoss (tabT ms) q = true) : (callDo (tabT ms) q).2 = doAns (tabT ms) q := by rw [Qs hp, Um]
theorem Bw (ht : tabT xs = (callDo (tabT ms) q).1) (hp : callPoss (tabT ms) q = true) (k : Int) : (mAt xs (k - 1).toNat).t = thAt (doCall (tabT ms) q).1 k := by rw [Qw, ht, Qs hp]
theorem Hi (ht : tabT xs = (callDo (tabT ms) q).1) (hp : callPoss (tabT ms) q = true) : (mAt xs (q.run - 1).toNat).t.slots.length = 4 := by
  have h := R3 hp
  have h2 := (Yh h)
  rw [← Qs hp, ← ht] at h2
  exact Qp h2.1 h2.2.2
theorem R0 (hp : callPoss (tabT ms) q = true) : tabLive (tabT ms) (rAt (mAt ms (q.run - 1).toNat).t.slots q.a.toNat) = live (tabT ms) (slotAt (tabT ms) q.run q.a) := by
  obtain ⟨hT, hc, hr⟩ := Yh hp
  rw [Jq, To hT hr]
theorem Ff (ht : tabT xs = (callDo (tabT ms) q).1) (hp : callPoss (tabT ms) q = true) (h : ((!decide (q.kind = 2)) || decide ((callDo (tabT ms) q).2 < 0)) = false) :
    (1 ≤ (rAt (mAt ms (q.run - 1).toNat).t.slots q.a.toNat).th ∧ (rAt (mAt ms (q.run - 1).toNat).t.slots q.a.toNat).th ≤ (ms.length : Int)) ∧ (callDo (tabT ms) q).2 = 0 ∧ (mAt xs ((rAt (mAt ms (q.run - 1).toNat).t.slots q.a.toNat).th - 1).toNat).t = if tabLive (tabT ms) (rAt (mAt ms (q.run - 1).toNat).t.slots q.a.toNat) = true then { (mAt ms ((rAt (mAt ms (q.run - 1).toNat).t.slots q.a.toNat).th - 1).toNat).t with num := q.n } else (mAt ms ((rAt (mAt ms (q.run - 1).toNat).t.slots q.a.toNat).th - 1).toNat).t := by
  simp only [Bool.or_eq_false_iff, Bool.not_eq_false', decide_eq_true_eq, decide_eq_false_iff_not] at h
  have ha : 0 ≤ doAns (tabT ms) q := by rw [← Nc hp]; omega
  have hw := B2 hp h.1 ha
  have hf := Ht hp (W2 hp ha) (by omega)
  rw [Qd] at hf
  rw [R0 hp, Jq, Nc hp, Bw ht hp, Qw]
  exact ⟨hf.1, hw⟩
end
end
end Go.Dw
end
section
namespace Go.Proofs.YtjpgffmkcmcolaaGreatDoor
open Go.RowKit Go.Dw
set_option maxRecDepth 100000
set_option maxHeartbeats 4000000
set_option linter.unusedSimpArgs false
set_option linter.unusedVariables false
theorem Va : goFn Tryz.prog 15 = true := by kernel_rfl
theorem Vb : goFn Tryz.prog 16 = true := by kernel_rfl
theorem K8 : goFn Tryz.prog 17 = true := by kernel_rfl
theorem Kc : goFn Tryz.prog 18 = true := by kernel_rfl
theorem Vc : goFn Tryz.prog 19 = true := by kernel_rfl
theorem Ci : goFn Tryz.prog 24 = true := by kernel_rfl
theorem law_FnDoWrite (bs : List Int) (a : Option Addr) (c : Nat) (w : World) (i4 : SlAt w a 1 (bs.map bcell)) (hb : ∀ b ∈ bs, 0 ≤ b ∧ b ≤ 255) (hn : bs.length ≤ 9223372036854775807) (hc : bs.length ≤ c) (hE : ErrT w) : CallsR Tryz.prog 9 #[.slice a bs.length c] w (fun v w' => v = .bool true ∧ w.grownBy w' none) := by
 refine Xx (n := 96) Tryz.func9 Z Tryz.ntmps9 Z ?_
 have d6 := World.grownBy.refl w none
 have hs := SlAt.lt Kl (by omega) i4
 refine Xa (Xe (v := vb false) Z Z (Xc (Xq (Xa (Xb (v := .slice a bs.length c) Z Z (Yu (by kernel_rfl) Z Z (Jd (q := decide (1048576 < (bs.length : Int))) Z Z Z Z (Xc (Xy Z (fun bd => ?_) (fun bd => ?_))))))))))
 have j1 := of_decide_eq_true bd
 refine Xa (Xe (v := vb true) Z Z (Xc (Xt (Yk (⟨vb true, Yp Z Z, ?_, d6⟩)))))
 rfl
 have j2 := of_decide_eq_false bd
 refine Xw (Xu (Xa (Xb (v := .slice a bs.length c) Z Z (Xl Va (Xg Z Xk) Z (J0 bs a c _ (SlAt.low i4 d6) hb (by omega) (by omega)) ?_))))
 rintro _ kf ⟨ak, ac, G, E, rfl, ba, dp, jb, jv, d8⟩
 have co := low0 d6 d8
 have aq := dp.len
 refine Xb (v := .tuple #[.slice (pa ak) G.length ac, .agg #[vi E.kind, vi E.run, vi E.a, vi E.b, vi E.n]]) Z Z (X4 (v := .slice (pa ak) G.length ac) Z Z Z (X4 (v := .agg #[vi E.kind, vi E.run, vi E.a, vi E.b, vi E.n]) Z Z Z (Ye (cs := #[vi 0, vi 0, vi 0, vi 0, vi 0]) Uh Z Z ?_)))
 intro bv kg ae
 have je := Yj ae co
 refine Xe (v := .slice (pa ak) G.length ac) Z Z (X0 (vs := [vi E.kind, vi E.run, vi E.a, vi E.b, vi E.n]) (cs' := #[vi E.kind, vi E.run, vi E.a, vi E.b, vi E.n]) Y1 Z Z Z (by simp [Value.oneCell']) ae.blk (Nat.le_of_ble_eq_true Z) Z ?_)
 intro kh am
 refine Xc (Xa (Xb (v := .slice (pa ak) G.length ac) Z Z (Xp (vs := [vi E.kind, vi E.run, vi E.a, vi E.b, vi E.n]) Y1 Z Z (am.blk.rangeL 0 5 Z) Z ?_)))
 have jl := (am.blk).lt
 refine Xl Vb (Xg Z (Xg Z Xk)) Z (Ku E _ G _ _ (TabG.at (TabG.low ba (low1 ae.grw am.grw (nt ((World.grownBy.refl _ none)).size (Nat.le_of_eq ae.eq.symm))))) aq (by omega)) ?_
 rintro _ ki ⟨bw, aw, av, rfl, di, bk, bh⟩
 have ct := low0 (low1 (low0 co ae.grw) am.grw (by omega)) bh
 have ck := Q3 bk
 have jp := Qo bk
 refine Xb (v := .tuple #[.slice (pa bw) av.length aw, vi (callDo (tabT G) E).2]) Z Z (X4 (v := .slice (pa bw) av.length aw) Z Z Z (X4 (v := vi (callDo (tabT G) E).2) Z Z Z (Xe (v := .slice (pa bw) av.length aw) Z Z (Xe (v := vi (callDo (tabT G) E).2) Z Z (Xc (Xa (Xb (v := .slice (pa ak) G.length ac) Z Z ?_)))))))
 have da := (am.blk.grown0 bh)
 refine Xp (vs := [vi E.kind, vi E.run, vi E.a, vi E.b, vi E.n]) Y1 Z Z (da.rangeL 0 5 Z) Z ?_
 have jm := (da).lt
 refine Xl K8 (Xg Z (Xg Z Xk)) Z (K2 E _ G _ _ (TabG.at (TabG.low ba (low0 (low1 ae.grw am.grw (nt ((World.grownBy.refl _ none)).size (Nat.le_of_eq ae.eq.symm))) bh))) aq (by omega) (ErrT.grown0 hE ct)) ?_
 rintro _ kj ⟨ap, ad, J, rfl, bp, au, bi⟩
 have bc := Q3 au
 have jq := Qo au
 refine Xb (v := .tuple #[.slice ap J.length ad, vi (callDo (tabT G) E).2]) Z Z (X4 (v := .slice ap J.length ad) Z Z Z (X4 (v := vi (callDo (tabT G) E).2) Z Z Z (Xe (v := .slice ap J.length ad) Z Z (Xe (v := vi (callDo (tabT G) E).2) Z Z (Xc (Xq (Xa (Xb (v := vi (callDo (tabT G) E).2) Z Z (Xb (v := vi (callDo (tabT G) E).2) Z Z (Y8 (q := false) Z Z (by simp) Z (Xb (v := vb false) Z Z (Xf Z Z Z Z ?_))))))))))))
 refine Xb (v := .slice ap J.length ad) Z Z (Xf Z Z Z Z (Xb (v := .slice (pa bw) av.length aw) Z Z (Xf Z Z Z Z ?_)))
 have bq := (TabG.low di bi)
 refine Xl Kc (Xg Z (Xg Z Xk)) Z (Q9 _ J av _ _ _ _ (TabG.at bp) (TabG.at bq) bc ck (by omega) (by omega)) ?_
 rintro _ kk ⟨rfl, ao⟩
 refine Xf Z Z Z Z (Yl (b' := false) (congrArg Value.bool (decide_eq_true (au.trans bk.symm))) Z Z (Xo (v := vb false) Z Z Z Z (Xb (v := vb false) Z Z (Xf Z Z Z Z (Xb (v := .slice (pa ak) G.length ac) Z Z (Xf Z Z Z Z ?_))))))
 have bn := ((da.grown0 bi).grown0 ao)
 refine Xp (vs := [vi E.kind, vi E.run, vi E.a, vi E.b, vi E.n]) Y1 Z Z (bn.rangeL 0 5 Z) Z (Xf Z Z Z Z (Xl Vc (Xg Z (Xg Z Xk)) Z (Vl E _ G _ _ (TabG.at (TabG.low ba (low0 (low0 (low0 (low1 ae.grw am.grw (nt ((World.grownBy.refl _ none)).size (Nat.le_of_eq ae.eq.symm))) bh) bi) ao))) aq (by omega)) ?_))
 rintro _ bz ⟨rfl, ag⟩
 have bu := low0 (low0 (low0 ct bi) ao) ag
 refine Xf Z Z Z Z (Yl (b' := !callPoss (tabT G) E) Z Z Z (Xo (v := vb (!callPoss (tabT G) E)) Z Z Z Z (Xc (Xy Z (fun be => ?_) (fun be => ?_)))))
 have j3 := Q2 be
 refine Xa (Xb (v := vi (callDo (tabT G) E).2) Z Z (Xb (v := vi (callDo (tabT G) E).2) Z Z (X3 (q := true) Z Z (by simp) Z (Xb (v := vb true) Z Z (Xf Z Z Z Z (Xb (v := .slice ap J.length ad) Z Z (Xf Z Z Z Z (Xb (v := .slice (pa bw) av.length aw) Z Z (Xf Z Z Z Z (Xl Kc (Xg Z (Xg Z Xk)) Z (Q9 _ J av _ _ _ _ (TabG.at (TabG.low (TabG.low bp ao) ag)) (TabG.at (TabG.low (TabG.low bq ao) ag)) bc ck (by omega) (by omega)) ?_))))))))))
 rintro _ kl ⟨rfl, d9⟩
 refine Xs (v := vb true) Z Z (congrArg Value.bool (decide_eq_true (au.trans bk.symm))) Z (Xe (v := vb true) Z Z (Xc (Xt (Yk (⟨vb true, Yp Z Z, ?_, (low0 bu d9)⟩)))))
 rfl
 have al := Qx be
 obtain ⟨a8, bg, ar⟩ := Yh al
 have jc := Yq bg
 have jd := (Y3 ar).1
 have jt := Qp a8 ar
 have jo := Jb a8
 have hde := Qs al
 have hrk := Qn (Yh al).2.2
 have jr := Q1 bk al
 have js := Q1 au al
 obtain ⟨hi, hhi⟩ : ∃ n, n = bz.heap.size := ⟨_, rfl⟩
 have bb := (TabG.low ba (low0 (low0 (low0 (low0 (low1 ae.grw am.grw (nt ((World.grownBy.refl _ none)).size (Nat.le_of_eq ae.eq.symm))) bh) bi) ao) ag))
 have cj := TabG.hi bb
 rw [← hhi] at cj
 have i0 := TabG.hi (TabG.low (TabG.low bq ao) ag)
 rw [← hhi] at i0
 have br := (TabG.low (TabG.low bp ao) ag)
 have bm := TabG.hi br
 rw [← hhi] at bm
 have ja := Hi au al
 refine Xw (Xu (Xq (X7 (fun f' w' => (f' 2 = vb false ∧ f' 3 = .slice (pa ak) G.length ac ∧ f' 4 = pt bv 0 ∧ f' 7 = .slice ap J.length ad ∧ f' 8 = vi (callDo (tabT G) E).2 ∧ f' 60 = vb ((!(decide (E.kind = 2))) || (decide ((callDo (tabT G) E).2 < 0)))) ∧ bz = w') ?_ ?_)))
 refine Xd (o' := 0) Ja Z Z Z (Xh (v := vi E.kind) X1 Z ((bn.grown0 ag).cell Z) Z (Y8 (q := !(decide (E.kind = 2))) Z Z Z Z (Xb (v := vb (!(decide (E.kind = 2)))) Z Z ?_)))
 rcases Yf (!(decide (E.kind = 2))) with ai | ai
 have cl := Q2 ai
 have j4 := of_decide_eq_false cl
 exact Xi Z Z Z ai Z (Xi Z Z Z ai Z (Xs (v := vb true) Z ai Z Z (Xc ⟨⟨Z, Z, Z, Z, Z, (congrArg Value.bool (by first | (simp only [bd, be, al, ai, cl, a8, bg, ar, b0, b1, b2, b3, b4, b5, b6, b7, b8, b9]; done) | simp [bd, be, al, ai, cl, a8, bg, ar]))⟩, Z⟩)))
 have cm := Qx ai
 have j5 := of_decide_eq_true cm
 exact Xf Z Z Z ai (Xb (v := vi (callDo (tabT G) E).2) Z Z (Xf Z Z Z ai (Qa (q := decide ((callDo (tabT G) E).2 < 0)) Z Z Z Z (Xo (v := vb (decide ((callDo (tabT G) E).2 < 0))) Z ai Z Z (Xc ⟨⟨Z, Z, Z, Z, Z, (congrArg Value.bool (by first | (simp only [bd, be, al, ai, cm, a8, bg, ar, b0, b1, b2, b3, b4, b5, b6, b7, b8, b9]; done) | simp [bd, be, al, ai, cm, a8, bg, ar]))⟩, Z⟩)))))
 rintro jz km ⟨⟨fj, fk, fm, fo, fp, fq⟩, rfl⟩
 refine Xy fq (fun cd => ?_) (fun cd => ?_)
 refine Xa (Xe (v := vb true) Z Z (Xc (Xt (Yk (⟨vb true, Yp Z Z, ?_, bu⟩)))))
 rfl
 obtain ⟨ju, d7, cx⟩ := Ff au al cd
 have V : (decide ((callDo (tabT G) E).2 = 0)) = true := decide_eq_true d7
 have ix := Kq cd
 have iy := Qx ix
 have j6 := of_decide_eq_true iy
 have iz := Kr cd
 have j7 := of_decide_eq_false iz
 refine Xw (Xu (Xq ?_))
 obtain ⟨dt, j9, de, d1, ew, fa⟩ := SlAt.at (TabG.at bb).1 (Yi (xg G (E.run - 1).toNat))
 have jh := TabLen.at aq (xg G (E.run - 1).toNat)
 obtain ⟨fg, ka, i5, d2, ex, fb⟩ := SlAt.at (TabAt.th (TabG.at bb) (xg G (E.run - 1).toNat)).1 (Yi (xr (mAt G (E.run - 1).toNat).t.slots (E.a).toNat))
 have jw : hi ≤ bz.heap.size := (Nat.le_of_eq hhi)
 refine Qy (m := 12) [[], [], [1], [1, 2], [0, 1, 2, 3], [0, 1, 2, 3, 4], [0, 1, 2, 3, 4, 5], [], [7], [0, 1, 2, 3, 4, 5, 6, 7, 8], [0, 1, 2, 3, 4, 5, 6, 7, 8, 9], [], [0, 1, 2, 3, 4, 5, 6, 7, 8, 9, 10, 11]] (fun S F w' => ∃ (O : Nat), bz.grownBy w' none ∧ F 2 = vb false ∧ F 3 = .slice (pa ak) G.length ac ∧ F 4 = pt bv 0 ∧ F 7 = .slice ap J.length ad ∧ F 8 = vi (callDo (tabT G) E).2 ∧ (S 11 = true → F 9 = pt O 0 ∧ w.heap.size ≤ O ∧ Blk w' O 42 #[vi 0, vi 0, vb false, vb false, vb false] ∧ bv < O ∧ bz.heap.size ≤ O) ∧ Vals S F [(0, 61, .slice (pa ak) G.length ac), (1, 62, pt bv 1), (2, 63, vi E.run), (3, 64, vi (E.run - 1)), (4, 65, pt dt de), (5, 66, pt dt (de + 5)), (6, 67, .slice (mAt G (E.run - 1).toNat).sa (mAt G (E.run - 1).toNat).t.slots.length (mAt G (E.run - 1).toNat).sc), (7, 68, pt bv 2), (8, 69, vi E.a), (9, 70, pt fg i5), (10, 71, .agg #[vi (rAt (mAt G (E.run - 1).toNat).t.slots (E.a).toNat).th, vi (rAt (mAt G (E.run - 1).toNat).t.slots (E.a).toNat).ve, vb (rAt (mAt G (E.run - 1).toNat).t.slots (E.a).toNat).rd, vb (rAt (mAt G (E.run - 1).toNat).t.slots (E.a).toNat).wr, vb (rAt (mAt G (E.run - 1).toNat).t.slots (E.a).toNat).wk])]) Yy (by kernel_rfl) ⟨0, X6 _, fj, fk, fm, fo, fp, Yt, J3 _⟩ ?_ ?_
 refine Xj (fun S F kn hS hbef hcl hI => ?_) ?_
 obtain ⟨O, ed, fr, du, ft, fu, fv, ab, hvs⟩ := hI
 exact Xb (v := .slice (pa ak) G.length ac) du Z (Xc ⟨O, ed, fr, du, ft, fu, fv, ab, Vals.up 0 hvs Z Z Z⟩)
 refine Xj (fun S F ko hS hbef hcl hI => ?_) ?_
 obtain ⟨O, ee, fw, fx, dv, fy, fz, ab, hvs⟩ := hI
 exact Xd (o' := 1) Qv dv Z Z (Xc ⟨O, ee, fw, fx, dv, fy, fz, ab, Vals.up 1 hvs Z Z Z⟩)
 refine Xj (fun S F kp hS hbef hcl hI => ?_) ?_
 obtain ⟨O, cy, f8, f9, ga, gb, gc, ab, hvs⟩ := hI
 exact Xh (v := vi E.run) X1 (Vals.at 1 hvs Z (Xm 1 hbef Z)) (((bn.grown0 ag).grown0 cy).cell Z) Z (Xc ⟨O, cy, f8, f9, ga, gb, gc, ab, Vals.up 2 hvs Z Z Z⟩)
 refine Xj (fun S F kq hS hbef hcl hI => ?_) ?_
 obtain ⟨O, ef, gf, gg, gh, gi, gj, ab, hvs⟩ := hI
 exact Ys (c := E.run - 1) (Vals.at 2 hvs Z (Xm 2 hbef Z)) Z (by omega) (by omega) (by omega) Z (Xc ⟨O, ef, gf, gg, gh, gi, gj, ab, Vals.up 3 hvs Z Z Z⟩)
 refine Xj (fun S F kr hS hbef hcl hI => ?_) ?_
 obtain ⟨O, eg, gk, gl, gm, gp, gq, ab, hvs⟩ := hI
 exact Xz Y2 (Vals.at 0 hvs Z (Xm 0 hbef Z)) (Vals.at 3 hvs Z (Xm 3 hbef Z)) d1 ew (by omega) (by omega) Z (Xc ⟨O, eg, gk, gl, gm, gp, gq, ab, Vals.up 4 hvs Z Z Z⟩)
 refine Xj (fun S F ks hS hbef hcl hI => ?_) ?_
 obtain ⟨O, eh, gr, gt, gu, gv, gw, ab, hvs⟩ := hI
 exact Xd (o' := de + 5) Qj (Vals.at 4 hvs Z (Xm 4 hbef Z)) Z Z (Xc ⟨O, eh, gr, gt, gu, gv, gw, ab, Vals.up 5 hvs Z Z Z⟩)
 refine Xj (fun S F kt hS hbef hcl hI => ?_) ?_
 obtain ⟨O, cz, gx, gy, gz, g0, g1, ab, hvs⟩ := hI
 exact Xh (v := .slice (mAt G (E.run - 1).toNat).sa (mAt G (E.run - 1).toNat).t.slots.length (mAt G (E.run - 1).toNat).sc) Jh (Vals.at 5 hvs Z (Xm 5 hbef Z)) ((X9 fa cz) 5 _ Z) Z (Xc ⟨O, cz, gx, gy, gz, g0, g1, ab, Vals.up 6 hvs Z Z Z⟩)
 refine Xj (fun S F ku hS hbef hcl hI => ?_) ?_
 obtain ⟨O, ei, g2, g3, dw, g5, g6, ab, hvs⟩ := hI
 exact Xd (o' := 2) Km dw Z Z (Xc ⟨O, ei, g2, g3, dw, g5, g6, ab, Vals.up 7 hvs Z Z Z⟩)
 refine Xj (fun S F kv hS hbef hcl hI => ?_) ?_
 obtain ⟨O, c8, g7, g8, g9, ia, ib, ab, hvs⟩ := hI
 exact Xh (v := vi E.a) X1 (Vals.at 7 hvs Z (Xm 7 hbef Z)) (((bn.grown0 ag).grown0 c8).cell Z) Z (Xc ⟨O, c8, g7, g8, g9, ia, ib, ab, Vals.up 8 hvs Z Z Z⟩)
 refine Xj (fun S F kw hS hbef hcl hI => ?_) ?_
 obtain ⟨O, ej, ic, ie, ig, ii, ij, ab, hvs⟩ := hI
 exact Xz Ka (Vals.at 6 hvs Z (Xm 6 hbef Z)) (Vals.at 8 hvs Z (Xm 8 hbef Z)) d2 ex (by omega) (by omega) Z (Xc ⟨O, ej, ic, ie, ig, ii, ij, ab, Vals.up 9 hvs Z Z Z⟩)
 refine Xj (fun S F kx hS hbef hcl hI => ?_) ?_
 obtain ⟨O, c9, ik, il, im, io, ip, ab, hvs⟩ := hI
 exact Xp (vs := [vi (rAt (mAt G (E.run - 1).toNat).t.slots (E.a).toNat).th, vi (rAt (mAt G (E.run - 1).toNat).t.slots (E.a).toNat).ve, vb (rAt (mAt G (E.run - 1).toNat).t.slots (E.a).toNat).rd, vb (rAt (mAt G (E.run - 1).toNat).t.slots (E.a).toNat).wr, vb (rAt (mAt G (E.run - 1).toNat).t.slots (E.a).toNat).wk]) Yx (Vals.at 9 hvs Z (Xm 9 hbef Z)) Z (Yr (X9 fb c9) 0 5 Z) Z (Xc ⟨O, c9, ik, il, im, io, ip, ab, Vals.up 10 hvs Z Z Z⟩)
 refine Xj (fun S F ky hS hbef hcl hI => ?_) ?_
 obtain ⟨O, bj, iq, ir, it, iu, iv, ab, hvs⟩ := hI
 refine Ye (cs := #[vi 0, vi 0, vb false, vb false, vb false]) Kz Z Z ?_
 intro dr kz az
 have dq := Yj az (low0 bu bj)
 have i1 : hi ≤ dr := nt (nt (Nat.le_of_eq hhi) bj.size) (Nat.le_of_eq az.eq.symm)
 have bl := Xr az (((bn.grown0 ag).grown0 bj)).lt
 exact Xc ⟨dr, (low0 bj az.grw), iq, ir, it, iu, iv, fun _ => ⟨Z, dq, az.blk, bl, (nt bj.size (Nat.le_of_eq az.eq.symm))⟩, Vals.keep hvs Z⟩
 exact Q5
 intro S F k0 hall hI
 obtain ⟨O, a9, jy, dx, iw, dy, dz, ab, hvs⟩ := hI
 obtain ⟨bx, jf, dc, df, i3⟩ := ab (hall 11 (by decide))
 refine X0 (vs := [vi (rAt (mAt G (E.run - 1).toNat).t.slots (E.a).toNat).th, vi (rAt (mAt G (E.run - 1).toNat).t.slots (E.a).toNat).ve, vb (rAt (mAt G (E.run - 1).toNat).t.slots (E.a).toNat).rd, vb (rAt (mAt G (E.run - 1).toNat).t.slots (E.a).toNat).wr, vb (rAt (mAt G (E.run - 1).toNat).t.slots (E.a).toNat).wk]) (cs' := #[vi (rAt (mAt G (E.run - 1).toNat).t.slots (E.a).toNat).th, vi (rAt (mAt G (E.run - 1).toNat).t.slots (E.a).toNat).ve, vb (rAt (mAt G (E.run - 1).toNat).t.slots (E.a).toNat).rd, vb (rAt (mAt G (E.run - 1).toNat).t.slots (E.a).toNat).wr, vb (rAt (mAt G (E.run - 1).toNat).t.slots (E.a).toNat).wk]) Yx bx (Vals.at 10 hvs Z (hall 10 (by decide))) Z (by simp [Value.oneCell']) dc (Nat.le_of_ble_eq_true Z) Z ?_
 intro k3 aj
 have cv := low1 (low0 bu a9) aj.grw (by omega)
 refine Xc (Xu (Xa (Xb (v := .slice (pa ak) G.length ac) dx Z (Xd (o' := 0) Yz bx Z Z (Xh (v := vi (rAt (mAt G (E.run - 1).toNat).t.slots (E.a).toNat).th) X1 Z (aj.blk.cell Z) Z (Ys (c := (rAt (mAt G (E.run - 1).toNat).t.slots (E.a).toNat).th - 1) Z Z (by omega) (by omega) (by omega) Z ?_))))))
 have ce := (TabG.ge (TabG.low bb a9) aj.grw cj (by omega))
 obtain ⟨jx, kb, j8, d3, ey, fc⟩ := SlAt.at (TabG.at ce).1 (Yi (xg G ((rAt (mAt G (E.run - 1).toNat).t.slots (E.a).toNat).th - 1).toNat))
 have ji := TabLen.at aq (xg G ((rAt (mAt G (E.run - 1).toNat).t.slots (E.a).toNat).th - 1).toNat)
 refine Xz Y2 Z Z d3 ey (by omega) (by omega) Z (Xp (vs := [vi (mAt G ((rAt (mAt G (E.run - 1).toNat).t.slots (E.a).toNat).th - 1).toNat).t.kind, vi (mAt G ((rAt (mAt G (E.run - 1).toNat).t.slots (E.a).toNat).th - 1).toNat).t.lab.s, vi (mAt G ((rAt (mAt G (E.run - 1).toNat).t.slots (E.a).toNat).th - 1).toNat).t.lab.v, vi (mAt G ((rAt (mAt G (E.run - 1).toNat).t.slots (E.a).toNat).th - 1).toNat).t.ve, vi (mAt G ((rAt (mAt G (E.run - 1).toNat).t.slots (E.a).toNat).th - 1).toNat).t.num, .slice (mAt G ((rAt (mAt G (E.run - 1).toNat).t.slots (E.a).toNat).th - 1).toNat).sa (mAt G ((rAt (mAt G (E.run - 1).toNat).t.slots (E.a).toNat).th - 1).toNat).t.slots.length (mAt G ((rAt (mAt G (E.run - 1).toNat).t.slots (E.a).toNat).th - 1).toNat).sc, .slice (mAt G ((rAt (mAt G (E.run - 1).toNat).t.slots (E.a).toNat).th - 1).toNat).qa (mAt G ((rAt (mAt G (E.run - 1).toNat).t.slots (E.a).toNat).th - 1).toNat).t.queue.length (mAt G ((rAt (mAt G (E.run - 1).toNat).t.slots (E.a).toNat).th - 1).toNat).qc, vi (mAt G ((rAt (mAt G (E.run - 1).toNat).t.slots (E.a).toNat).th - 1).toNat).t.to]) Y0 Z Z (Yr fc 0 8 Z) Z (Ye (cs := #[vi 0, vi 0, vi 0, vi 0, vi 0, .slice none 0 0, .slice none 0 0, vi 0]) Kw Z Z ?_))
 intro ff k4 af
 have jg := Yj af cv
 have i2 : hi ≤ ff := nt (nt (nt (Nat.le_of_eq hhi) a9.size) aj.grw.size) (Nat.le_of_eq af.eq.symm)
 have d0 := (((bn.grown0 ag).grown0 a9).gn aj.grw)
 have dg := Xr af (d0).lt
 have dh := Xr af (aj.blk).lt
 refine X0 (vs := [vi (mAt G ((rAt (mAt G (E.run - 1).toNat).t.slots (E.a).toNat).th - 1).toNat).t.kind, vi (mAt G ((rAt (mAt G (E.run - 1).toNat).t.slots (E.a).toNat).th - 1).toNat).t.lab.s, vi (mAt G ((rAt (mAt G (E.run - 1).toNat).t.slots (E.a).toNat).th - 1).toNat).t.lab.v, vi (mAt G ((rAt (mAt G (E.run - 1).toNat).t.slots (E.a).toNat).th - 1).toNat).t.ve, vi (mAt G ((rAt (mAt G (E.run - 1).toNat).t.slots (E.a).toNat).th - 1).toNat).t.num, .slice (mAt G ((rAt (mAt G (E.run - 1).toNat).t.slots (E.a).toNat).th - 1).toNat).sa (mAt G ((rAt (mAt G (E.run - 1).toNat).t.slots (E.a).toNat).th - 1).toNat).t.slots.length (mAt G ((rAt (mAt G (E.run - 1).toNat).t.slots (E.a).toNat).th - 1).toNat).sc, .slice (mAt G ((rAt (mAt G (E.run - 1).toNat).t.slots (E.a).toNat).th - 1).toNat).qa (mAt G ((rAt (mAt G (E.run - 1).toNat).t.slots (E.a).toNat).th - 1).toNat).t.queue.length (mAt G ((rAt (mAt G (E.run - 1).toNat).t.slots (E.a).toNat).th - 1).toNat).qc, vi (mAt G ((rAt (mAt G (E.run - 1).toNat).t.slots (E.a).toNat).th - 1).toNat).t.to]) (cs' := #[vi (mAt G ((rAt (mAt G (E.run - 1).toNat).t.slots (E.a).toNat).th - 1).toNat).t.kind, vi (mAt G ((rAt (mAt G (E.run - 1).toNat).t.slots (E.a).toNat).th - 1).toNat).t.lab.s, vi (mAt G ((rAt (mAt G (E.run - 1).toNat).t.slots (E.a).toNat).th - 1).toNat).t.lab.v, vi (mAt G ((rAt (mAt G (E.run - 1).toNat).t.slots (E.a).toNat).th - 1).toNat).t.ve, vi (mAt G ((rAt (mAt G (E.run - 1).toNat).t.slots (E.a).toNat).th - 1).toNat).t.num, .slice (mAt G ((rAt (mAt G (E.run - 1).toNat).t.slots (E.a).toNat).th - 1).toNat).sa (mAt G ((rAt (mAt G (E.run - 1).toNat).t.slots (E.a).toNat).th - 1).toNat).t.slots.length (mAt G ((rAt (mAt G (E.run - 1).toNat).t.slots (E.a).toNat).th - 1).toNat).sc, .slice (mAt G ((rAt (mAt G (E.run - 1).toNat).t.slots (E.a).toNat).th - 1).toNat).qa (mAt G ((rAt (mAt G (E.run - 1).toNat).t.slots (E.a).toNat).th - 1).toNat).t.queue.length (mAt G ((rAt (mAt G (E.run - 1).toNat).t.slots (E.a).toNat).th - 1).toNat).qc, vi (mAt G ((rAt (mAt G (E.run - 1).toNat).t.slots (E.a).toNat).th - 1).toNat).t.to]) Y0 Z Z Z (by simp [Value.oneCell']) af.blk (Nat.le_of_ble_eq_true Z) Z ?_
 intro k5 an
 refine Xc (Xq (Xa (Xb (v := .slice (pa ak) G.length ac) dx Z ?_)))
 have db := ((aj.blk.grown0 af.grw).gn an.grw)
 refine Xp (vs := [vi (rAt (mAt G (E.run - 1).toNat).t.slots (E.a).toNat).th, vi (rAt (mAt G (E.run - 1).toNat).t.slots (E.a).toNat).ve, vb (rAt (mAt G (E.run - 1).toNat).t.slots (E.a).toNat).rd, vb (rAt (mAt G (E.run - 1).toNat).t.slots (E.a).toNat).wr, vb (rAt (mAt G (E.run - 1).toNat).t.slots (E.a).toNat).wk]) Yx bx Z (db.rangeL 0 5 Z) Z ?_
 have bt := (TabG.ge (TabG.low ce af.grw) an.grw cj (by omega))
 refine Xl Ci (Xg Z (Xg Z Xk)) Z (Hq (rAt (mAt G (E.run - 1).toNat).t.slots (E.a).toNat) _ G _ _ (TabG.at bt) aq (by omega)) ?_
 rintro _ i8 ⟨rfl, ah⟩
 have cw := low0 (low1 (low0 cv af.grw) an.grw (by omega)) ah
 refine Xc (Xy Z (fun cn => ?_) (fun cn => ?_))
 refine X2 (Xd (o' := 4) Jk iw Z Z (Xh (v := vi E.n) X1 Z ((((d0.grown0 af.grw).gn an.grw).grown0 ah).cell Z) Z (Xd (o' := 4) Q6 Z Z Z (Yg (v := vi E.n) (cs' := #[vi (mAt G ((rAt (mAt G (E.run - 1).toNat).t.slots (E.a).toNat).th - 1).toNat).t.kind, vi (mAt G ((rAt (mAt G (E.run - 1).toNat).t.slots (E.a).toNat).th - 1).toNat).t.lab.s, vi (mAt G ((rAt (mAt G (E.run - 1).toNat).t.slots (E.a).toNat).th - 1).toNat).t.lab.v, vi (mAt G ((rAt (mAt G (E.run - 1).toNat).t.slots (E.a).toNat).th - 1).toNat).t.ve, vi E.n, .slice (mAt G ((rAt (mAt G (E.run - 1).toNat).t.slots (E.a).toNat).th - 1).toNat).sa (mAt G ((rAt (mAt G (E.run - 1).toNat).t.slots (E.a).toNat).th - 1).toNat).t.slots.length (mAt G ((rAt (mAt G (E.run - 1).toNat).t.slots (E.a).toNat).th - 1).toNat).sc, .slice (mAt G ((rAt (mAt G (E.run - 1).toNat).t.slots (E.a).toNat).th - 1).toNat).qa (mAt G ((rAt (mAt G (E.run - 1).toNat).t.slots (E.a).toNat).th - 1).toNat).t.queue.length (mAt G ((rAt (mAt G (E.run - 1).toNat).t.slots (E.a).toNat).th - 1).toNat).qc, vi (mAt G ((rAt (mAt G (E.run - 1).toNat).t.slots (E.a).toNat).th - 1).toNat).t.to]) X1 Z Z Z (an.blk.grown0 ah) (Nat.le_of_ble_eq_true Z) Z ?_))))
 intro i9 bf
 refine Xc (Xu (Xq ?_))
 have cf := (TabG.ge (TabG.low (TabG.ge (TabG.low (TabG.ge (TabG.low br a9) aj.grw bm (by omega)) af.grw) an.grw bm (by omega)) ah) bf.grw bm (by omega))
 obtain ⟨fh, kc, i6, d4, ez, fd⟩ := SlAt.at (TabG.at cf).1 (Yi (xg J ((rAt (mAt G (E.run - 1).toNat).t.slots (E.a).toNat).th - 1).toNat))
 have jj := TabLen.at bc (xg J ((rAt (mAt G (E.run - 1).toNat).t.slots (E.a).toNat).th - 1).toNat)
 refine Yw (m := 10) (vals := [(84, vi (callDo (tabT G) E).2), (85, vb (decide ((callDo (tabT G) E).2 = 0))), (86, vb (decide ((callDo (tabT G) E).2 = 0))), (87, .slice ap J.length ad), (88, pt O 0), (89, vi (rAt (mAt G (E.run - 1).toNat).t.slots (E.a).toNat).th), (90, vi ((rAt (mAt G (E.run - 1).toNat).t.slots (E.a).toNat).th - 1)), (91, pt fh i6), (92, .agg #[vi (mAt J ((rAt (mAt G (E.run - 1).toNat).t.slots (E.a).toNat).th - 1).toNat).t.kind, vi (mAt J ((rAt (mAt G (E.run - 1).toNat).t.slots (E.a).toNat).th - 1).toNat).t.lab.s, vi (mAt J ((rAt (mAt G (E.run - 1).toNat).t.slots (E.a).toNat).th - 1).toNat).t.lab.v, vi (mAt J ((rAt (mAt G (E.run - 1).toNat).t.slots (E.a).toNat).th - 1).toNat).t.ve, vi (mAt J ((rAt (mAt G (E.run - 1).toNat).t.slots (E.a).toNat).th - 1).toNat).t.num, .slice (mAt J ((rAt (mAt G (E.run - 1).toNat).t.slots (E.a).toNat).th - 1).toNat).sa (mAt J ((rAt (mAt G (E.run - 1).toNat).t.slots (E.a).toNat).th - 1).toNat).t.slots.length (mAt J ((rAt (mAt G (E.run - 1).toNat).t.slots (E.a).toNat).th - 1).toNat).sc, .slice (mAt J ((rAt (mAt G (E.run - 1).toNat).t.slots (E.a).toNat).th - 1).toNat).qa (mAt J ((rAt (mAt G (E.run - 1).toNat).t.slots (E.a).toNat).th - 1).toNat).t.queue.length (mAt J ((rAt (mAt G (E.run - 1).toNat).t.slots (E.a).toNat).th - 1).toNat).qc, vi (mAt J ((rAt (mAt G (E.run - 1).toNat).t.slots (E.a).toNat).th - 1).toNat).t.to]), (93, .agg #[vi (mAt G ((rAt (mAt G (E.run - 1).toNat).t.slots (E.a).toNat).th - 1).toNat).t.kind, vi (mAt G ((rAt (mAt G (E.run - 1).toNat).t.slots (E.a).toNat).th - 1).toNat).t.lab.s, vi (mAt G ((rAt (mAt G (E.run - 1).toNat).t.slots (E.a).toNat).th - 1).toNat).t.lab.v, vi (mAt G ((rAt (mAt G (E.run - 1).toNat).t.slots (E.a).toNat).th - 1).toNat).t.ve, vi E.n, .slice (mAt G ((rAt (mAt G (E.run - 1).toNat).t.slots (E.a).toNat).th - 1).toNat).sa (mAt G ((rAt (mAt G (E.run - 1).toNat).t.slots (E.a).toNat).th - 1).toNat).t.slots.length (mAt G ((rAt (mAt G (E.run - 1).toNat).t.slots (E.a).toNat).th - 1).toNat).sc, .slice (mAt G ((rAt (mAt G (E.run - 1).toNat).t.slots (E.a).toNat).th - 1).toNat).qa (mAt G ((rAt (mAt G (E.run - 1).toNat).t.slots (E.a).toNat).th - 1).toNat).t.queue.length (mAt G ((rAt (mAt G (E.run - 1).toNat).t.slots (E.a).toNat).th - 1).toNat).qc, vi (mAt G ((rAt (mAt G (E.run - 1).toNat).t.slots (E.a).toNat).th - 1).toNat).t.to])]) (fun w' => i9.grownBy w' none) Yy (by kernel_rfl) (X6 _) ?_ ?_
 refine yl Z (fun _ _ k => Xb (v := vi (callDo (tabT G) E).2) dz Z k) (yl Z (fun _ _ k => X3 (q := decide ((callDo (tabT G) E).2 = 0)) Z Z Z Z k) (yl Z (fun _ _ k => Xb (v := vb (decide ((callDo (tabT G) E).2 = 0))) Z Z k) (yl Z (fun _ _ k => Xf Z Z Z V (Xb (v := .slice ap J.length ad) dy Z k)) (yl Z (fun _ _ k => Xf Z Z Z V (Xd (o' := 0) Yz bx Z Z k)) (yl Z (fun _ ek k => Xf Z Z Z V (Xh (v := vi (rAt (mAt G (E.run - 1).toNat).t.slots (E.a).toNat).th) X1 Z ((((db.grown0 ah).gn bf.grw).grown0 ek).cell Z) Z k)) (yl Z (fun _ _ k => Xf Z Z Z V (Ys (c := (rAt (mAt G (E.run - 1).toNat).t.slots (E.a).toNat).th - 1) Z Z (by omega) (by omega) (by omega) Z k)) (yl Z (fun _ _ k => Xf Z Z Z V (Xz Y2 Z Z d4 ez (by omega) (by omega) Z k)) (yl Z (fun _ em k => Xf Z Z Z V (Xp (vs := [vi (mAt J ((rAt (mAt G (E.run - 1).toNat).t.slots (E.a).toNat).th - 1).toNat).t.kind, vi (mAt J ((rAt (mAt G (E.run - 1).toNat).t.slots (E.a).toNat).th - 1).toNat).t.lab.s, vi (mAt J ((rAt (mAt G (E.run - 1).toNat).t.slots (E.a).toNat).th - 1).toNat).t.lab.v, vi (mAt J ((rAt (mAt G (E.run - 1).toNat).t.slots (E.a).toNat).th - 1).toNat).t.ve, vi (mAt J ((rAt (mAt G (E.run - 1).toNat).t.slots (E.a).toNat).th - 1).toNat).t.num, .slice (mAt J ((rAt (mAt G (E.run - 1).toNat).t.slots (E.a).toNat).th - 1).toNat).sa (mAt J ((rAt (mAt G (E.run - 1).toNat).t.slots (E.a).toNat).th - 1).toNat).t.slots.length (mAt J ((rAt (mAt G (E.run - 1).toNat).t.slots (E.a).toNat).th - 1).toNat).sc, .slice (mAt J ((rAt (mAt G (E.run - 1).toNat).t.slots (E.a).toNat).th - 1).toNat).qa (mAt J ((rAt (mAt G (E.run - 1).toNat).t.slots (E.a).toNat).th - 1).toNat).t.queue.length (mAt J ((rAt (mAt G (E.run - 1).toNat).t.slots (E.a).toNat).th - 1).toNat).qc, vi (mAt J ((rAt (mAt G (E.run - 1).toNat).t.slots (E.a).toNat).th - 1).toNat).t.to]) Y0 Z Z (Yr (X9 fd em) 0 8 Z) Z k)) ?_))))))))
 exact yl Z (fun _ eo k => Xf Z Z Z V (Xp (vs := [vi (mAt G ((rAt (mAt G (E.run - 1).toNat).t.slots (E.a).toNat).th - 1).toNat).t.kind, vi (mAt G ((rAt (mAt G (E.run - 1).toNat).t.slots (E.a).toNat).th - 1).toNat).t.lab.s, vi (mAt G ((rAt (mAt G (E.run - 1).toNat).t.slots (E.a).toNat).th - 1).toNat).t.lab.v, vi (mAt G ((rAt (mAt G (E.run - 1).toNat).t.slots (E.a).toNat).th - 1).toNat).t.ve, vi E.n, .slice (mAt G ((rAt (mAt G (E.run - 1).toNat).t.slots (E.a).toNat).th - 1).toNat).sa (mAt G ((rAt (mAt G (E.run - 1).toNat).t.slots (E.a).toNat).th - 1).toNat).t.slots.length (mAt G ((rAt (mAt G (E.run - 1).toNat).t.slots (E.a).toNat).th - 1).toNat).sc, .slice (mAt G ((rAt (mAt G (E.run - 1).toNat).t.slots (E.a).toNat).th - 1).toNat).qa (mAt G ((rAt (mAt G (E.run - 1).toNat).t.slots (E.a).toNat).th - 1).toNat).t.queue.length (mAt G ((rAt (mAt G (E.run - 1).toNat).t.slots (E.a).toNat).th - 1).toNat).qc, vi (mAt G ((rAt (mAt G (E.run - 1).toNat).t.slots (E.a).toNat).th - 1).toNat).t.to]) Y0 Z Z ((bf.blk.grown0 eo).rangeL 0 8 Z) Z k)) Y5
 intro k6 ca
 refine Xf Z Z Z V ?_
 have dk := (TabG.low cf ca)
 have dl := (TabG.low (TabG.ge (TabG.low bt ah) bf.grw cj (by omega)) ca)
 refine Xl Hu (Xg Z (Xg Z Xk)) Z (Vv (mAt J ((rAt (mAt G (E.run - 1).toNat).t.slots (E.a).toNat).th - 1).toNat) (⟨⟨(mAt G ((rAt (mAt G (E.run - 1).toNat).t.slots (E.a).toNat).th - 1).toNat).t.kind, (mAt G ((rAt (mAt G (E.run - 1).toNat).t.slots (E.a).toNat).th - 1).toNat).t.lab, (mAt G ((rAt (mAt G (E.run - 1).toNat).t.slots (E.a).toNat).th - 1).toNat).t.ve, E.n, (mAt G ((rAt (mAt G (E.run - 1).toNat).t.slots (E.a).toNat).th - 1).toNat).t.slots, (mAt G ((rAt (mAt G (E.run - 1).toNat).t.slots (E.a).toNat).th - 1).toNat).t.queue, (mAt G ((rAt (mAt G (E.run - 1).toNat).t.slots (E.a).toNat).th - 1).toNat).t.to⟩, (mAt G ((rAt (mAt G (E.run - 1).toNat).t.slots (E.a).toNat).th - 1).toNat).sa, (mAt G ((rAt (mAt G (E.run - 1).toNat).t.slots (E.a).toNat).th - 1).toNat).sc, (mAt G ((rAt (mAt G (E.run - 1).toNat).t.slots (E.a).toNat).th - 1).toNat).qa, (mAt G ((rAt (mAt G (E.run - 1).toNat).t.slots (E.a).toNat).th - 1).toNat).qc⟩ : MTh) _ (TabAt.th (TabG.at dk) (xg J ((rAt (mAt G (E.run - 1).toNat).t.slots (E.a).toNat).th - 1).toNat)) (by have hh := (TabAt.th (TabG.at dl) (xg G ((rAt (mAt G (E.run - 1).toNat).t.slots (E.a).toNat).th - 1).toNat)); exact hh) ⟨by first | omega | exact Nat.le_of_ble_eq_true Z | (simp only [List.length_nil, List.length_cons, List.length_append, List.length_replicate]; omega), by first | omega | exact Nat.le_of_ble_eq_true Z | (simp only [List.length_nil, List.length_cons, List.length_append, List.length_replicate]; omega)⟩ ⟨by first | omega | exact Nat.le_of_ble_eq_true Z | (simp only [List.length_nil, List.length_cons, List.length_append, List.length_replicate]; omega), by first | omega | exact Nat.le_of_ble_eq_true Z | (simp only [List.length_nil, List.length_cons, List.length_append, List.length_replicate]; omega)⟩) ?_
 rintro _ k7 ⟨rfl, ea⟩
 refine Xs (v := vb (decide ((mAt J ((rAt (mAt G (E.run - 1).toNat).t.slots (E.a).toNat).th - 1).toNat).t = (⟨(mAt G ((rAt (mAt G (E.run - 1).toNat).t.slots (E.a).toNat).th - 1).toNat).t.kind, (mAt G ((rAt (mAt G (E.run - 1).toNat).t.slots (E.a).toNat).th - 1).toNat).t.lab, (mAt G ((rAt (mAt G (E.run - 1).toNat).t.slots (E.a).toNat).th - 1).toNat).t.ve, E.n, (mAt G ((rAt (mAt G (E.run - 1).toNat).t.slots (E.a).toNat).th - 1).toNat).t.slots, (mAt G ((rAt (mAt G (E.run - 1).toNat).t.slots (E.a).toNat).th - 1).toNat).t.queue, (mAt G ((rAt (mAt G (E.run - 1).toNat).t.slots (E.a).toNat).th - 1).toNat).t.to⟩ : Th)))) Z V Z Z (Xe (v := vb (decide ((mAt J ((rAt (mAt G (E.run - 1).toNat).t.slots (E.a).toNat).th - 1).toNat).t = (⟨(mAt G ((rAt (mAt G (E.run - 1).toNat).t.slots (E.a).toNat).th - 1).toNat).t.kind, (mAt G ((rAt (mAt G (E.run - 1).toNat).t.slots (E.a).toNat).th - 1).toNat).t.lab, (mAt G ((rAt (mAt G (E.run - 1).toNat).t.slots (E.a).toNat).th - 1).toNat).t.ve, E.n, (mAt G ((rAt (mAt G (E.run - 1).toNat).t.slots (E.a).toNat).th - 1).toNat).t.slots, (mAt G ((rAt (mAt G (E.run - 1).toNat).t.slots (E.a).toNat).th - 1).toNat).t.queue, (mAt G ((rAt (mAt G (E.run - 1).toNat).t.slots (E.a).toNat).th - 1).toNat).t.to⟩ : Th)))) Z Z (Xc (Xu (Xt (⟨vb (decide ((mAt J ((rAt (mAt G (E.run - 1).toNat).t.slots (E.a).toNat).th - 1).toNat).t = (⟨(mAt G ((rAt (mAt G (E.run - 1).toNat).t.slots (E.a).toNat).th - 1).toNat).t.kind, (mAt G ((rAt (mAt G (E.run - 1).toNat).t.slots (E.a).toNat).th - 1).toNat).t.lab, (mAt G ((rAt (mAt G (E.run - 1).toNat).t.slots (E.a).toNat).th - 1).toNat).t.ve, E.n, (mAt G ((rAt (mAt G (E.run - 1).toNat).t.slots (E.a).toNat).th - 1).toNat).t.slots, (mAt G ((rAt (mAt G (E.run - 1).toNat).t.slots (E.a).toNat).th - 1).toNat).t.queue, (mAt G ((rAt (mAt G (E.run - 1).toNat).t.slots (E.a).toNat).th - 1).toNat).t.to⟩ : Th))), Yp Z Z, ?_, (low0 (low0 (low1 cw bf.grw (by omega)) ca) ea)⟩)))))
 refine congrArg Value.bool (decide_eq_true ?_)
 rw [cx, if_pos cn]
 refine Xw (Xu (Xq ?_))
 have cg := (TabG.low (TabG.ge (TabG.low (TabG.ge (TabG.low br a9) aj.grw bm (by omega)) af.grw) an.grw bm (by omega)) ah)
 obtain ⟨fi, ke, i7, d5, e0, fe⟩ := SlAt.at (TabG.at cg).1 (Yi (xg J ((rAt (mAt G (E.run - 1).toNat).t.slots (E.a).toNat).th - 1).toNat))
 have jk := TabLen.at bc (xg J ((rAt (mAt G (E.run - 1).toNat).t.slots (E.a).toNat).th - 1).toNat)
 refine Yw (m := 10) (vals := [(84, vi (callDo (tabT G) E).2), (85, vb (decide ((callDo (tabT G) E).2 = 0))), (86, vb (decide ((callDo (tabT G) E).2 = 0))), (87, .slice ap J.length ad), (88, pt O 0), (89, vi (rAt (mAt G (E.run - 1).toNat).t.slots (E.a).toNat).th), (90, vi ((rAt (mAt G (E.run - 1).toNat).t.slots (E.a).toNat).th - 1)), (91, pt fi i7), (92, .agg #[vi (mAt J ((rAt (mAt G (E.run - 1).toNat).t.slots (E.a).toNat).th - 1).toNat).t.kind, vi (mAt J ((rAt (mAt G (E.run - 1).toNat).t.slots (E.a).toNat).th - 1).toNat).t.lab.s, vi (mAt J ((rAt (mAt G (E.run - 1).toNat).t.slots (E.a).toNat).th - 1).toNat).t.lab.v, vi (mAt J ((rAt (mAt G (E.run - 1).toNat).t.slots (E.a).toNat).th - 1).toNat).t.ve, vi (mAt J ((rAt (mAt G (E.run - 1).toNat).t.slots (E.a).toNat).th - 1).toNat).t.num, .slice (mAt J ((rAt (mAt G (E.run - 1).toNat).t.slots (E.a).toNat).th - 1).toNat).sa (mAt J ((rAt (mAt G (E.run - 1).toNat).t.slots (E.a).toNat).th - 1).toNat).t.slots.length (mAt J ((rAt (mAt G (E.run - 1).toNat).t.slots (E.a).toNat).th - 1).toNat).sc, .slice (mAt J ((rAt (mAt G (E.run - 1).toNat).t.slots (E.a).toNat).th - 1).toNat).qa (mAt J ((rAt (mAt G (E.run - 1).toNat).t.slots (E.a).toNat).th - 1).toNat).t.queue.length (mAt J ((rAt (mAt G (E.run - 1).toNat).t.slots (E.a).toNat).th - 1).toNat).qc, vi (mAt J ((rAt (mAt G (E.run - 1).toNat).t.slots (E.a).toNat).th - 1).toNat).t.to]), (93, .agg #[vi (mAt G ((rAt (mAt G (E.run - 1).toNat).t.slots (E.a).toNat).th - 1).toNat).t.kind, vi (mAt G ((rAt (mAt G (E.run - 1).toNat).t.slots (E.a).toNat).th - 1).toNat).t.lab.s, vi (mAt G ((rAt (mAt G (E.run - 1).toNat).t.slots (E.a).toNat).th - 1).toNat).t.lab.v, vi (mAt G ((rAt (mAt G (E.run - 1).toNat).t.slots (E.a).toNat).th - 1).toNat).t.ve, vi (mAt G ((rAt (mAt G (E.run - 1).toNat).t.slots (E.a).toNat).th - 1).toNat).t.num, .slice (mAt G ((rAt (mAt G (E.run - 1).toNat).t.slots (E.a).toNat).th - 1).toNat).sa (mAt G ((rAt (mAt G (E.run - 1).toNat).t.slots (E.a).toNat).th - 1).toNat).t.slots.length (mAt G ((rAt (mAt G (E.run - 1).toNat).t.slots (E.a).toNat).th - 1).toNat).sc, .slice (mAt G ((rAt (mAt G (E.run - 1).toNat).t.slots (E.a).toNat).th - 1).toNat).qa (mAt G ((rAt (mAt G (E.run - 1).toNat).t.slots (E.a).toNat).th - 1).toNat).t.queue.length (mAt G ((rAt (mAt G (E.run - 1).toNat).t.slots (E.a).toNat).th - 1).toNat).qc, vi (mAt G ((rAt (mAt G (E.run - 1).toNat).t.slots (E.a).toNat).th - 1).toNat).t.to])]) (fun w' => i8.grownBy w' none) Yy (by kernel_rfl) (X6 _) ?_ ?_
 refine yl Z (fun _ _ k => Xb (v := vi (callDo (tabT G) E).2) dz Z k) (yl Z (fun _ _ k => X3 (q := decide ((callDo (tabT G) E).2 = 0)) Z Z Z Z k) (yl Z (fun _ _ k => Xb (v := vb (decide ((callDo (tabT G) E).2 = 0))) Z Z k) (yl Z (fun _ _ k => Xf Z Z Z V (Xb (v := .slice ap J.length ad) dy Z k)) (yl Z (fun _ _ k => Xf Z Z Z V (Xd (o' := 0) Yz bx Z Z k)) (yl Z (fun _ ep k => Xf Z Z Z V (Xh (v := vi (rAt (mAt G (E.run - 1).toNat).t.slots (E.a).toNat).th) X1 Z (((db.grown0 ah).grown0 ep).cell Z) Z k)) (yl Z (fun _ _ k => Xf Z Z Z V (Ys (c := (rAt (mAt G (E.run - 1).toNat).t.slots (E.a).toNat).th - 1) Z Z (by omega) (by omega) (by omega) Z k)) (yl Z (fun _ _ k => Xf Z Z Z V (Xz Y2 Z Z d5 e0 (by omega) (by omega) Z k)) (yl Z (fun _ er k => Xf Z Z Z V (Xp (vs := [vi (mAt J ((rAt (mAt G (E.run - 1).toNat).t.slots (E.a).toNat).th - 1).toNat).t.kind, vi (mAt J ((rAt (mAt G (E.run - 1).toNat).t.slots (E.a).toNat).th - 1).toNat).t.lab.s, vi (mAt J ((rAt (mAt G (E.run - 1).toNat).t.slots (E.a).toNat).th - 1).toNat).t.lab.v, vi (mAt J ((rAt (mAt G (E.run - 1).toNat).t.slots (E.a).toNat).th - 1).toNat).t.ve, vi (mAt J ((rAt (mAt G (E.run - 1).toNat).t.slots (E.a).toNat).th - 1).toNat).t.num, .slice (mAt J ((rAt (mAt G (E.run - 1).toNat).t.slots (E.a).toNat).th - 1).toNat).sa (mAt J ((rAt (mAt G (E.run - 1).toNat).t.slots (E.a).toNat).th - 1).toNat).t.slots.length (mAt J ((rAt (mAt G (E.run - 1).toNat).t.slots (E.a).toNat).th - 1).toNat).sc, .slice (mAt J ((rAt (mAt G (E.run - 1).toNat).t.slots (E.a).toNat).th - 1).toNat).qa (mAt J ((rAt (mAt G (E.run - 1).toNat).t.slots (E.a).toNat).th - 1).toNat).t.queue.length (mAt J ((rAt (mAt G (E.run - 1).toNat).t.slots (E.a).toNat).th - 1).toNat).qc, vi (mAt J ((rAt (mAt G (E.run - 1).toNat).t.slots (E.a).toNat).th - 1).toNat).t.to]) Y0 Z Z (Yr (X9 fe er) 0 8 Z) Z k)) ?_))))))))
 exact yl Z (fun _ eu k => Xf Z Z Z V (Xp (vs := [vi (mAt G ((rAt (mAt G (E.run - 1).toNat).t.slots (E.a).toNat).th - 1).toNat).t.kind, vi (mAt G ((rAt (mAt G (E.run - 1).toNat).t.slots (E.a).toNat).th - 1).toNat).t.lab.s, vi (mAt G ((rAt (mAt G (E.run - 1).toNat).t.slots (E.a).toNat).th - 1).toNat).t.lab.v, vi (mAt G ((rAt (mAt G (E.run - 1).toNat).t.slots (E.a).toNat).th - 1).toNat).t.ve, vi (mAt G ((rAt (mAt G (E.run - 1).toNat).t.slots (E.a).toNat).th - 1).toNat).t.num, .slice (mAt G ((rAt (mAt G (E.run - 1).toNat).t.slots (E.a).toNat).th - 1).toNat).sa (mAt G ((rAt (mAt G (E.run - 1).toNat).t.slots (E.a).toNat).th - 1).toNat).t.slots.length (mAt G ((rAt (mAt G (E.run - 1).toNat).t.slots (E.a).toNat).th - 1).toNat).sc, .slice (mAt G ((rAt (mAt G (E.run - 1).toNat).t.slots (E.a).toNat).th - 1).toNat).qa (mAt G ((rAt (mAt G (E.run - 1).toNat).t.slots (E.a).toNat).th - 1).toNat).t.queue.length (mAt G ((rAt (mAt G (E.run - 1).toNat).t.slots (E.a).toNat).th - 1).toNat).qc, vi (mAt G ((rAt (mAt G (E.run - 1).toNat).t.slots (E.a).toNat).th - 1).toNat).t.to]) Y0 Z Z (((an.blk.grown0 ah).grown0 eu).rangeL 0 8 Z) Z k)) Y5
 intro k8 cc
 refine Xf Z Z Z V ?_
 have dm := (TabG.low cg cc)
 have dn := (TabG.low (TabG.low bt ah) cc)
 refine Xl Hu (Xg Z (Xg Z Xk)) Z (Vv (mAt J ((rAt (mAt G (E.run - 1).toNat).t.slots (E.a).toNat).th - 1).toNat) (mAt G ((rAt (mAt G (E.run - 1).toNat).t.slots (E.a).toNat).th - 1).toNat) _ (TabAt.th (TabG.at dm) (xg J ((rAt (mAt G (E.run - 1).toNat).t.slots (E.a).toNat).th - 1).toNat)) (TabAt.th (TabG.at dn) (xg G ((rAt (mAt G (E.run - 1).toNat).t.slots (E.a).toNat).th - 1).toNat)) ⟨by first | omega | exact Nat.le_of_ble_eq_true Z | (simp only [List.length_nil, List.length_cons, List.length_append, List.length_replicate]; omega), by first | omega | exact Nat.le_of_ble_eq_true Z | (simp only [List.length_nil, List.length_cons, List.length_append, List.length_replicate]; omega)⟩ ⟨by first | omega | exact Nat.le_of_ble_eq_true Z | (simp only [List.length_nil, List.length_cons, List.length_append, List.length_replicate]; omega), by first | omega | exact Nat.le_of_ble_eq_true Z | (simp only [List.length_nil, List.length_cons, List.length_append, List.length_replicate]; omega)⟩) ?_
 rintro _ k9 ⟨rfl, eb⟩
 refine Xs (v := vb (decide ((mAt J ((rAt (mAt G (E.run - 1).toNat).t.slots (E.a).toNat).th - 1).toNat).t = (mAt G ((rAt (mAt G (E.run - 1).toNat).t.slots (E.a).toNat).th - 1).toNat).t))) Z V Z Z (Xe (v := vb (decide ((mAt J ((rAt (mAt G (E.run - 1).toNat).t.slots (E.a).toNat).th - 1).toNat).t = (mAt G ((rAt (mAt G (E.run - 1).toNat).t.slots (E.a).toNat).th - 1).toNat).t))) Z Z (Xc (Xu (Xt (⟨vb (decide ((mAt J ((rAt (mAt G (E.run - 1).toNat).t.slots (E.a).toNat).th - 1).toNat).t = (mAt G ((rAt (mAt G (E.run - 1).toNat).t.slots (E.a).toNat).th - 1).toNat).t)), Yp Z Z, ?_, (low0 (low0 cw cc) eb)⟩)))))
 refine congrArg Value.bool (decide_eq_true ?_)
 rw [cx, if_neg (by rw [cn]; exact Bool.false_ne_true)]
end Go.Proofs.YtjpgffmkcmcolaaGreatDoor
end
