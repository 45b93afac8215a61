/- Laws and walks: my templates, and what a program of mine (gen.py) printed out of the functions; only what the row reaches. -/
import Derived.Test.YtjpgffmkcmcolaaGreatDoorT25
section
namespace Go.Dw
set_option linter.unusedVariables false
set_option linter.unusedSimpArgs false
section
variable {ts : List Th} {q : Cl}
theorem Ht (hp : callPoss ts q = true) (h0 : check1 ts q = 0) (h3 : ¬ q.kind = 3) : (1 ≤ (slotAt ts q.run q.a).th ∧ (slotAt ts q.run q.a).th ≤ (ts.length : Int)) ∧ kindFor q.kind (thAt ts (slotAt ts q.run q.a).th).kind = true ∧ (need0 q.kind = true → sees ts q.run (slotAt ts q.run q.a).th = true) := by
  have e := Jr hp
  have h := Ni (ts := ts) (q := q) (by omega) h3
  exact ⟨h.1, h.2.1, (Rj (ts := ts) (q := q) (by omega) (by omega) h3).1⟩
theorem Wa (hp : callPoss ts q = true) (h0 : check1 ts q = 0) (h3 : ¬ q.kind = 3) : FarOk ts q (slotAt ts q.run q.a) := by
  have h := Ht hp h0 h3
  obtain ⟨hT, hc, hr⟩ := Yh hp
  exact ⟨hT, hc, hr, h.1, h.2.1, h3⟩
theorem Ri (hp : callPoss ts q = true) {j : Int} (hj : 1 ≤ j) (hne : ¬ j = q.run) : thAt (doCall ts q).1 j = thAt (doPre ts q) j := by
  rw [U8]
  unfold setNum
  rw [Ji (Gx hp) j hj, if_neg hne]
theorem Md (hp : callPoss ts q = true) (h0 : check1 ts q = 0) (h3 : ¬ q.kind = 3) : ¬ (slotAt ts q.run q.a).th = q.run := fun e => by
  have h := Ht hp h0 h3
  have hr := (Qn (Yh hp).2.2).2
  have hc := Yq (Yh hp).2.1
  have hk := Q0 h.2.1 hc.1
  rw [e, hr] at hk
  omega
theorem Ea (hp : callPoss ts q = true) (h7 : q.kind = 7) (h0 : check1 ts q = 0) : ((thAt ts (slotAt ts q.run q.a).th).queue.length = 0 → doAns ts q = -4 ∧ (thAt (doCall ts q).1 (slotAt ts q.run q.a).th).queue = []) ∧ (¬ (thAt ts (slotAt ts q.run q.a).th).queue.length = 0 → doAns ts q = iAt (thAt ts (slotAt ts q.run q.a).th).queue 0 ∧ (thAt (doCall ts q).1 (slotAt ts q.run q.a).th).queue = (thAt ts (slotAt ts q.run q.a).th).queue.drop 1) := by
  have h3 : ¬ q.kind = 3 := by omega
  have hF := Wa hp h0 h3
  have hfd := Ht hp h0 h3
  have e := Jr hp
  have hs := hfd.2.2 (by unfold need0; rw [if_neg (by omega), if_pos h7])
  have hl := Lh (ts := ts) (q := q) (by omega) h3 hs
  have h := Wh rfl h0 h3 hl hF
  rw [if_pos hs] at h
  have hq := (Hk (Ur hF.tab hF.th).1 ((Q0 hfd.2.1 (Yq hF.call).1).2.2.2.2.2.1 h7)).2
  rw [Ri hp hF.th.1 (Md hp h0 h3)]
  refine ⟨fun he => ?_, fun he => ?_⟩
  · have hf : far ts q (slotAt ts q.run q.a) = (ts, -4) := by
      unfold far
      rw [if_neg (by omega), if_neg (by omega), if_neg (by omega), if_neg (by omega), if_neg (by omega), if_pos h7, if_pos he]
    rw [hf] at h
    rw [h.1, h.2]
    exact ⟨rfl, List.length_eq_zero_iff.1 he⟩
  · have hf : far ts q (slotAt ts q.run q.a) = (setQ ts (slotAt ts q.run q.a).th ((thAt ts (slotAt ts q.run q.a).th).queue.drop 1), iAt (thAt ts (slotAt ts q.run q.a).th).queue 0) := by
      unfold far
      rw [if_neg (by omega), if_neg (by omega), if_neg (by omega), if_neg (by omega), if_neg (by omega), if_pos h7, if_neg he]
    rw [hf] at h
    rw [h.1, h.2]
    refine ⟨rfl, ?_⟩
    show (thAt (setTh ts _ _) _).queue = _
    rw [Ji hF.th _ hF.th.1, if_pos rfl]
theorem R3 (hp : callPoss ts q = true) : callPoss (doCall ts q).1 q = true := by
  obtain ⟨hT, hc, hr⟩ := Yh hp
  have h := Uj hp
  have hr := Qn hr
  unfold callPoss
  rw [h.1, hc, Mu (by rw [h.2.1]; exact hr.1) ((h.2.2 _ hr.1.1).trans hr.2)]
  rfl
def Kept (n : Int) (a b : Th) : Prop := (a.kind = 1 → b.num = a.num ∨ b.num = 0 ∨ b.num = n ∨ b.num = n % 2) ∧ ∀ v ∈ b.queue, v = n ∨ v ∈ a.queue
theorem Kept.refl (n : Int) (a : Th) : Kept n a a := ⟨fun _ => Or.inl rfl, fun _ h => Or.inr h⟩
section
variable {ms xs : List MTh}
theorem Nc (hp : callPoss (tabT ms) q = true) : (callDo (tabT ms) q).2 = doAns (tabT ms) q := by rw [Qs hp, Um]
theorem Bw (ht : tabT xs = (callDo (tabT ms) q).1) (hp : callPoss (tabT ms) q = true) (k : Int) : (mAt xs (k - 1).toNat).t = thAt (doCall (tabT ms) q).1 k := by rw [Qw, ht, Qs hp]
theorem Hi (ht : tabT xs = (callDo (tabT ms) q).1) (hp : callPoss (tabT ms) q = true) : (mAt xs (q.run - 1).toNat).t.slots.length = 4 := by
  have h := R3 hp
  have h2 := (Yh h)
  rw [← Qs hp, ← ht] at h2
  exact Qp h2.1 h2.2.2
theorem O0 (ht : tabT xs = (callDo (tabT ms) q).1) (hp : callPoss (tabT ms) q = true) (h : ((!decide (q.kind = 7)) || decide (chkAll (tabT ms) q < 0)) = false) :
    (1 ≤ (rAt (mAt ms (q.run - 1).toNat).t.slots q.a.toNat).th ∧ (rAt (mAt ms (q.run - 1).toNat).t.slots q.a.toNat).th ≤ (ms.length : Int)) ∧ ((mAt ms ((rAt (mAt ms (q.run - 1).toNat).t.slots q.a.toNat).th - 1).toNat).t.queue.length = 0 → (callDo (tabT ms) q).2 = -4 ∧ (mAt xs ((rAt (mAt ms (q.run - 1).toNat).t.slots q.a.toNat).th - 1).toNat).t.queue = []) ∧ (¬ (mAt ms ((rAt (mAt ms (q.run - 1).toNat).t.slots q.a.toNat).th - 1).toNat).t.queue.length = 0 → (callDo (tabT ms) q).2 = iAt (mAt ms ((rAt (mAt ms (q.run - 1).toNat).t.slots q.a.toNat).th - 1).toNat).t.queue 0 ∧ (mAt xs ((rAt (mAt ms (q.run - 1).toNat).t.slots q.a.toNat).th - 1).toNat).t.queue = (mAt ms ((rAt (mAt ms (q.run - 1).toNat).t.slots q.a.toNat).th - 1).toNat).t.queue.drop 1) := by
  simp only [Bool.or_eq_false_iff, Bool.not_eq_false', decide_eq_true_eq, decide_eq_false_iff_not] at h
  rw [Jr hp] at h
  have hr := Kj (tabT ms) q
  have h0 : check1 (tabT ms) q = 0 := by omega
  have hf := Ht hp h0 (by omega)
  have hw := Ea hp h.1 h0
  rw [Qd] at hf
  rw [Jq, Nc hp, Bw ht hp, Qw]
  exact ⟨hf.1, hw⟩
theorem Eb {l : List Int} {k : Nat} : iAt (l.drop 1) k = iAt l (k + 1) := by
  unfold iAt
  rw [List.getD_eq_getElem?_getD, List.getD_eq_getElem?_getD, List.getElem?_drop, Nat.add_comm]
end
end
end Go.Dw
end
section
namespace Go.Proofs.YtjpgffmkcmcolaaGreatDoor
open Go.RowKit Go.Dw
set_option maxRecDepth 100000
set_option maxHeartbeats 4000000
set_option linter.unusedSimpArgs false
set_option linter.unusedVariables false
theorem Va : goFn Tryz.prog 15 = true := by kernel_rfl
theorem Vb : goFn Tryz.prog 16 = true := by kernel_rfl
theorem K8 : goFn Tryz.prog 17 = true := by kernel_rfl
theorem Kc : goFn Tryz.prog 18 = true := by kernel_rfl
theorem Vc : goFn Tryz.prog 19 = true := by kernel_rfl
theorem law_FnDoTake (bs : List Int) (a : Option Addr) (c : Nat) (w : World) (jd : SlAt w a 1 (bs.map bcell)) (hb : ∀ b ∈ bs, 0 ≤ b ∧ b ≤ 255) (hn : bs.length ≤ 9223372036854775807) (hc : bs.length ≤ c) (hE : ErrT w) : CallsR Tryz.prog 10 #[.slice a bs.length c] w (fun v w' => v = .bool true ∧ w.grownBy w' none) := by
 refine Xx (n := 129) Tryz.func10 Z Tryz.ntmps10 Z ?_
 have ef := World.grownBy.refl w none
 have hs := SlAt.lt Kl (by omega) jd
 refine Xa (Xe (v := vb false) Z Z (Xc (Xq (Xa (Xb (v := .slice a bs.length c) Z Z (Yu (by kernel_rfl) Z Z (Jd (q := decide (1048576 < (bs.length : Int))) Z Z Z Z (Xc (Xy Z (fun a8 => ?_) (fun a8 => ?_))))))))))
 have ki := of_decide_eq_true a8
 refine Xa (Xe (v := vb true) Z Z (Xc (Xt (Yk (⟨vb true, Yp Z Z, ?_, ef⟩)))))
 rfl
 have kj := of_decide_eq_false a8
 refine Xw (Xu (Xa (Xb (v := .slice a bs.length c) Z Z (Xl Va (Xg Z Xk) Z (J0 bs a c _ (SlAt.low jd ef) hb (by omega) (by omega)) ?_))))
 rintro _ k6 ⟨ah, ab, G, E, rfl, az, dl, jo, j8, ei⟩
 have ct := low0 ef ei
 have am := dl.len
 refine Xb (v := .tuple #[.slice (pa ah) G.length ab, .agg #[vi E.kind, vi E.run, vi E.a, vi E.b, vi E.n]]) Z Z (X4 (v := .slice (pa ah) G.length ab) Z Z Z (X4 (v := .agg #[vi E.kind, vi E.run, vi E.a, vi E.b, vi E.n]) Z Z Z (Ye (cs := #[vi 0, vi 0, vi 0, vi 0, vi 0]) Uh Z Z ?_)))
 intro bq k7 ac
 have js := Yj ac ct
 refine Xe (v := .slice (pa ah) G.length ab) Z Z (X0 (vs := [vi E.kind, vi E.run, vi E.a, vi E.b, vi E.n]) (cs' := #[vi E.kind, vi E.run, vi E.a, vi E.b, vi E.n]) Y1 Z Z Z (by simp [Value.oneCell']) ac.blk (Nat.le_of_ble_eq_true Z) Z ?_)
 intro jj aj
 refine Xc (Xa (Xb (v := .slice (pa ah) G.length ab) Z Z (Xp (vs := [vi E.kind, vi E.run, vi E.a, vi E.b, vi E.n]) Y1 Z Z (aj.blk.rangeL 0 5 Z) Z ?_)))
 have jx := (aj.blk).lt
 refine Xl Vb (Xg Z (Xg Z Xk)) Z (Ku E _ G _ _ (TabG.at (TabG.low az (low1 ac.grw aj.grw (nt ((World.grownBy.refl _ none)).size (Nat.le_of_eq ac.eq.symm))))) am (by omega)) ?_
 rintro _ jk ⟨bi, ar, al, rfl, di, bg, bb⟩
 have cv := low0 (low1 (low0 ct ac.grw) aj.grw (by omega)) bb
 have cg := Q3 bg
 have j1 := Qo bg
 refine Xb (v := .tuple #[.slice (pa bi) al.length ar, vi (callDo (tabT G) E).2]) Z Z (X4 (v := .slice (pa bi) al.length ar) Z Z Z (X4 (v := vi (callDo (tabT G) E).2) Z Z Z (Xe (v := .slice (pa bi) al.length ar) Z Z (Xe (v := vi (callDo (tabT G) E).2) Z Z (Xc (Xa (Xb (v := .slice (pa ah) G.length ab) Z Z ?_)))))))
 have dc := (aj.blk.grown0 bb)
 refine Xp (vs := [vi E.kind, vi E.run, vi E.a, vi E.b, vi E.n]) Y1 Z Z (dc.rangeL 0 5 Z) Z ?_
 have jy := (dc).lt
 refine Xl K8 (Xg Z (Xg Z Xk)) Z (K2 E _ G _ _ (TabG.at (TabG.low az (low0 (low1 ac.grw aj.grw (nt ((World.grownBy.refl _ none)).size (Nat.le_of_eq ac.eq.symm))) bb))) am (by omega) (ErrT.grown0 hE cv)) ?_
 rintro _ k8 ⟨au, ad, J, rfl, bj, aq, bc⟩
 have bn := Q3 aq
 have j2 := Qo aq
 refine Xb (v := .tuple #[.slice au J.length ad, vi (callDo (tabT G) E).2]) Z Z (X4 (v := .slice au J.length ad) Z Z Z (X4 (v := vi (callDo (tabT G) E).2) Z Z Z (Xe (v := .slice au J.length ad) Z Z (Xe (v := vi (callDo (tabT G) E).2) Z Z (Xc (Xq (Xa (Xb (v := vi (callDo (tabT G) E).2) Z Z (Xb (v := vi (callDo (tabT G) E).2) Z Z (Y8 (q := false) Z Z (by simp) Z (Xb (v := vb false) Z Z (Xf Z Z Z Z ?_))))))))))))
 refine Xb (v := .slice au J.length ad) Z Z (Xf Z Z Z Z (Xb (v := .slice (pa bi) al.length ar) Z Z (Xf Z Z Z Z ?_)))
 have bk := (TabG.low di bc)
 refine Xl Kc (Xg Z (Xg Z Xk)) Z (Q9 _ J al _ _ _ _ (TabG.at bj) (TabG.at bk) bn cg (by omega) (by omega)) ?_
 rintro _ k9 ⟨rfl, ak⟩
 refine Xf Z Z Z Z (Yl (b' := false) (congrArg Value.bool (decide_eq_true (aq.trans bg.symm))) Z Z (Xo (v := vb false) Z Z Z Z (Xb (v := vb false) Z Z (Xf Z Z Z Z (Xb (v := .slice (pa ah) G.length ab) Z Z (Xf Z Z Z Z ?_))))))
 have bt := ((dc.grown0 bc).grown0 ak)
 refine Xp (vs := [vi E.kind, vi E.run, vi E.a, vi E.b, vi E.n]) Y1 Z Z (bt.rangeL 0 5 Z) Z (Xf Z Z Z Z (Xl Vc (Xg Z (Xg Z Xk)) Z (Vl E _ G _ _ (TabG.at (TabG.low az (low0 (low0 (low0 (low1 ac.grw aj.grw (nt ((World.grownBy.refl _ none)).size (Nat.le_of_eq ac.eq.symm))) bb) bc) ak))) am (by omega)) ?_))
 rintro _ d4 ⟨rfl, af⟩
 have bu := low0 (low0 (low0 cv bc) ak) af
 refine Xf Z Z Z Z (Yl (b' := !callPoss (tabT G) E) Z Z Z (Xo (v := vb (!callPoss (tabT G) E)) Z Z Z Z (Xc (Xy Z (fun a9 => ?_) (fun a9 => ?_)))))
 have kk := Q2 a9
 refine Xa (Xb (v := vi (callDo (tabT G) E).2) Z Z (Xb (v := vi (callDo (tabT G) E).2) Z Z (X3 (q := true) Z Z (by simp) Z (Xb (v := vb true) Z Z (Xf Z Z Z Z (Xb (v := .slice au J.length ad) Z Z (Xf Z Z Z Z (Xb (v := .slice (pa bi) al.length ar) Z Z (Xf Z Z Z Z (Xl Kc (Xg Z (Xg Z Xk)) Z (Q9 _ J al _ _ _ _ (TabG.at (TabG.low (TabG.low bj ak) af)) (TabG.at (TabG.low (TabG.low bk ak) af)) bn cg (by omega) (by omega)) ?_))))))))))
 rintro _ la ⟨rfl, ej⟩
 refine Xs (v := vb true) Z Z (congrArg Value.bool (decide_eq_true (aq.trans bg.symm))) Z (Xe (v := vb true) Z Z (Xc (Xt (Yk (⟨vb true, Yp Z Z, ?_, (low0 bu ej)⟩)))))
 rfl
 have ai := Qx a9
 obtain ⟨aw, ba, an⟩ := Yh ai
 have jq := Yq ba
 have jr := (Y3 an).1
 have j5 := Qp aw an
 have jz := Jb aw
 have hde := Qs ai
 have hrk := Qn (Yh ai).2.2
 have j3 := Q1 bg ai
 have j4 := Q1 aq ai
 obtain ⟨hi, hhi⟩ : ∃ n, n = d4.heap.size := ⟨_, rfl⟩
 have bl := (TabG.low az (low0 (low0 (low0 (low0 (low1 ac.grw aj.grw (nt ((World.grownBy.refl _ none)).size (Nat.le_of_eq ac.eq.symm))) bb) bc) ak) af))
 have d0 := TabG.hi bl
 rw [← hhi] at d0
 have cc := (TabG.low (TabG.low bk ak) af)
 have d1 := TabG.hi cc
 rw [← hhi] at d1
 have cd := (TabG.low (TabG.low bj ak) af)
 have d2 := TabG.hi cd
 rw [← hhi] at d2
 have jm := Hi aq ai
 refine Xw (Xu (Xq (X7 (fun f' w' => (f' 2 = vb false ∧ f' 3 = .slice (pa ah) G.length ab ∧ f' 4 = pt bq 0 ∧ f' 7 = .slice au J.length ad ∧ f' 8 = vi (callDo (tabT G) E).2 ∧ f' 64 = vb ((!(decide (E.kind = 7))) || (decide (chkAll (tabT G) E < 0)))) ∧ d4.grownBy w' none) ?_ ?_)))
 refine Xd (o' := 0) Ja Z Z Z ?_
 have d3 := (bt.grown0 af)
 refine Xh (v := vi E.kind) X1 Z (d3.cell Z) Z (Y8 (q := !(decide (E.kind = 7))) Z Z Z Z (Xb (v := vb (!(decide (E.kind = 7)))) Z Z ?_))
 rcases Yf (!(decide (E.kind = 7))) with ae | ae
 have ck := Q2 ae
 have kl := of_decide_eq_false ck
 iterate 4 refine Xi rfl rfl rfl ae rfl ?_
 exact Xs (v := vb true) Z ae Z Z (Xc ⟨⟨Z, Z, Z, Z, Z, (congrArg Value.bool (by first | (simp only [a8, a9, ai, ae, ck, aw, ba, an, b0, b1, b2, b3, b4, b5, b6, b7, b8, b9]; done) | simp [a8, a9, ai, ae, ck, aw, ba, an]))⟩, (World.grownBy.refl _ _)⟩)
 have cl := Qx ae
 have km := of_decide_eq_true cl
 refine Xf Z Z Z ae (Xb (v := .slice (pa ah) G.length ab) Z Z (Xf Z Z Z ae (Xp (vs := [vi E.kind, vi E.run, vi E.a, vi E.b, vi E.n]) Y1 Z Z (d3.rangeL 0 5 Z) Z (Xf Z Z Z ae (Xl Fl (Xg Z (Xg Z Xk)) Z (Ho E _ G _ _ (TabG.at bl) am (by omega) (ErrT.grown0 hE bu)) ?_)))))
 rintro _ lc ⟨rfl, ek⟩
 have jp := Gs (ts := tabT G) (q := E)
 exact Xf Z Z Z ae (Qa (q := decide (chkAll (tabT G) E < 0)) Z Z Z Z (Xo (v := vb (decide (chkAll (tabT G) E < 0))) Z ae Z Z (Xc ⟨⟨Z, Z, Z, Z, Z, (congrArg Value.bool (by first | (simp only [a8, a9, ai, ae, cl, aw, ba, an, b0, b1, b2, b3, b4, b5, b6, b7, b8, b9]; done) | simp [a8, a9, ai, ae, cl, aw, ba, an]))⟩, ek⟩)))
 rintro kg dg ⟨⟨fu, fv, fw, fx, fy, fz⟩, ag⟩
 have bv := low0 bu ag
 refine Xy fz (fun ca => ?_) (fun ca => ?_)
 refine Xa (Xe (v := vb true) Z Z (Xc (Xt (Yk (⟨vb true, Yp Z Z, ?_, bv⟩)))))
 rfl
 obtain ⟨j6, eg, eh⟩ := O0 aq ai ca
 have i6 := Kq ca
 have i7 := Qx i6
 have kn := of_decide_eq_true i7
 have i8 := Kr ca
 have ko := of_decide_eq_false i8
 refine Xw (Xu (Xq ?_))
 have bm := (TabG.low bl ag)
 obtain ⟨dr, kx, df, d5, e0, fh⟩ := SlAt.at (TabG.at bm).1 (Yi (xg G (E.run - 1).toNat))
 have ju := TabLen.at am (xg G (E.run - 1).toNat)
 obtain ⟨fq, ky, je, d6, fa, fi⟩ := SlAt.at (TabAt.th (TabG.at bm) (xg G (E.run - 1).toNat)).1 (Yi (xr (mAt G (E.run - 1).toNat).t.slots (E.a).toNat))
 have j9 : hi ≤ dg.heap.size := (nt (Nat.le_of_eq hhi) ag.size)
 refine Qy (m := 12) [[], [], [1], [1, 2], [0, 1, 2, 3], [0, 1, 2, 3, 4], [0, 1, 2, 3, 4, 5], [], [7], [0, 1, 2, 3, 4, 5, 6, 7, 8], [0, 1, 2, 3, 4, 5, 6, 7, 8, 9], [], [0, 1, 2, 3, 4, 5, 6, 7, 8, 9, 10, 11]] (fun S F w' => ∃ (O : Nat), dg.grownBy w' none ∧ F 2 = vb false ∧ F 3 = .slice (pa ah) G.length ab ∧ F 4 = pt bq 0 ∧ F 7 = .slice au J.length ad ∧ F 8 = vi (callDo (tabT G) E).2 ∧ (S 11 = true → F 9 = pt O 0 ∧ w.heap.size ≤ O ∧ Blk w' O 42 #[vi 0, vi 0, vb false, vb false, vb false] ∧ bq < O ∧ dg.heap.size ≤ O) ∧ Vals S F [(0, 65, .slice (pa ah) G.length ab), (1, 66, pt bq 1), (2, 67, vi E.run), (3, 68, vi (E.run - 1)), (4, 69, pt dr df), (5, 70, pt dr (df + 5)), (6, 71, .slice (mAt G (E.run - 1).toNat).sa (mAt G (E.run - 1).toNat).t.slots.length (mAt G (E.run - 1).toNat).sc), (7, 72, pt bq 2), (8, 73, vi E.a), (9, 74, pt fq je), (10, 75, .agg #[vi (rAt (mAt G (E.run - 1).toNat).t.slots (E.a).toNat).th, vi (rAt (mAt G (E.run - 1).toNat).t.slots (E.a).toNat).ve, vb (rAt (mAt G (E.run - 1).toNat).t.slots (E.a).toNat).rd, vb (rAt (mAt G (E.run - 1).toNat).t.slots (E.a).toNat).wr, vb (rAt (mAt G (E.run - 1).toNat).t.slots (E.a).toNat).wk])]) Yy (by kernel_rfl) ⟨0, X6 _, fu, fv, fw, fx, fy, Yt, J3 _⟩ ?_ ?_
 refine Xj (fun S F ld hS hbef hcl hI => ?_) ?_
 obtain ⟨O, em, f8, dt, f9, ga, gb, V, hvs⟩ := hI
 exact Xb (v := .slice (pa ah) G.length ab) dt Z (Xc ⟨O, em, f8, dt, f9, ga, gb, V, Vals.up 0 hvs Z Z Z⟩)
 refine Xj (fun S F le hS hbef hcl hI => ?_) ?_
 obtain ⟨O, eo, gc, gf, du, gg, gh, V, hvs⟩ := hI
 exact Xd (o' := 1) Qv du Z Z (Xc ⟨O, eo, gc, gf, du, gg, gh, V, Vals.up 1 hvs Z Z Z⟩)
 refine Xj (fun S F lf hS hbef hcl hI => ?_) ?_
 obtain ⟨O, cz, gi, gj, gk, gl, gm, V, hvs⟩ := hI
 exact Xh (v := vi E.run) X1 (Vals.at 1 hvs Z (Xm 1 hbef Z)) ((((bt.grown0 af).grown0 ag).grown0 cz).cell Z) Z (Xc ⟨O, cz, gi, gj, gk, gl, gm, V, Vals.up 2 hvs Z Z Z⟩)
 refine Xj (fun S F lg hS hbef hcl hI => ?_) ?_
 obtain ⟨O, ep, gp, gq, gr, gt, gu, V, hvs⟩ := hI
 exact Ys (c := E.run - 1) (Vals.at 2 hvs Z (Xm 2 hbef Z)) Z (by omega) (by omega) (by omega) Z (Xc ⟨O, ep, gp, gq, gr, gt, gu, V, Vals.up 3 hvs Z Z Z⟩)
 refine Xj (fun S F lh hS hbef hcl hI => ?_) ?_
 obtain ⟨O, er, gv, gw, gx, gy, gz, V, hvs⟩ := hI
 exact Xz Y2 (Vals.at 0 hvs Z (Xm 0 hbef Z)) (Vals.at 3 hvs Z (Xm 3 hbef Z)) d5 e0 (by omega) (by omega) Z (Xc ⟨O, er, gv, gw, gx, gy, gz, V, Vals.up 4 hvs Z Z Z⟩)
 refine Xj (fun S F li hS hbef hcl hI => ?_) ?_
 obtain ⟨O, eu, g0, g1, g2, g3, g5, V, hvs⟩ := hI
 exact Xd (o' := df + 5) Qj (Vals.at 4 hvs Z (Xm 4 hbef Z)) Z Z (Xc ⟨O, eu, g0, g1, g2, g3, g5, V, Vals.up 5 hvs Z Z Z⟩)
 refine Xj (fun S F lj hS hbef hcl hI => ?_) ?_
 obtain ⟨O, c8, g6, g7, g8, g9, ia, V, hvs⟩ := hI
 exact Xh (v := .slice (mAt G (E.run - 1).toNat).sa (mAt G (E.run - 1).toNat).t.slots.length (mAt G (E.run - 1).toNat).sc) Jh (Vals.at 5 hvs Z (Xm 5 hbef Z)) ((X9 fh c8) 5 _ Z) Z (Xc ⟨O, c8, g6, g7, g8, g9, ia, V, Vals.up 6 hvs Z Z Z⟩)
 refine Xj (fun S F lk hS hbef hcl hI => ?_) ?_
 obtain ⟨O, ew, ib, ic, dv, ie, ig, V, hvs⟩ := hI
 exact Xd (o' := 2) Km dv Z Z (Xc ⟨O, ew, ib, ic, dv, ie, ig, V, Vals.up 7 hvs Z Z Z⟩)
 refine Xj (fun S F ll hS hbef hcl hI => ?_) ?_
 obtain ⟨O, c9, ii, ij, ik, il, im, V, hvs⟩ := hI
 exact Xh (v := vi E.a) X1 (Vals.at 7 hvs Z (Xm 7 hbef Z)) ((((bt.grown0 af).grown0 ag).grown0 c9).cell Z) Z (Xc ⟨O, c9, ii, ij, ik, il, im, V, Vals.up 8 hvs Z Z Z⟩)
 refine Xj (fun S F lm hS hbef hcl hI => ?_) ?_
 obtain ⟨O, ex, io, ip, iq, ir, it, V, hvs⟩ := hI
 exact Xz Ka (Vals.at 6 hvs Z (Xm 6 hbef Z)) (Vals.at 8 hvs Z (Xm 8 hbef Z)) d6 fa (by omega) (by omega) Z (Xc ⟨O, ex, io, ip, iq, ir, it, V, Vals.up 9 hvs Z Z Z⟩)
 refine Xj (fun S F ln hS hbef hcl hI => ?_) ?_
 obtain ⟨O, da, iu, iv, iw, ix, iy, V, hvs⟩ := hI
 exact Xp (vs := [vi (rAt (mAt G (E.run - 1).toNat).t.slots (E.a).toNat).th, vi (rAt (mAt G (E.run - 1).toNat).t.slots (E.a).toNat).ve, vb (rAt (mAt G (E.run - 1).toNat).t.slots (E.a).toNat).rd, vb (rAt (mAt G (E.run - 1).toNat).t.slots (E.a).toNat).wr, vb (rAt (mAt G (E.run - 1).toNat).t.slots (E.a).toNat).wk]) Yx (Vals.at 9 hvs Z (Xm 9 hbef Z)) Z (Yr (X9 fi da) 0 5 Z) Z (Xc ⟨O, da, iu, iv, iw, ix, iy, V, Vals.up 10 hvs Z Z Z⟩)
 refine Xj (fun S F lp hS hbef hcl hI => ?_) ?_
 obtain ⟨O, bd, iz, i0, i1, i2, i3, V, hvs⟩ := hI
 refine Ye (cs := #[vi 0, vi 0, vb false, vb false, vb false]) Kz Z Z ?_
 intro dq lu av
 have dm := Yj av (low0 bv bd)
 have jb : hi ≤ dq := nt (nt (nt (Nat.le_of_eq hhi) ag.size) bd.size) (Nat.le_of_eq av.eq.symm)
 have bh := Xr av ((((bt.grown0 af).grown0 ag).grown0 bd)).lt
 exact Xc ⟨dq, (low0 bd av.grw), iz, i0, i1, i2, i3, fun _ => ⟨Z, dm, av.blk, bh, (nt bd.size (Nat.le_of_eq av.eq.symm))⟩, Vals.keep hvs Z⟩
 exact Q5
 intro S F lv hall hI
 obtain ⟨O, be, ke, i4, kf, i5, dw, V, hvs⟩ := hI
 obtain ⟨cj, jt, de, dh, jc⟩ := V (hall 11 (by decide))
 refine X0 (vs := [vi (rAt (mAt G (E.run - 1).toNat).t.slots (E.a).toNat).th, vi (rAt (mAt G (E.run - 1).toNat).t.slots (E.a).toNat).ve, vb (rAt (mAt G (E.run - 1).toNat).t.slots (E.a).toNat).rd, vb (rAt (mAt G (E.run - 1).toNat).t.slots (E.a).toNat).wr, vb (rAt (mAt G (E.run - 1).toNat).t.slots (E.a).toNat).wk]) (cs' := #[vi (rAt (mAt G (E.run - 1).toNat).t.slots (E.a).toNat).th, vi (rAt (mAt G (E.run - 1).toNat).t.slots (E.a).toNat).ve, vb (rAt (mAt G (E.run - 1).toNat).t.slots (E.a).toNat).rd, vb (rAt (mAt G (E.run - 1).toNat).t.slots (E.a).toNat).wr, vb (rAt (mAt G (E.run - 1).toNat).t.slots (E.a).toNat).wk]) Yx cj (Vals.at 10 hvs Z (hall 10 (by decide))) Z (by simp [Value.oneCell']) de (Nat.le_of_ble_eq_true Z) Z ?_
 intro lw ao
 have cw := low1 (low0 bv be) ao.grw (by omega)
 refine Xc (Xu (Xa (Xb (v := .slice (pa ah) G.length ab) i4 Z (Xd (o' := 0) Yz cj Z Z (Xh (v := vi (rAt (mAt G (E.run - 1).toNat).t.slots (E.a).toNat).th) X1 Z (ao.blk.cell Z) Z (Ys (c := (rAt (mAt G (E.run - 1).toNat).t.slots (E.a).toNat).th - 1) Z Z (by omega) (by omega) (by omega) Z ?_))))))
 have ce := (TabG.ge (TabG.low bm be) ao.grw d0 (by omega))
 obtain ⟨ka, kz, jf, d7, fb, fj⟩ := SlAt.at (TabG.at ce).1 (Yi (xg G ((rAt (mAt G (E.run - 1).toNat).t.slots (E.a).toNat).th - 1).toNat))
 have jv := TabLen.at am (xg G ((rAt (mAt G (E.run - 1).toNat).t.slots (E.a).toNat).th - 1).toNat)
 refine Xz Y2 Z Z d7 fb (by omega) (by omega) Z (Xd (o' := jf + 6) Qt Z Z Z (Xh (v := .slice (mAt G ((rAt (mAt G (E.run - 1).toNat).t.slots (E.a).toNat).th - 1).toNat).qa (mAt G ((rAt (mAt G (E.run - 1).toNat).t.slots (E.a).toNat).th - 1).toNat).t.queue.length (mAt G ((rAt (mAt G (E.run - 1).toNat).t.slots (E.a).toNat).th - 1).toNat).qc) Js Z (fj 6 _ Z) Z (Xe (v := .slice (mAt G ((rAt (mAt G (E.run - 1).toNat).t.slots (E.a).toNat).th - 1).toNat).qa (mAt G ((rAt (mAt G (E.run - 1).toNat).t.slots (E.a).toNat).th - 1).toNat).t.queue.length (mAt G ((rAt (mAt G (E.run - 1).toNat).t.slots (E.a).toNat).th - 1).toNat).qc) Z Z (Xc (Xa (Xb (v := .slice au J.length ad) i5 Z (Xd (o' := 0) Yz cj Z Z (Xh (v := vi (rAt (mAt G (E.run - 1).toNat).t.slots (E.a).toNat).th) X1 Z (ao.blk.cell Z) Z (Ys (c := (rAt (mAt G (E.run - 1).toNat).t.slots (E.a).toNat).th - 1) Z Z (by omega) (by omega) (by omega) Z ?_)))))))))
 have cf := (TabG.ge (TabG.low (TabG.low cd ag) be) ao.grw d2 (by omega))
 obtain ⟨kb, k0, jg, d8, fc, fk⟩ := SlAt.at (TabG.at cf).1 (Yi (xg J ((rAt (mAt G (E.run - 1).toNat).t.slots (E.a).toNat).th - 1).toNat))
 have jw := TabLen.at bn (xg J ((rAt (mAt G (E.run - 1).toNat).t.slots (E.a).toNat).th - 1).toNat)
 refine Xz Y2 Z Z d8 fc (by omega) (by omega) Z (Xd (o' := jg + 6) Qt Z Z Z (Xh (v := .slice (mAt J ((rAt (mAt G (E.run - 1).toNat).t.slots (E.a).toNat).th - 1).toNat).qa (mAt J ((rAt (mAt G (E.run - 1).toNat).t.slots (E.a).toNat).th - 1).toNat).t.queue.length (mAt J ((rAt (mAt G (E.run - 1).toNat).t.slots (E.a).toNat).th - 1).toNat).qc) Js Z (fk 6 _ Z) Z (Xe (v := .slice (mAt J ((rAt (mAt G (E.run - 1).toNat).t.slots (E.a).toNat).th - 1).toNat).qa (mAt J ((rAt (mAt G (E.run - 1).toNat).t.slots (E.a).toNat).th - 1).toNat).t.queue.length (mAt J ((rAt (mAt G (E.run - 1).toNat).t.slots (E.a).toNat).th - 1).toNat).qc) Z Z (Xc (Xq (Xa (Xb (v := .slice (mAt G ((rAt (mAt G (E.run - 1).toNat).t.slots (E.a).toNat).th - 1).toNat).qa (mAt G ((rAt (mAt G (E.run - 1).toNat).t.slots (E.a).toNat).th - 1).toNat).t.queue.length (mAt G ((rAt (mAt G (E.run - 1).toNat).t.slots (E.a).toNat).th - 1).toNat).qc) Z Z (Yu (by kernel_rfl) Z Z (X3 (q := decide (((mAt G ((rAt (mAt G (E.run - 1).toNat).t.slots (E.a).toNat).th - 1).toNat).t.queue.length : Int) = 0)) Z Z Z Z (Xc (Xy Z (fun br => ?_) (fun br => ?_))))))))))))
 obtain ⟨d9, fg⟩ := eg (by have hh := of_decide_eq_true br; omega)
 have dn := congrArg List.length fg
 rw [List.length_nil] at dn
 have bp : (decide ((callDo (tabT G) E).2 = (-4))) = true := decide_eq_true d9
 have kp := of_decide_eq_true br
 refine Xa (Xb (v := vi (callDo (tabT G) E).2) dw Z (X3 (q := decide ((callDo (tabT G) E).2 = (-4))) Z Z Z Z (Xb (v := vb (decide ((callDo (tabT G) E).2 = (-4)))) Z Z (Xf Z Z Z bp (Xb (v := .slice (mAt J ((rAt (mAt G (E.run - 1).toNat).t.slots (E.a).toNat).th - 1).toNat).qa (mAt J ((rAt (mAt G (E.run - 1).toNat).t.slots (E.a).toNat).th - 1).toNat).t.queue.length (mAt J ((rAt (mAt G (E.run - 1).toNat).t.slots (E.a).toNat).th - 1).toNat).qc) Z Z (Xf Z Z Z bp (Yu (by kernel_rfl) Z Z (Xf Z Z Z bp (X3 (q := decide (((mAt J ((rAt (mAt G (E.run - 1).toNat).t.slots (E.a).toNat).th - 1).toNat).t.queue.length : Int) = 0)) Z Z Z Z (Xs (v := vb (decide (((mAt J ((rAt (mAt G (E.run - 1).toNat).t.slots (E.a).toNat).th - 1).toNat).t.queue.length : Int) = 0))) Z bp Z Z (Xe (v := vb (decide (((mAt J ((rAt (mAt G (E.run - 1).toNat).t.slots (E.a).toNat).th - 1).toNat).t.queue.length : Int) = 0))) Z Z (Xc ?_))))))))))))
 refine Xt (Yk (⟨vb (decide (((mAt J ((rAt (mAt G (E.run - 1).toNat).t.slots (E.a).toNat).th - 1).toNat).t.queue.length : Int) = 0)), Yp Z Z, ?_, cw⟩))
 exact congrArg Value.bool (decide_eq_true (by omega))
 obtain ⟨ea, db⟩ := eh (by have hh := of_decide_eq_false br; omega)
 have dp := congrArg List.length db
 rw [List.length_drop] at dp
 have ap : (decide ((callDo (tabT G) E).2 = (iAt (mAt G ((rAt (mAt G (E.run - 1).toNat).t.slots (E.a).toNat).th - 1).toNat).t.queue 0))) = true := decide_eq_true ea
 have kr := of_decide_eq_false br
 refine Xw (Xu (Xq (Xa (Xe (v := vi 0) Z Z (Xc (Yc ?_))))))
 have dk := (TabG.ge (TabG.low (TabG.low cc ag) be) ao.grw d1 (by omega))
 refine Qm (fun mm f' w' => ∃ (k : Nat), mm = (mAt J ((rAt (mAt G (E.run - 1).toNat).t.slots (E.a).toNat).th - 1).toNat).t.queue.length - k ∧ k ≤ (mAt J ((rAt (mAt G (E.run - 1).toNat).t.slots (E.a).toNat).th - 1).toNat).t.queue.length ∧ TabG w.heap.size w' (pa ah) G ∧ TabG jj.heap.size w' (pa bi) al ∧ TabG jk.heap.size w' (au) J ∧ hi ≤ w'.heap.size ∧ f' 12 = vi (k : Int) ∧ f' 8 = vi (callDo (tabT G) E).2 ∧ f' 10 = .slice (mAt G ((rAt (mAt G (E.run - 1).toNat).t.slots (E.a).toNat).th - 1).toNat).qa (mAt G ((rAt (mAt G (E.run - 1).toNat).t.slots (E.a).toNat).th - 1).toNat).t.queue.length (mAt G ((rAt (mAt G (E.run - 1).toNat).t.slots (E.a).toNat).th - 1).toNat).qc ∧ f' 11 = .slice (mAt J ((rAt (mAt G (E.run - 1).toNat).t.slots (E.a).toNat).th - 1).toNat).qa (mAt J ((rAt (mAt G (E.run - 1).toNat).t.slots (E.a).toNat).th - 1).toNat).t.queue.length (mAt J ((rAt (mAt G (E.run - 1).toNat).t.slots (E.a).toNat).th - 1).toNat).qc ∧ w.grownBy w' none) ((mAt J ((rAt (mAt G (E.run - 1).toNat).t.slots (E.a).toNat).th - 1).toNat).t.queue.length - 0) ⟨0, Z, (Nat.zero_le _), ce, dk, cf, (nt (nt (nt (Nat.le_of_eq hhi) ag.size) be.size) ao.grw.size), Z, dw, Z, Z, cw⟩ ?_
 rintro mm kh jl ⟨k, j7, hk, co, ja, dz, hhs, bw, dx, bx, bz, cx⟩
 refine Xq (Xa (Xb (v := vi (k : Int)) bw Z (Xb (v := .slice (mAt J ((rAt (mAt G (E.run - 1).toNat).t.slots (E.a).toNat).th - 1).toNat).qa (mAt J ((rAt (mAt G (E.run - 1).toNat).t.slots (E.a).toNat).th - 1).toNat).t.queue.length (mAt J ((rAt (mAt G (E.run - 1).toNat).t.slots (E.a).toNat).th - 1).toNat).qc) bz Z (Yu (by kernel_rfl) Z Z (Qa (q := decide ((k : Int) < ((mAt J ((rAt (mAt G (E.run - 1).toNat).t.slots (E.a).toNat).th - 1).toNat).t.queue.length : Int))) Z Z Z Z (Xc (Xy Z (fun cm => ?_) (fun cm => ?_))))))))
 have ks := of_decide_eq_true cm
 refine Xw (Xu (Xq (Yc (Xq ?_))))
 obtain ⟨fr, k3, jh, eb, fd, fm⟩ := SlAt.at (TabAt.th (TabG.at dz) (xg J ((rAt (mAt G (E.run - 1).toNat).t.slots (E.a).toNat).th - 1).toNat)).2.1 (Yi (Ve (lq k (mAt J ((rAt (mAt G (E.run - 1).toNat).t.slots (E.a).toNat).th - 1).toNat).t.queue.length)))
 obtain ⟨ft, k4, ji, ed, fe, fo⟩ := SlAt.at (TabAt.th (TabG.at co) (xg G ((rAt (mAt G (E.run - 1).toNat).t.slots (E.a).toNat).th - 1).toNat)).2.1 (Yi (Ve (show ((k : Int) + 1).toNat < (mAt G ((rAt (mAt G (E.run - 1).toNat).t.slots (E.a).toNat).th - 1).toNat).t.queue.length by omega)))
 refine Yw (m := 9) (vals := [(106, .slice (mAt J ((rAt (mAt G (E.run - 1).toNat).t.slots (E.a).toNat).th - 1).toNat).qa (mAt J ((rAt (mAt G (E.run - 1).toNat).t.slots (E.a).toNat).th - 1).toNat).t.queue.length (mAt J ((rAt (mAt G (E.run - 1).toNat).t.slots (E.a).toNat).th - 1).toNat).qc), (107, vi (k : Int)), (108, pt fr jh), (109, vi (iAt (mAt J ((rAt (mAt G (E.run - 1).toNat).t.slots (E.a).toNat).th - 1).toNat).t.queue k)), (110, .slice (mAt G ((rAt (mAt G (E.run - 1).toNat).t.slots (E.a).toNat).th - 1).toNat).qa (mAt G ((rAt (mAt G (E.run - 1).toNat).t.slots (E.a).toNat).th - 1).toNat).t.queue.length (mAt G ((rAt (mAt G (E.run - 1).toNat).t.slots (E.a).toNat).th - 1).toNat).qc), (111, vi (k : Int)), (112, vi ((k : Int) + 1)), (113, pt ft ji), (114, vi (iAt (mAt G ((rAt (mAt G (E.run - 1).toNat).t.slots (E.a).toNat).th - 1).toNat).t.queue ((k : Int) + 1).toNat))]) (fun w' => jl.grownBy w' none) Yy (by kernel_rfl) (X6 _) ?_ ?_
 exact yl Z (fun _ _ k => Xb (v := .slice (mAt J ((rAt (mAt G (E.run - 1).toNat).t.slots (E.a).toNat).th - 1).toNat).qa (mAt J ((rAt (mAt G (E.run - 1).toNat).t.slots (E.a).toNat).th - 1).toNat).t.queue.length (mAt J ((rAt (mAt G (E.run - 1).toNat).t.slots (E.a).toNat).th - 1).toNat).qc) bz Z k) (yl Z (fun _ _ kq => Xb (v := vi (k : Int)) bw Z kq) (yl Z (fun _ _ k => Xz J6 Z Z eb fd (by omega) (by omega) Z k) (yl Z (fun _ ey kq => Xh (v := vi (iAt (mAt J ((rAt (mAt G (E.run - 1).toNat).t.slots (E.a).toNat).th - 1).toNat).t.queue k)) X1 Z ((X9 fm ey) 0 _ Z) Z kq) (yl Z (fun _ _ k => Xb (v := .slice (mAt G ((rAt (mAt G (E.run - 1).toNat).t.slots (E.a).toNat).th - 1).toNat).qa (mAt G ((rAt (mAt G (E.run - 1).toNat).t.slots (E.a).toNat).th - 1).toNat).t.queue.length (mAt G ((rAt (mAt G (E.run - 1).toNat).t.slots (E.a).toNat).th - 1).toNat).qc) bx Z k) (yl Z (fun _ _ kq => Xb (v := vi (k : Int)) bw Z kq) (yl Z (fun _ _ kq => Yn (c := (k : Int) + 1) Z Z (by omega) (by omega) (by omega) Z kq) (yl Z (fun _ _ k => Xz J6 Z Z ed fe (by omega) (by omega) Z k) (yl Z (fun _ ez kq => Xh (v := vi (iAt (mAt G ((rAt (mAt G (E.run - 1).toNat).t.slots (E.a).toNat).th - 1).toNat).t.queue ((k : Int) + 1).toNat)) X1 Z ((X9 fo ez) 0 _ Z) Z kq) Y5))))))))
 intro lx bf
 have cy := low0 cx bf
 refine Y8 (q := !(decide ((iAt (mAt J ((rAt (mAt G (E.run - 1).toNat).t.slots (E.a).toNat).th - 1).toNat).t.queue k) = (iAt (mAt G ((rAt (mAt G (E.run - 1).toNat).t.slots (E.a).toNat).th - 1).toNat).t.queue ((k : Int) + 1).toNat)))) Z Z Z Z (Xc (Xu (Xy Z (fun cn => ?_) (fun cn => ?_))))
 have dy := Q2 cn
 have kt := of_decide_eq_false dy
 refine Xa (Xe (v := vb false) Z Z (Xc (Xt (Qi (Yk (Yk (Qi (Yk (⟨vb false, Yp Z Z, ?_, cy⟩)))))))))
 refine absurd ?_ (of_decide_eq_false dy)
 rw [db, Eb, show ((k : Int) + 1).toNat = k + 1 by omega]
 have i9 := Qx cn
 have ku := of_decide_eq_true i9
 exact Xw (Y7 (Xu (X2 (Xb (v := vi (k : Int)) bw Z (Yn (c := (k : Int) + 1) Z Z (by omega) (by omega) (by omega) Z (Xe (v := vi ((k : Int) + 1)) Z Z (Xc (Xu (⟨(mAt J ((rAt (mAt G (E.run - 1).toNat).t.slots (E.a).toNat).th - 1).toNat).t.queue.length - (k + 1), by omega, (k + 1), Z, (by omega), (TabG.low co bf), (TabG.low ja bf), (TabG.low dz bf), (nt hhs bf.size), Z, dx, bx, bz, cy⟩)))))))))
 have kv := of_decide_eq_false cm
 refine Qe (Qb (Qb (Jm (Xu (Xa (Xb (v := vi (callDo (tabT G) E).2) dx Z (Xb (v := .slice (mAt G ((rAt (mAt G (E.run - 1).toNat).t.slots (E.a).toNat).th - 1).toNat).qa (mAt G ((rAt (mAt G (E.run - 1).toNat).t.slots (E.a).toNat).th - 1).toNat).t.queue.length (mAt G ((rAt (mAt G (E.run - 1).toNat).t.slots (E.a).toNat).th - 1).toNat).qc) bx Z ?_)))))))
 obtain ⟨kc, k5, kw, ee, ff, fp⟩ := SlAt.at (TabAt.th (TabG.at co) (xg G ((rAt (mAt G (E.run - 1).toNat).t.slots (E.a).toNat).th - 1).toNat)).2.1 (Yi (Ve (lq 0 (mAt G ((rAt (mAt G (E.run - 1).toNat).t.slots (E.a).toNat).th - 1).toNat).t.queue.length)))
 refine Xz J6 Z Z ee ff (by omega) (by omega) Z (Xh (v := vi (iAt (mAt G ((rAt (mAt G (E.run - 1).toNat).t.slots (E.a).toNat).th - 1).toNat).t.queue 0)) X1 Z (fp 0 _ Z) Z (X3 (q := decide ((callDo (tabT G) E).2 = (iAt (mAt G ((rAt (mAt G (E.run - 1).toNat).t.slots (E.a).toNat).th - 1).toNat).t.queue 0))) Z Z Z Z (Xb (v := vb (decide ((callDo (tabT G) E).2 = (iAt (mAt G ((rAt (mAt G (E.run - 1).toNat).t.slots (E.a).toNat).th - 1).toNat).t.queue 0)))) Z Z (Xf Z Z Z ap (Xb (v := .slice (mAt J ((rAt (mAt G (E.run - 1).toNat).t.slots (E.a).toNat).th - 1).toNat).qa (mAt J ((rAt (mAt G (E.run - 1).toNat).t.slots (E.a).toNat).th - 1).toNat).t.queue.length (mAt J ((rAt (mAt G (E.run - 1).toNat).t.slots (E.a).toNat).th - 1).toNat).qc) bz Z (Xf Z Z Z ap (Yu (by kernel_rfl) Z Z (Xf Z Z Z ap (Xb (v := .slice (mAt G ((rAt (mAt G (E.run - 1).toNat).t.slots (E.a).toNat).th - 1).toNat).qa (mAt G ((rAt (mAt G (E.run - 1).toNat).t.slots (E.a).toNat).th - 1).toNat).t.queue.length (mAt G ((rAt (mAt G (E.run - 1).toNat).t.slots (E.a).toNat).th - 1).toNat).qc) bx Z (Xf Z Z Z ap (Yu (by kernel_rfl) Z Z (Xf Z Z Z ap ?_))))))))))))
 refine Ys (c := ((mAt G ((rAt (mAt G (E.run - 1).toNat).t.slots (E.a).toNat).th - 1).toNat).t.queue.length : Int) - 1) Z Z (by omega) (by omega) (by omega) Z (Xf Z Z Z ap (X3 (q := decide (((mAt J ((rAt (mAt G (E.run - 1).toNat).t.slots (E.a).toNat).th - 1).toNat).t.queue.length : Int) = ((mAt G ((rAt (mAt G (E.run - 1).toNat).t.slots (E.a).toNat).th - 1).toNat).t.queue.length : Int) - 1)) Z Z Z Z (Xs (v := vb (decide (((mAt J ((rAt (mAt G (E.run - 1).toNat).t.slots (E.a).toNat).th - 1).toNat).t.queue.length : Int) = ((mAt G ((rAt (mAt G (E.run - 1).toNat).t.slots (E.a).toNat).th - 1).toNat).t.queue.length : Int) - 1))) Z ap Z Z (Xe (v := vb (decide (((mAt J ((rAt (mAt G (E.run - 1).toNat).t.slots (E.a).toNat).th - 1).toNat).t.queue.length : Int) = ((mAt G ((rAt (mAt G (E.run - 1).toNat).t.slots (E.a).toNat).th - 1).toNat).t.queue.length : Int) - 1))) Z Z (Xc (Xt (⟨vb (decide (((mAt J ((rAt (mAt G (E.run - 1).toNat).t.slots (E.a).toNat).th - 1).toNat).t.queue.length : Int) = ((mAt G ((rAt (mAt G (E.run - 1).toNat).t.slots (E.a).toNat).th - 1).toNat).t.queue.length : Int) - 1)), Yp Z Z, ?_, cx⟩)))))))
 exact congrArg Value.bool (decide_eq_true (by omega))
end Go.Proofs.YtjpgffmkcmcolaaGreatDoor
end
