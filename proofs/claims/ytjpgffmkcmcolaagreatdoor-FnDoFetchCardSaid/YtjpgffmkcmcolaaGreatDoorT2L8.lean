/- Laws and walks: my templates, and what a program of mine (gen.py) printed out of the functions; only what the row reaches. -/
import Derived.Test.YtjpgffmkcmcolaaGreatDoorT25
section
namespace Go.Dw
set_option linter.unusedVariables false
set_option linter.unusedSimpArgs false
section
variable {ts : List Th} {q : Cl}
theorem W2 (hp : callPoss ts q = true) (h : 0 ≤ doAns ts q) : check1 ts q = 0 := by
  have hr := Kj ts q
  by_cases h0 : check1 ts q < 0
  · have := (Wl h0).1
    omega
  · omega
theorem Ht (hp : callPoss ts q = true) (h0 : check1 ts q = 0) (h3 : ¬ q.kind = 3) : (1 ≤ (slotAt ts q.run q.a).th ∧ (slotAt ts q.run q.a).th ≤ (ts.length : Int)) ∧ kindFor q.kind (thAt ts (slotAt ts q.run q.a).th).kind = true ∧ (need0 q.kind = true → sees ts q.run (slotAt ts q.run q.a).th = true) := by
  have e := Jr hp
  have h := Ni (ts := ts) (q := q) (by omega) h3
  exact ⟨h.1, h.2.1, (Rj (ts := ts) (q := q) (by omega) (by omega) h3).1⟩
theorem Wa (hp : callPoss ts q = true) (h0 : check1 ts q = 0) (h3 : ¬ q.kind = 3) : FarOk ts q (slotAt ts q.run q.a) := by
  have h := Ht hp h0 h3
  obtain ⟨hT, hc, hr⟩ := Yh hp
  exact ⟨hT, hc, hr, h.1, h.2.1, h3⟩
theorem Ri (hp : callPoss ts q = true) {j : Int} (hj : 1 ≤ j) (hne : ¬ j = q.run) : thAt (doCall ts q).1 j = thAt (doPre ts q) j := by
  rw [U8]
  unfold setNum
  rw [Ji (Gx hp) j hj, if_neg hne]
theorem Sv (hp : callPoss ts q = true) : thAt (doCall ts q).1 q.run = { thAt (doPre ts q) q.run with num := doAns ts q } := by
  rw [U8]
  unfold setNum
  rw [Ji (Gx hp) q.run (Gx hp).1, if_pos rfl]
theorem Md (hp : callPoss ts q = true) (h0 : check1 ts q = 0) (h3 : ¬ q.kind = 3) : ¬ (slotAt ts q.run q.a).th = q.run := fun e => by
  have h := Ht hp h0 h3
  have hr := (Qn (Yh hp).2.2).2
  have hc := Yq (Yh hp).2.1
  have hk := Q0 h.2.1 hc.1
  rw [e, hr] at hk
  omega
theorem B0 (hp : callPoss ts q = true) (h4 : q.kind = 4) (ha : 0 ≤ doAns ts q) : doAns ts q = 0 ∧ (1 ≤ (slotAt ts q.run q.a).th ∧ (slotAt ts q.run q.a).th ≤ (ts.length : Int)) ∧ (thAt ts (slotAt ts q.run q.a).th).kind = 2 ∧ thAt (doCall ts q).1 (slotAt ts q.run q.a).th = thAt ts (slotAt ts q.run q.a).th ∧ slotAt (doCall ts q).1 q.run q.b = fetched (slotAt ts (slotAt ts q.run q.a).th (q.n % 4)) (slotAt ts q.run q.a).wk := by
  have h3 : ¬ q.kind = 3 := by omega
  have h0 := W2 hp ha
  have hF := Wa hp h0 h3
  have hfd := Ht hp h0 h3
  have hc := Yq (Yh hp).2.1
  have hrun := Qn (Yh hp).2.2
  have e := Jr hp
  have hs := hfd.2.2 (by unfold need0; rw [if_pos (Or.inr h4)])
  have hl := Lh (ts := ts) (q := q) (by omega) h3 hs
  have hne := Md hp h0 h3
  have h := Wh rfl h0 h3 hl hF
  have hf : far ts q (slotAt ts q.run q.a) = (putSl ts q.run q.b (fetched (slotAt ts (slotAt ts q.run q.a).th (q.n % 4)) (slotAt ts q.run q.a).wk), 0) := by
    unfold far
    rw [if_neg (by omega), if_neg (by omega), if_pos h4]
  rw [hf] at h
  refine ⟨by rw [h.1]; split <;> rfl, hF.th, (Q0 hfd.2.1 hc.1).2.2.1 h4, ?_, ?_⟩
  · rw [Ri hp hF.th.1 hne, h.2]
    show thAt (setTh ts _ _) _ = _
    rw [Ji hrun.1 _ hF.th.1, if_neg hne]
  · have h4s := U3 (Ur (Yh hp).1 hrun.1).1 (Or.inr hrun.2)
    unfold slotAt
    rw [Sv hp, h.2]
    show rAt (thAt (setTh ts _ _) q.run).slots q.b.toNat = _
    rw [Ji hrun.1 _ hrun.1.1, if_pos rfl]
    show rAt ((thAt ts q.run).slots.set q.b.toNat _) q.b.toNat = _
    unfold rAt
    rw [List.getD_eq_getElem?_getD, List.getElem?_set, if_pos rfl, if_pos (by omega)]
    rfl
theorem S4 {r : Rt} (h : rightOk r = true) : (fetched r true).wr = false := by
  unfold fetched l2Less
  rw [if_pos rfl]
  split
  · rename_i h0
    rw [T9 h (decide_eq_true h0)]
    rfl
  · simp
theorem S3 {r : Rt} (h : rightOk r = true) : fetched r true = rightLess r true false false := by
  unfold fetched rightLess
  rw [if_pos rfl, if_pos h]
theorem Ms {r : Rt} : fetched r false = r := by
  unfold fetched
  rw [if_neg Bool.false_ne_true]
theorem R3 (hp : callPoss ts q = true) : callPoss (doCall ts q).1 q = true := by
  obtain ⟨hT, hc, hr⟩ := Yh hp
  have h := Uj hp
  have hr := Qn hr
  unfold callPoss
  rw [h.1, hc, Mu (by rw [h.2.1]; exact hr.1) ((h.2.2 _ hr.1.1).trans hr.2)]
  rfl
def Kept (n : Int) (a b : Th) : Prop := (a.kind = 1 → b.num = a.num ∨ b.num = 0 ∨ b.num = n ∨ b.num = n % 2) ∧ ∀ v ∈ b.queue, v = n ∨ v ∈ a.queue
theorem Kept.refl (n : Int) (a : Th) : Kept n a a := ⟨fun _ => Or.inl rfl, fun _ h => Or.inr h⟩
section
variable {ms xs : List MTh}
theorem Nc (hp : callPoss (tabT ms) q = true) : (callDo (tabT ms) q).2 = doAns (tabT ms) q := by rw [Qs hp, Um]
theorem Bw (ht : tabT xs = (callDo (tabT ms) q).1) (hp : callPoss (tabT ms) q = true) (k : Int) : (mAt xs (k - 1).toNat).t = thAt (doCall (tabT ms) q).1 k := by rw [Qw, ht, Qs hp]
theorem Hi (ht : tabT xs = (callDo (tabT ms) q).1) (hp : callPoss (tabT ms) q = true) : (mAt xs (q.run - 1).toNat).t.slots.length = 4 := by
  have h := R3 hp
  have h2 := (Yh h)
  rw [← Qs hp, ← ht] at h2
  exact Qp h2.1 h2.2.2
theorem Np (hT : tableOk (tabT ms) = true) {k : Int} (h : 1 ≤ k ∧ k ≤ (ms.length : Int)) (hk : (mAt ms (k - 1).toNat).t.kind = 2) : (mAt ms (k - 1).toNat).t.slots.length = 4 := U3 (Ju hT (by omega)) (Or.inl hk)
theorem Ee (ht : tabT xs = (callDo (tabT ms) q).1) (hp : callPoss (tabT ms) q = true) (h : ((!decide (q.kind = 4)) || decide ((callDo (tabT ms) q).2 < 0)) = false) :
    (1 ≤ (rAt (mAt ms (q.run - 1).toNat).t.slots q.a.toNat).th ∧ (rAt (mAt ms (q.run - 1).toNat).t.slots q.a.toNat).th ≤ (ms.length : Int)) ∧ (callDo (tabT ms) q).2 = 0 ∧ (mAt ms ((rAt (mAt ms (q.run - 1).toNat).t.slots q.a.toNat).th - 1).toNat).t.slots.length = 4 ∧ (mAt xs ((rAt (mAt ms (q.run - 1).toNat).t.slots q.a.toNat).th - 1).toNat).t = (mAt ms ((rAt (mAt ms (q.run - 1).toNat).t.slots q.a.toNat).th - 1).toNat).t ∧ rAt (mAt xs (q.run - 1).toNat).t.slots q.b.toNat = fetched (rAt (mAt ms ((rAt (mAt ms (q.run - 1).toNat).t.slots q.a.toNat).th - 1).toNat).t.slots (q.n % 4).toNat) (rAt (mAt ms (q.run - 1).toNat).t.slots q.a.toNat).wk ∧ rightOk (rAt (mAt ms ((rAt (mAt ms (q.run - 1).toNat).t.slots q.a.toNat).th - 1).toNat).t.slots (q.n % 4).toNat) = true := by
  simp only [Bool.or_eq_false_iff, Bool.not_eq_false', decide_eq_true_eq, decide_eq_false_iff_not] at h
  have ha : 0 ≤ doAns (tabT ms) q := by rw [← Nc hp]; omega
  obtain ⟨h0, h1, hk, h2, h3⟩ := B0 hp h.1 ha
  have hT := (Yh hp).1
  have hok := V0 hT h1 (q.n % 4)
  rw [Qd] at h1
  rw [Jq, Nc hp, Bw ht hp]
  rw [← Qw ms (slotAt (tabT ms) q.run q.a).th] at hk h2
  rw [← Jq (k := (slotAt (tabT ms) q.run q.a).th)] at h3 hok
  refine ⟨h1, h0, Np hT h1 hk, h2, ?_, hok.1⟩
  rw [Qw, ht, Qs hp]
  exact h3
end
end
end Go.Dw
end
section
namespace Go.Proofs.YtjpgffmkcmcolaaGreatDoor
open Go.RowKit Go.Dw
set_option maxRecDepth 100000
set_option maxHeartbeats 4000000
set_option linter.unusedSimpArgs false
set_option linter.unusedVariables false
theorem Va : goFn Tryz.prog 15 = true := by kernel_rfl
theorem Vb : goFn Tryz.prog 16 = true := by kernel_rfl
theorem K8 : goFn Tryz.prog 17 = true := by kernel_rfl
theorem Kc : goFn Tryz.prog 18 = true := by kernel_rfl
theorem Vc : goFn Tryz.prog 19 = true := by kernel_rfl
theorem law_FnDoFetch (bs : List Int) (a : Option Addr) (c : Nat) (w : World) (w9 : SlAt w a 1 (bs.map bcell)) (hb : ∀ b ∈ bs, 0 ≤ b ∧ b ≤ 255) (hn : bs.length ≤ 9223372036854775807) (hc : bs.length ≤ c) (hE : ErrT w) : CallsR Tryz.prog 7 #[.slice a bs.length c] w (fun v w' => v = .bool true ∧ w.grownBy w' none) := by
 refine Xx (n := 132) Tryz.func7 Z Tryz.ntmps7 Z ?_
 have my := World.grownBy.refl w none
 have hs := SlAt.lt Kl (by omega) w9
 refine Xa (Xe (v := vb false) Z Z (Xc (Xq (Xa (Xb (v := .slice a bs.length c) Z Z (Yu (by kernel_rfl) Z Z (Jd (q := decide (1048576 < (bs.length : Int))) Z Z Z Z (Xc (Xy Z (fun cf => ?_) (fun cf => ?_))))))))))
 have zb := of_decide_eq_true cf
 refine Xa (Xe (v := vb true) Z Z (Xc (Xt (Yk (⟨vb true, Yp Z Z, ?_, my⟩)))))
 rfl
 have zc := of_decide_eq_false cf
 refine Xw (Xu (Xa (Xb (v := .slice a bs.length c) Z Z (Xl Va (Xg Z Xk) Z (J0 bs a c _ (SlAt.low w9 my) hb (by omega) (by omega)) ?_))))
 rintro _ zo ⟨am, ad, G, E, rfl, cc, gi, xf, ya, m3⟩
 have eo := low0 my m3
 have ba := gi.len
 refine Xb (v := .tuple #[.slice (pa am) G.length ad, .agg #[vi E.kind, vi E.run, vi E.a, vi E.b, vi E.n]]) Z Z (X4 (v := .slice (pa am) G.length ad) Z Z Z (X4 (v := .agg #[vi E.kind, vi E.run, vi E.a, vi E.b, vi E.n]) Z Z Z (Ye (cs := #[vi 0, vi 0, vi 0, vi 0, vi 0]) Uh Z Z ?_)))
 intro ar zp av
 have xj := Yj av eo
 refine Xe (v := .slice (pa am) G.length ad) Z Z (X0 (vs := [vi E.kind, vi E.run, vi E.a, vi E.b, vi E.n]) (cs' := #[vi E.kind, vi E.run, vi E.a, vi E.b, vi E.n]) Y1 Z Z Z (by simp [Value.oneCell']) av.blk (Nat.le_of_ble_eq_true Z) Z ?_)
 intro zq bh
 refine Xc (Xa (Xb (v := .slice (pa am) G.length ad) Z Z (Xp (vs := [vi E.kind, vi E.run, vi E.a, vi E.b, vi E.n]) Y1 Z Z (bh.blk.rangeL 0 5 Z) Z ?_)))
 have xq := (bh.blk).lt
 refine Xl Vb (Xg Z (Xg Z Xk)) Z (Ku E _ G _ _ (TabG.at (TabG.low cc (low1 av.grw bh.grw (nt ((World.grownBy.refl _ none)).size (Nat.le_of_eq av.eq.symm))))) ba (by omega)) ?_
 rintro _ zr ⟨dn, bt, br, rfl, gh, ct, cm⟩
 have ep := low0 (low1 (low0 eo av.grw) bh.grw (by omega)) cm
 have d2 := Q3 ct
 have xw := Qo ct
 refine Xb (v := .tuple #[.slice (pa dn) br.length bt, vi (callDo (tabT G) E).2]) Z Z (X4 (v := .slice (pa dn) br.length bt) Z Z Z (X4 (v := vi (callDo (tabT G) E).2) Z Z Z (Xe (v := .slice (pa dn) br.length bt) Z Z (Xe (v := vi (callDo (tabT G) E).2) Z Z (Xc (Xa (Xb (v := .slice (pa am) G.length ad) Z Z ?_)))))))
 have fm := (bh.blk.grown0 cm)
 refine Xp (vs := [vi E.kind, vi E.run, vi E.a, vi E.b, vi E.n]) Y1 Z Z (fm.rangeL 0 5 Z) Z ?_
 have xu := (fm).lt
 refine Xl K8 (Xg Z (Xg Z Xk)) Z (K2 E _ G _ _ (TabG.at (TabG.low cc (low0 (low1 av.grw bh.grw (nt ((World.grownBy.refl _ none)).size (Nat.le_of_eq av.eq.symm))) cm))) ba (by omega) (ErrT.grown0 hE ep)) ?_
 rintro _ zt ⟨ap, af, J, rfl, dc, bq, cn⟩
 have bk := Q3 bq
 have xx := Qo bq
 refine Xb (v := .tuple #[.slice ap J.length af, vi (callDo (tabT G) E).2]) Z Z (X4 (v := .slice ap J.length af) Z Z Z (X4 (v := vi (callDo (tabT G) E).2) Z Z Z (Xe (v := .slice ap J.length af) Z Z (Xe (v := vi (callDo (tabT G) E).2) Z Z (Xc (Xq (Xa (Xb (v := vi (callDo (tabT G) E).2) Z Z (Xb (v := vi (callDo (tabT G) E).2) Z Z (Y8 (q := false) Z Z (by simp) Z (Xb (v := vb false) Z Z (Xf Z Z Z Z ?_))))))))))))
 refine Xb (v := .slice ap J.length af) Z Z (Xf Z Z Z Z (Xb (v := .slice (pa dn) br.length bt) Z Z (Xf Z Z Z Z ?_)))
 have de := (TabG.low gh cn)
 refine Xl Kc (Xg Z (Xg Z Xk)) Z (Q9 _ J br _ _ _ _ (TabG.at dc) (TabG.at de) bk d2 (by omega) (by omega)) ?_
 rintro _ zu ⟨rfl, bi⟩
 refine Xf Z Z Z Z (Yl (b' := false) (congrArg Value.bool (decide_eq_true (bq.trans ct.symm))) Z Z (Xo (v := vb false) Z Z Z Z (Xb (v := vb false) Z Z (Xf Z Z Z Z (Xb (v := .slice (pa am) G.length ad) Z Z (Xf Z Z Z Z ?_))))))
 have a9 := ((fm.grown0 cn).grown0 bi)
 refine Xp (vs := [vi E.kind, vi E.run, vi E.a, vi E.b, vi E.n]) Y1 Z Z (a9.rangeL 0 5 Z) Z (Xf Z Z Z Z (Xl Vc (Xg Z (Xg Z Xk)) Z (Vl E _ G _ _ (TabG.at (TabG.low cc (low0 (low0 (low0 (low1 av.grw bh.grw (nt ((World.grownBy.refl _ none)).size (Nat.le_of_eq av.eq.symm))) cm) cn) bi))) ba (by omega)) ?_))
 rintro _ dv ⟨rfl, aj⟩
 have dh := low0 (low0 (low0 ep cn) bi) aj
 refine Xf Z Z Z Z (Yl (b' := !callPoss (tabT G) E) Z Z Z (Xo (v := vb (!callPoss (tabT G) E)) Z Z Z Z (Xc (Xy Z (fun cg => ?_) (fun cg => ?_)))))
 have zd := Q2 cg
 refine Xa (Xb (v := vi (callDo (tabT G) E).2) Z Z (Xb (v := vi (callDo (tabT G) E).2) Z Z (X3 (q := true) Z Z (by simp) Z (Xb (v := vb true) Z Z (Xf Z Z Z Z (Xb (v := .slice ap J.length af) Z Z (Xf Z Z Z Z (Xb (v := .slice (pa dn) br.length bt) Z Z (Xf Z Z Z Z (Xl Kc (Xg Z (Xg Z Xk)) Z (Q9 _ J br _ _ _ _ (TabG.at (TabG.low (TabG.low dc bi) aj)) (TabG.at (TabG.low (TabG.low de bi) aj)) bk d2 (by omega) (by omega)) ?_))))))))))
 rintro _ zv ⟨rfl, m4⟩
 refine Xs (v := vb true) Z Z (congrArg Value.bool (decide_eq_true (bq.trans ct.symm))) Z (Xe (v := vb true) Z Z (Xc (Xt (Yk (⟨vb true, Yp Z Z, ?_, (low0 dh m4)⟩)))))
 rfl
 have be := Qx cg
 obtain ⟨bw, cl, bm⟩ := Yh be
 have xh := Yq cl
 have xi := (Y3 bm).1
 have x7 := Qp bw bm
 have xv := Jb bw
 have hde := Qs be
 have hrk := Qn (Yh be).2.2
 have xy := Q1 ct be
 have xz := Q1 bq be
 obtain ⟨hi, hhi⟩ : ∃ n, n = dv.heap.size := ⟨_, rfl⟩
 have cd := (TabG.low cc (low0 (low0 (low0 (low0 (low1 av.grw bh.grw (nt ((World.grownBy.refl _ none)).size (Nat.le_of_eq av.eq.symm))) cm) cn) bi) aj))
 have ck := TabG.hi cd
 rw [← hhi] at ck
 have wo := TabG.hi (TabG.low (TabG.low de bi) aj)
 rw [← hhi] at wo
 have df := (TabG.low (TabG.low dc bi) aj)
 have ca := TabG.hi df
 rw [← hhi] at ca
 have xe := Hi bq be
 refine Xw (Xu (Xq (X7 (fun f' w' => (f' 2 = vb false ∧ f' 3 = .slice (pa am) G.length ad ∧ f' 4 = pt ar 0 ∧ f' 7 = .slice ap J.length af ∧ f' 8 = vi (callDo (tabT G) E).2 ∧ f' 61 = vb ((!(decide (E.kind = 4))) || (decide ((callDo (tabT G) E).2 < 0)))) ∧ dv = w') ?_ ?_)))
 refine Xd (o' := 0) Ja Z Z Z (Xh (v := vi E.kind) X1 Z ((a9.grown0 aj).cell Z) Z (Y8 (q := !(decide (E.kind = 4))) Z Z Z Z (Xb (v := vb (!(decide (E.kind = 4)))) Z Z ?_)))
 rcases Yf (!(decide (E.kind = 4))) with a8 | a8
 have eg := Q2 a8
 have ze := of_decide_eq_false eg
 exact Xi Z Z Z a8 Z (Xi Z Z Z a8 Z (Xs (v := vb true) Z a8 Z Z (Xc ⟨⟨Z, Z, Z, Z, Z, (congrArg Value.bool (by first | (simp only [cf, cg, be, a8, eg, bw, cl, bm, b0, b1, b2, b3, b4, b5, b6, b7, b8, b9]; done) | simp [cf, cg, be, a8, eg, bw, cl, bm]))⟩, Z⟩)))
 have eh := Qx a8
 have zf := of_decide_eq_true eh
 exact Xf Z Z Z a8 (Xb (v := vi (callDo (tabT G) E).2) Z Z (Xf Z Z Z a8 (Qa (q := decide ((callDo (tabT G) E).2 < 0)) Z Z Z Z (Xo (v := vb (decide ((callDo (tabT G) E).2 < 0))) Z a8 Z Z (Xc ⟨⟨Z, Z, Z, Z, Z, (congrArg Value.bool (by first | (simp only [cf, cg, be, a8, eh, bw, cl, bm, b0, b1, b2, b3, b4, b5, b6, b7, b8, b9]; done) | simp [cf, cg, be, a8, eh, bw, cl, bm]))⟩, Z⟩)))))
 rintro za zw ⟨⟨oy, oz, o0, o1, o3, o4⟩, rfl⟩
 refine Xy o4 (fun d1 => ?_) (fun d1 => ?_)
 refine Xa (Xe (v := vb true) Z Z (Xc (Xt (Yk (⟨vb true, Yp Z Z, ?_, dh⟩)))))
 rfl
 obtain ⟨x8, mz, x9, ew, ex, ey⟩ := Ee bq be d1
 have bj : (decide ((callDo (tabT G) E).2 = 0)) = true := decide_eq_true mz
 have wl := Kq d1
 have wm := Qx wl
 have zg := of_decide_eq_true wm
 have wn := Kr d1
 have zh := of_decide_eq_false wn
 refine Xw (Xu (Xq ?_))
 obtain ⟨i4, zi, fv, mq, nv, n7⟩ := SlAt.at (TabG.at cd).1 (Yi (xg G (E.run - 1).toNat))
 have xn := TabLen.at ba (xg G (E.run - 1).toNat)
 obtain ⟨ov, zj, xb, mr, nw, n9⟩ := SlAt.at (TabAt.th (TabG.at cd) (xg G (E.run - 1).toNat)).1 (Yi (xr (mAt G (E.run - 1).toNat).t.slots (E.a).toNat))
 have yb : hi ≤ dv.heap.size := (Nat.le_of_eq hhi)
 refine Qy (m := 12) [[], [], [1], [1, 2], [0, 1, 2, 3], [0, 1, 2, 3, 4], [0, 1, 2, 3, 4, 5], [], [7], [0, 1, 2, 3, 4, 5, 6, 7, 8], [0, 1, 2, 3, 4, 5, 6, 7, 8, 9], [], [0, 1, 2, 3, 4, 5, 6, 7, 8, 9, 10, 11]] (fun S F w' => ∃ (V : Nat), dv.grownBy w' none ∧ F 2 = vb false ∧ F 3 = .slice (pa am) G.length ad ∧ F 4 = pt ar 0 ∧ F 7 = .slice ap J.length af ∧ F 8 = vi (callDo (tabT G) E).2 ∧ (S 11 = true → F 9 = pt V 0 ∧ w.heap.size ≤ V ∧ Blk w' V 42 #[vi 0, vi 0, vb false, vb false, vb false] ∧ ar < V ∧ dv.heap.size ≤ V) ∧ Vals S F [(0, 62, .slice (pa am) G.length ad), (1, 63, pt ar 1), (2, 64, vi E.run), (3, 65, vi (E.run - 1)), (4, 66, pt i4 fv), (5, 67, pt i4 (fv + 5)), (6, 68, .slice (mAt G (E.run - 1).toNat).sa (mAt G (E.run - 1).toNat).t.slots.length (mAt G (E.run - 1).toNat).sc), (7, 69, pt ar 2), (8, 70, vi E.a), (9, 71, pt ov xb), (10, 72, .agg #[vi (rAt (mAt G (E.run - 1).toNat).t.slots (E.a).toNat).th, vi (rAt (mAt G (E.run - 1).toNat).t.slots (E.a).toNat).ve, vb (rAt (mAt G (E.run - 1).toNat).t.slots (E.a).toNat).rd, vb (rAt (mAt G (E.run - 1).toNat).t.slots (E.a).toNat).wr, vb (rAt (mAt G (E.run - 1).toNat).t.slots (E.a).toNat).wk])]) Yy (by kernel_rfl) ⟨0, X6 _, oy, oz, o0, o1, o3, Yt, J3 _⟩ ?_ ?_
 refine Xj (fun S F zx hS hbef hcl hI => ?_) ?_
 obtain ⟨V, m5, o5, i7, o6, o7, o8, O, hvs⟩ := hI
 exact Xb (v := .slice (pa am) G.length ad) i7 Z (Xc ⟨V, m5, o5, i7, o6, o7, o8, O, Vals.up 0 hvs Z Z Z⟩)
 refine Xj (fun S F zy hS hbef hcl hI => ?_) ?_
 obtain ⟨V, m6, o9, pb, i8, pc, pd, O, hvs⟩ := hI
 exact Xd (o' := 1) Qv i8 Z Z (Xc ⟨V, m6, o9, pb, i8, pc, pd, O, Vals.up 1 hvs Z Z Z⟩)
 refine Xj (fun S F zz hS hbef hcl hI => ?_) ?_
 obtain ⟨V, ez, pe, pf, pg, ph, pi, O, hvs⟩ := hI
 exact Xh (v := vi E.run) X1 (Vals.at 1 hvs Z (Xm 1 hbef Z)) (((a9.grown0 aj).grown0 ez).cell Z) Z (Xc ⟨V, ez, pe, pf, pg, ph, pi, O, Vals.up 2 hvs Z Z Z⟩)
 refine Xj (fun S F z0 hS hbef hcl hI => ?_) ?_
 obtain ⟨V, m7, pj, pk, pl, pm, pn, O, hvs⟩ := hI
 exact Ys (c := E.run - 1) (Vals.at 2 hvs Z (Xm 2 hbef Z)) Z (by omega) (by omega) (by omega) Z (Xc ⟨V, m7, pj, pk, pl, pm, pn, O, Vals.up 3 hvs Z Z Z⟩)
 refine Xj (fun S F z2 hS hbef hcl hI => ?_) ?_
 obtain ⟨V, m8, po, pp, pq, pr, pu, O, hvs⟩ := hI
 exact Xz Y2 (Vals.at 0 hvs Z (Xm 0 hbef Z)) (Vals.at 3 hvs Z (Xm 3 hbef Z)) mq nv (by omega) (by omega) Z (Xc ⟨V, m8, po, pp, pq, pr, pu, O, Vals.up 4 hvs Z Z Z⟩)
 refine Xj (fun S F z3 hS hbef hcl hI => ?_) ?_
 obtain ⟨V, m9, pv, pw, px, py, pz, O, hvs⟩ := hI
 exact Xd (o' := fv + 5) Qj (Vals.at 4 hvs Z (Xm 4 hbef Z)) Z Z (Xc ⟨V, m9, pv, pw, px, py, pz, O, Vals.up 5 hvs Z Z Z⟩)
 refine Xj (fun S F z6 hS hbef hcl hI => ?_) ?_
 obtain ⟨V, e0, p0, p8, p9, qb, qd, O, hvs⟩ := hI
 exact Xh (v := .slice (mAt G (E.run - 1).toNat).sa (mAt G (E.run - 1).toNat).t.slots.length (mAt G (E.run - 1).toNat).sc) Jh (Vals.at 5 hvs Z (Xm 5 hbef Z)) ((X9 n7 e0) 5 _ Z) Z (Xc ⟨V, e0, p0, p8, p9, qb, qd, O, Vals.up 6 hvs Z Z Z⟩)
 refine Xj (fun S F z7 hS hbef hcl hI => ?_) ?_
 obtain ⟨V, na, qe, qf, i9, qg, qh, O, hvs⟩ := hI
 exact Xd (o' := 2) Km i9 Z Z (Xc ⟨V, na, qe, qf, i9, qg, qh, O, Vals.up 7 hvs Z Z Z⟩)
 refine Xj (fun S F z8 hS hbef hcl hI => ?_) ?_
 obtain ⟨V, fa, qi, qj, qk, qm, qn, O, hvs⟩ := hI
 exact Xh (v := vi E.a) X1 (Vals.at 7 hvs Z (Xm 7 hbef Z)) (((a9.grown0 aj).grown0 fa).cell Z) Z (Xc ⟨V, fa, qi, qj, qk, qm, qn, O, Vals.up 8 hvs Z Z Z⟩)
 refine Xj (fun S F z9 hS hbef hcl hI => ?_) ?_
 obtain ⟨V, nb, qo, qp, qq, qr, qt, O, hvs⟩ := hI
 exact Xz Ka (Vals.at 6 hvs Z (Xm 6 hbef Z)) (Vals.at 8 hvs Z (Xm 8 hbef Z)) mr nw (by omega) (by omega) Z (Xc ⟨V, nb, qo, qp, qq, qr, qt, O, Vals.up 9 hvs Z Z Z⟩)
 refine Xj (fun S F Aa hS hbef hcl hI => ?_) ?_
 obtain ⟨V, fb, qu, qv, qw, qx, qy, O, hvs⟩ := hI
 exact Xp (vs := [vi (rAt (mAt G (E.run - 1).toNat).t.slots (E.a).toNat).th, vi (rAt (mAt G (E.run - 1).toNat).t.slots (E.a).toNat).ve, vb (rAt (mAt G (E.run - 1).toNat).t.slots (E.a).toNat).rd, vb (rAt (mAt G (E.run - 1).toNat).t.slots (E.a).toNat).wr, vb (rAt (mAt G (E.run - 1).toNat).t.slots (E.a).toNat).wk]) Yx (Vals.at 9 hvs Z (Xm 9 hbef Z)) Z (Yr (X9 n9 fb) 0 5 Z) Z (Xc ⟨V, fb, qu, qv, qw, qx, qy, O, Vals.up 10 hvs Z Z Z⟩)
 refine Xj (fun S F Ab hS hbef hcl hI => ?_) ?_
 obtain ⟨V, co, qz, q0, q1, q2, q3, O, hvs⟩ := hI
 refine Ye (cs := #[vi 0, vi 0, vb false, vb false, vb false]) Kz Z Z ?_
 intro i1 Ac bv
 have ik := Yj bv (low0 dh co)
 have wq : hi ≤ i1 := nt (nt (Nat.le_of_eq hhi) co.size) (Nat.le_of_eq bv.eq.symm)
 have cy := Xr bv (((a9.grown0 aj).grown0 co)).lt
 exact Xc ⟨i1, (low0 co bv.grw), qz, q0, q1, q2, q3, fun _ => ⟨Z, ik, bv.blk, cy, (nt co.size (Nat.le_of_eq bv.eq.symm))⟩, Vals.keep hvs Z⟩
 exact Q5
 intro S F Ad hall hI
 obtain ⟨V, ak, q4, q5, q6, q7, q8, O, hvs⟩ := hI
 obtain ⟨ja, xk, fo, f9, wu⟩ := O (hall 11 (by decide))
 refine X0 (vs := [vi (rAt (mAt G (E.run - 1).toNat).t.slots (E.a).toNat).th, vi (rAt (mAt G (E.run - 1).toNat).t.slots (E.a).toNat).ve, vb (rAt (mAt G (E.run - 1).toNat).t.slots (E.a).toNat).rd, vb (rAt (mAt G (E.run - 1).toNat).t.slots (E.a).toNat).wr, vb (rAt (mAt G (E.run - 1).toNat).t.slots (E.a).toNat).wk]) (cs' := #[vi (rAt (mAt G (E.run - 1).toNat).t.slots (E.a).toNat).th, vi (rAt (mAt G (E.run - 1).toNat).t.slots (E.a).toNat).ve, vb (rAt (mAt G (E.run - 1).toNat).t.slots (E.a).toNat).rd, vb (rAt (mAt G (E.run - 1).toNat).t.slots (E.a).toNat).wr, vb (rAt (mAt G (E.run - 1).toNat).t.slots (E.a).toNat).wk]) Yx ja (Vals.at 10 hvs Z (hall 10 (by decide))) Z (by simp [Value.oneCell']) fo (Nat.le_of_ble_eq_true Z) Z ?_
 intro fy ag
 have er := low1 (low0 dh ak) ag.grw (by omega)
 refine Xc (Xu (Xq ?_))
 have ce := (TabG.ge (TabG.low cd ak) ag.grw ck (by omega))
 obtain ⟨i5, zk, fw, mt, nx, oa⟩ := SlAt.at (TabG.at ce).1 (Yi (xg G ((rAt (mAt G (E.run - 1).toNat).t.slots (E.a).toNat).th - 1).toNat))
 have xo := TabLen.at ba (xg G ((rAt (mAt G (E.run - 1).toNat).t.slots (E.a).toNat).th - 1).toNat)
 obtain ⟨ow, zl, xc, mu, ny, ob⟩ := SlAt.at (TabAt.th (TabG.at ce) (xg G ((rAt (mAt G (E.run - 1).toNat).t.slots (E.a).toNat).th - 1).toNat)).1 (Yi (xr (mAt G ((rAt (mAt G (E.run - 1).toNat).t.slots (E.a).toNat).th - 1).toNat).t.slots (E.n % 4).toNat))
 have yc : hi ≤ fy.heap.size := (nt (nt (Nat.le_of_eq hhi) ak.size) ag.grw.size)
 refine Qy (m := 13) [[], [], [1], [1, 2], [0, 1, 2, 3], [0, 1, 2, 3, 4], [0, 1, 2, 3, 4, 5], [], [7], [7, 8], [0, 1, 2, 3, 4, 5, 6, 7, 8, 9], [0, 1, 2, 3, 4, 5, 6, 7, 8, 9, 10], [], [0, 1, 2, 3, 4, 5, 6, 7, 8, 9, 10, 11, 12]] (fun S F w' => ∃ (ac : Nat), fy.grownBy w' none ∧ F 2 = vb false ∧ F 3 = .slice (pa am) G.length ad ∧ F 4 = pt ar 0 ∧ F 7 = .slice ap J.length af ∧ F 8 = vi (callDo (tabT G) E).2 ∧ F 9 = pt V 0 ∧ (S 12 = true → F 10 = pt ac 0 ∧ w.heap.size ≤ ac ∧ Blk w' ac 42 #[vi 0, vi 0, vb false, vb false, vb false] ∧ ar < ac ∧ V < ac ∧ fy.heap.size ≤ ac) ∧ Vals S F [(0, 73, .slice (pa am) G.length ad), (1, 74, pt V 0), (2, 75, vi (rAt (mAt G (E.run - 1).toNat).t.slots (E.a).toNat).th), (3, 76, vi ((rAt (mAt G (E.run - 1).toNat).t.slots (E.a).toNat).th - 1)), (4, 77, pt i5 fw), (5, 78, pt i5 (fw + 5)), (6, 79, .slice (mAt G ((rAt (mAt G (E.run - 1).toNat).t.slots (E.a).toNat).th - 1).toNat).sa (mAt G ((rAt (mAt G (E.run - 1).toNat).t.slots (E.a).toNat).th - 1).toNat).t.slots.length (mAt G ((rAt (mAt G (E.run - 1).toNat).t.slots (E.a).toNat).th - 1).toNat).sc), (7, 80, pt ar 4), (8, 81, vi E.n), (9, 82, vi (E.n % 4)), (10, 83, pt ow xc), (11, 84, .agg #[vi (rAt (mAt G ((rAt (mAt G (E.run - 1).toNat).t.slots (E.a).toNat).th - 1).toNat).t.slots (E.n % 4).toNat).th, vi (rAt (mAt G ((rAt (mAt G (E.run - 1).toNat).t.slots (E.a).toNat).th - 1).toNat).t.slots (E.n % 4).toNat).ve, vb (rAt (mAt G ((rAt (mAt G (E.run - 1).toNat).t.slots (E.a).toNat).th - 1).toNat).t.slots (E.n % 4).toNat).rd, vb (rAt (mAt G ((rAt (mAt G (E.run - 1).toNat).t.slots (E.a).toNat).th - 1).toNat).t.slots (E.n % 4).toNat).wr, vb (rAt (mAt G ((rAt (mAt G (E.run - 1).toNat).t.slots (E.a).toNat).th - 1).toNat).t.slots (E.n % 4).toNat).wk])]) Yy (by kernel_rfl) ⟨0, X6 _, q4, q5, q6, q7, q8, ja, Yt, J3 _⟩ ?_ ?_
 refine Xj (fun S F Ae hS hbef hcl hI => ?_) ?_
 obtain ⟨ac, nc, q9, jb, ra, rb, rf, rg, ai, hvs⟩ := hI
 exact Xb (v := .slice (pa am) G.length ad) jb Z (Xc ⟨ac, nc, q9, jb, ra, rb, rf, rg, ai, Vals.up 0 hvs Z Z Z⟩)
 refine Xj (fun S F Af hS hbef hcl hI => ?_) ?_
 obtain ⟨ac, nd, rh, ri, rj, rk, rl, jc, ai, hvs⟩ := hI
 exact Xd (o' := 0) Yz jc Z Z (Xc ⟨ac, nd, rh, ri, rj, rk, rl, jc, ai, Vals.up 1 hvs Z Z Z⟩)
 refine Xj (fun S F Ag hS hbef hcl hI => ?_) ?_
 obtain ⟨ac, fc, rm, rn, ro, rp, rq, rr, ai, hvs⟩ := hI
 exact Xh (v := vi (rAt (mAt G (E.run - 1).toNat).t.slots (E.a).toNat).th) X1 (Vals.at 1 hvs Z (Xm 1 hbef Z)) ((ag.blk.grown0 fc).cell Z) Z (Xc ⟨ac, fc, rm, rn, ro, rp, rq, rr, ai, Vals.up 2 hvs Z Z Z⟩)
 refine Xj (fun S F Ah hS hbef hcl hI => ?_) ?_
 obtain ⟨ac, ne, ru, rx, ry, rz, r0, r1, ai, hvs⟩ := hI
 exact Ys (c := (rAt (mAt G (E.run - 1).toNat).t.slots (E.a).toNat).th - 1) (Vals.at 2 hvs Z (Xm 2 hbef Z)) Z (by omega) (by omega) (by omega) Z (Xc ⟨ac, ne, ru, rx, ry, rz, r0, r1, ai, Vals.up 3 hvs Z Z Z⟩)
 refine Xj (fun S F Ai hS hbef hcl hI => ?_) ?_
 obtain ⟨ac, nf, r2, r3, r4, r5, r6, r7, ai, hvs⟩ := hI
 exact Xz Y2 (Vals.at 0 hvs Z (Xm 0 hbef Z)) (Vals.at 3 hvs Z (Xm 3 hbef Z)) mt nx (by omega) (by omega) Z (Xc ⟨ac, nf, r2, r3, r4, r5, r6, r7, ai, Vals.up 4 hvs Z Z Z⟩)
 refine Xj (fun S F Aj hS hbef hcl hI => ?_) ?_
 obtain ⟨ac, ng, r8, r9, sb, sd, se, sf, ai, hvs⟩ := hI
 exact Xd (o' := fw + 5) Qj (Vals.at 4 hvs Z (Xm 4 hbef Z)) Z Z (Xc ⟨ac, ng, r8, r9, sb, sd, se, sf, ai, Vals.up 5 hvs Z Z Z⟩)
 refine Xj (fun S F Ak hS hbef hcl hI => ?_) ?_
 obtain ⟨ac, fd, sg, sh, si, sk, sm, sn, ai, hvs⟩ := hI
 exact Xh (v := .slice (mAt G ((rAt (mAt G (E.run - 1).toNat).t.slots (E.a).toNat).th - 1).toNat).sa (mAt G ((rAt (mAt G (E.run - 1).toNat).t.slots (E.a).toNat).th - 1).toNat).t.slots.length (mAt G ((rAt (mAt G (E.run - 1).toNat).t.slots (E.a).toNat).th - 1).toNat).sc) Jh (Vals.at 5 hvs Z (Xm 5 hbef Z)) ((X9 oa fd) 5 _ Z) Z (Xc ⟨ac, fd, sg, sh, si, sk, sm, sn, ai, Vals.up 6 hvs Z Z Z⟩)
 refine Xj (fun S F Al hS hbef hcl hI => ?_) ?_
 obtain ⟨ac, nh, so, sp, jd, sq, sr, su, ai, hvs⟩ := hI
 exact Xd (o' := 4) Jk jd Z Z (Xc ⟨ac, nh, so, sp, jd, sq, sr, su, ai, Vals.up 7 hvs Z Z Z⟩)
 refine Xj (fun S F Am hS hbef hcl hI => ?_) ?_
 obtain ⟨ac, fe, sv, sw, sx, sy, s0, s1, ai, hvs⟩ := hI
 exact Xh (v := vi E.n) X1 (Vals.at 7 hvs Z (Xm 7 hbef Z)) (((((a9.grown0 aj).grown0 ak).gn ag.grw).grown0 fe).cell Z) Z (Xc ⟨ac, fe, sv, sw, sx, sy, s0, s1, ai, Vals.up 8 hvs Z Z Z⟩)
 refine Xj (fun S F An hS hbef hcl hI => ?_) ?_
 obtain ⟨ac, ni, s3, s4, s5, s6, s7, s8, ai, hvs⟩ := hI
 exact Q8 (c := E.n % 4) (Vals.at 8 hvs Z (Xm 8 hbef Z)) Z (by omega) (by omega) (by omega) Z Z (Xc ⟨ac, ni, s3, s4, s5, s6, s7, s8, ai, Vals.up 9 hvs Z Z Z⟩)
 refine Xj (fun S F Ao hS hbef hcl hI => ?_) ?_
 obtain ⟨ac, nj, s9, tc, td, te, tf, tg, ai, hvs⟩ := hI
 exact Xz Ka (Vals.at 6 hvs Z (Xm 6 hbef Z)) (Vals.at 9 hvs Z (Xm 9 hbef Z)) mu ny (by omega) (by omega) Z (Xc ⟨ac, nj, s9, tc, td, te, tf, tg, ai, Vals.up 10 hvs Z Z Z⟩)
 refine Xj (fun S F Ap hS hbef hcl hI => ?_) ?_
 obtain ⟨ac, ff, ti, tj, tk, tl, tn, tp, ai, hvs⟩ := hI
 exact Xp (vs := [vi (rAt (mAt G ((rAt (mAt G (E.run - 1).toNat).t.slots (E.a).toNat).th - 1).toNat).t.slots (E.n % 4).toNat).th, vi (rAt (mAt G ((rAt (mAt G (E.run - 1).toNat).t.slots (E.a).toNat).th - 1).toNat).t.slots (E.n % 4).toNat).ve, vb (rAt (mAt G ((rAt (mAt G (E.run - 1).toNat).t.slots (E.a).toNat).th - 1).toNat).t.slots (E.n % 4).toNat).rd, vb (rAt (mAt G ((rAt (mAt G (E.run - 1).toNat).t.slots (E.a).toNat).th - 1).toNat).t.slots (E.n % 4).toNat).wr, vb (rAt (mAt G ((rAt (mAt G (E.run - 1).toNat).t.slots (E.a).toNat).th - 1).toNat).t.slots (E.n % 4).toNat).wk]) Yx (Vals.at 10 hvs Z (Xm 10 hbef Z)) Z (Yr (X9 ob ff) 0 5 Z) Z (Xc ⟨ac, ff, ti, tj, tk, tl, tn, tp, ai, Vals.up 11 hvs Z Z Z⟩)
 refine Xj (fun S F Aq hS hbef hcl hI => ?_) ?_
 obtain ⟨ac, bx, tq, tr, tt, tu, tv, tw, ai, hvs⟩ := hI
 refine Ye (cs := #[vi 0, vi 0, vb false, vb false, vb false]) Kz Z Z ?_
 intro i2 Ar bn
 have il := Yj bn (low0 er bx)
 have ws : hi ≤ i2 := nt (nt (nt (nt (Nat.le_of_eq hhi) ak.size) ag.grw.size) bx.size) (Nat.le_of_eq bn.eq.symm)
 have cz := Xr bn (((((a9.grown0 aj).grown0 ak).gn ag.grw).grown0 bx)).lt
 have c9 := Xr bn ((ag.blk.grown0 bx)).lt
 exact Xc ⟨i2, (low0 bx bn.grw), tq, tr, tt, tu, tv, tw, fun _ => ⟨Z, il, bn.blk, cz, c9, (nt bx.size (Nat.le_of_eq bn.eq.symm))⟩, Vals.keep hvs Z⟩
 exact Q5
 intro S F As hall hI
 obtain ⟨ac, al, je, jf, jg, jh, ji, ef, ai, hvs⟩ := hI
 have mp := Vals.at 11 hvs rfl (hall 11 (by decide))
 obtain ⟨dp, xl, fp, ga, gc, wv⟩ := ai (hall 12 (by decide))
 refine X0 (vs := [vi (rAt (mAt G ((rAt (mAt G (E.run - 1).toNat).t.slots (E.a).toNat).th - 1).toNat).t.slots (E.n % 4).toNat).th, vi (rAt (mAt G ((rAt (mAt G (E.run - 1).toNat).t.slots (E.a).toNat).th - 1).toNat).t.slots (E.n % 4).toNat).ve, vb (rAt (mAt G ((rAt (mAt G (E.run - 1).toNat).t.slots (E.a).toNat).th - 1).toNat).t.slots (E.n % 4).toNat).rd, vb (rAt (mAt G ((rAt (mAt G (E.run - 1).toNat).t.slots (E.a).toNat).th - 1).toNat).t.slots (E.n % 4).toNat).wr, vb (rAt (mAt G ((rAt (mAt G (E.run - 1).toNat).t.slots (E.a).toNat).th - 1).toNat).t.slots (E.n % 4).toNat).wk]) (cs' := #[vi (rAt (mAt G ((rAt (mAt G (E.run - 1).toNat).t.slots (E.a).toNat).th - 1).toNat).t.slots (E.n % 4).toNat).th, vi (rAt (mAt G ((rAt (mAt G (E.run - 1).toNat).t.slots (E.a).toNat).th - 1).toNat).t.slots (E.n % 4).toNat).ve, vb (rAt (mAt G ((rAt (mAt G (E.run - 1).toNat).t.slots (E.a).toNat).th - 1).toNat).t.slots (E.n % 4).toNat).rd, vb (rAt (mAt G ((rAt (mAt G (E.run - 1).toNat).t.slots (E.a).toNat).th - 1).toNat).t.slots (E.n % 4).toNat).wr, vb (rAt (mAt G ((rAt (mAt G (E.run - 1).toNat).t.slots (E.a).toNat).th - 1).toNat).t.slots (E.n % 4).toNat).wk]) Yx dp mp Z (by simp [Value.oneCell']) fp (Nat.le_of_ble_eq_true Z) Z ?_
 intro fz ah
 have dz := low1 (low0 er al) ah.grw (by omega)
 refine Xc (Xu (Xq (Xa (Xd (o' := 4) K7 ef Z Z ?_))))
 have bu := ((ag.blk.grown0 al).gn ah.grw)
 refine Xh (v := vb (rAt (mAt G (E.run - 1).toNat).t.slots (E.a).toNat).wk) J4 Z (bu.cell Z) Z (Xc (Xy Z (fun bf => ?_) (fun bf => ?_)))
 have dk := ex
 rw [bf] at dk
 have ao : (!(rAt (mAt J (E.run - 1).toNat).t.slots (E.b).toNat).wr) = true := by rw [dk, S4 ey]; rfl
 rw [S3 ey] at dk
 have bz : (decide ((rAt (mAt J (E.run - 1).toNat).t.slots (E.b).toNat) = (rightLess (rAt (mAt G ((rAt (mAt G (E.run - 1).toNat).t.slots (E.a).toNat).th - 1).toNat).t.slots (E.n % 4).toNat) true false false))) = true := decide_eq_true dk
 refine X2 (Xp (vs := [vi (rAt (mAt G ((rAt (mAt G (E.run - 1).toNat).t.slots (E.a).toNat).th - 1).toNat).t.slots (E.n % 4).toNat).th, vi (rAt (mAt G ((rAt (mAt G (E.run - 1).toNat).t.slots (E.a).toNat).th - 1).toNat).t.slots (E.n % 4).toNat).ve, vb (rAt (mAt G ((rAt (mAt G (E.run - 1).toNat).t.slots (E.a).toNat).th - 1).toNat).t.slots (E.n % 4).toNat).rd, vb (rAt (mAt G ((rAt (mAt G (E.run - 1).toNat).t.slots (E.a).toNat).th - 1).toNat).t.slots (E.n % 4).toNat).wr, vb (rAt (mAt G ((rAt (mAt G (E.run - 1).toNat).t.slots (E.a).toNat).th - 1).toNat).t.slots (E.n % 4).toNat).wk]) Yx dp Z (ah.blk.rangeL 0 5 Z) Z (Xl Ch (Xg Z (Xg Z (Xg Z (Xg Z Xk)))) Z (Wq (rAt (mAt G ((rAt (mAt G (E.run - 1).toNat).t.slots (E.a).toNat).th - 1).toNat).t.slots (E.n % 4).toNat) true false false _) ?_))
 rintro _ At ⟨rfl, aq⟩
 have xa := (ah.blk.grown0 aq)
 refine X0 (vs := [vi (rightLess (rAt (mAt G ((rAt (mAt G (E.run - 1).toNat).t.slots (E.a).toNat).th - 1).toNat).t.slots (E.n % 4).toNat) true false false).th, vi (rightLess (rAt (mAt G ((rAt (mAt G (E.run - 1).toNat).t.slots (E.a).toNat).th - 1).toNat).t.slots (E.n % 4).toNat) true false false).ve, vb (rightLess (rAt (mAt G ((rAt (mAt G (E.run - 1).toNat).t.slots (E.a).toNat).th - 1).toNat).t.slots (E.n % 4).toNat) true false false).rd, vb (rightLess (rAt (mAt G ((rAt (mAt G (E.run - 1).toNat).t.slots (E.a).toNat).th - 1).toNat).t.slots (E.n % 4).toNat) true false false).wr, vb (rightLess (rAt (mAt G ((rAt (mAt G (E.run - 1).toNat).t.slots (E.a).toNat).th - 1).toNat).t.slots (E.n % 4).toNat) true false false).wk]) (cs' := #[vi (rightLess (rAt (mAt G ((rAt (mAt G (E.run - 1).toNat).t.slots (E.a).toNat).th - 1).toNat).t.slots (E.n % 4).toNat) true false false).th, vi (rightLess (rAt (mAt G ((rAt (mAt G (E.run - 1).toNat).t.slots (E.a).toNat).th - 1).toNat).t.slots (E.n % 4).toNat) true false false).ve, vb (rightLess (rAt (mAt G ((rAt (mAt G (E.run - 1).toNat).t.slots (E.a).toNat).th - 1).toNat).t.slots (E.n % 4).toNat) true false false).rd, vb (rightLess (rAt (mAt G ((rAt (mAt G (E.run - 1).toNat).t.slots (E.a).toNat).th - 1).toNat).t.slots (E.n % 4).toNat) true false false).wr, vb (rightLess (rAt (mAt G ((rAt (mAt G (E.run - 1).toNat).t.slots (E.a).toNat).th - 1).toNat).t.slots (E.n % 4).toNat) true false false).wk]) Yx dp Z Z (by simp [Value.oneCell']) xa (Nat.le_of_ble_eq_true Z) Z ?_
 intro f8 an
 have eu := low1 (low0 dz aq) an.grw (by omega)
 refine Xc (Xu (Xq ?_))
 have dg := (TabG.ge (TabG.low (TabG.ge (TabG.low (TabG.ge (TabG.low df ak) ag.grw ca (by omega)) al) ah.grw ca (by omega)) aq) an.grw ca (by omega))
 obtain ⟨i6, zm, fx, mv, nz, oc⟩ := SlAt.at (TabG.at dg).1 (Yi (xg J (E.run - 1).toNat))
 have xp := TabLen.at bk (xg J (E.run - 1).toNat)
 obtain ⟨ox, zn, xd, mw, n5, od⟩ := SlAt.at (TabAt.th (TabG.at dg) (xg J (E.run - 1).toNat)).1 (Yi (xr (mAt J (E.run - 1).toNat).t.slots (E.b).toNat))
 have yd : hi ≤ f8.heap.size := (nt (nt (nt (nt (nt (nt (Nat.le_of_eq hhi) ak.size) ag.grw.size) al.size) ah.grw.size) aq.size) an.grw.size)
 refine Qy (m := 12) [[], [], [1], [1, 2], [0, 1, 2, 3], [0, 1, 2, 3, 4], [0, 1, 2, 3, 4, 5], [], [7], [0, 1, 2, 3, 4, 5, 6, 7, 8], [0, 1, 2, 3, 4, 5, 6, 7, 8, 9], [], [0, 1, 2, 3, 4, 5, 6, 7, 8, 9, 10, 11]] (fun S F w' => ∃ (ae : Nat), f8.grownBy w' none ∧ F 2 = vb false ∧ F 3 = .slice (pa am) G.length ad ∧ F 4 = pt ar 0 ∧ F 7 = .slice ap J.length af ∧ F 8 = vi (callDo (tabT G) E).2 ∧ F 9 = pt V 0 ∧ F 10 = pt ac 0 ∧ (S 11 = true → F 11 = pt ae 0 ∧ w.heap.size ≤ ae ∧ Blk w' ae 42 #[vi 0, vi 0, vb false, vb false, vb false] ∧ ar < ae ∧ V < ae ∧ ac < ae ∧ f8.heap.size ≤ ae) ∧ Vals S F [(0, 89, .slice ap J.length af), (1, 90, pt ar 1), (2, 91, vi E.run), (3, 92, vi (E.run - 1)), (4, 93, pt i6 fx), (5, 94, pt i6 (fx + 5)), (6, 95, .slice (mAt J (E.run - 1).toNat).sa (mAt J (E.run - 1).toNat).t.slots.length (mAt J (E.run - 1).toNat).sc), (7, 96, pt ar 3), (8, 97, vi E.b), (9, 98, pt ox xd), (10, 99, .agg #[vi (rAt (mAt J (E.run - 1).toNat).t.slots (E.b).toNat).th, vi (rAt (mAt J (E.run - 1).toNat).t.slots (E.b).toNat).ve, vb (rAt (mAt J (E.run - 1).toNat).t.slots (E.b).toNat).rd, vb (rAt (mAt J (E.run - 1).toNat).t.slots (E.b).toNat).wr, vb (rAt (mAt J (E.run - 1).toNat).t.slots (E.b).toNat).wk])]) Yy (by kernel_rfl) ⟨0, X6 _, je, jf, jg, jh, ji, ef, dp, Yt, J3 _⟩ ?_ ?_
 refine Xj (fun S F Au hS hbef hcl hI => ?_) ?_
 obtain ⟨ae, nk, tx, tz, t0, jj, t1, t2, t3, O, hvs⟩ := hI
 exact Xb (v := .slice ap J.length af) jj Z (Xc ⟨ae, nk, tx, tz, t0, jj, t1, t2, t3, O, Vals.up 0 hvs Z Z Z⟩)
 refine Xj (fun S F Av hS hbef hcl hI => ?_) ?_
 obtain ⟨ae, nn, t4, t5, jk, t6, t7, t8, t9, O, hvs⟩ := hI
 exact Xd (o' := 1) Qv jk Z Z (Xc ⟨ae, nn, t4, t5, jk, t6, t7, t8, t9, O, Vals.up 1 hvs Z Z Z⟩)
 refine Xj (fun S F Aw hS hbef hcl hI => ?_) ?_
 obtain ⟨ae, fg, ua, uc, ud, ue, uf, ug, uh, O, hvs⟩ := hI
 exact Xh (v := vi E.run) X1 (Vals.at 1 hvs Z (Xm 1 hbef Z)) (((((((((a9.grown0 aj).grown0 ak).gn ag.grw).grown0 al).gn ah.grw).grown0 aq).gn an.grw).grown0 fg).cell Z) Z (Xc ⟨ae, fg, ua, uc, ud, ue, uf, ug, uh, O, Vals.up 2 hvs Z Z Z⟩)
 refine Xj (fun S F Ax hS hbef hcl hI => ?_) ?_
 obtain ⟨ae, no, uj, uk, ul, um, un, uo, ut, O, hvs⟩ := hI
 exact Ys (c := E.run - 1) (Vals.at 2 hvs Z (Xm 2 hbef Z)) Z (by omega) (by omega) (by omega) Z (Xc ⟨ae, no, uj, uk, ul, um, un, uo, ut, O, Vals.up 3 hvs Z Z Z⟩)
 refine Xj (fun S F Ay hS hbef hcl hI => ?_) ?_
 obtain ⟨ae, np, uu, uv, uw, ux, uy, uz, u0, O, hvs⟩ := hI
 exact Xz Y2 (Vals.at 0 hvs Z (Xm 0 hbef Z)) (Vals.at 3 hvs Z (Xm 3 hbef Z)) mv nz (by omega) (by omega) Z (Xc ⟨ae, np, uu, uv, uw, ux, uy, uz, u0, O, Vals.up 4 hvs Z Z Z⟩)
 refine Xj (fun S F Az hS hbef hcl hI => ?_) ?_
 obtain ⟨ae, nq, u1, u2, u3, u4, u5, u6, u7, O, hvs⟩ := hI
 exact Xd (o' := fx + 5) Qj (Vals.at 4 hvs Z (Xm 4 hbef Z)) Z Z (Xc ⟨ae, nq, u1, u2, u3, u4, u5, u6, u7, O, Vals.up 5 hvs Z Z Z⟩)
 refine Xj (fun S F A0 hS hbef hcl hI => ?_) ?_
 obtain ⟨ae, fh, u9, va, vc, vd, vf, vg, vh, O, hvs⟩ := hI
 exact Xh (v := .slice (mAt J (E.run - 1).toNat).sa (mAt J (E.run - 1).toNat).t.slots.length (mAt J (E.run - 1).toNat).sc) Jh (Vals.at 5 hvs Z (Xm 5 hbef Z)) ((X9 oc fh) 5 _ Z) Z (Xc ⟨ae, fh, u9, va, vc, vd, vf, vg, vh, O, Vals.up 6 hvs Z Z Z⟩)
 refine Xj (fun S F A1 hS hbef hcl hI => ?_) ?_
 obtain ⟨ae, nr, vj, vk, jl, vl, vm, vn, vo, O, hvs⟩ := hI
 exact Xd (o' := 3) K6 jl Z Z (Xc ⟨ae, nr, vj, vk, jl, vl, vm, vn, vo, O, Vals.up 7 hvs Z Z Z⟩)
 refine Xj (fun S F A2 hS hbef hcl hI => ?_) ?_
 obtain ⟨ae, fi, vp, vq, vr, vt, vu, vv, vw, O, hvs⟩ := hI
 exact Xh (v := vi E.b) X1 (Vals.at 7 hvs Z (Xm 7 hbef Z)) (((((((((a9.grown0 aj).grown0 ak).gn ag.grw).grown0 al).gn ah.grw).grown0 aq).gn an.grw).grown0 fi).cell Z) Z (Xc ⟨ae, fi, vp, vq, vr, vt, vu, vv, vw, O, Vals.up 8 hvs Z Z Z⟩)
 refine Xj (fun S F A3 hS hbef hcl hI => ?_) ?_
 obtain ⟨ae, nu, vx, vy, vz, v1, v2, v3, v4, O, hvs⟩ := hI
 exact Xz Ka (Vals.at 6 hvs Z (Xm 6 hbef Z)) (Vals.at 8 hvs Z (Xm 8 hbef Z)) mw n5 (by omega) (by omega) Z (Xc ⟨ae, nu, vx, vy, vz, v1, v2, v3, v4, O, Vals.up 9 hvs Z Z Z⟩)
 refine Xj (fun S F A4 hS hbef hcl hI => ?_) ?_
 obtain ⟨ae, fj, v5, v6, v7, v8, v9, wa, wb, O, hvs⟩ := hI
 exact Xp (vs := [vi (rAt (mAt J (E.run - 1).toNat).t.slots (E.b).toNat).th, vi (rAt (mAt J (E.run - 1).toNat).t.slots (E.b).toNat).ve, vb (rAt (mAt J (E.run - 1).toNat).t.slots (E.b).toNat).rd, vb (rAt (mAt J (E.run - 1).toNat).t.slots (E.b).toNat).wr, vb (rAt (mAt J (E.run - 1).toNat).t.slots (E.b).toNat).wk]) Yx (Vals.at 9 hvs Z (Xm 9 hbef Z)) Z (Yr (X9 od fj) 0 5 Z) Z (Xc ⟨ae, fj, v5, v6, v7, v8, v9, wa, wb, O, Vals.up 10 hvs Z Z Z⟩)
 refine Xj (fun S F A5 hS hbef hcl hI => ?_) ?_
 obtain ⟨ae, bp, wc, wd, we, wg, wh, wi, wj, O, hvs⟩ := hI
 refine Ye (cs := #[vi 0, vi 0, vb false, vb false, vb false]) Kz Z Z ?_
 intro i3 A6 bg
 have im := Yj bg (low0 eu bp)
 have wt : hi ≤ i3 := nt (nt (nt (nt (nt (nt (nt (nt (Nat.le_of_eq hhi) ak.size) ag.grw.size) al.size) ah.grw.size) aq.size) an.grw.size) bp.size) (Nat.le_of_eq bg.eq.symm)
 have c8 := Xr bg (((((((((a9.grown0 aj).grown0 ak).gn ag.grw).grown0 al).gn ah.grw).grown0 aq).gn an.grw).grown0 bp)).lt
 have da := Xr bg ((((bu.grown0 aq).gn an.grw).grown0 bp)).lt
 have db := Xr bg ((an.blk.grown0 bp)).lt
 exact Xc ⟨i3, (low0 bp bg.grw), wc, wd, we, wg, wh, wi, wj, fun _ => ⟨Z, im, bg.blk, c8, da, db, (nt bp.size (Nat.le_of_eq bg.eq.symm))⟩, Vals.keep hvs Z⟩
 exact Q5
 intro S F yk hall hI
 obtain ⟨ae, bb, x3, js, x4, jt, ju, dw, jv, O, hvs⟩ := hI
 obtain ⟨dx, xm, fq, gb, gf, gg, ww⟩ := O (hall 11 (by decide))
 refine X0 (vs := [vi (rAt (mAt J (E.run - 1).toNat).t.slots (E.b).toNat).th, vi (rAt (mAt J (E.run - 1).toNat).t.slots (E.b).toNat).ve, vb (rAt (mAt J (E.run - 1).toNat).t.slots (E.b).toNat).rd, vb (rAt (mAt J (E.run - 1).toNat).t.slots (E.b).toNat).wr, vb (rAt (mAt J (E.run - 1).toNat).t.slots (E.b).toNat).wk]) (cs' := #[vi (rAt (mAt J (E.run - 1).toNat).t.slots (E.b).toNat).th, vi (rAt (mAt J (E.run - 1).toNat).t.slots (E.b).toNat).ve, vb (rAt (mAt J (E.run - 1).toNat).t.slots (E.b).toNat).rd, vb (rAt (mAt J (E.run - 1).toNat).t.slots (E.b).toNat).wr, vb (rAt (mAt J (E.run - 1).toNat).t.slots (E.b).toNat).wk]) Yx dx (Vals.at 10 hvs Z (hall 10 (by decide))) Z (by simp [Value.oneCell']) fq (Nat.le_of_ble_eq_true Z) Z ?_
 intro oo au
 refine Xc (Xu (Xq ?_))
 have dq := (TabG.ge (TabG.low dg bb) au.grw ca (by omega))
 obtain ⟨jm, ye, oe, gj, io, iv⟩ := SlAt.at (TabG.at dq).1 (Yi (xg J ((rAt (mAt G (E.run - 1).toNat).t.slots (E.a).toNat).th - 1).toNat))
 have wy := TabLen.at bk (xg J ((rAt (mAt G (E.run - 1).toNat).t.slots (E.a).toNat).th - 1).toNat)
 have dr := (TabG.ge (TabG.low (TabG.ge (TabG.low (TabG.ge (TabG.low ce al) ah.grw ck (by omega)) aq) an.grw ck (by omega)) bb) au.grw ck (by omega))
 obtain ⟨jo, yf, og, gk, ip, iw⟩ := SlAt.at (TabG.at dr).1 (Yi (xg G ((rAt (mAt G (E.run - 1).toNat).t.slots (E.a).toNat).th - 1).toNat))
 have wz := TabLen.at ba (xg G ((rAt (mAt G (E.run - 1).toNat).t.slots (E.a).toNat).th - 1).toNat)
 refine Yw (m := 30) (vals := [(100, vi (callDo (tabT G) E).2), (101, vb (decide ((callDo (tabT G) E).2 = 0))), (102, vb (decide ((callDo (tabT G) E).2 = 0))), (103, .agg #[vi (rAt (mAt J (E.run - 1).toNat).t.slots (E.b).toNat).th, vi (rAt (mAt J (E.run - 1).toNat).t.slots (E.b).toNat).ve, vb (rAt (mAt J (E.run - 1).toNat).t.slots (E.b).toNat).rd, vb (rAt (mAt J (E.run - 1).toNat).t.slots (E.b).toNat).wr, vb (rAt (mAt J (E.run - 1).toNat).t.slots (E.b).toNat).wk]), (104, .agg #[vi (rightLess (rAt (mAt G ((rAt (mAt G (E.run - 1).toNat).t.slots (E.a).toNat).th - 1).toNat).t.slots (E.n % 4).toNat) true false false).th, vi (rightLess (rAt (mAt G ((rAt (mAt G (E.run - 1).toNat).t.slots (E.a).toNat).th - 1).toNat).t.slots (E.n % 4).toNat) true false false).ve, vb (rightLess (rAt (mAt G ((rAt (mAt G (E.run - 1).toNat).t.slots (E.a).toNat).th - 1).toNat).t.slots (E.n % 4).toNat) true false false).rd, vb (rightLess (rAt (mAt G ((rAt (mAt G (E.run - 1).toNat).t.slots (E.a).toNat).th - 1).toNat).t.slots (E.n % 4).toNat) true false false).wr, vb (rightLess (rAt (mAt G ((rAt (mAt G (E.run - 1).toNat).t.slots (E.a).toNat).th - 1).toNat).t.slots (E.n % 4).toNat) true false false).wk]), (105, vb (decide ((rAt (mAt J (E.run - 1).toNat).t.slots (E.b).toNat) = (rightLess (rAt (mAt G ((rAt (mAt G (E.run - 1).toNat).t.slots (E.a).toNat).th - 1).toNat).t.slots (E.n % 4).toNat) true false false)))), (106, vb (decide ((rAt (mAt J (E.run - 1).toNat).t.slots (E.b).toNat) = (rightLess (rAt (mAt G ((rAt (mAt G (E.run - 1).toNat).t.slots (E.a).toNat).th - 1).toNat).t.slots (E.n % 4).toNat) true false false)))), (107, vb (decide ((rAt (mAt J (E.run - 1).toNat).t.slots (E.b).toNat) = (rightLess (rAt (mAt G ((rAt (mAt G (E.run - 1).toNat).t.slots (E.a).toNat).th - 1).toNat).t.slots (E.n % 4).toNat) true false false)))), (108, pt V 4), (109, vb (rAt (mAt G (E.run - 1).toNat).t.slots (E.a).toNat).wk), (110, vb (!(rAt (mAt G (E.run - 1).toNat).t.slots (E.a).toNat).wk)), (111, vb (!(rAt (mAt G (E.run - 1).toNat).t.slots (E.a).toNat).wk)), (112, pt ae 3), (113, vb (rAt (mAt J (E.run - 1).toNat).t.slots (E.b).toNat).wr), (114, vb (!(rAt (mAt J (E.run - 1).toNat).t.slots (E.b).toNat).wr)), (115, vb (!(rAt (mAt J (E.run - 1).toNat).t.slots (E.b).toNat).wr)), (116, vb (!(rAt (mAt J (E.run - 1).toNat).t.slots (E.b).toNat).wr)), (117, vb (!(rAt (mAt J (E.run - 1).toNat).t.slots (E.b).toNat).wr)), (118, .slice ap J.length af), (119, pt V 0), (120, vi (rAt (mAt G (E.run - 1).toNat).t.slots (E.a).toNat).th), (121, vi ((rAt (mAt G (E.run - 1).toNat).t.slots (E.a).toNat).th - 1)), (122, pt jm oe), (123, .agg #[vi (mAt J ((rAt (mAt G (E.run - 1).toNat).t.slots (E.a).toNat).th - 1).toNat).t.kind, vi (mAt J ((rAt (mAt G (E.run - 1).toNat).t.slots (E.a).toNat).th - 1).toNat).t.lab.s, vi (mAt J ((rAt (mAt G (E.run - 1).toNat).t.slots (E.a).toNat).th - 1).toNat).t.lab.v, vi (mAt J ((rAt (mAt G (E.run - 1).toNat).t.slots (E.a).toNat).th - 1).toNat).t.ve, vi (mAt J ((rAt (mAt G (E.run - 1).toNat).t.slots (E.a).toNat).th - 1).toNat).t.num, .slice (mAt J ((rAt (mAt G (E.run - 1).toNat).t.slots (E.a).toNat).th - 1).toNat).sa (mAt J ((rAt (mAt G (E.run - 1).toNat).t.slots (E.a).toNat).th - 1).toNat).t.slots.length (mAt J ((rAt (mAt G (E.run - 1).toNat).t.slots (E.a).toNat).th - 1).toNat).sc, .slice (mAt J ((rAt (mAt G (E.run - 1).toNat).t.slots (E.a).toNat).th - 1).toNat).qa (mAt J ((rAt (mAt G (E.run - 1).toNat).t.slots (E.a).toNat).th - 1).toNat).t.queue.length (mAt J ((rAt (mAt G (E.run - 1).toNat).t.slots (E.a).toNat).th - 1).toNat).qc, vi (mAt J ((rAt (mAt G (E.run - 1).toNat).t.slots (E.a).toNat).th - 1).toNat).t.to]), (124, .slice (pa am) G.length ad), (125, pt V 0), (126, vi (rAt (mAt G (E.run - 1).toNat).t.slots (E.a).toNat).th), (127, vi ((rAt (mAt G (E.run - 1).toNat).t.slots (E.a).toNat).th - 1)), (128, pt jo og), (129, .agg #[vi (mAt G ((rAt (mAt G (E.run - 1).toNat).t.slots (E.a).toNat).th - 1).toNat).t.kind, vi (mAt G ((rAt (mAt G (E.run - 1).toNat).t.slots (E.a).toNat).th - 1).toNat).t.lab.s, vi (mAt G ((rAt (mAt G (E.run - 1).toNat).t.slots (E.a).toNat).th - 1).toNat).t.lab.v, vi (mAt G ((rAt (mAt G (E.run - 1).toNat).t.slots (E.a).toNat).th - 1).toNat).t.ve, vi (mAt G ((rAt (mAt G (E.run - 1).toNat).t.slots (E.a).toNat).th - 1).toNat).t.num, .slice (mAt G ((rAt (mAt G (E.run - 1).toNat).t.slots (E.a).toNat).th - 1).toNat).sa (mAt G ((rAt (mAt G (E.run - 1).toNat).t.slots (E.a).toNat).th - 1).toNat).t.slots.length (mAt G ((rAt (mAt G (E.run - 1).toNat).t.slots (E.a).toNat).th - 1).toNat).sc, .slice (mAt G ((rAt (mAt G (E.run - 1).toNat).t.slots (E.a).toNat).th - 1).toNat).qa (mAt G ((rAt (mAt G (E.run - 1).toNat).t.slots (E.a).toNat).th - 1).toNat).t.queue.length (mAt G ((rAt (mAt G (E.run - 1).toNat).t.slots (E.a).toNat).th - 1).toNat).qc, vi (mAt G ((rAt (mAt G (E.run - 1).toNat).t.slots (E.a).toNat).th - 1).toNat).t.to])]) (fun w' => oo.grownBy w' none) Yy (by kernel_rfl) (X6 _) ?_ ?_
 refine yl Z (fun _ _ k => Xb (v := vi (callDo (tabT G) E).2) ju Z k) (yl Z (fun _ _ k => X3 (q := decide ((callDo (tabT G) E).2 = 0)) Z Z Z Z k) (yl Z (fun _ _ k => Xb (v := vb (decide ((callDo (tabT G) E).2 = 0))) Z Z k) (yl Z (fun _ gu k => Xf Z Z Z bj (Xp (vs := [vi (rAt (mAt J (E.run - 1).toNat).t.slots (E.b).toNat).th, vi (rAt (mAt J (E.run - 1).toNat).t.slots (E.b).toNat).ve, vb (rAt (mAt J (E.run - 1).toNat).t.slots (E.b).toNat).rd, vb (rAt (mAt J (E.run - 1).toNat).t.slots (E.b).toNat).wr, vb (rAt (mAt J (E.run - 1).toNat).t.slots (E.b).toNat).wk]) Yx dx Z ((au.blk.grown0 gu).rangeL 0 5 Z) Z k)) (yl Z (fun _ gv k => Xf Z Z Z bj (Xp (vs := [vi (rightLess (rAt (mAt G ((rAt (mAt G (E.run - 1).toNat).t.slots (E.a).toNat).th - 1).toNat).t.slots (E.n % 4).toNat) true false false).th, vi (rightLess (rAt (mAt G ((rAt (mAt G (E.run - 1).toNat).t.slots (E.a).toNat).th - 1).toNat).t.slots (E.n % 4).toNat) true false false).ve, vb (rightLess (rAt (mAt G ((rAt (mAt G (E.run - 1).toNat).t.slots (E.a).toNat).th - 1).toNat).t.slots (E.n % 4).toNat) true false false).rd, vb (rightLess (rAt (mAt G ((rAt (mAt G (E.run - 1).toNat).t.slots (E.a).toNat).th - 1).toNat).t.slots (E.n % 4).toNat) true false false).wr, vb (rightLess (rAt (mAt G ((rAt (mAt G (E.run - 1).toNat).t.slots (E.a).toNat).th - 1).toNat).t.slots (E.n % 4).toNat) true false false).wk]) Yx jv Z ((((an.blk.grown0 bb).gn au.grw).grown0 gv).rangeL 0 5 Z) Z k)) (yl Z (fun _ _ k => Xf Z Z Z bj (Vn (q := decide ((rAt (mAt J (E.run - 1).toNat).t.slots (E.b).toNat) = (rightLess (rAt (mAt G ((rAt (mAt G (E.run - 1).toNat).t.slots (E.a).toNat).th - 1).toNat).t.slots (E.n % 4).toNat) true false false))) Z Z (Ll _ _ (rAt (mAt J (E.run - 1).toNat).t.slots (E.b).toNat) (rightLess (rAt (mAt G ((rAt (mAt G (E.run - 1).toNat).t.slots (E.a).toNat).th - 1).toNat).t.slots (E.n % 4).toNat) true false false) _) (Hh (rAt (mAt J (E.run - 1).toNat).t.slots (E.b).toNat) (rightLess (rAt (mAt G ((rAt (mAt G (E.run - 1).toNat).t.slots (E.a).toNat).th - 1).toNat).t.slots (E.n % 4).toNat) true false false) _) Z Z k)) (yl Z (fun _ _ k => Xs (v := vb (decide ((rAt (mAt J (E.run - 1).toNat).t.slots (E.b).toNat) = (rightLess (rAt (mAt G ((rAt (mAt G (E.run - 1).toNat).t.slots (E.a).toNat).th - 1).toNat).t.slots (E.n % 4).toNat) true false false)))) Z bj Z Z k) ?_))))))
 refine yl Z (fun _ _ k => Xb (v := vb (decide ((rAt (mAt J (E.run - 1).toNat).t.slots (E.b).toNat) = (rightLess (rAt (mAt G ((rAt (mAt G (E.run - 1).toNat).t.slots (E.a).toNat).th - 1).toNat).t.slots (E.n % 4).toNat) true false false)))) Z Z k) (yl Z (fun _ _ k => Xf Z Z Z bz (Xd (o' := 4) K7 dw Z Z k)) (yl Z (fun _ gw k => Xf Z Z Z bz (Xh (v := vb (rAt (mAt G (E.run - 1).toNat).t.slots (E.a).toNat).wk) J4 Z ((((((bu.grown0 aq).gn an.grw).grown0 bb).gn au.grw).grown0 gw).cell Z) Z k)) (yl Z (fun _ _ k => Xf Z Z Z bz (Yl (b' := !(rAt (mAt G (E.run - 1).toNat).t.slots (E.a).toNat).wk) Z Z Z k)) (yl Z (fun _ _ k => Xf Z Z Z bz (Xb (v := vb (!(rAt (mAt G (E.run - 1).toNat).t.slots (E.a).toNat).wk)) Z Z k)) (yl Z (fun _ _ k => Xf Z Z Z (Qk bf) (Xd (o' := 3) Vk dx Z Z k)) (yl Z (fun _ gx k => Xf Z Z Z (Qk bf) (Xh (v := vb (rAt (mAt J (E.run - 1).toNat).t.slots (E.b).toNat).wr) J4 Z ((au.blk.grown0 gx).cell Z) Z k)) (yl Z (fun _ _ k => Xf Z Z Z (Qk bf) (Yl (b' := !(rAt (mAt J (E.run - 1).toNat).t.slots (E.b).toNat).wr) Z Z Z k)) (yl Z (fun _ _ k => Xf Z Z Z bz (Xo (v := vb (!(rAt (mAt J (E.run - 1).toNat).t.slots (E.b).toNat).wr)) Z (Qk bf) Z Z k)) (yl Z (fun _ _ k => Xs (v := vb (!(rAt (mAt J (E.run - 1).toNat).t.slots (E.b).toNat).wr)) Z bz Z Z k) (yl Z (fun _ _ k => Xb (v := vb (!(rAt (mAt J (E.run - 1).toNat).t.slots (E.b).toNat).wr)) Z Z k) ?_))))))))))
 refine yl Z (fun _ _ k => Xf Z Z Z ao (Xb (v := .slice ap J.length af) jt Z k)) (yl Z (fun _ _ k => Xf Z Z Z ao (Xd (o' := 0) Yz dw Z Z k)) (yl Z (fun _ gy k => Xf Z Z Z ao (Xh (v := vi (rAt (mAt G (E.run - 1).toNat).t.slots (E.a).toNat).th) X1 Z ((((((bu.grown0 aq).gn an.grw).grown0 bb).gn au.grw).grown0 gy).cell Z) Z k)) (yl Z (fun _ _ k => Xf Z Z Z ao (Ys (c := (rAt (mAt G (E.run - 1).toNat).t.slots (E.a).toNat).th - 1) Z Z (by omega) (by omega) (by omega) Z k)) (yl Z (fun _ _ k => Xf Z Z Z ao (Xz Y2 Z Z gj io (by omega) (by omega) Z k)) (yl Z (fun _ gz k => Xf Z Z Z ao (Xp (vs := [vi (mAt J ((rAt (mAt G (E.run - 1).toNat).t.slots (E.a).toNat).th - 1).toNat).t.kind, vi (mAt J ((rAt (mAt G (E.run - 1).toNat).t.slots (E.a).toNat).th - 1).toNat).t.lab.s, vi (mAt J ((rAt (mAt G (E.run - 1).toNat).t.slots (E.a).toNat).th - 1).toNat).t.lab.v, vi (mAt J ((rAt (mAt G (E.run - 1).toNat).t.slots (E.a).toNat).th - 1).toNat).t.ve, vi (mAt J ((rAt (mAt G (E.run - 1).toNat).t.slots (E.a).toNat).th - 1).toNat).t.num, .slice (mAt J ((rAt (mAt G (E.run - 1).toNat).t.slots (E.a).toNat).th - 1).toNat).sa (mAt J ((rAt (mAt G (E.run - 1).toNat).t.slots (E.a).toNat).th - 1).toNat).t.slots.length (mAt J ((rAt (mAt G (E.run - 1).toNat).t.slots (E.a).toNat).th - 1).toNat).sc, .slice (mAt J ((rAt (mAt G (E.run - 1).toNat).t.slots (E.a).toNat).th - 1).toNat).qa (mAt J ((rAt (mAt G (E.run - 1).toNat).t.slots (E.a).toNat).th - 1).toNat).t.queue.length (mAt J ((rAt (mAt G (E.run - 1).toNat).t.slots (E.a).toNat).th - 1).toNat).qc, vi (mAt J ((rAt (mAt G (E.run - 1).toNat).t.slots (E.a).toNat).th - 1).toNat).t.to]) Y0 Z Z (Yr (X9 iv gz) 0 8 Z) Z k)) (yl Z (fun _ _ k => Xf Z Z Z ao (Xb (v := .slice (pa am) G.length ad) js Z k)) (yl Z (fun _ _ k => Xf Z Z Z ao (Xd (o' := 0) Yz dw Z Z k)) (yl Z (fun _ g0 k => Xf Z Z Z ao (Xh (v := vi (rAt (mAt G (E.run - 1).toNat).t.slots (E.a).toNat).th) X1 Z ((((((bu.grown0 aq).gn an.grw).grown0 bb).gn au.grw).grown0 g0).cell Z) Z k)) (yl Z (fun _ _ k => Xf Z Z Z ao (Ys (c := (rAt (mAt G (E.run - 1).toNat).t.slots (E.a).toNat).th - 1) Z Z (by omega) (by omega) (by omega) Z k)) (yl Z (fun _ _ k => Xf Z Z Z ao (Xz Y2 Z Z gk ip (by omega) (by omega) Z k)) ?_))))))))))
 exact yl Z (fun _ g1 k => Xf Z Z Z ao (Xp (vs := [vi (mAt G ((rAt (mAt G (E.run - 1).toNat).t.slots (E.a).toNat).th - 1).toNat).t.kind, vi (mAt G ((rAt (mAt G (E.run - 1).toNat).t.slots (E.a).toNat).th - 1).toNat).t.lab.s, vi (mAt G ((rAt (mAt G (E.run - 1).toNat).t.slots (E.a).toNat).th - 1).toNat).t.lab.v, vi (mAt G ((rAt (mAt G (E.run - 1).toNat).t.slots (E.a).toNat).th - 1).toNat).t.ve, vi (mAt G ((rAt (mAt G (E.run - 1).toNat).t.slots (E.a).toNat).th - 1).toNat).t.num, .slice (mAt G ((rAt (mAt G (E.run - 1).toNat).t.slots (E.a).toNat).th - 1).toNat).sa (mAt G ((rAt (mAt G (E.run - 1).toNat).t.slots (E.a).toNat).th - 1).toNat).t.slots.length (mAt G ((rAt (mAt G (E.run - 1).toNat).t.slots (E.a).toNat).th - 1).toNat).sc, .slice (mAt G ((rAt (mAt G (E.run - 1).toNat).t.slots (E.a).toNat).th - 1).toNat).qa (mAt G ((rAt (mAt G (E.run - 1).toNat).t.slots (E.a).toNat).th - 1).toNat).t.queue.length (mAt G ((rAt (mAt G (E.run - 1).toNat).t.slots (E.a).toNat).th - 1).toNat).qc, vi (mAt G ((rAt (mAt G (E.run - 1).toNat).t.slots (E.a).toNat).th - 1).toNat).t.to]) Y0 Z Z (Yr (X9 iw g1) 0 8 Z) Z k)) Y5
 intro ym dl
 refine Xf Z Z Z ao ?_
 have ei := (TabG.low dq dl)
 have ej := (TabG.low dr dl)
 refine Xl Hu (Xg Z (Xg Z Xk)) Z (Vv (mAt J ((rAt (mAt G (E.run - 1).toNat).t.slots (E.a).toNat).th - 1).toNat) (mAt G ((rAt (mAt G (E.run - 1).toNat).t.slots (E.a).toNat).th - 1).toNat) _ (TabAt.th (TabG.at ei) (xg J ((rAt (mAt G (E.run - 1).toNat).t.slots (E.a).toNat).th - 1).toNat)) (TabAt.th (TabG.at ej) (xg G ((rAt (mAt G (E.run - 1).toNat).t.slots (E.a).toNat).th - 1).toNat)) ⟨by first | omega | exact Nat.le_of_ble_eq_true Z | (simp only [List.length_nil, List.length_cons, List.length_append, List.length_replicate]; omega), by first | omega | exact Nat.le_of_ble_eq_true Z | (simp only [List.length_nil, List.length_cons, List.length_append, List.length_replicate]; omega)⟩ ⟨by first | omega | exact Nat.le_of_ble_eq_true Z | (simp only [List.length_nil, List.length_cons, List.length_append, List.length_replicate]; omega), by first | omega | exact Nat.le_of_ble_eq_true Z | (simp only [List.length_nil, List.length_cons, List.length_append, List.length_replicate]; omega)⟩) ?_
 rintro _ yn ⟨rfl, gr⟩
 refine Xs (v := vb (decide ((mAt J ((rAt (mAt G (E.run - 1).toNat).t.slots (E.a).toNat).th - 1).toNat).t = (mAt G ((rAt (mAt G (E.run - 1).toNat).t.slots (E.a).toNat).th - 1).toNat).t))) Z ao Z Z (Xe (v := vb (decide ((mAt J ((rAt (mAt G (E.run - 1).toNat).t.slots (E.a).toNat).th - 1).toNat).t = (mAt G ((rAt (mAt G (E.run - 1).toNat).t.slots (E.a).toNat).th - 1).toNat).t))) Z Z (Xc (Xu (Xt (⟨vb (decide ((mAt J ((rAt (mAt G (E.run - 1).toNat).t.slots (E.a).toNat).th - 1).toNat).t = (mAt G ((rAt (mAt G (E.run - 1).toNat).t.slots (E.a).toNat).th - 1).toNat).t)), Yp Z Z, ?_, (low0 (low0 (low1 (low0 eu bb) au.grw (by omega)) dl) gr)⟩)))))
 exact congrArg Value.bool (decide_eq_true ew)
 have di := ex
 rw [bf] at di
 rw [Ms] at di
 have bl : (decide ((rAt (mAt J (E.run - 1).toNat).t.slots (E.b).toNat) = (rAt (mAt G ((rAt (mAt G (E.run - 1).toNat).t.slots (E.a).toNat).th - 1).toNat).t.slots (E.n % 4).toNat))) = true := decide_eq_true di
 refine Xw (Xu (Xq ?_))
 have cj := (TabG.ge (TabG.low (TabG.ge (TabG.low df ak) ag.grw ca (by omega)) al) ah.grw ca (by omega))
 obtain ⟨d9, yg, d0, gl, iq, ix⟩ := SlAt.at (TabG.at cj).1 (Yi (xg J (E.run - 1).toNat))
 have w5 := TabLen.at bk (xg J (E.run - 1).toNat)
 obtain ⟨jp, yh, oh, gm, ir, iy⟩ := SlAt.at (TabAt.th (TabG.at cj) (xg J (E.run - 1).toNat)).1 (Yi (xr (mAt J (E.run - 1).toNat).t.slots (E.b).toNat))
 have x0 : hi ≤ fz.heap.size := (nt (nt (nt (nt (Nat.le_of_eq hhi) ak.size) ag.grw.size) al.size) ah.grw.size)
 refine Qy (m := 12) [[], [], [1], [1, 2], [0, 1, 2, 3], [0, 1, 2, 3, 4], [0, 1, 2, 3, 4, 5], [], [7], [0, 1, 2, 3, 4, 5, 6, 7, 8], [0, 1, 2, 3, 4, 5, 6, 7, 8, 9], [], [0, 1, 2, 3, 4, 5, 6, 7, 8, 9, 10, 11]] (fun S F w' => ∃ (ab : Nat), fz.grownBy w' none ∧ F 2 = vb false ∧ F 3 = .slice (pa am) G.length ad ∧ F 4 = pt ar 0 ∧ F 7 = .slice ap J.length af ∧ F 8 = vi (callDo (tabT G) E).2 ∧ F 9 = pt V 0 ∧ F 10 = pt ac 0 ∧ (S 11 = true → F 11 = pt ab 0 ∧ w.heap.size ≤ ab ∧ Blk w' ab 42 #[vi 0, vi 0, vb false, vb false, vb false] ∧ ar < ab ∧ V < ab ∧ ac < ab ∧ fz.heap.size ≤ ab) ∧ Vals S F [(0, 89, .slice ap J.length af), (1, 90, pt ar 1), (2, 91, vi E.run), (3, 92, vi (E.run - 1)), (4, 93, pt d9 d0), (5, 94, pt d9 (d0 + 5)), (6, 95, .slice (mAt J (E.run - 1).toNat).sa (mAt J (E.run - 1).toNat).t.slots.length (mAt J (E.run - 1).toNat).sc), (7, 96, pt ar 3), (8, 97, vi E.b), (9, 98, pt jp oh), (10, 99, .agg #[vi (rAt (mAt J (E.run - 1).toNat).t.slots (E.b).toNat).th, vi (rAt (mAt J (E.run - 1).toNat).t.slots (E.b).toNat).ve, vb (rAt (mAt J (E.run - 1).toNat).t.slots (E.b).toNat).rd, vb (rAt (mAt J (E.run - 1).toNat).t.slots (E.b).toNat).wr, vb (rAt (mAt J (E.run - 1).toNat).t.slots (E.b).toNat).wk])]) Yy (by kernel_rfl) ⟨0, X6 _, je, jf, jg, jh, ji, ef, dp, Yt, J3 _⟩ ?_ ?_
 refine Xj (fun S F yo hS hbef hcl hI => ?_) ?_
 obtain ⟨ab, g2, jw, jx, jy, ea, jz, j1, j2, O, hvs⟩ := hI
 exact Xb (v := .slice ap J.length af) ea Z (Xc ⟨ab, g2, jw, jx, jy, ea, jz, j1, j2, O, Vals.up 0 hvs Z Z Z⟩)
 refine Xj (fun S F yp hS hbef hcl hI => ?_) ?_
 obtain ⟨ab, g3, j3, j4, eb, j5, j6, j7, j8, O, hvs⟩ := hI
 exact Xd (o' := 1) Qv eb Z Z (Xc ⟨ab, g3, j3, j4, eb, j5, j6, j7, j8, O, Vals.up 1 hvs Z Z Z⟩)
 refine Xj (fun S F yq hS hbef hcl hI => ?_) ?_
 obtain ⟨ab, d3, j9, ka, kb, kc, ke, kf, kg, O, hvs⟩ := hI
 exact Xh (v := vi E.run) X1 (Vals.at 1 hvs Z (Xm 1 hbef Z)) (((((((a9.grown0 aj).grown0 ak).gn ag.grw).grown0 al).gn ah.grw).grown0 d3).cell Z) Z (Xc ⟨ab, d3, j9, ka, kb, kc, ke, kf, kg, O, Vals.up 2 hvs Z Z Z⟩)
 refine Xj (fun S F yr hS hbef hcl hI => ?_) ?_
 obtain ⟨ab, g5, kh, ki, kj, kk, kl, km, kn, O, hvs⟩ := hI
 exact Ys (c := E.run - 1) (Vals.at 2 hvs Z (Xm 2 hbef Z)) Z (by omega) (by omega) (by omega) Z (Xc ⟨ab, g5, kh, ki, kj, kk, kl, km, kn, O, Vals.up 3 hvs Z Z Z⟩)
 refine Xj (fun S F yu hS hbef hcl hI => ?_) ?_
 obtain ⟨ab, g6, ko, kp, kq, kr, ks, kt, ku, O, hvs⟩ := hI
 exact Xz Y2 (Vals.at 0 hvs Z (Xm 0 hbef Z)) (Vals.at 3 hvs Z (Xm 3 hbef Z)) gl iq (by omega) (by omega) Z (Xc ⟨ab, g6, ko, kp, kq, kr, ks, kt, ku, O, Vals.up 4 hvs Z Z Z⟩)
 refine Xj (fun S F yv hS hbef hcl hI => ?_) ?_
 obtain ⟨ab, g7, kv, kw, kx, ky, kz, k0, k3, O, hvs⟩ := hI
 exact Xd (o' := d0 + 5) Qj (Vals.at 4 hvs Z (Xm 4 hbef Z)) Z Z (Xc ⟨ab, g7, kv, kw, kx, ky, kz, k0, k3, O, Vals.up 5 hvs Z Z Z⟩)
 refine Xj (fun S F yw hS hbef hcl hI => ?_) ?_
 obtain ⟨ab, d4, k4, k5, k6, k7, k8, k9, la, O, hvs⟩ := hI
 exact Xh (v := .slice (mAt J (E.run - 1).toNat).sa (mAt J (E.run - 1).toNat).t.slots.length (mAt J (E.run - 1).toNat).sc) Jh (Vals.at 5 hvs Z (Xm 5 hbef Z)) ((X9 ix d4) 5 _ Z) Z (Xc ⟨ab, d4, k4, k5, k6, k7, k8, k9, la, O, Vals.up 6 hvs Z Z Z⟩)
 refine Xj (fun S F yx hS hbef hcl hI => ?_) ?_
 obtain ⟨ab, g8, lc, ld, ed, le, lf, lg, lh, O, hvs⟩ := hI
 exact Xd (o' := 3) K6 ed Z Z (Xc ⟨ab, g8, lc, ld, ed, le, lf, lg, lh, O, Vals.up 7 hvs Z Z Z⟩)
 refine Xj (fun S F yy hS hbef hcl hI => ?_) ?_
 obtain ⟨ab, d5, li, lj, lk, ll, lm, ln, lp, O, hvs⟩ := hI
 exact Xh (v := vi E.b) X1 (Vals.at 7 hvs Z (Xm 7 hbef Z)) (((((((a9.grown0 aj).grown0 ak).gn ag.grw).grown0 al).gn ah.grw).grown0 d5).cell Z) Z (Xc ⟨ab, d5, li, lj, lk, ll, lm, ln, lp, O, Vals.up 8 hvs Z Z Z⟩)
 refine Xj (fun S F yz hS hbef hcl hI => ?_) ?_
 obtain ⟨ab, g9, lu, lv, lw, lx, ly, lz, l0, O, hvs⟩ := hI
 exact Xz Ka (Vals.at 6 hvs Z (Xm 6 hbef Z)) (Vals.at 8 hvs Z (Xm 8 hbef Z)) gm ir (by omega) (by omega) Z (Xc ⟨ab, g9, lu, lv, lw, lx, ly, lz, l0, O, Vals.up 9 hvs Z Z Z⟩)
 refine Xj (fun S F y2 hS hbef hcl hI => ?_) ?_
 obtain ⟨ab, d6, l3, l4, l5, l6, l7, l8, l9, O, hvs⟩ := hI
 exact Xp (vs := [vi (rAt (mAt J (E.run - 1).toNat).t.slots (E.b).toNat).th, vi (rAt (mAt J (E.run - 1).toNat).t.slots (E.b).toNat).ve, vb (rAt (mAt J (E.run - 1).toNat).t.slots (E.b).toNat).rd, vb (rAt (mAt J (E.run - 1).toNat).t.slots (E.b).toNat).wr, vb (rAt (mAt J (E.run - 1).toNat).t.slots (E.b).toNat).wk]) Yx (Vals.at 9 hvs Z (Xm 9 hbef Z)) Z (Yr (X9 iy d6) 0 5 Z) Z (Xc ⟨ab, d6, l3, l4, l5, l6, l7, l8, l9, O, Vals.up 10 hvs Z Z Z⟩)
 refine Xj (fun S F y3 hS hbef hcl hI => ?_) ?_
 obtain ⟨ab, bc, ma, mb, mc, me, mf, mg, mh, O, hvs⟩ := hI
 refine Ye (cs := #[vi 0, vi 0, vb false, vb false, vb false]) Kz Z Z ?_
 intro d8 y6 aw
 have fk := Yj aw (low0 dz bc)
 have ot : hi ≤ d8 := nt (nt (nt (nt (nt (nt (Nat.le_of_eq hhi) ak.size) ag.grw.size) al.size) ah.grw.size) bc.size) (Nat.le_of_eq aw.eq.symm)
 have cv := Xr aw (((((((a9.grown0 aj).grown0 ak).gn ag.grw).grown0 al).gn ah.grw).grown0 bc)).lt
 have cw := Xr aw ((bu.grown0 bc)).lt
 have cx := Xr aw ((ah.blk.grown0 bc)).lt
 exact Xc ⟨d8, (low0 bc aw.grw), ma, mb, mc, me, mf, mg, mh, fun _ => ⟨Z, fk, aw.blk, cv, cw, cx, (nt bc.size (Nat.le_of_eq aw.eq.symm))⟩, Vals.keep hvs Z⟩
 exact Q5
 intro S F y7 hall hI
 obtain ⟨ab, bd, x5, ml, x6, mm, mn, dy, mo, O, hvs⟩ := hI
 obtain ⟨ee, wx, d7, fr, ft, fu, ou⟩ := O (hall 11 (by decide))
 refine X0 (vs := [vi (rAt (mAt J (E.run - 1).toNat).t.slots (E.b).toNat).th, vi (rAt (mAt J (E.run - 1).toNat).t.slots (E.b).toNat).ve, vb (rAt (mAt J (E.run - 1).toNat).t.slots (E.b).toNat).rd, vb (rAt (mAt J (E.run - 1).toNat).t.slots (E.b).toNat).wr, vb (rAt (mAt J (E.run - 1).toNat).t.slots (E.b).toNat).wk]) (cs' := #[vi (rAt (mAt J (E.run - 1).toNat).t.slots (E.b).toNat).th, vi (rAt (mAt J (E.run - 1).toNat).t.slots (E.b).toNat).ve, vb (rAt (mAt J (E.run - 1).toNat).t.slots (E.b).toNat).rd, vb (rAt (mAt J (E.run - 1).toNat).t.slots (E.b).toNat).wr, vb (rAt (mAt J (E.run - 1).toNat).t.slots (E.b).toNat).wk]) Yx ee (Vals.at 10 hvs Z (hall 10 (by decide))) Z (by simp [Value.oneCell']) d7 (Nat.le_of_ble_eq_true Z) Z ?_
 intro oq az
 refine Xc (Xu (Xq ?_))
 have dt := (TabG.ge (TabG.low cj bd) az.grw ca (by omega))
 obtain ⟨jq, yi, ol, gp, it, iz⟩ := SlAt.at (TabG.at dt).1 (Yi (xg J ((rAt (mAt G (E.run - 1).toNat).t.slots (E.a).toNat).th - 1).toNat))
 have w7 := TabLen.at bk (xg J ((rAt (mAt G (E.run - 1).toNat).t.slots (E.a).toNat).th - 1).toNat)
 have du := (TabG.ge (TabG.low (TabG.ge (TabG.low ce al) ah.grw ck (by omega)) bd) az.grw ck (by omega))
 obtain ⟨jr, yj, om, gq, iu, i0⟩ := SlAt.at (TabG.at du).1 (Yi (xg G ((rAt (mAt G (E.run - 1).toNat).t.slots (E.a).toNat).th - 1).toNat))
 have w8 := TabLen.at ba (xg G ((rAt (mAt G (E.run - 1).toNat).t.slots (E.a).toNat).th - 1).toNat)
 refine Yw (m := 30) (vals := [(100, vi (callDo (tabT G) E).2), (101, vb (decide ((callDo (tabT G) E).2 = 0))), (102, vb (decide ((callDo (tabT G) E).2 = 0))), (103, .agg #[vi (rAt (mAt J (E.run - 1).toNat).t.slots (E.b).toNat).th, vi (rAt (mAt J (E.run - 1).toNat).t.slots (E.b).toNat).ve, vb (rAt (mAt J (E.run - 1).toNat).t.slots (E.b).toNat).rd, vb (rAt (mAt J (E.run - 1).toNat).t.slots (E.b).toNat).wr, vb (rAt (mAt J (E.run - 1).toNat).t.slots (E.b).toNat).wk]), (104, .agg #[vi (rAt (mAt G ((rAt (mAt G (E.run - 1).toNat).t.slots (E.a).toNat).th - 1).toNat).t.slots (E.n % 4).toNat).th, vi (rAt (mAt G ((rAt (mAt G (E.run - 1).toNat).t.slots (E.a).toNat).th - 1).toNat).t.slots (E.n % 4).toNat).ve, vb (rAt (mAt G ((rAt (mAt G (E.run - 1).toNat).t.slots (E.a).toNat).th - 1).toNat).t.slots (E.n % 4).toNat).rd, vb (rAt (mAt G ((rAt (mAt G (E.run - 1).toNat).t.slots (E.a).toNat).th - 1).toNat).t.slots (E.n % 4).toNat).wr, vb (rAt (mAt G ((rAt (mAt G (E.run - 1).toNat).t.slots (E.a).toNat).th - 1).toNat).t.slots (E.n % 4).toNat).wk]), (105, vb (decide ((rAt (mAt J (E.run - 1).toNat).t.slots (E.b).toNat) = (rAt (mAt G ((rAt (mAt G (E.run - 1).toNat).t.slots (E.a).toNat).th - 1).toNat).t.slots (E.n % 4).toNat)))), (106, vb (decide ((rAt (mAt J (E.run - 1).toNat).t.slots (E.b).toNat) = (rAt (mAt G ((rAt (mAt G (E.run - 1).toNat).t.slots (E.a).toNat).th - 1).toNat).t.slots (E.n % 4).toNat)))), (107, vb (decide ((rAt (mAt J (E.run - 1).toNat).t.slots (E.b).toNat) = (rAt (mAt G ((rAt (mAt G (E.run - 1).toNat).t.slots (E.a).toNat).th - 1).toNat).t.slots (E.n % 4).toNat)))), (108, pt V 4), (109, vb (rAt (mAt G (E.run - 1).toNat).t.slots (E.a).toNat).wk), (110, vb (!(rAt (mAt G (E.run - 1).toNat).t.slots (E.a).toNat).wk)), (111, vb (!(rAt (mAt G (E.run - 1).toNat).t.slots (E.a).toNat).wk)), (112, undef), (113, undef), (114, undef), (115, vb true), (116, vb true), (117, vb true), (118, .slice ap J.length af), (119, pt V 0), (120, vi (rAt (mAt G (E.run - 1).toNat).t.slots (E.a).toNat).th), (121, vi ((rAt (mAt G (E.run - 1).toNat).t.slots (E.a).toNat).th - 1)), (122, pt jq ol), (123, .agg #[vi (mAt J ((rAt (mAt G (E.run - 1).toNat).t.slots (E.a).toNat).th - 1).toNat).t.kind, vi (mAt J ((rAt (mAt G (E.run - 1).toNat).t.slots (E.a).toNat).th - 1).toNat).t.lab.s, vi (mAt J ((rAt (mAt G (E.run - 1).toNat).t.slots (E.a).toNat).th - 1).toNat).t.lab.v, vi (mAt J ((rAt (mAt G (E.run - 1).toNat).t.slots (E.a).toNat).th - 1).toNat).t.ve, vi (mAt J ((rAt (mAt G (E.run - 1).toNat).t.slots (E.a).toNat).th - 1).toNat).t.num, .slice (mAt J ((rAt (mAt G (E.run - 1).toNat).t.slots (E.a).toNat).th - 1).toNat).sa (mAt J ((rAt (mAt G (E.run - 1).toNat).t.slots (E.a).toNat).th - 1).toNat).t.slots.length (mAt J ((rAt (mAt G (E.run - 1).toNat).t.slots (E.a).toNat).th - 1).toNat).sc, .slice (mAt J ((rAt (mAt G (E.run - 1).toNat).t.slots (E.a).toNat).th - 1).toNat).qa (mAt J ((rAt (mAt G (E.run - 1).toNat).t.slots (E.a).toNat).th - 1).toNat).t.queue.length (mAt J ((rAt (mAt G (E.run - 1).toNat).t.slots (E.a).toNat).th - 1).toNat).qc, vi (mAt J ((rAt (mAt G (E.run - 1).toNat).t.slots (E.a).toNat).th - 1).toNat).t.to]), (124, .slice (pa am) G.length ad), (125, pt V 0), (126, vi (rAt (mAt G (E.run - 1).toNat).t.slots (E.a).toNat).th), (127, vi ((rAt (mAt G (E.run - 1).toNat).t.slots (E.a).toNat).th - 1)), (128, pt jr om), (129, .agg #[vi (mAt G ((rAt (mAt G (E.run - 1).toNat).t.slots (E.a).toNat).th - 1).toNat).t.kind, vi (mAt G ((rAt (mAt G (E.run - 1).toNat).t.slots (E.a).toNat).th - 1).toNat).t.lab.s, vi (mAt G ((rAt (mAt G (E.run - 1).toNat).t.slots (E.a).toNat).th - 1).toNat).t.lab.v, vi (mAt G ((rAt (mAt G (E.run - 1).toNat).t.slots (E.a).toNat).th - 1).toNat).t.ve, vi (mAt G ((rAt (mAt G (E.run - 1).toNat).t.slots (E.a).toNat).th - 1).toNat).t.num, .slice (mAt G ((rAt (mAt G (E.run - 1).toNat).t.slots (E.a).toNat).th - 1).toNat).sa (mAt G ((rAt (mAt G (E.run - 1).toNat).t.slots (E.a).toNat).th - 1).toNat).t.slots.length (mAt G ((rAt (mAt G (E.run - 1).toNat).t.slots (E.a).toNat).th - 1).toNat).sc, .slice (mAt G ((rAt (mAt G (E.run - 1).toNat).t.slots (E.a).toNat).th - 1).toNat).qa (mAt G ((rAt (mAt G (E.run - 1).toNat).t.slots (E.a).toNat).th - 1).toNat).t.queue.length (mAt G ((rAt (mAt G (E.run - 1).toNat).t.slots (E.a).toNat).th - 1).toNat).qc, vi (mAt G ((rAt (mAt G (E.run - 1).toNat).t.slots (E.a).toNat).th - 1).toNat).t.to])]) (fun w' => oq.grownBy w' none) Yy (by kernel_rfl) (X6 _) ?_ ?_
 refine yl Z (fun _ _ k => Xb (v := vi (callDo (tabT G) E).2) mn Z k) (yl Z (fun _ _ k => X3 (q := decide ((callDo (tabT G) E).2 = 0)) Z Z Z Z k) (yl Z (fun _ _ k => Xb (v := vb (decide ((callDo (tabT G) E).2 = 0))) Z Z k) (yl Z (fun _ ia k => Xf Z Z Z bj (Xp (vs := [vi (rAt (mAt J (E.run - 1).toNat).t.slots (E.b).toNat).th, vi (rAt (mAt J (E.run - 1).toNat).t.slots (E.b).toNat).ve, vb (rAt (mAt J (E.run - 1).toNat).t.slots (E.b).toNat).rd, vb (rAt (mAt J (E.run - 1).toNat).t.slots (E.b).toNat).wr, vb (rAt (mAt J (E.run - 1).toNat).t.slots (E.b).toNat).wk]) Yx ee Z ((az.blk.grown0 ia).rangeL 0 5 Z) Z k)) (yl Z (fun _ ib k => Xf Z Z Z bj (Xp (vs := [vi (rAt (mAt G ((rAt (mAt G (E.run - 1).toNat).t.slots (E.a).toNat).th - 1).toNat).t.slots (E.n % 4).toNat).th, vi (rAt (mAt G ((rAt (mAt G (E.run - 1).toNat).t.slots (E.a).toNat).th - 1).toNat).t.slots (E.n % 4).toNat).ve, vb (rAt (mAt G ((rAt (mAt G (E.run - 1).toNat).t.slots (E.a).toNat).th - 1).toNat).t.slots (E.n % 4).toNat).rd, vb (rAt (mAt G ((rAt (mAt G (E.run - 1).toNat).t.slots (E.a).toNat).th - 1).toNat).t.slots (E.n % 4).toNat).wr, vb (rAt (mAt G ((rAt (mAt G (E.run - 1).toNat).t.slots (E.a).toNat).th - 1).toNat).t.slots (E.n % 4).toNat).wk]) Yx mo Z ((((ah.blk.grown0 bd).gn az.grw).grown0 ib).rangeL 0 5 Z) Z k)) (yl Z (fun _ _ k => Xf Z Z Z bj (Vn (q := decide ((rAt (mAt J (E.run - 1).toNat).t.slots (E.b).toNat) = (rAt (mAt G ((rAt (mAt G (E.run - 1).toNat).t.slots (E.a).toNat).th - 1).toNat).t.slots (E.n % 4).toNat))) Z Z (Ll _ _ (rAt (mAt J (E.run - 1).toNat).t.slots (E.b).toNat) (rAt (mAt G ((rAt (mAt G (E.run - 1).toNat).t.slots (E.a).toNat).th - 1).toNat).t.slots (E.n % 4).toNat) _) (Hh (rAt (mAt J (E.run - 1).toNat).t.slots (E.b).toNat) (rAt (mAt G ((rAt (mAt G (E.run - 1).toNat).t.slots (E.a).toNat).th - 1).toNat).t.slots (E.n % 4).toNat) _) Z Z k)) (yl Z (fun _ _ k => Xs (v := vb (decide ((rAt (mAt J (E.run - 1).toNat).t.slots (E.b).toNat) = (rAt (mAt G ((rAt (mAt G (E.run - 1).toNat).t.slots (E.a).toNat).th - 1).toNat).t.slots (E.n % 4).toNat)))) Z bj Z Z k) (yl Z (fun _ _ k => Xb (v := vb (decide ((rAt (mAt J (E.run - 1).toNat).t.slots (E.b).toNat) = (rAt (mAt G ((rAt (mAt G (E.run - 1).toNat).t.slots (E.a).toNat).th - 1).toNat).t.slots (E.n % 4).toNat)))) Z Z k) (yl Z (fun _ _ k => Xf Z Z Z bl (Xd (o' := 4) K7 dy Z Z k)) ?_))))))))
 refine yl Z (fun _ ic k => Xf Z Z Z bl (Xh (v := vb (rAt (mAt G (E.run - 1).toNat).t.slots (E.a).toNat).wk) J4 Z ((((bu.grown0 bd).gn az.grw).grown0 ic).cell Z) Z k)) (yl Z (fun _ _ k => Xf Z Z Z bl (Yl (b' := !(rAt (mAt G (E.run - 1).toNat).t.slots (E.a).toNat).wk) Z Z Z k)) (yl Z (fun _ _ k => Xf Z Z Z bl (Xb (v := vb (!(rAt (mAt G (E.run - 1).toNat).t.slots (E.a).toNat).wk)) Z Z k)) (yl Z (fun _ _ k => Xi Z Z Z (Qq bf) Z k) (yl Z (fun _ _ k => Xi Z Z Z (Qq bf) Z k) (yl Z (fun _ _ k => Xi Z Z Z (Qq bf) Z k) (yl Z (fun _ _ k => Xf Z Z Z bl (Xs (v := vb true) Z (Qq bf) Z Z k)) (yl Z (fun _ _ k => Xs (v := vb true) Z bl Z Z k) (yl Z (fun _ _ k => Xb (v := vb true) Z Z k) (yl Z (fun _ _ k => Xf Z Z Z Z (Xb (v := .slice ap J.length af) mm Z k)) (yl Z (fun _ _ k => Xf Z Z Z Z (Xd (o' := 0) Yz dy Z Z k)) ?_))))))))))
 refine yl Z (fun _ ie k => Xf Z Z Z Z (Xh (v := vi (rAt (mAt G (E.run - 1).toNat).t.slots (E.a).toNat).th) X1 Z ((((bu.grown0 bd).gn az.grw).grown0 ie).cell Z) Z k)) (yl Z (fun _ _ k => Xf Z Z Z Z (Ys (c := (rAt (mAt G (E.run - 1).toNat).t.slots (E.a).toNat).th - 1) Z Z (by omega) (by omega) (by omega) Z k)) (yl Z (fun _ _ k => Xf Z Z Z Z (Xz Y2 Z Z gp it (by omega) (by omega) Z k)) (yl Z (fun _ ig k => Xf Z Z Z Z (Xp (vs := [vi (mAt J ((rAt (mAt G (E.run - 1).toNat).t.slots (E.a).toNat).th - 1).toNat).t.kind, vi (mAt J ((rAt (mAt G (E.run - 1).toNat).t.slots (E.a).toNat).th - 1).toNat).t.lab.s, vi (mAt J ((rAt (mAt G (E.run - 1).toNat).t.slots (E.a).toNat).th - 1).toNat).t.lab.v, vi (mAt J ((rAt (mAt G (E.run - 1).toNat).t.slots (E.a).toNat).th - 1).toNat).t.ve, vi (mAt J ((rAt (mAt G (E.run - 1).toNat).t.slots (E.a).toNat).th - 1).toNat).t.num, .slice (mAt J ((rAt (mAt G (E.run - 1).toNat).t.slots (E.a).toNat).th - 1).toNat).sa (mAt J ((rAt (mAt G (E.run - 1).toNat).t.slots (E.a).toNat).th - 1).toNat).t.slots.length (mAt J ((rAt (mAt G (E.run - 1).toNat).t.slots (E.a).toNat).th - 1).toNat).sc, .slice (mAt J ((rAt (mAt G (E.run - 1).toNat).t.slots (E.a).toNat).th - 1).toNat).qa (mAt J ((rAt (mAt G (E.run - 1).toNat).t.slots (E.a).toNat).th - 1).toNat).t.queue.length (mAt J ((rAt (mAt G (E.run - 1).toNat).t.slots (E.a).toNat).th - 1).toNat).qc, vi (mAt J ((rAt (mAt G (E.run - 1).toNat).t.slots (E.a).toNat).th - 1).toNat).t.to]) Y0 Z Z (Yr (X9 iz ig) 0 8 Z) Z k)) (yl Z (fun _ _ k => Xf Z Z Z Z (Xb (v := .slice (pa am) G.length ad) ml Z k)) (yl Z (fun _ _ k => Xf Z Z Z Z (Xd (o' := 0) Yz dy Z Z k)) (yl Z (fun _ ii k => Xf Z Z Z Z (Xh (v := vi (rAt (mAt G (E.run - 1).toNat).t.slots (E.a).toNat).th) X1 Z ((((bu.grown0 bd).gn az.grw).grown0 ii).cell Z) Z k)) (yl Z (fun _ _ k => Xf Z Z Z Z (Ys (c := (rAt (mAt G (E.run - 1).toNat).t.slots (E.a).toNat).th - 1) Z Z (by omega) (by omega) (by omega) Z k)) (yl Z (fun _ _ k => Xf Z Z Z Z (Xz Y2 Z Z gq iu (by omega) (by omega) Z k)) ?_))))))))
 exact yl Z (fun _ ij k => Xf Z Z Z Z (Xp (vs := [vi (mAt G ((rAt (mAt G (E.run - 1).toNat).t.slots (E.a).toNat).th - 1).toNat).t.kind, vi (mAt G ((rAt (mAt G (E.run - 1).toNat).t.slots (E.a).toNat).th - 1).toNat).t.lab.s, vi (mAt G ((rAt (mAt G (E.run - 1).toNat).t.slots (E.a).toNat).th - 1).toNat).t.lab.v, vi (mAt G ((rAt (mAt G (E.run - 1).toNat).t.slots (E.a).toNat).th - 1).toNat).t.ve, vi (mAt G ((rAt (mAt G (E.run - 1).toNat).t.slots (E.a).toNat).th - 1).toNat).t.num, .slice (mAt G ((rAt (mAt G (E.run - 1).toNat).t.slots (E.a).toNat).th - 1).toNat).sa (mAt G ((rAt (mAt G (E.run - 1).toNat).t.slots (E.a).toNat).th - 1).toNat).t.slots.length (mAt G ((rAt (mAt G (E.run - 1).toNat).t.slots (E.a).toNat).th - 1).toNat).sc, .slice (mAt G ((rAt (mAt G (E.run - 1).toNat).t.slots (E.a).toNat).th - 1).toNat).qa (mAt G ((rAt (mAt G (E.run - 1).toNat).t.slots (E.a).toNat).th - 1).toNat).t.queue.length (mAt G ((rAt (mAt G (E.run - 1).toNat).t.slots (E.a).toNat).th - 1).toNat).qc, vi (mAt G ((rAt (mAt G (E.run - 1).toNat).t.slots (E.a).toNat).th - 1).toNat).t.to]) Y0 Z Z (Yr (X9 i0 ij) 0 8 Z) Z k)) Y5
 intro y8 dm
 refine Xf Z Z Z Z ?_
 have ek := (TabG.low dt dm)
 have em := (TabG.low du dm)
 refine Xl Hu (Xg Z (Xg Z Xk)) Z (Vv (mAt J ((rAt (mAt G (E.run - 1).toNat).t.slots (E.a).toNat).th - 1).toNat) (mAt G ((rAt (mAt G (E.run - 1).toNat).t.slots (E.a).toNat).th - 1).toNat) _ (TabAt.th (TabG.at ek) (xg J ((rAt (mAt G (E.run - 1).toNat).t.slots (E.a).toNat).th - 1).toNat)) (TabAt.th (TabG.at em) (xg G ((rAt (mAt G (E.run - 1).toNat).t.slots (E.a).toNat).th - 1).toNat)) ⟨by first | omega | exact Nat.le_of_ble_eq_true Z | (simp only [List.length_nil, List.length_cons, List.length_append, List.length_replicate]; omega), by first | omega | exact Nat.le_of_ble_eq_true Z | (simp only [List.length_nil, List.length_cons, List.length_append, List.length_replicate]; omega)⟩ ⟨by first | omega | exact Nat.le_of_ble_eq_true Z | (simp only [List.length_nil, List.length_cons, List.length_append, List.length_replicate]; omega), by first | omega | exact Nat.le_of_ble_eq_true Z | (simp only [List.length_nil, List.length_cons, List.length_append, List.length_replicate]; omega)⟩) ?_
 rintro _ y9 ⟨rfl, gt⟩
 refine Xs (v := vb (decide ((mAt J ((rAt (mAt G (E.run - 1).toNat).t.slots (E.a).toNat).th - 1).toNat).t = (mAt G ((rAt (mAt G (E.run - 1).toNat).t.slots (E.a).toNat).th - 1).toNat).t))) Z Z Z Z (Xe (v := vb (decide ((mAt J ((rAt (mAt G (E.run - 1).toNat).t.slots (E.a).toNat).th - 1).toNat).t = (mAt G ((rAt (mAt G (E.run - 1).toNat).t.slots (E.a).toNat).th - 1).toNat).t))) Z Z (Xc (Xu (Xt (⟨vb (decide ((mAt J ((rAt (mAt G (E.run - 1).toNat).t.slots (E.a).toNat).th - 1).toNat).t = (mAt G ((rAt (mAt G (E.run - 1).toNat).t.slots (E.a).toNat).th - 1).toNat).t)), Yp Z Z, ?_, (low0 (low0 (low1 (low0 dz bd) az.grw (by omega)) dm) gt)⟩)))))
 exact congrArg Value.bool (decide_eq_true ew)
end Go.Proofs.YtjpgffmkcmcolaaGreatDoor
end
