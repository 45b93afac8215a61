/- Laws and walks: my templates, and what a program of mine (gen.py) printed out of the functions; only what the row reaches. -/
import Derived.Test.YtjpgffmkcmcolaaGreatDoorT25
section
namespace Go.Dw
set_option linter.unusedVariables false
set_option linter.unusedSimpArgs false
section
variable {ts : List Th} {q : Cl}
theorem W2 (hp : callPoss ts q = true) (h : 0 ≤ doAns ts q) : check1 ts q = 0 := by
  have hr := Kj ts q
  by_cases h0 : check1 ts q < 0
  · have := (Wl h0).1
    omega
  · omega
theorem Ht (hp : callPoss ts q = true) (h0 : check1 ts q = 0) (h3 : ¬ q.kind = 3) : (1 ≤ (slotAt ts q.run q.a).th ∧ (slotAt ts q.run q.a).th ≤ (ts.length : Int)) ∧ kindFor q.kind (thAt ts (slotAt ts q.run q.a).th).kind = true ∧ (need0 q.kind = true → sees ts q.run (slotAt ts q.run q.a).th = true) := by
  have e := Jr hp
  have h := Ni (ts := ts) (q := q) (by omega) h3
  exact ⟨h.1, h.2.1, (Rj (ts := ts) (q := q) (by omega) (by omega) h3).1⟩
theorem Wa (hp : callPoss ts q = true) (h0 : check1 ts q = 0) (h3 : ¬ q.kind = 3) : FarOk ts q (slotAt ts q.run q.a) := by
  have h := Ht hp h0 h3
  obtain ⟨hT, hc, hr⟩ := Yh hp
  exact ⟨hT, hc, hr, h.1, h.2.1, h3⟩
theorem Ri (hp : callPoss ts q = true) {j : Int} (hj : 1 ≤ j) (hne : ¬ j = q.run) : thAt (doCall ts q).1 j = thAt (doPre ts q) j := by
  rw [U8]
  unfold setNum
  rw [Ji (Gx hp) j hj, if_neg hne]
theorem Sv (hp : callPoss ts q = true) : thAt (doCall ts q).1 q.run = { thAt (doPre ts q) q.run with num := doAns ts q } := by
  rw [U8]
  unfold setNum
  rw [Ji (Gx hp) q.run (Gx hp).1, if_pos rfl]
theorem Md (hp : callPoss ts q = true) (h0 : check1 ts q = 0) (h3 : ¬ q.kind = 3) : ¬ (slotAt ts q.run q.a).th = q.run := fun e => by
  have h := Ht hp h0 h3
  have hr := (Qn (Yh hp).2.2).2
  have hc := Yq (Yh hp).2.1
  have hk := Q0 h.2.1 hc.1
  rw [e, hr] at hk
  omega
theorem B1 (hp : callPoss ts q = true) (h5 : q.kind = 5) (ha : 0 ≤ doAns ts q) : doAns ts q = 0 ∧ (1 ≤ (slotAt ts q.run q.a).th ∧ (slotAt ts q.run q.a).th ≤ (ts.length : Int)) ∧ (thAt ts (slotAt ts q.run q.a).th).kind = 2 ∧ (live ts (slotAt ts q.run q.a) = false → thAt (doCall ts q).1 (slotAt ts q.run q.a).th = thAt ts (slotAt ts q.run q.a).th) ∧ (live ts (slotAt ts q.run q.a) = true → (thAt (doCall ts q).1 (slotAt ts q.run q.a).th).slots = (thAt ts (slotAt ts q.run q.a).th).slots.set (q.n % 4).toNat (slotAt ts q.run q.b)) ∧ (thAt (doCall ts q).1 q.run).slots = (thAt ts q.run).slots := by
  have h3 : ¬ q.kind = 3 := by omega
  have h0 := W2 hp ha
  have hF := Wa hp h0 h3
  have hfd := Ht hp h0 h3
  have hrun := Qn hF.run
  have hne := Md hp h0 h3
  have hk := (Q0 hfd.2.1 (Yq hF.call).1).2.2.2.1 h5
  rw [Ri hp hF.th.1 hne, Sv hp]
  cases hl : live ts (slotAt ts q.run q.a) with
  | false => rw [(U7 h0 h3 hl).1, (U7 h0 h3 hl).2]; exact ⟨rfl, hF.th, hk, fun _ => rfl, (fun h => absurd h (by decide)), rfl⟩
  | true =>
    have h := Wh rfl h0 h3 hl hF
    have hf : far ts q (slotAt ts q.run q.a) = (putSl ts (slotAt ts q.run q.a).th (q.n % 4) (slotAt ts q.run q.b), 0) := by
      unfold far
      rw [if_neg (by omega), if_neg (by omega), if_neg (by omega), if_pos h5]
    rw [hf] at h
    rw [h.1, h.2]
    refine ⟨by split <;> rfl, hF.th, hk, (fun h => absurd h (by decide)), fun _ => ?_, ?_⟩
    · show (thAt (setTh ts _ _) _).slots = _
      rw [Ji hF.th _ hF.th.1, if_pos rfl]
    · show (thAt (setTh ts _ _) _).slots = _
      rw [Ji hF.th _ hrun.1.1, if_neg (Ne.symm hne)]
theorem R3 (hp : callPoss ts q = true) : callPoss (doCall ts q).1 q = true := by
  obtain ⟨hT, hc, hr⟩ := Yh hp
  have h := Uj hp
  have hr := Qn hr
  unfold callPoss
  rw [h.1, hc, Mu (by rw [h.2.1]; exact hr.1) ((h.2.2 _ hr.1.1).trans hr.2)]
  rfl
def Kept (n : Int) (a b : Th) : Prop := (a.kind = 1 → b.num = a.num ∨ b.num = 0 ∨ b.num = n ∨ b.num = n % 2) ∧ ∀ v ∈ b.queue, v = n ∨ v ∈ a.queue
theorem Kept.refl (n : Int) (a : Th) : Kept n a a := ⟨fun _ => Or.inl rfl, fun _ h => Or.inr h⟩
section
variable {ms xs : List MTh}
theorem Nc (hp : callPoss (tabT ms) q = true) : (callDo (tabT ms) q).2 = doAns (tabT ms) q := by rw [Qs hp, Um]
theorem Bw (ht : tabT xs = (callDo (tabT ms) q).1) (hp : callPoss (tabT ms) q = true) (k : Int) : (mAt xs (k - 1).toNat).t = thAt (doCall (tabT ms) q).1 k := by rw [Qw, ht, Qs hp]
theorem Hi (ht : tabT xs = (callDo (tabT ms) q).1) (hp : callPoss (tabT ms) q = true) : (mAt xs (q.run - 1).toNat).t.slots.length = 4 := by
  have h := R3 hp
  have h2 := (Yh h)
  rw [← Qs hp, ← ht] at h2
  exact Qp h2.1 h2.2.2
theorem Np (hT : tableOk (tabT ms) = true) {k : Int} (h : 1 ≤ k ∧ k ≤ (ms.length : Int)) (hk : (mAt ms (k - 1).toNat).t.kind = 2) : (mAt ms (k - 1).toNat).t.slots.length = 4 := U3 (Ju hT (by omega)) (Or.inl hk)
theorem R0 (hp : callPoss (tabT ms) q = true) : tabLive (tabT ms) (rAt (mAt ms (q.run - 1).toNat).t.slots q.a.toNat) = live (tabT ms) (slotAt (tabT ms) q.run q.a) := by
  obtain ⟨hT, hc, hr⟩ := Yh hp
  rw [Jq, To hT hr]
theorem E6 (ht : tabT xs = (callDo (tabT ms) q).1) (hp : callPoss (tabT ms) q = true) (h : ((!decide (q.kind = 5)) || decide ((callDo (tabT ms) q).2 < 0)) = false) :
    (1 ≤ (rAt (mAt ms (q.run - 1).toNat).t.slots q.a.toNat).th ∧ (rAt (mAt ms (q.run - 1).toNat).t.slots q.a.toNat).th ≤ (ms.length : Int)) ∧ (callDo (tabT ms) q).2 = 0 ∧ (mAt ms ((rAt (mAt ms (q.run - 1).toNat).t.slots q.a.toNat).th - 1).toNat).t.slots.length = 4 ∧ (mAt xs ((rAt (mAt ms (q.run - 1).toNat).t.slots q.a.toNat).th - 1).toNat).t.slots.length = 4 ∧ (tabLive (tabT ms) (rAt (mAt ms (q.run - 1).toNat).t.slots q.a.toNat) = false → (mAt xs ((rAt (mAt ms (q.run - 1).toNat).t.slots q.a.toNat).th - 1).toNat).t = (mAt ms ((rAt (mAt ms (q.run - 1).toNat).t.slots q.a.toNat).th - 1).toNat).t) ∧ (tabLive (tabT ms) (rAt (mAt ms (q.run - 1).toNat).t.slots q.a.toNat) = true → (mAt xs ((rAt (mAt ms (q.run - 1).toNat).t.slots q.a.toNat).th - 1).toNat).t.slots = (mAt ms ((rAt (mAt ms (q.run - 1).toNat).t.slots q.a.toNat).th - 1).toNat).t.slots.set (q.n % 4).toNat (rAt (mAt ms (q.run - 1).toNat).t.slots q.b.toNat)) ∧ (mAt xs (q.run - 1).toNat).t.slots = (mAt ms (q.run - 1).toNat).t.slots := by
  simp only [Bool.or_eq_false_iff, Bool.not_eq_false', decide_eq_true_eq, decide_eq_false_iff_not] at h
  have ha : 0 ≤ doAns (tabT ms) q := by rw [← Nc hp]; omega
  obtain ⟨h0, h1, hk, h2, h3, h4⟩ := B1 hp h.1 ha
  have hT := (Yh hp).1
  have hx := Uj hp
  have hkx := hx.2.2 _ h1.1
  have h1x := h1
  rw [← hx.2.1] at h1x
  have h5 := U3 (Ur hx.1 h1x).1 (Or.inl (hkx.trans hk))
  rw [Qd] at h1
  rw [R0 hp, Jq (k := q.run) (j := q.b), Jq, Nc hp, Bw ht hp, Bw ht hp, Qw, Qw]
  refine ⟨h1, h0, ?_, h5, h2, h3, h4⟩
  rw [← Qw] at hk ⊢
  exact Np hT h1 hk
theorem Tm {l : List Rt} {j k : Nat} {r : Rt} (hk : k < l.length) : rAt (l.set j r) k = if k = j then r else rAt l k := by
  unfold rAt
  rw [List.getD_eq_getElem?_getD, List.getD_eq_getElem?_getD, List.getElem?_set]
  split
  · rename_i e; subst e; rw [if_pos rfl, if_pos hk]; rfl
  · rename_i e; rw [if_neg (Ne.symm e)]
end
end
end Go.Dw
end
section
namespace Go.Proofs.YtjpgffmkcmcolaaGreatDoor
open Go.RowKit Go.Dw
set_option maxRecDepth 100000
set_option maxHeartbeats 4000000
set_option linter.unusedSimpArgs false
set_option linter.unusedVariables false
theorem Va : goFn Tryz.prog 15 = true := by kernel_rfl
theorem Vb : goFn Tryz.prog 16 = true := by kernel_rfl
theorem K8 : goFn Tryz.prog 17 = true := by kernel_rfl
theorem Kc : goFn Tryz.prog 18 = true := by kernel_rfl
theorem Vc : goFn Tryz.prog 19 = true := by kernel_rfl
theorem Ci : goFn Tryz.prog 24 = true := by kernel_rfl
theorem law_FnDoStore (bs : List Int) (a : Option Addr) (c : Nat) (w : World) (py : SlAt w a 1 (bs.map bcell)) (hb : ∀ b ∈ bs, 0 ≤ b ∧ b ≤ 255) (hn : bs.length ≤ 9223372036854775807) (hc : bs.length ≤ c) (hE : ErrT w) : CallsR Tryz.prog 12 #[.slice a bs.length c] w (fun v w' => v = .bool true ∧ w.grownBy w' none) := by
 refine Xx (n := 171) Tryz.func12 Z Tryz.ntmps12 Z ?_
 have i2 := World.grownBy.refl w none
 have hs := SlAt.lt Kl (by omega) py
 refine Xa (Xe (v := vb false) Z Z (Xc (Xq (Xa (Xb (v := .slice a bs.length c) Z Z (Yu (by kernel_rfl) Z Z (Jd (q := decide (1048576 < (bs.length : Int))) Z Z Z Z (Xc (Xy Z (fun a9 => ?_) (fun a9 => ?_))))))))))
 have r4 := of_decide_eq_true a9
 refine Xa (Xe (v := vb true) Z Z (Xc (Xt (Yk (⟨vb true, Yp Z Z, ?_, i2⟩)))))
 rfl
 have r5 := of_decide_eq_false a9
 refine Xw (Xu (Xa (Xb (v := .slice a bs.length c) Z Z (Xl Va (Xg Z Xk) Z (J0 bs a c _ (SlAt.low py i2) hb (by omega) (by omega)) ?_))))
 rintro _ sp ⟨ag, ac, G, E, rfl, bq, fg, qk, rk, i6⟩
 have d6 := low0 i2 i6
 have aq := fg.len
 refine Xb (v := .tuple #[.slice (pa ag) G.length ac, .agg #[vi E.kind, vi E.run, vi E.a, vi E.b, vi E.n]]) Z Z (X4 (v := .slice (pa ag) G.length ac) Z Z Z (X4 (v := .agg #[vi E.kind, vi E.run, vi E.a, vi E.b, vi E.n]) Z Z Z (Ye (cs := #[vi 0, vi 0, vi 0, vi 0, vi 0]) Uh Z Z ?_)))
 intro ak sq ap
 have qo := Yj ap d6
 refine Xe (v := .slice (pa ag) G.length ac) Z Z (X0 (vs := [vi E.kind, vi E.run, vi E.a, vi E.b, vi E.n]) (cs' := #[vi E.kind, vi E.run, vi E.a, vi E.b, vi E.n]) Y1 Z Z Z (by simp [Value.oneCell']) ap.blk (Nat.le_of_ble_eq_true Z) Z ?_)
 intro qg bb
 refine Xc (Xa (Xb (v := .slice (pa ag) G.length ac) Z Z (Xp (vs := [vi E.kind, vi E.run, vi E.a, vi E.b, vi E.n]) Y1 Z Z (bb.blk.rangeL 0 5 Z) Z ?_)))
 have qx := (bb.blk).lt
 refine Xl Vb (Xg Z (Xg Z Xk)) Z (Ku E _ G _ _ (TabG.at (TabG.low bq (low1 ap.grw bb.grw (nt ((World.grownBy.refl _ none)).size (Nat.le_of_eq ap.eq.symm))))) aq (by omega)) ?_
 rintro _ qh ⟨cj, bj, be, rfl, fa, cc, bx⟩
 have d7 := low0 (low1 (low0 d6 ap.grw) bb.grw (by omega)) bx
 have dn := Q3 cc
 have q1 := Qo cc
 refine Xb (v := .tuple #[.slice (pa cj) be.length bj, vi (callDo (tabT G) E).2]) Z Z (X4 (v := .slice (pa cj) be.length bj) Z Z Z (X4 (v := vi (callDo (tabT G) E).2) Z Z Z (Xe (v := .slice (pa cj) be.length bj) Z Z (Xe (v := vi (callDo (tabT G) E).2) Z Z (Xc (Xa (Xb (v := .slice (pa ag) G.length ac) Z Z ?_)))))))
 have ek := (bb.blk.grown0 bx)
 refine Xp (vs := [vi E.kind, vi E.run, vi E.a, vi E.b, vi E.n]) Y1 Z Z (ek.rangeL 0 5 Z) Z ?_
 have qy := (ek).lt
 refine Xl K8 (Xg Z (Xg Z Xk)) Z (K2 E _ G _ _ (TabG.at (TabG.low bq (low0 (low1 ap.grw bb.grw (nt ((World.grownBy.refl _ none)).size (Nat.le_of_eq ap.eq.symm))) bx))) aq (by omega) (ErrT.grown0 hE d7)) ?_
 rintro _ sr ⟨aj, ae, J, rfl, cl, bi, bz⟩
 have bf := Q3 bi
 have q2 := Qo bi
 refine Xb (v := .tuple #[.slice aj J.length ae, vi (callDo (tabT G) E).2]) Z Z (X4 (v := .slice aj J.length ae) Z Z Z (X4 (v := vi (callDo (tabT G) E).2) Z Z Z (Xe (v := .slice aj J.length ae) Z Z (Xe (v := vi (callDo (tabT G) E).2) Z Z (Xc (Xq (Xa (Xb (v := vi (callDo (tabT G) E).2) Z Z (Xb (v := vi (callDo (tabT G) E).2) Z Z (Y8 (q := false) Z Z (by simp) Z (Xb (v := vb false) Z Z (Xf Z Z Z Z ?_))))))))))))
 refine Xb (v := .slice aj J.length ae) Z Z (Xf Z Z Z Z (Xb (v := .slice (pa cj) be.length bj) Z Z (Xf Z Z Z Z ?_)))
 have cm := (TabG.low fa bz)
 refine Xl Kc (Xg Z (Xg Z Xk)) Z (Q9 _ J be _ _ _ _ (TabG.at cl) (TabG.at cm) bf dn (by omega) (by omega)) ?_
 rintro _ su ⟨rfl, bc⟩
 refine Xf Z Z Z Z (Yl (b' := false) (congrArg Value.bool (decide_eq_true (bi.trans cc.symm))) Z Z (Xo (v := vb false) Z Z Z Z (Xb (v := vb false) Z Z (Xf Z Z Z Z (Xb (v := .slice (pa ag) G.length ac) Z Z (Xf Z Z Z Z ?_))))))
 have bk := ((ek.grown0 bz).grown0 bc)
 refine Xp (vs := [vi E.kind, vi E.run, vi E.a, vi E.b, vi E.n]) Y1 Z Z (bk.rangeL 0 5 Z) Z (Xf Z Z Z Z (Xl Vc (Xg Z (Xg Z Xk)) Z (Vl E _ G _ _ (TabG.at (TabG.low bq (low0 (low0 (low0 (low1 ap.grw bb.grw (nt ((World.grownBy.refl _ none)).size (Nat.le_of_eq ap.eq.symm))) bx) bz) bc))) aq (by omega)) ?_))
 rintro _ da ⟨rfl, ai⟩
 have cv := low0 (low0 (low0 d7 bz) bc) ai
 refine Xf Z Z Z Z (Yl (b' := !callPoss (tabT G) E) Z Z Z (Xo (v := vb (!callPoss (tabT G) E)) Z Z Z Z (Xc (Xy Z (fun ba => ?_) (fun ba => ?_)))))
 have r6 := Q2 ba
 refine Xa (Xb (v := vi (callDo (tabT G) E).2) Z Z (Xb (v := vi (callDo (tabT G) E).2) Z Z (X3 (q := true) Z Z (by simp) Z (Xb (v := vb true) Z Z (Xf Z Z Z Z (Xb (v := .slice aj J.length ae) Z Z (Xf Z Z Z Z (Xb (v := .slice (pa cj) be.length bj) Z Z (Xf Z Z Z Z (Xl Kc (Xg Z (Xg Z Xk)) Z (Q9 _ J be _ _ _ _ (TabG.at (TabG.low (TabG.low cl bc) ai)) (TabG.at (TabG.low (TabG.low cm bc) ai)) bf dn (by omega) (by omega)) ?_))))))))))
 rintro _ sv ⟨rfl, i7⟩
 refine Xs (v := vb true) Z Z (congrArg Value.bool (decide_eq_true (bi.trans cc.symm))) Z (Xe (v := vb true) Z Z (Xc (Xt (Yk (⟨vb true, Yp Z Z, ?_, (low0 cv i7)⟩)))))
 rfl
 have ao := Qx ba
 obtain ⟨au, a8, al⟩ := Yh ao
 have qm := Yq a8
 have qn := (Y3 al).1
 have ra := Qp au al
 have qz := Jb au
 have hde := Qs ao
 have hrk := Qn (Yh ao).2.2
 have q3 := Q1 cc ao
 have q4 := Q1 bi ao
 obtain ⟨hi, hhi⟩ : ∃ n, n = da.heap.size := ⟨_, rfl⟩
 have br := (TabG.low bq (low0 (low0 (low0 (low0 (low1 ap.grw bb.grw (nt ((World.grownBy.refl _ none)).size (Nat.le_of_eq ap.eq.symm))) bx) bz) bc) ai))
 have d4 := TabG.hi br
 rw [← hhi] at d4
 have dk := (TabG.low (TabG.low cm bc) ai)
 have d5 := TabG.hi dk
 rw [← hhi] at d5
 have cn := (TabG.low (TabG.low cl bc) ai)
 have c9 := TabG.hi cn
 rw [← hhi] at c9
 have qj := Hi bi ao
 refine Xw (Xu (Xq (X7 (fun f' w' => (f' 2 = vb false ∧ f' 3 = .slice (pa ag) G.length ac ∧ f' 4 = pt ak 0 ∧ f' 7 = .slice aj J.length ae ∧ f' 8 = vi (callDo (tabT G) E).2 ∧ f' 61 = vb ((!(decide (E.kind = 5))) || (decide ((callDo (tabT G) E).2 < 0)))) ∧ da = w') ?_ ?_)))
 refine Xd (o' := 0) Ja Z Z Z (Xh (v := vi E.kind) X1 Z ((bk.grown0 ai).cell Z) Z (Y8 (q := !(decide (E.kind = 5))) Z Z Z Z (Xb (v := vb (!(decide (E.kind = 5)))) Z Z ?_)))
 rcases Yf (!(decide (E.kind = 5))) with aw | aw
 have d1 := Q2 aw
 have r7 := of_decide_eq_false d1
 exact Xi Z Z Z aw Z (Xi Z Z Z aw Z (Xs (v := vb true) Z aw Z Z (Xc ⟨⟨Z, Z, Z, Z, Z, (congrArg Value.bool (by first | (simp only [a9, ba, ao, aw, d1, au, a8, al, b0, b1, b2, b3, b4, b5, b6, b7, b8, b9]; done) | simp [a9, ba, ao, aw, d1, au, a8, al]))⟩, Z⟩)))
 have d2 := Qx aw
 have r8 := of_decide_eq_true d2
 exact Xf Z Z Z aw (Xb (v := vi (callDo (tabT G) E).2) Z Z (Xf Z Z Z aw (Qa (q := decide ((callDo (tabT G) E).2 < 0)) Z Z Z Z (Xo (v := vb (decide ((callDo (tabT G) E).2 < 0))) Z aw Z Z (Xc ⟨⟨Z, Z, Z, Z, Z, (congrArg Value.bool (by first | (simp only [a9, ba, ao, aw, d2, au, a8, al, b0, b1, b2, b3, b4, b5, b6, b7, b8, b9]; done) | simp [a9, ba, ao, aw, d2, au, a8, al]))⟩, Z⟩)))))
 rintro r2 sw ⟨⟨km, kn, ko, kp, kr, ks⟩, rfl⟩
 refine Xy ks (fun bp => ?_) (fun bp => ?_)
 refine Xa (Xe (v := vb true) Z Z (Xc (Xt (Yk (⟨vb true, Yp Z Z, ?_, cv⟩)))))
 rfl
 obtain ⟨rb, i3, rf, rg, i4, db, i5⟩ := E6 bi ao bp
 have af : (decide ((callDo (tabT G) E).2 = 0)) = true := decide_eq_true i3
 have cy := Kq bp
 have cz := Qx cy
 have r9 := of_decide_eq_true cz
 have c8 := Kr bp
 have sb := of_decide_eq_false c8
 refine Xw (Xu (Xq ?_))
 obtain ⟨g1, sf, er, iu, jw, j5⟩ := SlAt.at (TabG.at br).1 (Yi (xg G (E.run - 1).toNat))
 have qr := TabLen.at aq (xg G (E.run - 1).toNat)
 obtain ⟨kh, sg, p9, iv, jx, j6⟩ := SlAt.at (TabAt.th (TabG.at br) (xg G (E.run - 1).toNat)).1 (Yi (xr (mAt G (E.run - 1).toNat).t.slots (E.a).toNat))
 have rl : hi ≤ da.heap.size := (Nat.le_of_eq hhi)
 refine Qy (m := 12) [[], [], [1], [1, 2], [0, 1, 2, 3], [0, 1, 2, 3, 4], [0, 1, 2, 3, 4, 5], [], [7], [0, 1, 2, 3, 4, 5, 6, 7, 8], [0, 1, 2, 3, 4, 5, 6, 7, 8, 9], [], [0, 1, 2, 3, 4, 5, 6, 7, 8, 9, 10, 11]] (fun S F w' => ∃ (ab : Nat), da.grownBy w' none ∧ F 2 = vb false ∧ F 3 = .slice (pa ag) G.length ac ∧ F 4 = pt ak 0 ∧ F 7 = .slice aj J.length ae ∧ F 8 = vi (callDo (tabT G) E).2 ∧ (S 11 = true → F 9 = pt ab 0 ∧ w.heap.size ≤ ab ∧ Blk w' ab 42 #[vi 0, vi 0, vb false, vb false, vb false] ∧ ak < ab ∧ da.heap.size ≤ ab) ∧ Vals S F [(0, 62, .slice (pa ag) G.length ac), (1, 63, pt ak 1), (2, 64, vi E.run), (3, 65, vi (E.run - 1)), (4, 66, pt g1 er), (5, 67, pt g1 (er + 5)), (6, 68, .slice (mAt G (E.run - 1).toNat).sa (mAt G (E.run - 1).toNat).t.slots.length (mAt G (E.run - 1).toNat).sc), (7, 69, pt ak 2), (8, 70, vi E.a), (9, 71, pt kh p9), (10, 72, .agg #[vi (rAt (mAt G (E.run - 1).toNat).t.slots (E.a).toNat).th, vi (rAt (mAt G (E.run - 1).toNat).t.slots (E.a).toNat).ve, vb (rAt (mAt G (E.run - 1).toNat).t.slots (E.a).toNat).rd, vb (rAt (mAt G (E.run - 1).toNat).t.slots (E.a).toNat).wr, vb (rAt (mAt G (E.run - 1).toNat).t.slots (E.a).toNat).wk])]) Yy (by kernel_rfl) ⟨0, X6 _, km, kn, ko, kp, kr, Yt, J3 _⟩ ?_ ?_
 refine Xj (fun S F sx hS hbef hcl hI => ?_) ?_
 obtain ⟨ab, i9, kt, g5, ku, kv, kw, V, hvs⟩ := hI
 exact Xb (v := .slice (pa ag) G.length ac) g5 Z (Xc ⟨ab, i9, kt, g5, ku, kv, kw, V, Vals.up 0 hvs Z Z Z⟩)
 refine Xj (fun S F sy hS hbef hcl hI => ?_) ?_
 obtain ⟨ab, ja, kx, ky, g6, kz, k0, V, hvs⟩ := hI
 exact Xd (o' := 1) Qv g6 Z Z (Xc ⟨ab, ja, kx, ky, g6, kz, k0, V, Vals.up 1 hvs Z Z Z⟩)
 refine Xj (fun S F s0 hS hbef hcl hI => ?_) ?_
 obtain ⟨ab, eb, k3, k4, k5, k6, k7, V, hvs⟩ := hI
 exact Xh (v := vi E.run) X1 (Vals.at 1 hvs Z (Xm 1 hbef Z)) (((bk.grown0 ai).grown0 eb).cell Z) Z (Xc ⟨ab, eb, k3, k4, k5, k6, k7, V, Vals.up 2 hvs Z Z Z⟩)
 refine Xj (fun S F s1 hS hbef hcl hI => ?_) ?_
 obtain ⟨ab, jb, k8, k9, la, lc, ld, V, hvs⟩ := hI
 exact Ys (c := E.run - 1) (Vals.at 2 hvs Z (Xm 2 hbef Z)) Z (by omega) (by omega) (by omega) Z (Xc ⟨ab, jb, k8, k9, la, lc, ld, V, Vals.up 3 hvs Z Z Z⟩)
 refine Xj (fun S F s3 hS hbef hcl hI => ?_) ?_
 obtain ⟨ab, jc, le, lf, lg, lh, li, V, hvs⟩ := hI
 exact Xz Y2 (Vals.at 0 hvs Z (Xm 0 hbef Z)) (Vals.at 3 hvs Z (Xm 3 hbef Z)) iu jw (by omega) (by omega) Z (Xc ⟨ab, jc, le, lf, lg, lh, li, V, Vals.up 4 hvs Z Z Z⟩)
 refine Xj (fun S F s4 hS hbef hcl hI => ?_) ?_
 obtain ⟨ab, jd, lj, lk, ll, lm, ln, V, hvs⟩ := hI
 exact Xd (o' := er + 5) Qj (Vals.at 4 hvs Z (Xm 4 hbef Z)) Z Z (Xc ⟨ab, jd, lj, lk, ll, lm, ln, V, Vals.up 5 hvs Z Z Z⟩)
 refine Xj (fun S F s5 hS hbef hcl hI => ?_) ?_
 obtain ⟨ab, ed, lp, lu, lv, lw, lx, V, hvs⟩ := hI
 exact Xh (v := .slice (mAt G (E.run - 1).toNat).sa (mAt G (E.run - 1).toNat).t.slots.length (mAt G (E.run - 1).toNat).sc) Jh (Vals.at 5 hvs Z (Xm 5 hbef Z)) ((X9 j5 ed) 5 _ Z) Z (Xc ⟨ab, ed, lp, lu, lv, lw, lx, V, Vals.up 6 hvs Z Z Z⟩)
 refine Xj (fun S F s6 hS hbef hcl hI => ?_) ?_
 obtain ⟨ab, je, ly, lz, g7, l0, l3, V, hvs⟩ := hI
 exact Xd (o' := 2) Km g7 Z Z (Xc ⟨ab, je, ly, lz, g7, l0, l3, V, Vals.up 7 hvs Z Z Z⟩)
 refine Xj (fun S F s7 hS hbef hcl hI => ?_) ?_
 obtain ⟨ab, ee, l4, l5, l6, l7, l8, V, hvs⟩ := hI
 exact Xh (v := vi E.a) X1 (Vals.at 7 hvs Z (Xm 7 hbef Z)) (((bk.grown0 ai).grown0 ee).cell Z) Z (Xc ⟨ab, ee, l4, l5, l6, l7, l8, V, Vals.up 8 hvs Z Z Z⟩)
 refine Xj (fun S F s8 hS hbef hcl hI => ?_) ?_
 obtain ⟨ab, jf, l9, ma, mb, mc, me, V, hvs⟩ := hI
 exact Xz Ka (Vals.at 6 hvs Z (Xm 6 hbef Z)) (Vals.at 8 hvs Z (Xm 8 hbef Z)) iv jx (by omega) (by omega) Z (Xc ⟨ab, jf, l9, ma, mb, mc, me, V, Vals.up 9 hvs Z Z Z⟩)
 refine Xj (fun S F s9 hS hbef hcl hI => ?_) ?_
 obtain ⟨ab, ef, mf, mg, mh, ml, mn, V, hvs⟩ := hI
 exact Xp (vs := [vi (rAt (mAt G (E.run - 1).toNat).t.slots (E.a).toNat).th, vi (rAt (mAt G (E.run - 1).toNat).t.slots (E.a).toNat).ve, vb (rAt (mAt G (E.run - 1).toNat).t.slots (E.a).toNat).rd, vb (rAt (mAt G (E.run - 1).toNat).t.slots (E.a).toNat).wr, vb (rAt (mAt G (E.run - 1).toNat).t.slots (E.a).toNat).wk]) Yx (Vals.at 9 hvs Z (Xm 9 hbef Z)) Z (Yr (X9 j6 ef) 0 5 Z) Z (Xc ⟨ab, ef, mf, mg, mh, ml, mn, V, Vals.up 10 hvs Z Z Z⟩)
 refine Xj (fun S F tc hS hbef hcl hI => ?_) ?_
 obtain ⟨ab, ca, mo, mp, mq, mr, mt, V, hvs⟩ := hI
 refine Ye (cs := #[vi 0, vi 0, vb false, vb false, vb false]) Kz Z Z ?_
 intro gz td bl
 have gi := Yj bl (low0 cv ca)
 have pp : hi ≤ gz := nt (nt (Nat.le_of_eq hhi) ca.size) (Nat.le_of_eq bl.eq.symm)
 have ce := Xr bl (((bk.grown0 ai).grown0 ca)).lt
 exact Xc ⟨gz, (low0 ca bl.grw), mo, mp, mq, mr, mt, fun _ => ⟨Z, gi, bl.blk, ce, (nt ca.size (Nat.le_of_eq bl.eq.symm))⟩, Vals.keep hvs Z⟩
 exact Q5
 intro S F te hall hI
 obtain ⟨ab, an, mu, mv, mw, my, mz, V, hvs⟩ := hI
 obtain ⟨g8, qp, eo, ey, pr⟩ := V (hall 11 (by decide))
 refine X0 (vs := [vi (rAt (mAt G (E.run - 1).toNat).t.slots (E.a).toNat).th, vi (rAt (mAt G (E.run - 1).toNat).t.slots (E.a).toNat).ve, vb (rAt (mAt G (E.run - 1).toNat).t.slots (E.a).toNat).rd, vb (rAt (mAt G (E.run - 1).toNat).t.slots (E.a).toNat).wr, vb (rAt (mAt G (E.run - 1).toNat).t.slots (E.a).toNat).wk]) (cs' := #[vi (rAt (mAt G (E.run - 1).toNat).t.slots (E.a).toNat).th, vi (rAt (mAt G (E.run - 1).toNat).t.slots (E.a).toNat).ve, vb (rAt (mAt G (E.run - 1).toNat).t.slots (E.a).toNat).rd, vb (rAt (mAt G (E.run - 1).toNat).t.slots (E.a).toNat).wr, vb (rAt (mAt G (E.run - 1).toNat).t.slots (E.a).toNat).wk]) Yx g8 (Vals.at 10 hvs Z (hall 10 (by decide))) Z (by simp [Value.oneCell']) eo (Nat.le_of_ble_eq_true Z) Z ?_
 intro ex ah
 have d8 := low1 (low0 cv an) ah.grw (by omega)
 refine Xc (Xu (Xq ?_))
 have co := (TabG.ge (TabG.low br an) ah.grw d4 (by omega))
 obtain ⟨g2, sh, eu, iw, jy, j7⟩ := SlAt.at (TabG.at co).1 (Yi (xg G (E.run - 1).toNat))
 have qt := TabLen.at aq (xg G (E.run - 1).toNat)
 obtain ⟨ki, si, qb, ix, jz, j8⟩ := SlAt.at (TabAt.th (TabG.at co) (xg G (E.run - 1).toNat)).1 (Yi (xr (mAt G (E.run - 1).toNat).t.slots (E.b).toNat))
 have rm : hi ≤ ex.heap.size := (nt (nt (Nat.le_of_eq hhi) an.size) ah.grw.size)
 refine Qy (m := 12) [[], [], [1], [1, 2], [0, 1, 2, 3], [0, 1, 2, 3, 4], [0, 1, 2, 3, 4, 5], [], [7], [0, 1, 2, 3, 4, 5, 6, 7, 8], [0, 1, 2, 3, 4, 5, 6, 7, 8, 9], [], [0, 1, 2, 3, 4, 5, 6, 7, 8, 9, 10, 11]] (fun S F w' => ∃ (ad : Nat), ex.grownBy w' none ∧ F 2 = vb false ∧ F 3 = .slice (pa ag) G.length ac ∧ F 4 = pt ak 0 ∧ F 7 = .slice aj J.length ae ∧ F 8 = vi (callDo (tabT G) E).2 ∧ F 9 = pt ab 0 ∧ (S 11 = true → F 10 = pt ad 0 ∧ w.heap.size ≤ ad ∧ Blk w' ad 42 #[vi 0, vi 0, vb false, vb false, vb false] ∧ ak < ad ∧ ab < ad ∧ ex.heap.size ≤ ad) ∧ Vals S F [(0, 73, .slice (pa ag) G.length ac), (1, 74, pt ak 1), (2, 75, vi E.run), (3, 76, vi (E.run - 1)), (4, 77, pt g2 eu), (5, 78, pt g2 (eu + 5)), (6, 79, .slice (mAt G (E.run - 1).toNat).sa (mAt G (E.run - 1).toNat).t.slots.length (mAt G (E.run - 1).toNat).sc), (7, 80, pt ak 3), (8, 81, vi E.b), (9, 82, pt ki qb), (10, 83, .agg #[vi (rAt (mAt G (E.run - 1).toNat).t.slots (E.b).toNat).th, vi (rAt (mAt G (E.run - 1).toNat).t.slots (E.b).toNat).ve, vb (rAt (mAt G (E.run - 1).toNat).t.slots (E.b).toNat).rd, vb (rAt (mAt G (E.run - 1).toNat).t.slots (E.b).toNat).wr, vb (rAt (mAt G (E.run - 1).toNat).t.slots (E.b).toNat).wk])]) Yy (by kernel_rfl) ⟨0, X6 _, mu, mv, mw, my, mz, g8, Yt, J3 _⟩ ?_ ?_
 refine Xj (fun S F tf hS hbef hcl hI => ?_) ?_
 obtain ⟨ad, jg, m3, g9, m4, m5, m6, m7, V, hvs⟩ := hI
 exact Xb (v := .slice (pa ag) G.length ac) g9 Z (Xc ⟨ad, jg, m3, g9, m4, m5, m6, m7, V, Vals.up 0 hvs Z Z Z⟩)
 refine Xj (fun S F tg hS hbef hcl hI => ?_) ?_
 obtain ⟨ad, jh, m8, m9, ia, na, nb, nc, V, hvs⟩ := hI
 exact Xd (o' := 1) Qv ia Z Z (Xc ⟨ad, jh, m8, m9, ia, na, nb, nc, V, Vals.up 1 hvs Z Z Z⟩)
 refine Xj (fun S F ti hS hbef hcl hI => ?_) ?_
 obtain ⟨ad, eg, nd, ne, nf, ng, nh, ni, V, hvs⟩ := hI
 exact Xh (v := vi E.run) X1 (Vals.at 1 hvs Z (Xm 1 hbef Z)) (((((bk.grown0 ai).grown0 an).gn ah.grw).grown0 eg).cell Z) Z (Xc ⟨ad, eg, nd, ne, nf, ng, nh, ni, V, Vals.up 2 hvs Z Z Z⟩)
 refine Xj (fun S F tj hS hbef hcl hI => ?_) ?_
 obtain ⟨ad, ji, nj, nk, nn, no, np, nq, V, hvs⟩ := hI
 exact Ys (c := E.run - 1) (Vals.at 2 hvs Z (Xm 2 hbef Z)) Z (by omega) (by omega) (by omega) Z (Xc ⟨ad, ji, nj, nk, nn, no, np, nq, V, Vals.up 3 hvs Z Z Z⟩)
 refine Xj (fun S F tk hS hbef hcl hI => ?_) ?_
 obtain ⟨ad, jj, nr, nu, nv, nw, nx, ny, V, hvs⟩ := hI
 exact Xz Y2 (Vals.at 0 hvs Z (Xm 0 hbef Z)) (Vals.at 3 hvs Z (Xm 3 hbef Z)) iw jy (by omega) (by omega) Z (Xc ⟨ad, jj, nr, nu, nv, nw, nx, ny, V, Vals.up 4 hvs Z Z Z⟩)
 refine Xj (fun S F tl hS hbef hcl hI => ?_) ?_
 obtain ⟨ad, jk, nz, n5, n7, n9, oa, ob, V, hvs⟩ := hI
 exact Xd (o' := eu + 5) Qj (Vals.at 4 hvs Z (Xm 4 hbef Z)) Z Z (Xc ⟨ad, jk, nz, n5, n7, n9, oa, ob, V, Vals.up 5 hvs Z Z Z⟩)
 refine Xj (fun S F tn hS hbef hcl hI => ?_) ?_
 obtain ⟨ad, eh, oc, od, oe, og, oh, ol, V, hvs⟩ := hI
 exact Xh (v := .slice (mAt G (E.run - 1).toNat).sa (mAt G (E.run - 1).toNat).t.slots.length (mAt G (E.run - 1).toNat).sc) Jh (Vals.at 5 hvs Z (Xm 5 hbef Z)) ((X9 j7 eh) 5 _ Z) Z (Xc ⟨ad, eh, oc, od, oe, og, oh, ol, V, Vals.up 6 hvs Z Z Z⟩)
 refine Xj (fun S F tp hS hbef hcl hI => ?_) ?_
 obtain ⟨ad, jl, om, oo, ib, oq, ot, ou, V, hvs⟩ := hI
 exact Xd (o' := 3) K6 ib Z Z (Xc ⟨ad, jl, om, oo, ib, oq, ot, ou, V, Vals.up 7 hvs Z Z Z⟩)
 refine Xj (fun S F tq hS hbef hcl hI => ?_) ?_
 obtain ⟨ad, ei, ov, ow, ox, oy, oz, o0, V, hvs⟩ := hI
 exact Xh (v := vi E.b) X1 (Vals.at 7 hvs Z (Xm 7 hbef Z)) (((((bk.grown0 ai).grown0 an).gn ah.grw).grown0 ei).cell Z) Z (Xc ⟨ad, ei, ov, ow, ox, oy, oz, o0, V, Vals.up 8 hvs Z Z Z⟩)
 refine Xj (fun S F tr hS hbef hcl hI => ?_) ?_
 obtain ⟨ad, jm, o1, o3, o4, o5, o6, o7, V, hvs⟩ := hI
 exact Xz Ka (Vals.at 6 hvs Z (Xm 6 hbef Z)) (Vals.at 8 hvs Z (Xm 8 hbef Z)) ix jz (by omega) (by omega) Z (Xc ⟨ad, jm, o1, o3, o4, o5, o6, o7, V, Vals.up 9 hvs Z Z Z⟩)
 refine Xj (fun S F tt hS hbef hcl hI => ?_) ?_
 obtain ⟨ad, ej, o8, o9, pb, pc, pd, pe, V, hvs⟩ := hI
 exact Xp (vs := [vi (rAt (mAt G (E.run - 1).toNat).t.slots (E.b).toNat).th, vi (rAt (mAt G (E.run - 1).toNat).t.slots (E.b).toNat).ve, vb (rAt (mAt G (E.run - 1).toNat).t.slots (E.b).toNat).rd, vb (rAt (mAt G (E.run - 1).toNat).t.slots (E.b).toNat).wr, vb (rAt (mAt G (E.run - 1).toNat).t.slots (E.b).toNat).wk]) Yx (Vals.at 9 hvs Z (Xm 9 hbef Z)) Z (Yr (X9 j8 ej) 0 5 Z) Z (Xc ⟨ad, ej, o8, o9, pb, pc, pd, pe, V, Vals.up 10 hvs Z Z Z⟩)
 refine Xj (fun S F tu hS hbef hcl hI => ?_) ?_
 obtain ⟨ad, bm, pf, pg, ph, pi, pj, pk, V, hvs⟩ := hI
 refine Ye (cs := #[vi 0, vi 0, vb false, vb false, vb false]) Kz Z Z ?_
 intro g0 tv bh
 have gj := Yj bh (low0 d8 bm)
 have pq : hi ≤ g0 := nt (nt (nt (nt (Nat.le_of_eq hhi) an.size) ah.grw.size) bm.size) (Nat.le_of_eq bh.eq.symm)
 have cf := Xr bh (((((bk.grown0 ai).grown0 an).gn ah.grw).grown0 bm)).lt
 have cg := Xr bh ((ah.blk.grown0 bm)).lt
 exact Xc ⟨g0, (low0 bm bh.grw), pf, pg, ph, pi, pj, pk, fun _ => ⟨Z, gj, bh.blk, cf, cg, (nt bm.size (Nat.le_of_eq bh.eq.symm))⟩, Vals.keep hvs Z⟩
 exact Q5
 intro S F tw hall hI
 obtain ⟨ad, bd, r1, dy, pl, ic, pm, dh, V, hvs⟩ := hI
 obtain ⟨ie, qq, ep, ez, e0, pu⟩ := V (hall 11 (by decide))
 refine X0 (vs := [vi (rAt (mAt G (E.run - 1).toNat).t.slots (E.b).toNat).th, vi (rAt (mAt G (E.run - 1).toNat).t.slots (E.b).toNat).ve, vb (rAt (mAt G (E.run - 1).toNat).t.slots (E.b).toNat).rd, vb (rAt (mAt G (E.run - 1).toNat).t.slots (E.b).toNat).wr, vb (rAt (mAt G (E.run - 1).toNat).t.slots (E.b).toNat).wk]) (cs' := #[vi (rAt (mAt G (E.run - 1).toNat).t.slots (E.b).toNat).th, vi (rAt (mAt G (E.run - 1).toNat).t.slots (E.b).toNat).ve, vb (rAt (mAt G (E.run - 1).toNat).t.slots (E.b).toNat).rd, vb (rAt (mAt G (E.run - 1).toNat).t.slots (E.b).toNat).wr, vb (rAt (mAt G (E.run - 1).toNat).t.slots (E.b).toNat).wk]) Yx ie (Vals.at 10 hvs Z (hall 10 (by decide))) Z (by simp [Value.oneCell']) ep (Nat.le_of_ble_eq_true Z) Z ?_
 intro tx az
 refine Xc (Xu (Xq (Xa (Xb (v := .slice (pa ag) G.length ac) dy Z ?_))))
 have dr := ((ah.blk.grown0 bd).gn az.grw)
 refine Xp (vs := [vi (rAt (mAt G (E.run - 1).toNat).t.slots (E.a).toNat).th, vi (rAt (mAt G (E.run - 1).toNat).t.slots (E.a).toNat).ve, vb (rAt (mAt G (E.run - 1).toNat).t.slots (E.a).toNat).rd, vb (rAt (mAt G (E.run - 1).toNat).t.slots (E.a).toNat).wr, vb (rAt (mAt G (E.run - 1).toNat).t.slots (E.a).toNat).wk]) Yx dh Z (dr.rangeL 0 5 Z) Z ?_
 have ct := (TabG.ge (TabG.low co bd) az.grw d4 (by omega))
 refine Xl Ci (Xg Z (Xg Z Xk)) Z (Hq (rAt (mAt G (E.run - 1).toNat).t.slots (E.a).toNat) _ G _ _ (TabG.at ct) aq (by omega)) ?_
 rintro _ qi ⟨rfl, am⟩
 have d9 := low0 (low1 (low0 d8 bd) az.grw (by omega)) am
 refine Yl (b' := !tabLive (tabT G) (rAt (mAt G (E.run - 1).toNat).t.slots (E.a).toNat)) Z Z Z (Xc (Xy Z (fun bt => ?_) (fun bt => ?_)))
 have pn := Q2 bt
 refine Xq ?_
 have dl := (TabG.low (TabG.ge (TabG.low (TabG.ge (TabG.low cn an) ah.grw c9 (by omega)) bd) az.grw c9 (by omega)) am)
 obtain ⟨kj, sk, qd, iy, j1, j9⟩ := SlAt.at (TabG.at dl).1 (Yi (xg J ((rAt (mAt G (E.run - 1).toNat).t.slots (E.a).toNat).th - 1).toNat))
 have qu := TabLen.at bf (xg J ((rAt (mAt G (E.run - 1).toNat).t.slots (E.a).toNat).th - 1).toNat)
 have dm := (TabG.low ct am)
 obtain ⟨kk, sm, qe, iz, j2, ka⟩ := SlAt.at (TabG.at dm).1 (Yi (xg G ((rAt (mAt G (E.run - 1).toNat).t.slots (E.a).toNat).th - 1).toNat))
 have qv := TabLen.at aq (xg G ((rAt (mAt G (E.run - 1).toNat).t.slots (E.a).toNat).th - 1).toNat)
 refine Yw (m := 12) (vals := [(88, .slice aj J.length ae), (89, pt ab 0), (90, vi (rAt (mAt G (E.run - 1).toNat).t.slots (E.a).toNat).th), (91, vi ((rAt (mAt G (E.run - 1).toNat).t.slots (E.a).toNat).th - 1)), (92, pt kj qd), (93, .agg #[vi (mAt J ((rAt (mAt G (E.run - 1).toNat).t.slots (E.a).toNat).th - 1).toNat).t.kind, vi (mAt J ((rAt (mAt G (E.run - 1).toNat).t.slots (E.a).toNat).th - 1).toNat).t.lab.s, vi (mAt J ((rAt (mAt G (E.run - 1).toNat).t.slots (E.a).toNat).th - 1).toNat).t.lab.v, vi (mAt J ((rAt (mAt G (E.run - 1).toNat).t.slots (E.a).toNat).th - 1).toNat).t.ve, vi (mAt J ((rAt (mAt G (E.run - 1).toNat).t.slots (E.a).toNat).th - 1).toNat).t.num, .slice (mAt J ((rAt (mAt G (E.run - 1).toNat).t.slots (E.a).toNat).th - 1).toNat).sa (mAt J ((rAt (mAt G (E.run - 1).toNat).t.slots (E.a).toNat).th - 1).toNat).t.slots.length (mAt J ((rAt (mAt G (E.run - 1).toNat).t.slots (E.a).toNat).th - 1).toNat).sc, .slice (mAt J ((rAt (mAt G (E.run - 1).toNat).t.slots (E.a).toNat).th - 1).toNat).qa (mAt J ((rAt (mAt G (E.run - 1).toNat).t.slots (E.a).toNat).th - 1).toNat).t.queue.length (mAt J ((rAt (mAt G (E.run - 1).toNat).t.slots (E.a).toNat).th - 1).toNat).qc, vi (mAt J ((rAt (mAt G (E.run - 1).toNat).t.slots (E.a).toNat).th - 1).toNat).t.to]), (94, .slice (pa ag) G.length ac), (95, pt ab 0), (96, vi (rAt (mAt G (E.run - 1).toNat).t.slots (E.a).toNat).th), (97, vi ((rAt (mAt G (E.run - 1).toNat).t.slots (E.a).toNat).th - 1)), (98, pt kk qe), (99, .agg #[vi (mAt G ((rAt (mAt G (E.run - 1).toNat).t.slots (E.a).toNat).th - 1).toNat).t.kind, vi (mAt G ((rAt (mAt G (E.run - 1).toNat).t.slots (E.a).toNat).th - 1).toNat).t.lab.s, vi (mAt G ((rAt (mAt G (E.run - 1).toNat).t.slots (E.a).toNat).th - 1).toNat).t.lab.v, vi (mAt G ((rAt (mAt G (E.run - 1).toNat).t.slots (E.a).toNat).th - 1).toNat).t.ve, vi (mAt G ((rAt (mAt G (E.run - 1).toNat).t.slots (E.a).toNat).th - 1).toNat).t.num, .slice (mAt G ((rAt (mAt G (E.run - 1).toNat).t.slots (E.a).toNat).th - 1).toNat).sa (mAt G ((rAt (mAt G (E.run - 1).toNat).t.slots (E.a).toNat).th - 1).toNat).t.slots.length (mAt G ((rAt (mAt G (E.run - 1).toNat).t.slots (E.a).toNat).th - 1).toNat).sc, .slice (mAt G ((rAt (mAt G (E.run - 1).toNat).t.slots (E.a).toNat).th - 1).toNat).qa (mAt G ((rAt (mAt G (E.run - 1).toNat).t.slots (E.a).toNat).th - 1).toNat).t.queue.length (mAt G ((rAt (mAt G (E.run - 1).toNat).t.slots (E.a).toNat).th - 1).toNat).qc, vi (mAt G ((rAt (mAt G (E.run - 1).toNat).t.slots (E.a).toNat).th - 1).toNat).t.to])]) (fun w' => qi.grownBy w' none) Yy (by kernel_rfl) (X6 _) ?_ ?_
 refine yl Z (fun _ _ k => Xb (v := .slice aj J.length ae) ic Z k) (yl Z (fun _ _ k => Xd (o' := 0) Yz dh Z Z k) (yl Z (fun _ jo k => Xh (v := vi (rAt (mAt G (E.run - 1).toNat).t.slots (E.a).toNat).th) X1 Z (((dr.grown0 am).grown0 jo).cell Z) Z k) (yl Z (fun _ _ k => Ys (c := (rAt (mAt G (E.run - 1).toNat).t.slots (E.a).toNat).th - 1) Z Z (by omega) (by omega) (by omega) Z k) (yl Z (fun _ _ k => Xz Y2 Z Z iy j1 (by omega) (by omega) Z k) (yl Z (fun _ jp k => Xp (vs := [vi (mAt J ((rAt (mAt G (E.run - 1).toNat).t.slots (E.a).toNat).th - 1).toNat).t.kind, vi (mAt J ((rAt (mAt G (E.run - 1).toNat).t.slots (E.a).toNat).th - 1).toNat).t.lab.s, vi (mAt J ((rAt (mAt G (E.run - 1).toNat).t.slots (E.a).toNat).th - 1).toNat).t.lab.v, vi (mAt J ((rAt (mAt G (E.run - 1).toNat).t.slots (E.a).toNat).th - 1).toNat).t.ve, vi (mAt J ((rAt (mAt G (E.run - 1).toNat).t.slots (E.a).toNat).th - 1).toNat).t.num, .slice (mAt J ((rAt (mAt G (E.run - 1).toNat).t.slots (E.a).toNat).th - 1).toNat).sa (mAt J ((rAt (mAt G (E.run - 1).toNat).t.slots (E.a).toNat).th - 1).toNat).t.slots.length (mAt J ((rAt (mAt G (E.run - 1).toNat).t.slots (E.a).toNat).th - 1).toNat).sc, .slice (mAt J ((rAt (mAt G (E.run - 1).toNat).t.slots (E.a).toNat).th - 1).toNat).qa (mAt J ((rAt (mAt G (E.run - 1).toNat).t.slots (E.a).toNat).th - 1).toNat).t.queue.length (mAt J ((rAt (mAt G (E.run - 1).toNat).t.slots (E.a).toNat).th - 1).toNat).qc, vi (mAt J ((rAt (mAt G (E.run - 1).toNat).t.slots (E.a).toNat).th - 1).toNat).t.to]) Y0 Z Z (Yr (X9 j9 jp) 0 8 Z) Z k) (yl Z (fun _ _ k => Xb (v := .slice (pa ag) G.length ac) dy Z k) (yl Z (fun _ _ k => Xd (o' := 0) Yz dh Z Z k) (yl Z (fun _ jq k => Xh (v := vi (rAt (mAt G (E.run - 1).toNat).t.slots (E.a).toNat).th) X1 Z (((dr.grown0 am).grown0 jq).cell Z) Z k) (yl Z (fun _ _ k => Ys (c := (rAt (mAt G (E.run - 1).toNat).t.slots (E.a).toNat).th - 1) Z Z (by omega) (by omega) (by omega) Z k) (yl Z (fun _ _ k => Xz Y2 Z Z iz j2 (by omega) (by omega) Z k) ?_))))))))))
 exact yl Z (fun _ jr k => Xp (vs := [vi (mAt G ((rAt (mAt G (E.run - 1).toNat).t.slots (E.a).toNat).th - 1).toNat).t.kind, vi (mAt G ((rAt (mAt G (E.run - 1).toNat).t.slots (E.a).toNat).th - 1).toNat).t.lab.s, vi (mAt G ((rAt (mAt G (E.run - 1).toNat).t.slots (E.a).toNat).th - 1).toNat).t.lab.v, vi (mAt G ((rAt (mAt G (E.run - 1).toNat).t.slots (E.a).toNat).th - 1).toNat).t.ve, vi (mAt G ((rAt (mAt G (E.run - 1).toNat).t.slots (E.a).toNat).th - 1).toNat).t.num, .slice (mAt G ((rAt (mAt G (E.run - 1).toNat).t.slots (E.a).toNat).th - 1).toNat).sa (mAt G ((rAt (mAt G (E.run - 1).toNat).t.slots (E.a).toNat).th - 1).toNat).t.slots.length (mAt G ((rAt (mAt G (E.run - 1).toNat).t.slots (E.a).toNat).th - 1).toNat).sc, .slice (mAt G ((rAt (mAt G (E.run - 1).toNat).t.slots (E.a).toNat).th - 1).toNat).qa (mAt G ((rAt (mAt G (E.run - 1).toNat).t.slots (E.a).toNat).th - 1).toNat).t.queue.length (mAt G ((rAt (mAt G (E.run - 1).toNat).t.slots (E.a).toNat).th - 1).toNat).qc, vi (mAt G ((rAt (mAt G (E.run - 1).toNat).t.slots (E.a).toNat).th - 1).toNat).t.to]) Y0 Z Z (Yr (X9 ka jr) 0 8 Z) Z k) Y5
 intro tz dc
 have fb := (TabG.low dl dc)
 have fc := (TabG.low dm dc)
 refine Xl Hu (Xg Z (Xg Z Xk)) Z (Vv (mAt J ((rAt (mAt G (E.run - 1).toNat).t.slots (E.a).toNat).th - 1).toNat) (mAt G ((rAt (mAt G (E.run - 1).toNat).t.slots (E.a).toNat).th - 1).toNat) _ (TabAt.th (TabG.at fb) (xg J ((rAt (mAt G (E.run - 1).toNat).t.slots (E.a).toNat).th - 1).toNat)) (TabAt.th (TabG.at fc) (xg G ((rAt (mAt G (E.run - 1).toNat).t.slots (E.a).toNat).th - 1).toNat)) ⟨by first | omega | exact Nat.le_of_ble_eq_true Z | (simp only [List.length_nil, List.length_cons, List.length_append, List.length_replicate]; omega), by first | omega | exact Nat.le_of_ble_eq_true Z | (simp only [List.length_nil, List.length_cons, List.length_append, List.length_replicate]; omega)⟩ ⟨by first | omega | exact Nat.le_of_ble_eq_true Z | (simp only [List.length_nil, List.length_cons, List.length_append, List.length_replicate]; omega), by first | omega | exact Nat.le_of_ble_eq_true Z | (simp only [List.length_nil, List.length_cons, List.length_append, List.length_replicate]; omega)⟩) ?_
 rintro _ t0 ⟨rfl, i8⟩
 refine Xe (v := vb (decide ((mAt J ((rAt (mAt G (E.run - 1).toNat).t.slots (E.a).toNat).th - 1).toNat).t = (mAt G ((rAt (mAt G (E.run - 1).toNat).t.slots (E.a).toNat).th - 1).toNat).t))) Z Z (Xc (Xu (Xt (Yk (⟨vb (decide ((mAt J ((rAt (mAt G (E.run - 1).toNat).t.slots (E.a).toNat).th - 1).toNat).t = (mAt G ((rAt (mAt G (E.run - 1).toNat).t.slots (E.a).toNat).th - 1).toNat).t)), Yp Z Z, ?_, (low0 (low0 d9 dc) i8)⟩)))))
 exact congrArg Value.bool (decide_eq_true (i4 pn))
 have bu := Qx bt
 refine Xw (Xu (Xq (Xa (Xe (v := vi 0) Z Z (Xc (Yc ?_))))))
 have fd := (TabG.low ct am)
 have fe := (TabG.low (TabG.ge (TabG.low (TabG.ge (TabG.low dk an) ah.grw d5 (by omega)) bd) az.grw d5 (by omega)) am)
 have ff := (TabG.low (TabG.ge (TabG.low (TabG.ge (TabG.low cn an) ah.grw c9 (by omega)) bd) az.grw c9 (by omega)) am)
 have pz := ((((((bk.grown0 ai).grown0 an).gn ah.grw).grown0 bd).gn az.grw).grown0 am)
 have p0 := (dr.grown0 am)
 have p8 := (az.blk.grown0 am)
 refine Qm (fun mm f' w' => ∃ (k : Nat), mm = 4 - k ∧ k ≤ 4 ∧ TabG w.heap.size w' (pa ag) G ∧ TabG qg.heap.size w' (pa cj) be ∧ TabG qh.heap.size w' (aj) J ∧ hi ≤ w'.heap.size ∧ f' 11 = vi (k : Int) ∧ f' 3 = .slice (pa ag) G.length ac ∧ f' 4 = pt ak 0 ∧ f' 7 = .slice aj J.length ae ∧ f' 8 = vi (callDo (tabT G) E).2 ∧ f' 9 = pt ab 0 ∧ f' 10 = pt ad 0 ∧ w.grownBy w' none ∧ Blk w' ak 25 #[vi E.kind, vi E.run, vi E.a, vi E.b, vi E.n] ∧ Blk w' ab 42 #[vi (rAt (mAt G (E.run - 1).toNat).t.slots (E.a).toNat).th, vi (rAt (mAt G (E.run - 1).toNat).t.slots (E.a).toNat).ve, vb (rAt (mAt G (E.run - 1).toNat).t.slots (E.a).toNat).rd, vb (rAt (mAt G (E.run - 1).toNat).t.slots (E.a).toNat).wr, vb (rAt (mAt G (E.run - 1).toNat).t.slots (E.a).toNat).wk] ∧ Blk w' ad 42 #[vi (rAt (mAt G (E.run - 1).toNat).t.slots (E.b).toNat).th, vi (rAt (mAt G (E.run - 1).toNat).t.slots (E.b).toNat).ve, vb (rAt (mAt G (E.run - 1).toNat).t.slots (E.b).toNat).rd, vb (rAt (mAt G (E.run - 1).toNat).t.slots (E.b).toNat).wr, vb (rAt (mAt G (E.run - 1).toNat).t.slots (E.b).toNat).wk]) (4 - 0) ⟨0, Z, (Nat.zero_le _), fd, fe, ff, (nt (nt (nt (nt (nt (Nat.le_of_eq hhi) an.size) ah.grw.size) bd.size) az.grw.size) am.size), Z, dy, pl, ic, pm, dh, ie, d9, pz, p0, p8⟩ ?_
 rintro mm r3 du ⟨k, ri, hk, d3, po, bw, hhs, bg, dz, bn, cw, d0, cx, di, ea, cd, dt, em⟩
 refine Xq (Xa (Xb (v := vi (k : Int)) bg Z (Qa (q := decide ((k : Int) < 4)) Z Z Z Z (Xc (Xy Z (fun bv => ?_) (fun bv => ?_))))))
 have sd := of_decide_eq_true bv
 refine Xw (Xu (Xq (Yc (Kn (fun f' w' => (f' 3 = .slice (pa ag) G.length ac ∧ f' 4 = pt ak 0 ∧ f' 7 = .slice aj J.length ae ∧ f' 8 = vi (callDo (tabT G) E).2 ∧ f' 9 = pt ab 0 ∧ f' 10 = pt ad 0 ∧ f' 11 = vi (k : Int) ∧ f' 153 = vb (((decide ((k : Int) = E.n % 4)) && (!(decide ((rAt (mAt J ((rAt (mAt G (E.run - 1).toNat).t.slots (E.a).toNat).th - 1).toNat).t.slots k) = (rAt (mAt G (E.run - 1).toNat).t.slots (E.b).toNat))))) || ((!(decide ((k : Int) = E.n % 4))) && (!(decide ((rAt (mAt J ((rAt (mAt G (E.run - 1).toNat).t.slots (E.a).toNat).th - 1).toNat).t.slots k) = (rAt (mAt G ((rAt (mAt G (E.run - 1).toNat).t.slots (E.a).toNat).th - 1).toNat).t.slots k))))))) ∧ du.grownBy w' none) ?_ ?_))))
 rcases Yf (decide ((k : Int) = E.n % 4)) with O | O
 have rj := of_decide_eq_true O
 have av : (decide ((rAt (mAt J ((rAt (mAt G (E.run - 1).toNat).t.slots (E.a).toNat).th - 1).toNat).t.slots k) = (rAt (mAt G (E.run - 1).toNat).t.slots (E.b).toNat))) = true := decide_eq_true (by rw [db bu, Tm (by omega), if_pos (by omega)])
 have se := of_decide_eq_true O
 obtain ⟨g3, sn, ew, i0, j3, kb⟩ := SlAt.at (TabG.at bw).1 (Yi (xg J ((rAt (mAt G (E.run - 1).toNat).t.slots (E.a).toNat).th - 1).toNat))
 have qw := TabLen.at bf (xg J ((rAt (mAt G (E.run - 1).toNat).t.slots (E.a).toNat).th - 1).toNat)
 obtain ⟨kl, so, qf, i1, j4, kc⟩ := SlAt.at (TabAt.th (TabG.at bw) (xg J ((rAt (mAt G (E.run - 1).toNat).t.slots (E.a).toNat).th - 1).toNat)).1 (Yi (xr (mAt J ((rAt (mAt G (E.run - 1).toNat).t.slots (E.a).toNat).th - 1).toNat).t.slots k))
 refine Yw (m := 46) (vals := [(105, vi (k : Int)), (106, pt ak 4), (107, vi E.n), (108, vi (E.n % 4)), (109, vb (decide ((k : Int) = E.n % 4))), (110, vb (decide ((k : Int) = E.n % 4))), (111, .slice aj J.length ae), (112, pt ab 0), (113, vi (rAt (mAt G (E.run - 1).toNat).t.slots (E.a).toNat).th), (114, vi ((rAt (mAt G (E.run - 1).toNat).t.slots (E.a).toNat).th - 1)), (115, pt g3 ew), (116, pt g3 (ew + 5)), (117, .slice (mAt J ((rAt (mAt G (E.run - 1).toNat).t.slots (E.a).toNat).th - 1).toNat).sa (mAt J ((rAt (mAt G (E.run - 1).toNat).t.slots (E.a).toNat).th - 1).toNat).t.slots.length (mAt J ((rAt (mAt G (E.run - 1).toNat).t.slots (E.a).toNat).th - 1).toNat).sc), (118, vi (k : Int)), (119, pt kl qf), (120, .agg #[vi (rAt (mAt J ((rAt (mAt G (E.run - 1).toNat).t.slots (E.a).toNat).th - 1).toNat).t.slots k).th, vi (rAt (mAt J ((rAt (mAt G (E.run - 1).toNat).t.slots (E.a).toNat).th - 1).toNat).t.slots k).ve, vb (rAt (mAt J ((rAt (mAt G (E.run - 1).toNat).t.slots (E.a).toNat).th - 1).toNat).t.slots k).rd, vb (rAt (mAt J ((rAt (mAt G (E.run - 1).toNat).t.slots (E.a).toNat).th - 1).toNat).t.slots k).wr, vb (rAt (mAt J ((rAt (mAt G (E.run - 1).toNat).t.slots (E.a).toNat).th - 1).toNat).t.slots k).wk]), (121, .agg #[vi (rAt (mAt G (E.run - 1).toNat).t.slots (E.b).toNat).th, vi (rAt (mAt G (E.run - 1).toNat).t.slots (E.b).toNat).ve, vb (rAt (mAt G (E.run - 1).toNat).t.slots (E.b).toNat).rd, vb (rAt (mAt G (E.run - 1).toNat).t.slots (E.b).toNat).wr, vb (rAt (mAt G (E.run - 1).toNat).t.slots (E.b).toNat).wk]), (122, vb (!(decide ((rAt (mAt J ((rAt (mAt G (E.run - 1).toNat).t.slots (E.a).toNat).th - 1).toNat).t.slots k) = (rAt (mAt G (E.run - 1).toNat).t.slots (E.b).toNat))))), (123, vb (!(decide ((rAt (mAt J ((rAt (mAt G (E.run - 1).toNat).t.slots (E.a).toNat).th - 1).toNat).t.slots k) = (rAt (mAt G (E.run - 1).toNat).t.slots (E.b).toNat))))), (124, vb (!(decide ((rAt (mAt J ((rAt (mAt G (E.run - 1).toNat).t.slots (E.a).toNat).th - 1).toNat).t.slots k) = (rAt (mAt G (E.run - 1).toNat).t.slots (E.b).toNat))))), (125, vi (k : Int)), (126, pt ak 4), (127, vi E.n), (128, vi (E.n % 4)), (129, vb (!(decide ((k : Int) = E.n % 4)))), (130, vb (!(decide ((k : Int) = E.n % 4)))), (131, undef), (132, undef), (133, undef), (134, undef), (135, undef), (136, undef), (137, undef), (138, undef), (139, undef), (140, undef), (141, undef), (142, undef), (143, undef), (144, undef), (145, undef), (146, undef), (147, undef), (148, undef), (149, undef), (150, undef)]) (fun w' => du.grownBy w' none) Yy (by kernel_rfl) (X6 _) ?_ ?_
 refine yl Z (fun _ _ kq => Xb (v := vi (k : Int)) bg Z kq) (yl Z (fun _ _ k => Xd (o' := 4) Jk bn Z Z k) (yl Z (fun _ js k => Xh (v := vi E.n) X1 Z ((cd.grown0 js).cell Z) Z k) (yl Z (fun _ _ k => Q8 (c := E.n % 4) Z Z (by omega) (by omega) (by omega) Z Z k) (yl Z (fun _ _ kq => X3 (q := decide ((k : Int) = E.n % 4)) Z Z Z Z kq) (yl Z (fun _ _ kq => Xb (v := vb (decide ((k : Int) = E.n % 4))) Z Z kq) (yl Z (fun _ _ k => Xf Z Z Z O (Xb (v := .slice aj J.length ae) cw Z k)) (yl Z (fun _ _ k => Xf Z Z Z O (Xd (o' := 0) Yz cx Z Z k)) (yl Z (fun _ jt k => Xf Z Z Z O (Xh (v := vi (rAt (mAt G (E.run - 1).toNat).t.slots (E.a).toNat).th) X1 Z ((dt.grown0 jt).cell Z) Z k)) (yl Z (fun _ _ k => Xf Z Z Z O (Ys (c := (rAt (mAt G (E.run - 1).toNat).t.slots (E.a).toNat).th - 1) Z Z (by omega) (by omega) (by omega) Z k)) (yl Z (fun _ _ k => Xf Z Z Z O (Xz Y2 Z Z i0 j3 (by omega) (by omega) Z k)) ?_))))))))))
 refine yl Z (fun _ _ k => Xf Z Z Z O (Xd (o' := ew + 5) Qj Z Z Z k)) (yl Z (fun _ ju k => Xf Z Z Z O (Xh (v := .slice (mAt J ((rAt (mAt G (E.run - 1).toNat).t.slots (E.a).toNat).th - 1).toNat).sa (mAt J ((rAt (mAt G (E.run - 1).toNat).t.slots (E.a).toNat).th - 1).toNat).t.slots.length (mAt J ((rAt (mAt G (E.run - 1).toNat).t.slots (E.a).toNat).th - 1).toNat).sc) Jh Z ((X9 kb ju) 5 _ Z) Z k)) (yl Z (fun _ _ kq => Xf Z Z Z O (Xb (v := vi (k : Int)) bg Z kq)) (yl Z (fun _ _ k => Xf Z Z Z O (Xz Ka Z Z i1 j4 (by omega) (by omega) Z k)) (yl Z (fun _ jv kq => Xf Z Z Z O (Xp (vs := [vi (rAt (mAt J ((rAt (mAt G (E.run - 1).toNat).t.slots (E.a).toNat).th - 1).toNat).t.slots k).th, vi (rAt (mAt J ((rAt (mAt G (E.run - 1).toNat).t.slots (E.a).toNat).th - 1).toNat).t.slots k).ve, vb (rAt (mAt J ((rAt (mAt G (E.run - 1).toNat).t.slots (E.a).toNat).th - 1).toNat).t.slots k).rd, vb (rAt (mAt J ((rAt (mAt G (E.run - 1).toNat).t.slots (E.a).toNat).th - 1).toNat).t.slots k).wr, vb (rAt (mAt J ((rAt (mAt G (E.run - 1).toNat).t.slots (E.a).toNat).th - 1).toNat).t.slots k).wk]) Yx Z Z (Yr (X9 kc jv) 0 5 Z) Z kq)) (yl Z (fun _ fp k => Xf Z Z Z O (Xp (vs := [vi (rAt (mAt G (E.run - 1).toNat).t.slots (E.b).toNat).th, vi (rAt (mAt G (E.run - 1).toNat).t.slots (E.b).toNat).ve, vb (rAt (mAt G (E.run - 1).toNat).t.slots (E.b).toNat).rd, vb (rAt (mAt G (E.run - 1).toNat).t.slots (E.b).toNat).wr, vb (rAt (mAt G (E.run - 1).toNat).t.slots (E.b).toNat).wk]) Yx di Z ((em.grown0 fp).rangeL 0 5 Z) Z k)) (yl Z (fun _ _ kq => Xf Z Z Z O (Vn (q := !(decide ((rAt (mAt J ((rAt (mAt G (E.run - 1).toNat).t.slots (E.a).toNat).th - 1).toNat).t.slots k) = (rAt (mAt G (E.run - 1).toNat).t.slots (E.b).toNat)))) Z Z (Tc _ _ (rAt (mAt J ((rAt (mAt G (E.run - 1).toNat).t.slots (E.a).toNat).th - 1).toNat).t.slots k) (rAt (mAt G (E.run - 1).toNat).t.slots (E.b).toNat) _) (Td (rAt (mAt J ((rAt (mAt G (E.run - 1).toNat).t.slots (E.a).toNat).th - 1).toNat).t.slots k) (rAt (mAt G (E.run - 1).toNat).t.slots (E.b).toNat) _) Z Z kq)) (yl Z (fun _ _ kq => Xs (v := vb (!(decide ((rAt (mAt J ((rAt (mAt G (E.run - 1).toNat).t.slots (E.a).toNat).th - 1).toNat).t.slots k) = (rAt (mAt G (E.run - 1).toNat).t.slots (E.b).toNat))))) Z O Z Z kq) ?_)))))))
 refine yl Z (fun _ _ kq => Xb (v := vb (!(decide ((rAt (mAt J ((rAt (mAt G (E.run - 1).toNat).t.slots (E.a).toNat).th - 1).toNat).t.slots k) = (rAt (mAt G (E.run - 1).toNat).t.slots (E.b).toNat))))) Z Z kq) (yl Z (fun _ _ kq => Xf Z Z Z (Qk av) (Xb (v := vi (k : Int)) bg Z kq)) (yl Z (fun _ _ k => Xf Z Z Z (Qk av) (Xd (o' := 4) Jk bn Z Z k)) (yl Z (fun _ fq k => Xf Z Z Z (Qk av) (Xh (v := vi E.n) X1 Z ((cd.grown0 fq).cell Z) Z k)) (yl Z (fun _ _ k => Xf Z Z Z (Qk av) (Q8 (c := E.n % 4) Z Z (by omega) (by omega) (by omega) Z Z k)) (yl Z (fun _ _ kq => Xf Z Z Z (Qk av) (Y8 (q := !(decide ((k : Int) = E.n % 4))) Z Z Z Z kq)) (yl Z (fun _ _ kq => Xf Z Z Z (Qk av) (Xb (v := vb (!(decide ((k : Int) = E.n % 4)))) Z Z kq)) (yl Z (fun _ _ k => Xi Z Z Z (Qk O) Z k) (yl Z (fun _ _ k => Xi Z Z Z (Qk O) Z k) (yl Z (fun _ _ k => Xi Z Z Z (Qk O) Z k) (yl Z (fun _ _ k => Xi Z Z Z (Qk O) Z k) ?_))))))))))
 refine yl Z (fun _ _ k => Xi Z Z Z (Qk O) Z k) (yl Z (fun _ _ k => Xi Z Z Z (Qk O) Z k) (yl Z (fun _ _ k => Xi Z Z Z (Qk O) Z k) (yl Z (fun _ _ k => Xi Z Z Z (Qk O) Z k) (yl Z (fun _ _ k => Xi Z Z Z (Qk O) Z k) (yl Z (fun _ _ k => Xi Z Z Z (Qk O) Z k) (yl Z (fun _ _ k => Xi Z Z Z (Qk O) Z k) (yl Z (fun _ _ k => Xi Z Z Z (Qk O) Z k) (yl Z (fun _ _ k => Xi Z Z Z (Qk O) Z k) (yl Z (fun _ _ k => Xi Z Z Z (Qk O) Z k) (yl Z (fun _ _ k => Xi Z Z Z (Qk O) Z k) ?_))))))))))
 exact yl Z (fun _ _ k => Xi Z Z Z (Qk O) Z k) (yl Z (fun _ _ k => Xi Z Z Z (Qk O) Z k) (yl Z (fun _ _ k => Xi Z Z Z (Qk O) Z k) (yl Z (fun _ _ k => Xi Z Z Z (Qk O) Z k) (yl Z (fun _ _ k => Xi Z Z Z (Qk O) Z k) Y5))))
 intro rx fr
 exact Xi Z Z Z (Qk O) Z (Xf Z Z Z (Qk av) (Xo (v := vb false) Z (Qk O) Z Z (Xo (v := vb false) Z (Qk av) Z Z (Xc (Xu ⟨⟨dz, bn, cw, d0, cx, di, bg, (congrArg Value.bool (by first | (simp only [a9, ba, ao, bp, cy, cz, c8, bt, bu, bv, O, au, a8, af, av, al, b0, b1, b2, b3, b4, b5, b6, b7, b8, b9]; done) | simp [a9, ba, ao, bp, cy, cz, c8, bt, bu, bv, O, au, a8, af, av, al]))⟩, fr⟩)))))
 have q0 := of_decide_eq_false O
 have dq : (decide ((rAt (mAt J ((rAt (mAt G (E.run - 1).toNat).t.slots (E.a).toNat).th - 1).toNat).t.slots k) = (rAt (mAt G ((rAt (mAt G (E.run - 1).toNat).t.slots (E.a).toNat).th - 1).toNat).t.slots k))) = true := decide_eq_true (by rw [db bu, Tm (by omega), if_neg (by omega)])
 have q6 := of_decide_eq_false O
 obtain ⟨dv, rn, de, fh, gk, gt⟩ := SlAt.at (TabG.at bw).1 (Yi (xg J ((rAt (mAt G (E.run - 1).toNat).t.slots (E.a).toNat).th - 1).toNat))
 have pv := TabLen.at bf (xg J ((rAt (mAt G (E.run - 1).toNat).t.slots (E.a).toNat).th - 1).toNat)
 obtain ⟨ig, ro, ke, fi, gl, gu⟩ := SlAt.at (TabAt.th (TabG.at bw) (xg J ((rAt (mAt G (E.run - 1).toNat).t.slots (E.a).toNat).th - 1).toNat)).1 (Yi (xr (mAt J ((rAt (mAt G (E.run - 1).toNat).t.slots (E.a).toNat).th - 1).toNat).t.slots k))
 obtain ⟨dw, rp, df, fj, gm, gv⟩ := SlAt.at (TabG.at d3).1 (Yi (xg G ((rAt (mAt G (E.run - 1).toNat).t.slots (E.a).toNat).th - 1).toNat))
 have pw := TabLen.at aq (xg G ((rAt (mAt G (E.run - 1).toNat).t.slots (E.a).toNat).th - 1).toNat)
 obtain ⟨ii, rq, kf, fk, gp, gw⟩ := SlAt.at (TabAt.th (TabG.at d3) (xg G ((rAt (mAt G (E.run - 1).toNat).t.slots (E.a).toNat).th - 1).toNat)).1 (Yi (xr (mAt G ((rAt (mAt G (E.run - 1).toNat).t.slots (E.a).toNat).th - 1).toNat).t.slots k))
 refine Yw (m := 46) (vals := [(105, vi (k : Int)), (106, pt ak 4), (107, vi E.n), (108, vi (E.n % 4)), (109, vb (decide ((k : Int) = E.n % 4))), (110, vb (decide ((k : Int) = E.n % 4))), (111, undef), (112, undef), (113, undef), (114, undef), (115, undef), (116, undef), (117, undef), (118, undef), (119, undef), (120, undef), (121, undef), (122, undef), (123, vb false), (124, vb false), (125, vi (k : Int)), (126, pt ak 4), (127, vi E.n), (128, vi (E.n % 4)), (129, vb (!(decide ((k : Int) = E.n % 4)))), (130, vb (!(decide ((k : Int) = E.n % 4)))), (131, .slice aj J.length ae), (132, pt ab 0), (133, vi (rAt (mAt G (E.run - 1).toNat).t.slots (E.a).toNat).th), (134, vi ((rAt (mAt G (E.run - 1).toNat).t.slots (E.a).toNat).th - 1)), (135, pt dv de), (136, pt dv (de + 5)), (137, .slice (mAt J ((rAt (mAt G (E.run - 1).toNat).t.slots (E.a).toNat).th - 1).toNat).sa (mAt J ((rAt (mAt G (E.run - 1).toNat).t.slots (E.a).toNat).th - 1).toNat).t.slots.length (mAt J ((rAt (mAt G (E.run - 1).toNat).t.slots (E.a).toNat).th - 1).toNat).sc), (138, vi (k : Int)), (139, pt ig ke), (140, .agg #[vi (rAt (mAt J ((rAt (mAt G (E.run - 1).toNat).t.slots (E.a).toNat).th - 1).toNat).t.slots k).th, vi (rAt (mAt J ((rAt (mAt G (E.run - 1).toNat).t.slots (E.a).toNat).th - 1).toNat).t.slots k).ve, vb (rAt (mAt J ((rAt (mAt G (E.run - 1).toNat).t.slots (E.a).toNat).th - 1).toNat).t.slots k).rd, vb (rAt (mAt J ((rAt (mAt G (E.run - 1).toNat).t.slots (E.a).toNat).th - 1).toNat).t.slots k).wr, vb (rAt (mAt J ((rAt (mAt G (E.run - 1).toNat).t.slots (E.a).toNat).th - 1).toNat).t.slots k).wk]), (141, .slice (pa ag) G.length ac), (142, pt ab 0), (143, vi (rAt (mAt G (E.run - 1).toNat).t.slots (E.a).toNat).th), (144, vi ((rAt (mAt G (E.run - 1).toNat).t.slots (E.a).toNat).th - 1)), (145, pt dw df), (146, pt dw (df + 5)), (147, .slice (mAt G ((rAt (mAt G (E.run - 1).toNat).t.slots (E.a).toNat).th - 1).toNat).sa (mAt G ((rAt (mAt G (E.run - 1).toNat).t.slots (E.a).toNat).th - 1).toNat).t.slots.length (mAt G ((rAt (mAt G (E.run - 1).toNat).t.slots (E.a).toNat).th - 1).toNat).sc), (148, vi (k : Int)), (149, pt ii kf), (150, .agg #[vi (rAt (mAt G ((rAt (mAt G (E.run - 1).toNat).t.slots (E.a).toNat).th - 1).toNat).t.slots k).th, vi (rAt (mAt G ((rAt (mAt G (E.run - 1).toNat).t.slots (E.a).toNat).th - 1).toNat).t.slots k).ve, vb (rAt (mAt G ((rAt (mAt G (E.run - 1).toNat).t.slots (E.a).toNat).th - 1).toNat).t.slots k).rd, vb (rAt (mAt G ((rAt (mAt G (E.run - 1).toNat).t.slots (E.a).toNat).th - 1).toNat).t.slots k).wr, vb (rAt (mAt G ((rAt (mAt G (E.run - 1).toNat).t.slots (E.a).toNat).th - 1).toNat).t.slots k).wk])]) (fun w' => du.grownBy w' none) Yy (by kernel_rfl) (X6 _) ?_ ?_
 refine yl Z (fun _ _ kq => Xb (v := vi (k : Int)) bg Z kq) (yl Z (fun _ _ k => Xd (o' := 4) Jk bn Z Z k) (yl Z (fun _ ft k => Xh (v := vi E.n) X1 Z ((cd.grown0 ft).cell Z) Z k) (yl Z (fun _ _ k => Q8 (c := E.n % 4) Z Z (by omega) (by omega) (by omega) Z Z k) (yl Z (fun _ _ kq => X3 (q := decide ((k : Int) = E.n % 4)) Z Z Z Z kq) (yl Z (fun _ _ kq => Xb (v := vb (decide ((k : Int) = E.n % 4))) Z Z kq) (yl Z (fun _ _ k => Xi Z Z Z O Z k) (yl Z (fun _ _ k => Xi Z Z Z O Z k) (yl Z (fun _ _ k => Xi Z Z Z O Z k) (yl Z (fun _ _ k => Xi Z Z Z O Z k) (yl Z (fun _ _ k => Xi Z Z Z O Z k) ?_))))))))))
 refine yl Z (fun _ _ k => Xi Z Z Z O Z k) (yl Z (fun _ _ k => Xi Z Z Z O Z k) (yl Z (fun _ _ k => Xi Z Z Z O Z k) (yl Z (fun _ _ k => Xi Z Z Z O Z k) (yl Z (fun _ _ k => Xi Z Z Z O Z k) (yl Z (fun _ _ k => Xi Z Z Z O Z k) (yl Z (fun _ _ k => Xi Z Z Z O Z k) (yl Z (fun _ _ k => Xo (v := vb false) Z O Z Z k) (yl Z (fun _ _ k => Xb (v := vb false) Z Z k) (yl Z (fun _ _ kq => Xf Z Z Z Z (Xb (v := vi (k : Int)) bg Z kq)) (yl Z (fun _ _ k => Xf Z Z Z Z (Xd (o' := 4) Jk bn Z Z k)) ?_))))))))))
 refine yl Z (fun _ fu k => Xf Z Z Z Z (Xh (v := vi E.n) X1 Z ((cd.grown0 fu).cell Z) Z k)) (yl Z (fun _ _ k => Xf Z Z Z Z (Q8 (c := E.n % 4) Z Z (by omega) (by omega) (by omega) Z Z k)) (yl Z (fun _ _ kq => Xf Z Z Z Z (Y8 (q := !(decide ((k : Int) = E.n % 4))) Z Z Z Z kq)) (yl Z (fun _ _ kq => Xf Z Z Z Z (Xb (v := vb (!(decide ((k : Int) = E.n % 4)))) Z Z kq)) (yl Z (fun _ _ k => Xf Z Z Z (Qq O) (Xb (v := .slice aj J.length ae) cw Z k)) (yl Z (fun _ _ k => Xf Z Z Z (Qq O) (Xd (o' := 0) Yz cx Z Z k)) (yl Z (fun _ fv k => Xf Z Z Z (Qq O) (Xh (v := vi (rAt (mAt G (E.run - 1).toNat).t.slots (E.a).toNat).th) X1 Z ((dt.grown0 fv).cell Z) Z k)) (yl Z (fun _ _ k => Xf Z Z Z (Qq O) (Ys (c := (rAt (mAt G (E.run - 1).toNat).t.slots (E.a).toNat).th - 1) Z Z (by omega) (by omega) (by omega) Z k)) (yl Z (fun _ _ k => Xf Z Z Z (Qq O) (Xz Y2 Z Z fh gk (by omega) (by omega) Z k)) (yl Z (fun _ _ k => Xf Z Z Z (Qq O) (Xd (o' := de + 5) Qj Z Z Z k)) (yl Z (fun _ fw k => Xf Z Z Z (Qq O) (Xh (v := .slice (mAt J ((rAt (mAt G (E.run - 1).toNat).t.slots (E.a).toNat).th - 1).toNat).sa (mAt J ((rAt (mAt G (E.run - 1).toNat).t.slots (E.a).toNat).th - 1).toNat).t.slots.length (mAt J ((rAt (mAt G (E.run - 1).toNat).t.slots (E.a).toNat).th - 1).toNat).sc) Jh Z ((X9 gt fw) 5 _ Z) Z k)) ?_))))))))))
 refine yl Z (fun _ _ kq => Xf Z Z Z (Qq O) (Xb (v := vi (k : Int)) bg Z kq)) (yl Z (fun _ _ k => Xf Z Z Z (Qq O) (Xz Ka Z Z fi gl (by omega) (by omega) Z k)) (yl Z (fun _ fx kq => Xf Z Z Z (Qq O) (Xp (vs := [vi (rAt (mAt J ((rAt (mAt G (E.run - 1).toNat).t.slots (E.a).toNat).th - 1).toNat).t.slots k).th, vi (rAt (mAt J ((rAt (mAt G (E.run - 1).toNat).t.slots (E.a).toNat).th - 1).toNat).t.slots k).ve, vb (rAt (mAt J ((rAt (mAt G (E.run - 1).toNat).t.slots (E.a).toNat).th - 1).toNat).t.slots k).rd, vb (rAt (mAt J ((rAt (mAt G (E.run - 1).toNat).t.slots (E.a).toNat).th - 1).toNat).t.slots k).wr, vb (rAt (mAt J ((rAt (mAt G (E.run - 1).toNat).t.slots (E.a).toNat).th - 1).toNat).t.slots k).wk]) Yx Z Z (Yr (X9 gu fx) 0 5 Z) Z kq)) (yl Z (fun _ _ k => Xf Z Z Z (Qq O) (Xb (v := .slice (pa ag) G.length ac) dz Z k)) (yl Z (fun _ _ k => Xf Z Z Z (Qq O) (Xd (o' := 0) Yz cx Z Z k)) (yl Z (fun _ fy k => Xf Z Z Z (Qq O) (Xh (v := vi (rAt (mAt G (E.run - 1).toNat).t.slots (E.a).toNat).th) X1 Z ((dt.grown0 fy).cell Z) Z k)) (yl Z (fun _ _ k => Xf Z Z Z (Qq O) (Ys (c := (rAt (mAt G (E.run - 1).toNat).t.slots (E.a).toNat).th - 1) Z Z (by omega) (by omega) (by omega) Z k)) (yl Z (fun _ _ k => Xf Z Z Z (Qq O) (Xz Y2 Z Z fj gm (by omega) (by omega) Z k)) (yl Z (fun _ _ k => Xf Z Z Z (Qq O) (Xd (o' := df + 5) Qj Z Z Z k)) (yl Z (fun _ fz k => Xf Z Z Z (Qq O) (Xh (v := .slice (mAt G ((rAt (mAt G (E.run - 1).toNat).t.slots (E.a).toNat).th - 1).toNat).sa (mAt G ((rAt (mAt G (E.run - 1).toNat).t.slots (E.a).toNat).th - 1).toNat).t.slots.length (mAt G ((rAt (mAt G (E.run - 1).toNat).t.slots (E.a).toNat).th - 1).toNat).sc) Jh Z ((X9 gv fz) 5 _ Z) Z k)) (yl Z (fun _ _ kq => Xf Z Z Z (Qq O) (Xb (v := vi (k : Int)) bg Z kq)) ?_))))))))))
 exact yl Z (fun _ _ k => Xf Z Z Z (Qq O) (Xz Ka Z Z fk gp (by omega) (by omega) Z k)) (yl Z (fun _ f8 kq => Xf Z Z Z (Qq O) (Xp (vs := [vi (rAt (mAt G ((rAt (mAt G (E.run - 1).toNat).t.slots (E.a).toNat).th - 1).toNat).t.slots k).th, vi (rAt (mAt G ((rAt (mAt G (E.run - 1).toNat).t.slots (E.a).toNat).th - 1).toNat).t.slots k).ve, vb (rAt (mAt G ((rAt (mAt G (E.run - 1).toNat).t.slots (E.a).toNat).th - 1).toNat).t.slots k).rd, vb (rAt (mAt G ((rAt (mAt G (E.run - 1).toNat).t.slots (E.a).toNat).th - 1).toNat).t.slots k).wr, vb (rAt (mAt G ((rAt (mAt G (E.run - 1).toNat).t.slots (E.a).toNat).th - 1).toNat).t.slots k).wk]) Yx Z Z (Yr (X9 gw f8) 0 5 Z) Z kq)) Y5)
 intro ry f9
 exact Xf Z Z Z (Qq O) (Vn (q := !(decide ((rAt (mAt J ((rAt (mAt G (E.run - 1).toNat).t.slots (E.a).toNat).th - 1).toNat).t.slots k) = (rAt (mAt G ((rAt (mAt G (E.run - 1).toNat).t.slots (E.a).toNat).th - 1).toNat).t.slots k)))) Z Z (Tc _ _ (rAt (mAt J ((rAt (mAt G (E.run - 1).toNat).t.slots (E.a).toNat).th - 1).toNat).t.slots k) (rAt (mAt G ((rAt (mAt G (E.run - 1).toNat).t.slots (E.a).toNat).th - 1).toNat).t.slots k) _) (Td (rAt (mAt J ((rAt (mAt G (E.run - 1).toNat).t.slots (E.a).toNat).th - 1).toNat).t.slots k) (rAt (mAt G ((rAt (mAt G (E.run - 1).toNat).t.slots (E.a).toNat).th - 1).toNat).t.slots k) _) Z Z (Xf Z Z Z Z (Xs (v := vb (!(decide ((rAt (mAt J ((rAt (mAt G (E.run - 1).toNat).t.slots (E.a).toNat).th - 1).toNat).t.slots k) = (rAt (mAt G ((rAt (mAt G (E.run - 1).toNat).t.slots (E.a).toNat).th - 1).toNat).t.slots k))))) Z (Qq O) Z Z (Xo (v := vb (!(decide ((rAt (mAt J ((rAt (mAt G (E.run - 1).toNat).t.slots (E.a).toNat).th - 1).toNat).t.slots k) = (rAt (mAt G ((rAt (mAt G (E.run - 1).toNat).t.slots (E.a).toNat).th - 1).toNat).t.slots k))))) Z Z Z Z (Xc (Xu ⟨⟨dz, bn, cw, d0, cx, di, bg, (congrArg Value.bool (by first | (simp only [a9, ba, ao, bp, cy, cz, c8, bt, bu, bv, O, au, a8, dq, af, al, b0, b1, b2, b3, b4, b5, b6, b7, b8, b9]; done) | simp [a9, ba, ao, bp, cy, cz, c8, bt, bu, bv, O, au, a8, dq, af, al]))⟩, f9⟩))))))
 rintro q5 rz ⟨⟨ik, il, im, io, ip, iq, ir, it⟩, ar⟩
 have dp := low0 ea ar
 refine Xy it (fun ck => ?_) (fun ck => ?_)
 refine Xa (Xe (v := vb false) Z Z (Xc (Xt (Qi (Yk (Yk (Qi (Yk (⟨vb false, Yp Z Z, ?_, dp⟩)))))))))
 have hbad := ck
 have rh : k < (mAt G ((rAt (mAt G (E.run - 1).toNat).t.slots E.a.toNat).th - 1).toNat).t.slots.length := by omega
 rw [db bu, Tm rh] at hbad
 by_cases e : (k : Int) = E.n % 4
 rw [if_pos (show k = (E.n % 4).toNat by omega), decide_eq_true e] at hbad; simp at hbad
 rw [if_neg (show ¬ k = (E.n % 4).toNat by omega), decide_eq_false e] at hbad; simp at hbad
 have q7 := Kq ck
 have q8 := Kr ck
 exact Xw (Y7 (Xu (X2 (Xb (v := vi (k : Int)) ir Z (Yn (c := (k : Int) + 1) Z Z (by omega) (by omega) (by omega) Z (Xe (v := vi ((k : Int) + 1)) Z Z (Xc (Xu (⟨4 - (k + 1), by omega, (k + 1), Z, (by omega), (TabG.low d3 ar), (TabG.low po ar), (TabG.low bw ar), (nt hhs ar.size), Z, ik, il, im, io, ip, iq, dp, (cd.grown0 ar), (dt.grown0 ar), (em.grown0 ar)⟩)))))))))
 have q9 := of_decide_eq_false bv
 refine Qe (Qb (Qb (Jm (Xu (Xq ?_)))))
 obtain ⟨dx, rr, dg, fm, gq, gx⟩ := SlAt.at (TabG.at bw).1 (Yi (xg J (E.run - 1).toNat))
 have px := TabLen.at bf (xg J (E.run - 1).toNat)
 obtain ⟨ij, ru, kg, fo, gr, gy⟩ := SlAt.at (TabAt.th (TabG.at bw) (xg J (E.run - 1).toNat)).1 (Yi (xr (mAt J (E.run - 1).toNat).t.slots (E.b).toNat))
 refine Yw (m := 15) (vals := [(154, vi (callDo (tabT G) E).2), (155, vb (decide ((callDo (tabT G) E).2 = 0))), (156, vb (decide ((callDo (tabT G) E).2 = 0))), (157, .slice aj J.length ae), (158, pt ak 1), (159, vi E.run), (160, vi (E.run - 1)), (161, pt dx dg), (162, pt dx (dg + 5)), (163, .slice (mAt J (E.run - 1).toNat).sa (mAt J (E.run - 1).toNat).t.slots.length (mAt J (E.run - 1).toNat).sc), (164, pt ak 3), (165, vi E.b), (166, pt ij kg), (167, .agg #[vi (rAt (mAt J (E.run - 1).toNat).t.slots (E.b).toNat).th, vi (rAt (mAt J (E.run - 1).toNat).t.slots (E.b).toNat).ve, vb (rAt (mAt J (E.run - 1).toNat).t.slots (E.b).toNat).rd, vb (rAt (mAt J (E.run - 1).toNat).t.slots (E.b).toNat).wr, vb (rAt (mAt J (E.run - 1).toNat).t.slots (E.b).toNat).wk]), (168, .agg #[vi (rAt (mAt G (E.run - 1).toNat).t.slots (E.b).toNat).th, vi (rAt (mAt G (E.run - 1).toNat).t.slots (E.b).toNat).ve, vb (rAt (mAt G (E.run - 1).toNat).t.slots (E.b).toNat).rd, vb (rAt (mAt G (E.run - 1).toNat).t.slots (E.b).toNat).wr, vb (rAt (mAt G (E.run - 1).toNat).t.slots (E.b).toNat).wk])]) (fun w' => du.grownBy w' none) Yy (by kernel_rfl) (X6 _) ?_ ?_
 refine yl Z (fun _ _ k => Xb (v := vi (callDo (tabT G) E).2) d0 Z k) (yl Z (fun _ _ k => X3 (q := decide ((callDo (tabT G) E).2 = 0)) Z Z Z Z k) (yl Z (fun _ _ k => Xb (v := vb (decide ((callDo (tabT G) E).2 = 0))) Z Z k) (yl Z (fun _ _ k => Xf Z Z Z af (Xb (v := .slice aj J.length ae) cw Z k)) (yl Z (fun _ _ k => Xf Z Z Z af (Xd (o' := 1) Qv bn Z Z k)) (yl Z (fun _ ga k => Xf Z Z Z af (Xh (v := vi E.run) X1 Z ((cd.grown0 ga).cell Z) Z k)) (yl Z (fun _ _ k => Xf Z Z Z af (Ys (c := E.run - 1) Z Z (by omega) (by omega) (by omega) Z k)) (yl Z (fun _ _ k => Xf Z Z Z af (Xz Y2 Z Z fm gq (by omega) (by omega) Z k)) (yl Z (fun _ _ k => Xf Z Z Z af (Xd (o' := dg + 5) Qj Z Z Z k)) (yl Z (fun _ gb k => Xf Z Z Z af (Xh (v := .slice (mAt J (E.run - 1).toNat).sa (mAt J (E.run - 1).toNat).t.slots.length (mAt J (E.run - 1).toNat).sc) Jh Z ((X9 gx gb) 5 _ Z) Z k)) (yl Z (fun _ _ k => Xf Z Z Z af (Xd (o' := 3) K6 bn Z Z k)) ?_))))))))))
 exact yl Z (fun _ gc k => Xf Z Z Z af (Xh (v := vi E.b) X1 Z ((cd.grown0 gc).cell Z) Z k)) (yl Z (fun _ _ k => Xf Z Z Z af (Xz Ka Z Z fo gr (by omega) (by omega) Z k)) (yl Z (fun _ gf k => Xf Z Z Z af (Xp (vs := [vi (rAt (mAt J (E.run - 1).toNat).t.slots (E.b).toNat).th, vi (rAt (mAt J (E.run - 1).toNat).t.slots (E.b).toNat).ve, vb (rAt (mAt J (E.run - 1).toNat).t.slots (E.b).toNat).rd, vb (rAt (mAt J (E.run - 1).toNat).t.slots (E.b).toNat).wr, vb (rAt (mAt J (E.run - 1).toNat).t.slots (E.b).toNat).wk]) Yx Z Z (Yr (X9 gy gf) 0 5 Z) Z k)) (yl Z (fun _ gg k => Xf Z Z Z af (Xp (vs := [vi (rAt (mAt G (E.run - 1).toNat).t.slots (E.b).toNat).th, vi (rAt (mAt G (E.run - 1).toNat).t.slots (E.b).toNat).ve, vb (rAt (mAt G (E.run - 1).toNat).t.slots (E.b).toNat).rd, vb (rAt (mAt G (E.run - 1).toNat).t.slots (E.b).toNat).wr, vb (rAt (mAt G (E.run - 1).toNat).t.slots (E.b).toNat).wk]) Yx di Z ((em.grown0 gg).rangeL 0 5 Z) Z k)) Y5)))
 intro r0 gh
 refine Xf Z Z Z af (Vn (q := decide ((rAt (mAt J (E.run - 1).toNat).t.slots (E.b).toNat) = (rAt (mAt G (E.run - 1).toNat).t.slots (E.b).toNat))) Z Z (Ll _ _ (rAt (mAt J (E.run - 1).toNat).t.slots (E.b).toNat) (rAt (mAt G (E.run - 1).toNat).t.slots (E.b).toNat) _) (Hh (rAt (mAt J (E.run - 1).toNat).t.slots (E.b).toNat) (rAt (mAt G (E.run - 1).toNat).t.slots (E.b).toNat) _) Z Z (Xs (v := vb (decide ((rAt (mAt J (E.run - 1).toNat).t.slots (E.b).toNat) = (rAt (mAt G (E.run - 1).toNat).t.slots (E.b).toNat)))) Z af Z Z (Xe (v := vb (decide ((rAt (mAt J (E.run - 1).toNat).t.slots (E.b).toNat) = (rAt (mAt G (E.run - 1).toNat).t.slots (E.b).toNat)))) Z Z (Xc (Xu (Xt (⟨vb (decide ((rAt (mAt J (E.run - 1).toNat).t.slots (E.b).toNat) = (rAt (mAt G (E.run - 1).toNat).t.slots (E.b).toNat))), Yp Z Z, ?_, (low0 ea gh)⟩)))))))
 exact congrArg Value.bool (decide_eq_true (by rw [i5]))
end Go.Proofs.YtjpgffmkcmcolaaGreatDoor
end
