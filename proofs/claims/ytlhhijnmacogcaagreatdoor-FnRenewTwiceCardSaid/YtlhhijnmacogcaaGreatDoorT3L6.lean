/- Laws and walks: my templates, and what a program of mine (gen.py) printed out of the functions; only what the row reaches. -/
import Derived.Test.YtlhhijnmacogcaaGreatDoorT35
section
namespace Go.Dw
set_option linter.unusedVariables false
set_option linter.unusedSimpArgs false
section
variable {ts : List Th} {q : Cl}
theorem G8 (hp : callPoss ts q = true) (h : 0 ≤ doAns ts q) : check1 ts q = 0 := by
  have hr := Kl ts q
  by_cases h0 : check1 ts q < 0
  · have := (Ve h0).1
    omega
  · omega
theorem R3 (hp : callPoss ts q = true) (h0 : check1 ts q = 0) (h3 : ¬ q.kind = 3) : (1 ≤ (slotAt ts q.run q.a).th ∧ (slotAt ts q.run q.a).th ≤ (ts.length : Int)) ∧ kindFor q.kind (thAt ts (slotAt ts q.run q.a).th).kind = true ∧ (need0 q.kind = true → sees ts q.run (slotAt ts q.run q.a).th = true) := by
  have e := Qz hp
  have h := Hs (ts := ts) (q := q) (by omega) h3
  exact ⟨h.1, h.2.1, (Lp (ts := ts) (q := q) (by omega) (by omega) h3).1⟩
theorem K0 (hp : callPoss ts q = true) (h0 : check1 ts q = 0) (h3 : ¬ q.kind = 3) : FarOk ts q (slotAt ts q.run q.a) := by
  have h := R3 hp h0 h3
  obtain ⟨hT, hc, hr⟩ := Yd hp
  exact ⟨hT, hc, hr, h.1, h.2.1, h3⟩
theorem T0 (hp : callPoss ts q = true) {j : Int} (hj : 1 ≤ j) (hne : ¬ j = q.run) : thAt (doCall ts q).1 j = thAt (doPre ts q) j := by
  rw [Kn]
  unfold setNum
  rw [Jf (To hp) j hj, if_neg hne]
theorem Pg (hp : callPoss ts q = true) (h0 : check1 ts q = 0) (h3 : ¬ q.kind = 3) : ¬ (slotAt ts q.run q.a).th = q.run := fun e => by
  have h := R3 hp h0 h3
  have hr := (Qq (Yd hp).2.2).2
  have hc := Yw (Yd hp).2.1
  have hk := Q5 h.2.1 hc.1
  rw [e, hr] at hk
  omega
theorem Sf (hp : callPoss ts q = true) : callPoss (doCall ts q).1 q = true := by
  obtain ⟨hT, hc, hr⟩ := Yd hp
  have h := Wc hp
  have hr := Qq hr
  unfold callPoss
  rw [h.1, hc, M3 (by rw [h.2.1]; exact hr.1) ((h.2.2 _ hr.1.1).trans hr.2)]
  rfl
def Kept (n : Int) (a b : Th) : Prop := (a.kind = 1 → b.num = a.num ∨ b.num = 0 ∨ b.num = n ∨ b.num = n % 2) ∧ ∀ v ∈ b.queue, v = n ∨ v ∈ a.queue
theorem Kept.refl (n : Int) (a : Th) : Kept n a a := ⟨fun _ => Or.inl rfl, fun _ h => Or.inr h⟩
section
variable {ms xs : List MTh}
theorem Wo (hp : callPoss (tabT ms) q = true) : (callDo (tabT ms) q).2 = doAns (tabT ms) q := by rw [Jb hp, Rz]
theorem Kr (ht : tabT xs = (callDo (tabT ms) q).1) (hp : callPoss (tabT ms) q = true) : (mAt xs (q.run - 1).toNat).t.slots.length = 4 := by
  have h := Sf hp
  have h2 := (Yd h)
  rw [← Jb hp, ← ht] at h2
  exact Qt h2.1 h2.2.2
end
end
end Go.Dw
end
section
namespace Go.Dw
set_option linter.unusedVariables false
set_option linter.unusedSimpArgs false
section
variable {ts us : List Th} {q p : Cl}
theorem Vo (hp : callPoss ts q = true) (hc : callOk p = true) (hr : p.run = q.run) : callPoss ts p = true := by
  obtain ⟨hT, _, hk⟩ := Yd hp
  unfold callPoss
  rw [hT, hc, hr, hk]
  rfl
theorem Wu (hp : callPoss ts q = true) (hc : callOk p = true) (hr : p.run = q.run) : callPoss (doCall ts q).1 p = true := Vo (Sf hp) hc hr
theorem Jg {k n : Int} (hk : 1 ≤ k ∧ k ≤ (ts.length : Int)) (j : Int) (hj : 1 ≤ j) : thAt (setNum ts k n) j = if j = k then { thAt ts k with num := n } else thAt ts j := by
  unfold setNum
  exact Jf hk j hj
theorem Gd (hp : callPoss ts q = true) (h8 : q.kind = 8) (ha : doAns ts q = 0) : (1 ≤ (slotAt ts q.run q.a).th ∧ (slotAt ts q.run q.a).th ≤ (ts.length : Int)) ∧ check1 ts q = 0 ∧
    ((live ts (slotAt ts q.run q.a) = false ∨ (thAt ts (slotAt ts q.run q.a).th).ve = 5) → thAt (doCall ts q).1 (slotAt ts q.run q.a).th = thAt ts (slotAt ts q.run q.a).th) ∧
    ((sees ts q.run (slotAt ts q.run q.a).th = true ∨ (live ts (slotAt ts q.run q.a) = true ∧ ¬ (thAt ts (slotAt ts q.run q.a).th).ve = 5)) → (doCall ts q).1 = setNum (setTh ts (slotAt ts q.run q.a).th (renewed (thAt ts (slotAt ts q.run q.a).th))) q.run 0) := by
  have h3 : ¬ q.kind = 3 := by omega
  have h0 := G8 hp (by omega)
  have hF := K0 hp h0 h3
  have hne := Pg hp h0 h3
  have hrow := Vk hF.tab hF.th
  have hkd := (Q5 hF.kind (Yw hF.call).1).2.2.2.2.2.2.1 h8
  have hv := (Qv hrow.1).2.2.1
  unfold versOk at hv
  rw [if_pos hkd] at hv
  have hv := Qh.1 hv
  have e := Qz hp
  have hf : far ts q (slotAt ts q.run q.a) = if (thAt ts (slotAt ts q.run q.a).th).ve < 5 then (setTh ts (slotAt ts q.run q.a).th (renewed (thAt ts (slotAt ts q.run q.a).th)), 0) else (ts, -4) := by
    unfold far
    rw [if_neg (by omega), if_neg (by omega), if_neg (by omega), if_neg (by omega), if_neg (by omega), if_neg (by omega), if_pos h8]
  refine ⟨hF.th, h0, fun h => ?_, fun h => ?_⟩
  · rw [T0 hp hF.th.1 hne]
    cases hl : live ts (slotAt ts q.run q.a) with
    | false => rw [(Uw h0 h3 hl).2]
    | true =>
      have h5 : (thAt ts (slotAt ts q.run q.a).th).ve = 5 := h.resolve_left (by rw [hl]; decide)
      rw [(Vl rfl h0 h3 hl hF).2, hf, if_neg (by omega)]
  · have hl : live ts (slotAt ts q.run q.a) = true := by
      rcases h with h | h
      · exact W5 (by omega) h3 h
      · exact h.1
    have hx := Vl rfl h0 h3 hl hF
    have hlt : (thAt ts (slotAt ts q.run q.a).th).ve < 5 := by
      rcases h with h | h
      · rw [ha, if_pos h, hf] at hx
        by_cases hv : (thAt ts (slotAt ts q.run q.a).th).ve < 5
        · exact hv
        · rw [if_neg hv] at hx
          exact absurd (show (0 : Int) = -4 from hx.1) (by decide)
      · omega
    rw [Kn, ha, hx.2, hf, if_pos hlt]
theorem Sk (hp : callPoss ts q = true) (h8 : q.kind = 8) (ha : doAns ts q = 0) (hs : sees ts q.run (slotAt ts q.run q.a).th = true) : doAns (doCall ts q).1 q = -3 ∧ (thAt (doCall ts q).1 (slotAt ts q.run q.a).th).ve = (thAt ts (slotAt ts q.run q.a).th).ve + 1 := by
  have h3 : ¬ q.kind = 3 := by omega
  obtain ⟨hth, h0, _, hx⟩ := Gd hp h8 ha
  have hx := hx (Or.inl hs)
  have hne := Pg hp h0 h3
  have hrun := Qq (Yd hp).2.2
  have hl := W5 (ts := ts) (q := q) (by rw [Qz hp]; exact h0) h3 hs
  have l1 : ((setTh ts (slotAt ts q.run q.a).th (renewed (thAt ts (slotAt ts q.run q.a).th))).length : Int) = ts.length := by rw [Q7]
  have et : thAt (doCall ts q).1 (slotAt ts q.run q.a).th = renewed (thAt ts (slotAt ts q.run q.a).th) := by
    rw [hx, Jg (by omega) _ hth.1, if_neg hne, Jf hth _ hth.1, if_pos rfl]
  have er : thAt (doCall ts q).1 q.run = { thAt ts q.run with num := 0 } := by
    rw [hx, Jg (by omega) _ hrun.1.1, if_pos rfl, Jf hth _ hrun.1.1, if_neg (Ne.symm hne)]
  have sx : slotAt (doCall ts q).1 q.run q.a = slotAt ts q.run q.a := by
    show rAt (thAt (doCall ts q).1 q.run).slots q.a.toNat = _
    rw [er]
    rfl
  have hve : (thAt (doCall ts q).1 (slotAt ts q.run q.a).th).ve = (thAt ts (slotAt ts q.run q.a).th).ve + 1 := by rw [et]; rfl
  refine ⟨?_, hve⟩
  have hpr := Hs (ts := ts) (q := q) (by rw [Qz hp]; omega) h3
  have hfl := Lp (ts := ts) (q := q) (by rw [Qz hp]; omega) (by rw [Qz hp]; omega) h3
  have hsx : sees (doCall ts q).1 q.run (slotAt ts q.run q.a).th = true := by unfold sees at hs ⊢; rw [et, er]; exact hs
  have htx : touches (doCall ts q).1 q.run (slotAt ts q.run q.a).th = touches ts q.run (slotAt ts q.run q.a).th := by unfold touches; rw [et, er]; rfl
  have hlx : live (doCall ts q).1 (slotAt ts q.run q.a) = false := by
    unfold live at hl ⊢
    rw [Bool.and_eq_true] at hl
    have := of_decide_eq_true hl.2
    rw [hve, decide_eq_false (by omega), Bool.and_false]
  have hc : check1 (doCall ts q).1 q = -3 := by
    unfold check1 chk1 chk2 chk3
    rw [if_neg h3, sx]
    have k1 : (thAt (doCall ts q).1 (slotAt ts q.run q.a).th).kind = (thAt ts (slotAt ts q.run q.a).th).kind := by rw [et]; rfl
    have hn0 : need0 q.kind = false := by unfold need0; rw [if_neg (by omega), if_neg (by omega)]
    have hn1 : need1 q.kind = true := by unfold need1; rw [if_neg (by omega)]
    rw [k1, hpr.2.1, hn0, hn1, hpr.2.2.2 hn1, htx, hfl.2 hn1, hsx, hlx, decide_eq_false (show ¬ (slotAt ts q.run q.a).th = 0 by omega)]
    rfl
  exact (Ve (by omega)).1.trans hc
end
end Go.Dw
end
section
namespace Go.Dw
set_option linter.unusedVariables false
set_option linter.unusedSimpArgs false
section
variable {ts : List Th} {q p : Cl}
theorem Cp {r : Rt} (hr : slotAt ts q.run q.a = r) (h0 : ¬ r.th = 0) (hk : kindFor q.kind (thAt ts r.th).kind = true) (hrd : r.rd = true) (hwr : r.wr = true) (hs : sees ts q.run r.th = true) (ht : touches ts q.run r.th = true) (hl : live ts r = true) : check1 ts q = 0 := by
  unfold check1 chk1 chk2 chk3
  rw [hr, hk, hrd, hwr, hs, ht, hl, decide_eq_false h0]
  simp
structure Free (us : List Th) (run a : Int) (r : Rt) (kd : Int) : Prop where
  slot : slotAt us run a = r
  nz : ¬ r.th = 0
  kind : (thAt us r.th).kind = kd
  rd : r.rd = true
  wr : r.wr = true
  sees : sees us run r.th = true
  touches : touches us run r.th = true
  live : live us r = true
theorem Free.check {us : List Th} {run a kd : Int} {r : Rt} (h : Free us run a r kd) (hr : p.run = run) (ha : p.a = a) (hk : kindFor p.kind kd = true) : check1 us p = 0 :=
  Cp (r := r) (by rw [hr, ha]; exact h.slot) h.nz (by rw [h.kind]; exact hk) h.rd h.wr (by rw [hr]; exact h.sees) (by rw [hr]; exact h.touches) h.live
theorem Free.far {us : List Th} {a kd : Int} {r : Rt} (hp : callPoss us p = true) (h : Free us p.run a r kd) (ha : p.a = a) (hk : kindFor p.kind kd = true) (h3 : ¬ p.kind = 3) : FarOk us p r ∧ doAns us p = (Go.Dw.far us p r).2 ∧ (doCall us p).1 = setNum (Go.Dw.far us p r).1 p.run (Go.Dw.far us p r).2 := by
  have h0 := h.check rfl ha hk
  have hs : slotAt us p.run p.a = r := by rw [ha]; exact h.slot
  have hF := K0 hp h0 h3
  rw [hs] at hF
  have hx := Vl hs h0 h3 h.live hF
  rw [if_pos h.sees] at hx
  exact ⟨hF, hx.1, by rw [Kn, hx.1, hx.2]⟩
end
section
variable {ms xs ys zs us : List MTh} {q p s t : Cl}
theorem Vp (ht : tabT xs = (callDo (tabT ms) q).1) (hp : callPoss (tabT ms) q = true) (hc : callOk p = true) (hr : p.run = q.run) : callPoss (tabT xs) p = true := by rw [ht, Jb hp]; exact Wu hp hc hr
theorem Ku (ht : tabT xs = (callDo (tabT ms) q).1) (hp : callPoss (tabT ms) q = true) : tabT xs = (doCall (tabT ms) q).1 := by rw [ht, Jb hp]
theorem Fz (hp : callPoss (tabT ms) q = true) {k : Int} (hk : 1 ≤ k ∧ k ≤ (ms.length : Int)) : chkSees (tabT ms) q.run k = sees (tabT ms) q.run k := by
  obtain ⟨hT, _, hr⟩ := Yd hp
  exact S7 hT hr (by rw [Qa]; exact hk)
theorem P0 (ht : tabT xs = (callDo (tabT ms) q).1) (hp : callPoss (tabT ms) q = true) (h8 : q.kind = 8) (ha : (callDo (tabT ms) q).2 = 0) (hs : chkSees (tabT ms) q.run (rAt (mAt ms (q.run - 1).toNat).t.slots q.a.toNat).th = true) :
    (callDo (tabT xs) q).2 = -3 ∧ (mAt xs ((rAt (mAt ms (q.run - 1).toNat).t.slots q.a.toNat).th - 1).toNat).t.ve = (mAt ms ((rAt (mAt ms (q.run - 1).toNat).t.slots q.a.toNat).th - 1).toNat).t.ve + 1 := by
  rw [Wo hp] at ha
  have hc := Gd hp h8 ha
  have hth := hc.1
  rw [Qa, ← Qy] at hth
  rw [Fz hp hth] at hs
  rw [Qy] at hs
  have h := Sk hp h8 ha hs
  have hpx := Vp ht hp (Yd hp).2.1 rfl
  rw [Wo hpx, Qo xs, Qy, Qo, Ku ht hp]
  exact h
theorem D3 (hp : callPoss (tabT ms) q = true) (h8 : q.kind = 8) (ha : (callDo (tabT ms) q).2 = 0) : (1 ≤ (rAt (mAt ms (q.run - 1).toNat).t.slots q.a.toNat).th ∧ (rAt (mAt ms (q.run - 1).toNat).t.slots q.a.toNat).th ≤ (ms.length : Int)) := by
  rw [Wo hp] at ha
  have hc := (Gd hp h8 ha).1
  rwa [Qa, ← Qy] at hc
theorem Xa9 (hp : callPoss (tabT ms) q = true) {k : Int} (hk : 1 ≤ k ∧ k ≤ (ms.length : Int)) : 0 ≤ (mAt ms (k - 1).toNat).t.ve ∧ (mAt ms (k - 1).toNat).t.ve ≤ 5 := by
  rw [Qo]
  have hv := (Qv (Vk (Yd hp).1 (k := k) (by rw [Qa]; exact hk)).1).2.2.1
  unfold versOk at hv
  split at hv
  · exact Qh.1 hv
  · have := of_decide_eq_true hv
    omega
end
end Go.Dw
end
section
namespace Go.Proofs.YtlhhijnmacogcaaGreatDoor
open Go.RowKit Go.Dw
set_option maxRecDepth 100000
set_option maxHeartbeats 4000000
set_option linter.unusedSimpArgs false
set_option linter.unusedVariables false
theorem Ug : goFn Tryz.prog 15 = true := by kernel_rfl
theorem Uh : goFn Tryz.prog 16 = true := by kernel_rfl
theorem Ks : goFn Tryz.prog 17 = true := by kernel_rfl
theorem K6 : goFn Tryz.prog 18 = true := by kernel_rfl
theorem Ui : goFn Tryz.prog 19 = true := by kernel_rfl
theorem T9 : goFn Tryz.prog 21 = true := by kernel_rfl
theorem law_FnRenewTwice (bs : List Int) (a : Option Addr) (c : Nat) (w : World) (jd : SlAt w a 1 (bs.map bcell)) (hb : ∀ b ∈ bs, 0 ≤ b ∧ b ≤ 255) (hn : bs.length ≤ 9223372036854775807) (hc : bs.length ≤ c) (hE : ErrT w) : CallsR Tryz.prog 14 #[.slice a bs.length c] w (fun v w' => v = .bool true ∧ w.grownBy w' none) := by
 refine Xw (n := 108) Tryz.func14 Z Tryz.ntmps14 Z ?_
 have ef := World.grownBy.refl w none
 have hs := SlAt.lt Kh (by omega) jd
 refine Xa (Xf (v := vb false) Z Z (Xc (Xs (Xa (Xb (v := .slice a bs.length c) Z Z (Yr (by kernel_rfl) Z Z (Qw (q := decide (1048576 < (bs.length : Int))) Z Z Z Z (Xc (X2 Z (fun az => ?_) (fun az => ?_))))))))))
 have kb := of_decide_eq_true az
 refine Xa (Xf (v := vb true) Z Z (Xc (Xt (Yo (⟨vb true, Yx Z Z, ?_, ef⟩)))))
 rfl
 have kc := of_decide_eq_false az
 refine Xy (Xv (Xa (Xb (v := .slice a bs.length c) Z Z (Xm Ug (Xg Z Xl) Z (Kp bs a c _ (SlAt.low jd ef) hb (by omega) (by omega)) ?_))))
 rintro _ kp ⟨ak, ac, G, E, rfl, bc, dt, jj, j7, ej⟩
 have cy := low0 ef ej
 have aq := dt.len
 refine Xb (v := .tuple #[.slice (pa ak) G.length ac, .agg #[vi E.kind, vi E.run, vi E.a, vi E.b, vi E.n]]) Z Z (X1 (v := .slice (pa ak) G.length ac) Z Z Z (X1 (v := .agg #[vi E.kind, vi E.run, vi E.a, vi E.b, vi E.n]) Z Z Z (Yf (cs := #[vi 0, vi 0, vi 0, vi 0, vi 0]) Wa Z Z ?_)))
 intro bt kq ah
 have jm := Yi ah cy
 refine Xf (v := .slice (pa ak) G.length ac) Z Z (Xx (vs := [vi E.kind, vi E.run, vi E.a, vi E.b, vi E.n]) (cs' := #[vi E.kind, vi E.run, vi E.a, vi E.b, vi E.n]) Y1 Z Z Z (by simp [Value.oneCell']) ah.blk (Nat.le_of_ble_eq_true Z) Z ?_)
 intro kr am
 refine Xc (Xa (Xb (v := .slice (pa ak) G.length ac) Z Z (Xq (vs := [vi E.kind, vi E.run, vi E.a, vi E.b, vi E.n]) Y1 Z Z (am.blk.rangeL 0 5 Z) Z ?_)))
 have js := (am.blk).lt
 refine Xm Uh (Xg Z (Xg Z Xl)) Z (Vr E _ G _ _ (TabG.at (TabG.low bc (low1 ah.grw am.grw (nt ((World.grownBy.refl _ none)).size (Nat.le_of_eq ah.eq.symm))))) aq (by omega)) ?_
 rintro _ ks ⟨bu, aw, av, rfl, dn, bj, be⟩
 have cz := low0 (low1 (low0 cy ah.grw) am.grw (by omega)) be
 have cf := Qn bj
 have jz := Y8 bj
 refine Xb (v := .tuple #[.slice (pa bu) av.length aw, vi (callDo (tabT G) E).2]) Z Z (X1 (v := .slice (pa bu) av.length aw) Z Z Z (X1 (v := vi (callDo (tabT G) E).2) Z Z Z (Xf (v := .slice (pa bu) av.length aw) Z Z (Xf (v := vi (callDo (tabT G) E).2) Z Z (Xc (Xa (Xb (v := .slice (pa ak) G.length ac) Z Z ?_)))))))
 have de := (am.blk.grown0 be)
 refine Xq (vs := [vi E.kind, vi E.run, vi E.a, vi E.b, vi E.n]) Y1 Z Z (de.rangeL 0 5 Z) Z ?_
 have jt := (de).lt
 refine Xm Ks (Xg Z (Xg Z Xl)) Z (Jq E _ G _ _ (TabG.at (TabG.low bc (low0 (low1 ah.grw am.grw (nt ((World.grownBy.refl _ none)).size (Nat.le_of_eq ah.eq.symm))) be))) aq (by omega) (ErrT.grown0 hE cz)) ?_
 rintro _ kt ⟨ar, ad, J, rfl, bp, ap, bf⟩
 have bd := Qn ap
 have j1 := Y8 ap
 refine Xb (v := .tuple #[.slice ar J.length ad, vi (callDo (tabT G) E).2]) Z Z (X1 (v := .slice ar J.length ad) Z Z Z (X1 (v := vi (callDo (tabT G) E).2) Z Z Z (Xf (v := .slice ar J.length ad) Z Z (Xf (v := vi (callDo (tabT G) E).2) Z Z (Xc (Xs (Xa (Xb (v := vi (callDo (tabT G) E).2) Z Z (Xb (v := vi (callDo (tabT G) E).2) Z Z (Qj (q := false) Z Z (by simp) Z (Xb (v := vb false) Z Z (Xe Z Z Z Z ?_))))))))))))
 refine Xb (v := .slice ar J.length ad) Z Z (Xe Z Z Z Z (Xb (v := .slice (pa bu) av.length aw) Z Z (Xe Z Z Z Z ?_)))
 have bq := (TabG.low dn bf)
 refine Xm K6 (Xg Z (Xg Z Xl)) Z (Js _ J av _ _ _ _ (TabG.at bp) (TabG.at bq) bd cf (by omega) (by omega)) ?_
 rintro _ ku ⟨rfl, ao⟩
 refine Xe Z Z Z Z (Yj (b' := false) (congrArg Value.bool (decide_eq_true (ap.trans bj.symm))) Z Z (Xn (v := vb false) Z Z Z Z (Xb (v := vb false) Z Z (Xe Z Z Z Z (Xb (v := .slice (pa ak) G.length ac) Z Z (Xe Z Z Z Z ?_))))))
 have bm := ((de.grown0 bf).grown0 ao)
 refine Xq (vs := [vi E.kind, vi E.run, vi E.a, vi E.b, vi E.n]) Y1 Z Z (bm.rangeL 0 5 Z) Z (Xe Z Z Z Z (Xm Ui (Xg Z (Xg Z Xl)) Z (Ut E _ G _ _ (TabG.at (TabG.low bc (low0 (low0 (low0 (low1 ah.grw am.grw (nt ((World.grownBy.refl _ none)).size (Nat.le_of_eq ah.eq.symm))) be) bf) ao))) aq (by omega)) ?_))
 rintro _ cg ⟨rfl, ai⟩
 have bz := low0 (low0 (low0 cz bf) ao) ai
 refine Xe Z Z Z Z (Yj (b' := !callPoss (tabT G) E) Z Z Z (Xn (v := vb (!callPoss (tabT G) E)) Z Z Z Z (Xc (X2 Z (fun a8 => ?_) (fun a8 => ?_)))))
 have ke := Jm a8
 refine Xa (Xb (v := vi (callDo (tabT G) E).2) Z Z (Xb (v := vi (callDo (tabT G) E).2) Z Z (X3 (q := true) Z Z (by simp) Z (Xb (v := vb true) Z Z (Xe Z Z Z Z (Xb (v := .slice ar J.length ad) Z Z (Xe Z Z Z Z (Xb (v := .slice (pa bu) av.length aw) Z Z (Xe Z Z Z Z (Xm K6 (Xg Z (Xg Z Xl)) Z (Js _ J av _ _ _ _ (TabG.at (TabG.low (TabG.low bp ao) ai)) (TabG.at (TabG.low (TabG.low bq ao) ai)) bd cf (by omega) (by omega)) ?_))))))))))
 rintro _ kv ⟨rfl, ek⟩
 refine Xo (v := vb true) Z Z (congrArg Value.bool (decide_eq_true (ap.trans bj.symm))) Z (Xf (v := vb true) Z Z (Xc (Xt (Yo (⟨vb true, Yx Z Z, ?_, (low0 bz ek)⟩)))))
 rfl
 have ae := Qu a8
 obtain ⟨al, au, aj⟩ := Yd ae
 have jk := Yw au
 have jl := (Y5 aj).1
 have j6 := Qt al aj
 have jw := Jk al
 have hde := Jb ae
 have hrk := Qq (Yd ae).2.2
 have j2 := Qm bj ae
 have j3 := Qm ap ae
 obtain ⟨hi, hhi⟩ : ∃ n, n = cg.heap.size := ⟨_, rfl⟩
 have a9 := (TabG.low bc (low0 (low0 (low0 (low0 (low1 ah.grw am.grw (nt ((World.grownBy.refl _ none)).size (Nat.le_of_eq ah.eq.symm))) be) bf) ao) ai))
 have cw := TabG.hi a9
 rw [← hhi] at cw
 have i8 := TabG.hi (TabG.low (TabG.low bq ao) ai)
 rw [← hhi] at i8
 have cd := (TabG.low (TabG.low bp ao) ai)
 have d6 := TabG.hi cd
 rw [← hhi] at d6
 have jg := Kr ap ae
 refine Xy (Xv (Xs ?_))
 obtain ⟨dx, kl, dh, ea, fh, fm⟩ := SlAt.at (TabG.at a9).1 (Yk (xg G (E.run - 1).toNat))
 have jp := TabLen.at aq (xg G (E.run - 1).toNat)
 obtain ⟨fr, km, je, eb, fi, fo⟩ := SlAt.at (TabAt.th (TabG.at a9) (xg G (E.run - 1).toNat)).1 (Yk (xr (mAt G (E.run - 1).toNat).t.slots (E.a).toNat))
 have jx := Vg al (lq (E.run - 1).toNat G.length) (lq (E.a).toNat (mAt G (E.run - 1).toNat).t.slots.length)
 have j8 : hi ≤ cg.heap.size := (Nat.le_of_eq hhi)
 refine Q2 (m := 12) [[], [], [1], [1, 2], [0, 1, 2, 3], [0, 1, 2, 3, 4], [0, 1, 2, 3, 4, 5], [], [7], [0, 1, 2, 3, 4, 5, 6, 7, 8], [0, 1, 2, 3, 4, 5, 6, 7, 8, 9], [], [0, 1, 2, 3, 4, 5, 6, 7, 8, 9, 10, 11]] (fun S F w' => ∃ (O : Nat), cg.grownBy w' none ∧ F 2 = vb false ∧ F 3 = .slice (pa ak) G.length ac ∧ F 4 = pt bt 0 ∧ F 7 = .slice ar J.length ad ∧ F 8 = vi (callDo (tabT G) E).2 ∧ (S 11 = true → F 9 = pt O 0 ∧ w.heap.size ≤ O ∧ Blk w' O 33 #[vi 0, vi 0, vb false, vb false, vb false] ∧ bt < O ∧ cg.heap.size ≤ O) ∧ Vals S F [(0, 55, .slice (pa ak) G.length ac), (1, 56, pt bt 1), (2, 57, vi E.run), (3, 58, vi (E.run - 1)), (4, 59, pt dx dh), (5, 60, pt dx (dh + 5)), (6, 61, .slice (mAt G (E.run - 1).toNat).sa (mAt G (E.run - 1).toNat).t.slots.length (mAt G (E.run - 1).toNat).sc), (7, 62, pt bt 2), (8, 63, vi E.a), (9, 64, pt fr je), (10, 65, .agg #[vi (rAt (mAt G (E.run - 1).toNat).t.slots (E.a).toNat).th, vi (rAt (mAt G (E.run - 1).toNat).t.slots (E.a).toNat).ve, vb (rAt (mAt G (E.run - 1).toNat).t.slots (E.a).toNat).rd, vb (rAt (mAt G (E.run - 1).toNat).t.slots (E.a).toNat).wr, vb (rAt (mAt G (E.run - 1).toNat).t.slots (E.a).toNat).wk])]) Y0 (by kernel_rfl) ⟨0, X7 _, Z, Z, Z, Z, Z, Yy, Ka _⟩ ?_ ?_
 refine Xk (fun S F kw hS hbef hcl hI => ?_) ?_
 obtain ⟨O, eo, ft, d0, fu, fv, fw, V, hvs⟩ := hI
 exact Xb (v := .slice (pa ak) G.length ac) d0 Z (Xc ⟨O, eo, ft, d0, fu, fv, fw, V, Vals.up 0 hvs Z Z Z⟩)
 refine Xk (fun S F kx hS hbef hcl hI => ?_) ?_
 obtain ⟨O, ep, fx, fy, d1, fz, f8, V, hvs⟩ := hI
 exact Xd (o' := 1) Y9 d1 Z Z (Xc ⟨O, ep, fx, fy, d1, fz, f8, V, Vals.up 1 hvs Z Z Z⟩)
 refine Xk (fun S F ky hS hbef hcl hI => ?_) ?_
 obtain ⟨O, c8, f9, ga, gb, gc, gf, V, hvs⟩ := hI
 exact Xh (v := vi E.run) Xz (Vals.at 1 hvs Z (Xp 1 hbef Z)) (((bm.grown0 ai).grown0 c8).cell Z) Z (Xc ⟨O, c8, f9, ga, gb, gc, gf, V, Vals.up 2 hvs Z Z Z⟩)
 refine Xk (fun S F kz hS hbef hcl hI => ?_) ?_
 obtain ⟨O, eu, gg, gh, gi, gj, gk, V, hvs⟩ := hI
 exact Ym (c := E.run - 1) (Vals.at 2 hvs Z (Xp 2 hbef Z)) Z (by omega) (by omega) (by omega) Z (Xc ⟨O, eu, gg, gh, gi, gj, gk, V, Vals.up 3 hvs Z Z Z⟩)
 refine Xk (fun S F k0 hS hbef hcl hI => ?_) ?_
 obtain ⟨O, ew, gl, gm, gp, gq, gr, V, hvs⟩ := hI
 exact X0 Y6 (Vals.at 0 hvs Z (Xp 0 hbef Z)) (Vals.at 3 hvs Z (Xp 3 hbef Z)) ea fh (by omega) (by omega) Z (Xc ⟨O, ew, gl, gm, gp, gq, gr, V, Vals.up 4 hvs Z Z Z⟩)
 refine Xk (fun S F k4 hS hbef hcl hI => ?_) ?_
 obtain ⟨O, ez, gt, gu, gv, gw, gx, V, hvs⟩ := hI
 exact Xd (o' := dh + 5) Qi (Vals.at 4 hvs Z (Xp 4 hbef Z)) Z Z (Xc ⟨O, ez, gt, gu, gv, gw, gx, V, Vals.up 5 hvs Z Z Z⟩)
 refine Xk (fun S F k5 hS hbef hcl hI => ?_) ?_
 obtain ⟨O, c9, gy, gz, g0, g5, g6, V, hvs⟩ := hI
 exact Xh (v := .slice (mAt G (E.run - 1).toNat).sa (mAt G (E.run - 1).toNat).t.slots.length (mAt G (E.run - 1).toNat).sc) Jd (Vals.at 5 hvs Z (Xp 5 hbef Z)) ((Ye fm c9) 5 _ Z) Z (Xc ⟨O, c9, gy, gz, g0, g5, g6, V, Vals.up 6 hvs Z Z Z⟩)
 refine Xk (fun S F k6 hS hbef hcl hI => ?_) ?_
 obtain ⟨O, e0, g7, g8, d2, g9, ia, V, hvs⟩ := hI
 exact Xd (o' := 2) Ju d2 Z Z (Xc ⟨O, e0, g7, g8, d2, g9, ia, V, Vals.up 7 hvs Z Z Z⟩)
 refine Xk (fun S F k7 hS hbef hcl hI => ?_) ?_
 obtain ⟨O, da, ib, ic, ie, ig, ii, V, hvs⟩ := hI
 exact Xh (v := vi E.a) Xz (Vals.at 7 hvs Z (Xp 7 hbef Z)) (((bm.grown0 ai).grown0 da).cell Z) Z (Xc ⟨O, da, ib, ic, ie, ig, ii, V, Vals.up 8 hvs Z Z Z⟩)
 refine Xk (fun S F k8 hS hbef hcl hI => ?_) ?_
 obtain ⟨O, fa, ij, ik, il, im, io, V, hvs⟩ := hI
 exact X0 J9 (Vals.at 6 hvs Z (Xp 6 hbef Z)) (Vals.at 8 hvs Z (Xp 8 hbef Z)) eb fi (by omega) (by omega) Z (Xc ⟨O, fa, ij, ik, il, im, io, V, Vals.up 9 hvs Z Z Z⟩)
 refine Xk (fun S F k9 hS hbef hcl hI => ?_) ?_
 obtain ⟨O, db, ip, iq, ir, it, iu, V, hvs⟩ := hI
 exact Xq (vs := [vi (rAt (mAt G (E.run - 1).toNat).t.slots (E.a).toNat).th, vi (rAt (mAt G (E.run - 1).toNat).t.slots (E.a).toNat).ve, vb (rAt (mAt G (E.run - 1).toNat).t.slots (E.a).toNat).rd, vb (rAt (mAt G (E.run - 1).toNat).t.slots (E.a).toNat).wr, vb (rAt (mAt G (E.run - 1).toNat).t.slots (E.a).toNat).wk]) Yz (Vals.at 9 hvs Z (Xp 9 hbef Z)) Z (Y3 (Ye fo db) 0 5 Z) Z (Xc ⟨O, db, ip, iq, ir, it, iu, V, Vals.up 10 hvs Z Z Z⟩)
 refine Xk (fun S F la hS hbef hcl hI => ?_) ?_
 obtain ⟨O, bi, iv, iw, ix, iy, iz, V, hvs⟩ := hI
 refine Yf (cs := #[vi 0, vi 0, vb false, vb false, vb false]) K7 Z Z ?_
 intro dw lc ba
 have du := Yi ba (low0 bz bi)
 have jb : hi ≤ dw := nt (nt (Nat.le_of_eq hhi) bi.size) (Nat.le_of_eq ba.eq.symm)
 have bl := Xr ba (((bm.grown0 ai).grown0 bi)).lt
 exact Xc ⟨dw, (low0 bi ba.grw), iv, iw, ix, iy, iz, fun _ => ⟨Z, du, ba.blk, bl, (nt bi.size (Nat.le_of_eq ba.eq.symm))⟩, Vals.keep hvs Z⟩
 exact Je
 intro S F ld hall hI
 obtain ⟨O, bb, cj, cc, bv, ck, i0, V, hvs⟩ := hI
 obtain ⟨bw, jo, dg, dm, jc⟩ := V (hall 11 (by decide))
 refine Xx (vs := [vi (rAt (mAt G (E.run - 1).toNat).t.slots (E.a).toNat).th, vi (rAt (mAt G (E.run - 1).toNat).t.slots (E.a).toNat).ve, vb (rAt (mAt G (E.run - 1).toNat).t.slots (E.a).toNat).rd, vb (rAt (mAt G (E.run - 1).toNat).t.slots (E.a).toNat).wr, vb (rAt (mAt G (E.run - 1).toNat).t.slots (E.a).toNat).wk]) (cs' := #[vi (rAt (mAt G (E.run - 1).toNat).t.slots (E.a).toNat).th, vi (rAt (mAt G (E.run - 1).toNat).t.slots (E.a).toNat).ve, vb (rAt (mAt G (E.run - 1).toNat).t.slots (E.a).toNat).rd, vb (rAt (mAt G (E.run - 1).toNat).t.slots (E.a).toNat).wr, vb (rAt (mAt G (E.run - 1).toNat).t.slots (E.a).toNat).wk]) Yz bw (Vals.at 10 hvs Z (hall 10 (by decide))) Z (by simp [Value.oneCell']) dg (Nat.le_of_ble_eq_true Z) Z ?_
 intro jf an
 refine Xc (Xv (Xs (X8 (fun f' w' => (f' 2 = vb false ∧ f' 3 = .slice (pa ak) G.length ac ∧ f' 4 = pt bt 0 ∧ f' 7 = .slice ar J.length ad ∧ f' 9 = pt O 0 ∧ f' 81 = vb (((!(decide (E.kind = 8))) || (!(decide ((callDo (tabT G) E).2 = 0)))) || (!chkSees (tabT G) E.run (rAt (mAt G (E.run - 1).toNat).t.slots (E.a).toNat).th))) ∧ jf.grownBy w' none) ?_ ?_)))
 refine Xd (o' := 0) Ji bv Z Z ?_
 have d7 := (((bm.grown0 ai).grown0 bb).gn an.grw)
 refine Xh (v := vi E.kind) Xz Z (d7.cell Z) Z (Qj (q := !(decide (E.kind = 8))) Z Z Z Z (Xb (v := vb (!(decide (E.kind = 8)))) Z Z ?_))
 rcases Yb (!(decide (E.kind = 8))) with ag | ag
 have cl := Jm ag
 have kf := of_decide_eq_false cl
 refine Xi Z Z Z ag Z (Xi Z Z Z ag Z (Xo (v := vb true) Z ag Z Z (Xb (v := vb true) Z Z ?_)))
 iterate 7 refine Xi rfl rfl rfl rfl rfl ?_
 exact Xo (v := vb true) Z Z Z Z (Xc ⟨⟨cj, cc, bv, ck, bw, (congrArg Value.bool (by first | (simp only [az, a8, ae, ag, cl, al, au, aj, b0, b1, b2, b3, b4, b5, b6, b7, b8, b9]; done) | simp [az, a8, ae, ag, cl, al, au, aj]))⟩, (World.grownBy.refl _ _)⟩)
 have bx := Qu ag
 have kg := of_decide_eq_true bx
 refine Xe Z Z Z ag (Xb (v := vi (callDo (tabT G) E).2) i0 Z (Xe Z Z Z ag (Qj (q := !(decide ((callDo (tabT G) E).2 = 0))) Z Z Z Z (Xn (v := vb (!(decide ((callDo (tabT G) E).2 = 0)))) Z ag Z Z (Xb (v := vb (!(decide ((callDo (tabT G) E).2 = 0)))) Z Z ?_)))))
 rcases Yb (!(decide ((callDo (tabT G) E).2 = 0))) with af | af
 have cm := Jm af
 have kh := of_decide_eq_false cm
 iterate 7 refine Xi rfl rfl rfl af rfl ?_
 exact Xo (v := vb true) Z af Z Z (Xc ⟨⟨cj, cc, bv, ck, bw, (congrArg Value.bool (by first | (simp only [az, a8, ae, ag, bx, af, cm, al, au, aj, b0, b1, b2, b3, b4, b5, b6, b7, b8, b9]; done) | simp [az, a8, ae, ag, bx, af, cm, al, au, aj]))⟩, (World.grownBy.refl _ _)⟩)
 have cn := Qu af
 have ki := of_decide_eq_true cn
 refine Xe Z Z Z af (Xb (v := .slice (pa ak) G.length ac) cc Z (Xe Z Z Z af (Xd (o' := 1) Y9 bv Z Z (Xe Z Z Z af (Xh (v := vi E.run) Xz Z (d7.cell Z) Z (Xe Z Z Z af (Xd (o' := 0) Yl bw Z Z (Xe Z Z Z af (Xh (v := vi (rAt (mAt G (E.run - 1).toNat).t.slots (E.a).toNat).th) Xz Z (an.blk.cell Z) Z (Xe Z Z Z af (Xm T9 (Xg Z (Xg Z (Xg Z Xl))) Z (W4 E.run (rAt (mAt G (E.run - 1).toNat).t.slots (E.a).toNat).th (by omega) _ G _ _ (TabG.at (TabG.ge (TabG.low a9 bb) an.grw cw (by omega))) aq (by omega)) ?_)))))))))))
 rintro _ le ⟨rfl, em⟩
 exact Xe Z Z Z af (Yj (b' := !chkSees (tabT G) E.run (rAt (mAt G (E.run - 1).toNat).t.slots (E.a).toNat).th) Z Z Z (Xn (v := vb (!chkSees (tabT G) E.run (rAt (mAt G (E.run - 1).toNat).t.slots (E.a).toNat).th)) Z af Z Z (Xc ⟨⟨cj, cc, bv, ck, bw, (congrArg Value.bool (by first | (simp only [az, a8, ae, ag, bx, af, cn, al, au, aj, b0, b1, b2, b3, b4, b5, b6, b7, b8, b9]; done) | simp [az, a8, ae, ag, bx, af, cn, al, au, aj]))⟩, em⟩)))
 rintro ka lf ⟨⟨j9, i1, i2, d3, d4, i3⟩, bg⟩
 have ca := low0 (low1 (low0 bz bb) an.grw (by omega)) bg
 refine X2 i3 (fun co => ?_) (fun co => ?_)
 refine Xa (Xf (v := vb true) Z Z (Xc (Xt (Yo (⟨vb true, Yx Z Z, ?_, ca⟩)))))
 rfl
 have d5 := J3 co
 have i4 := J3 d5
 have ct := Qu i4
 have kj := of_decide_eq_true ct
 have i5 := J4 d5
 have cv := Qu i5
 have kk := of_decide_eq_true cv
 have i6 := J4 co
 have i7 := Qu i6
 refine Xy (Xv (Xa (Xb (v := .slice ar J.length ad) d3 Z ?_)))
 have d8 := ((((bm.grown0 ai).grown0 bb).gn an.grw).grown0 bg)
 refine Xq (vs := [vi E.kind, vi E.run, vi E.a, vi E.b, vi E.n]) Y1 i2 Z (d8.rangeL 0 5 Z) Z ?_
 have ce := (TabG.low (TabG.ge (TabG.low cd bb) an.grw d6 (by omega)) bg)
 have ju := (d8).lt
 have df := (an.blk.grown0 bg)
 have jv := (df).lt
 refine Xm Ks (Xg Z (Xg Z Xl)) Z (Jq E _ J _ _ (TabG.at ce) bd (by omega) (ErrT.grown0 hE ca)) ?_
 rintro _ d9 ⟨dl, bn, bk, rfl, dp, br, bh⟩
 obtain ⟨lh, ja⟩ : ∃ n, n = d9.heap.size := ⟨_, rfl⟩
 have i9 := TabG.hi dp
 rw [← ja] at i9
 have ji := Qn br
 have j4 := Y8 br
 have eg := (Yd ae).2.1
 have dc : callPoss (tabT J) E = true := Vp ap ae eg rfl
 have j5 : bk.length = J.length := Qm br dc
 have jh : (mAt bk (E.run - 1).toNat).t.slots.length = 4 := Kr (q := E) br dc
 have dv := D3 ae (of_decide_eq_true ct) (of_decide_eq_true cv)
 have jy := Xa9 ae dv
 obtain ⟨eh, ei⟩ := P0 ap ae (of_decide_eq_true ct) (of_decide_eq_true cv) i7
 have ab : (decide ((callDo (tabT J) E).2 = (-3))) = true := decide_eq_true eh
 have fg : (decide ((mAt J ((rAt (mAt G (E.run - 1).toNat).t.slots (E.a).toNat).th - 1).toNat).t.ve = (mAt G ((rAt (mAt G (E.run - 1).toNat).t.slots (E.a).toNat).th - 1).toNat).t.ve + 1)) = true := decide_eq_true ei
 refine Xb (v := .tuple #[.slice dl bk.length bn, vi (callDo (tabT J) E).2]) Z Z (X1 (v := .slice dl bk.length bn) Z Z Z (X1 (v := vi (callDo (tabT J) E).2) Z Z Z (Xf (v := .slice dl bk.length bn) Z Z (Xf (v := vi (callDo (tabT J) E).2) Z Z (Xc (Xs ?_))))))
 have dq := (TabG.low ce bh)
 obtain ⟨dy, kn, di, ed, fj, fp⟩ := SlAt.at (TabG.at dq).1 (Yk (xg J ((rAt (mAt G (E.run - 1).toNat).t.slots (E.a).toNat).th - 1).toNat))
 have jq := TabLen.at bd (xg J ((rAt (mAt G (E.run - 1).toNat).t.slots (E.a).toNat).th - 1).toNat)
 have dr := (TabG.low (TabG.low (TabG.ge (TabG.low a9 bb) an.grw cw (by omega)) bg) bh)
 obtain ⟨dz, ko, dk, ee, fk, fq⟩ := SlAt.at (TabG.at dr).1 (Yk (xg G ((rAt (mAt G (E.run - 1).toNat).t.slots (E.a).toNat).th - 1).toNat))
 have jr := TabLen.at aq (xg G ((rAt (mAt G (E.run - 1).toNat).t.slots (E.a).toNat).th - 1).toNat)
 refine Yt (m := 18) (vals := [(88, vi (callDo (tabT J) E).2), (89, vb (decide ((callDo (tabT J) E).2 = (-3)))), (90, vb (decide ((callDo (tabT J) E).2 = (-3)))), (91, .slice ar J.length ad), (92, pt O 0), (93, vi (rAt (mAt G (E.run - 1).toNat).t.slots (E.a).toNat).th), (94, vi ((rAt (mAt G (E.run - 1).toNat).t.slots (E.a).toNat).th - 1)), (95, pt dy di), (96, pt dy (di + 3)), (97, vi (mAt J ((rAt (mAt G (E.run - 1).toNat).t.slots (E.a).toNat).th - 1).toNat).t.ve), (98, .slice (pa ak) G.length ac), (99, pt O 0), (100, vi (rAt (mAt G (E.run - 1).toNat).t.slots (E.a).toNat).th), (101, vi ((rAt (mAt G (E.run - 1).toNat).t.slots (E.a).toNat).th - 1)), (102, pt dz dk), (103, pt dz (dk + 3)), (104, vi (mAt G ((rAt (mAt G (E.run - 1).toNat).t.slots (E.a).toNat).th - 1).toNat).t.ve), (105, vi ((mAt G ((rAt (mAt G (E.run - 1).toNat).t.slots (E.a).toNat).th - 1).toNat).t.ve + 1))]) (fun w' => d9.grownBy w' none) Y0 (by kernel_rfl) (X7 _) ?_ ?_
 refine yl Z (fun _ _ k => Xb (v := vi (callDo (tabT J) E).2) Z Z k) (yl Z (fun _ _ k => X3 (q := decide ((callDo (tabT J) E).2 = (-3))) Z Z Z Z k) (yl Z (fun _ _ k => Xb (v := vb (decide ((callDo (tabT J) E).2 = (-3)))) Z Z k) (yl Z (fun _ _ k => Xe Z Z Z ab (Xb (v := .slice ar J.length ad) d3 Z k)) (yl Z (fun _ _ k => Xe Z Z Z ab (Xd (o' := 0) Yl d4 Z Z k)) (yl Z (fun _ fb k => Xe Z Z Z ab (Xh (v := vi (rAt (mAt G (E.run - 1).toNat).t.slots (E.a).toNat).th) Xz Z (((df.grown0 bh).grown0 fb).cell Z) Z k)) (yl Z (fun _ _ k => Xe Z Z Z ab (Ym (c := (rAt (mAt G (E.run - 1).toNat).t.slots (E.a).toNat).th - 1) Z Z (by omega) (by omega) (by omega) Z k)) (yl Z (fun _ _ k => Xe Z Z Z ab (X0 Y6 Z Z ed fj (by omega) (by omega) Z k)) (yl Z (fun _ _ k => Xe Z Z Z ab (Xd (o' := di + 3) Jj Z Z Z k)) (yl Z (fun _ fc k => Xe Z Z Z ab (Xh (v := vi (mAt J ((rAt (mAt G (E.run - 1).toNat).t.slots (E.a).toNat).th - 1).toNat).t.ve) Xz Z ((Ye fp fc) 3 _ Z) Z k)) (yl Z (fun _ _ k => Xe Z Z Z ab (Xb (v := .slice (pa ak) G.length ac) i1 Z k)) ?_))))))))))
 exact yl Z (fun _ _ k => Xe Z Z Z ab (Xd (o' := 0) Yl d4 Z Z k)) (yl Z (fun _ fd k => Xe Z Z Z ab (Xh (v := vi (rAt (mAt G (E.run - 1).toNat).t.slots (E.a).toNat).th) Xz Z (((df.grown0 bh).grown0 fd).cell Z) Z k)) (yl Z (fun _ _ k => Xe Z Z Z ab (Ym (c := (rAt (mAt G (E.run - 1).toNat).t.slots (E.a).toNat).th - 1) Z Z (by omega) (by omega) (by omega) Z k)) (yl Z (fun _ _ k => Xe Z Z Z ab (X0 Y6 Z Z ee fk (by omega) (by omega) Z k)) (yl Z (fun _ _ k => Xe Z Z Z ab (Xd (o' := dk + 3) Jj Z Z Z k)) (yl Z (fun _ fe k => Xe Z Z Z ab (Xh (v := vi (mAt G ((rAt (mAt G (E.run - 1).toNat).t.slots (E.a).toNat).th - 1).toNat).t.ve) Xz Z ((Ye fq fe) 3 _ Z) Z k)) (yl Z (fun _ _ k => Xe Z Z Z ab (Yv (c := (mAt G ((rAt (mAt G (E.run - 1).toNat).t.slots (E.a).toNat).th - 1).toNat).t.ve + 1) Z Z (by omega) (by omega) (by omega) Z k)) Y2))))))
 intro lg ff
 refine Xe Z Z Z ab (X3 (q := decide ((mAt J ((rAt (mAt G (E.run - 1).toNat).t.slots (E.a).toNat).th - 1).toNat).t.ve = (mAt G ((rAt (mAt G (E.run - 1).toNat).t.slots (E.a).toNat).th - 1).toNat).t.ve + 1)) Z Z Z Z (Xo (v := vb (decide ((mAt J ((rAt (mAt G (E.run - 1).toNat).t.slots (E.a).toNat).th - 1).toNat).t.ve = (mAt G ((rAt (mAt G (E.run - 1).toNat).t.slots (E.a).toNat).th - 1).toNat).t.ve + 1))) Z ab Z Z (Xf (v := vb (decide ((mAt J ((rAt (mAt G (E.run - 1).toNat).t.slots (E.a).toNat).th - 1).toNat).t.ve = (mAt G ((rAt (mAt G (E.run - 1).toNat).t.slots (E.a).toNat).th - 1).toNat).t.ve + 1))) Z Z (Xc (Xv (Xt (⟨vb (decide ((mAt J ((rAt (mAt G (E.run - 1).toNat).t.slots (E.a).toNat).th - 1).toNat).t.ve = (mAt G ((rAt (mAt G (E.run - 1).toNat).t.slots (E.a).toNat).th - 1).toNat).t.ve + 1)), Yx Z Z, ?_, (low0 (low0 ca bh) ff)⟩)))))))
 exact congrArg Value.bool fg
end Go.Proofs.YtlhhijnmacogcaaGreatDoor
end
