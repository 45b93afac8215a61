/- Laws and walks: my templates, and what a program of mine (gen.py) printed out of the functions; only what the row reaches. -/
import Derived.Test.YtlhhijnmacogcaaGreatDoorT45
section
namespace Go.Dw
set_option linter.unusedVariables false
set_option linter.unusedSimpArgs false
section
variable {ts : List Th} {q : Cl}
theorem P0 (hp : callPoss ts q = true) (h : 0 ≤ doAns ts q) : check1 ts q = 0 := by
  have hr := Kh ts q
  by_cases h0 : check1 ts q < 0
  · have := (U0 h0).1
    omega
  · omega
theorem Z3 (hp : callPoss ts q = true) (h0 : check1 ts q = 0) (h3 : ¬ q.kind = 3) : (1 ≤ (slotAt ts q.run q.a).th ∧ (slotAt ts q.run q.a).th ≤ (ts.length : Int)) ∧ kindFor q.kind (thAt ts (slotAt ts q.run q.a).th).kind = true ∧ (need0 q.kind = true → sees ts q.run (slotAt ts q.run q.a).th = true) := by
  have e := Jn hp
  have h := Tx (ts := ts) (q := q) (by omega) h3
  exact ⟨h.1, h.2.1, (Mz (ts := ts) (q := q) (by omega) (by omega) h3).1⟩
theorem Vl (hp : callPoss ts q = true) (h0 : check1 ts q = 0) (h3 : ¬ q.kind = 3) : FarOk ts q (slotAt ts q.run q.a) := by
  have h := Z3 hp h0 h3
  obtain ⟨hT, hc, hr⟩ := Yw hp
  exact ⟨hT, hc, hr, h.1, h.2.1, h3⟩
theorem Xca (hp : callPoss ts q = true) {j : Int} (hj : 1 ≤ j) (hne : ¬ j = q.run) : thAt (doCall ts q).1 j = thAt (doPre ts q) j := by
  rw [Vp]
  unfold setNum
  rw [Jf (Xbx hp) j hj, if_neg hne]
theorem Xaq (hp : callPoss ts q = true) (h0 : check1 ts q = 0) (h3 : ¬ q.kind = 3) : ¬ (slotAt ts q.run q.a).th = q.run := fun e => by
  have h := Z3 hp h0 h3
  have hr := (Qr (Yw hp).2.2).2
  have hc := Yx (Yw hp).2.1
  have hk := Q2 h.2.1 hc.1
  rw [e, hr] at hk
  omega
theorem Iq (hp : callPoss ts q = true) : callPoss (doCall ts q).1 q = true := by
  obtain ⟨hT, hc, hr⟩ := Yw hp
  have h := V1 hp
  have hr := Qr hr
  unfold callPoss
  rw [h.1, hc, Ul (by rw [h.2.1]; exact hr.1) ((h.2.2 _ hr.1.1).trans hr.2)]
  rfl
def Kept (n : Int) (a b : Th) : Prop := (a.kind = 1 → b.num = a.num ∨ b.num = 0 ∨ b.num = n ∨ b.num = n % 2) ∧ ∀ v ∈ b.queue, v = n ∨ v ∈ a.queue
theorem Kept.refl (n : Int) (a : Th) : Kept n a a := ⟨fun _ => Or.inl rfl, fun _ h => Or.inr h⟩
section
variable {ms xs : List MTh}
theorem Sf (hp : callPoss (tabT ms) q = true) : (callDo (tabT ms) q).2 = doAns (tabT ms) q := by rw [Kb hp, P8]
theorem Sj (ht : tabT xs = (callDo (tabT ms) q).1) (hp : callPoss (tabT ms) q = true) : (mAt xs (q.run - 1).toNat).t.slots.length = 4 := by
  have h := Iq hp
  have h2 := (Yw h)
  rw [← Kb hp, ← ht] at h2
  exact Qt h2.1 h2.2.2
theorem Rr (hp : callPoss (tabT ms) q = true) : tabLive (tabT ms) (rAt (mAt ms (q.run - 1).toNat).t.slots q.a.toNat) = live (tabT ms) (slotAt (tabT ms) q.run q.a) := by
  obtain ⟨hT, hc, hr⟩ := Yw hp
  rw [Je, S1 hT hr]
end
end
end Go.Dw
end
section
namespace Go.Dw
set_option linter.unusedVariables false
set_option linter.unusedSimpArgs false
section
variable {ts us : List Th} {q p : Cl}
theorem Q6 {k n : Int} (hk : 1 ≤ k ∧ k ≤ (ts.length : Int)) (j : Int) (hj : 1 ≤ j) : thAt (setNum ts k n) j = if j = k then { thAt ts k with num := n } else thAt ts j := by
  unfold setNum
  exact Jf hk j hj
theorem Wl (hp : callPoss ts q = true) (h8 : q.kind = 8) (ha : doAns ts q = 0) : (1 ≤ (slotAt ts q.run q.a).th ∧ (slotAt ts q.run q.a).th ≤ (ts.length : Int)) ∧ check1 ts q = 0 ∧
    ((live ts (slotAt ts q.run q.a) = false ∨ (thAt ts (slotAt ts q.run q.a).th).ve = 5) → thAt (doCall ts q).1 (slotAt ts q.run q.a).th = thAt ts (slotAt ts q.run q.a).th) ∧
    ((sees ts q.run (slotAt ts q.run q.a).th = true ∨ (live ts (slotAt ts q.run q.a) = true ∧ ¬ (thAt ts (slotAt ts q.run q.a).th).ve = 5)) → (doCall ts q).1 = setNum (setTh ts (slotAt ts q.run q.a).th (renewed (thAt ts (slotAt ts q.run q.a).th))) q.run 0) := by
  have h3 : ¬ q.kind = 3 := by omega
  have h0 := P0 hp (by omega)
  have hF := Vl hp h0 h3
  have hne := Xaq hp h0 h3
  have hrow := Vh hF.tab hF.th
  have hkd := (Q2 hF.kind (Yx hF.call).1).2.2.2.2.2.2.1 h8
  have hv := (Qp hrow.1).2.2.1
  unfold versOk at hv
  rw [if_pos hkd] at hv
  have hv := Qi.1 hv
  have e := Jn hp
  have hf : far ts q (slotAt ts q.run q.a) = if (thAt ts (slotAt ts q.run q.a).th).ve < 5 then (setTh ts (slotAt ts q.run q.a).th (renewed (thAt ts (slotAt ts q.run q.a).th)), 0) else (ts, -4) := by
    unfold far
    rw [if_neg (by omega), if_neg (by omega), if_neg (by omega), if_neg (by omega), if_neg (by omega), if_neg (by omega), if_pos h8]
  refine ⟨hF.th, h0, fun h => ?_, fun h => ?_⟩
  · rw [Xca hp hF.th.1 hne]
    cases hl : live ts (slotAt ts q.run q.a) with
    | false => rw [(Gi h0 h3 hl).2]
    | true =>
      have h5 : (thAt ts (slotAt ts q.run q.a).th).ve = 5 := h.resolve_left (by rw [hl]; decide)
      rw [(Ua rfl h0 h3 hl hF).2, hf, if_neg (by omega)]
  · have hl : live ts (slotAt ts q.run q.a) = true := by
      rcases h with h | h
      · exact M0 (by omega) h3 h
      · exact h.1
    have hx := Ua rfl h0 h3 hl hF
    have hlt : (thAt ts (slotAt ts q.run q.a).th).ve < 5 := by
      rcases h with h | h
      · rw [ha, if_pos h, hf] at hx
        by_cases hv : (thAt ts (slotAt ts q.run q.a).th).ve < 5
        · exact hv
        · rw [if_neg hv] at hx
          exact absurd (show (0 : Int) = -4 from hx.1) (by decide)
      · omega
    rw [Vp, ha, hx.2, hf, if_pos hlt]
theorem Sw (hp : callPoss ts q = true) (h8 : q.kind = 8) (ha : doAns ts q = 0) (hl : live ts (slotAt ts q.run q.a) = true) (hv : ¬ (thAt ts (slotAt ts q.run q.a).th).ve = 5) :
    thAt (doCall ts q).1 (slotAt ts q.run q.a).th = renewed (thAt ts (slotAt ts q.run q.a).th) ∧ ∀ i : Int, 1 ≤ i → ∀ x ∈ (thAt (doCall ts q).1 i).slots, x.th = (slotAt ts q.run q.a).th → live (doCall ts q).1 x = false := by
  have h3 : ¬ q.kind = 3 := by omega
  obtain ⟨hth, h0, _, hx⟩ := Wl hp h8 ha
  have hx := hx (Or.inr ⟨hl, hv⟩)
  have hne := Xaq hp h0 h3
  obtain ⟨hT, hc, hr⟩ := Yw hp
  have hrun := Qr hr
  have l1 : ((setTh ts (slotAt ts q.run q.a).th (renewed (thAt ts (slotAt ts q.run q.a).th))).length : Int) = ts.length := by rw [Qu]
  have et : thAt (doCall ts q).1 (slotAt ts q.run q.a).th = renewed (thAt ts (slotAt ts q.run q.a).th) := by
    rw [hx, Q6 (by omega) _ hth.1, if_neg hne, Jf hth _ hth.1, if_pos rfl]
  refine ⟨et, fun i hi x hxm e => ?_⟩
  have hold : ∀ j : Int, 1 ≤ j → x ∈ (thAt ts j).slots → live (doCall ts q).1 x = false := fun j hj hm => by
    have hjl : j ≤ (ts.length : Int) := by
      by_cases hjl : j ≤ (ts.length : Int)
      · exact hjl
      · exfalso
        have : thAt ts j = Th.zero := by
          unfold thAt
          rw [List.getD_eq_getElem?_getD, List.getElem?_eq_none (by omega)]
          rfl
        rw [this] at hm
        cases hm
    have h2 := (Vh hT ⟨hj, hjl⟩).2.2 x hm
    unfold rightTo at h2
    simp only [Bool.or_eq_true, Bool.and_eq_true, decide_eq_true_eq] at h2
    rcases h2 with h2 | h2
    · omega
    unfold live
    rw [e, et, decide_eq_false, Bool.and_false]
    show ¬ (thAt ts (slotAt ts q.run q.a).th).ve + 1 = x.ve
    have := h2.2
    rw [e] at this
    omega
  rw [hx, Q6 (by omega) i hi] at hxm
  by_cases e1 : i = q.run
  · rw [if_pos e1] at hxm
    change x ∈ (thAt (setTh ts _ _) q.run).slots at hxm
    rw [Jf hth _ hrun.1.1, if_neg (Ne.symm hne)] at hxm
    exact hold _ hrun.1.1 hxm
  · rw [if_neg e1, Jf hth i hi] at hxm
    by_cases e2 : i = (slotAt ts q.run q.a).th
    · rw [if_pos e2] at hxm
      have : x = Rt.zero := by
        unfold renewed newTh at hxm
        simp only at hxm
        split at hxm
        · simp [zeros4] at hxm; exact hxm
        · cases hxm
      rw [this] at e
      exact absurd (e ▸ hth.1) (by decide)
    · rw [if_neg e2] at hxm
      exact hold _ hi hxm
end
end Go.Dw
end
section
namespace Go.Dw
set_option linter.unusedVariables false
set_option linter.unusedSimpArgs false
section
variable {ts : List Th} {q p : Cl}
theorem My {r : Rt} (hr : slotAt ts q.run q.a = r) (h0 : ¬ r.th = 0) (hk : kindFor q.kind (thAt ts r.th).kind = true) (hrd : r.rd = true) (hwr : r.wr = true) (hs : sees ts q.run r.th = true) (ht : touches ts q.run r.th = true) (hl : live ts r = true) : check1 ts q = 0 := by
  unfold check1 chk1 chk2 chk3
  rw [hr, hk, hrd, hwr, hs, ht, hl, decide_eq_false h0]
  simp
structure Free (us : List Th) (run a : Int) (r : Rt) (kd : Int) : Prop where
  slot : slotAt us run a = r
  nz : ¬ r.th = 0
  kind : (thAt us r.th).kind = kd
  rd : r.rd = true
  wr : r.wr = true
  sees : sees us run r.th = true
  touches : touches us run r.th = true
  live : live us r = true
theorem Free.check {us : List Th} {run a kd : Int} {r : Rt} (h : Free us run a r kd) (hr : p.run = run) (ha : p.a = a) (hk : kindFor p.kind kd = true) : check1 us p = 0 :=
  My (r := r) (by rw [hr, ha]; exact h.slot) h.nz (by rw [h.kind]; exact hk) h.rd h.wr (by rw [hr]; exact h.sees) (by rw [hr]; exact h.touches) h.live
theorem Free.far {us : List Th} {a kd : Int} {r : Rt} (hp : callPoss us p = true) (h : Free us p.run a r kd) (ha : p.a = a) (hk : kindFor p.kind kd = true) (h3 : ¬ p.kind = 3) : FarOk us p r ∧ doAns us p = (Go.Dw.far us p r).2 ∧ (doCall us p).1 = setNum (Go.Dw.far us p r).1 p.run (Go.Dw.far us p r).2 := by
  have h0 := h.check rfl ha hk
  have hs : slotAt us p.run p.a = r := by rw [ha]; exact h.slot
  have hF := Vl hp h0 h3
  rw [hs] at hF
  have hx := Ua hs h0 h3 h.live hF
  rw [if_pos h.sees] at hx
  exact ⟨hF, hx.1, by rw [Vp, hx.1, hx.2]⟩
end
section
variable {ms xs ys zs us : List MTh} {q p s t : Cl}
theorem Uz (ht : tabT xs = (callDo (tabT ms) q).1) (hp : callPoss (tabT ms) q = true) : tabT xs = (doCall (tabT ms) q).1 := by rw [ht, Kb hp]
theorem Rx (hp : callPoss (tabT ms) q = true) (h8 : q.kind = 8) (ha : (callDo (tabT ms) q).2 = 0) : (1 ≤ (rAt (mAt ms (q.run - 1).toNat).t.slots q.a.toNat).th ∧ (rAt (mAt ms (q.run - 1).toNat).t.slots q.a.toNat).th ≤ (ms.length : Int)) := by
  rw [Sf hp] at ha
  have hc := (Wl hp h8 ha).1
  rwa [Y5, ← Je] at hc
theorem Ma (ht : tabT xs = (callDo (tabT ms) q).1) (hp : callPoss (tabT ms) q = true) (h8 : q.kind = 8) (ha : (callDo (tabT ms) q).2 = 0) (h : ((!(tabLive (tabT ms) (rAt (mAt ms (q.run - 1).toNat).t.slots q.a.toNat))) || (decide ((mAt ms ((rAt (mAt ms (q.run - 1).toNat).t.slots q.a.toNat).th - 1).toNat).t.ve = 5))) = true) : (mAt xs ((rAt (mAt ms (q.run - 1).toNat).t.slots q.a.toNat).th - 1).toNat).t = (mAt ms ((rAt (mAt ms (q.run - 1).toNat).t.slots q.a.toNat).th - 1).toNat).t := by
  rw [Sf hp] at ha
  rw [Rr hp, Je, Qk ms] at h
  simp only [Bool.or_eq_true, Bool.not_eq_true', decide_eq_true_eq] at h
  rw [Je, Qk xs, Qk ms, Uz ht hp]
  exact (Wl hp h8 ha).2.2.1 h
theorem T9 (ht : tabT xs = (callDo (tabT ms) q).1) (hp : callPoss (tabT ms) q = true) (h8 : q.kind = 8) (ha : (callDo (tabT ms) q).2 = 0) (h : ((!(tabLive (tabT ms) (rAt (mAt ms (q.run - 1).toNat).t.slots q.a.toNat))) || (decide ((mAt ms ((rAt (mAt ms (q.run - 1).toNat).t.slots q.a.toNat).th - 1).toNat).t.ve = 5))) = false) :
    (mAt xs ((rAt (mAt ms (q.run - 1).toNat).t.slots q.a.toNat).th - 1).toNat).t = renewed (mAt ms ((rAt (mAt ms (q.run - 1).toNat).t.slots q.a.toNat).th - 1).toNat).t ∧ ∀ (k j : Nat), j < (mAt xs k).t.slots.length → (rAt (mAt xs k).t.slots j).th = (rAt (mAt ms (q.run - 1).toNat).t.slots q.a.toNat).th → tabLive (tabT xs) (rAt (mAt xs k).t.slots j) = false := by
  rw [Sf hp] at ha
  rw [Rr hp, Je, Qk ms] at h
  simp only [Bool.or_eq_false_iff, Bool.not_eq_false', decide_eq_false_iff_not] at h
  have hd := Sw hp h8 ha h.1 h.2
  rw [Je, Qk xs, Qk ms, Uz ht hp]
  refine ⟨hd.1, fun k j hj e => ?_⟩
  have hm := List.mem_of_getElem? (Vg hj)
  have hk : (mAt xs k).t = thAt (doCall (tabT ms) q).1 ((k : Int) + 1) := by rw [Ze, Uz ht hp]
  rw [hk] at hm e ⊢
  unfold tabLive
  rw [hd.2 _ (by omega) _ hm e, Bool.and_false]
theorem Xdv (hp : callPoss (tabT ms) q = true) {k : Int} (hk : 1 ≤ k ∧ k ≤ (ms.length : Int)) : 0 ≤ (mAt ms (k - 1).toNat).t.ve ∧ (mAt ms (k - 1).toNat).t.ve ≤ 5 := by
  rw [Qk]
  have hv := (Qp (Vh (Yw hp).1 (k := k) (by rw [Y5]; exact hk)).1).2.2.1
  unfold versOk at hv
  split at hv
  · exact Qi.1 hv
  · have := of_decide_eq_true hv
    omega
theorem Zk {k y : Int} (h : ((!(decide (k = 8))) || (!(decide (y = 0)))) = false) : k = 8 ∧ y = 0 := by
  rw [Bool.or_eq_false_iff, Bool.not_eq_false', Bool.not_eq_false'] at h
  exact ⟨of_decide_eq_true h.1, of_decide_eq_true h.2⟩
theorem Iv (hp : callPoss (tabT ms) q = true) (h8 : q.kind = 8) (ha : (callDo (tabT ms) q).2 = 0) : ((mAt ms ((rAt (mAt ms (q.run - 1).toNat).t.slots q.a.toNat).th - 1).toNat).t.kind = 1 ∨ (mAt ms ((rAt (mAt ms (q.run - 1).toNat).t.slots q.a.toNat).th - 1).toNat).t.kind = 2 ∨ (mAt ms ((rAt (mAt ms (q.run - 1).toNat).t.slots q.a.toNat).th - 1).toNat).t.kind = 4) ∧ (mAt ms ((rAt (mAt ms (q.run - 1).toNat).t.slots q.a.toNat).th - 1).toNat).t.to = 0 ∧
    newOk (mAt ms ((rAt (mAt ms (q.run - 1).toNat).t.slots q.a.toNat).th - 1).toNat).t.kind (mAt ms ((rAt (mAt ms (q.run - 1).toNat).t.slots q.a.toNat).th - 1).toNat).t.lab 0 = true := by
  have hri := Rx hp h8 ha
  rw [Sf hp] at ha
  rw [Je] at hri ⊢
  rw [Qk]
  have hF := Vl hp (P0 hp (by omega)) (by omega)
  have hrow := Vh hF.tab hF.th
  have hkd := (Q2 hF.kind (Yx hF.call).1).2.2.2.2.2.2.1 h8
  have h7 := (Qp hrow.1).2.2.2.2.2.2
  unfold targetOk at h7
  rw [if_neg (by omega)] at h7
  have h7 := of_decide_eq_true h7
  have hn := Pd hrow.1 hkd
  rw [h7] at hn
  exact ⟨hkd, h7, hn⟩
theorem Nc {o : Th} (hk : o.kind = 1 ∨ o.kind = 2 ∨ o.kind = 4) (ht : o.to = 0) : (((decide (o.kind = 2)) || (decide (o.kind = 3))) = true → renewed o = ⟨o.kind, o.lab, o.ve + 1, 0, zeros4, [], 0⟩) ∧ (((decide (o.kind = 2)) || (decide (o.kind = 3))) = false → renewed o = ⟨o.kind, o.lab, o.ve + 1, 0, [], [], 0⟩) := by
  unfold renewed newTh has4
  refine ⟨fun h => ?_, fun h => ?_⟩
  · simp only [Bool.or_eq_true, decide_eq_true_eq] at h
    rw [ht]
    simp [h]
  · simp only [Bool.or_eq_false_iff, decide_eq_false_iff_not] at h
    rw [ht]
    simp [h.1, h.2]
end
end Go.Dw
end
section
namespace Go.Proofs.YtlhhijnmacogcaaGreatDoor
open Go.RowKit Go.Dw
set_option maxRecDepth 100000
set_option maxHeartbeats 4000000
set_option linter.unusedSimpArgs false
set_option linter.unusedVariables false
theorem Rc : goFn Tryz.prog 15 = true := by kernel_rfl
theorem Rd : goFn Tryz.prog 16 = true := by kernel_rfl
theorem Hh : goFn Tryz.prog 17 = true := by kernel_rfl
theorem W5 : goFn Tryz.prog 18 = true := by kernel_rfl
theorem Rf : goFn Tryz.prog 19 = true := by kernel_rfl
theorem F6 : goFn Tryz.prog 20 = true := by kernel_rfl
theorem law_FnDoRenew (bs : List Int) (a : Option Addr) (c : Nat) (w : World) (z6 : SlAt w a 1 (bs.map bcell)) (hb : ∀ b ∈ bs, 0 ≤ b ∧ b ≤ 255) (hn : bs.length ≤ 9223372036854775807) (hc : bs.length ≤ c) (hE : ErrT w) : CallsR Tryz.prog 13 #[.slice a bs.length c] w (fun v w' => v = .bool true ∧ w.grownBy w' none) := by
 refine Xx (n := 177) Tryz.func13 Z Tryz.ntmps13 Z ?_
 have se := World.grownBy.refl w none
 have hs := SlAt.lt Wr (by omega) z6
 refine Xa (Xe (v := vb false) Z Z (Xb (Xq (Xa (Xd (v := .slice a bs.length c) Z Z (Y1 (by kernel_rfl) Z Z (Jm (q := decide (1048576 < (bs.length : Int))) Z Z Z Z (Xb (X0 Z (fun bb => ?_) (fun bb => ?_))))))))))
 have D0 := of_decide_eq_true bb
 refine Xa (Xe (v := vb true) Z Z (Xb (Xt (Yk (⟨vb true, Yt Z Z, ?_, se⟩)))))
 rfl
 have D1 := of_decide_eq_false bb
 refine Xz (Xu (Xa (Xd (v := .slice a bs.length c) Z Z (Xn Rc (Xf Z Xm) Z (Uv bs a c _ (SlAt.low z6 se) hb (by omega) (by omega)) ?_))))
 rintro _ Ef ⟨ao, ai, G, E, rfl, d0, la, Ak, B3, sh⟩
 have j3 := low0 se sh
 have bq := la.len
 refine Xd (v := .tuple #[.slice (pa ao) G.length ai, .agg #[vi E.kind, vi E.run, vi E.a, vi E.b, vi E.n]]) Z Z (Ye (v := .slice (pa ao) G.length ai) Z Z Z (Ye (v := .agg #[vi E.kind, vi E.run, vi E.a, vi E.b, vi E.n]) Z Z Z (Yf (cs := #[vi 0, vi 0, vi 0, vi 0, vi 0]) Ho Z Z ?_)))
 intro dw Eg br
 have An := Yd br j3
 refine Xe (v := .slice (pa ao) G.length ai) Z Z (Xy (vs := [vi E.kind, vi E.run, vi E.a, vi E.b, vi E.n]) (cs' := #[vi E.kind, vi E.run, vi E.a, vi E.b, vi E.n]) Y6 Z Z Z (by simp [Value.oneCell']) br.blk (Nat.le_of_ble_eq_true Z) Z ?_)
 intro i2 co
 refine Xb (Xa (Xd (v := .slice (pa ao) G.length ai) Z Z (Xr (vs := [vi E.kind, vi E.run, vi E.a, vi E.b, vi E.n]) Y6 Z Z (co.blk.rangeL 0 5 Z) Z ?_)))
 have Au := (co.blk).lt
 refine Xn Rd (Xf Z (Xf Z Xm)) Z (G7 E _ G _ _ (TabG.at (TabG.low d0 (low1 br.grw co.grw (nt ((World.grownBy.refl _ none)).size (Nat.le_of_eq br.eq.symm))))) bq (by omega)) ?_
 rintro _ i3 ⟨de, df, bt, rfl, k6, ej, ef⟩
 have j4 := low0 (low1 (low0 j3 br.grw) co.grw (by omega)) ef
 have ib := Kq ej
 have A3 := J8 ej
 refine Xd (v := .tuple #[.slice (pa de) bt.length df, vi (callDo (tabT G) E).2]) Z Z (Ye (v := .slice (pa de) bt.length df) Z Z Z (Ye (v := vi (callDo (tabT G) E).2) Z Z Z (Xe (v := .slice (pa de) bt.length df) Z Z (Xe (v := vi (callDo (tabT G) E).2) Z Z (Xb (Xa (Xd (v := .slice (pa ao) G.length ai) Z Z ?_)))))))
 have ku := (co.blk.grown0 ef)
 refine Xr (vs := [vi E.kind, vi E.run, vi E.a, vi E.b, vi E.n]) Y6 Z Z (ku.rangeL 0 5 Z) Z ?_
 have Av := (ku).lt
 refine Xn Hh (Xf Z (Xf Z Xm)) Z (Uk E _ G _ _ (TabG.at (TabG.low d0 (low0 (low1 br.grw co.grw (nt ((World.grownBy.refl _ none)).size (Nat.le_of_eq br.eq.symm))) ef))) bq (by omega) (ErrT.grown0 hE j4)) ?_
 rintro _ Eh ⟨ah, ac, J, rfl, fj, bj, eg⟩
 have bp := Kq bj
 have A4 := J8 bj
 refine Xd (v := .tuple #[.slice ah J.length ac, vi (callDo (tabT G) E).2]) Z Z (Ye (v := .slice ah J.length ac) Z Z Z (Ye (v := vi (callDo (tabT G) E).2) Z Z Z (Xe (v := .slice ah J.length ac) Z Z (Xe (v := vi (callDo (tabT G) E).2) Z Z (Xb (Xq (Xa (Xd (v := vi (callDo (tabT G) E).2) Z Z (Xd (v := vi (callDo (tabT G) E).2) Z Z (Q1 (q := false) Z Z (by simp) Z (Xd (v := vb false) Z Z (Xg Z Z Z Z ?_))))))))))))
 refine Xd (v := .slice ah J.length ac) Z Z (Xg Z Z Z Z (Xd (v := .slice (pa de) bt.length df) Z Z (Xg Z Z Z Z ?_)))
 have fk := (TabG.low k6 eg)
 refine Xn W5 (Xf Z (Xf Z Xm)) Z (Vb _ J bt _ _ _ _ (TabG.at fj) (TabG.at fk) bp ib (by omega) (by omega)) ?_
 rintro _ Ei ⟨rfl, ct⟩
 refine Xg Z Z Z Z (Yn (b' := false) (congrArg Value.bool (decide_eq_true (bj.trans ej.symm))) Z Z (Xp (v := vb false) Z Z Z Z (Xd (v := vb false) Z Z (Xg Z Z Z Z (Xd (v := .slice (pa ao) G.length ai) Z Z (Xg Z Z Z Z ?_))))))
 have dy := ((ku.grown0 eg).grown0 ct)
 refine Xr (vs := [vi E.kind, vi E.run, vi E.a, vi E.b, vi E.n]) Y6 Z Z (dy.rangeL 0 5 Z) Z (Xg Z Z Z Z (Xn Rf (Xf Z (Xf Z Xm)) Z (N4 E _ G _ _ (TabG.at (TabG.low d0 (low0 (low0 (low0 (low1 br.grw co.grw (nt ((World.grownBy.refl _ none)).size (Nat.le_of_eq br.eq.symm))) ef) eg) ct))) bq (by omega)) ?_))
 rintro _ gc ⟨rfl, be⟩
 have fp := low0 (low0 (low0 j4 eg) ct) be
 refine Xg Z Z Z Z (Yn (b' := !callPoss (tabT G) E) Z Z Z (Xp (v := vb (!callPoss (tabT G) E)) Z Z Z Z (Xb (X0 Z (fun bc => ?_) (fun bc => ?_)))))
 have D2 := Jr bc
 refine Xa (Xd (v := vi (callDo (tabT G) E).2) Z Z (Xd (v := vi (callDo (tabT G) E).2) Z Z (X6 (q := true) Z Z (by simp) Z (Xd (v := vb true) Z Z (Xg Z Z Z Z (Xd (v := .slice ah J.length ac) Z Z (Xg Z Z Z Z (Xd (v := .slice (pa de) bt.length df) Z Z (Xg Z Z Z Z (Xn W5 (Xf Z (Xf Z Xm)) Z (Vb _ J bt _ _ _ _ (TabG.at (TabG.low (TabG.low fj ct) be)) (TabG.at (TabG.low (TabG.low fk ct) be)) bp ib (by omega) (by omega)) ?_))))))))))
 rintro _ Ej ⟨rfl, si⟩
 refine Xw (v := vb true) Z Z (congrArg Value.bool (decide_eq_true (bj.trans ej.symm))) Z (Xe (v := vb true) Z Z (Xb (Xt (Yk (⟨vb true, Yt Z Z, ?_, (low0 fp si)⟩)))))
 rfl
 have au := Q3 bc
 obtain ⟨av, a9, aq⟩ := Yw au
 have Al := Yx a9
 have Am := (Qe aq).1
 have B2 := Qt av aq
 have A0 := Jk av
 have hde := Kb au
 have hrk := Qr (Yw au).2.2
 have A5 := Vk ej au
 have A6 := Vk bj au
 obtain ⟨hi, hhi⟩ : ∃ n, n = gc.heap.size := ⟨_, rfl⟩
 have cg := (TabG.low d0 (low0 (low0 (low0 (low0 (low1 br.grw co.grw (nt ((World.grownBy.refl _ none)).size (Nat.le_of_eq br.eq.symm))) ef) eg) ct) be))
 have ee := TabG.hi cg
 rw [← hhi] at ee
 have fm := (TabG.low (TabG.low fk ct) be)
 have f9 := TabG.hi fm
 rw [← hhi] at f9
 have d1 := (TabG.low (TabG.low fj ct) be)
 have ff := TabG.hi d1
 rw [← hhi] at ff
 have Aj := Sj bj au
 refine Xz (Xu (Xq (Ya (fun f' w' => (f' 2 = vb false ∧ f' 3 = .slice (pa ao) G.length ai ∧ f' 4 = pt dw 0 ∧ f' 7 = .slice ah J.length ac ∧ f' 63 = vb ((!(decide (E.kind = 8))) || (!(decide ((callDo (tabT G) E).2 = 0))))) ∧ gc = w') ?_ ?_)))
 refine Xc (o' := 0) Ji Z Z Z (Xh (v := vi E.kind) X1 Z ((dy.grown0 be).cell Z) Z (Q1 (q := !(decide (E.kind = 8))) Z Z Z Z (Xd (v := vb (!(decide (E.kind = 8)))) Z Z ?_)))
 rcases Yg (!(decide (E.kind = 8))) with bz | bz
 have jr := Jr bz
 have D3 := of_decide_eq_false jr
 exact Xj Z Z Z bz Z (Xj Z Z Z bz Z (Xw (v := vb true) Z bz Z Z (Xb ⟨⟨Z, Z, Z, Z, (congrArg Value.bool (by first | (simp only [bb, bc, au, bz, jr, av, a9, aq, b0, b1, b2, b3, b4, b5, b6, b7, b8, b9]; done) | simp [bb, bc, au, bz, jr, av, a9, aq]))⟩, Z⟩)))
 have js := Q3 bz
 have D4 := of_decide_eq_true js
 exact Xg Z Z Z bz (Xd (v := vi (callDo (tabT G) E).2) Z Z (Xg Z Z Z bz (Q1 (q := !(decide ((callDo (tabT G) E).2 = 0))) Z Z Z Z (Xp (v := vb (!(decide ((callDo (tabT G) E).2 = 0)))) Z bz Z Z (Xb ⟨⟨Z, Z, Z, Z, (congrArg Value.bool (by first | (simp only [bb, bc, au, bz, js, av, a9, aq, b0, b1, b2, b3, b4, b5, b6, b7, b8, b9]; done) | simp [bb, bc, au, bz, js, av, a9, aq]))⟩, Z⟩)))))
 rintro Dy Ek ⟨⟨vg, vh, vj, vk, vl⟩, rfl⟩
 refine X0 vl (fun bk => ?_) (fun bk => ?_)
 refine Xa (Xe (v := vb true) Z Z (Xb (Xt (Yk (⟨vb true, Yt Z Z, ?_, fp⟩)))))
 rfl
 have i1 := Zk bk
 have nk := Rx au i1.1 i1.2
 have A2 := Xdv au nk
 have ca := Kl bk
 have bl := Q3 ca
 have D5 := of_decide_eq_true bl
 have cc := Km bk
 have bm := Q3 cc
 have D6 := of_decide_eq_true bm
 refine Xz (Xu (Xq ?_))
 obtain ⟨no, D9, k0, r7, tj, tq⟩ := SlAt.at (TabG.at cg).1 (Yp (xg G (E.run - 1).toNat))
 have Ap := TabLen.at bq (xg G (E.run - 1).toNat)
 obtain ⟨vc, Ea, z7, r8, tk, tr⟩ := SlAt.at (TabAt.th (TabG.at cg) (xg G (E.run - 1).toNat)).1 (Yp (xr (mAt G (E.run - 1).toNat).t.slots (E.a).toNat))
 have A1 := Us av (lq (E.run - 1).toNat G.length) (lq (E.a).toNat (mAt G (E.run - 1).toNat).t.slots.length)
 have B4 : hi ≤ gc.heap.size := (Nat.le_of_eq hhi)
 refine Qv (m := 12) [[], [], [1], [1, 2], [0, 1, 2, 3], [0, 1, 2, 3, 4], [0, 1, 2, 3, 4, 5], [], [7], [0, 1, 2, 3, 4, 5, 6, 7, 8], [0, 1, 2, 3, 4, 5, 6, 7, 8, 9], [], [0, 1, 2, 3, 4, 5, 6, 7, 8, 9, 10, 11]] (fun S F w' => ∃ (af : Nat), gc.grownBy w' none ∧ F 2 = vb false ∧ F 3 = .slice (pa ao) G.length ai ∧ F 4 = pt dw 0 ∧ F 7 = .slice ah J.length ac ∧ (S 11 = true → F 9 = pt af 0 ∧ w.heap.size ≤ af ∧ Blk w' af 33 #[vi 0, vi 0, vb false, vb false, vb false] ∧ dw < af ∧ gc.heap.size ≤ af) ∧ Vals S F [(0, 64, .slice (pa ao) G.length ai), (1, 65, pt dw 1), (2, 66, vi E.run), (3, 67, vi (E.run - 1)), (4, 68, pt no k0), (5, 69, pt no (k0 + 5)), (6, 70, .slice (mAt G (E.run - 1).toNat).sa (mAt G (E.run - 1).toNat).t.slots.length (mAt G (E.run - 1).toNat).sc), (7, 71, pt dw 2), (8, 72, vi E.a), (9, 73, pt vc z7), (10, 74, .agg #[vi (rAt (mAt G (E.run - 1).toNat).t.slots (E.a).toNat).th, vi (rAt (mAt G (E.run - 1).toNat).t.slots (E.a).toNat).ve, vb (rAt (mAt G (E.run - 1).toNat).t.slots (E.a).toNat).rd, vb (rAt (mAt G (E.run - 1).toNat).t.slots (E.a).toNat).wr, vb (rAt (mAt G (E.run - 1).toNat).t.slots (E.a).toNat).wk])]) Yz (by kernel_rfl) ⟨0, X8 _, vg, vh, vj, vk, Ym, J2 _⟩ ?_ ?_
 refine Xi (fun S F El hS hbef hcl hI => ?_) ?_
 obtain ⟨af, sm, vm, np, vn, vo, a8, hvs⟩ := hI
 exact Xd (v := .slice (pa ao) G.length ai) np Z (Xb ⟨af, sm, vm, np, vn, vo, a8, Vals.up 0 hvs Z Z Z⟩)
 refine Xi (fun S F Em hS hbef hcl hI => ?_) ?_
 obtain ⟨af, sn, vp, vq, nq, vr, a8, hvs⟩ := hI
 exact Xc (o' := 1) Q5 nq Z Z (Xb ⟨af, sn, vp, vq, nq, vr, a8, Vals.up 1 hvs Z Z Z⟩)
 refine Xi (fun S F En hS hbef hcl hI => ?_) ?_
 obtain ⟨af, ka, vt, vu, vv, vw, a8, hvs⟩ := hI
 exact Xh (v := vi E.run) X1 (Vals.at 1 hvs Z (Xl 1 hbef Z)) (((dy.grown0 be).grown0 ka).cell Z) Z (Xb ⟨af, ka, vt, vu, vv, vw, a8, Vals.up 2 hvs Z Z Z⟩)
 refine Xi (fun S F Eo hS hbef hcl hI => ?_) ?_
 obtain ⟨af, so, vx, vy, vz, v1, a8, hvs⟩ := hI
 exact Yr (c := E.run - 1) (Vals.at 2 hvs Z (Xl 2 hbef Z)) Z (by omega) (by omega) (by omega) Z (Xb ⟨af, so, vx, vy, vz, v1, a8, Vals.up 3 hvs Z Z Z⟩)
 refine Xi (fun S F Ep hS hbef hcl hI => ?_) ?_
 obtain ⟨af, sp, v2, v3, v4, v5, a8, hvs⟩ := hI
 exact X3 Qc (Vals.at 0 hvs Z (Xl 0 hbef Z)) (Vals.at 3 hvs Z (Xl 3 hbef Z)) r7 tj (by omega) (by omega) Z (Xb ⟨af, sp, v2, v3, v4, v5, a8, Vals.up 4 hvs Z Z Z⟩)
 refine Xi (fun S F Er hS hbef hcl hI => ?_) ?_
 obtain ⟨af, sq, v6, v7, v8, v9, a8, hvs⟩ := hI
 exact Xc (o' := k0 + 5) Qj (Vals.at 4 hvs Z (Xl 4 hbef Z)) Z Z (Xb ⟨af, sq, v6, v7, v8, v9, a8, Vals.up 5 hvs Z Z Z⟩)
 refine Xi (fun S F Es hS hbef hcl hI => ?_) ?_
 obtain ⟨af, kb, wa, wb, wc, wd, a8, hvs⟩ := hI
 exact Xh (v := .slice (mAt G (E.run - 1).toNat).sa (mAt G (E.run - 1).toNat).t.slots.length (mAt G (E.run - 1).toNat).sc) Jd (Vals.at 5 hvs Z (Xl 5 hbef Z)) ((Yi tq kb) 5 _ Z) Z (Xb ⟨af, kb, wa, wb, wc, wd, a8, Vals.up 6 hvs Z Z Z⟩)
 refine Xi (fun S F Et hS hbef hcl hI => ?_) ?_
 obtain ⟨af, sr, we, wg, nr, wh, a8, hvs⟩ := hI
 exact Xc (o' := 2) Kr nr Z Z (Xb ⟨af, sr, we, wg, nr, wh, a8, Vals.up 7 hvs Z Z Z⟩)
 refine Xi (fun S F Eu hS hbef hcl hI => ?_) ?_
 obtain ⟨af, kc, wi, wj, wl, wm, a8, hvs⟩ := hI
 exact Xh (v := vi E.a) X1 (Vals.at 7 hvs Z (Xl 7 hbef Z)) (((dy.grown0 be).grown0 kc).cell Z) Z (Xb ⟨af, kc, wi, wj, wl, wm, a8, Vals.up 8 hvs Z Z Z⟩)
 refine Xi (fun S F Ev hS hbef hcl hI => ?_) ?_
 obtain ⟨af, su, wn, wo, wq, ws, a8, hvs⟩ := hI
 exact X3 J9 (Vals.at 6 hvs Z (Xl 6 hbef Z)) (Vals.at 8 hvs Z (Xl 8 hbef Z)) r8 tk (by omega) (by omega) Z (Xb ⟨af, su, wn, wo, wq, ws, a8, Vals.up 9 hvs Z Z Z⟩)
 refine Xi (fun S F Ew hS hbef hcl hI => ?_) ?_
 obtain ⟨af, ke, wt, wu, wv, ww, a8, hvs⟩ := hI
 exact Xr (vs := [vi (rAt (mAt G (E.run - 1).toNat).t.slots (E.a).toNat).th, vi (rAt (mAt G (E.run - 1).toNat).t.slots (E.a).toNat).ve, vb (rAt (mAt G (E.run - 1).toNat).t.slots (E.a).toNat).rd, vb (rAt (mAt G (E.run - 1).toNat).t.slots (E.a).toNat).wr, vb (rAt (mAt G (E.run - 1).toNat).t.slots (E.a).toNat).wk]) Y0 (Vals.at 9 hvs Z (Xl 9 hbef Z)) Z (Y2 (Yi tr ke) 0 5 Z) Z (Xb ⟨af, ke, wt, wu, wv, ww, a8, Vals.up 10 hvs Z Z Z⟩)
 refine Xi (fun S F Ex hS hbef hcl hI => ?_) ?_
 obtain ⟨af, eh, wx, wy, wz, w5, a8, hvs⟩ := hI
 refine Yf (cs := #[vi 0, vi 0, vb false, vb false, vb false]) K3 Z Z ?_
 intro nn Ey dt
 have m9 := Yd dt (low0 fp eh)
 have zv : hi ≤ nn := nt (nt (Nat.le_of_eq hhi) eh.size) (Nat.le_of_eq dt.eq.symm)
 have e0 := Xo dt (((dy.grown0 be).grown0 eh)).lt
 exact Xb ⟨nn, (low0 eh dt.grw), wx, wy, wz, w5, fun _ => ⟨Z, m9, dt.blk, e0, (nt eh.size (Nat.le_of_eq dt.eq.symm))⟩, Vals.keep hvs Z⟩
 exact Jb
 intro S F Ez hall hI
 obtain ⟨af, aw, nu, g0, Du, nv, a8, hvs⟩ := hI
 obtain ⟨fz, Ao, kz, k4, zw⟩ := a8 (hall 11 (by decide))
 refine Xy (vs := [vi (rAt (mAt G (E.run - 1).toNat).t.slots (E.a).toNat).th, vi (rAt (mAt G (E.run - 1).toNat).t.slots (E.a).toNat).ve, vb (rAt (mAt G (E.run - 1).toNat).t.slots (E.a).toNat).rd, vb (rAt (mAt G (E.run - 1).toNat).t.slots (E.a).toNat).wr, vb (rAt (mAt G (E.run - 1).toNat).t.slots (E.a).toNat).wk]) (cs' := #[vi (rAt (mAt G (E.run - 1).toNat).t.slots (E.a).toNat).th, vi (rAt (mAt G (E.run - 1).toNat).t.slots (E.a).toNat).ve, vb (rAt (mAt G (E.run - 1).toNat).t.slots (E.a).toNat).rd, vb (rAt (mAt G (E.run - 1).toNat).t.slots (E.a).toNat).wr, vb (rAt (mAt G (E.run - 1).toNat).t.slots (E.a).toNat).wk]) Y0 fz (Vals.at 10 hvs Z (hall 10 (by decide))) Z (by simp [Value.oneCell']) kz (Nat.le_of_ble_eq_true Z) Z ?_
 intro Ab ak
 refine Xb (Xu (Xq (Ya (fun f' w' => (f' 2 = vb false ∧ f' 3 = .slice (pa ao) G.length ai ∧ f' 7 = .slice ah J.length ac ∧ f' 9 = pt af 0 ∧ f' 88 = vb ((!tabLive (tabT G) (rAt (mAt G (E.run - 1).toNat).t.slots (E.a).toNat)) || (decide ((mAt G ((rAt (mAt G (E.run - 1).toNat).t.slots (E.a).toNat).th - 1).toNat).t.ve = 5)))) ∧ Ab.grownBy w' none) ?_ ?_)))
 refine Xd (v := .slice (pa ao) G.length ai) g0 Z (Xr (vs := [vi (rAt (mAt G (E.run - 1).toNat).t.slots (E.a).toNat).th, vi (rAt (mAt G (E.run - 1).toNat).t.slots (E.a).toNat).ve, vb (rAt (mAt G (E.run - 1).toNat).t.slots (E.a).toNat).rd, vb (rAt (mAt G (E.run - 1).toNat).t.slots (E.a).toNat).wr, vb (rAt (mAt G (E.run - 1).toNat).t.slots (E.a).toNat).wk]) Y0 fz Z (ak.blk.rangeL 0 5 Z) Z ?_)
 have g7 := (TabG.ge (TabG.low cg aw) ak.grw ee (by omega))
 refine Xn F6 (Xf Z (Xf Z Xm)) Z (We (rAt (mAt G (E.run - 1).toNat).t.slots (E.a).toNat) _ G _ _ (TabG.at g7) bq (by omega)) ?_
 rintro _ E0 ⟨rfl, fq⟩
 refine Yn (b' := !tabLive (tabT G) (rAt (mAt G (E.run - 1).toNat).t.slots (E.a).toNat)) Z Z Z (Xd (v := vb (!tabLive (tabT G) (rAt (mAt G (E.run - 1).toNat).t.slots (E.a).toNat))) Z Z ?_)
 rcases Yg (!tabLive (tabT G) (rAt (mAt G (E.run - 1).toNat).t.slots (E.a).toNat)) with bd | bd
 have n9 := Jr bd
 iterate 8 refine Xj rfl rfl rfl bd rfl ?_
 exact Xw (v := vb true) Z bd Z Z (Xb ⟨⟨nu, g0, nv, fz, (congrArg Value.bool (by first | (simp only [bb, bc, au, bk, ca, bl, cc, bm, bd, n9, av, a9, aq, b0, b1, b2, b3, b4, b5, b6, b7, b8, b9]; done) | simp [bb, bc, au, bk, ca, bl, cc, bm, bd, n9, av, a9, aq]))⟩, fq⟩)
 have oa := Q3 bd
 refine Xg Z Z Z bd (Xd (v := .slice (pa ao) G.length ai) g0 Z (Xg Z Z Z bd (Xc (o' := 0) Yo fz Z Z (Xg Z Z Z bd (Xh (v := vi (rAt (mAt G (E.run - 1).toNat).t.slots (E.a).toNat).th) X1 Z ((ak.blk.grown0 fq).cell Z) Z (Xg Z Z Z bd (Yr (c := (rAt (mAt G (E.run - 1).toNat).t.slots (E.a).toNat).th - 1) Z Z (by omega) (by omega) (by omega) Z (Xg Z Z Z bd ?_))))))))
 have k7 := (TabG.low g7 fq)
 obtain ⟨Dt, Eb, z8, r9, tl, tt⟩ := SlAt.at (TabG.at k7).1 (Yp (xg G ((rAt (mAt G (E.run - 1).toNat).t.slots (E.a).toNat).th - 1).toNat))
 have Aq := TabLen.at bq (xg G ((rAt (mAt G (E.run - 1).toNat).t.slots (E.a).toNat).th - 1).toNat)
 exact X3 Qc Z Z r9 tl (by omega) (by omega) Z (Xg Z Z Z bd (Xc (o' := z8 + 3) Qz Z Z Z (Xg Z Z Z bd (Xh (v := vi (mAt G ((rAt (mAt G (E.run - 1).toNat).t.slots (E.a).toNat).th - 1).toNat).t.ve) X1 Z (tt 3 _ Z) Z (Xg Z Z Z bd (X6 (q := decide ((mAt G ((rAt (mAt G (E.run - 1).toNat).t.slots (E.a).toNat).th - 1).toNat).t.ve = 5)) Z Z Z Z (Xp (v := vb (decide ((mAt G ((rAt (mAt G (E.run - 1).toNat).t.slots (E.a).toNat).th - 1).toNat).t.ve = 5))) Z bd Z Z (Xb ⟨⟨nu, g0, nv, fz, (congrArg Value.bool (by first | (simp only [bb, bc, au, bk, ca, bl, cc, bm, bd, oa, av, a9, aq, b0, b1, b2, b3, b4, b5, b6, b7, b8, b9]; done) | simp [bb, bc, au, bk, ca, bl, cc, bm, bd, oa, av, a9, aq]))⟩, fq⟩))))))))
 rintro Dz dz ⟨⟨nw, jo, jp, g5, w7⟩, an⟩
 have du := low0 (low1 (low0 fp aw) ak.grw (by omega)) an
 refine X0 w7 (fun cd => ?_) (fun cd => ?_)
 have sf := Ma bj au (of_decide_eq_true bl) (of_decide_eq_true bm) cd
 have ti : (decide ((mAt J ((rAt (mAt G (E.run - 1).toNat).t.slots (E.a).toNat).th - 1).toNat).t = (mAt G ((rAt (mAt G (E.run - 1).toNat).t.slots (E.a).toNat).th - 1).toNat).t)) = true := decide_eq_true sf
 refine Xq ?_
 have g8 := (TabG.low (TabG.ge (TabG.low d1 aw) ak.grw ff (by omega)) an)
 obtain ⟨vd, Ec, z9, sb, tn, tu⟩ := SlAt.at (TabG.at g8).1 (Yp (xg J ((rAt (mAt G (E.run - 1).toNat).t.slots (E.a).toNat).th - 1).toNat))
 have Ar := TabLen.at bp (xg J ((rAt (mAt G (E.run - 1).toNat).t.slots (E.a).toNat).th - 1).toNat)
 have g9 := (TabG.low (TabG.ge (TabG.low cg aw) ak.grw ee (by omega)) an)
 obtain ⟨vf, Ed, Aa, sd, tp, tv⟩ := SlAt.at (TabG.at g9).1 (Yp (xg G ((rAt (mAt G (E.run - 1).toNat).t.slots (E.a).toNat).th - 1).toNat))
 have As := TabLen.at bq (xg G ((rAt (mAt G (E.run - 1).toNat).t.slots (E.a).toNat).th - 1).toNat)
 refine Yy (m := 12) (vals := [(89, .slice ah J.length ac), (90, pt af 0), (91, vi (rAt (mAt G (E.run - 1).toNat).t.slots (E.a).toNat).th), (92, vi ((rAt (mAt G (E.run - 1).toNat).t.slots (E.a).toNat).th - 1)), (93, pt vd z9), (94, .agg #[vi (mAt J ((rAt (mAt G (E.run - 1).toNat).t.slots (E.a).toNat).th - 1).toNat).t.kind, vi (mAt J ((rAt (mAt G (E.run - 1).toNat).t.slots (E.a).toNat).th - 1).toNat).t.lab.s, vi (mAt J ((rAt (mAt G (E.run - 1).toNat).t.slots (E.a).toNat).th - 1).toNat).t.lab.v, vi (mAt J ((rAt (mAt G (E.run - 1).toNat).t.slots (E.a).toNat).th - 1).toNat).t.ve, vi (mAt J ((rAt (mAt G (E.run - 1).toNat).t.slots (E.a).toNat).th - 1).toNat).t.num, .slice (mAt J ((rAt (mAt G (E.run - 1).toNat).t.slots (E.a).toNat).th - 1).toNat).sa (mAt J ((rAt (mAt G (E.run - 1).toNat).t.slots (E.a).toNat).th - 1).toNat).t.slots.length (mAt J ((rAt (mAt G (E.run - 1).toNat).t.slots (E.a).toNat).th - 1).toNat).sc, .slice (mAt J ((rAt (mAt G (E.run - 1).toNat).t.slots (E.a).toNat).th - 1).toNat).qa (mAt J ((rAt (mAt G (E.run - 1).toNat).t.slots (E.a).toNat).th - 1).toNat).t.queue.length (mAt J ((rAt (mAt G (E.run - 1).toNat).t.slots (E.a).toNat).th - 1).toNat).qc, vi (mAt J ((rAt (mAt G (E.run - 1).toNat).t.slots (E.a).toNat).th - 1).toNat).t.to]), (95, .slice (pa ao) G.length ai), (96, pt af 0), (97, vi (rAt (mAt G (E.run - 1).toNat).t.slots (E.a).toNat).th), (98, vi ((rAt (mAt G (E.run - 1).toNat).t.slots (E.a).toNat).th - 1)), (99, pt vf Aa), (100, .agg #[vi (mAt G ((rAt (mAt G (E.run - 1).toNat).t.slots (E.a).toNat).th - 1).toNat).t.kind, vi (mAt G ((rAt (mAt G (E.run - 1).toNat).t.slots (E.a).toNat).th - 1).toNat).t.lab.s, vi (mAt G ((rAt (mAt G (E.run - 1).toNat).t.slots (E.a).toNat).th - 1).toNat).t.lab.v, vi (mAt G ((rAt (mAt G (E.run - 1).toNat).t.slots (E.a).toNat).th - 1).toNat).t.ve, vi (mAt G ((rAt (mAt G (E.run - 1).toNat).t.slots (E.a).toNat).th - 1).toNat).t.num, .slice (mAt G ((rAt (mAt G (E.run - 1).toNat).t.slots (E.a).toNat).th - 1).toNat).sa (mAt G ((rAt (mAt G (E.run - 1).toNat).t.slots (E.a).toNat).th - 1).toNat).t.slots.length (mAt G ((rAt (mAt G (E.run - 1).toNat).t.slots (E.a).toNat).th - 1).toNat).sc, .slice (mAt G ((rAt (mAt G (E.run - 1).toNat).t.slots (E.a).toNat).th - 1).toNat).qa (mAt G ((rAt (mAt G (E.run - 1).toNat).t.slots (E.a).toNat).th - 1).toNat).t.queue.length (mAt G ((rAt (mAt G (E.run - 1).toNat).t.slots (E.a).toNat).th - 1).toNat).qc, vi (mAt G ((rAt (mAt G (E.run - 1).toNat).t.slots (E.a).toNat).th - 1).toNat).t.to])]) (fun w' => dz.grownBy w' none) Yz (by kernel_rfl) (X8 _) ?_ ?_
 refine yl Z (fun _ _ k => Xd (v := .slice ah J.length ac) jp Z k) (yl Z (fun _ _ k => Xc (o' := 0) Yo g5 Z Z k) (yl Z (fun _ sv k => Xh (v := vi (rAt (mAt G (E.run - 1).toNat).t.slots (E.a).toNat).th) X1 Z (((ak.blk.grown0 an).grown0 sv).cell Z) Z k) (yl Z (fun _ _ k => Yr (c := (rAt (mAt G (E.run - 1).toNat).t.slots (E.a).toNat).th - 1) Z Z (by omega) (by omega) (by omega) Z k) (yl Z (fun _ _ k => X3 Qc Z Z sb tn (by omega) (by omega) Z k) (yl Z (fun _ sw k => Xr (vs := [vi (mAt J ((rAt (mAt G (E.run - 1).toNat).t.slots (E.a).toNat).th - 1).toNat).t.kind, vi (mAt J ((rAt (mAt G (E.run - 1).toNat).t.slots (E.a).toNat).th - 1).toNat).t.lab.s, vi (mAt J ((rAt (mAt G (E.run - 1).toNat).t.slots (E.a).toNat).th - 1).toNat).t.lab.v, vi (mAt J ((rAt (mAt G (E.run - 1).toNat).t.slots (E.a).toNat).th - 1).toNat).t.ve, vi (mAt J ((rAt (mAt G (E.run - 1).toNat).t.slots (E.a).toNat).th - 1).toNat).t.num, .slice (mAt J ((rAt (mAt G (E.run - 1).toNat).t.slots (E.a).toNat).th - 1).toNat).sa (mAt J ((rAt (mAt G (E.run - 1).toNat).t.slots (E.a).toNat).th - 1).toNat).t.slots.length (mAt J ((rAt (mAt G (E.run - 1).toNat).t.slots (E.a).toNat).th - 1).toNat).sc, .slice (mAt J ((rAt (mAt G (E.run - 1).toNat).t.slots (E.a).toNat).th - 1).toNat).qa (mAt J ((rAt (mAt G (E.run - 1).toNat).t.slots (E.a).toNat).th - 1).toNat).t.queue.length (mAt J ((rAt (mAt G (E.run - 1).toNat).t.slots (E.a).toNat).th - 1).toNat).qc, vi (mAt J ((rAt (mAt G (E.run - 1).toNat).t.slots (E.a).toNat).th - 1).toNat).t.to]) Ys Z Z (Y2 (Yi tu sw) 0 8 Z) Z k) (yl Z (fun _ _ k => Xd (v := .slice (pa ao) G.length ai) jo Z k) (yl Z (fun _ _ k => Xc (o' := 0) Yo g5 Z Z k) (yl Z (fun _ sy k => Xh (v := vi (rAt (mAt G (E.run - 1).toNat).t.slots (E.a).toNat).th) X1 Z (((ak.blk.grown0 an).grown0 sy).cell Z) Z k) (yl Z (fun _ _ k => Yr (c := (rAt (mAt G (E.run - 1).toNat).t.slots (E.a).toNat).th - 1) Z Z (by omega) (by omega) (by omega) Z k) (yl Z (fun _ _ k => X3 Qc Z Z sd tp (by omega) (by omega) Z k) ?_))))))))))
 exact yl Z (fun _ s0 k => Xr (vs := [vi (mAt G ((rAt (mAt G (E.run - 1).toNat).t.slots (E.a).toNat).th - 1).toNat).t.kind, vi (mAt G ((rAt (mAt G (E.run - 1).toNat).t.slots (E.a).toNat).th - 1).toNat).t.lab.s, vi (mAt G ((rAt (mAt G (E.run - 1).toNat).t.slots (E.a).toNat).th - 1).toNat).t.lab.v, vi (mAt G ((rAt (mAt G (E.run - 1).toNat).t.slots (E.a).toNat).th - 1).toNat).t.ve, vi (mAt G ((rAt (mAt G (E.run - 1).toNat).t.slots (E.a).toNat).th - 1).toNat).t.num, .slice (mAt G ((rAt (mAt G (E.run - 1).toNat).t.slots (E.a).toNat).th - 1).toNat).sa (mAt G ((rAt (mAt G (E.run - 1).toNat).t.slots (E.a).toNat).th - 1).toNat).t.slots.length (mAt G ((rAt (mAt G (E.run - 1).toNat).t.slots (E.a).toNat).th - 1).toNat).sc, .slice (mAt G ((rAt (mAt G (E.run - 1).toNat).t.slots (E.a).toNat).th - 1).toNat).qa (mAt G ((rAt (mAt G (E.run - 1).toNat).t.slots (E.a).toNat).th - 1).toNat).t.queue.length (mAt G ((rAt (mAt G (E.run - 1).toNat).t.slots (E.a).toNat).th - 1).toNat).qc, vi (mAt G ((rAt (mAt G (E.run - 1).toNat).t.slots (E.a).toNat).th - 1).toNat).t.to]) Ys Z Z (Y2 (Yi tv s0) 0 8 Z) Z k) Y8
 intro E1 gq
 have k8 := (TabG.low g8 gq)
 have k9 := (TabG.low g9 gq)
 refine Xn Rg (Xf Z (Xf Z Xm)) Z (Um (mAt J ((rAt (mAt G (E.run - 1).toNat).t.slots (E.a).toNat).th - 1).toNat) (mAt G ((rAt (mAt G (E.run - 1).toNat).t.slots (E.a).toNat).th - 1).toNat) _ (TabAt.th (TabG.at k8) (xg J ((rAt (mAt G (E.run - 1).toNat).t.slots (E.a).toNat).th - 1).toNat)) (TabAt.th (TabG.at k9) (xg G ((rAt (mAt G (E.run - 1).toNat).t.slots (E.a).toNat).th - 1).toNat)) ⟨by first | omega | exact Nat.le_of_ble_eq_true Z | (simp only [List.length_nil, List.length_cons, List.length_append, List.length_replicate]; omega), by first | omega | exact Nat.le_of_ble_eq_true Z | (simp only [List.length_nil, List.length_cons, List.length_append, List.length_replicate]; omega)⟩ ⟨by first | omega | exact Nat.le_of_ble_eq_true Z | (simp only [List.length_nil, List.length_cons, List.length_append, List.length_replicate]; omega), by first | omega | exact Nat.le_of_ble_eq_true Z | (simp only [List.length_nil, List.length_cons, List.length_append, List.length_replicate]; omega)⟩) ?_
 rintro _ E2 ⟨rfl, sk⟩
 refine Xe (v := vb (decide ((mAt J ((rAt (mAt G (E.run - 1).toNat).t.slots (E.a).toNat).th - 1).toNat).t = (mAt G ((rAt (mAt G (E.run - 1).toNat).t.slots (E.a).toNat).th - 1).toNat).t))) Z Z (Xb (Xu (Xt (Yk (⟨vb (decide ((mAt J ((rAt (mAt G (E.run - 1).toNat).t.slots (E.a).toNat).th - 1).toNat).t = (mAt G ((rAt (mAt G (E.run - 1).toNat).t.slots (E.a).toNat).th - 1).toNat).t)), Yt Z Z, ?_, (low0 (low0 du gq) sk)⟩)))))
 exact congrArg Value.bool ti
 obtain ⟨j5, j6⟩ := T9 bj au (of_decide_eq_true bl) (of_decide_eq_true bm) cd
 obtain ⟨j7, j8, sg⟩ := Iv au (of_decide_eq_true bl) (of_decide_eq_true bm)
 have bi : (newOk (mAt G ((rAt (mAt G (E.run - 1).toNat).t.slots (E.a).toNat).th - 1).toNat).t.kind (mAt G ((rAt (mAt G (E.run - 1).toNat).t.slots (E.a).toNat).th - 1).toNat).t.lab 0) = true := sg
 have dg := Kl cd
 have dx := Q3 dg
 have dh := Km cd
 have D7 := of_decide_eq_false dh
 refine Xz (Xu ?_)
 rcases Yg ((decide ((mAt G ((rAt (mAt G (E.run - 1).toNat).t.slots (E.a).toNat).th - 1).toNat).t.kind = 2)) || (decide ((mAt G ((rAt (mAt G (E.run - 1).toNat).t.slots (E.a).toNat).th - 1).toNat).t.kind = 3))) with bh | bh
 refine Xq ?_
 have ia := (TabG.low (TabG.ge (TabG.low cg aw) ak.grw ee (by omega)) an)
 obtain ⟨gz, Ee, ez, gp, gr, gt⟩ := SlAt.at (TabG.at ia).1 (Yp (xg G ((rAt (mAt G (E.run - 1).toNat).t.slots (E.a).toNat).th - 1).toNat))
 have At := TabLen.at bq (xg G ((rAt (mAt G (E.run - 1).toNat).t.slots (E.a).toNat).th - 1).toNat)
 have B5 : hi ≤ dz.heap.size := (nt (nt (nt (Nat.le_of_eq hhi) aw.size) ak.grw.size) an.size)
 refine Qv (m := 20) [[], [], [1], [1, 2], [0, 1, 2, 3], [0, 1, 2, 3, 4], [0, 1, 2, 3, 4, 5], [], [], [8], [8, 9], [7, 8, 9, 10], [7, 8, 9, 10, 11], [7, 8, 9, 10, 11, 12], [0, 1, 2, 3, 4, 5, 6, 7, 8, 9, 10, 11, 12, 13], [0, 1, 2, 3, 4, 5, 6, 7, 8, 9, 10, 11, 12, 13, 14], [0, 1, 2, 3, 4, 5, 6, 7, 8, 9, 10, 11, 12, 13, 14, 15], [0, 1, 2, 3, 4, 5, 6, 7, 8, 9, 10, 11, 12, 13, 14, 15], [], [0, 1, 2, 3, 4, 5, 6, 7, 8, 9, 10, 11, 12, 13, 14, 15, 16, 18], [0, 1, 2, 3, 4, 5, 6, 7, 8, 9, 10, 11, 12, 13, 14, 15, 16, 17, 18, 19]] (fun S F w' => ∃ (V : Nat) (ae : Nat) (ag : Nat), dz.grownBy w' none ∧ F 2 = vb false ∧ F 3 = .slice (pa ao) G.length ai ∧ F 7 = .slice ah J.length ac ∧ F 9 = pt af 0 ∧ (S 14 = true → F 117 = .tuple #[.agg #[vi (mAt G ((rAt (mAt G (E.run - 1).toNat).t.slots (E.a).toNat).th - 1).toNat).t.kind, vi (mAt G ((rAt (mAt G (E.run - 1).toNat).t.slots (E.a).toNat).th - 1).toNat).t.lab.s, vi (mAt G ((rAt (mAt G (E.run - 1).toNat).t.slots (E.a).toNat).th - 1).toNat).t.lab.v, vi 0, vi 0, .slice (pa ae) 4 V, .slice none 0 0, vi 0], vb true] ∧ w.heap.size ≤ ae ∧ Dw.Own w' ae 33 5 V zeros4.length (zeros4.flatMap Rt.cells) ∧ dw < ae ∧ af < ae ∧ dz.heap.size ≤ ae) ∧ (S 15 = true → F 102 = .tuple #[.agg #[vi (mAt G ((rAt (mAt G (E.run - 1).toNat).t.slots (E.a).toNat).th - 1).toNat).t.kind, vi (mAt G ((rAt (mAt G (E.run - 1).toNat).t.slots (E.a).toNat).th - 1).toNat).t.lab.s, vi (mAt G ((rAt (mAt G (E.run - 1).toNat).t.slots (E.a).toNat).th - 1).toNat).t.lab.v, vi 0, vi 0, .slice (pa ae) 4 V, .slice none 0 0, vi 0], vb true]) ∧ (S 16 = true → F 118 = .agg #[vi (mAt G ((rAt (mAt G (E.run - 1).toNat).t.slots (E.a).toNat).th - 1).toNat).t.kind, vi (mAt G ((rAt (mAt G (E.run - 1).toNat).t.slots (E.a).toNat).th - 1).toNat).t.lab.s, vi (mAt G ((rAt (mAt G (E.run - 1).toNat).t.slots (E.a).toNat).th - 1).toNat).t.lab.v, vi 0, vi 0, .slice (pa ae) 4 V, .slice none 0 0, vi 0]) ∧ (S 18 = true → F 10 = pt ag 0 ∧ w.heap.size ≤ ag ∧ (S 19 = false → Blk w' ag 39 #[vi 0, vi 0, vi 0, vi 0, vi 0, .slice none 0 0, .slice none 0 0, vi 0]) ∧ dw < ag ∧ af < ag ∧ dz.heap.size ≤ ag) ∧ (S 19 = true → Blk w' ag 39 #[vi (mAt G ((rAt (mAt G (E.run - 1).toNat).t.slots (E.a).toNat).th - 1).toNat).t.kind, vi (mAt G ((rAt (mAt G (E.run - 1).toNat).t.slots (E.a).toNat).th - 1).toNat).t.lab.s, vi (mAt G ((rAt (mAt G (E.run - 1).toNat).t.slots (E.a).toNat).th - 1).toNat).t.lab.v, vi 0, vi 0, .slice (pa ae) 4 V, .slice none 0 0, vi 0]) ∧ Vals S F [(0, 103, .slice (pa ao) G.length ai), (1, 104, pt af 0), (2, 105, vi (rAt (mAt G (E.run - 1).toNat).t.slots (E.a).toNat).th), (3, 106, vi ((rAt (mAt G (E.run - 1).toNat).t.slots (E.a).toNat).th - 1)), (4, 107, pt gz ez), (5, 108, pt gz ez), (6, 109, vi (mAt G ((rAt (mAt G (E.run - 1).toNat).t.slots (E.a).toNat).th - 1).toNat).t.kind), (7, 110, .slice (pa ao) G.length ai), (8, 111, pt af 0), (9, 112, vi (rAt (mAt G (E.run - 1).toNat).t.slots (E.a).toNat).th), (10, 113, vi ((rAt (mAt G (E.run - 1).toNat).t.slots (E.a).toNat).th - 1)), (11, 114, pt gz ez), (12, 115, pt gz (ez + 1)), (13, 116, .agg #[vi (mAt G ((rAt (mAt G (E.run - 1).toNat).t.slots (E.a).toNat).th - 1).toNat).t.lab.s, vi (mAt G ((rAt (mAt G (E.run - 1).toNat).t.slots (E.a).toNat).th - 1).toNat).t.lab.v]), (17, 119, vb true)] ∧ (S 14 = true → S 18 = true → ae ≠ ag)) Yz (by kernel_rfl) ⟨0, 0, 0, X8 _, nw, jo, jp, g5, Ym, Ym, Ym, Ym, Ym, J2 _, Ym⟩ ?_ ?_
 refine Xi (fun S F E3 hS hbef hcl hI => ?_) ?_
 obtain ⟨V, ae, ag, s1, w8, nx, w9, xa, ap, ar, az, ab, aj, hvs, O⟩ := hI
 exact Xd (v := .slice (pa ao) G.length ai) nx Z (Xb ⟨V, ae, ag, s1, w8, nx, w9, xa, Xv 14 hS hcl Z, Xv 15 hS hcl Z, Xv 16 hS hcl Z, ab, Xv 19 hS hcl Z, Vals.up 0 hvs Z Z Z, O⟩)
 refine Xi (fun S F E4 hS hbef hcl hI => ?_) ?_
 obtain ⟨V, ae, ag, s3, xb, xc, xd, ny, ap, ar, az, ab, aj, hvs, O⟩ := hI
 exact Xc (o' := 0) Yo ny Z Z (Xb ⟨V, ae, ag, s3, xb, xc, xd, ny, Xv 14 hS hcl Z, Xv 15 hS hcl Z, Xv 16 hS hcl Z, ab, Xv 19 hS hcl Z, Vals.up 1 hvs Z Z Z, O⟩)
 refine Xi (fun S F E5 hS hbef hcl hI => ?_) ?_
 obtain ⟨V, ae, ag, kf, xe, xf, xh, xi, ap, ar, az, ab, aj, hvs, O⟩ := hI
 exact Xh (v := vi (rAt (mAt G (E.run - 1).toNat).t.slots (E.a).toNat).th) X1 (Vals.at 1 hvs Z (Xl 1 hbef Z)) (((ak.blk.grown0 an).grown0 kf).cell Z) Z (Xb ⟨V, ae, ag, kf, xe, xf, xh, xi, Xv 14 hS hcl Z, Xv 15 hS hcl Z, Xv 16 hS hcl Z, ab, Xv 19 hS hcl Z, Vals.up 2 hvs Z Z Z, O⟩)
 refine Xi (fun S F E6 hS hbef hcl hI => ?_) ?_
 obtain ⟨V, ae, ag, s4, xj, xk, xl, xm, ap, ar, az, ab, aj, hvs, O⟩ := hI
 exact Yr (c := (rAt (mAt G (E.run - 1).toNat).t.slots (E.a).toNat).th - 1) (Vals.at 2 hvs Z (Xl 2 hbef Z)) Z (by omega) (by omega) (by omega) Z (Xb ⟨V, ae, ag, s4, xj, xk, xl, xm, Xv 14 hS hcl Z, Xv 15 hS hcl Z, Xv 16 hS hcl Z, ab, Xv 19 hS hcl Z, Vals.up 3 hvs Z Z Z, O⟩)
 refine Xi (fun S F E7 hS hbef hcl hI => ?_) ?_
 obtain ⟨V, ae, ag, s5, xn, xp, xq, xu, ap, ar, az, ab, aj, hvs, O⟩ := hI
 exact X3 Qc (Vals.at 0 hvs Z (Xl 0 hbef Z)) (Vals.at 3 hvs Z (Xl 3 hbef Z)) gp gr (by omega) (by omega) Z (Xb ⟨V, ae, ag, s5, xn, xp, xq, xu, Xv 14 hS hcl Z, Xv 15 hS hcl Z, Xv 16 hS hcl Z, ab, Xv 19 hS hcl Z, Vals.up 4 hvs Z Z Z, O⟩)
 refine Xi (fun S F E8 hS hbef hcl hI => ?_) ?_
 obtain ⟨V, ae, ag, s6, xv, xw, xx, xy, ap, ar, az, ab, aj, hvs, O⟩ := hI
 exact Xc (o' := ez) Qd (Vals.at 4 hvs Z (Xl 4 hbef Z)) Z Z (Xb ⟨V, ae, ag, s6, xv, xw, xx, xy, Xv 14 hS hcl Z, Xv 15 hS hcl Z, Xv 16 hS hcl Z, ab, Xv 19 hS hcl Z, Vals.up 5 hvs Z Z Z, O⟩)
 refine Xi (fun S F E9 hS hbef hcl hI => ?_) ?_
 obtain ⟨V, ae, ag, kg, xz, x0, x3, x9, ap, ar, az, ab, aj, hvs, O⟩ := hI
 exact Xh (v := vi (mAt G ((rAt (mAt G (E.run - 1).toNat).t.slots (E.a).toNat).th - 1).toNat).t.kind) X1 (Vals.at 5 hvs Z (Xl 5 hbef Z)) ((Yi gt kg) 0 _ Z) Z (Xb ⟨V, ae, ag, kg, xz, x0, x3, x9, Xv 14 hS hcl Z, Xv 15 hS hcl Z, Xv 16 hS hcl Z, ab, Xv 19 hS hcl Z, Vals.up 6 hvs Z Z Z, O⟩)
 refine Xi (fun S F Fa hS hbef hcl hI => ?_) ?_
 obtain ⟨V, ae, ag, s7, ya, n5, yb, yc, ap, ar, az, ab, aj, hvs, O⟩ := hI
 exact Xd (v := .slice (pa ao) G.length ai) n5 Z (Xb ⟨V, ae, ag, s7, ya, n5, yb, yc, Xv 14 hS hcl Z, Xv 15 hS hcl Z, Xv 16 hS hcl Z, ab, Xv 19 hS hcl Z, Vals.up 7 hvs Z Z Z, O⟩)
 refine Xi (fun S F Fb hS hbef hcl hI => ?_) ?_
 obtain ⟨V, ae, ag, s8, yd, ye, yf, n7, ap, ar, az, ab, aj, hvs, O⟩ := hI
 exact Xc (o' := 0) Yo n7 Z Z (Xb ⟨V, ae, ag, s8, yd, ye, yf, n7, Xv 14 hS hcl Z, Xv 15 hS hcl Z, Xv 16 hS hcl Z, ab, Xv 19 hS hcl Z, Vals.up 8 hvs Z Z Z, O⟩)
 refine Xi (fun S F Fc hS hbef hcl hI => ?_) ?_
 obtain ⟨V, ae, ag, kh, yg, yh, yi, yj, ap, ar, az, ab, aj, hvs, O⟩ := hI
 exact Xh (v := vi (rAt (mAt G (E.run - 1).toNat).t.slots (E.a).toNat).th) X1 (Vals.at 8 hvs Z (Xl 8 hbef Z)) (((ak.blk.grown0 an).grown0 kh).cell Z) Z (Xb ⟨V, ae, ag, kh, yg, yh, yi, yj, Xv 14 hS hcl Z, Xv 15 hS hcl Z, Xv 16 hS hcl Z, ab, Xv 19 hS hcl Z, Vals.up 9 hvs Z Z Z, O⟩)
 refine Xi (fun S F Fe hS hbef hcl hI => ?_) ?_
 obtain ⟨V, ae, ag, s9, yk, ym, yn, yo, ap, ar, az, ab, aj, hvs, O⟩ := hI
 exact Yr (c := (rAt (mAt G (E.run - 1).toNat).t.slots (E.a).toNat).th - 1) (Vals.at 9 hvs Z (Xl 9 hbef Z)) Z (by omega) (by omega) (by omega) Z (Xb ⟨V, ae, ag, s9, yk, ym, yn, yo, Xv 14 hS hcl Z, Xv 15 hS hcl Z, Xv 16 hS hcl Z, ab, Xv 19 hS hcl Z, Vals.up 10 hvs Z Z Z, O⟩)
 refine Xi (fun S F Ff hS hbef hcl hI => ?_) ?_
 obtain ⟨V, ae, ag, tc, yp, yq, yr, yu, ap, ar, az, ab, aj, hvs, O⟩ := hI
 exact X3 Qc (Vals.at 7 hvs Z (Xl 7 hbef Z)) (Vals.at 10 hvs Z (Xl 10 hbef Z)) gp gr (by omega) (by omega) Z (Xb ⟨V, ae, ag, tc, yp, yq, yr, yu, Xv 14 hS hcl Z, Xv 15 hS hcl Z, Xv 16 hS hcl Z, ab, Xv 19 hS hcl Z, Vals.up 11 hvs Z Z Z, O⟩)
 refine Xi (fun S F Fg hS hbef hcl hI => ?_) ?_
 obtain ⟨V, ae, ag, td, yv, yw, yx, yy, ap, ar, az, ab, aj, hvs, O⟩ := hI
 exact Xc (o' := ez + 1) Ki (Vals.at 11 hvs Z (Xl 11 hbef Z)) Z Z (Xb ⟨V, ae, ag, td, yv, yw, yx, yy, Xv 14 hS hcl Z, Xv 15 hS hcl Z, Xv 16 hS hcl Z, ab, Xv 19 hS hcl Z, Vals.up 12 hvs Z Z Z, O⟩)
 refine Xi (fun S F Fh hS hbef hcl hI => ?_) ?_
 obtain ⟨V, ae, ag, ki, yz, y2, y3, y6, ap, ar, az, ab, aj, hvs, O⟩ := hI
 exact Xr (vs := [vi (mAt G ((rAt (mAt G (E.run - 1).toNat).t.slots (E.a).toNat).th - 1).toNat).t.lab.s, vi (mAt G ((rAt (mAt G (E.run - 1).toNat).t.slots (E.a).toNat).th - 1).toNat).t.lab.v]) J6 (Vals.at 12 hvs Z (Xl 12 hbef Z)) Z (Y2 (Yi gt ki) 1 2 Z) Z (Xb ⟨V, ae, ag, ki, yz, y2, y3, y6, Xv 14 hS hcl Z, Xv 15 hS hcl Z, Xv 16 hS hcl Z, ab, Xv 19 hS hcl Z, Vals.up 13 hvs Z Z Z, O⟩)
 refine Xi (fun S F Fi hS hbef hcl hI => ?_) ?_
 obtain ⟨V, ae, ag, ei, y7, y8, y9, za, ap, ar, az, ab, aj, hvs, O⟩ := hI
 have D8 : thingOk (⟨(mAt G ((rAt (mAt G (E.run - 1).toNat).t.slots (E.a).toNat).th - 1).toNat).t.kind, (mAt G ((rAt (mAt G (E.run - 1).toNat).t.slots (E.a).toNat).th - 1).toNat).t.lab, 0, 0, zeros4, [], 0⟩ : Th) = true := (Ud bh).symm.trans bi
 refine Xn Te (Xf (Vals.at 6 hvs Z (Xl 6 hbef Z)) (Xf (Vals.at 13 hvs Z (Xl 13 hbef Z)) (Xf Z Xm))) Z (He (mAt G ((rAt (mAt G (E.run - 1).toNat).t.slots (E.a).toNat).th - 1).toNat).t.kind 0 (mAt G ((rAt (mAt G (E.run - 1).toNat).t.slots (E.a).toNat).th - 1).toNat).t.lab bh bi _) ?_
 rintro _ Fj ⟨va, k5, rfl, dl, r6, j9⟩
 have nb := nt (low0 du ei).size dl
 have fb := nl ((((((dy.grown0 be).grown0 aw).gn ak.grw).grown0 an).grown0 ei)).lt dl
 have fd := nl (((ak.blk.grown0 an).grown0 ei)).lt dl
 exact Xb ⟨k5, va, ag, (low0 ei j9), y7, y8, y9, za, fun _ => ⟨Z, nb, r6, fb, fd, (nt ei.size dl)⟩, Xv 15 hS hcl Z, Xv 16 hS hcl Z, fun h => let ⟨Ac, Ad, Ae, Af, Ag, Ah⟩ := ab h; ⟨Ac, Ad, fun hn => (Ae hn).grown0 j9, Af, Ag, Ah⟩, Xv 19 hS hcl Z, Vals.keep hvs Z, fun _ h => let ⟨Fo, Fp, Ai, Fq, Fs, Ft⟩ := ab h; Nat.ne_of_gt (nl ((Ai (Bool.eq_false_iff.2 fun h6 => Xv 19 hS hcl Z h6))).lt dl)⟩
 refine Xi (fun S F Fk hS hbef hcl hI => ?_) ?_
 obtain ⟨V, ae, ag, te, zb, zc, zd, ze, ap, ar, az, ab, aj, hvs, O⟩ := hI
 obtain ⟨zf, d4, cv, bf, bg, dm⟩ := ap (Xl 14 hbef rfl)
 exact Xd (v := .tuple #[.agg #[vi (mAt G ((rAt (mAt G (E.run - 1).toNat).t.slots (E.a).toNat).th - 1).toNat).t.kind, vi (mAt G ((rAt (mAt G (E.run - 1).toNat).t.slots (E.a).toNat).th - 1).toNat).t.lab.s, vi (mAt G ((rAt (mAt G (E.run - 1).toNat).t.slots (E.a).toNat).th - 1).toNat).t.lab.v, vi 0, vi 0, .slice (pa ae) 4 V, .slice none 0 0, vi 0], vb true]) zf Z (Xb ⟨V, ae, ag, te, zb, zc, zd, ze, ap, fun _ => Z, Xv 16 hS hcl Z, ab, Xv 19 hS hcl Z, Vals.keep hvs Z, O⟩)
 refine Xi (fun S F Fl hS hbef hcl hI => ?_) ?_
 obtain ⟨V, ae, ag, tf, zg, zh, zi, zj, ap, ar, az, ab, aj, hvs, O⟩ := hI
 obtain ⟨Dv, d4, cv, bf, bg, dm⟩ := ap (Xl 14 hbef rfl)
 obtain zk := ar (Xl 15 hbef rfl)
 exact Ye (v := .agg #[vi (mAt G ((rAt (mAt G (E.run - 1).toNat).t.slots (E.a).toNat).th - 1).toNat).t.kind, vi (mAt G ((rAt (mAt G (E.run - 1).toNat).t.slots (E.a).toNat).th - 1).toNat).t.lab.s, vi (mAt G ((rAt (mAt G (E.run - 1).toNat).t.slots (E.a).toNat).th - 1).toNat).t.lab.v, vi 0, vi 0, .slice (pa ae) 4 V, .slice none 0 0, vi 0]) zk Z Z (Xb ⟨V, ae, ag, tf, zg, zh, zi, zj, ap, ar, fun _ => Z, ab, Xv 19 hS hcl Z, Vals.keep hvs Z, O⟩)
 refine Xi (fun S F Fm hS hbef hcl hI => ?_) ?_
 obtain ⟨V, ae, ag, tg, zl, zm, zn, zo, ap, ar, az, ab, aj, hvs, O⟩ := hI
 obtain ⟨Dx, d4, cv, bf, bg, dm⟩ := ap (Xl 14 hbef rfl)
 obtain zp := ar (Xl 15 hbef rfl)
 exact Ye (v := vb true) zp Z Z (Xb ⟨V, ae, ag, tg, zl, zm, zn, zo, ap, ar, az, ab, aj, Vals.up 14 hvs Z Z Z, O⟩)
 refine Xi (fun S F Fn hS hbef hcl hI => ?_) ?_
 obtain ⟨V, ae, ag, dv, zq, zr, zu, od, ap, ar, az, ab, aj, hvs, O⟩ := hI
 refine Yf (cs := #[vi 0, vi 0, vi 0, vi 0, vi 0, .slice none 0 0, .slice none 0 0, vi 0]) Ka Z Z ?_
 intro i5 Cf bn
 have kk := Yd bn (low0 du dv)
 have u7 : hi ≤ i5 := nt (nt (nt (nt (nt (Nat.le_of_eq hhi) aw.size) ak.grw.size) an.size) dv.size) (Nat.le_of_eq bn.eq.symm)
 have ek := Xo bn ((((((dy.grown0 be).grown0 aw).gn ak.grw).grown0 an).grown0 dv)).lt
 have ep := Xo bn (((ak.blk.grown0 an).grown0 dv)).lt
 exact Xb ⟨V, ae, i5, (low0 dv bn.grw), zq, zr, zu, od, fun h => let ⟨t8, t9, ua, uc, ud, ue⟩ := ap h; ⟨t8, t9, (ua).grown0 bn.grw, uc, ud, ue⟩, ar, az, fun _ => ⟨Z, kk, fun _ => bn.blk, ek, ep, (nt dv.size (Nat.le_of_eq bn.eq.symm))⟩, Xv 19 hS hcl Z, Vals.keep hvs Z, fun h _ => let ⟨Dm, Dn, uf, Do, Dp, Dq⟩ := ap h; Nat.ne_of_lt (nl (uf).lt (Nat.le_of_eq bn.eq.symm))⟩
 refine Xi (fun S F Cg hS hbef hcl hI => ?_) ?_
 obtain ⟨V, ae, ag, lm, oe, og, oh, ol, ap, ar, az, ab, aj, hvs, O⟩ := hI
 obtain ⟨A8, d4, cv, bf, bg, dm⟩ := ap (Xl 14 hbef rfl)
 obtain A9 := ar (Xl 15 hbef rfl)
 obtain om := az (Xl 16 hbef rfl)
 obtain ⟨oo, na, ga, fa, fc, kj⟩ := ab (Xl 18 hbef rfl)
 have fe := O (Xl 14 hbef rfl) (Xl 18 hbef rfl)
 refine Xy (vs := [vi (mAt G ((rAt (mAt G (E.run - 1).toNat).t.slots (E.a).toNat).th - 1).toNat).t.kind, vi (mAt G ((rAt (mAt G (E.run - 1).toNat).t.slots (E.a).toNat).th - 1).toNat).t.lab.s, vi (mAt G ((rAt (mAt G (E.run - 1).toNat).t.slots (E.a).toNat).th - 1).toNat).t.lab.v, vi 0, vi 0, .slice (pa ae) 4 V, .slice none 0 0, vi 0]) (cs' := #[vi (mAt G ((rAt (mAt G (E.run - 1).toNat).t.slots (E.a).toNat).th - 1).toNat).t.kind, vi (mAt G ((rAt (mAt G (E.run - 1).toNat).t.slots (E.a).toNat).th - 1).toNat).t.lab.s, vi (mAt G ((rAt (mAt G (E.run - 1).toNat).t.slots (E.a).toNat).th - 1).toNat).t.lab.v, vi 0, vi 0, .slice (pa ae) 4 V, .slice none 0 0, vi 0]) Ys oo om Z (by simp [Value.oneCell']) (ga hS) (Nat.le_of_ble_eq_true Z) Z ?_
 intro Ch fi
 exact Xb ⟨V, ae, ag, (low1 lm fi.grw (by omega)), oe, og, oh, ol, fun h => let ⟨ug, uh, uj, uk, ul, um⟩ := ap h; ⟨ug, uh, (uj).grown fi.grw (Jj (O h (Xl 18 hbef Z))), uk, ul, um⟩, ar, az, fun h => let ⟨un, uo, Dr, ut, uu, uv⟩ := ab h; ⟨un, uo, fun h => Jq h, ut, uu, uv⟩, fun _ => fi.blk, Vals.keep0 hvs Z, O⟩
 exact Jb
 intro S F Ci hall hI
 obtain ⟨V, ae, ag, ck, Ba, oq, ot, i9, ap, ar, az, ab, aj, hvs, O⟩ := hI
 obtain ⟨Bb, d4, cv, bf, bg, dm⟩ := ap (hall 14 (by decide))
 obtain Bc := ar (hall 15 (by decide))
 obtain Bd := az (hall 16 (by decide))
 obtain ⟨ja, na, ga, fa, fc, kj⟩ := ab (hall 18 (by decide))
 obtain gu := aj (hall 19 (by decide))
 have fe := O (hall 14 (by decide)) (hall 18 (by decide))
 refine Xe (v := vb true) (Vals.at 14 hvs Z (hall 17 (by decide))) Z (Xb (Xu (Xa (Xd (v := .slice (pa ao) G.length ai) oq Z (Xc (o' := 0) Yo i9 Z Z ?_)))))
 have kn := ((ak.blk.grown0 an).grown0 ck)
 refine Xh (v := vi (rAt (mAt G (E.run - 1).toNat).t.slots (E.a).toNat).th) X1 Z (kn.cell Z) Z (Yr (c := (rAt (mAt G (E.run - 1).toNat).t.slots (E.a).toNat).th - 1) Z Z (by omega) (by omega) (by omega) Z (X3 Qc Z Z gp gr (by omega) (by omega) Z (Xc (o' := ez + 3) Qz Z Z Z (Xh (v := vi (mAt G ((rAt (mAt G (E.run - 1).toNat).t.slots (E.a).toNat).th - 1).toNat).t.ve) X1 Z ((Yi gt ck) 3 _ Z) Z (Yl (c := (mAt G ((rAt (mAt G (E.run - 1).toNat).t.slots (E.a).toNat).th - 1).toNat).t.ve + 1) Z Z (by omega) (by omega) (by omega) Z (Xc (o' := 3) Qz ja Z Z (Yc (v := vi ((mAt G ((rAt (mAt G (E.run - 1).toNat).t.slots (E.a).toNat).th - 1).toNat).t.ve + 1)) (cs' := #[vi (mAt G ((rAt (mAt G (E.run - 1).toNat).t.slots (E.a).toNat).th - 1).toNat).t.kind, vi (mAt G ((rAt (mAt G (E.run - 1).toNat).t.slots (E.a).toNat).th - 1).toNat).t.lab.s, vi (mAt G ((rAt (mAt G (E.run - 1).toNat).t.slots (E.a).toNat).th - 1).toNat).t.lab.v, vi ((mAt G ((rAt (mAt G (E.run - 1).toNat).t.slots (E.a).toNat).th - 1).toNat).t.ve + 1), vi 0, .slice (pa ae) 4 V, .slice none 0 0, vi 0]) X1 Z Z Z gu (Nat.le_of_ble_eq_true Z) Z ?_)))))))
 intro Cj bu
 have lg := low1 (low0 du ck) bu.grw (by omega)
 refine Xb (Xq (Xa (Xe (v := vi 0) Z Z (Xb (X9 ?_)))))
 have ju := (TabG.ge (TabG.low ia ck) bu.grw ee (by omega))
 have jv := (TabG.ge (TabG.low (TabG.low (TabG.ge (TabG.low fm aw) ak.grw f9 (by omega)) an) ck) bu.grw f9 (by omega))
 have jw := (TabG.ge (TabG.low (TabG.low (TabG.ge (TabG.low d1 aw) ak.grw ff (by omega)) an) ck) bu.grw ff (by omega))
 have tw := (kn.gn bu.grw)
 have tx := (cv.gn bu.grw)
 refine Ql (fun mm f' w' => ∃ (i : Nat), mm = J.length - i ∧ i ≤ J.length ∧ TabG w.heap.size w' (pa ao) G ∧ TabG i2.heap.size w' (pa de) bt ∧ TabG i3.heap.size w' (ah) J ∧ hi ≤ w'.heap.size ∧ f' 12 = vi (i : Int) ∧ f' 7 = .slice ah J.length ac ∧ f' 9 = pt af 0 ∧ f' 10 = pt ag 0 ∧ w.grownBy w' none ∧ Blk w' af 33 #[vi (rAt (mAt G (E.run - 1).toNat).t.slots (E.a).toNat).th, vi (rAt (mAt G (E.run - 1).toNat).t.slots (E.a).toNat).ve, vb (rAt (mAt G (E.run - 1).toNat).t.slots (E.a).toNat).rd, vb (rAt (mAt G (E.run - 1).toNat).t.slots (E.a).toNat).wr, vb (rAt (mAt G (E.run - 1).toNat).t.slots (E.a).toNat).wk] ∧ Dw.Own w' ae 33 5 V zeros4.length (zeros4.flatMap Rt.cells) ∧ Blk w' ag 39 #[vi (mAt G ((rAt (mAt G (E.run - 1).toNat).t.slots (E.a).toNat).th - 1).toNat).t.kind, vi (mAt G ((rAt (mAt G (E.run - 1).toNat).t.slots (E.a).toNat).th - 1).toNat).t.lab.s, vi (mAt G ((rAt (mAt G (E.run - 1).toNat).t.slots (E.a).toNat).th - 1).toNat).t.lab.v, vi ((mAt G ((rAt (mAt G (E.run - 1).toNat).t.slots (E.a).toNat).th - 1).toNat).t.ve + 1), vi 0, .slice (pa ae) 4 V, .slice none 0 0, vi 0]) (J.length - 0) ⟨0, Z, (Nat.zero_le _), ju, jv, jw, (nt (nt (nt (nt (nt (Nat.le_of_eq hhi) aw.size) ak.grw.size) an.size) ck.size) bu.grw.size), Z, ot, i9, ja, lg, tw, tx, bu.blk⟩ ?_
 rintro mm Bf t6 ⟨i, Aw, hki, di, dk, ba, hhs, jb, gh, jc, jd, ig, ko, kp, kr⟩
 refine Xq (Xa (Xd (v := vi (i : Int)) jb Z (Xd (v := .slice ah J.length ac) gh Z (Y1 (by kernel_rfl) Z Z (Qg (q := decide ((i : Int) < (J.length : Int))) Z Z Z Z (Xb (X0 Z (fun c8 => ?_) (fun c8 => ?_))))))))
 have Bl := of_decide_eq_true c8
 refine Xz (Xu (Xq (X9 (Xa (Xe (v := vi 0) Z Z (Xb (X9 (Ql (fun mm f' w' => ∃ (k : Nat), mm = (mAt J i).t.slots.length - k ∧ k ≤ (mAt J i).t.slots.length ∧ TabG w.heap.size w' (pa ao) G ∧ TabG i2.heap.size w' (pa de) bt ∧ TabG i3.heap.size w' (ah) J ∧ hi ≤ w'.heap.size ∧ f' 13 = vi (k : Int) ∧ f' 7 = .slice ah J.length ac ∧ f' 9 = pt af 0 ∧ f' 10 = pt ag 0 ∧ f' 12 = vi (i : Int) ∧ w.grownBy w' none ∧ Blk w' af 33 #[vi (rAt (mAt G (E.run - 1).toNat).t.slots (E.a).toNat).th, vi (rAt (mAt G (E.run - 1).toNat).t.slots (E.a).toNat).ve, vb (rAt (mAt G (E.run - 1).toNat).t.slots (E.a).toNat).rd, vb (rAt (mAt G (E.run - 1).toNat).t.slots (E.a).toNat).wr, vb (rAt (mAt G (E.run - 1).toNat).t.slots (E.a).toNat).wk] ∧ Dw.Own w' ae 33 5 V zeros4.length (zeros4.flatMap Rt.cells) ∧ Blk w' ag 39 #[vi (mAt G ((rAt (mAt G (E.run - 1).toNat).t.slots (E.a).toNat).th - 1).toNat).t.kind, vi (mAt G ((rAt (mAt G (E.run - 1).toNat).t.slots (E.a).toNat).th - 1).toNat).t.lab.s, vi (mAt G ((rAt (mAt G (E.run - 1).toNat).t.slots (E.a).toNat).th - 1).toNat).t.lab.v, vi ((mAt G ((rAt (mAt G (E.run - 1).toNat).t.slots (E.a).toNat).th - 1).toNat).t.ve + 1), vi 0, .slice (pa ae) 4 V, .slice none 0 0, vi 0]) ((mAt J i).t.slots.length - 0) ⟨0, Z, (Nat.zero_le _), di, dk, ba, hhs, Z, gh, jc, jd, jb, ig, ko, kp, kr⟩ ?_))))))))
 rintro mm Bg gx ⟨k, Ax, hkk, di, dk, ba, hhs, dq, cm, d9, gi, cy, ii, fv, ks, kt⟩
 refine Xq (Xa (Xd (v := vi (k : Int)) dq Z (Xd (v := .slice ah J.length ac) cm Z (Xd (v := vi (i : Int)) cy Z ?_))))
 obtain ⟨dn, B6, bw, d2, d5, d7⟩ := SlAt.at (TabG.at ba).1 (Yp (xg J i))
 have zy := TabLen.at bp (xg J i)
 refine X3 Qc Z Z d2 d5 (by omega) (by omega) Z (Xc (o' := bw + 5) Qj Z Z Z (Xh (v := .slice (mAt J i).sa (mAt J i).t.slots.length (mAt J i).sc) Jd Z (d7 5 _ Z) Z (Y1 (by kernel_rfl) Z Z (Qg (q := decide ((k : Int) < ((mAt J i).t.slots.length : Int))) Z Z Z Z (Xb (X0 Z (fun c9 => ?_) (fun c9 => ?_)))))))
 have Bm := of_decide_eq_true c9
 refine Xz (Xu (Xq (X9 (Kj (fun f' w' => (f' 7 = .slice ah J.length ac ∧ f' 9 = pt af 0 ∧ f' 10 = pt ag 0 ∧ f' 12 = vi (i : Int) ∧ f' 13 = vi (k : Int) ∧ f' 168 = vb ((decide ((rAt (mAt J i).t.slots k).th = (rAt (mAt G (E.run - 1).toNat).t.slots (E.a).toNat).th)) && tabLive (callDo (tabT G) E).1 (rAt (mAt J i).t.slots k))) ∧ gx.grownBy w' none) ?_ ?_))))
 rcases Yg (decide ((rAt (mAt J i).t.slots k).th = (rAt (mAt G (E.run - 1).toNat).t.slots (E.a).toNat).th)) with al | al
 have Bn := of_decide_eq_true al
 obtain ⟨gf, B7, fx, ic, ix, iz⟩ := SlAt.at (TabAt.th (TabG.at ba) (xg J i)).1 (Yp (xr (mAt J i).t.slots k))
 refine Yy (m := 22) (vals := [(145, .slice ah J.length ac), (146, vi (i : Int)), (147, pt dn bw), (148, pt dn (bw + 5)), (149, .slice (mAt J i).sa (mAt J i).t.slots.length (mAt J i).sc), (150, vi (k : Int)), (151, pt gf fx), (152, pt gf fx), (153, vi (rAt (mAt J i).t.slots k).th), (154, pt af 0), (155, vi (rAt (mAt G (E.run - 1).toNat).t.slots (E.a).toNat).th), (156, vb (decide ((rAt (mAt J i).t.slots k).th = (rAt (mAt G (E.run - 1).toNat).t.slots (E.a).toNat).th))), (157, vb (decide ((rAt (mAt J i).t.slots k).th = (rAt (mAt G (E.run - 1).toNat).t.slots (E.a).toNat).th))), (158, .slice ah J.length ac), (159, .slice ah J.length ac), (160, vi (i : Int)), (161, pt dn bw), (162, pt dn (bw + 5)), (163, .slice (mAt J i).sa (mAt J i).t.slots.length (mAt J i).sc), (164, vi (k : Int)), (165, pt gf fx), (166, .agg #[vi (rAt (mAt J i).t.slots k).th, vi (rAt (mAt J i).t.slots k).ve, vb (rAt (mAt J i).t.slots k).rd, vb (rAt (mAt J i).t.slots k).wr, vb (rAt (mAt J i).t.slots k).wk])]) (fun w' => gx.grownBy w' none) Yz (by kernel_rfl) (X8 _) ?_ ?_
 refine yl Z (fun _ _ k => Xd (v := .slice ah J.length ac) cm Z k) (yl Z (fun _ _ k => Xd (v := vi (i : Int)) cy Z k) (yl Z (fun _ _ k => X3 Qc Z Z d2 d5 (by omega) (by omega) Z k) (yl Z (fun _ _ k => Xc (o' := bw + 5) Qj Z Z Z k) (yl Z (fun _ ln k => Xh (v := .slice (mAt J i).sa (mAt J i).t.slots.length (mAt J i).sc) Jd Z ((Yi d7 ln) 5 _ Z) Z k) (yl Z (fun _ _ kq => Xd (v := vi (k : Int)) dq Z kq) (yl Z (fun _ _ k => X3 J9 Z Z ic ix (by omega) (by omega) Z k) (yl Z (fun _ _ k => Xc (o' := fx) Yo Z Z Z k) (yl Z (fun _ lp kq => Xh (v := vi (rAt (mAt J i).t.slots k).th) X1 Z ((Yi iz lp) 0 _ Z) Z kq) (yl Z (fun _ _ k => Xc (o' := 0) Yo d9 Z Z k) (yl Z (fun _ lu k => Xh (v := vi (rAt (mAt G (E.run - 1).toNat).t.slots (E.a).toNat).th) X1 Z ((fv.grown0 lu).cell Z) Z k) ?_))))))))))
 refine yl Z (fun _ _ kq => X6 (q := decide ((rAt (mAt J i).t.slots k).th = (rAt (mAt G (E.run - 1).toNat).t.slots (E.a).toNat).th)) Z Z Z Z kq) (yl Z (fun _ _ kq => Xd (v := vb (decide ((rAt (mAt J i).t.slots k).th = (rAt (mAt G (E.run - 1).toNat).t.slots (E.a).toNat).th))) Z Z kq) (yl Z (fun _ _ k => Xg Z Z Z al (Xd (v := .slice ah J.length ac) cm Z k)) (yl Z (fun _ _ k => Xg Z Z Z al (Xd (v := .slice ah J.length ac) cm Z k)) (yl Z (fun _ _ k => Xg Z Z Z al (Xd (v := vi (i : Int)) cy Z k)) (yl Z (fun _ _ k => Xg Z Z Z al (X3 Qc Z Z d2 d5 (by omega) (by omega) Z k)) (yl Z (fun _ _ k => Xg Z Z Z al (Xc (o' := bw + 5) Qj Z Z Z k)) (yl Z (fun _ lv k => Xg Z Z Z al (Xh (v := .slice (mAt J i).sa (mAt J i).t.slots.length (mAt J i).sc) Jd Z ((Yi d7 lv) 5 _ Z) Z k)) (yl Z (fun _ _ kq => Xg Z Z Z al (Xd (v := vi (k : Int)) dq Z kq)) (yl Z (fun _ _ k => Xg Z Z Z al (X3 J9 Z Z ic ix (by omega) (by omega) Z k)) (yl Z (fun _ lw kq => Xg Z Z Z al (Xr (vs := [vi (rAt (mAt J i).t.slots k).th, vi (rAt (mAt J i).t.slots k).ve, vb (rAt (mAt J i).t.slots k).rd, vb (rAt (mAt J i).t.slots k).wr, vb (rAt (mAt J i).t.slots k).wk]) Y0 Z Z (Y2 (Yi iz lw) 0 5 Z) Z kq)) ?_))))))))))
 exact Y8
 intro Ck ip
 refine Xg Z Z Z al (Xn F6 (Xf Z (Xf Z Xm)) Z (We (rAt (mAt J i).t.slots k) _ J _ _ (TabG.at (TabG.low ba ip)) bp (by omega)) ?_)
 rintro _ Cm ⟨rfl, li⟩
 exact Xw (v := vb (tabLive (callDo (tabT G) E).1 (rAt (mAt J i).t.slots k))) Z al (congrArg (fun T : List Th => Value.bool (tabLive T (rAt (mAt J i).t.slots k))) bj) Z (Xb (Xu ⟨⟨cm, d9, gi, cy, dq, (congrArg Value.bool (by first | (simp only [bb, c8, c9, al, bc, au, bk, ca, bl, cc, bm, cd, dg, dx, dh, bh, av, a9, bi, aq, b0, b1, b2, b3, b4, b5, b6, b7, b8, b9]; done) | simp [bb, c8, c9, al, bc, au, bk, ca, bl, cc, bm, cd, dg, dx, dh, bh, av, a9, bi, aq]))⟩, (grown_trans ip li)⟩))
 have Bo := of_decide_eq_false al
 obtain ⟨i7, B8, gv, lc, nc, ng⟩ := SlAt.at (TabAt.th (TabG.at ba) (xg J i)).1 (Yp (xr (mAt J i).t.slots k))
 refine Yy (m := 22) (vals := [(145, .slice ah J.length ac), (146, vi (i : Int)), (147, pt dn bw), (148, pt dn (bw + 5)), (149, .slice (mAt J i).sa (mAt J i).t.slots.length (mAt J i).sc), (150, vi (k : Int)), (151, pt i7 gv), (152, pt i7 gv), (153, vi (rAt (mAt J i).t.slots k).th), (154, pt af 0), (155, vi (rAt (mAt G (E.run - 1).toNat).t.slots (E.a).toNat).th), (156, vb (decide ((rAt (mAt J i).t.slots k).th = (rAt (mAt G (E.run - 1).toNat).t.slots (E.a).toNat).th))), (157, vb (decide ((rAt (mAt J i).t.slots k).th = (rAt (mAt G (E.run - 1).toNat).t.slots (E.a).toNat).th))), (158, undef), (159, undef), (160, undef), (161, undef), (162, undef), (163, undef), (164, undef), (165, undef), (166, undef)]) (fun w' => gx.grownBy w' none) Yz (by kernel_rfl) (X8 _) ?_ ?_
 refine yl Z (fun _ _ k => Xd (v := .slice ah J.length ac) cm Z k) (yl Z (fun _ _ k => Xd (v := vi (i : Int)) cy Z k) (yl Z (fun _ _ k => X3 Qc Z Z d2 d5 (by omega) (by omega) Z k) (yl Z (fun _ _ k => Xc (o' := bw + 5) Qj Z Z Z k) (yl Z (fun _ ly k => Xh (v := .slice (mAt J i).sa (mAt J i).t.slots.length (mAt J i).sc) Jd Z ((Yi d7 ly) 5 _ Z) Z k) (yl Z (fun _ _ kq => Xd (v := vi (k : Int)) dq Z kq) (yl Z (fun _ _ k => X3 J9 Z Z lc nc (by omega) (by omega) Z k) (yl Z (fun _ _ k => Xc (o' := gv) Yo Z Z Z k) (yl Z (fun _ lz kq => Xh (v := vi (rAt (mAt J i).t.slots k).th) X1 Z ((Yi ng lz) 0 _ Z) Z kq) (yl Z (fun _ _ k => Xc (o' := 0) Yo d9 Z Z k) (yl Z (fun _ l0 k => Xh (v := vi (rAt (mAt G (E.run - 1).toNat).t.slots (E.a).toNat).th) X1 Z ((fv.grown0 l0).cell Z) Z k) ?_))))))))))
 refine yl Z (fun _ _ kq => X6 (q := decide ((rAt (mAt J i).t.slots k).th = (rAt (mAt G (E.run - 1).toNat).t.slots (E.a).toNat).th)) Z Z Z Z kq) (yl Z (fun _ _ kq => Xd (v := vb (decide ((rAt (mAt J i).t.slots k).th = (rAt (mAt G (E.run - 1).toNat).t.slots (E.a).toNat).th))) Z Z kq) (yl Z (fun _ _ k => Xj Z Z Z al Z k) (yl Z (fun _ _ k => Xj Z Z Z al Z k) (yl Z (fun _ _ k => Xj Z Z Z al Z k) (yl Z (fun _ _ k => Xj Z Z Z al Z k) (yl Z (fun _ _ k => Xj Z Z Z al Z k) (yl Z (fun _ _ k => Xj Z Z Z al Z k) (yl Z (fun _ _ k => Xj Z Z Z al Z k) (yl Z (fun _ _ k => Xj Z Z Z al Z k) (yl Z (fun _ _ k => Xj Z Z Z al Z k) ?_))))))))))
 exact Y8
 intro Cn l3
 exact Xj Z Z Z al Z (Xp (v := vb false) Z al Z Z (Xb (Xu ⟨⟨cm, d9, gi, cy, dq, (congrArg Value.bool (by first | (simp only [bb, c8, c9, al, bc, au, bk, ca, bl, cc, bm, cd, dg, dx, dh, bh, av, a9, bi, aq, b0, b1, b2, b3, b4, b5, b6, b7, b8, b9]; done) | simp [bb, c8, c9, al, bc, au, bk, ca, bl, cc, bm, cd, dg, dx, dh, bh, av, a9, bi, aq]))⟩, l3⟩)))
 rintro Bh Co ⟨⟨ou, ov, ow, ox, oy, oz⟩, bv⟩
 have ij := low0 ii bv
 refine X0 oz (fun gl => ?_) (fun gl => ?_)
 have jq := L0 gl
 have Bp := of_decide_eq_true jq
 have r2 := L1 gl
 refine Xa (Xe (v := vb false) Z Z (Xb (Xt (Qn (Yk (Yk (Qn (Qn (Yk (Yk (Qn (Yk ?_))))))))))))
 refine ⟨vb false, Yt Z Z, ?_, ij⟩
 exact absurd r2 (by rw [← bj, j6 i k (by omega) (of_decide_eq_true jq)]; exact Bool.false_ne_true)
 exact Xz (Y3 (Xu (X2 (Xd (v := vi (k : Int)) oy Z (Yl (c := (k : Int) + 1) Z Z (by omega) (by omega) (by omega) Z (Xe (v := vi ((k : Int) + 1)) Z Z (Xb (Xu (⟨(mAt J i).t.slots.length - (k + 1), by omega, (k + 1), Z, (by omega), (TabG.low di bv), (TabG.low dk bv), (TabG.low ba bv), (nt hhs bv.size), Z, ou, ov, ow, ox, ij, (fv.grown0 bv), (ks.grown0 bv), (kt.grown0 bv)⟩)))))))))
 have Bq := of_decide_eq_false c9
 exact Qf (Y9 (Y9 (Jh (Y3 (Xu (X2 (Xd (v := vi (i : Int)) cy Z (Yl (c := (i : Int) + 1) Z Z (by omega) (by omega) (by omega) Z (Xe (v := vi ((i : Int) + 1)) Z Z (Xb (Xu (⟨J.length - (i + 1), by omega, (i + 1), Z, (by omega), di, dk, ba, hhs, Z, cm, d9, gi, ii, fv, ks, kt⟩))))))))))))
 have Br := of_decide_eq_false c8
 refine Qf (Y9 (Y9 (Jh (Xu (Xq ?_)))))
 obtain ⟨ob, B9, t4, ld, nd, nh⟩ := SlAt.at (TabG.at ba).1 (Yp (xg J ((rAt (mAt G (E.run - 1).toNat).t.slots (E.a).toNat).th - 1).toNat))
 have zz := TabLen.at bp (xg J ((rAt (mAt G (E.run - 1).toNat).t.slots (E.a).toNat).th - 1).toNat)
 refine Yy (m := 7) (vals := [(169, .slice ah J.length ac), (170, pt af 0), (171, vi (rAt (mAt G (E.run - 1).toNat).t.slots (E.a).toNat).th), (172, vi ((rAt (mAt G (E.run - 1).toNat).t.slots (E.a).toNat).th - 1)), (173, pt ob t4), (174, .agg #[vi (mAt J ((rAt (mAt G (E.run - 1).toNat).t.slots (E.a).toNat).th - 1).toNat).t.kind, vi (mAt J ((rAt (mAt G (E.run - 1).toNat).t.slots (E.a).toNat).th - 1).toNat).t.lab.s, vi (mAt J ((rAt (mAt G (E.run - 1).toNat).t.slots (E.a).toNat).th - 1).toNat).t.lab.v, vi (mAt J ((rAt (mAt G (E.run - 1).toNat).t.slots (E.a).toNat).th - 1).toNat).t.ve, vi (mAt J ((rAt (mAt G (E.run - 1).toNat).t.slots (E.a).toNat).th - 1).toNat).t.num, .slice (mAt J ((rAt (mAt G (E.run - 1).toNat).t.slots (E.a).toNat).th - 1).toNat).sa (mAt J ((rAt (mAt G (E.run - 1).toNat).t.slots (E.a).toNat).th - 1).toNat).t.slots.length (mAt J ((rAt (mAt G (E.run - 1).toNat).t.slots (E.a).toNat).th - 1).toNat).sc, .slice (mAt J ((rAt (mAt G (E.run - 1).toNat).t.slots (E.a).toNat).th - 1).toNat).qa (mAt J ((rAt (mAt G (E.run - 1).toNat).t.slots (E.a).toNat).th - 1).toNat).t.queue.length (mAt J ((rAt (mAt G (E.run - 1).toNat).t.slots (E.a).toNat).th - 1).toNat).qc, vi (mAt J ((rAt (mAt G (E.run - 1).toNat).t.slots (E.a).toNat).th - 1).toNat).t.to]), (175, .agg #[vi (mAt G ((rAt (mAt G (E.run - 1).toNat).t.slots (E.a).toNat).th - 1).toNat).t.kind, vi (mAt G ((rAt (mAt G (E.run - 1).toNat).t.slots (E.a).toNat).th - 1).toNat).t.lab.s, vi (mAt G ((rAt (mAt G (E.run - 1).toNat).t.slots (E.a).toNat).th - 1).toNat).t.lab.v, vi ((mAt G ((rAt (mAt G (E.run - 1).toNat).t.slots (E.a).toNat).th - 1).toNat).t.ve + 1), vi 0, .slice (pa ae) 4 V, .slice none 0 0, vi 0])]) (fun w' => t6.grownBy w' none) Yz (by kernel_rfl) (X8 _) ?_ ?_
 exact yl Z (fun _ _ k => Xd (v := .slice ah J.length ac) gh Z k) (yl Z (fun _ _ k => Xc (o' := 0) Yo jc Z Z k) (yl Z (fun _ l4 k => Xh (v := vi (rAt (mAt G (E.run - 1).toNat).t.slots (E.a).toNat).th) X1 Z ((ko.grown0 l4).cell Z) Z k) (yl Z (fun _ _ k => Yr (c := (rAt (mAt G (E.run - 1).toNat).t.slots (E.a).toNat).th - 1) Z Z (by omega) (by omega) (by omega) Z k) (yl Z (fun _ _ k => X3 Qc Z Z ld nd (by omega) (by omega) Z k) (yl Z (fun _ l5 k => Xr (vs := [vi (mAt J ((rAt (mAt G (E.run - 1).toNat).t.slots (E.a).toNat).th - 1).toNat).t.kind, vi (mAt J ((rAt (mAt G (E.run - 1).toNat).t.slots (E.a).toNat).th - 1).toNat).t.lab.s, vi (mAt J ((rAt (mAt G (E.run - 1).toNat).t.slots (E.a).toNat).th - 1).toNat).t.lab.v, vi (mAt J ((rAt (mAt G (E.run - 1).toNat).t.slots (E.a).toNat).th - 1).toNat).t.ve, vi (mAt J ((rAt (mAt G (E.run - 1).toNat).t.slots (E.a).toNat).th - 1).toNat).t.num, .slice (mAt J ((rAt (mAt G (E.run - 1).toNat).t.slots (E.a).toNat).th - 1).toNat).sa (mAt J ((rAt (mAt G (E.run - 1).toNat).t.slots (E.a).toNat).th - 1).toNat).t.slots.length (mAt J ((rAt (mAt G (E.run - 1).toNat).t.slots (E.a).toNat).th - 1).toNat).sc, .slice (mAt J ((rAt (mAt G (E.run - 1).toNat).t.slots (E.a).toNat).th - 1).toNat).qa (mAt J ((rAt (mAt G (E.run - 1).toNat).t.slots (E.a).toNat).th - 1).toNat).t.queue.length (mAt J ((rAt (mAt G (E.run - 1).toNat).t.slots (E.a).toNat).th - 1).toNat).qc, vi (mAt J ((rAt (mAt G (E.run - 1).toNat).t.slots (E.a).toNat).th - 1).toNat).t.to]) Ys Z Z (Y2 (Yi nh l5) 0 8 Z) Z k) (yl Z (fun _ l6 k => Xr (vs := [vi (mAt G ((rAt (mAt G (E.run - 1).toNat).t.slots (E.a).toNat).th - 1).toNat).t.kind, vi (mAt G ((rAt (mAt G (E.run - 1).toNat).t.slots (E.a).toNat).th - 1).toNat).t.lab.s, vi (mAt G ((rAt (mAt G (E.run - 1).toNat).t.slots (E.a).toNat).th - 1).toNat).t.lab.v, vi ((mAt G ((rAt (mAt G (E.run - 1).toNat).t.slots (E.a).toNat).th - 1).toNat).t.ve + 1), vi 0, .slice (pa ae) 4 V, .slice none 0 0, vi 0]) Ys jd Z ((kr.grown0 l6).rangeL 0 8 Z) Z k) Y8))))))
 intro Cp fr
 have jx := (TabG.low ba fr)
 have tz := (kp.grown0 fr)
 refine Xn Rg (Xf Z (Xf Z Xm)) Z (Um (mAt J ((rAt (mAt G (E.run - 1).toNat).t.slots (E.a).toNat).th - 1).toNat) (⟨⟨(mAt G ((rAt (mAt G (E.run - 1).toNat).t.slots (E.a).toNat).th - 1).toNat).t.kind, (mAt G ((rAt (mAt G (E.run - 1).toNat).t.slots (E.a).toNat).th - 1).toNat).t.lab, (mAt G ((rAt (mAt G (E.run - 1).toNat).t.slots (E.a).toNat).th - 1).toNat).t.ve + 1, 0, zeros4, [], 0⟩, some ⟨ae, 0, none⟩, V, none, 0⟩ : MTh) _ (TabAt.th (TabG.at jx) (xg J ((rAt (mAt G (E.run - 1).toNat).t.slots (E.a).toNat).th - 1).toNat)) ⟨(Own.sl Qx tz), SlAt.nil, (fun h => by cases h), (fun _ => Z)⟩ ⟨by first | omega | exact Nat.le_of_ble_eq_true Z | (simp only [List.length_nil, List.length_cons, List.length_append, List.length_replicate]; omega), by first | omega | exact Nat.le_of_ble_eq_true Z | (simp only [List.length_nil, List.length_cons, List.length_append, List.length_replicate]; omega)⟩ ⟨by first | omega | exact Nat.le_of_ble_eq_true Z | (simp only [List.length_nil, List.length_cons, List.length_append, List.length_replicate]; omega), by first | omega | exact Nat.le_of_ble_eq_true Z | (simp only [List.length_nil, List.length_cons, List.length_append, List.length_replicate]; omega)⟩) ?_
 rintro _ Cq ⟨rfl, lj⟩
 refine Xe (v := vb (decide ((mAt J ((rAt (mAt G (E.run - 1).toNat).t.slots (E.a).toNat).th - 1).toNat).t = (⟨(mAt G ((rAt (mAt G (E.run - 1).toNat).t.slots (E.a).toNat).th - 1).toNat).t.kind, (mAt G ((rAt (mAt G (E.run - 1).toNat).t.slots (E.a).toNat).th - 1).toNat).t.lab, (mAt G ((rAt (mAt G (E.run - 1).toNat).t.slots (E.a).toNat).th - 1).toNat).t.ve + 1, 0, zeros4, [], 0⟩ : Th)))) Z Z (Xb (Xu (Xt (⟨vb (decide ((mAt J ((rAt (mAt G (E.run - 1).toNat).t.slots (E.a).toNat).th - 1).toNat).t = (⟨(mAt G ((rAt (mAt G (E.run - 1).toNat).t.slots (E.a).toNat).th - 1).toNat).t.kind, (mAt G ((rAt (mAt G (E.run - 1).toNat).t.slots (E.a).toNat).th - 1).toNat).t.lab, (mAt G ((rAt (mAt G (E.run - 1).toNat).t.slots (E.a).toNat).th - 1).toNat).t.ve + 1, 0, zeros4, [], 0⟩ : Th))), Yt Z Z, ?_, (low0 (low0 ig fr) lj)⟩))))
 exact congrArg Value.bool (decide_eq_true (j5.trans ((Nc j7 j8).1 bh)))
 have eb := Kl bh
 have Bs := of_decide_eq_false eb
 have ed := Km bh
 have Bt := of_decide_eq_false ed
 refine Xq ?_
 have f8 := (TabG.low (TabG.ge (TabG.low cg aw) ak.grw ee (by omega)) an)
 obtain ⟨fh, Ca, dc, fo, ft, fu⟩ := SlAt.at (TabG.at f8).1 (Yp (xg G ((rAt (mAt G (E.run - 1).toNat).t.slots (E.a).toNat).th - 1).toNat))
 have z0 := TabLen.at bq (xg G ((rAt (mAt G (E.run - 1).toNat).t.slots (E.a).toNat).th - 1).toNat)
 have A7 : hi ≤ dz.heap.size := (nt (nt (nt (Nat.le_of_eq hhi) aw.size) ak.grw.size) an.size)
 refine Qv (m := 20) [[], [], [1], [1, 2], [0, 1, 2, 3], [0, 1, 2, 3, 4], [0, 1, 2, 3, 4, 5], [], [], [8], [8, 9], [7, 8, 9, 10], [7, 8, 9, 10, 11], [7, 8, 9, 10, 11, 12], [0, 1, 2, 3, 4, 5, 6, 7, 8, 9, 10, 11, 12, 13], [0, 1, 2, 3, 4, 5, 6, 7, 8, 9, 10, 11, 12, 13, 14], [0, 1, 2, 3, 4, 5, 6, 7, 8, 9, 10, 11, 12, 13, 14, 15], [0, 1, 2, 3, 4, 5, 6, 7, 8, 9, 10, 11, 12, 13, 14, 15], [], [0, 1, 2, 3, 4, 5, 6, 7, 8, 9, 10, 11, 12, 13, 14, 15, 16, 18], [0, 1, 2, 3, 4, 5, 6, 7, 8, 9, 10, 11, 12, 13, 14, 15, 16, 17, 18, 19]] (fun S F w' => ∃ (ad : Nat), dz.grownBy w' none ∧ F 2 = vb false ∧ F 3 = .slice (pa ao) G.length ai ∧ F 7 = .slice ah J.length ac ∧ F 9 = pt af 0 ∧ (S 18 = true → F 10 = pt ad 0 ∧ w.heap.size ≤ ad ∧ (S 19 = false → Blk w' ad 39 #[vi 0, vi 0, vi 0, vi 0, vi 0, .slice none 0 0, .slice none 0 0, vi 0]) ∧ dw < ad ∧ af < ad ∧ dz.heap.size ≤ ad) ∧ (S 19 = true → Blk w' ad 39 #[vi (mAt G ((rAt (mAt G (E.run - 1).toNat).t.slots (E.a).toNat).th - 1).toNat).t.kind, vi (mAt G ((rAt (mAt G (E.run - 1).toNat).t.slots (E.a).toNat).th - 1).toNat).t.lab.s, vi (mAt G ((rAt (mAt G (E.run - 1).toNat).t.slots (E.a).toNat).th - 1).toNat).t.lab.v, vi 0, vi 0, .slice none 0 0, .slice none 0 0, vi 0]) ∧ Vals S F [(0, 103, .slice (pa ao) G.length ai), (1, 104, pt af 0), (2, 105, vi (rAt (mAt G (E.run - 1).toNat).t.slots (E.a).toNat).th), (3, 106, vi ((rAt (mAt G (E.run - 1).toNat).t.slots (E.a).toNat).th - 1)), (4, 107, pt fh dc), (5, 108, pt fh dc), (6, 109, vi (mAt G ((rAt (mAt G (E.run - 1).toNat).t.slots (E.a).toNat).th - 1).toNat).t.kind), (7, 110, .slice (pa ao) G.length ai), (8, 111, pt af 0), (9, 112, vi (rAt (mAt G (E.run - 1).toNat).t.slots (E.a).toNat).th), (10, 113, vi ((rAt (mAt G (E.run - 1).toNat).t.slots (E.a).toNat).th - 1)), (11, 114, pt fh dc), (12, 115, pt fh (dc + 1)), (13, 116, .agg #[vi (mAt G ((rAt (mAt G (E.run - 1).toNat).t.slots (E.a).toNat).th - 1).toNat).t.lab.s, vi (mAt G ((rAt (mAt G (E.run - 1).toNat).t.slots (E.a).toNat).th - 1).toNat).t.lab.v]), (14, 117, .tuple #[.agg #[vi (mAt G ((rAt (mAt G (E.run - 1).toNat).t.slots (E.a).toNat).th - 1).toNat).t.kind, vi (mAt G ((rAt (mAt G (E.run - 1).toNat).t.slots (E.a).toNat).th - 1).toNat).t.lab.s, vi (mAt G ((rAt (mAt G (E.run - 1).toNat).t.slots (E.a).toNat).th - 1).toNat).t.lab.v, vi 0, vi 0, .slice none 0 0, .slice none 0 0, vi 0], vb true]), (15, 102, .tuple #[.agg #[vi (mAt G ((rAt (mAt G (E.run - 1).toNat).t.slots (E.a).toNat).th - 1).toNat).t.kind, vi (mAt G ((rAt (mAt G (E.run - 1).toNat).t.slots (E.a).toNat).th - 1).toNat).t.lab.s, vi (mAt G ((rAt (mAt G (E.run - 1).toNat).t.slots (E.a).toNat).th - 1).toNat).t.lab.v, vi 0, vi 0, .slice none 0 0, .slice none 0 0, vi 0], vb true]), (16, 118, .agg #[vi (mAt G ((rAt (mAt G (E.run - 1).toNat).t.slots (E.a).toNat).th - 1).toNat).t.kind, vi (mAt G ((rAt (mAt G (E.run - 1).toNat).t.slots (E.a).toNat).th - 1).toNat).t.lab.s, vi (mAt G ((rAt (mAt G (E.run - 1).toNat).t.slots (E.a).toNat).th - 1).toNat).t.lab.v, vi 0, vi 0, .slice none 0 0, .slice none 0 0, vi 0]), (17, 119, vb true)]) Yz (by kernel_rfl) ⟨0, X8 _, nw, jo, jp, g5, Ym, Ym, J2 _⟩ ?_ ?_
 refine Xi (fun S F Cr hS hbef hcl hI => ?_) ?_
 obtain ⟨ad, l7, o0, je, o1, o3, ab, aj, hvs⟩ := hI
 exact Xd (v := .slice (pa ao) G.length ai) je Z (Xb ⟨ad, l7, o0, je, o1, o3, ab, Xv 19 hS hcl Z, Vals.up 0 hvs Z Z Z⟩)
 refine Xi (fun S F Cs hS hbef hcl hI => ?_) ?_
 obtain ⟨ad, l8, o4, o5, o6, jf, ab, aj, hvs⟩ := hI
 exact Xc (o' := 0) Yo jf Z Z (Xb ⟨ad, l8, o4, o5, o6, jf, ab, Xv 19 hS hcl Z, Vals.up 1 hvs Z Z Z⟩)
 refine Xi (fun S F Ct hS hbef hcl hI => ?_) ?_
 obtain ⟨ad, iq, o7, o8, o9, pb, ab, aj, hvs⟩ := hI
 exact Xh (v := vi (rAt (mAt G (E.run - 1).toNat).t.slots (E.a).toNat).th) X1 (Vals.at 1 hvs Z (Xl 1 hbef Z)) (((ak.blk.grown0 an).grown0 iq).cell Z) Z (Xb ⟨ad, iq, o7, o8, o9, pb, ab, Xv 19 hS hcl Z, Vals.up 2 hvs Z Z Z⟩)
 refine Xi (fun S F Cu hS hbef hcl hI => ?_) ?_
 obtain ⟨ad, l9, pc, pd, pe, pf, ab, aj, hvs⟩ := hI
 exact Yr (c := (rAt (mAt G (E.run - 1).toNat).t.slots (E.a).toNat).th - 1) (Vals.at 2 hvs Z (Xl 2 hbef Z)) Z (by omega) (by omega) (by omega) Z (Xb ⟨ad, l9, pc, pd, pe, pf, ab, Xv 19 hS hcl Z, Vals.up 3 hvs Z Z Z⟩)
 refine Xi (fun S F Cv hS hbef hcl hI => ?_) ?_
 obtain ⟨ad, ma, pg, ph, pi, pj, ab, aj, hvs⟩ := hI
 exact X3 Qc (Vals.at 0 hvs Z (Xl 0 hbef Z)) (Vals.at 3 hvs Z (Xl 3 hbef Z)) fo ft (by omega) (by omega) Z (Xb ⟨ad, ma, pg, ph, pi, pj, ab, Xv 19 hS hcl Z, Vals.up 4 hvs Z Z Z⟩)
 refine Xi (fun S F Cw hS hbef hcl hI => ?_) ?_
 obtain ⟨ad, mb, pk, pl, pm, pn, ab, aj, hvs⟩ := hI
 exact Xc (o' := dc) Qd (Vals.at 4 hvs Z (Xl 4 hbef Z)) Z Z (Xb ⟨ad, mb, pk, pl, pm, pn, ab, Xv 19 hS hcl Z, Vals.up 5 hvs Z Z Z⟩)
 refine Xi (fun S F Cx hS hbef hcl hI => ?_) ?_
 obtain ⟨ad, ir, po, pp, pq, pr, ab, aj, hvs⟩ := hI
 exact Xh (v := vi (mAt G ((rAt (mAt G (E.run - 1).toNat).t.slots (E.a).toNat).th - 1).toNat).t.kind) X1 (Vals.at 5 hvs Z (Xl 5 hbef Z)) ((Yi fu ir) 0 _ Z) Z (Xb ⟨ad, ir, po, pp, pq, pr, ab, Xv 19 hS hcl Z, Vals.up 6 hvs Z Z Z⟩)
 refine Xi (fun S F Cy hS hbef hcl hI => ?_) ?_
 obtain ⟨ad, mc, pu, jg, pv, pw, ab, aj, hvs⟩ := hI
 exact Xd (v := .slice (pa ao) G.length ai) jg Z (Xb ⟨ad, mc, pu, jg, pv, pw, ab, Xv 19 hS hcl Z, Vals.up 7 hvs Z Z Z⟩)
 refine Xi (fun S F Cz hS hbef hcl hI => ?_) ?_
 obtain ⟨ad, me, px, py, pz, jh, ab, aj, hvs⟩ := hI
 exact Xc (o' := 0) Yo jh Z Z (Xb ⟨ad, me, px, py, pz, jh, ab, Xv 19 hS hcl Z, Vals.up 8 hvs Z Z Z⟩)
 refine Xi (fun S F C0 hS hbef hcl hI => ?_) ?_
 obtain ⟨ad, it, p0, p8, p9, qb, ab, aj, hvs⟩ := hI
 exact Xh (v := vi (rAt (mAt G (E.run - 1).toNat).t.slots (E.a).toNat).th) X1 (Vals.at 8 hvs Z (Xl 8 hbef Z)) (((ak.blk.grown0 an).grown0 it).cell Z) Z (Xb ⟨ad, it, p0, p8, p9, qb, ab, Xv 19 hS hcl Z, Vals.up 9 hvs Z Z Z⟩)
 refine Xi (fun S F C1 hS hbef hcl hI => ?_) ?_
 obtain ⟨ad, mf, qd, qe, qf, qg, ab, aj, hvs⟩ := hI
 exact Yr (c := (rAt (mAt G (E.run - 1).toNat).t.slots (E.a).toNat).th - 1) (Vals.at 9 hvs Z (Xl 9 hbef Z)) Z (by omega) (by omega) (by omega) Z (Xb ⟨ad, mf, qd, qe, qf, qg, ab, Xv 19 hS hcl Z, Vals.up 10 hvs Z Z Z⟩)
 refine Xi (fun S F C2 hS hbef hcl hI => ?_) ?_
 obtain ⟨ad, mg, qh, qi, qj, qk, ab, aj, hvs⟩ := hI
 exact X3 Qc (Vals.at 7 hvs Z (Xl 7 hbef Z)) (Vals.at 10 hvs Z (Xl 10 hbef Z)) fo ft (by omega) (by omega) Z (Xb ⟨ad, mg, qh, qi, qj, qk, ab, Xv 19 hS hcl Z, Vals.up 11 hvs Z Z Z⟩)
 refine Xi (fun S F C3 hS hbef hcl hI => ?_) ?_
 obtain ⟨ad, mh, qm, qn, qo, qp, ab, aj, hvs⟩ := hI
 exact Xc (o' := dc + 1) Ki (Vals.at 11 hvs Z (Xl 11 hbef Z)) Z Z (Xb ⟨ad, mh, qm, qn, qo, qp, ab, Xv 19 hS hcl Z, Vals.up 12 hvs Z Z Z⟩)
 refine Xi (fun S F C4 hS hbef hcl hI => ?_) ?_
 obtain ⟨ad, iu, qq, qr, qt, qu, ab, aj, hvs⟩ := hI
 exact Xr (vs := [vi (mAt G ((rAt (mAt G (E.run - 1).toNat).t.slots (E.a).toNat).th - 1).toNat).t.lab.s, vi (mAt G ((rAt (mAt G (E.run - 1).toNat).t.slots (E.a).toNat).th - 1).toNat).t.lab.v]) J6 (Vals.at 12 hvs Z (Xl 12 hbef Z)) Z (Y2 (Yi fu iu) 1 2 Z) Z (Xb ⟨ad, iu, qq, qr, qt, qu, ab, Xv 19 hS hcl Z, Vals.up 13 hvs Z Z Z⟩)
 refine Xi (fun S F C5 hS hbef hcl hI => ?_) ?_
 obtain ⟨ad, ml, qv, qw, qx, qy, ab, aj, hvs⟩ := hI
 have Bu : thingOk (⟨(mAt G ((rAt (mAt G (E.run - 1).toNat).t.slots (E.a).toNat).th - 1).toNat).t.kind, (mAt G ((rAt (mAt G (E.run - 1).toNat).t.slots (E.a).toNat).th - 1).toNat).t.lab, 0, 0, [], [], 0⟩ : Th) = true := (K4 bh).symm.trans bi
 refine Xn Te (Xf (Vals.at 6 hvs Z (Xl 6 hbef Z)) (Xf (Vals.at 13 hvs Z (Xl 13 hbef Z)) (Xf Z Xm))) Z (Hd (mAt G ((rAt (mAt G (E.run - 1).toNat).t.slots (E.a).toNat).th - 1).toNat).t.kind 0 (mAt G ((rAt (mAt G (E.run - 1).toNat).t.slots (E.a).toNat).th - 1).toNat).t.lab bh bi _) ?_
 rintro _ C6 ⟨rfl, io⟩
 exact Xb ⟨ad, (low0 ml io), qv, qw, qx, qy, fun h => let ⟨uw, ux, uy, uz, u0, u1⟩ := ab h; ⟨uw, ux, fun hn => (uy hn).grown0 io, uz, u0, u1⟩, Xv 19 hS hcl Z, Vals.up 14 hvs Z Z Z⟩
 refine Xi (fun S F C7 hS hbef hcl hI => ?_) ?_
 obtain ⟨ad, mn, qz, q0, q4, q5, ab, aj, hvs⟩ := hI
 exact Xd (v := .tuple #[.agg #[vi (mAt G ((rAt (mAt G (E.run - 1).toNat).t.slots (E.a).toNat).th - 1).toNat).t.kind, vi (mAt G ((rAt (mAt G (E.run - 1).toNat).t.slots (E.a).toNat).th - 1).toNat).t.lab.s, vi (mAt G ((rAt (mAt G (E.run - 1).toNat).t.slots (E.a).toNat).th - 1).toNat).t.lab.v, vi 0, vi 0, .slice none 0 0, .slice none 0 0, vi 0], vb true]) (Vals.at 14 hvs Z (Xl 14 hbef Z)) Z (Xb ⟨ad, mn, qz, q0, q4, q5, ab, Xv 19 hS hcl Z, Vals.up 15 hvs Z Z Z⟩)
 refine Xi (fun S F C8 hS hbef hcl hI => ?_) ?_
 obtain ⟨ad, mo, q6, q7, q8, q9, ab, aj, hvs⟩ := hI
 exact Ye (v := .agg #[vi (mAt G ((rAt (mAt G (E.run - 1).toNat).t.slots (E.a).toNat).th - 1).toNat).t.kind, vi (mAt G ((rAt (mAt G (E.run - 1).toNat).t.slots (E.a).toNat).th - 1).toNat).t.lab.s, vi (mAt G ((rAt (mAt G (E.run - 1).toNat).t.slots (E.a).toNat).th - 1).toNat).t.lab.v, vi 0, vi 0, .slice none 0 0, .slice none 0 0, vi 0]) (Vals.at 15 hvs Z (Xl 15 hbef Z)) Z Z (Xb ⟨ad, mo, q6, q7, q8, q9, ab, Xv 19 hS hcl Z, Vals.up 16 hvs Z Z Z⟩)
 refine Xi (fun S F C9 hS hbef hcl hI => ?_) ?_
 obtain ⟨ad, mp, ra, rb, rf, rg, ab, aj, hvs⟩ := hI
 exact Ye (v := vb true) (Vals.at 15 hvs Z (Xl 15 hbef Z)) Z Z (Xb ⟨ad, mp, ra, rb, rf, rg, ab, aj, Vals.up 17 hvs Z Z Z⟩)
 refine Xi (fun S F Da hS hbef hcl hI => ?_) ?_
 obtain ⟨ad, cw, rh, ri, rj, rk, ab, aj, hvs⟩ := hI
 refine Yf (cs := #[vi 0, vi 0, vi 0, vi 0, vi 0, .slice none 0 0, .slice none 0 0, vi 0]) Ka Z Z ?_
 intro i6 Db ce
 have km := Yd ce (low0 du cw)
 have u9 : hi ≤ i6 := nt (nt (nt (nt (nt (Nat.le_of_eq hhi) aw.size) ak.grw.size) an.size) cw.size) (Nat.le_of_eq ce.eq.symm)
 have eo := Xo ce ((((((dy.grown0 be).grown0 aw).gn ak.grw).grown0 an).grown0 cw)).lt
 have ew := Xo ce (((ak.blk.grown0 an).grown0 cw)).lt
 exact Xb ⟨i6, (low0 cw ce.grw), rh, ri, rj, rk, fun _ => ⟨Z, km, fun _ => ce.blk, eo, ew, (nt cw.size (Nat.le_of_eq ce.eq.symm))⟩, Xv 19 hS hcl Z, Vals.keep hvs Z⟩
 refine Xi (fun S F Dc hS hbef hcl hI => ?_) ?_
 obtain ⟨ad, mq, rl, rm, rn, ro, ab, aj, hvs⟩ := hI
 obtain ⟨rp, kl, fg, em, eu, i4⟩ := ab (Xl 18 hbef rfl)
 refine Xy (vs := [vi (mAt G ((rAt (mAt G (E.run - 1).toNat).t.slots (E.a).toNat).th - 1).toNat).t.kind, vi (mAt G ((rAt (mAt G (E.run - 1).toNat).t.slots (E.a).toNat).th - 1).toNat).t.lab.s, vi (mAt G ((rAt (mAt G (E.run - 1).toNat).t.slots (E.a).toNat).th - 1).toNat).t.lab.v, vi 0, vi 0, .slice none 0 0, .slice none 0 0, vi 0]) (cs' := #[vi (mAt G ((rAt (mAt G (E.run - 1).toNat).t.slots (E.a).toNat).th - 1).toNat).t.kind, vi (mAt G ((rAt (mAt G (E.run - 1).toNat).t.slots (E.a).toNat).th - 1).toNat).t.lab.s, vi (mAt G ((rAt (mAt G (E.run - 1).toNat).t.slots (E.a).toNat).th - 1).toNat).t.lab.v, vi 0, vi 0, .slice none 0 0, .slice none 0 0, vi 0]) Ys rp (Vals.at 16 hvs Z (Xl 16 hbef Z)) Z (by simp [Value.oneCell']) (fg hS) (Nat.le_of_ble_eq_true Z) Z ?_
 intro Dd g6
 exact Xb ⟨ad, (low1 mq g6.grw (by omega)), rl, rm, rn, ro, fun h => let ⟨u2, u3, Ds, u4, u5, u6⟩ := ab h; ⟨u2, u3, fun h => Jq h, u4, u5, u6⟩, fun _ => g6.blk, Vals.keep0 hvs Z⟩
 exact Jb
 intro S F De hall hI
 obtain ⟨ad, cl, Be, rq, rr, ji, ab, aj, hvs⟩ := hI
 obtain ⟨jj, kl, fg, em, eu, i4⟩ := ab (hall 18 (by decide))
 obtain gb := aj (hall 19 (by decide))
 refine Xe (v := vb true) (Vals.at 17 hvs Z (hall 17 (by decide))) Z (Xb (Xu (Xa (Xd (v := .slice (pa ao) G.length ai) rq Z (Xc (o' := 0) Yo ji Z Z ?_)))))
 have kv := ((ak.blk.grown0 an).grown0 cl)
 refine Xh (v := vi (rAt (mAt G (E.run - 1).toNat).t.slots (E.a).toNat).th) X1 Z (kv.cell Z) Z (Yr (c := (rAt (mAt G (E.run - 1).toNat).t.slots (E.a).toNat).th - 1) Z Z (by omega) (by omega) (by omega) Z (X3 Qc Z Z fo ft (by omega) (by omega) Z (Xc (o' := dc + 3) Qz Z Z Z (Xh (v := vi (mAt G ((rAt (mAt G (E.run - 1).toNat).t.slots (E.a).toNat).th - 1).toNat).t.ve) X1 Z ((Yi fu cl) 3 _ Z) Z (Yl (c := (mAt G ((rAt (mAt G (E.run - 1).toNat).t.slots (E.a).toNat).th - 1).toNat).t.ve + 1) Z Z (by omega) (by omega) (by omega) Z (Xc (o' := 3) Qz jj Z Z (Yc (v := vi ((mAt G ((rAt (mAt G (E.run - 1).toNat).t.slots (E.a).toNat).th - 1).toNat).t.ve + 1)) (cs' := #[vi (mAt G ((rAt (mAt G (E.run - 1).toNat).t.slots (E.a).toNat).th - 1).toNat).t.kind, vi (mAt G ((rAt (mAt G (E.run - 1).toNat).t.slots (E.a).toNat).th - 1).toNat).t.lab.s, vi (mAt G ((rAt (mAt G (E.run - 1).toNat).t.slots (E.a).toNat).th - 1).toNat).t.lab.v, vi ((mAt G ((rAt (mAt G (E.run - 1).toNat).t.slots (E.a).toNat).th - 1).toNat).t.ve + 1), vi 0, .slice none 0 0, .slice none 0 0, vi 0]) X1 Z Z Z gb (Nat.le_of_ble_eq_true Z) Z ?_)))))))
 intro Df cf
 have lh := low1 (low0 du cl) cf.grw (by omega)
 refine Xb (Xq (Xa (Xe (v := vi 0) Z Z (Xb (X9 ?_)))))
 have jy := (TabG.ge (TabG.low f8 cl) cf.grw ee (by omega))
 have jz := (TabG.ge (TabG.low (TabG.low (TabG.ge (TabG.low fm aw) ak.grw f9 (by omega)) an) cl) cf.grw f9 (by omega))
 have j1 := (TabG.ge (TabG.low (TabG.low (TabG.ge (TabG.low d1 aw) ak.grw ff (by omega)) an) cl) cf.grw ff (by omega))
 have t0 := (kv.gn cf.grw)
 refine Ql (fun mm f' w' => ∃ (i : Nat), mm = J.length - i ∧ i ≤ J.length ∧ TabG w.heap.size w' (pa ao) G ∧ TabG i2.heap.size w' (pa de) bt ∧ TabG i3.heap.size w' (ah) J ∧ hi ≤ w'.heap.size ∧ f' 12 = vi (i : Int) ∧ f' 7 = .slice ah J.length ac ∧ f' 9 = pt af 0 ∧ f' 10 = pt ad 0 ∧ w.grownBy w' none ∧ Blk w' ad 39 #[vi (mAt G ((rAt (mAt G (E.run - 1).toNat).t.slots (E.a).toNat).th - 1).toNat).t.kind, vi (mAt G ((rAt (mAt G (E.run - 1).toNat).t.slots (E.a).toNat).th - 1).toNat).t.lab.s, vi (mAt G ((rAt (mAt G (E.run - 1).toNat).t.slots (E.a).toNat).th - 1).toNat).t.lab.v, vi ((mAt G ((rAt (mAt G (E.run - 1).toNat).t.slots (E.a).toNat).th - 1).toNat).t.ve + 1), vi 0, .slice none 0 0, .slice none 0 0, vi 0] ∧ Blk w' af 33 #[vi (rAt (mAt G (E.run - 1).toNat).t.slots (E.a).toNat).th, vi (rAt (mAt G (E.run - 1).toNat).t.slots (E.a).toNat).ve, vb (rAt (mAt G (E.run - 1).toNat).t.slots (E.a).toNat).rd, vb (rAt (mAt G (E.run - 1).toNat).t.slots (E.a).toNat).wr, vb (rAt (mAt G (E.run - 1).toNat).t.slots (E.a).toNat).wk]) (J.length - 0) ⟨0, Z, (Nat.zero_le _), jy, jz, j1, (nt (nt (nt (nt (nt (Nat.le_of_eq hhi) aw.size) ak.grw.size) an.size) cl.size) cf.grw.size), Z, rr, ji, jj, lh, cf.blk, t0⟩ ?_
 rintro mm Bi t7 ⟨i, Ay, hki, di, dk, ba, hhs, jk, gj, jl, jm, ik, kw, kx⟩
 refine Xq (Xa (Xd (v := vi (i : Int)) jk Z (Xd (v := .slice ah J.length ac) gj Z (Y1 (by kernel_rfl) Z Z (Qg (q := decide ((i : Int) < (J.length : Int))) Z Z Z Z (Xb (X0 Z (fun da => ?_) (fun da => ?_))))))))
 have Bv := of_decide_eq_true da
 refine Xz (Xu (Xq (X9 (Xa (Xe (v := vi 0) Z Z (Xb (X9 (Ql (fun mm f' w' => ∃ (k : Nat), mm = (mAt J i).t.slots.length - k ∧ k ≤ (mAt J i).t.slots.length ∧ TabG w.heap.size w' (pa ao) G ∧ TabG i2.heap.size w' (pa de) bt ∧ TabG i3.heap.size w' (ah) J ∧ hi ≤ w'.heap.size ∧ f' 13 = vi (k : Int) ∧ f' 7 = .slice ah J.length ac ∧ f' 9 = pt af 0 ∧ f' 10 = pt ad 0 ∧ f' 12 = vi (i : Int) ∧ w.grownBy w' none ∧ Blk w' ad 39 #[vi (mAt G ((rAt (mAt G (E.run - 1).toNat).t.slots (E.a).toNat).th - 1).toNat).t.kind, vi (mAt G ((rAt (mAt G (E.run - 1).toNat).t.slots (E.a).toNat).th - 1).toNat).t.lab.s, vi (mAt G ((rAt (mAt G (E.run - 1).toNat).t.slots (E.a).toNat).th - 1).toNat).t.lab.v, vi ((mAt G ((rAt (mAt G (E.run - 1).toNat).t.slots (E.a).toNat).th - 1).toNat).t.ve + 1), vi 0, .slice none 0 0, .slice none 0 0, vi 0] ∧ Blk w' af 33 #[vi (rAt (mAt G (E.run - 1).toNat).t.slots (E.a).toNat).th, vi (rAt (mAt G (E.run - 1).toNat).t.slots (E.a).toNat).ve, vb (rAt (mAt G (E.run - 1).toNat).t.slots (E.a).toNat).rd, vb (rAt (mAt G (E.run - 1).toNat).t.slots (E.a).toNat).wr, vb (rAt (mAt G (E.run - 1).toNat).t.slots (E.a).toNat).wk]) ((mAt J i).t.slots.length - 0) ⟨0, Z, (Nat.zero_le _), di, dk, ba, hhs, Z, gj, jl, jm, jk, ik, kw, kx⟩ ?_))))))))
 rintro mm Bj gy ⟨k, Az, hkk, di, dk, ba, hhs, dr, cn, ea, gk, cz, il, ky, fw⟩
 refine Xq (Xa (Xd (v := vi (k : Int)) dr Z (Xd (v := .slice ah J.length ac) cn Z (Xd (v := vi (i : Int)) cz Z ?_))))
 obtain ⟨dp, Cb, bx, d3, d6, d8⟩ := SlAt.at (TabG.at ba).1 (Yp (xg J i))
 have z2 := TabLen.at bp (xg J i)
 refine X3 Qc Z Z d3 d6 (by omega) (by omega) Z (Xc (o' := bx + 5) Qj Z Z Z (Xh (v := .slice (mAt J i).sa (mAt J i).t.slots.length (mAt J i).sc) Jd Z (d8 5 _ Z) Z (Y1 (by kernel_rfl) Z Z (Qg (q := decide ((k : Int) < ((mAt J i).t.slots.length : Int))) Z Z Z Z (Xb (X0 Z (fun db => ?_) (fun db => ?_)))))))
 have Bw := of_decide_eq_true db
 refine Xz (Xu (Xq (X9 (Kj (fun f' w' => (f' 7 = .slice ah J.length ac ∧ f' 9 = pt af 0 ∧ f' 10 = pt ad 0 ∧ f' 12 = vi (i : Int) ∧ f' 13 = vi (k : Int) ∧ f' 168 = vb ((decide ((rAt (mAt J i).t.slots k).th = (rAt (mAt G (E.run - 1).toNat).t.slots (E.a).toNat).th)) && tabLive (callDo (tabT G) E).1 (rAt (mAt J i).t.slots k))) ∧ gy.grownBy w' none) ?_ ?_))))
 rcases Yg (decide ((rAt (mAt J i).t.slots k).th = (rAt (mAt G (E.run - 1).toNat).t.slots (E.a).toNat).th)) with am | am
 have Bx := of_decide_eq_true am
 obtain ⟨gg, Cc, fy, ie, iy, i0⟩ := SlAt.at (TabAt.th (TabG.at ba) (xg J i)).1 (Yp (xr (mAt J i).t.slots k))
 refine Yy (m := 22) (vals := [(145, .slice ah J.length ac), (146, vi (i : Int)), (147, pt dp bx), (148, pt dp (bx + 5)), (149, .slice (mAt J i).sa (mAt J i).t.slots.length (mAt J i).sc), (150, vi (k : Int)), (151, pt gg fy), (152, pt gg fy), (153, vi (rAt (mAt J i).t.slots k).th), (154, pt af 0), (155, vi (rAt (mAt G (E.run - 1).toNat).t.slots (E.a).toNat).th), (156, vb (decide ((rAt (mAt J i).t.slots k).th = (rAt (mAt G (E.run - 1).toNat).t.slots (E.a).toNat).th))), (157, vb (decide ((rAt (mAt J i).t.slots k).th = (rAt (mAt G (E.run - 1).toNat).t.slots (E.a).toNat).th))), (158, .slice ah J.length ac), (159, .slice ah J.length ac), (160, vi (i : Int)), (161, pt dp bx), (162, pt dp (bx + 5)), (163, .slice (mAt J i).sa (mAt J i).t.slots.length (mAt J i).sc), (164, vi (k : Int)), (165, pt gg fy), (166, .agg #[vi (rAt (mAt J i).t.slots k).th, vi (rAt (mAt J i).t.slots k).ve, vb (rAt (mAt J i).t.slots k).rd, vb (rAt (mAt J i).t.slots k).wr, vb (rAt (mAt J i).t.slots k).wk])]) (fun w' => gy.grownBy w' none) Yz (by kernel_rfl) (X8 _) ?_ ?_
 refine yl Z (fun _ _ k => Xd (v := .slice ah J.length ac) cn Z k) (yl Z (fun _ _ k => Xd (v := vi (i : Int)) cz Z k) (yl Z (fun _ _ k => X3 Qc Z Z d3 d6 (by omega) (by omega) Z k) (yl Z (fun _ _ k => Xc (o' := bx + 5) Qj Z Z Z k) (yl Z (fun _ mr k => Xh (v := .slice (mAt J i).sa (mAt J i).t.slots.length (mAt J i).sc) Jd Z ((Yi d8 mr) 5 _ Z) Z k) (yl Z (fun _ _ kq => Xd (v := vi (k : Int)) dr Z kq) (yl Z (fun _ _ k => X3 J9 Z Z ie iy (by omega) (by omega) Z k) (yl Z (fun _ _ k => Xc (o' := fy) Yo Z Z Z k) (yl Z (fun _ mt kq => Xh (v := vi (rAt (mAt J i).t.slots k).th) X1 Z ((Yi i0 mt) 0 _ Z) Z kq) (yl Z (fun _ _ k => Xc (o' := 0) Yo ea Z Z k) (yl Z (fun _ mu k => Xh (v := vi (rAt (mAt G (E.run - 1).toNat).t.slots (E.a).toNat).th) X1 Z ((fw.grown0 mu).cell Z) Z k) ?_))))))))))
 refine yl Z (fun _ _ kq => X6 (q := decide ((rAt (mAt J i).t.slots k).th = (rAt (mAt G (E.run - 1).toNat).t.slots (E.a).toNat).th)) Z Z Z Z kq) (yl Z (fun _ _ kq => Xd (v := vb (decide ((rAt (mAt J i).t.slots k).th = (rAt (mAt G (E.run - 1).toNat).t.slots (E.a).toNat).th))) Z Z kq) (yl Z (fun _ _ k => Xg Z Z Z am (Xd (v := .slice ah J.length ac) cn Z k)) (yl Z (fun _ _ k => Xg Z Z Z am (Xd (v := .slice ah J.length ac) cn Z k)) (yl Z (fun _ _ k => Xg Z Z Z am (Xd (v := vi (i : Int)) cz Z k)) (yl Z (fun _ _ k => Xg Z Z Z am (X3 Qc Z Z d3 d6 (by omega) (by omega) Z k)) (yl Z (fun _ _ k => Xg Z Z Z am (Xc (o' := bx + 5) Qj Z Z Z k)) (yl Z (fun _ mv k => Xg Z Z Z am (Xh (v := .slice (mAt J i).sa (mAt J i).t.slots.length (mAt J i).sc) Jd Z ((Yi d8 mv) 5 _ Z) Z k)) (yl Z (fun _ _ kq => Xg Z Z Z am (Xd (v := vi (k : Int)) dr Z kq)) (yl Z (fun _ _ k => Xg Z Z Z am (X3 J9 Z Z ie iy (by omega) (by omega) Z k)) (yl Z (fun _ mw kq => Xg Z Z Z am (Xr (vs := [vi (rAt (mAt J i).t.slots k).th, vi (rAt (mAt J i).t.slots k).ve, vb (rAt (mAt J i).t.slots k).rd, vb (rAt (mAt J i).t.slots k).wr, vb (rAt (mAt J i).t.slots k).wk]) Y0 Z Z (Y2 (Yi i0 mw) 0 5 Z) Z kq)) ?_))))))))))
 exact Y8
 intro Dg iv
 refine Xg Z Z Z am (Xn F6 (Xf Z (Xf Z Xm)) Z (We (rAt (mAt J i).t.slots k) _ J _ _ (TabG.at (TabG.low ba iv)) bp (by omega)) ?_)
 rintro _ Dh ⟨rfl, lk⟩
 exact Xw (v := vb (tabLive (callDo (tabT G) E).1 (rAt (mAt J i).t.slots k))) Z am (congrArg (fun T : List Th => Value.bool (tabLive T (rAt (mAt J i).t.slots k))) bj) Z (Xb (Xu ⟨⟨cn, ea, gk, cz, dr, (congrArg Value.bool (by first | (simp only [bb, eb, ed, bc, au, da, db, am, bk, ca, bl, cc, bm, cd, dg, dx, dh, bh, av, a9, bi, aq, b0, b1, b2, b3, b4, b5, b6, b7, b8, b9]; done) | simp [bb, eb, ed, bc, au, da, db, am, bk, ca, bl, cc, bm, cd, dg, dx, dh, bh, av, a9, bi, aq]))⟩, (grown_trans iv lk)⟩))
 have By := of_decide_eq_false am
 obtain ⟨i8, Cd, gw, le, ne, ni⟩ := SlAt.at (TabAt.th (TabG.at ba) (xg J i)).1 (Yp (xr (mAt J i).t.slots k))
 refine Yy (m := 22) (vals := [(145, .slice ah J.length ac), (146, vi (i : Int)), (147, pt dp bx), (148, pt dp (bx + 5)), (149, .slice (mAt J i).sa (mAt J i).t.slots.length (mAt J i).sc), (150, vi (k : Int)), (151, pt i8 gw), (152, pt i8 gw), (153, vi (rAt (mAt J i).t.slots k).th), (154, pt af 0), (155, vi (rAt (mAt G (E.run - 1).toNat).t.slots (E.a).toNat).th), (156, vb (decide ((rAt (mAt J i).t.slots k).th = (rAt (mAt G (E.run - 1).toNat).t.slots (E.a).toNat).th))), (157, vb (decide ((rAt (mAt J i).t.slots k).th = (rAt (mAt G (E.run - 1).toNat).t.slots (E.a).toNat).th))), (158, undef), (159, undef), (160, undef), (161, undef), (162, undef), (163, undef), (164, undef), (165, undef), (166, undef)]) (fun w' => gy.grownBy w' none) Yz (by kernel_rfl) (X8 _) ?_ ?_
 refine yl Z (fun _ _ k => Xd (v := .slice ah J.length ac) cn Z k) (yl Z (fun _ _ k => Xd (v := vi (i : Int)) cz Z k) (yl Z (fun _ _ k => X3 Qc Z Z d3 d6 (by omega) (by omega) Z k) (yl Z (fun _ _ k => Xc (o' := bx + 5) Qj Z Z Z k) (yl Z (fun _ my k => Xh (v := .slice (mAt J i).sa (mAt J i).t.slots.length (mAt J i).sc) Jd Z ((Yi d8 my) 5 _ Z) Z k) (yl Z (fun _ _ kq => Xd (v := vi (k : Int)) dr Z kq) (yl Z (fun _ _ k => X3 J9 Z Z le ne (by omega) (by omega) Z k) (yl Z (fun _ _ k => Xc (o' := gw) Yo Z Z Z k) (yl Z (fun _ mz kq => Xh (v := vi (rAt (mAt J i).t.slots k).th) X1 Z ((Yi ni mz) 0 _ Z) Z kq) (yl Z (fun _ _ k => Xc (o' := 0) Yo ea Z Z k) (yl Z (fun _ m4 k => Xh (v := vi (rAt (mAt G (E.run - 1).toNat).t.slots (E.a).toNat).th) X1 Z ((fw.grown0 m4).cell Z) Z k) ?_))))))))))
 refine yl Z (fun _ _ kq => X6 (q := decide ((rAt (mAt J i).t.slots k).th = (rAt (mAt G (E.run - 1).toNat).t.slots (E.a).toNat).th)) Z Z Z Z kq) (yl Z (fun _ _ kq => Xd (v := vb (decide ((rAt (mAt J i).t.slots k).th = (rAt (mAt G (E.run - 1).toNat).t.slots (E.a).toNat).th))) Z Z kq) (yl Z (fun _ _ k => Xj Z Z Z am Z k) (yl Z (fun _ _ k => Xj Z Z Z am Z k) (yl Z (fun _ _ k => Xj Z Z Z am Z k) (yl Z (fun _ _ k => Xj Z Z Z am Z k) (yl Z (fun _ _ k => Xj Z Z Z am Z k) (yl Z (fun _ _ k => Xj Z Z Z am Z k) (yl Z (fun _ _ k => Xj Z Z Z am Z k) (yl Z (fun _ _ k => Xj Z Z Z am Z k) (yl Z (fun _ _ k => Xj Z Z Z am Z k) ?_))))))))))
 exact Y8
 intro Di m5
 exact Xj Z Z Z am Z (Xp (v := vb false) Z am Z Z (Xb (Xu ⟨⟨cn, ea, gk, cz, dr, (congrArg Value.bool (by first | (simp only [bb, eb, ed, bc, au, da, db, am, bk, ca, bl, cc, bm, cd, dg, dx, dh, bh, av, a9, bi, aq, b0, b1, b2, b3, b4, b5, b6, b7, b8, b9]; done) | simp [bb, eb, ed, bc, au, da, db, am, bk, ca, bl, cc, bm, cd, dg, dx, dh, bh, av, a9, bi, aq]))⟩, m5⟩)))
 rintro Bk Dj ⟨⟨ru, rx, ry, rz, r0, r1⟩, cj⟩
 have im := low0 il cj
 refine X0 r1 (fun gm => ?_) (fun gm => ?_)
 have jt := L0 gm
 have Bz := of_decide_eq_true jt
 have r5 := L1 gm
 refine Xa (Xe (v := vb false) Z Z (Xb (Xt (Qn (Yk (Yk (Qn (Qn (Yk (Yk (Qn (Yk ?_))))))))))))
 refine ⟨vb false, Yt Z Z, ?_, im⟩
 exact absurd r5 (by rw [← bj, j6 i k (by omega) (of_decide_eq_true jt)]; exact Bool.false_ne_true)
 exact Xz (Y3 (Xu (X2 (Xd (v := vi (k : Int)) r0 Z (Yl (c := (k : Int) + 1) Z Z (by omega) (by omega) (by omega) Z (Xe (v := vi ((k : Int) + 1)) Z Z (Xb (Xu (⟨(mAt J i).t.slots.length - (k + 1), by omega, (k + 1), Z, (by omega), (TabG.low di cj), (TabG.low dk cj), (TabG.low ba cj), (nt hhs cj.size), Z, ru, rx, ry, rz, im, (ky.grown0 cj), (fw.grown0 cj)⟩)))))))))
 have B0 := of_decide_eq_false db
 exact Qf (Y9 (Y9 (Jh (Y3 (Xu (X2 (Xd (v := vi (i : Int)) cz Z (Yl (c := (i : Int) + 1) Z Z (by omega) (by omega) (by omega) Z (Xe (v := vi ((i : Int) + 1)) Z Z (Xb (Xu (⟨J.length - (i + 1), by omega, (i + 1), Z, (by omega), di, dk, ba, hhs, Z, cn, ea, gk, il, ky, fw⟩))))))))))))
 have B1 := of_decide_eq_false da
 refine Qf (Y9 (Y9 (Jh (Xu (Xq ?_)))))
 obtain ⟨oc, Ce, t5, lf, nf, nj⟩ := SlAt.at (TabG.at ba).1 (Yp (xg J ((rAt (mAt G (E.run - 1).toNat).t.slots (E.a).toNat).th - 1).toNat))
 have z3 := TabLen.at bp (xg J ((rAt (mAt G (E.run - 1).toNat).t.slots (E.a).toNat).th - 1).toNat)
 refine Yy (m := 7) (vals := [(169, .slice ah J.length ac), (170, pt af 0), (171, vi (rAt (mAt G (E.run - 1).toNat).t.slots (E.a).toNat).th), (172, vi ((rAt (mAt G (E.run - 1).toNat).t.slots (E.a).toNat).th - 1)), (173, pt oc t5), (174, .agg #[vi (mAt J ((rAt (mAt G (E.run - 1).toNat).t.slots (E.a).toNat).th - 1).toNat).t.kind, vi (mAt J ((rAt (mAt G (E.run - 1).toNat).t.slots (E.a).toNat).th - 1).toNat).t.lab.s, vi (mAt J ((rAt (mAt G (E.run - 1).toNat).t.slots (E.a).toNat).th - 1).toNat).t.lab.v, vi (mAt J ((rAt (mAt G (E.run - 1).toNat).t.slots (E.a).toNat).th - 1).toNat).t.ve, vi (mAt J ((rAt (mAt G (E.run - 1).toNat).t.slots (E.a).toNat).th - 1).toNat).t.num, .slice (mAt J ((rAt (mAt G (E.run - 1).toNat).t.slots (E.a).toNat).th - 1).toNat).sa (mAt J ((rAt (mAt G (E.run - 1).toNat).t.slots (E.a).toNat).th - 1).toNat).t.slots.length (mAt J ((rAt (mAt G (E.run - 1).toNat).t.slots (E.a).toNat).th - 1).toNat).sc, .slice (mAt J ((rAt (mAt G (E.run - 1).toNat).t.slots (E.a).toNat).th - 1).toNat).qa (mAt J ((rAt (mAt G (E.run - 1).toNat).t.slots (E.a).toNat).th - 1).toNat).t.queue.length (mAt J ((rAt (mAt G (E.run - 1).toNat).t.slots (E.a).toNat).th - 1).toNat).qc, vi (mAt J ((rAt (mAt G (E.run - 1).toNat).t.slots (E.a).toNat).th - 1).toNat).t.to]), (175, .agg #[vi (mAt G ((rAt (mAt G (E.run - 1).toNat).t.slots (E.a).toNat).th - 1).toNat).t.kind, vi (mAt G ((rAt (mAt G (E.run - 1).toNat).t.slots (E.a).toNat).th - 1).toNat).t.lab.s, vi (mAt G ((rAt (mAt G (E.run - 1).toNat).t.slots (E.a).toNat).th - 1).toNat).t.lab.v, vi ((mAt G ((rAt (mAt G (E.run - 1).toNat).t.slots (E.a).toNat).th - 1).toNat).t.ve + 1), vi 0, .slice none 0 0, .slice none 0 0, vi 0])]) (fun w' => t7.grownBy w' none) Yz (by kernel_rfl) (X8 _) ?_ ?_
 exact yl Z (fun _ _ k => Xd (v := .slice ah J.length ac) gj Z k) (yl Z (fun _ _ k => Xc (o' := 0) Yo jl Z Z k) (yl Z (fun _ m6 k => Xh (v := vi (rAt (mAt G (E.run - 1).toNat).t.slots (E.a).toNat).th) X1 Z ((kx.grown0 m6).cell Z) Z k) (yl Z (fun _ _ k => Yr (c := (rAt (mAt G (E.run - 1).toNat).t.slots (E.a).toNat).th - 1) Z Z (by omega) (by omega) (by omega) Z k) (yl Z (fun _ _ k => X3 Qc Z Z lf nf (by omega) (by omega) Z k) (yl Z (fun _ m7 k => Xr (vs := [vi (mAt J ((rAt (mAt G (E.run - 1).toNat).t.slots (E.a).toNat).th - 1).toNat).t.kind, vi (mAt J ((rAt (mAt G (E.run - 1).toNat).t.slots (E.a).toNat).th - 1).toNat).t.lab.s, vi (mAt J ((rAt (mAt G (E.run - 1).toNat).t.slots (E.a).toNat).th - 1).toNat).t.lab.v, vi (mAt J ((rAt (mAt G (E.run - 1).toNat).t.slots (E.a).toNat).th - 1).toNat).t.ve, vi (mAt J ((rAt (mAt G (E.run - 1).toNat).t.slots (E.a).toNat).th - 1).toNat).t.num, .slice (mAt J ((rAt (mAt G (E.run - 1).toNat).t.slots (E.a).toNat).th - 1).toNat).sa (mAt J ((rAt (mAt G (E.run - 1).toNat).t.slots (E.a).toNat).th - 1).toNat).t.slots.length (mAt J ((rAt (mAt G (E.run - 1).toNat).t.slots (E.a).toNat).th - 1).toNat).sc, .slice (mAt J ((rAt (mAt G (E.run - 1).toNat).t.slots (E.a).toNat).th - 1).toNat).qa (mAt J ((rAt (mAt G (E.run - 1).toNat).t.slots (E.a).toNat).th - 1).toNat).t.queue.length (mAt J ((rAt (mAt G (E.run - 1).toNat).t.slots (E.a).toNat).th - 1).toNat).qc, vi (mAt J ((rAt (mAt G (E.run - 1).toNat).t.slots (E.a).toNat).th - 1).toNat).t.to]) Ys Z Z (Y2 (Yi nj m7) 0 8 Z) Z k) (yl Z (fun _ m8 k => Xr (vs := [vi (mAt G ((rAt (mAt G (E.run - 1).toNat).t.slots (E.a).toNat).th - 1).toNat).t.kind, vi (mAt G ((rAt (mAt G (E.run - 1).toNat).t.slots (E.a).toNat).th - 1).toNat).t.lab.s, vi (mAt G ((rAt (mAt G (E.run - 1).toNat).t.slots (E.a).toNat).th - 1).toNat).t.lab.v, vi ((mAt G ((rAt (mAt G (E.run - 1).toNat).t.slots (E.a).toNat).th - 1).toNat).t.ve + 1), vi 0, .slice none 0 0, .slice none 0 0, vi 0]) Ys jm Z ((kw.grown0 m8).rangeL 0 8 Z) Z k) Y8))))))
 intro Dk iw
 have j2 := (TabG.low ba iw)
 refine Xn Rg (Xf Z (Xf Z Xm)) Z (Um (mAt J ((rAt (mAt G (E.run - 1).toNat).t.slots (E.a).toNat).th - 1).toNat) (⟨⟨(mAt G ((rAt (mAt G (E.run - 1).toNat).t.slots (E.a).toNat).th - 1).toNat).t.kind, (mAt G ((rAt (mAt G (E.run - 1).toNat).t.slots (E.a).toNat).th - 1).toNat).t.lab, (mAt G ((rAt (mAt G (E.run - 1).toNat).t.slots (E.a).toNat).th - 1).toNat).t.ve + 1, 0, [], [], 0⟩, none, 0, none, 0⟩ : MTh) _ (TabAt.th (TabG.at j2) (xg J ((rAt (mAt G (E.run - 1).toNat).t.slots (E.a).toNat).th - 1).toNat)) ⟨SlAt.nil, SlAt.nil, (fun _ => Z), (fun _ => Z)⟩ ⟨by first | omega | exact Nat.le_of_ble_eq_true Z | (simp only [List.length_nil, List.length_cons, List.length_append, List.length_replicate]; omega), by first | omega | exact Nat.le_of_ble_eq_true Z | (simp only [List.length_nil, List.length_cons, List.length_append, List.length_replicate]; omega)⟩ ⟨by first | omega | exact Nat.le_of_ble_eq_true Z | (simp only [List.length_nil, List.length_cons, List.length_append, List.length_replicate]; omega), by first | omega | exact Nat.le_of_ble_eq_true Z | (simp only [List.length_nil, List.length_cons, List.length_append, List.length_replicate]; omega)⟩) ?_
 rintro _ Dl ⟨rfl, ll⟩
 refine Xe (v := vb (decide ((mAt J ((rAt (mAt G (E.run - 1).toNat).t.slots (E.a).toNat).th - 1).toNat).t = (⟨(mAt G ((rAt (mAt G (E.run - 1).toNat).t.slots (E.a).toNat).th - 1).toNat).t.kind, (mAt G ((rAt (mAt G (E.run - 1).toNat).t.slots (E.a).toNat).th - 1).toNat).t.lab, (mAt G ((rAt (mAt G (E.run - 1).toNat).t.slots (E.a).toNat).th - 1).toNat).t.ve + 1, 0, [], [], 0⟩ : Th)))) Z Z (Xb (Xu (Xt (⟨vb (decide ((mAt J ((rAt (mAt G (E.run - 1).toNat).t.slots (E.a).toNat).th - 1).toNat).t = (⟨(mAt G ((rAt (mAt G (E.run - 1).toNat).t.slots (E.a).toNat).th - 1).toNat).t.kind, (mAt G ((rAt (mAt G (E.run - 1).toNat).t.slots (E.a).toNat).th - 1).toNat).t.lab, (mAt G ((rAt (mAt G (E.run - 1).toNat).t.slots (E.a).toNat).th - 1).toNat).t.ve + 1, 0, [], [], 0⟩ : Th))), Yt Z Z, ?_, (low0 (low0 ik iw) ll)⟩))))
 exact congrArg Value.bool (decide_eq_true (j5.trans ((Nc j7 j8).2 bh)))
end Go.Proofs.YtlhhijnmacogcaaGreatDoor
end
