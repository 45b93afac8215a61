/- Laws and walks: my templates, and what a program of mine (gen.py) printed out of the functions; only what the row reaches. -/
import Derived.Test.YtlhhijnmacogcaaGreatDoorT45
section
namespace Go.Dw
set_option linter.unusedVariables false
set_option linter.unusedSimpArgs false
section
variable {ts : List Th} {q : Cl}
theorem Z3 (hp : callPoss ts q = true) (h0 : check1 ts q = 0) (h3 : ¬ q.kind = 3) : (1 ≤ (slotAt ts q.run q.a).th ∧ (slotAt ts q.run q.a).th ≤ (ts.length : Int)) ∧ kindFor q.kind (thAt ts (slotAt ts q.run q.a).th).kind = true ∧ (need0 q.kind = true → sees ts q.run (slotAt ts q.run q.a).th = true) := by
  have e := Jn hp
  have h := Tx (ts := ts) (q := q) (by omega) h3
  exact ⟨h.1, h.2.1, (Mz (ts := ts) (q := q) (by omega) (by omega) h3).1⟩
theorem Vl (hp : callPoss ts q = true) (h0 : check1 ts q = 0) (h3 : ¬ q.kind = 3) : FarOk ts q (slotAt ts q.run q.a) := by
  have h := Z3 hp h0 h3
  obtain ⟨hT, hc, hr⟩ := Yw hp
  exact ⟨hT, hc, hr, h.1, h.2.1, h3⟩
theorem Kg (k n : Int) : (setNum ts k n).length = ts.length := Qu
theorem Iq (hp : callPoss ts q = true) : callPoss (doCall ts q).1 q = true := by
  obtain ⟨hT, hc, hr⟩ := Yw hp
  have h := V1 hp
  have hr := Qr hr
  unfold callPoss
  rw [h.1, hc, Ul (by rw [h.2.1]; exact hr.1) ((h.2.2 _ hr.1.1).trans hr.2)]
  rfl
def Kept (n : Int) (a b : Th) : Prop := (a.kind = 1 → b.num = a.num ∨ b.num = 0 ∨ b.num = n ∨ b.num = n % 2) ∧ ∀ v ∈ b.queue, v = n ∨ v ∈ a.queue
theorem Kept.refl (n : Int) (a : Th) : Kept n a a := ⟨fun _ => Or.inl rfl, fun _ h => Or.inr h⟩
section
variable {ms xs : List MTh}
theorem Sf (hp : callPoss (tabT ms) q = true) : (callDo (tabT ms) q).2 = doAns (tabT ms) q := by rw [Kb hp, P8]
theorem Sj (ht : tabT xs = (callDo (tabT ms) q).1) (hp : callPoss (tabT ms) q = true) : (mAt xs (q.run - 1).toNat).t.slots.length = 4 := by
  have h := Iq hp
  have h2 := (Yw h)
  rw [← Kb hp, ← ht] at h2
  exact Qt h2.1 h2.2.2
end
end
end Go.Dw
end
section
namespace Go.Dw
set_option linter.unusedVariables false
set_option linter.unusedSimpArgs false
def RowsA (w : World) (l : List MTh) : Prop := ∀ m ∈ l, ThAt w m
theorem RowsA.of {w : World} {a : Option Addr} {l : List MTh} (h : TabAt w a l) : RowsA w l := h.2
theorem RowsA.set {w : World} {l : List MTh} {i : Nat} {m : MTh} (h : RowsA w l) (hi : i < l.length) (e : m.sa = (mAt l i).sa ∧ m.sc = (mAt l i).sc ∧ m.qa = (mAt l i).qa ∧ m.qc = (mAt l i).qc ∧ m.t.slots = (mAt l i).t.slots ∧ m.t.queue = (mAt l i).t.queue) : RowsA w (l.set i m) := fun x hx => by
  rcases List.mem_or_eq_of_mem_set hx with h1 | rfl
  · exact h x h1
  · have := h _ (List.mem_of_getElem? (Q0 hi))
    unfold ThAt at this ⊢
    rw [e.1, e.2.1, e.2.2.1, e.2.2.2.1, e.2.2.2.2.1, e.2.2.2.2.2]
    exact this
theorem RowsA.setn {w : World} {l : List MTh} {i : Nat} {m : MTh} (h : RowsA w l) (hm : ThAt w m) : RowsA w (l.set i m) := fun x hx => by
  rcases List.mem_or_eq_of_mem_set hx with h1 | rfl
  · exact h x h1
  · exact hm
theorem Mj {w : World} {Y T cap : Nat} {l : List MTh} (ho : Own w Y T 8 cap l.length (l.flatMap MTh.cells)) (h : RowsA w l) : TabAt w (some ⟨Y, 0, none⟩) l := ⟨Own.sl Yj ho, h⟩
theorem Of {w : World} {a : Option Addr} {l : List MTh} (h : TabAt w a l) (hn : 0 < l.length) : ¬ a = none := fun e => by
  obtain ⟨x, hx⟩ := Ja hn
  obtain ⟨b, q, o, ha, _, _⟩ := SlAt.at h.1 (Yp hx)
  rw [e] at ha
  cases ha
theorem TabLen.setn {l : List MTh} {i : Nat} {m : MTh} (h : TabLen l) (hi : i < l.length) (e1 : m.t.slots = (mAt l i).t.slots) (e2 : m.t.queue = (mAt l i).t.queue) : TabLen (l.set i m) := fun x hx => by
  rcases List.mem_or_eq_of_mem_set hx with h1 | rfl
  · exact h x h1
  · rw [e1, e2]
    exact h _ (List.mem_of_getElem? (Q0 hi))
theorem TabLen.put {l : List MTh} {i : Nat} {m : MTh} (h : TabLen l) (hm : m.t.slots.length ≤ 1048576 ∧ m.t.queue.length ≤ 1048576) : TabLen (l.set i m) := fun x hx => by
  rcases List.mem_or_eq_of_mem_set hx with h1 | rfl
  · exact h x h1
  · exact hm
theorem RowsA.setE {w : World} {L l : List MTh} {i : Nat} {m : MTh} (hL : L = l.set i m) (h : RowsA w l) (hi : i < l.length) (e : m.sa = (mAt l i).sa ∧ m.sc = (mAt l i).sc ∧ m.qa = (mAt l i).qa ∧ m.qc = (mAt l i).qc ∧ m.t.slots = (mAt l i).t.slots ∧ m.t.queue = (mAt l i).t.queue) : RowsA w L := hL ▸ RowsA.set h hi e
theorem RowsA.setnE {w : World} {L l : List MTh} {i : Nat} {m : MTh} (hL : L = l.set i m) (h : RowsA w l) (hm : ThAt w m) : RowsA w L := hL ▸ RowsA.setn h hm
theorem TabLen.setnE {L l : List MTh} {i : Nat} {m : MTh} (hL : L = l.set i m) (h : TabLen l) (hi : i < l.length) (e1 : m.t.slots = (mAt l i).t.slots) (e2 : m.t.queue = (mAt l i).t.queue) : TabLen L := hL ▸ TabLen.setn h hi e1 e2
theorem TabLen.putE {L l : List MTh} {i : Nat} {m : MTh} (hL : L = l.set i m) (h : TabLen l) (hm : m.t.slots.length ≤ 1048576 ∧ m.t.queue.length ≤ 1048576) : TabLen L := hL ▸ TabLen.put h hm
theorem Tw {P : Program} {k : FuncId} {a : Option Addr} {c n m : Nat} {u : Value} {w : World} {R : Value → World → Prop} (h : m = n) (hc : CallsR P k #[.slice a m c, u] w R) : CallsR P k #[.slice a n c, u] w R := h ▸ hc
theorem N9 {Y b n : Nat} (h : (some ⟨Y, 0, none⟩ : Option Addr).map (·.block) = (some ⟨b, 0, none⟩ : Option Addr).map (·.block) ∨ (some ⟨Y, 0, none⟩ : Option Addr).map (·.block) = some n) : Y = b ∨ Y = n := by simpa using h
section
variable {ms xs : List MTh} {q : Cl}
end
end Go.Dw
end
section
namespace Go.Dw
set_option linter.unusedVariables false
set_option linter.unusedSimpArgs false
section
variable {ts us : List Th} {q p : Cl}
theorem Q6 {k n : Int} (hk : 1 ≤ k ∧ k ≤ (ts.length : Int)) (j : Int) (hj : 1 ≤ j) : thAt (setNum ts k n) j = if j = k then { thAt ts k with num := n } else thAt ts j := by
  unfold setNum
  exact Jf hk j hj
theorem T0 (hp : callPoss ts q = true) (h9 : q.kind = 9) (h0 : check1 ts q = 0) : live ts (slotAt ts q.run q.a) = true := by
  have h3 : ¬ q.kind = 3 := by omega
  have hF := Vl hp h0 h3
  have hk := (Q2 hF.kind (Yx hF.call).1).2.2.2.2.2.2.2 h9
  have hrun := (Qr hF.run).1
  have hs := Kx hF.tab hrun q.a
  have hv := (Qp (Vh hF.tab hF.th).1).2.2.1
  unfold versOk at hv
  rw [if_neg (by omega)] at hv
  have hv := of_decide_eq_true hv
  have h1 := hs.1
  have h2 := hs.2
  unfold rightOk at h1
  unfold rightTo at h2
  simp only [Bool.or_eq_true, Bool.and_eq_true, decide_eq_true_eq] at h1 h2
  have hth := hF.th
  rcases h1 with h1 | h1
  · rw [h1] at hth
    exact absurd hth.1 (by decide)
  rcases h2 with h2 | h2
  · omega
  have e1 := Qi.1 h1.1.2
  unfold live
  rw [Qi.2 hth, decide_eq_true (show (thAt ts (slotAt ts q.run q.a).th).ve = (slotAt ts q.run q.a).ve by omega)]
  rfl
theorem H9 (hp : callPoss ts q = true) (h9 : q.kind = 9) (h0 : check1 ts q = 0) : doAns ts q = 0 ∧ (doCall ts q).1 = setNum (setNum (setNum ts (thAt ts (slotAt ts q.run q.a).th).to (q.n % 2)) (slotAt ts q.run q.a).th (min ((thAt ts (slotAt ts q.run q.a).th).num + 1) 99)) q.run 0 ∧
    ((1 ≤ (thAt ts (slotAt ts q.run q.a).th).to ∧ (thAt ts (slotAt ts q.run q.a).th).to ≤ (ts.length : Int)) ∧ (thAt ts (thAt ts (slotAt ts q.run q.a).th).to).kind = 1) ∧ ((1 ≤ (slotAt ts q.run q.a).th ∧ (slotAt ts q.run q.a).th ≤ (ts.length : Int)) ∧ (thAt ts (slotAt ts q.run q.a).th).kind = 5) := by
  have h3 : ¬ q.kind = 3 := by omega
  have hF := Vl hp h0 h3
  have hk := (Q2 hF.kind (Yx hF.call).1).2.2.2.2.2.2.2 h9
  have hg := Qr (W0 hF.tab hF.th hk)
  have hl := T0 hp h9 h0
  have h := Ua rfl h0 h3 hl hF
  have hne : ¬ (slotAt ts q.run q.a).th = (thAt ts (slotAt ts q.run q.a).th).to := fun e => by
    have h5 := hg.2
    rw [← e, hk] at h5
    exact absurd h5 (by decide)
  have hf : far ts q (slotAt ts q.run q.a) = (setNum (setNum ts (thAt ts (slotAt ts q.run q.a).th).to (q.n % 2)) (slotAt ts q.run q.a).th (min ((thAt ts (slotAt ts q.run q.a).th).num + 1) 99), 0) := by
    have e := Q6 (n := q.n % 2) hg.1 (slotAt ts q.run q.a).th hF.th.1
    rw [if_neg hne] at e
    unfold far
    rw [if_neg (by omega), if_neg (by omega), if_neg (by omega), if_neg (by omega), if_neg (by omega), if_neg (by omega), if_neg (by omega)]
    show (setTh _ _ _, (0 : Int)) = (setTh _ _ { thAt (setNum ts _ _) _ with num := _ }, (0 : Int))
    rw [e]
  rw [hf] at h
  have hz : doAns ts q = 0 := by rw [h.1]; split <;> rfl
  exact ⟨hz, by rw [Vp, hz, h.2], hg, hF.th, hk⟩
end
end Go.Dw
end
section
namespace Go.Dw
set_option linter.unusedVariables false
set_option linter.unusedSimpArgs false
section
variable {ts : List Th} {q p : Cl}
theorem My {r : Rt} (hr : slotAt ts q.run q.a = r) (h0 : ¬ r.th = 0) (hk : kindFor q.kind (thAt ts r.th).kind = true) (hrd : r.rd = true) (hwr : r.wr = true) (hs : sees ts q.run r.th = true) (ht : touches ts q.run r.th = true) (hl : live ts r = true) : check1 ts q = 0 := by
  unfold check1 chk1 chk2 chk3
  rw [hr, hk, hrd, hwr, hs, ht, hl, decide_eq_false h0]
  simp
structure Free (us : List Th) (run a : Int) (r : Rt) (kd : Int) : Prop where
  slot : slotAt us run a = r
  nz : ¬ r.th = 0
  kind : (thAt us r.th).kind = kd
  rd : r.rd = true
  wr : r.wr = true
  sees : sees us run r.th = true
  touches : touches us run r.th = true
  live : live us r = true
theorem Free.check {us : List Th} {run a kd : Int} {r : Rt} (h : Free us run a r kd) (hr : p.run = run) (ha : p.a = a) (hk : kindFor p.kind kd = true) : check1 us p = 0 :=
  My (r := r) (by rw [hr, ha]; exact h.slot) h.nz (by rw [h.kind]; exact hk) h.rd h.wr (by rw [hr]; exact h.sees) (by rw [hr]; exact h.touches) h.live
theorem Free.far {us : List Th} {a kd : Int} {r : Rt} (hp : callPoss us p = true) (h : Free us p.run a r kd) (ha : p.a = a) (hk : kindFor p.kind kd = true) (h3 : ¬ p.kind = 3) : FarOk us p r ∧ doAns us p = (Go.Dw.far us p r).2 ∧ (doCall us p).1 = setNum (Go.Dw.far us p r).1 p.run (Go.Dw.far us p r).2 := by
  have h0 := h.check rfl ha hk
  have hs : slotAt us p.run p.a = r := by rw [ha]; exact h.slot
  have hF := Vl hp h0 h3
  rw [hs] at hF
  have hx := Ua hs h0 h3 h.live hF
  rw [if_pos h.sees] at hx
  exact ⟨hF, hx.1, by rw [Vp, hx.1, hx.2]⟩
end
section
variable {ms xs ys zs us : List MTh} {q p s t : Cl}
theorem Uz (ht : tabT xs = (callDo (tabT ms) q).1) (hp : callPoss (tabT ms) q = true) : tabT xs = (doCall (tabT ms) q).1 := by rw [ht, Kb hp]
theorem O3 (hp : callPoss (tabT ms) q = true) (h9 : q.kind = 9) (h0 : ¬ chkAll (tabT ms) q < 0) : (1 ≤ (rAt (mAt ms (q.run - 1).toNat).t.slots q.a.toNat).th ∧ (rAt (mAt ms (q.run - 1).toNat).t.slots q.a.toNat).th ≤ (ms.length : Int)) ∧ (1 ≤ (mAt ms ((rAt (mAt ms (q.run - 1).toNat).t.slots q.a.toNat).th - 1).toNat).t.to ∧ (mAt ms ((rAt (mAt ms (q.run - 1).toNat).t.slots q.a.toNat).th - 1).toNat).t.to ≤ (ms.length : Int)) := by
  rw [Jn hp] at h0
  have hr0 := Kh (tabT ms) q
  have h := H9 hp h9 (by omega)
  rw [Y5] at h
  rw [Je, Qk]
  exact ⟨h.2.2.2.1, h.2.2.1.1⟩
theorem M3 (ht : tabT xs = (callDo (tabT ms) q).1) (hp : callPoss (tabT ms) q = true) (h9 : q.kind = 9) (h0 : ¬ chkAll (tabT ms) q < 0) {r : Rt} (hr : rAt (mAt ms (q.run - 1).toNat).t.slots q.a.toNat = r) :
    (callDo (tabT ms) q).2 = 0 ∧ (mAt xs (r.th - 1).toNat).t.num = min ((mAt ms (r.th - 1).toNat).t.num + 1) 99 ∧ ∀ m1 m2 m3 : MTh, m1.t = { (mAt xs (q.run - 1).toNat).t with num := (mAt ms (q.run - 1).toNat).t.num } → m2.t = { (mAt (xs.set (q.run - 1).toNat m1) (r.th - 1).toNat).t with num := (mAt ms (r.th - 1).toNat).t.num } → m3.t = (mAt ms ((mAt ms (r.th - 1).toNat).t.to - 1).toNat).t →
      (mAt ((xs.set (q.run - 1).toNat m1).set (r.th - 1).toNat m2) ((mAt ms (r.th - 1).toNat).t.to - 1).toNat).t = { (mAt ms ((mAt ms (r.th - 1).toNat).t.to - 1).toNat).t with num := q.n % 2 } ∧ tabT (((xs.set (q.run - 1).toNat m1).set (r.th - 1).toNat m2).set ((mAt ms (r.th - 1).toNat).t.to - 1).toNat m3) = tabT ms := by
  rw [Jn hp] at h0
  have hr0 := Kh (tabT ms) q
  have h := H9 hp h9 (by omega)
  rw [Je] at hr
  rw [hr] at h
  obtain ⟨hA, hX, ⟨hg, hg1⟩, hth, hth5⟩ := h
  have hrun := Qr (Yw hp).2.2
  have n1 : ¬ r.th = (thAt (tabT ms) r.th).to := fun e => by rw [← e, hth5] at hg1; exact absurd hg1 (by decide)
  have n2 : ¬ r.th = q.run := fun e => by rw [e, hrun.2] at hth5; exact absurd hth5 (by decide)
  have n3 : ¬ (thAt (tabT ms) r.th).to = q.run := fun e => by rw [e, hrun.2] at hg1; exact absurd hg1 (by decide)
  have ex : tabT xs = setNum (setNum (setNum (tabT ms) (thAt (tabT ms) r.th).to (q.n % 2)) r.th (min ((thAt (tabT ms) r.th).num + 1) 99)) q.run 0 := by rw [Uz ht hp, hX]
  have lx : ((tabT xs).length : Int) = (tabT ms).length := by rw [ex, Kg, Kg, Kg]
  have xth : thAt (tabT xs) r.th = { thAt (tabT ms) r.th with num := min ((thAt (tabT ms) r.th).num + 1) 99 } := by
    rw [ex, Q6 (by rw [Kg, Kg]; exact hrun.1) _ hth.1, if_neg n2, Q6 (by rw [Kg]; exact hth) _ hth.1, if_pos rfl, Q6 hg _ hth.1, if_neg n1]
  have xto : thAt (tabT xs) (thAt (tabT ms) r.th).to = { thAt (tabT ms) (thAt (tabT ms) r.th).to with num := q.n % 2 } := by
    rw [ex, Q6 (by rw [Kg, Kg]; exact hrun.1) _ hg.1, if_neg n3, Q6 (by rw [Kg]; exact hth) _ hg.1, if_neg (Ne.symm n1), Q6 hg _ hg.1, if_pos rfl]
  have xrun : thAt (tabT xs) q.run = { thAt (tabT ms) q.run with num := 0 } := by
    rw [ex, Q6 (by rw [Kg, Kg]; exact hrun.1) _ hrun.1.1, if_pos rfl, Q6 (by rw [Kg]; exact hth) _ hrun.1.1, if_neg (Ne.symm n2), Q6 hg _ hrun.1.1, if_neg (Ne.symm n3)]
  have xo : ∀ j : Int, 1 ≤ j → ¬ j = q.run → ¬ j = r.th → ¬ j = (thAt (tabT ms) r.th).to → thAt (tabT xs) j = thAt (tabT ms) j := fun j hj e1 e2 e3 => by
    rw [ex, Q6 (by rw [Kg, Kg]; exact hrun.1) _ hj, if_neg e1, Q6 (by rw [Kg]; exact hth) _ hj, if_neg e2, Q6 hg _ hj, if_neg e3]
  rw [Sf hp, Qk xs, Qk ms r.th]
  refine ⟨hA, by rw [xth], fun m1 m2 m3 e1 e2 e3 => ?_⟩
  have t1 : tabT (xs.set (q.run - 1).toNat m1) = setTh (tabT xs) q.run m1.t := Gy
  have t2 : tabT ((xs.set (q.run - 1).toNat m1).set (r.th - 1).toNat m2) = setTh (setTh (tabT xs) q.run m1.t) r.th m2.t := by rw [Gy, t1]; rfl
  have l1 : ((setTh (tabT xs) q.run m1.t).length : Int) = (tabT ms).length := by rw [Qu]; exact lx
  have l2 : ((setTh (setTh (tabT xs) q.run m1.t) r.th m2.t).length : Int) = (tabT ms).length := by rw [Qu]; exact l1
  rw [Qk xs, Qk ms, xrun] at e1
  rw [Qk _ r.th, t1, Jf (by omega) _ hth.1, if_neg n2, xth] at e2
  rw [Qk ms] at e3
  refine ⟨?_, ?_⟩
  · rw [Qk, Qk, t2, Jf (by omega) _ hg.1, if_neg (Ne.symm n1), Jf (by omega) _ hg.1, if_neg n3, xto]
  · have t3 : tabT (((xs.set (q.run - 1).toNat m1).set (r.th - 1).toNat m2).set ((thAt (tabT ms) r.th).to - 1).toNat m3) = setTh (setTh (setTh (tabT xs) q.run m1.t) r.th m2.t) (thAt (tabT ms) r.th).to m3.t := by rw [Gy, t2]; rfl
    rw [t3]
    refine Oh (by rw [Qu]; omega) fun j hj _ => ?_
    rw [Jf (by omega) j hj]
    by_cases c1 : j = (thAt (tabT ms) r.th).to
    · rw [if_pos c1, e3, c1]
    rw [if_neg c1, Jf (by omega) j hj]
    by_cases c2 : j = r.th
    · rw [if_pos c2, e2, c2]
    rw [if_neg c2, Jf (by omega) j hj]
    by_cases c3 : j = q.run
    · rw [if_pos c3, e1, c3]
    rw [if_neg c3, xo j hj c3 c2 c1]
theorem Tz {k : Int} {x : Bool} (h : ((!(decide (k = 9))) || x) = false) : k = 9 := by
  rw [Bool.or_eq_false_iff, Bool.not_eq_false'] at h
  exact of_decide_eq_true h.1
theorem Fz {y : Int} {x : Bool} (h : (x || (decide (y < 0))) = false) : ¬ y < 0 := by
  rw [Bool.or_eq_false_iff] at h
  exact of_decide_eq_false h.2
theorem F1 (hp : callPoss (tabT ms) q = true) (h9 : q.kind = 9) (h0 : ¬ chkAll (tabT ms) q < 0) : 0 ≤ (mAt ms ((rAt (mAt ms (q.run - 1).toNat).t.slots q.a.toNat).th - 1).toNat).t.num ∧ (mAt ms ((rAt (mAt ms (q.run - 1).toNat).t.slots q.a.toNat).th - 1).toNat).t.num ≤ 99 := by
  rw [Jn hp] at h0
  have hr0 := Kh (tabT ms) q
  have h := H9 hp h9 (by omega)
  rw [Je, Qk]
  have hn := (Qp (Vh (Yw hp).1 h.2.2.2.1).1).2.2.2.1
  unfold numOk at hn
  rw [if_pos (Or.inr h.2.2.2.2)] at hn
  exact Qi.1 hn
end
end Go.Dw
end
section
namespace Go.Proofs.YtlhhijnmacogcaaGreatDoor
open Go.RowKit Go.Dw
set_option maxRecDepth 100000
set_option maxHeartbeats 4000000
set_option linter.unusedSimpArgs false
set_option linter.unusedVariables false
theorem Rc : goFn Tryz.prog 15 = true := by kernel_rfl
theorem Rd : goFn Tryz.prog 16 = true := by kernel_rfl
theorem Hh : goFn Tryz.prog 17 = true := by kernel_rfl
theorem W5 : goFn Tryz.prog 18 = true := by kernel_rfl
theorem Rf : goFn Tryz.prog 19 = true := by kernel_rfl
theorem law_FnDoGate (bs : List Int) (a : Option Addr) (c : Nat) (w : World) (ly : SlAt w a 1 (bs.map bcell)) (hb : ∀ b ∈ bs, 0 ≤ b ∧ b ≤ 255) (hn : bs.length ≤ 9223372036854775807) (hc : bs.length ≤ c) (hE : ErrT w) : CallsR Tryz.prog 7 #[.slice a bs.length c] w (fun v w' => v = .bool true ∧ w.grownBy w' none) := by
 refine Xx (n := 160) Tryz.func7 Z Tryz.ntmps7 Z ?_
 have ia := World.grownBy.refl w none
 have hs := SlAt.lt Wr (by omega) ly
 refine Xa (Xe (v := vb false) Z Z (Xb (Xq (Xa (Xd (v := .slice a bs.length c) Z Z (Y1 (by kernel_rfl) Z Z (Jm (q := decide (1048576 < (bs.length : Int))) Z Z Z Z (Xb (X0 Z (fun be => ?_) (fun be => ?_))))))))))
 have nv := of_decide_eq_true be
 refine Xa (Xe (v := vb true) Z Z (Xb (Xt (Yk (⟨vb true, Yt Z Z, ?_, ia⟩)))))
 rfl
 have nw := of_decide_eq_false be
 refine Xz (Xu (Xa (Xd (v := .slice a bs.length c) Z Z (Xn Rc (Xf Z Xm) Z (Uv bs a c _ (SlAt.low ly ia) hb (by omega) (by omega)) ?_))))
 rintro _ ot ⟨ak, ac, E, G, rfl, cf, ft, mc, nj, ie⟩
 have d5 := low0 ia ie
 have aj := ft.len
 refine Xd (v := .tuple #[.slice (pa ak) E.length ac, .agg #[vi G.kind, vi G.run, vi G.a, vi G.b, vi G.n]]) Z Z (Ye (v := .slice (pa ak) E.length ac) Z Z Z (Ye (v := .agg #[vi G.kind, vi G.run, vi G.a, vi G.b, vi G.n]) Z Z Z (Yf (cs := #[vi 0, vi 0, vi 0, vi 0, vi 0]) Ho Z Z ?_)))
 intro ce ou ar
 have mm := Yd ar d5
 refine Xe (v := .slice (pa ak) E.length ac) Z Z (Xy (vs := [vi G.kind, vi G.run, vi G.a, vi G.b, vi G.n]) (cs' := #[vi G.kind, vi G.run, vi G.a, vi G.b, vi G.n]) Y6 Z Z Z (by simp [Value.oneCell']) ar.blk (Nat.le_of_ble_eq_true Z) Z ?_)
 intro ov bh
 refine Xb (Xa (Xd (v := .slice (pa ak) E.length ac) Z Z (Xr (vs := [vi G.kind, vi G.run, vi G.a, vi G.b, vi G.n]) Y6 Z Z (bh.blk.rangeL 0 5 Z) Z ?_)))
 have na := (bh.blk).lt
 refine Xn Rd (Xf Z (Xf Z Xm)) Z (G7 G _ E _ _ (TabG.at (TabG.low cf (low1 ar.grw bh.grw (nt ((World.grownBy.refl _ none)).size (Nat.le_of_eq ar.eq.symm))))) aj (by omega)) ?_
 rintro _ ow ⟨db, bu, br, rfl, fq, cn, ck⟩
 have d6 := low0 (low1 (low0 d5 ar.grw) bh.grw (by omega)) ck
 have d0 := Kq cn
 have ne := J8 cn
 refine Xd (v := .tuple #[.slice (pa db) br.length bu, vi (callDo (tabT E) G).2]) Z Z (Ye (v := .slice (pa db) br.length bu) Z Z Z (Ye (v := vi (callDo (tabT E) G).2) Z Z Z (Xe (v := .slice (pa db) br.length bu) Z Z (Xe (v := vi (callDo (tabT E) G).2) Z Z (Xb (Xa (Xd (v := .slice (pa ak) E.length ac) Z Z ?_)))))))
 have ek := (bh.blk.grown0 ck)
 refine Xr (vs := [vi G.kind, vi G.run, vi G.a, vi G.b, vi G.n]) Y6 Z Z (ek.rangeL 0 5 Z) Z ?_
 have nb := (ek).lt
 refine Xn Hh (Xf Z (Xf Z Xm)) Z (Uk G _ E _ _ (TabG.at (TabG.low cf (low0 (low1 ar.grw bh.grw (nt ((World.grownBy.refl _ none)).size (Nat.le_of_eq ar.eq.symm))) ck))) aj (by omega) (ErrT.grown0 hE d6)) ?_
 rintro _ ox ⟨bl, ao, J, rfl, cw, bq, cl⟩
 have bb := Kq bq
 have nf := J8 bq
 refine Xd (v := .tuple #[.slice bl J.length ao, vi (callDo (tabT E) G).2]) Z Z (Ye (v := .slice bl J.length ao) Z Z Z (Ye (v := vi (callDo (tabT E) G).2) Z Z Z (Xe (v := .slice bl J.length ao) Z Z (Xe (v := vi (callDo (tabT E) G).2) Z Z (Xb (Xq (Xa (Xd (v := vi (callDo (tabT E) G).2) Z Z (Xd (v := vi (callDo (tabT E) G).2) Z Z (Q1 (q := false) Z Z (by simp) Z (Xd (v := vb false) Z Z (Xg Z Z Z Z ?_))))))))))))
 refine Xd (v := .slice bl J.length ao) Z Z (Xg Z Z Z Z (Xd (v := .slice (pa db) br.length bu) Z Z (Xg Z Z Z Z ?_)))
 have cy := (TabG.low fq cl)
 refine Xn W5 (Xf Z (Xf Z Xm)) Z (Vb _ J br _ _ _ _ (TabG.at cw) (TabG.at cy) bb d0 (by omega) (by omega)) ?_
 rintro _ oy ⟨rfl, bj⟩
 refine Xg Z Z Z Z (Yn (b' := false) (congrArg Value.bool (decide_eq_true (bq.trans cn.symm))) Z Z (Xp (v := vb false) Z Z Z Z (Xd (v := vb false) Z Z (Xg Z Z Z Z (Xd (v := .slice (pa ak) E.length ac) Z Z (Xg Z Z Z Z ?_))))))
 have cv := ((ek.grown0 cl).grown0 bj)
 refine Xr (vs := [vi G.kind, vi G.run, vi G.a, vi G.b, vi G.n]) Y6 Z Z (cv.rangeL 0 5 Z) Z (Xg Z Z Z Z (Xn Rf (Xf Z (Xf Z Xm)) Z (N4 G _ E _ _ (TabG.at (TabG.low cf (low0 (low0 (low0 (low1 ar.grw bh.grw (nt ((World.grownBy.refl _ none)).size (Nat.le_of_eq ar.eq.symm))) ck) cl) bj))) aj (by omega)) ?_))
 rintro _ gr ⟨rfl, aw⟩
 have di := low0 (low0 (low0 d6 cl) bj) aw
 refine Xg Z Z Z Z (Yn (b' := !callPoss (tabT E) G) Z Z Z (Xp (v := vb (!callPoss (tabT E) G)) Z Z Z Z (Xb (X0 Z (fun bf => ?_) (fun bf => ?_)))))
 have nx := Jr bf
 refine Xa (Xd (v := vi (callDo (tabT E) G).2) Z Z (Xd (v := vi (callDo (tabT E) G).2) Z Z (X6 (q := true) Z Z (by simp) Z (Xd (v := vb true) Z Z (Xg Z Z Z Z (Xd (v := .slice bl J.length ao) Z Z (Xg Z Z Z Z (Xd (v := .slice (pa db) br.length bu) Z Z (Xg Z Z Z Z (Xn W5 (Xf Z (Xf Z Xm)) Z (Vb _ J br _ _ _ _ (TabG.at (TabG.low (TabG.low cw bj) aw)) (TabG.at (TabG.low (TabG.low cy bj) aw)) bb d0 (by omega) (by omega)) ?_))))))))))
 rintro _ oz ⟨rfl, ig⟩
 refine Xw (v := vb true) Z Z (congrArg Value.bool (decide_eq_true (bq.trans cn.symm))) Z (Xe (v := vb true) Z Z (Xb (Xt (Yk (⟨vb true, Yt Z Z, ?_, (low0 di ig)⟩)))))
 rfl
 have aq := Q3 bf
 obtain ⟨av, bc, ap⟩ := Yw aq
 have mf := Yx bc
 have ml := (Qe ap).1
 have ni := Qt av ap
 have nc := Jk av
 have hde := Kb aq
 have hrk := Qr (Yw aq).2.2
 have ng := Vk cn aq
 have nh := Vk bq aq
 obtain ⟨hi, hhi⟩ : ∃ n, n = gr.heap.size := ⟨_, rfl⟩
 have cz := (TabG.low cf (low0 (low0 (low0 (low0 (low1 ar.grw bh.grw (nt ((World.grownBy.refl _ none)).size (Nat.le_of_eq ar.eq.symm))) ck) cl) bj) aw))
 have bw := TabG.hi cz
 rw [← hhi] at bw
 have lm := TabG.hi (TabG.low (TabG.low cy bj) aw)
 rw [← hhi] at lm
 have dq := (TabG.low (TabG.low cw bj) aw)
 have bx := TabG.hi dq
 rw [← hhi] at bx
 have mb := Sj bq aq
 refine Xz (Xu (Xq (Ya (fun f' w' => (f' 2 = vb false ∧ f' 3 = .slice (pa ak) E.length ac ∧ f' 4 = pt ce 0 ∧ f' 7 = .slice bl J.length ao ∧ f' 8 = vi (callDo (tabT E) G).2 ∧ f' 65 = vb ((!(decide (G.kind = 9))) || (decide (chkAll (tabT E) G < 0)))) ∧ gr.grownBy w' none) ?_ ?_)))
 refine Xc (o' := 0) Ji Z Z Z ?_
 have gc := (cv.grown0 aw)
 refine Xh (v := vi G.kind) X1 Z (gc.cell Z) Z (Q1 (q := !(decide (G.kind = 9))) Z Z Z Z (Xd (v := vb (!(decide (G.kind = 9)))) Z Z ?_))
 rcases Yg (!(decide (G.kind = 9))) with az | az
 have d2 := Jr az
 have ny := of_decide_eq_false d2
 iterate 4 refine Xj rfl rfl rfl az rfl ?_
 exact Xw (v := vb true) Z az Z Z (Xb ⟨⟨Z, Z, Z, Z, Z, (congrArg Value.bool (by first | (simp only [be, bf, aq, az, d2, av, bc, ap, b0, b1, b2, b3, b4, b5, b6, b7, b8, b9]; done) | simp [be, bf, aq, az, d2, av, bc, ap]))⟩, (World.grownBy.refl _ _)⟩)
 have d3 := Q3 az
 have n5 := of_decide_eq_true d3
 refine Xg Z Z Z az (Xd (v := .slice (pa ak) E.length ac) Z Z (Xg Z Z Z az (Xr (vs := [vi G.kind, vi G.run, vi G.a, vi G.b, vi G.n]) Y6 Z Z (gc.rangeL 0 5 Z) Z (Xg Z Z Z az (Xn Z4 (Xf Z (Xf Z Xm)) Z (Hb G _ E _ _ (TabG.at cz) aj (by omega) (ErrT.grown0 hE di)) ?_)))))
 rintro _ o0 ⟨rfl, ii⟩
 have me := W8 (ts := tabT E) (q := G)
 exact Xg Z Z Z az (Qg (q := decide (chkAll (tabT E) G < 0)) Z Z Z Z (Xp (v := vb (decide (chkAll (tabT E) G < 0))) Z az Z Z (Xb ⟨⟨Z, Z, Z, Z, Z, (congrArg Value.bool (by first | (simp only [be, bf, aq, az, d3, av, bc, ap, b0, b1, b2, b3, b4, b5, b6, b7, b8, b9]; done) | simp [be, bf, aq, az, d3, av, bc, ap]))⟩, ii⟩)))
 rintro nr e0 ⟨⟨jm, jo, jp, jq, jr, js⟩, am⟩
 have dk := low0 di am
 refine X0 js (fun bv => ?_) (fun bv => ?_)
 refine Xa (Xe (v := vb true) Z Z (Xb (Xt (Yk (⟨vb true, Yt Z Z, ?_, dk⟩)))))
 rfl
 have dm := Tz bv
 have dn := Fz bv
 have mg := O3 aq dm dn
 have mh := F1 aq dm dn
 obtain ⟨ib, ic, eb⟩ := M3 bq aq dm dn (r := (rAt (mAt E (G.run - 1).toNat).t.slots (G.a).toNat)) rfl
 have af : (decide ((callDo (tabT E) G).2 = 0)) = true := decide_eq_true ib
 have an : (decide ((mAt J ((rAt (mAt E (G.run - 1).toNat).t.slots (G.a).toNat).th - 1).toNat).t.num = min ((mAt E ((rAt (mAt E (G.run - 1).toNat).t.slots (G.a).toNat).th - 1).toNat).t.num + 1) 99)) = true := decide_eq_true ic
 have de := Kl bv
 have df := Q3 de
 have n7 := of_decide_eq_true df
 have dg := Km bv
 have n9 := of_decide_eq_false dg
 refine Xz (Xu (Xq ?_))
 have c8 := (TabG.low cz am)
 obtain ⟨fx, oe, eu, gz, i5, jc⟩ := SlAt.at (TabG.at c8).1 (Yp (xg E (G.run - 1).toNat))
 have mw := TabLen.at aj (xg E (G.run - 1).toNat)
 obtain ⟨jk, og, l5, g0, i6, jd⟩ := SlAt.at (TabAt.th (TabG.at c8) (xg E (G.run - 1).toNat)).1 (Yp (xr (mAt E (G.run - 1).toNat).t.slots (G.a).toNat))
 have nd := Us av (lq (G.run - 1).toNat E.length) (lq (G.a).toNat (mAt E (G.run - 1).toNat).t.slots.length)
 have nk : hi ≤ e0.heap.size := (nt (Nat.le_of_eq hhi) am.size)
 refine Qv (m := 12) [[], [], [1], [1, 2], [0, 1, 2, 3], [0, 1, 2, 3, 4], [0, 1, 2, 3, 4, 5], [], [7], [0, 1, 2, 3, 4, 5, 6, 7, 8], [0, 1, 2, 3, 4, 5, 6, 7, 8, 9], [], [0, 1, 2, 3, 4, 5, 6, 7, 8, 9, 10, 11]] (fun S F w' => ∃ (ab : Nat), e0.grownBy w' none ∧ F 2 = vb false ∧ F 3 = .slice (pa ak) E.length ac ∧ F 4 = pt ce 0 ∧ F 7 = .slice bl J.length ao ∧ F 8 = vi (callDo (tabT E) G).2 ∧ (S 11 = true → F 9 = pt ab 0 ∧ w.heap.size ≤ ab ∧ Blk w' ab 33 #[vi 0, vi 0, vb false, vb false, vb false] ∧ ce < ab ∧ e0.heap.size ≤ ab) ∧ Vals S F [(0, 66, .slice (pa ak) E.length ac), (1, 67, pt ce 1), (2, 68, vi G.run), (3, 69, vi (G.run - 1)), (4, 70, pt fx eu), (5, 71, pt fx (eu + 5)), (6, 72, .slice (mAt E (G.run - 1).toNat).sa (mAt E (G.run - 1).toNat).t.slots.length (mAt E (G.run - 1).toNat).sc), (7, 73, pt ce 2), (8, 74, vi G.a), (9, 75, pt jk l5), (10, 76, .agg #[vi (rAt (mAt E (G.run - 1).toNat).t.slots (G.a).toNat).th, vi (rAt (mAt E (G.run - 1).toNat).t.slots (G.a).toNat).ve, vb (rAt (mAt E (G.run - 1).toNat).t.slots (G.a).toNat).rd, vb (rAt (mAt E (G.run - 1).toNat).t.slots (G.a).toNat).wr, vb (rAt (mAt E (G.run - 1).toNat).t.slots (G.a).toNat).wk])]) Yz (by kernel_rfl) ⟨0, X8 _, jm, jo, jp, jq, jr, Ym, J2 _⟩ ?_ ?_
 refine Xi (fun S F o1 hS hbef hcl hI => ?_) ?_
 obtain ⟨ab, im, jt, f8, ju, jv, jw, ad, hvs⟩ := hI
 exact Xd (v := .slice (pa ak) E.length ac) f8 Z (Xb ⟨ab, im, jt, f8, ju, jv, jw, ad, Vals.up 0 hvs Z Z Z⟩)
 refine Xi (fun S F o3 hS hbef hcl hI => ?_) ?_
 obtain ⟨ab, io, jx, jy, f9, jz, j1, ad, hvs⟩ := hI
 exact Xc (o' := 1) Q5 f9 Z Z (Xb ⟨ab, io, jx, jy, f9, jz, j1, ad, Vals.up 1 hvs Z Z Z⟩)
 refine Xi (fun S F o4 hS hbef hcl hI => ?_) ?_
 obtain ⟨ab, ee, j2, j3, j4, j5, j6, ad, hvs⟩ := hI
 exact Xh (v := vi G.run) X1 (Vals.at 1 hvs Z (Xl 1 hbef Z)) ((((cv.grown0 aw).grown0 am).grown0 ee).cell Z) Z (Xb ⟨ab, ee, j2, j3, j4, j5, j6, ad, Vals.up 2 hvs Z Z Z⟩)
 refine Xi (fun S F o5 hS hbef hcl hI => ?_) ?_
 obtain ⟨ab, ip, j7, j8, j9, ka, kb, ad, hvs⟩ := hI
 exact Yr (c := G.run - 1) (Vals.at 2 hvs Z (Xl 2 hbef Z)) Z (by omega) (by omega) (by omega) Z (Xb ⟨ab, ip, j7, j8, j9, ka, kb, ad, Vals.up 3 hvs Z Z Z⟩)
 refine Xi (fun S F o6 hS hbef hcl hI => ?_) ?_
 obtain ⟨ab, iq, kc, ke, kf, kg, kh, ad, hvs⟩ := hI
 exact X3 Qc (Vals.at 0 hvs Z (Xl 0 hbef Z)) (Vals.at 3 hvs Z (Xl 3 hbef Z)) gz i5 (by omega) (by omega) Z (Xb ⟨ab, iq, kc, ke, kf, kg, kh, ad, Vals.up 4 hvs Z Z Z⟩)
 refine Xi (fun S F o7 hS hbef hcl hI => ?_) ?_
 obtain ⟨ab, ir, ki, kj, kk, kl, km, ad, hvs⟩ := hI
 exact Xc (o' := eu + 5) Qj (Vals.at 4 hvs Z (Xl 4 hbef Z)) Z Z (Xb ⟨ab, ir, ki, kj, kk, kl, km, ad, Vals.up 5 hvs Z Z Z⟩)
 refine Xi (fun S F o8 hS hbef hcl hI => ?_) ?_
 obtain ⟨ab, ef, kn, ko, kp, kq, kr, ad, hvs⟩ := hI
 exact Xh (v := .slice (mAt E (G.run - 1).toNat).sa (mAt E (G.run - 1).toNat).t.slots.length (mAt E (G.run - 1).toNat).sc) Jd (Vals.at 5 hvs Z (Xl 5 hbef Z)) ((Yi jc ef) 5 _ Z) Z (Xb ⟨ab, ef, kn, ko, kp, kq, kr, ad, Vals.up 6 hvs Z Z Z⟩)
 refine Xi (fun S F o9 hS hbef hcl hI => ?_) ?_
 obtain ⟨ab, it, ks, kt, ga, ku, kv, ad, hvs⟩ := hI
 exact Xc (o' := 2) Kr ga Z Z (Xb ⟨ab, it, ks, kt, ga, ku, kv, ad, Vals.up 7 hvs Z Z Z⟩)
 refine Xi (fun S F pb hS hbef hcl hI => ?_) ?_
 obtain ⟨ab, eg, kw, kx, ky, kz, k0, ad, hvs⟩ := hI
 exact Xh (v := vi G.a) X1 (Vals.at 7 hvs Z (Xl 7 hbef Z)) ((((cv.grown0 aw).grown0 am).grown0 eg).cell Z) Z (Xb ⟨ab, eg, kw, kx, ky, kz, k0, ad, Vals.up 8 hvs Z Z Z⟩)
 refine Xi (fun S F pc hS hbef hcl hI => ?_) ?_
 obtain ⟨ab, iu, k4, k5, k6, k7, k8, ad, hvs⟩ := hI
 exact X3 J9 (Vals.at 6 hvs Z (Xl 6 hbef Z)) (Vals.at 8 hvs Z (Xl 8 hbef Z)) g0 i6 (by omega) (by omega) Z (Xb ⟨ab, iu, k4, k5, k6, k7, k8, ad, Vals.up 9 hvs Z Z Z⟩)
 refine Xi (fun S F pd hS hbef hcl hI => ?_) ?_
 obtain ⟨ab, eh, k9, la, lc, ld, le, ad, hvs⟩ := hI
 exact Xr (vs := [vi (rAt (mAt E (G.run - 1).toNat).t.slots (G.a).toNat).th, vi (rAt (mAt E (G.run - 1).toNat).t.slots (G.a).toNat).ve, vb (rAt (mAt E (G.run - 1).toNat).t.slots (G.a).toNat).rd, vb (rAt (mAt E (G.run - 1).toNat).t.slots (G.a).toNat).wr, vb (rAt (mAt E (G.run - 1).toNat).t.slots (G.a).toNat).wk]) Y0 (Vals.at 9 hvs Z (Xl 9 hbef Z)) Z (Y2 (Yi jd eh) 0 5 Z) Z (Xb ⟨ab, eh, k9, la, lc, ld, le, ad, Vals.up 10 hvs Z Z Z⟩)
 refine Xi (fun S F pe hS hbef hcl hI => ?_) ?_
 obtain ⟨ab, cm, lf, lg, lh, li, lj, ad, hvs⟩ := hI
 refine Yf (cs := #[vi 0, vi 0, vb false, vb false, vb false]) K3 Z Z ?_
 intro fv pf bz
 have fu := Yd bz (low0 dk cm)
 have ln : hi ≤ fv := nt (nt (nt (Nat.le_of_eq hhi) am.size) cm.size) (Nat.le_of_eq bz.eq.symm)
 have co := Xo bz ((((cv.grown0 aw).grown0 am).grown0 cm)).lt
 exact Xb ⟨fv, (low0 cm bz.grw), lf, lg, lh, li, lj, fun _ => ⟨Z, fu, bz.blk, co, (nt cm.size (Nat.le_of_eq bz.eq.symm))⟩, Vals.keep hvs Z⟩
 exact Jb
 intro S F pg hall hI
 obtain ⟨ab, bk, nq, dc, d1, gb, lk, ad, hvs⟩ := hI
 obtain ⟨dp, mn, ep, fb, lw⟩ := ad (hall 11 (by decide))
 refine Xy (vs := [vi (rAt (mAt E (G.run - 1).toNat).t.slots (G.a).toNat).th, vi (rAt (mAt E (G.run - 1).toNat).t.slots (G.a).toNat).ve, vb (rAt (mAt E (G.run - 1).toNat).t.slots (G.a).toNat).rd, vb (rAt (mAt E (G.run - 1).toNat).t.slots (G.a).toNat).wr, vb (rAt (mAt E (G.run - 1).toNat).t.slots (G.a).toNat).wk]) (cs' := #[vi (rAt (mAt E (G.run - 1).toNat).t.slots (G.a).toNat).th, vi (rAt (mAt E (G.run - 1).toNat).t.slots (G.a).toNat).ve, vb (rAt (mAt E (G.run - 1).toNat).t.slots (G.a).toNat).rd, vb (rAt (mAt E (G.run - 1).toNat).t.slots (G.a).toNat).wr, vb (rAt (mAt E (G.run - 1).toNat).t.slots (G.a).toNat).wk]) Y0 dp (Vals.at 10 hvs Z (hall 10 (by decide))) Z (by simp [Value.oneCell']) ep (Nat.le_of_ble_eq_true Z) Z ?_
 intro ph au
 have d7 := low1 (low0 dk bk) au.grw (by omega)
 refine Xb (Xu (Xa (Xd (v := .slice (pa ak) E.length ac) dc Z (Xc (o' := 0) Yo dp Z Z (Xh (v := vi (rAt (mAt E (G.run - 1).toNat).t.slots (G.a).toNat).th) X1 Z (au.blk.cell Z) Z (Yr (c := (rAt (mAt E (G.run - 1).toNat).t.slots (G.a).toNat).th - 1) Z Z (by omega) (by omega) (by omega) Z ?_))))))
 have dr := (TabG.ge (TabG.low c8 bk) au.grw bw (by omega))
 obtain ⟨no, oh, oc, g5, i7, je⟩ := SlAt.at (TabG.at dr).1 (Yp (xg E ((rAt (mAt E (G.run - 1).toNat).t.slots (G.a).toNat).th - 1).toNat))
 have my := TabLen.at aj (xg E ((rAt (mAt E (G.run - 1).toNat).t.slots (G.a).toNat).th - 1).toNat)
 refine X3 Qc Z Z g5 i7 (by omega) (by omega) Z (Xr (vs := [vi (mAt E ((rAt (mAt E (G.run - 1).toNat).t.slots (G.a).toNat).th - 1).toNat).t.kind, vi (mAt E ((rAt (mAt E (G.run - 1).toNat).t.slots (G.a).toNat).th - 1).toNat).t.lab.s, vi (mAt E ((rAt (mAt E (G.run - 1).toNat).t.slots (G.a).toNat).th - 1).toNat).t.lab.v, vi (mAt E ((rAt (mAt E (G.run - 1).toNat).t.slots (G.a).toNat).th - 1).toNat).t.ve, vi (mAt E ((rAt (mAt E (G.run - 1).toNat).t.slots (G.a).toNat).th - 1).toNat).t.num, .slice (mAt E ((rAt (mAt E (G.run - 1).toNat).t.slots (G.a).toNat).th - 1).toNat).sa (mAt E ((rAt (mAt E (G.run - 1).toNat).t.slots (G.a).toNat).th - 1).toNat).t.slots.length (mAt E ((rAt (mAt E (G.run - 1).toNat).t.slots (G.a).toNat).th - 1).toNat).sc, .slice (mAt E ((rAt (mAt E (G.run - 1).toNat).t.slots (G.a).toNat).th - 1).toNat).qa (mAt E ((rAt (mAt E (G.run - 1).toNat).t.slots (G.a).toNat).th - 1).toNat).t.queue.length (mAt E ((rAt (mAt E (G.run - 1).toNat).t.slots (G.a).toNat).th - 1).toNat).qc, vi (mAt E ((rAt (mAt E (G.run - 1).toNat).t.slots (G.a).toNat).th - 1).toNat).t.to]) Ys Z Z (Y2 je 0 8 Z) Z (Yf (cs := #[vi 0, vi 0, vi 0, vi 0, vi 0, .slice none 0 0, .slice none 0 0, vi 0]) Ka Z Z ?_))
 intro ct pi al
 have mo := Yd al d7
 have lp : hi ≤ ct := nt (nt (nt (nt (Nat.le_of_eq hhi) am.size) bk.size) au.grw.size) (Nat.le_of_eq al.eq.symm)
 have gf := ((((cv.grown0 aw).grown0 am).grown0 bk).gn au.grw)
 have fc := Xo al (gf).lt
 have ff := Xo al (au.blk).lt
 refine Xy (vs := [vi (mAt E ((rAt (mAt E (G.run - 1).toNat).t.slots (G.a).toNat).th - 1).toNat).t.kind, vi (mAt E ((rAt (mAt E (G.run - 1).toNat).t.slots (G.a).toNat).th - 1).toNat).t.lab.s, vi (mAt E ((rAt (mAt E (G.run - 1).toNat).t.slots (G.a).toNat).th - 1).toNat).t.lab.v, vi (mAt E ((rAt (mAt E (G.run - 1).toNat).t.slots (G.a).toNat).th - 1).toNat).t.ve, vi (mAt E ((rAt (mAt E (G.run - 1).toNat).t.slots (G.a).toNat).th - 1).toNat).t.num, .slice (mAt E ((rAt (mAt E (G.run - 1).toNat).t.slots (G.a).toNat).th - 1).toNat).sa (mAt E ((rAt (mAt E (G.run - 1).toNat).t.slots (G.a).toNat).th - 1).toNat).t.slots.length (mAt E ((rAt (mAt E (G.run - 1).toNat).t.slots (G.a).toNat).th - 1).toNat).sc, .slice (mAt E ((rAt (mAt E (G.run - 1).toNat).t.slots (G.a).toNat).th - 1).toNat).qa (mAt E ((rAt (mAt E (G.run - 1).toNat).t.slots (G.a).toNat).th - 1).toNat).t.queue.length (mAt E ((rAt (mAt E (G.run - 1).toNat).t.slots (G.a).toNat).th - 1).toNat).qc, vi (mAt E ((rAt (mAt E (G.run - 1).toNat).t.slots (G.a).toNat).th - 1).toNat).t.to]) (cs' := #[vi (mAt E ((rAt (mAt E (G.run - 1).toNat).t.slots (G.a).toNat).th - 1).toNat).t.kind, vi (mAt E ((rAt (mAt E (G.run - 1).toNat).t.slots (G.a).toNat).th - 1).toNat).t.lab.s, vi (mAt E ((rAt (mAt E (G.run - 1).toNat).t.slots (G.a).toNat).th - 1).toNat).t.lab.v, vi (mAt E ((rAt (mAt E (G.run - 1).toNat).t.slots (G.a).toNat).th - 1).toNat).t.ve, vi (mAt E ((rAt (mAt E (G.run - 1).toNat).t.slots (G.a).toNat).th - 1).toNat).t.num, .slice (mAt E ((rAt (mAt E (G.run - 1).toNat).t.slots (G.a).toNat).th - 1).toNat).sa (mAt E ((rAt (mAt E (G.run - 1).toNat).t.slots (G.a).toNat).th - 1).toNat).t.slots.length (mAt E ((rAt (mAt E (G.run - 1).toNat).t.slots (G.a).toNat).th - 1).toNat).sc, .slice (mAt E ((rAt (mAt E (G.run - 1).toNat).t.slots (G.a).toNat).th - 1).toNat).qa (mAt E ((rAt (mAt E (G.run - 1).toNat).t.slots (G.a).toNat).th - 1).toNat).t.queue.length (mAt E ((rAt (mAt E (G.run - 1).toNat).t.slots (G.a).toNat).th - 1).toNat).qc, vi (mAt E ((rAt (mAt E (G.run - 1).toNat).t.slots (G.a).toNat).th - 1).toNat).t.to]) Ys Z Z Z (by simp [Value.oneCell']) al.blk (Nat.le_of_ble_eq_true Z) Z ?_
 intro pj a8
 have d8 := low1 (low0 d7 al.grw) a8.grw (by omega)
 refine Xb (Xa (X7 (ps := []) (e := 39) (cs := (([] : List MTh).flatMap MTh.cells).toArray) X5 (fun _ => by kernel_rfl) Z ?_))
 intro fw l7 ah
 have mp := Yd ah d8
 have ed : hi ≤ fw := nt (nt (nt (nt (nt (nt (Nat.le_of_eq hhi) am.size) bk.size) au.grw.size) al.grw.size) a8.grw.size) (Nat.le_of_eq ah.eq.symm)
 have gg := ((gf.grown0 al.grw).gn a8.grw)
 have fd := Xo ah (gg).lt
 have gh := ((au.blk.grown0 al.grw).gn a8.grw)
 have fg := Xo ah (gh).lt
 have fi := Xo ah (a8.blk).lt
 have d9 := low0 d8 ah.grw
 refine Xd (v := .slice bl J.length ao) gb Z ?_
 have gi := (gg.grown0 ah.grw)
 have gj := (gh.grown0 ah.grw)
 have gk := (a8.blk.grown0 ah.grw)
 have c9 := (TabG.low (TabG.ge (TabG.low (TabG.ge (TabG.low (TabG.low dq am) bk) au.grw bx (by omega)) al.grw) a8.grw bx (by omega)) ah.grw)
 refine Jg (g := MTh.cells) (ys := []) (zs := J) (lo := hi) Tg Z Yj (by omega) Ke Z Z (OwnN.of (Own.rows Yj ah.blk (by simp)) ed) (TabG.at c9).1 (fun h => absurd h (Of (TabG.at c9) (by omega))) (by simp only [List.length_nil]; omega) (by omega) (nt (nt (nt (nt (nt (nt (Nat.le_of_eq hhi) am.size) bk.size) au.grw.size) al.grw.size) a8.grw.size) ah.grw.size) Z ?_
 intro nn ae fa gv ij cg
 have bn : World.grownBy l7 fa (some fw) := ij
 obtain ⟨ag, rfl, lv, d4⟩ := OwnN.some_ gv (lq 0 J.length)
 have mv : w.heap.size ≤ ag := by have h2 := N9 cg; have h3 := (d9).size; omega
 have fm : ce ≠ ag := by have h := (gi).lt; have h2 := N9 cg; omega
 have fo : ab ≠ ag := by have h := (gj).lt; have h2 := N9 cg; omega
 have fp : ct ≠ ag := by have h := (gk).lt; have h2 := N9 cg; omega
 have ea := low1 d9 bn (by omega)
 refine Xe (v := .slice (pa ag) J.length ae) Z Z (Xb (Xa (Xd (v := .slice (pa ak) E.length ac) dc Z (Xc (o' := 7) J5 Z Z Z ?_))))
 have em := (gk.gn bn)
 refine Xh (v := vi (mAt E ((rAt (mAt E (G.run - 1).toNat).t.slots (G.a).toNat).th - 1).toNat).t.to) X1 Z (em.cell Z) Z (Yr (c := (mAt E ((rAt (mAt E (G.run - 1).toNat).t.slots (G.a).toNat).th - 1).toNat).t.to - 1) Z Z (by omega) (by omega) (by omega) Z ?_)
 have dt := (TabG.ge (TabG.low (TabG.ge (TabG.low dr al.grw) a8.grw bw (by omega)) ah.grw) bn bw (by omega))
 obtain ⟨np, ol, od, g6, i8, jf⟩ := SlAt.at (TabG.at dt).1 (Yp (Q0 (show ((mAt E ((rAt (mAt E (G.run - 1).toNat).t.slots (G.a).toNat).th - 1).toNat).t.to - 1).toNat < E.length by omega)))
 have mz := TabLen.at aj (Q0 (show ((mAt E ((rAt (mAt E (G.run - 1).toNat).t.slots (G.a).toNat).th - 1).toNat).t.to - 1).toNat < E.length by omega))
 refine X3 Qc Z Z g6 i8 (by omega) (by omega) Z (Xr (vs := [vi (mAt E ((mAt E ((rAt (mAt E (G.run - 1).toNat).t.slots (G.a).toNat).th - 1).toNat).t.to - 1).toNat).t.kind, vi (mAt E ((mAt E ((rAt (mAt E (G.run - 1).toNat).t.slots (G.a).toNat).th - 1).toNat).t.to - 1).toNat).t.lab.s, vi (mAt E ((mAt E ((rAt (mAt E (G.run - 1).toNat).t.slots (G.a).toNat).th - 1).toNat).t.to - 1).toNat).t.lab.v, vi (mAt E ((mAt E ((rAt (mAt E (G.run - 1).toNat).t.slots (G.a).toNat).th - 1).toNat).t.to - 1).toNat).t.ve, vi (mAt E ((mAt E ((rAt (mAt E (G.run - 1).toNat).t.slots (G.a).toNat).th - 1).toNat).t.to - 1).toNat).t.num, .slice (mAt E ((mAt E ((rAt (mAt E (G.run - 1).toNat).t.slots (G.a).toNat).th - 1).toNat).t.to - 1).toNat).sa (mAt E ((mAt E ((rAt (mAt E (G.run - 1).toNat).t.slots (G.a).toNat).th - 1).toNat).t.to - 1).toNat).t.slots.length (mAt E ((mAt E ((rAt (mAt E (G.run - 1).toNat).t.slots (G.a).toNat).th - 1).toNat).t.to - 1).toNat).sc, .slice (mAt E ((mAt E ((rAt (mAt E (G.run - 1).toNat).t.slots (G.a).toNat).th - 1).toNat).t.to - 1).toNat).qa (mAt E ((mAt E ((rAt (mAt E (G.run - 1).toNat).t.slots (G.a).toNat).th - 1).toNat).t.to - 1).toNat).t.queue.length (mAt E ((mAt E ((rAt (mAt E (G.run - 1).toNat).t.slots (G.a).toNat).th - 1).toNat).t.to - 1).toNat).qc, vi (mAt E ((mAt E ((rAt (mAt E (G.run - 1).toNat).t.slots (G.a).toNat).th - 1).toNat).t.to - 1).toNat).t.to]) Ys Z Z (Y2 jf 0 8 Z) Z (Yf (cs := #[vi 0, vi 0, vi 0, vi 0, vi 0, .slice none 0 0, .slice none 0 0, vi 0]) Ka Z Z ?_))
 intro jj pk ai
 have mq := Yd ai ea
 have lu : hi ≤ jj := nt (nt (nt (nt (nt (nt (nt (nt (Nat.le_of_eq hhi) am.size) bk.size) au.grw.size) al.grw.size) a8.grw.size) ah.grw.size) bn.size) (Nat.le_of_eq ai.eq.symm)
 have gl := (gi.gn bn)
 have fe := Xo ai (gl).lt
 have gm := (gj.gn bn)
 have fh := Xo ai (gm).lt
 have fj := Xo ai (em).lt
 have fk := Xo ai ((show Dw.Own fa ag 39 8 ae J.length (J.flatMap MTh.cells) from d4)).lt
 refine Xy (vs := [vi (mAt E ((mAt E ((rAt (mAt E (G.run - 1).toNat).t.slots (G.a).toNat).th - 1).toNat).t.to - 1).toNat).t.kind, vi (mAt E ((mAt E ((rAt (mAt E (G.run - 1).toNat).t.slots (G.a).toNat).th - 1).toNat).t.to - 1).toNat).t.lab.s, vi (mAt E ((mAt E ((rAt (mAt E (G.run - 1).toNat).t.slots (G.a).toNat).th - 1).toNat).t.to - 1).toNat).t.lab.v, vi (mAt E ((mAt E ((rAt (mAt E (G.run - 1).toNat).t.slots (G.a).toNat).th - 1).toNat).t.to - 1).toNat).t.ve, vi (mAt E ((mAt E ((rAt (mAt E (G.run - 1).toNat).t.slots (G.a).toNat).th - 1).toNat).t.to - 1).toNat).t.num, .slice (mAt E ((mAt E ((rAt (mAt E (G.run - 1).toNat).t.slots (G.a).toNat).th - 1).toNat).t.to - 1).toNat).sa (mAt E ((mAt E ((rAt (mAt E (G.run - 1).toNat).t.slots (G.a).toNat).th - 1).toNat).t.to - 1).toNat).t.slots.length (mAt E ((mAt E ((rAt (mAt E (G.run - 1).toNat).t.slots (G.a).toNat).th - 1).toNat).t.to - 1).toNat).sc, .slice (mAt E ((mAt E ((rAt (mAt E (G.run - 1).toNat).t.slots (G.a).toNat).th - 1).toNat).t.to - 1).toNat).qa (mAt E ((mAt E ((rAt (mAt E (G.run - 1).toNat).t.slots (G.a).toNat).th - 1).toNat).t.to - 1).toNat).t.queue.length (mAt E ((mAt E ((rAt (mAt E (G.run - 1).toNat).t.slots (G.a).toNat).th - 1).toNat).t.to - 1).toNat).qc, vi (mAt E ((mAt E ((rAt (mAt E (G.run - 1).toNat).t.slots (G.a).toNat).th - 1).toNat).t.to - 1).toNat).t.to]) (cs' := #[vi (mAt E ((mAt E ((rAt (mAt E (G.run - 1).toNat).t.slots (G.a).toNat).th - 1).toNat).t.to - 1).toNat).t.kind, vi (mAt E ((mAt E ((rAt (mAt E (G.run - 1).toNat).t.slots (G.a).toNat).th - 1).toNat).t.to - 1).toNat).t.lab.s, vi (mAt E ((mAt E ((rAt (mAt E (G.run - 1).toNat).t.slots (G.a).toNat).th - 1).toNat).t.to - 1).toNat).t.lab.v, vi (mAt E ((mAt E ((rAt (mAt E (G.run - 1).toNat).t.slots (G.a).toNat).th - 1).toNat).t.to - 1).toNat).t.ve, vi (mAt E ((mAt E ((rAt (mAt E (G.run - 1).toNat).t.slots (G.a).toNat).th - 1).toNat).t.to - 1).toNat).t.num, .slice (mAt E ((mAt E ((rAt (mAt E (G.run - 1).toNat).t.slots (G.a).toNat).th - 1).toNat).t.to - 1).toNat).sa (mAt E ((mAt E ((rAt (mAt E (G.run - 1).toNat).t.slots (G.a).toNat).th - 1).toNat).t.to - 1).toNat).t.slots.length (mAt E ((mAt E ((rAt (mAt E (G.run - 1).toNat).t.slots (G.a).toNat).th - 1).toNat).t.to - 1).toNat).sc, .slice (mAt E ((mAt E ((rAt (mAt E (G.run - 1).toNat).t.slots (G.a).toNat).th - 1).toNat).t.to - 1).toNat).qa (mAt E ((mAt E ((rAt (mAt E (G.run - 1).toNat).t.slots (G.a).toNat).th - 1).toNat).t.to - 1).toNat).t.queue.length (mAt E ((mAt E ((rAt (mAt E (G.run - 1).toNat).t.slots (G.a).toNat).th - 1).toNat).t.to - 1).toNat).qc, vi (mAt E ((mAt E ((rAt (mAt E (G.run - 1).toNat).t.slots (G.a).toNat).th - 1).toNat).t.to - 1).toNat).t.to]) Ys Z Z Z (by simp [Value.oneCell']) ai.blk (Nat.le_of_ble_eq_true Z) Z ?_
 intro pl bi
 refine Xb (Xa (Xc (o' := 4) Js d1 Z Z ?_))
 have eo := ((gl.grown0 ai.grw).gn bi.grw)
 refine Xh (v := vi G.n) X1 Z (eo.cell Z) Z (Q9 (c := G.n % 2) Z Z (by omega) (by omega) (by omega) Z Z (Xc (o' := 4) Qw Z Z Z (Yc (v := vi (G.n % 2)) (cs' := #[vi (mAt E ((mAt E ((rAt (mAt E (G.run - 1).toNat).t.slots (G.a).toNat).th - 1).toNat).t.to - 1).toNat).t.kind, vi (mAt E ((mAt E ((rAt (mAt E (G.run - 1).toNat).t.slots (G.a).toNat).th - 1).toNat).t.to - 1).toNat).t.lab.s, vi (mAt E ((mAt E ((rAt (mAt E (G.run - 1).toNat).t.slots (G.a).toNat).th - 1).toNat).t.to - 1).toNat).t.lab.v, vi (mAt E ((mAt E ((rAt (mAt E (G.run - 1).toNat).t.slots (G.a).toNat).th - 1).toNat).t.to - 1).toNat).t.ve, vi (G.n % 2), .slice (mAt E ((mAt E ((rAt (mAt E (G.run - 1).toNat).t.slots (G.a).toNat).th - 1).toNat).t.to - 1).toNat).sa (mAt E ((mAt E ((rAt (mAt E (G.run - 1).toNat).t.slots (G.a).toNat).th - 1).toNat).t.to - 1).toNat).t.slots.length (mAt E ((mAt E ((rAt (mAt E (G.run - 1).toNat).t.slots (G.a).toNat).th - 1).toNat).t.to - 1).toNat).sc, .slice (mAt E ((mAt E ((rAt (mAt E (G.run - 1).toNat).t.slots (G.a).toNat).th - 1).toNat).t.to - 1).toNat).qa (mAt E ((mAt E ((rAt (mAt E (G.run - 1).toNat).t.slots (G.a).toNat).th - 1).toNat).t.to - 1).toNat).t.queue.length (mAt E ((mAt E ((rAt (mAt E (G.run - 1).toNat).t.slots (G.a).toNat).th - 1).toNat).t.to - 1).toNat).qc, vi (mAt E ((mAt E ((rAt (mAt E (G.run - 1).toNat).t.slots (G.a).toNat).th - 1).toNat).t.to - 1).toNat).t.to]) X1 Z Z Z bi.blk (Nat.le_of_ble_eq_true Z) Z ?_)))
 intro l8 ba
 refine Xb (Xq ?_)
 have du := (TabG.ge (TabG.ge (TabG.low dt ai.grw) bi.grw bw (by omega)) ba.grw bw (by omega))
 obtain ⟨fy, om, ew, g7, i9, jg⟩ := SlAt.at (TabG.at du).1 (Yp (xg E (G.run - 1).toNat))
 have m4 := TabLen.at aj (xg E (G.run - 1).toNat)
 have m5 := TabLen.at bb (Q0 (show (G.run - 1).toNat < J.length by first | omega | (simp only [List.length_set]; omega)))
 refine Yy (m := 11) (vals := [(96, .slice (pa ag) J.length ae), (97, pt ce 1), (98, vi G.run), (99, vi (G.run - 1)), (100, .slice (pa ak) E.length ac), (101, pt ce 1), (102, vi G.run), (103, vi (G.run - 1)), (104, pt fy ew), (105, pt fy (ew + 4)), (106, vi (mAt E (G.run - 1).toNat).t.num)]) (fun w' => l8.grownBy w' none) Yz (by kernel_rfl) (X8 _) ?_ ?_
 refine yl Z (fun _ _ k => Xd (v := .slice (pa ag) J.length ae) Z Z k) (yl Z (fun _ _ k => Xc (o' := 1) Q5 d1 Z Z k) (yl Z (fun _ iv k => Xh (v := vi G.run) X1 Z (((eo.gn ba.grw).grown0 iv).cell Z) Z k) (yl Z (fun _ _ k => Yr (c := G.run - 1) Z Z (by omega) (by omega) (by omega) Z k) (yl Z (fun _ _ k => Xd (v := .slice (pa ak) E.length ac) dc Z k) (yl Z (fun _ _ k => Xc (o' := 1) Q5 d1 Z Z k) (yl Z (fun _ iw k => Xh (v := vi G.run) X1 Z (((eo.gn ba.grw).grown0 iw).cell Z) Z k) (yl Z (fun _ _ k => Yr (c := G.run - 1) Z Z (by omega) (by omega) (by omega) Z k) (yl Z (fun _ _ k => X3 Qc Z Z g7 i9 (by omega) (by omega) Z k) (yl Z (fun _ _ k => Xc (o' := ew + 4) Qw Z Z Z k) (yl Z (fun _ ix k => Xh (v := vi (mAt E (G.run - 1).toNat).t.num) X1 Z ((Yi jg ix) 4 _ Z) Z k) ?_))))))))))
 exact Y8
 intro pm bp
 refine X4 (o' := (G.run - 1).toNat * 8) Qc Z Z (by omega) (by omega) (by omega) Z (Xc (o' := (G.run - 1).toNat * 8 + 4) Qw Z Z Z (Q7 (g := MTh.cells) (j := 4) (z := (mAt J (G.run - 1).toNat)) (z' := (⟨⟨(mAt J (G.run - 1).toNat).t.kind, (mAt J (G.run - 1).toNat).t.lab, (mAt J (G.run - 1).toNat).t.ve, (mAt E (G.run - 1).toNat).t.num, (mAt J (G.run - 1).toNat).t.slots, (mAt J (G.run - 1).toNat).t.queue, (mAt J (G.run - 1).toNat).t.to⟩, (mAt J (G.run - 1).toNat).sa, (mAt J (G.run - 1).toNat).sc, (mAt J (G.run - 1).toNat).qa, (mAt J (G.run - 1).toNat).qc⟩ : MTh)) (v := vi (mAt E (G.run - 1).toNat).t.num) X1 Z Z Z Yj (((((show Dw.Own fa ag 39 8 ae J.length (J.flatMap MTh.cells) from d4).grown0 ai.grw).gn bi.grw).gn ba.grw).grown0 bp) (xg J (G.run - 1).toNat) (by omega) Z Z ?_))
 intro l9 gw ca
 obtain ⟨O, bg⟩ : ∃ l, l = J.set (G.run - 1).toNat (⟨⟨(mAt J (G.run - 1).toNat).t.kind, (mAt J (G.run - 1).toNat).t.lab, (mAt J (G.run - 1).toNat).t.ve, (mAt E (G.run - 1).toNat).t.num, (mAt J (G.run - 1).toNat).t.slots, (mAt J (G.run - 1).toNat).t.queue, (mAt J (G.run - 1).toNat).t.to⟩, (mAt J (G.run - 1).toNat).sa, (mAt J (G.run - 1).toNat).sc, (mAt J (G.run - 1).toNat).qa, (mAt J (G.run - 1).toNat).qc⟩ : MTh) := ⟨_, rfl⟩
 have lz : Dw.Own l9 ag 39 8 ae O.length (O.flatMap MTh.cells) := by rw [bg]; exact gw
 have mr : O.length = J.length := by rw [bg]; simp only [List.length_set]
 refine Xb (Xu (Xa (Xd (v := .slice (pa ag) J.length ae) Z Z (Xc (o' := 0) Yo dp Z Z ?_))))
 have gp := (((((gm.grown0 ai.grw).gn bi.grw).gn ba.grw).grown0 bp).gn ca)
 refine Xh (v := vi (rAt (mAt E (G.run - 1).toNat).t.slots (G.a).toNat).th) X1 Z (gp.cell Z) Z (Yr (c := (rAt (mAt E (G.run - 1).toNat).t.slots (G.a).toNat).th - 1) Z Z (by omega) (by omega) (by omega) Z (Xc (o' := 4) Qw Z Z Z ?_))
 have dh := (((((em.grown0 ai.grw).gn bi.grw).gn ba.grw).grown0 bp).gn ca)
 refine Xh (v := vi (mAt E ((rAt (mAt E (G.run - 1).toNat).t.slots (G.a).toNat).th - 1).toNat).t.num) X1 Z (dh.cell Z) Z (X4 (o' := ((rAt (mAt E (G.run - 1).toNat).t.slots (G.a).toNat).th - 1).toNat * 8) Qc Z Z (by omega) (by omega) (by omega) Z (Xc (o' := ((rAt (mAt E (G.run - 1).toNat).t.slots (G.a).toNat).th - 1).toNat * 8 + 4) Qw Z Z Z ?_))
 have m6 := TabLen.at (TabLen.setnE (m := (⟨⟨(mAt J (G.run - 1).toNat).t.kind, (mAt J (G.run - 1).toNat).t.lab, (mAt J (G.run - 1).toNat).t.ve, (mAt E (G.run - 1).toNat).t.num, (mAt J (G.run - 1).toNat).t.slots, (mAt J (G.run - 1).toNat).t.queue, (mAt J (G.run - 1).toNat).t.to⟩, (mAt J (G.run - 1).toNat).sa, (mAt J (G.run - 1).toNat).sc, (mAt J (G.run - 1).toNat).qa, (mAt J (G.run - 1).toNat).qc⟩ : MTh)) bg bb (by omega) rfl rfl) (Q0 (show ((rAt (mAt E (G.run - 1).toNat).t.slots (G.a).toNat).th - 1).toNat < O.length by first | omega | (simp only [List.length_set]; omega)))
 refine Q7 (g := MTh.cells) (j := 4) (z := (mAt O ((rAt (mAt E (G.run - 1).toNat).t.slots (G.a).toNat).th - 1).toNat)) (z' := (⟨⟨(mAt O ((rAt (mAt E (G.run - 1).toNat).t.slots (G.a).toNat).th - 1).toNat).t.kind, (mAt O ((rAt (mAt E (G.run - 1).toNat).t.slots (G.a).toNat).th - 1).toNat).t.lab, (mAt O ((rAt (mAt E (G.run - 1).toNat).t.slots (G.a).toNat).th - 1).toNat).t.ve, (mAt E ((rAt (mAt E (G.run - 1).toNat).t.slots (G.a).toNat).th - 1).toNat).t.num, (mAt O ((rAt (mAt E (G.run - 1).toNat).t.slots (G.a).toNat).th - 1).toNat).t.slots, (mAt O ((rAt (mAt E (G.run - 1).toNat).t.slots (G.a).toNat).th - 1).toNat).t.queue, (mAt O ((rAt (mAt E (G.run - 1).toNat).t.slots (G.a).toNat).th - 1).toNat).t.to⟩, (mAt O ((rAt (mAt E (G.run - 1).toNat).t.slots (G.a).toNat).th - 1).toNat).sa, (mAt O ((rAt (mAt E (G.run - 1).toNat).t.slots (G.a).toNat).th - 1).toNat).sc, (mAt O ((rAt (mAt E (G.run - 1).toNat).t.slots (G.a).toNat).th - 1).toNat).qa, (mAt O ((rAt (mAt E (G.run - 1).toNat).t.slots (G.a).toNat).th - 1).toNat).qc⟩ : MTh)) (v := vi (mAt E ((rAt (mAt E (G.run - 1).toNat).t.slots (G.a).toNat).th - 1).toNat).t.num) X1 Z Z Z Yj lz (xg O ((rAt (mAt E (G.run - 1).toNat).t.slots (G.a).toNat).th - 1).toNat) (by omega) Z Z ?_
 intro gt gx bd
 obtain ⟨V, bm⟩ : ∃ l, l = O.set ((rAt (mAt E (G.run - 1).toNat).t.slots (G.a).toNat).th - 1).toNat (⟨⟨(mAt O ((rAt (mAt E (G.run - 1).toNat).t.slots (G.a).toNat).th - 1).toNat).t.kind, (mAt O ((rAt (mAt E (G.run - 1).toNat).t.slots (G.a).toNat).th - 1).toNat).t.lab, (mAt O ((rAt (mAt E (G.run - 1).toNat).t.slots (G.a).toNat).th - 1).toNat).t.ve, (mAt E ((rAt (mAt E (G.run - 1).toNat).t.slots (G.a).toNat).th - 1).toNat).t.num, (mAt O ((rAt (mAt E (G.run - 1).toNat).t.slots (G.a).toNat).th - 1).toNat).t.slots, (mAt O ((rAt (mAt E (G.run - 1).toNat).t.slots (G.a).toNat).th - 1).toNat).t.queue, (mAt O ((rAt (mAt E (G.run - 1).toNat).t.slots (G.a).toNat).th - 1).toNat).t.to⟩, (mAt O ((rAt (mAt E (G.run - 1).toNat).t.slots (G.a).toNat).th - 1).toNat).sa, (mAt O ((rAt (mAt E (G.run - 1).toNat).t.slots (G.a).toNat).th - 1).toNat).sc, (mAt O ((rAt (mAt E (G.run - 1).toNat).t.slots (G.a).toNat).th - 1).toNat).qa, (mAt O ((rAt (mAt E (G.run - 1).toNat).t.slots (G.a).toNat).th - 1).toNat).qc⟩ : MTh) := ⟨_, rfl⟩
 have gq : Dw.Own gt ag 39 8 ae V.length (V.flatMap MTh.cells) := by rw [bm]; exact gx
 have mt : V.length = O.length := by rw [bm]; simp only [List.length_set]
 refine Xb (Xq ?_)
 have dv := (TabG.ge (TabG.ge (TabG.low (TabG.ge (TabG.ge (TabG.low (TabG.ge c9 bn bx (by omega)) ai.grw) bi.grw bx (by omega)) ba.grw bx (by omega)) bp) ca bx (by omega)) bd bx (by omega))
 obtain ⟨fz, oo, ez, g8, ja, jh⟩ := SlAt.at (TabG.at dv).1 (Yp (xg J ((rAt (mAt E (G.run - 1).toNat).t.slots (G.a).toNat).th - 1).toNat))
 have m7 := TabLen.at bb (xg J ((rAt (mAt E (G.run - 1).toNat).t.slots (G.a).toNat).th - 1).toNat)
 have m8 := TabLen.at (TabLen.setnE (m := (⟨⟨(mAt O ((rAt (mAt E (G.run - 1).toNat).t.slots (G.a).toNat).th - 1).toNat).t.kind, (mAt O ((rAt (mAt E (G.run - 1).toNat).t.slots (G.a).toNat).th - 1).toNat).t.lab, (mAt O ((rAt (mAt E (G.run - 1).toNat).t.slots (G.a).toNat).th - 1).toNat).t.ve, (mAt E ((rAt (mAt E (G.run - 1).toNat).t.slots (G.a).toNat).th - 1).toNat).t.num, (mAt O ((rAt (mAt E (G.run - 1).toNat).t.slots (G.a).toNat).th - 1).toNat).t.slots, (mAt O ((rAt (mAt E (G.run - 1).toNat).t.slots (G.a).toNat).th - 1).toNat).t.queue, (mAt O ((rAt (mAt E (G.run - 1).toNat).t.slots (G.a).toNat).th - 1).toNat).t.to⟩, (mAt O ((rAt (mAt E (G.run - 1).toNat).t.slots (G.a).toNat).th - 1).toNat).sa, (mAt O ((rAt (mAt E (G.run - 1).toNat).t.slots (G.a).toNat).th - 1).toNat).sc, (mAt O ((rAt (mAt E (G.run - 1).toNat).t.slots (G.a).toNat).th - 1).toNat).qa, (mAt O ((rAt (mAt E (G.run - 1).toNat).t.slots (G.a).toNat).th - 1).toNat).qc⟩ : MTh)) bm (TabLen.setnE (m := (⟨⟨(mAt J (G.run - 1).toNat).t.kind, (mAt J (G.run - 1).toNat).t.lab, (mAt J (G.run - 1).toNat).t.ve, (mAt E (G.run - 1).toNat).t.num, (mAt J (G.run - 1).toNat).t.slots, (mAt J (G.run - 1).toNat).t.queue, (mAt J (G.run - 1).toNat).t.to⟩, (mAt J (G.run - 1).toNat).sa, (mAt J (G.run - 1).toNat).sc, (mAt J (G.run - 1).toNat).qa, (mAt J (G.run - 1).toNat).qc⟩ : MTh)) bg bb (by omega) rfl rfl) (by omega) rfl rfl) (Q0 (show ((mAt E ((rAt (mAt E (G.run - 1).toNat).t.slots (G.a).toNat).th - 1).toNat).t.to - 1).toNat < V.length by first | omega | (simp only [List.length_set]; omega)))
 refine Yy (m := 24) (vals := [(117, vi (callDo (tabT E) G).2), (118, vb (decide ((callDo (tabT E) G).2 = 0))), (119, vb (decide ((callDo (tabT E) G).2 = 0))), (120, .slice bl J.length ao), (121, pt ab 0), (122, vi (rAt (mAt E (G.run - 1).toNat).t.slots (G.a).toNat).th), (123, vi ((rAt (mAt E (G.run - 1).toNat).t.slots (G.a).toNat).th - 1)), (124, pt fz ez), (125, pt fz (ez + 4)), (126, vi (mAt J ((rAt (mAt E (G.run - 1).toNat).t.slots (G.a).toNat).th - 1).toNat).t.num), (127, pt ct 4), (128, vi (mAt E ((rAt (mAt E (G.run - 1).toNat).t.slots (G.a).toNat).th - 1).toNat).t.num), (129, vi ((mAt E ((rAt (mAt E (G.run - 1).toNat).t.slots (G.a).toNat).th - 1).toNat).t.num + 1)), (130, vi (min ((mAt E ((rAt (mAt E (G.run - 1).toNat).t.slots (G.a).toNat).th - 1).toNat).t.num + 1) 99)), (131, vb (decide ((mAt J ((rAt (mAt E (G.run - 1).toNat).t.slots (G.a).toNat).th - 1).toNat).t.num = min ((mAt E ((rAt (mAt E (G.run - 1).toNat).t.slots (G.a).toNat).th - 1).toNat).t.num + 1) 99))), (132, vb (decide ((mAt J ((rAt (mAt E (G.run - 1).toNat).t.slots (G.a).toNat).th - 1).toNat).t.num = min ((mAt E ((rAt (mAt E (G.run - 1).toNat).t.slots (G.a).toNat).th - 1).toNat).t.num + 1) 99))), (133, vb (decide ((mAt J ((rAt (mAt E (G.run - 1).toNat).t.slots (G.a).toNat).th - 1).toNat).t.num = min ((mAt E ((rAt (mAt E (G.run - 1).toNat).t.slots (G.a).toNat).th - 1).toNat).t.num + 1) 99))), (134, .slice (pa ag) J.length ae), (135, pt ct 7), (136, vi (mAt E ((rAt (mAt E (G.run - 1).toNat).t.slots (G.a).toNat).th - 1).toNat).t.to), (137, vi ((mAt E ((rAt (mAt E (G.run - 1).toNat).t.slots (G.a).toNat).th - 1).toNat).t.to - 1)), (138, pt ag (((mAt E ((rAt (mAt E (G.run - 1).toNat).t.slots (G.a).toNat).th - 1).toNat).t.to - 1).toNat * 8)), (139, .agg #[vi (mAt V ((mAt E ((rAt (mAt E (G.run - 1).toNat).t.slots (G.a).toNat).th - 1).toNat).t.to - 1).toNat).t.kind, vi (mAt V ((mAt E ((rAt (mAt E (G.run - 1).toNat).t.slots (G.a).toNat).th - 1).toNat).t.to - 1).toNat).t.lab.s, vi (mAt V ((mAt E ((rAt (mAt E (G.run - 1).toNat).t.slots (G.a).toNat).th - 1).toNat).t.to - 1).toNat).t.lab.v, vi (mAt V ((mAt E ((rAt (mAt E (G.run - 1).toNat).t.slots (G.a).toNat).th - 1).toNat).t.to - 1).toNat).t.ve, vi (mAt V ((mAt E ((rAt (mAt E (G.run - 1).toNat).t.slots (G.a).toNat).th - 1).toNat).t.to - 1).toNat).t.num, .slice (mAt V ((mAt E ((rAt (mAt E (G.run - 1).toNat).t.slots (G.a).toNat).th - 1).toNat).t.to - 1).toNat).sa (mAt V ((mAt E ((rAt (mAt E (G.run - 1).toNat).t.slots (G.a).toNat).th - 1).toNat).t.to - 1).toNat).t.slots.length (mAt V ((mAt E ((rAt (mAt E (G.run - 1).toNat).t.slots (G.a).toNat).th - 1).toNat).t.to - 1).toNat).sc, .slice (mAt V ((mAt E ((rAt (mAt E (G.run - 1).toNat).t.slots (G.a).toNat).th - 1).toNat).t.to - 1).toNat).qa (mAt V ((mAt E ((rAt (mAt E (G.run - 1).toNat).t.slots (G.a).toNat).th - 1).toNat).t.to - 1).toNat).t.queue.length (mAt V ((mAt E ((rAt (mAt E (G.run - 1).toNat).t.slots (G.a).toNat).th - 1).toNat).t.to - 1).toNat).qc, vi (mAt V ((mAt E ((rAt (mAt E (G.run - 1).toNat).t.slots (G.a).toNat).th - 1).toNat).t.to - 1).toNat).t.to]), (140, .agg #[vi (mAt E ((mAt E ((rAt (mAt E (G.run - 1).toNat).t.slots (G.a).toNat).th - 1).toNat).t.to - 1).toNat).t.kind, vi (mAt E ((mAt E ((rAt (mAt E (G.run - 1).toNat).t.slots (G.a).toNat).th - 1).toNat).t.to - 1).toNat).t.lab.s, vi (mAt E ((mAt E ((rAt (mAt E (G.run - 1).toNat).t.slots (G.a).toNat).th - 1).toNat).t.to - 1).toNat).t.lab.v, vi (mAt E ((mAt E ((rAt (mAt E (G.run - 1).toNat).t.slots (G.a).toNat).th - 1).toNat).t.to - 1).toNat).t.ve, vi (G.n % 2), .slice (mAt E ((mAt E ((rAt (mAt E (G.run - 1).toNat).t.slots (G.a).toNat).th - 1).toNat).t.to - 1).toNat).sa (mAt E ((mAt E ((rAt (mAt E (G.run - 1).toNat).t.slots (G.a).toNat).th - 1).toNat).t.to - 1).toNat).t.slots.length (mAt E ((mAt E ((rAt (mAt E (G.run - 1).toNat).t.slots (G.a).toNat).th - 1).toNat).t.to - 1).toNat).sc, .slice (mAt E ((mAt E ((rAt (mAt E (G.run - 1).toNat).t.slots (G.a).toNat).th - 1).toNat).t.to - 1).toNat).qa (mAt E ((mAt E ((rAt (mAt E (G.run - 1).toNat).t.slots (G.a).toNat).th - 1).toNat).t.to - 1).toNat).t.queue.length (mAt E ((mAt E ((rAt (mAt E (G.run - 1).toNat).t.slots (G.a).toNat).th - 1).toNat).t.to - 1).toNat).qc, vi (mAt E ((mAt E ((rAt (mAt E (G.run - 1).toNat).t.slots (G.a).toNat).th - 1).toNat).t.to - 1).toNat).t.to])]) (fun w' => gt.grownBy w' none) Yz (by kernel_rfl) (X8 _) ?_ ?_
 refine yl Z (fun _ _ k => Xd (v := vi (callDo (tabT E) G).2) lk Z k) (yl Z (fun _ _ k => X6 (q := decide ((callDo (tabT E) G).2 = 0)) Z Z Z Z k) (yl Z (fun _ _ k => Xd (v := vb (decide ((callDo (tabT E) G).2 = 0))) Z Z k) (yl Z (fun _ _ k => Xg Z Z Z af (Xd (v := .slice bl J.length ao) gb Z k)) (yl Z (fun _ _ k => Xg Z Z Z af (Xc (o' := 0) Yo dp Z Z k)) (yl Z (fun _ iy k => Xg Z Z Z af (Xh (v := vi (rAt (mAt E (G.run - 1).toNat).t.slots (G.a).toNat).th) X1 Z (((gp.gn bd).grown0 iy).cell Z) Z k)) (yl Z (fun _ _ k => Xg Z Z Z af (Yr (c := (rAt (mAt E (G.run - 1).toNat).t.slots (G.a).toNat).th - 1) Z Z (by omega) (by omega) (by omega) Z k)) (yl Z (fun _ _ k => Xg Z Z Z af (X3 Qc Z Z g8 ja (by omega) (by omega) Z k)) (yl Z (fun _ _ k => Xg Z Z Z af (Xc (o' := ez + 4) Qw Z Z Z k)) (yl Z (fun _ iz k => Xg Z Z Z af (Xh (v := vi (mAt J ((rAt (mAt E (G.run - 1).toNat).t.slots (G.a).toNat).th - 1).toNat).t.num) X1 Z ((Yi jh iz) 4 _ Z) Z k)) (yl Z (fun _ _ k => Xg Z Z Z af (Xc (o' := 4) Qw Z Z Z k)) ?_))))))))))
 refine yl Z (fun _ i0 k => Xg Z Z Z af (Xh (v := vi (mAt E ((rAt (mAt E (G.run - 1).toNat).t.slots (G.a).toNat).th - 1).toNat).t.num) X1 Z (((dh.gn bd).grown0 i0).cell Z) Z k)) (yl Z (fun _ _ k => Xg Z Z Z af (Yl (c := (mAt E ((rAt (mAt E (G.run - 1).toNat).t.slots (G.a).toNat).th - 1).toNat).t.num + 1) Z Z (by omega) (by omega) (by omega) Z k)) (yl Z (fun _ _ k => Xg Z Z Z af (Pr (c := min ((mAt E ((rAt (mAt E (G.run - 1).toNat).t.slots (G.a).toNat).th - 1).toNat).t.num + 1) 99) Z Z Z Z k)) (yl Z (fun _ _ k => Xg Z Z Z af (X6 (q := decide ((mAt J ((rAt (mAt E (G.run - 1).toNat).t.slots (G.a).toNat).th - 1).toNat).t.num = min ((mAt E ((rAt (mAt E (G.run - 1).toNat).t.slots (G.a).toNat).th - 1).toNat).t.num + 1) 99)) Z Z Z Z k)) (yl Z (fun _ _ k => Xw (v := vb (decide ((mAt J ((rAt (mAt E (G.run - 1).toNat).t.slots (G.a).toNat).th - 1).toNat).t.num = min ((mAt E ((rAt (mAt E (G.run - 1).toNat).t.slots (G.a).toNat).th - 1).toNat).t.num + 1) 99))) Z af Z Z k) (yl Z (fun _ _ k => Xd (v := vb (decide ((mAt J ((rAt (mAt E (G.run - 1).toNat).t.slots (G.a).toNat).th - 1).toNat).t.num = min ((mAt E ((rAt (mAt E (G.run - 1).toNat).t.slots (G.a).toNat).th - 1).toNat).t.num + 1) 99))) Z Z k) (yl Z (fun _ _ k => Xg Z Z Z an (Xd (v := .slice (pa ag) J.length ae) Z Z k)) (yl Z (fun _ _ k => Xg Z Z Z an (Xc (o' := 7) J5 Z Z Z k)) (yl Z (fun _ i1 k => Xg Z Z Z an (Xh (v := vi (mAt E ((rAt (mAt E (G.run - 1).toNat).t.slots (G.a).toNat).th - 1).toNat).t.to) X1 Z (((dh.gn bd).grown0 i1).cell Z) Z k)) (yl Z (fun _ _ k => Xg Z Z Z an (Yr (c := (mAt E ((rAt (mAt E (G.run - 1).toNat).t.slots (G.a).toNat).th - 1).toNat).t.to - 1) Z Z (by omega) (by omega) (by omega) Z k)) (yl Z (fun _ _ k => Xg Z Z Z an (X4 (o' := ((mAt E ((rAt (mAt E (G.run - 1).toNat).t.slots (G.a).toNat).th - 1).toNat).t.to - 1).toNat * 8) Qc Z Z (by omega) (by omega) (by omega) Z k)) ?_))))))))))
 refine Qh Z (fun pn ei => ?_) ?_
 refine Xg Z Z Z an ?_
 have l0 := (gq.grown0 ei)
 exact Xr (vs := [vi (mAt V ((mAt E ((rAt (mAt E (G.run - 1).toNat).t.slots (G.a).toNat).th - 1).toNat).t.to - 1).toNat).t.kind, vi (mAt V ((mAt E ((rAt (mAt E (G.run - 1).toNat).t.slots (G.a).toNat).th - 1).toNat).t.to - 1).toNat).t.lab.s, vi (mAt V ((mAt E ((rAt (mAt E (G.run - 1).toNat).t.slots (G.a).toNat).th - 1).toNat).t.to - 1).toNat).t.lab.v, vi (mAt V ((mAt E ((rAt (mAt E (G.run - 1).toNat).t.slots (G.a).toNat).th - 1).toNat).t.to - 1).toNat).t.ve, vi (mAt V ((mAt E ((rAt (mAt E (G.run - 1).toNat).t.slots (G.a).toNat).th - 1).toNat).t.to - 1).toNat).t.num, .slice (mAt V ((mAt E ((rAt (mAt E (G.run - 1).toNat).t.slots (G.a).toNat).th - 1).toNat).t.to - 1).toNat).sa (mAt V ((mAt E ((rAt (mAt E (G.run - 1).toNat).t.slots (G.a).toNat).th - 1).toNat).t.to - 1).toNat).t.slots.length (mAt V ((mAt E ((rAt (mAt E (G.run - 1).toNat).t.slots (G.a).toNat).th - 1).toNat).t.to - 1).toNat).sc, .slice (mAt V ((mAt E ((rAt (mAt E (G.run - 1).toNat).t.slots (G.a).toNat).th - 1).toNat).t.to - 1).toNat).qa (mAt V ((mAt E ((rAt (mAt E (G.run - 1).toNat).t.slots (G.a).toNat).th - 1).toNat).t.to - 1).toNat).t.queue.length (mAt V ((mAt E ((rAt (mAt E (G.run - 1).toNat).t.slots (G.a).toNat).th - 1).toNat).t.to - 1).toNat).qc, vi (mAt V ((mAt E ((rAt (mAt E (G.run - 1).toNat).t.slots (G.a).toNat).th - 1).toNat).t.to - 1).toNat).t.to]) Ys Z Z (Y2 (Own.range Yj l0 (Q0 (show ((mAt E ((rAt (mAt E (G.run - 1).toNat).t.slots (G.a).toNat).th - 1).toNat).t.to - 1).toNat < V.length by omega))) 0 8 Z) Z (Xb ⟨Z, ei⟩)
 refine Qh Z (fun po ej => ?_) ?_
 refine Xg Z Z Z an ?_
 have l3 := ((((ba.blk.grown0 bp).gn ca).gn bd).grown0 ej)
 exact Xr (vs := [vi (mAt E ((mAt E ((rAt (mAt E (G.run - 1).toNat).t.slots (G.a).toNat).th - 1).toNat).t.to - 1).toNat).t.kind, vi (mAt E ((mAt E ((rAt (mAt E (G.run - 1).toNat).t.slots (G.a).toNat).th - 1).toNat).t.to - 1).toNat).t.lab.s, vi (mAt E ((mAt E ((rAt (mAt E (G.run - 1).toNat).t.slots (G.a).toNat).th - 1).toNat).t.to - 1).toNat).t.lab.v, vi (mAt E ((mAt E ((rAt (mAt E (G.run - 1).toNat).t.slots (G.a).toNat).th - 1).toNat).t.to - 1).toNat).t.ve, vi (G.n % 2), .slice (mAt E ((mAt E ((rAt (mAt E (G.run - 1).toNat).t.slots (G.a).toNat).th - 1).toNat).t.to - 1).toNat).sa (mAt E ((mAt E ((rAt (mAt E (G.run - 1).toNat).t.slots (G.a).toNat).th - 1).toNat).t.to - 1).toNat).t.slots.length (mAt E ((mAt E ((rAt (mAt E (G.run - 1).toNat).t.slots (G.a).toNat).th - 1).toNat).t.to - 1).toNat).sc, .slice (mAt E ((mAt E ((rAt (mAt E (G.run - 1).toNat).t.slots (G.a).toNat).th - 1).toNat).t.to - 1).toNat).qa (mAt E ((mAt E ((rAt (mAt E (G.run - 1).toNat).t.slots (G.a).toNat).th - 1).toNat).t.to - 1).toNat).t.queue.length (mAt E ((mAt E ((rAt (mAt E (G.run - 1).toNat).t.slots (G.a).toNat).th - 1).toNat).t.to - 1).toNat).qc, vi (mAt E ((mAt E ((rAt (mAt E (G.run - 1).toNat).t.slots (G.a).toNat).th - 1).toNat).t.to - 1).toNat).t.to]) Ys Z Z (l3.rangeL 0 8 Z) Z (Xb ⟨Z, ej⟩)
 exact Y8
 intro pp cd
 refine Xg Z Z Z an ?_
 have dw := (TabG.low dv cd)
 have dx := (TabG.low (TabG.ge (TabG.ge (TabG.low du bp) ca bw (by omega)) bd bw (by omega)) cd)
 refine Xn Rg (Xf Z (Xf Z Xm)) Z (Um (mAt V ((mAt E ((rAt (mAt E (G.run - 1).toNat).t.slots (G.a).toNat).th - 1).toNat).t.to - 1).toNat) (⟨⟨(mAt E ((mAt E ((rAt (mAt E (G.run - 1).toNat).t.slots (G.a).toNat).th - 1).toNat).t.to - 1).toNat).t.kind, (mAt E ((mAt E ((rAt (mAt E (G.run - 1).toNat).t.slots (G.a).toNat).th - 1).toNat).t.to - 1).toNat).t.lab, (mAt E ((mAt E ((rAt (mAt E (G.run - 1).toNat).t.slots (G.a).toNat).th - 1).toNat).t.to - 1).toNat).t.ve, G.n % 2, (mAt E ((mAt E ((rAt (mAt E (G.run - 1).toNat).t.slots (G.a).toNat).th - 1).toNat).t.to - 1).toNat).t.slots, (mAt E ((mAt E ((rAt (mAt E (G.run - 1).toNat).t.slots (G.a).toNat).th - 1).toNat).t.to - 1).toNat).t.queue, (mAt E ((mAt E ((rAt (mAt E (G.run - 1).toNat).t.slots (G.a).toNat).th - 1).toNat).t.to - 1).toNat).t.to⟩, (mAt E ((mAt E ((rAt (mAt E (G.run - 1).toNat).t.slots (G.a).toNat).th - 1).toNat).t.to - 1).toNat).sa, (mAt E ((mAt E ((rAt (mAt E (G.run - 1).toNat).t.slots (G.a).toNat).th - 1).toNat).t.to - 1).toNat).sc, (mAt E ((mAt E ((rAt (mAt E (G.run - 1).toNat).t.slots (G.a).toNat).th - 1).toNat).t.to - 1).toNat).qa, (mAt E ((mAt E ((rAt (mAt E (G.run - 1).toNat).t.slots (G.a).toNat).th - 1).toNat).t.to - 1).toNat).qc⟩ : MTh) _ ((RowsA.setE (m := (⟨⟨(mAt O ((rAt (mAt E (G.run - 1).toNat).t.slots (G.a).toNat).th - 1).toNat).t.kind, (mAt O ((rAt (mAt E (G.run - 1).toNat).t.slots (G.a).toNat).th - 1).toNat).t.lab, (mAt O ((rAt (mAt E (G.run - 1).toNat).t.slots (G.a).toNat).th - 1).toNat).t.ve, (mAt E ((rAt (mAt E (G.run - 1).toNat).t.slots (G.a).toNat).th - 1).toNat).t.num, (mAt O ((rAt (mAt E (G.run - 1).toNat).t.slots (G.a).toNat).th - 1).toNat).t.slots, (mAt O ((rAt (mAt E (G.run - 1).toNat).t.slots (G.a).toNat).th - 1).toNat).t.queue, (mAt O ((rAt (mAt E (G.run - 1).toNat).t.slots (G.a).toNat).th - 1).toNat).t.to⟩, (mAt O ((rAt (mAt E (G.run - 1).toNat).t.slots (G.a).toNat).th - 1).toNat).sa, (mAt O ((rAt (mAt E (G.run - 1).toNat).t.slots (G.a).toNat).th - 1).toNat).sc, (mAt O ((rAt (mAt E (G.run - 1).toNat).t.slots (G.a).toNat).th - 1).toNat).qa, (mAt O ((rAt (mAt E (G.run - 1).toNat).t.slots (G.a).toNat).th - 1).toNat).qc⟩ : MTh)) bm (RowsA.setE (m := (⟨⟨(mAt J (G.run - 1).toNat).t.kind, (mAt J (G.run - 1).toNat).t.lab, (mAt J (G.run - 1).toNat).t.ve, (mAt E (G.run - 1).toNat).t.num, (mAt J (G.run - 1).toNat).t.slots, (mAt J (G.run - 1).toNat).t.queue, (mAt J (G.run - 1).toNat).t.to⟩, (mAt J (G.run - 1).toNat).sa, (mAt J (G.run - 1).toNat).sc, (mAt J (G.run - 1).toNat).qa, (mAt J (G.run - 1).toNat).qc⟩ : MTh)) bg (RowsA.of (TabG.at dw)) (by omega) ⟨Z, Z, Z, Z, Z, Z⟩) (by omega) ⟨Z, Z, Z, Z, Z, Z⟩) _ (List.mem_of_getElem? (Q0 (show ((mAt E ((rAt (mAt E (G.run - 1).toNat).t.slots (G.a).toNat).th - 1).toNat).t.to - 1).toNat < V.length by first | omega | (simp only [List.length_set]; omega))))) (by have hh := (TabAt.th (TabG.at dx) (Q0 (show ((mAt E ((rAt (mAt E (G.run - 1).toNat).t.slots (G.a).toNat).th - 1).toNat).t.to - 1).toNat < E.length by omega))); exact hh) ⟨by first | omega | exact Nat.le_of_ble_eq_true Z | (simp only [List.length_nil, List.length_cons, List.length_append, List.length_replicate]; omega), by first | omega | exact Nat.le_of_ble_eq_true Z | (simp only [List.length_nil, List.length_cons, List.length_append, List.length_replicate]; omega)⟩ ⟨by first | omega | exact Nat.le_of_ble_eq_true Z | (simp only [List.length_nil, List.length_cons, List.length_append, List.length_replicate]; omega), by first | omega | exact Nat.le_of_ble_eq_true Z | (simp only [List.length_nil, List.length_cons, List.length_append, List.length_replicate]; omega)⟩) ?_
 rintro _ ma ⟨rfl, cc⟩
 refine Xw (v := vb (decide ((mAt V ((mAt E ((rAt (mAt E (G.run - 1).toNat).t.slots (G.a).toNat).th - 1).toNat).t.to - 1).toNat).t = (⟨(mAt E ((mAt E ((rAt (mAt E (G.run - 1).toNat).t.slots (G.a).toNat).th - 1).toNat).t.to - 1).toNat).t.kind, (mAt E ((mAt E ((rAt (mAt E (G.run - 1).toNat).t.slots (G.a).toNat).th - 1).toNat).t.to - 1).toNat).t.lab, (mAt E ((mAt E ((rAt (mAt E (G.run - 1).toNat).t.slots (G.a).toNat).th - 1).toNat).t.to - 1).toNat).t.ve, G.n % 2, (mAt E ((mAt E ((rAt (mAt E (G.run - 1).toNat).t.slots (G.a).toNat).th - 1).toNat).t.to - 1).toNat).t.slots, (mAt E ((mAt E ((rAt (mAt E (G.run - 1).toNat).t.slots (G.a).toNat).th - 1).toNat).t.to - 1).toNat).t.queue, (mAt E ((mAt E ((rAt (mAt E (G.run - 1).toNat).t.slots (G.a).toNat).th - 1).toNat).t.to - 1).toNat).t.to⟩ : Th)))) Z an Z Z (Xe (v := vb (decide ((mAt V ((mAt E ((rAt (mAt E (G.run - 1).toNat).t.slots (G.a).toNat).th - 1).toNat).t.to - 1).toNat).t = (⟨(mAt E ((mAt E ((rAt (mAt E (G.run - 1).toNat).t.slots (G.a).toNat).th - 1).toNat).t.to - 1).toNat).t.kind, (mAt E ((mAt E ((rAt (mAt E (G.run - 1).toNat).t.slots (G.a).toNat).th - 1).toNat).t.to - 1).toNat).t.lab, (mAt E ((mAt E ((rAt (mAt E (G.run - 1).toNat).t.slots (G.a).toNat).th - 1).toNat).t.to - 1).toNat).t.ve, G.n % 2, (mAt E ((mAt E ((rAt (mAt E (G.run - 1).toNat).t.slots (G.a).toNat).th - 1).toNat).t.to - 1).toNat).t.slots, (mAt E ((mAt E ((rAt (mAt E (G.run - 1).toNat).t.slots (G.a).toNat).th - 1).toNat).t.to - 1).toNat).t.queue, (mAt E ((mAt E ((rAt (mAt E (G.run - 1).toNat).t.slots (G.a).toNat).th - 1).toNat).t.to - 1).toNat).t.to⟩ : Th)))) Z Z (Xb (Xu (Xq ?_))))
 have dy := (TabG.low dx cc)
 obtain ⟨jl, oq, l6, g9, jb, ji⟩ := SlAt.at (TabG.at dy).1 (Yp (Q0 (show ((mAt E ((rAt (mAt E (G.run - 1).toNat).t.slots (G.a).toNat).th - 1).toNat).t.to - 1).toNat < E.length by omega)))
 have m9 := TabLen.at aj (Q0 (show ((mAt E ((rAt (mAt E (G.run - 1).toNat).t.slots (G.a).toNat).th - 1).toNat).t.to - 1).toNat < E.length by omega))
 refine Yy (m := 10) (vals := [(143, .slice (pa ag) J.length ae), (144, pt ct 7), (145, vi (mAt E ((rAt (mAt E (G.run - 1).toNat).t.slots (G.a).toNat).th - 1).toNat).t.to), (146, vi ((mAt E ((rAt (mAt E (G.run - 1).toNat).t.slots (G.a).toNat).th - 1).toNat).t.to - 1)), (147, .slice (pa ak) E.length ac), (148, pt ct 7), (149, vi (mAt E ((rAt (mAt E (G.run - 1).toNat).t.slots (G.a).toNat).th - 1).toNat).t.to), (150, vi ((mAt E ((rAt (mAt E (G.run - 1).toNat).t.slots (G.a).toNat).th - 1).toNat).t.to - 1)), (151, pt jl l6), (152, .agg #[vi (mAt E ((mAt E ((rAt (mAt E (G.run - 1).toNat).t.slots (G.a).toNat).th - 1).toNat).t.to - 1).toNat).t.kind, vi (mAt E ((mAt E ((rAt (mAt E (G.run - 1).toNat).t.slots (G.a).toNat).th - 1).toNat).t.to - 1).toNat).t.lab.s, vi (mAt E ((mAt E ((rAt (mAt E (G.run - 1).toNat).t.slots (G.a).toNat).th - 1).toNat).t.to - 1).toNat).t.lab.v, vi (mAt E ((mAt E ((rAt (mAt E (G.run - 1).toNat).t.slots (G.a).toNat).th - 1).toNat).t.to - 1).toNat).t.ve, vi (mAt E ((mAt E ((rAt (mAt E (G.run - 1).toNat).t.slots (G.a).toNat).th - 1).toNat).t.to - 1).toNat).t.num, .slice (mAt E ((mAt E ((rAt (mAt E (G.run - 1).toNat).t.slots (G.a).toNat).th - 1).toNat).t.to - 1).toNat).sa (mAt E ((mAt E ((rAt (mAt E (G.run - 1).toNat).t.slots (G.a).toNat).th - 1).toNat).t.to - 1).toNat).t.slots.length (mAt E ((mAt E ((rAt (mAt E (G.run - 1).toNat).t.slots (G.a).toNat).th - 1).toNat).t.to - 1).toNat).sc, .slice (mAt E ((mAt E ((rAt (mAt E (G.run - 1).toNat).t.slots (G.a).toNat).th - 1).toNat).t.to - 1).toNat).qa (mAt E ((mAt E ((rAt (mAt E (G.run - 1).toNat).t.slots (G.a).toNat).th - 1).toNat).t.to - 1).toNat).t.queue.length (mAt E ((mAt E ((rAt (mAt E (G.run - 1).toNat).t.slots (G.a).toNat).th - 1).toNat).t.to - 1).toNat).qc, vi (mAt E ((mAt E ((rAt (mAt E (G.run - 1).toNat).t.slots (G.a).toNat).th - 1).toNat).t.to - 1).toNat).t.to])]) (fun w' => ma.grownBy w' none) Yz (by kernel_rfl) (X8 _) ?_ ?_
 refine yl Z (fun _ _ k => Xd (v := .slice (pa ag) J.length ae) Z Z k) (yl Z (fun _ _ k => Xc (o' := 7) J5 Z Z Z k) (yl Z (fun _ i2 k => Xh (v := vi (mAt E ((rAt (mAt E (G.run - 1).toNat).t.slots (G.a).toNat).th - 1).toNat).t.to) X1 Z (((((dh.gn bd).grown0 cd).grown0 cc).grown0 i2).cell Z) Z k) (yl Z (fun _ _ k => Yr (c := (mAt E ((rAt (mAt E (G.run - 1).toNat).t.slots (G.a).toNat).th - 1).toNat).t.to - 1) Z Z (by omega) (by omega) (by omega) Z k) (yl Z (fun _ _ k => Xd (v := .slice (pa ak) E.length ac) dc Z k) (yl Z (fun _ _ k => Xc (o' := 7) J5 Z Z Z k) (yl Z (fun _ i3 k => Xh (v := vi (mAt E ((rAt (mAt E (G.run - 1).toNat).t.slots (G.a).toNat).th - 1).toNat).t.to) X1 Z (((((dh.gn bd).grown0 cd).grown0 cc).grown0 i3).cell Z) Z k) (yl Z (fun _ _ k => Yr (c := (mAt E ((rAt (mAt E (G.run - 1).toNat).t.slots (G.a).toNat).th - 1).toNat).t.to - 1) Z Z (by omega) (by omega) (by omega) Z k) (yl Z (fun _ _ k => X3 Qc Z Z g9 jb (by omega) (by omega) Z k) ?_))))))))
 exact yl Z (fun _ i4 k => Xr (vs := [vi (mAt E ((mAt E ((rAt (mAt E (G.run - 1).toNat).t.slots (G.a).toNat).th - 1).toNat).t.to - 1).toNat).t.kind, vi (mAt E ((mAt E ((rAt (mAt E (G.run - 1).toNat).t.slots (G.a).toNat).th - 1).toNat).t.to - 1).toNat).t.lab.s, vi (mAt E ((mAt E ((rAt (mAt E (G.run - 1).toNat).t.slots (G.a).toNat).th - 1).toNat).t.to - 1).toNat).t.lab.v, vi (mAt E ((mAt E ((rAt (mAt E (G.run - 1).toNat).t.slots (G.a).toNat).th - 1).toNat).t.to - 1).toNat).t.ve, vi (mAt E ((mAt E ((rAt (mAt E (G.run - 1).toNat).t.slots (G.a).toNat).th - 1).toNat).t.to - 1).toNat).t.num, .slice (mAt E ((mAt E ((rAt (mAt E (G.run - 1).toNat).t.slots (G.a).toNat).th - 1).toNat).t.to - 1).toNat).sa (mAt E ((mAt E ((rAt (mAt E (G.run - 1).toNat).t.slots (G.a).toNat).th - 1).toNat).t.to - 1).toNat).t.slots.length (mAt E ((mAt E ((rAt (mAt E (G.run - 1).toNat).t.slots (G.a).toNat).th - 1).toNat).t.to - 1).toNat).sc, .slice (mAt E ((mAt E ((rAt (mAt E (G.run - 1).toNat).t.slots (G.a).toNat).th - 1).toNat).t.to - 1).toNat).qa (mAt E ((mAt E ((rAt (mAt E (G.run - 1).toNat).t.slots (G.a).toNat).th - 1).toNat).t.to - 1).toNat).t.queue.length (mAt E ((mAt E ((rAt (mAt E (G.run - 1).toNat).t.slots (G.a).toNat).th - 1).toNat).t.to - 1).toNat).qc, vi (mAt E ((mAt E ((rAt (mAt E (G.run - 1).toNat).t.slots (G.a).toNat).th - 1).toNat).t.to - 1).toNat).t.to]) Ys Z Z (Y2 (Yi ji i4) 0 8 Z) Z k) Y8
 intro pq da
 refine X4 (o' := ((mAt E ((rAt (mAt E (G.run - 1).toNat).t.slots (G.a).toNat).th - 1).toNat).t.to - 1).toNat * 8) Qc Z Z (by omega) (by omega) (by omega) Z (Qy (g := MTh.cells) (z' := (mAt E ((mAt E ((rAt (mAt E (G.run - 1).toNat).t.slots (G.a).toNat).th - 1).toNat).t.to - 1).toNat)) Ys Z Z (Ke _) Yj (((gq.grown0 cd).grown0 cc).grown0 da) (by omega) Z ?_)
 intro gu gy dl
 obtain ⟨bt, cj⟩ : ∃ l, l = V.set ((mAt E ((rAt (mAt E (G.run - 1).toNat).t.slots (G.a).toNat).th - 1).toNat).t.to - 1).toNat (mAt E ((mAt E ((rAt (mAt E (G.run - 1).toNat).t.slots (G.a).toNat).th - 1).toNat).t.to - 1).toNat) := ⟨_, rfl⟩
 have l4 : Dw.Own gu ag 39 8 ae bt.length (bt.flatMap MTh.cells) := by rw [cj]; exact gy
 have mu : bt.length = V.length := by rw [cj]; simp only [List.length_set]
 refine Xb (Xu (Ya (fun f' w' => (f' 2 = vb ((decide ((mAt V ((mAt E ((rAt (mAt E (G.run - 1).toNat).t.slots (G.a).toNat).th - 1).toNat).t.to - 1).toNat).t = (⟨(mAt E ((mAt E ((rAt (mAt E (G.run - 1).toNat).t.slots (G.a).toNat).th - 1).toNat).t.to - 1).toNat).t.kind, (mAt E ((mAt E ((rAt (mAt E (G.run - 1).toNat).t.slots (G.a).toNat).th - 1).toNat).t.to - 1).toNat).t.lab, (mAt E ((mAt E ((rAt (mAt E (G.run - 1).toNat).t.slots (G.a).toNat).th - 1).toNat).t.to - 1).toNat).t.ve, G.n % 2, (mAt E ((mAt E ((rAt (mAt E (G.run - 1).toNat).t.slots (G.a).toNat).th - 1).toNat).t.to - 1).toNat).t.slots, (mAt E ((mAt E ((rAt (mAt E (G.run - 1).toNat).t.slots (G.a).toNat).th - 1).toNat).t.to - 1).toNat).t.queue, (mAt E ((mAt E ((rAt (mAt E (G.run - 1).toNat).t.slots (G.a).toNat).th - 1).toNat).t.to - 1).toNat).t.to⟩ : Th))) && (decide (tabT bt = tabT E)))) ∧ gu.grownBy w' none) ?_ ?_))
 refine Xd (v := vb (decide ((mAt V ((mAt E ((rAt (mAt E (G.run - 1).toNat).t.slots (G.a).toNat).th - 1).toNat).t.to - 1).toNat).t = (⟨(mAt E ((mAt E ((rAt (mAt E (G.run - 1).toNat).t.slots (G.a).toNat).th - 1).toNat).t.to - 1).toNat).t.kind, (mAt E ((mAt E ((rAt (mAt E (G.run - 1).toNat).t.slots (G.a).toNat).th - 1).toNat).t.to - 1).toNat).t.lab, (mAt E ((mAt E ((rAt (mAt E (G.run - 1).toNat).t.slots (G.a).toNat).th - 1).toNat).t.to - 1).toNat).t.ve, G.n % 2, (mAt E ((mAt E ((rAt (mAt E (G.run - 1).toNat).t.slots (G.a).toNat).th - 1).toNat).t.to - 1).toNat).t.slots, (mAt E ((mAt E ((rAt (mAt E (G.run - 1).toNat).t.slots (G.a).toNat).th - 1).toNat).t.to - 1).toNat).t.queue, (mAt E ((mAt E ((rAt (mAt E (G.run - 1).toNat).t.slots (G.a).toNat).th - 1).toNat).t.to - 1).toNat).t.to⟩ : Th)))) Z Z (Xd (v := vb (decide ((mAt V ((mAt E ((rAt (mAt E (G.run - 1).toNat).t.slots (G.a).toNat).th - 1).toNat).t.to - 1).toNat).t = (⟨(mAt E ((mAt E ((rAt (mAt E (G.run - 1).toNat).t.slots (G.a).toNat).th - 1).toNat).t.to - 1).toNat).t.kind, (mAt E ((mAt E ((rAt (mAt E (G.run - 1).toNat).t.slots (G.a).toNat).th - 1).toNat).t.to - 1).toNat).t.lab, (mAt E ((mAt E ((rAt (mAt E (G.run - 1).toNat).t.slots (G.a).toNat).th - 1).toNat).t.to - 1).toNat).t.ve, G.n % 2, (mAt E ((mAt E ((rAt (mAt E (G.run - 1).toNat).t.slots (G.a).toNat).th - 1).toNat).t.to - 1).toNat).t.slots, (mAt E ((mAt E ((rAt (mAt E (G.run - 1).toNat).t.slots (G.a).toNat).th - 1).toNat).t.to - 1).toNat).t.queue, (mAt E ((mAt E ((rAt (mAt E (G.run - 1).toNat).t.slots (G.a).toNat).th - 1).toNat).t.to - 1).toNat).t.to⟩ : Th)))) Z Z ?_)
 rcases Yg (decide ((mAt V ((mAt E ((rAt (mAt E (G.run - 1).toNat).t.slots (G.a).toNat).th - 1).toNat).t.to - 1).toNat).t = (⟨(mAt E ((mAt E ((rAt (mAt E (G.run - 1).toNat).t.slots (G.a).toNat).th - 1).toNat).t.to - 1).toNat).t.kind, (mAt E ((mAt E ((rAt (mAt E (G.run - 1).toNat).t.slots (G.a).toNat).th - 1).toNat).t.to - 1).toNat).t.lab, (mAt E ((mAt E ((rAt (mAt E (G.run - 1).toNat).t.slots (G.a).toNat).th - 1).toNat).t.to - 1).toNat).t.ve, G.n % 2, (mAt E ((mAt E ((rAt (mAt E (G.run - 1).toNat).t.slots (G.a).toNat).th - 1).toNat).t.to - 1).toNat).t.slots, (mAt E ((mAt E ((rAt (mAt E (G.run - 1).toNat).t.slots (G.a).toNat).th - 1).toNat).t.to - 1).toNat).t.queue, (mAt E ((mAt E ((rAt (mAt E (G.run - 1).toNat).t.slots (G.a).toNat).th - 1).toNat).t.to - 1).toNat).t.to⟩ : Th))) with a9 | a9
 have oa := of_decide_eq_true a9
 refine Xg Z Z Z a9 (Xd (v := .slice (pa ag) J.length ae) Z Z (Xg Z Z Z a9 (Xd (v := .slice (pa ak) E.length ac) dc Z (Xg Z Z Z a9 ?_))))
 have fr := (TabG.ge (TabG.low (TabG.low dw cc) da) dl bx (by omega))
 have dz := (TabG.ge (TabG.low dy da) dl bw (by omega))
 refine Xn W5 (Xf Z (Xf Z Xm)) Z (Tw (show bt.length = J.length by first | omega | simp only [List.length_set]) (Vb _ bt E _ _ _ _ (Mj l4 (RowsA.setnE (m := (mAt E ((mAt E ((rAt (mAt E (G.run - 1).toNat).t.slots (G.a).toNat).th - 1).toNat).t.to - 1).toNat)) cj (RowsA.setE (m := (⟨⟨(mAt O ((rAt (mAt E (G.run - 1).toNat).t.slots (G.a).toNat).th - 1).toNat).t.kind, (mAt O ((rAt (mAt E (G.run - 1).toNat).t.slots (G.a).toNat).th - 1).toNat).t.lab, (mAt O ((rAt (mAt E (G.run - 1).toNat).t.slots (G.a).toNat).th - 1).toNat).t.ve, (mAt E ((rAt (mAt E (G.run - 1).toNat).t.slots (G.a).toNat).th - 1).toNat).t.num, (mAt O ((rAt (mAt E (G.run - 1).toNat).t.slots (G.a).toNat).th - 1).toNat).t.slots, (mAt O ((rAt (mAt E (G.run - 1).toNat).t.slots (G.a).toNat).th - 1).toNat).t.queue, (mAt O ((rAt (mAt E (G.run - 1).toNat).t.slots (G.a).toNat).th - 1).toNat).t.to⟩, (mAt O ((rAt (mAt E (G.run - 1).toNat).t.slots (G.a).toNat).th - 1).toNat).sa, (mAt O ((rAt (mAt E (G.run - 1).toNat).t.slots (G.a).toNat).th - 1).toNat).sc, (mAt O ((rAt (mAt E (G.run - 1).toNat).t.slots (G.a).toNat).th - 1).toNat).qa, (mAt O ((rAt (mAt E (G.run - 1).toNat).t.slots (G.a).toNat).th - 1).toNat).qc⟩ : MTh)) bm (RowsA.setE (m := (⟨⟨(mAt J (G.run - 1).toNat).t.kind, (mAt J (G.run - 1).toNat).t.lab, (mAt J (G.run - 1).toNat).t.ve, (mAt E (G.run - 1).toNat).t.num, (mAt J (G.run - 1).toNat).t.slots, (mAt J (G.run - 1).toNat).t.queue, (mAt J (G.run - 1).toNat).t.to⟩, (mAt J (G.run - 1).toNat).sa, (mAt J (G.run - 1).toNat).sc, (mAt J (G.run - 1).toNat).qa, (mAt J (G.run - 1).toNat).qc⟩ : MTh)) bg (RowsA.of (TabG.at fr)) (by omega) ⟨Z, Z, Z, Z, Z, Z⟩) (by omega) ⟨Z, Z, Z, Z, Z, Z⟩) ((TabG.at dz).2 _ (List.mem_of_getElem? (Q0 (show ((mAt E ((rAt (mAt E (G.run - 1).toNat).t.slots (G.a).toNat).th - 1).toNat).t.to - 1).toNat < E.length by omega)))))) (TabG.at dz) (TabLen.putE (m := (mAt E ((mAt E ((rAt (mAt E (G.run - 1).toNat).t.slots (G.a).toNat).th - 1).toNat).t.to - 1).toNat)) cj (TabLen.setnE (m := (⟨⟨(mAt O ((rAt (mAt E (G.run - 1).toNat).t.slots (G.a).toNat).th - 1).toNat).t.kind, (mAt O ((rAt (mAt E (G.run - 1).toNat).t.slots (G.a).toNat).th - 1).toNat).t.lab, (mAt O ((rAt (mAt E (G.run - 1).toNat).t.slots (G.a).toNat).th - 1).toNat).t.ve, (mAt E ((rAt (mAt E (G.run - 1).toNat).t.slots (G.a).toNat).th - 1).toNat).t.num, (mAt O ((rAt (mAt E (G.run - 1).toNat).t.slots (G.a).toNat).th - 1).toNat).t.slots, (mAt O ((rAt (mAt E (G.run - 1).toNat).t.slots (G.a).toNat).th - 1).toNat).t.queue, (mAt O ((rAt (mAt E (G.run - 1).toNat).t.slots (G.a).toNat).th - 1).toNat).t.to⟩, (mAt O ((rAt (mAt E (G.run - 1).toNat).t.slots (G.a).toNat).th - 1).toNat).sa, (mAt O ((rAt (mAt E (G.run - 1).toNat).t.slots (G.a).toNat).th - 1).toNat).sc, (mAt O ((rAt (mAt E (G.run - 1).toNat).t.slots (G.a).toNat).th - 1).toNat).qa, (mAt O ((rAt (mAt E (G.run - 1).toNat).t.slots (G.a).toNat).th - 1).toNat).qc⟩ : MTh)) bm (TabLen.setnE (m := (⟨⟨(mAt J (G.run - 1).toNat).t.kind, (mAt J (G.run - 1).toNat).t.lab, (mAt J (G.run - 1).toNat).t.ve, (mAt E (G.run - 1).toNat).t.num, (mAt J (G.run - 1).toNat).t.slots, (mAt J (G.run - 1).toNat).t.queue, (mAt J (G.run - 1).toNat).t.to⟩, (mAt J (G.run - 1).toNat).sa, (mAt J (G.run - 1).toNat).sc, (mAt J (G.run - 1).toNat).qa, (mAt J (G.run - 1).toNat).qc⟩ : MTh)) bg bb (by omega) Z Z) (by omega) Z Z) (TabLen.at aj (Q0 (show ((mAt E ((rAt (mAt E (G.run - 1).toNat).t.slots (G.a).toNat).th - 1).toNat).t.to - 1).toNat < E.length by omega)))) aj (by first | omega | (simp only [List.length_set]; omega)) (by omega))) ?_
 rintro _ pr ⟨rfl, ik⟩
 exact Xw (v := vb (decide (tabT bt = tabT E))) Z a9 Z Z (Xe (v := vb (decide (tabT bt = tabT E))) Z Z (Xb ⟨(congrArg Value.bool (by first | (simp only [be, bf, aq, bv, de, df, dg, a9, av, bc, af, an, ap, b0, b1, b2, b3, b4, b5, b6, b7, b8, b9]; done) | simp [be, bf, aq, bv, de, df, dg, a9, av, bc, af, an, ap])), ik⟩))
 have ob := of_decide_eq_false a9
 iterate 3 refine Xj rfl rfl rfl a9 rfl ?_
 exact Xp (v := vb false) Z a9 Z Z (Xe (v := vb false) Z Z (Xb ⟨(congrArg Value.bool (by first | (simp only [be, bf, aq, bv, de, df, dg, a9, av, bc, af, an, ap, b0, b1, b2, b3, b4, b5, b6, b7, b8, b9]; done) | simp [be, bf, aq, bv, de, df, dg, a9, av, bc, af, an, ap])), (World.grownBy.refl _ _)⟩))
 rintro nu pu ⟨ll, il⟩
 refine Xt (⟨vb ((decide ((mAt V ((mAt E ((rAt (mAt E (G.run - 1).toNat).t.slots (G.a).toNat).th - 1).toNat).t.to - 1).toNat).t = (⟨(mAt E ((mAt E ((rAt (mAt E (G.run - 1).toNat).t.slots (G.a).toNat).th - 1).toNat).t.to - 1).toNat).t.kind, (mAt E ((mAt E ((rAt (mAt E (G.run - 1).toNat).t.slots (G.a).toNat).th - 1).toNat).t.to - 1).toNat).t.lab, (mAt E ((mAt E ((rAt (mAt E (G.run - 1).toNat).t.slots (G.a).toNat).th - 1).toNat).t.to - 1).toNat).t.ve, G.n % 2, (mAt E ((mAt E ((rAt (mAt E (G.run - 1).toNat).t.slots (G.a).toNat).th - 1).toNat).t.to - 1).toNat).t.slots, (mAt E ((mAt E ((rAt (mAt E (G.run - 1).toNat).t.slots (G.a).toNat).th - 1).toNat).t.to - 1).toNat).t.queue, (mAt E ((mAt E ((rAt (mAt E (G.run - 1).toNat).t.slots (G.a).toNat).th - 1).toNat).t.to - 1).toNat).t.to⟩ : Th))) && (decide (tabT bt = tabT E))), Yt Z ll, ?_, (low0 (low1 (low0 (low0 (low0 (low1 (low1 (low0 (low1 (low1 (low0 ea ai.grw) bi.grw (by omega)) ba.grw (by omega)) bp) ca (by omega)) bd (by omega)) cd) cc) da) dl (by omega)) il)⟩)
 subst cj
 subst bm
 subst bg
 exact congrArg Value.bool (Bool.and_eq_true_iff.2 ⟨decide_eq_true (eb _ _ (mAt E ((mAt E ((rAt (mAt E (G.run - 1).toNat).t.slots (G.a).toNat).th - 1).toNat).t.to - 1).toNat) Z Z Z).1, decide_eq_true (eb _ _ _ Z Z Z).2⟩)
end Go.Proofs.YtlhhijnmacogcaaGreatDoor
end
