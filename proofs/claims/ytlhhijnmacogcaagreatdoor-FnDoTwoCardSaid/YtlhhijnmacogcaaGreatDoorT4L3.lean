/- Laws and walks: my templates, and what a program of mine (gen.py) printed out of the functions; only what the row reaches. -/
import Derived.Test.YtlhhijnmacogcaaGreatDoorT45
section
namespace Go.Dw
set_option linter.unusedVariables false
set_option linter.unusedSimpArgs false
section
variable {ts : List Th} {q : Cl}
theorem Z3 (hp : callPoss ts q = true) (h0 : check1 ts q = 0) (h3 : ¬ q.kind = 3) : (1 ≤ (slotAt ts q.run q.a).th ∧ (slotAt ts q.run q.a).th ≤ (ts.length : Int)) ∧ kindFor q.kind (thAt ts (slotAt ts q.run q.a).th).kind = true ∧ (need0 q.kind = true → sees ts q.run (slotAt ts q.run q.a).th = true) := by
  have e := Jn hp
  have h := Tx (ts := ts) (q := q) (by omega) h3
  exact ⟨h.1, h.2.1, (Mz (ts := ts) (q := q) (by omega) (by omega) h3).1⟩
theorem Vl (hp : callPoss ts q = true) (h0 : check1 ts q = 0) (h3 : ¬ q.kind = 3) : FarOk ts q (slotAt ts q.run q.a) := by
  have h := Z3 hp h0 h3
  obtain ⟨hT, hc, hr⟩ := Yw hp
  exact ⟨hT, hc, hr, h.1, h.2.1, h3⟩
theorem Kg (k n : Int) : (setNum ts k n).length = ts.length := Qu
theorem Iq (hp : callPoss ts q = true) : callPoss (doCall ts q).1 q = true := by
  obtain ⟨hT, hc, hr⟩ := Yw hp
  have h := V1 hp
  have hr := Qr hr
  unfold callPoss
  rw [h.1, hc, Ul (by rw [h.2.1]; exact hr.1) ((h.2.2 _ hr.1.1).trans hr.2)]
  rfl
def Kept (n : Int) (a b : Th) : Prop := (a.kind = 1 → b.num = a.num ∨ b.num = 0 ∨ b.num = n ∨ b.num = n % 2) ∧ ∀ v ∈ b.queue, v = n ∨ v ∈ a.queue
theorem Kept.refl (n : Int) (a : Th) : Kept n a a := ⟨fun _ => Or.inl rfl, fun _ h => Or.inr h⟩
section
variable {ms xs : List MTh}
theorem Sf (hp : callPoss (tabT ms) q = true) : (callDo (tabT ms) q).2 = doAns (tabT ms) q := by rw [Kb hp, P8]
theorem Sj (ht : tabT xs = (callDo (tabT ms) q).1) (hp : callPoss (tabT ms) q = true) : (mAt xs (q.run - 1).toNat).t.slots.length = 4 := by
  have h := Iq hp
  have h2 := (Yw h)
  rw [← Kb hp, ← ht] at h2
  exact Qt h2.1 h2.2.2
end
end
end Go.Dw
end
section
namespace Go.Dw
set_option linter.unusedVariables false
set_option linter.unusedSimpArgs false
def RowsA (w : World) (l : List MTh) : Prop := ∀ m ∈ l, ThAt w m
theorem RowsA.set {w : World} {l : List MTh} {i : Nat} {m : MTh} (h : RowsA w l) (hi : i < l.length) (e : m.sa = (mAt l i).sa ∧ m.sc = (mAt l i).sc ∧ m.qa = (mAt l i).qa ∧ m.qc = (mAt l i).qc ∧ m.t.slots = (mAt l i).t.slots ∧ m.t.queue = (mAt l i).t.queue) : RowsA w (l.set i m) := fun x hx => by
  rcases List.mem_or_eq_of_mem_set hx with h1 | rfl
  · exact h x h1
  · have := h _ (List.mem_of_getElem? (Q0 hi))
    unfold ThAt at this ⊢
    rw [e.1, e.2.1, e.2.2.1, e.2.2.2.1, e.2.2.2.2.1, e.2.2.2.2.2]
    exact this
section
variable {ms xs : List MTh} {q : Cl}
end
end Go.Dw
end
section
namespace Go.Dw
set_option linter.unusedVariables false
set_option linter.unusedSimpArgs false
section
variable {ts us : List Th} {q p : Cl}
theorem Tv {k run a b n : Int} (h : (1 ≤ k ∧ k ≤ 9) ∧ (1 ≤ run ∧ run ≤ 8) ∧ (0 ≤ a ∧ a ≤ 3) ∧ (0 ≤ b ∧ b ≤ 3) ∧ 0 ≤ n ∧ n ≤ 99) : callOk ⟨k, run, a, b, n⟩ = true := by
  unfold callOk
  simp only [Bool.and_eq_true]
  exact ⟨⟨⟨⟨Qi.2 h.1, Qi.2 h.2.1⟩, Qi.2 h.2.2.1⟩, Qi.2 h.2.2.2.1⟩, Qi.2 h.2.2.2.2⟩
theorem Mx {r : Rt} (e1 : slotAt ts q.run q.a = r) (e2 : slotAt us p.run p.a = r) (hr : p.run = q.run) (hk : p.kind = q.kind) (hn : us.length = ts.length)
    (h : (thAt us r.th).kind = (thAt ts r.th).kind ∧ (thAt us r.th).lab = (thAt ts r.th).lab ∧ (thAt us r.th).ve = (thAt ts r.th).ve) (hl : (thAt us q.run).lab = (thAt ts q.run).lab) : check1 us p = check1 ts q := by
  unfold check1 chk1 chk2 chk3 sees touches live
  rw [e1, e2, hr, hk, hn, h.1, h.2.1, h.2.2, hl]
theorem Zg (hp : callPoss ts q = true) (h3 : ¬ q.kind = 3) : (check1 ts q < 0 ∧ doAns ts q = check1 ts q ∧ doPre ts q = ts) ∨ (check1 ts q = 0 ∧ live ts (slotAt ts q.run q.a) = false ∧ doAns ts q = 0 ∧ doPre ts q = ts) ∨
    (check1 ts q = 0 ∧ live ts (slotAt ts q.run q.a) = true ∧ doAns ts q = (if sees ts q.run (slotAt ts q.run q.a).th = true then (far ts q (slotAt ts q.run q.a)).2 else 0) ∧ doPre ts q = (far ts q (slotAt ts q.run q.a)).1) := by
  have hr := Kh ts q
  by_cases h0 : check1 ts q < 0
  · exact Or.inl ⟨h0, U0 h0⟩
  have h0 : check1 ts q = 0 := by omega
  cases hl : live ts (slotAt ts q.run q.a) with
  | false => exact Or.inr (Or.inl ⟨h0, rfl, Gi h0 h3 hl⟩)
  | true => exact Or.inr (Or.inr ⟨h0, rfl, Ua rfl h0 h3 hl (Vl hp h0 h3)⟩)
end
end Go.Dw
end
section
namespace Go.Dw
set_option linter.unusedVariables false
set_option linter.unusedSimpArgs false
section
variable {ts : List Th} {q p : Cl}
theorem My {r : Rt} (hr : slotAt ts q.run q.a = r) (h0 : ¬ r.th = 0) (hk : kindFor q.kind (thAt ts r.th).kind = true) (hrd : r.rd = true) (hwr : r.wr = true) (hs : sees ts q.run r.th = true) (ht : touches ts q.run r.th = true) (hl : live ts r = true) : check1 ts q = 0 := by
  unfold check1 chk1 chk2 chk3
  rw [hr, hk, hrd, hwr, hs, ht, hl, decide_eq_false h0]
  simp
structure Free (us : List Th) (run a : Int) (r : Rt) (kd : Int) : Prop where
  slot : slotAt us run a = r
  nz : ¬ r.th = 0
  kind : (thAt us r.th).kind = kd
  rd : r.rd = true
  wr : r.wr = true
  sees : sees us run r.th = true
  touches : touches us run r.th = true
  live : live us r = true
theorem Free.check {us : List Th} {run a kd : Int} {r : Rt} (h : Free us run a r kd) (hr : p.run = run) (ha : p.a = a) (hk : kindFor p.kind kd = true) : check1 us p = 0 :=
  My (r := r) (by rw [hr, ha]; exact h.slot) h.nz (by rw [h.kind]; exact hk) h.rd h.wr (by rw [hr]; exact h.sees) (by rw [hr]; exact h.touches) h.live
theorem Free.far {us : List Th} {a kd : Int} {r : Rt} (hp : callPoss us p = true) (h : Free us p.run a r kd) (ha : p.a = a) (hk : kindFor p.kind kd = true) (h3 : ¬ p.kind = 3) : FarOk us p r ∧ doAns us p = (Go.Dw.far us p r).2 ∧ (doCall us p).1 = setNum (Go.Dw.far us p r).1 p.run (Go.Dw.far us p r).2 := by
  have h0 := h.check rfl ha hk
  have hs : slotAt us p.run p.a = r := by rw [ha]; exact h.slot
  have hF := Vl hp h0 h3
  rw [hs] at hF
  have hx := Ua hs h0 h3 h.live hF
  rw [if_pos h.sees] at hx
  exact ⟨hF, hx.1, by rw [Vp, hx.1, hx.2]⟩
end
section
variable {ms xs ys zs us : List MTh} {q p s t : Cl}
theorem Uz (ht : tabT xs = (callDo (tabT ms) q).1) (hp : callPoss (tabT ms) q = true) : tabT xs = (doCall (tabT ms) q).1 := by rw [ht, Kb hp]
end
end Go.Dw
end
section
namespace Go.Dw
set_option linter.unusedVariables false
set_option linter.unusedSimpArgs false
section
variable {ts us : List Th} {c q : Cl} {run a b n : Int}
def Fd (run a b n : Int) (us : List Th) : List Th := setTh us run { thAt us run with slots := (thAt us run).slots.set b.toNat (lessBits (slotAt us run a) n), num := 0 }
theorem M1 (hp : callPoss us ⟨3, run, a, b, n⟩ = true) : doAns us ⟨3, run, a, b, n⟩ = 0 ∧ (doCall us ⟨3, run, a, b, n⟩).1 = Fd run a b n us := by
  have h := Gh (ts := us) (q := ⟨3, run, a, b, n⟩) rfl rfl
  have hrun := (Qr (Yw hp).2.2).1
  refine ⟨h.1, ?_⟩
  rw [Vp, h.1, h.2]
  unfold Fd setNum putSl
  rw [Np]
  dsimp only at hrun ⊢
  rw [Jf hrun _ hrun.1, if_pos rfl]
theorem S4 : (Fd run a b n us).length = us.length := Qu
theorem Mp (hr : 1 ≤ run ∧ run ≤ (us.length : Int)) {j : Int} (hj : 1 ≤ j) (hne : ¬ j = run) : thAt (Fd run a b n us) j = thAt us j := by
  unfold Fd
  rw [Jf hr j hj, if_neg hne]
theorem Xat (hr : 1 ≤ run ∧ run ≤ (us.length : Int)) {j : Int} (hj : 1 ≤ j) : (thAt (Fd run a b n us) j).kind = (thAt us j).kind ∧ (thAt (Fd run a b n us) j).lab = (thAt us j).lab ∧ (thAt (Fd run a b n us) j).ve = (thAt us j).ve := by
  unfold Fd
  rw [Jf hr j hj]
  split
  · rename_i e; rw [e]; exact ⟨rfl, rfl, rfl⟩
  · exact ⟨rfl, rfl, rfl⟩
theorem Py (hr : 1 ≤ run ∧ run ≤ (us.length : Int)) {k : Int} (hk : 1 ≤ k ∧ k ≤ (us.length : Int)) (hne : ¬ k = run) {t : Th} : Fd run a b n (setTh us k t) = setTh (Fd run a b n us) k t := by
  unfold Fd slotAt
  rw [Jf hk run hr.1, if_neg (Ne.symm hne)]
  unfold setTh
  exact List.set_comm _ _ (by omega)
theorem Mq (hr : 1 ≤ run ∧ run ≤ (us.length : Int)) {k m : Int} (hk : 1 ≤ k ∧ k ≤ (us.length : Int)) (hne : ¬ k = run) : Fd run a b n (setNum us k m) = setNum (Fd run a b n us) k m := by
  unfold setNum
  rw [Py hr hk hne, Mp hr hk.1 hne]
theorem Xau (hr : 1 ≤ run ∧ run ≤ (us.length : Int)) {k j : Int} {x : Rt} (hk : 1 ≤ k ∧ k ≤ (us.length : Int)) (hne : ¬ k = run) : Fd run a b n (putSl us k j x) = putSl (Fd run a b n us) k j x := by
  unfold putSl
  rw [Py hr hk hne, Mp hr hk.1 hne]
theorem F_q (hr : 1 ≤ run ∧ run ≤ (us.length : Int)) {k : Int} {l : List Int} (hk : 1 ≤ k ∧ k ≤ (us.length : Int)) (hne : ¬ k = run) : Fd run a b n (setQ us k l) = setQ (Fd run a b n us) k l := by
  unfold setQ
  rw [Py hr hk hne, Mp hr hk.1 hne]
theorem R7 (hr : 1 ≤ run ∧ run ≤ (us.length : Int)) {k j : Int} (hk : 1 ≤ k) (hne : ¬ k = run) : slotAt (Fd run a b n us) k j = slotAt us k j := by
  unfold slotAt
  rw [Mp hr hk hne]
theorem Xcg {r : Rt} (h : FarOk ts c r) (hk : kindAt ts run 3 = true) (hne : ¬ c.run = run) : far (Fd run a b n ts) c r = (Fd run a b n (far ts c r).1, (far ts c r).2) := by
  have hr := Qr hk
  have hcr := (Qr h.run).1
  have hc := Yx h.call
  have hkf := Q2 h.kind hc.1
  have hn3 := h.copy
  have hth : ¬ r.th = run := fun e => by
    have := hr.2
    rw [← e] at this
    omega
  have e1 : thAt (Fd run a b n ts) r.th = thAt ts r.th := Mp hr.1 h.th.1 hth
  unfold far
  rw [e1]
  split
  · rfl
  split
  · show (setNum _ _ _, (0 : Int)) = (Fd run a b n (setNum _ _ _), (0 : Int))
    rw [Mq hr.1 h.th hth]
  split
  · show (putSl _ _ _ _, (0 : Int)) = (Fd run a b n (putSl _ _ _ _), (0 : Int))
    rw [Xau hr.1 hcr hne, R7 hr.1 h.th.1 hth]
  split
  · show (putSl _ _ _ _, (0 : Int)) = (Fd run a b n (putSl _ _ _ _), (0 : Int))
    rw [Xau hr.1 h.th hth, R7 hr.1 hcr.1 hne]
  split
  · split
    · show (setQ _ _ _, (0 : Int)) = (Fd run a b n (setQ _ _ _), (0 : Int))
      rw [F_q hr.1 h.th hth]
    · rfl
  split
  · split
    · rfl
    · show (setQ _ _ _, _) = (Fd run a b n (setQ _ _ _), _)
      rw [F_q hr.1 h.th hth]
  split
  · split
    · show (setTh _ _ _, (0 : Int)) = (Fd run a b n (setTh _ _ _), (0 : Int))
      rw [Py hr.1 h.th hth]
    · rfl
  · rename_i x1 x2 x4 x5 x6 x7 x8
    have h5 := hkf.2.2.2.2.2.2.2 (by omega)
    have hg := Qr (W0 h.tab h.th h5)
    have hto : ¬ (thAt ts r.th).to = run := fun e => by
      have := hg.2
      rw [e, hr.2] at this
      exact absurd this (by decide)
    have l1 : ((setNum ts (thAt ts r.th).to (c.n % 2)).length : Int) = ts.length := by rw [Kg]
    show (setTh (setNum _ _ _) _ _, (0 : Int)) = (Fd run a b n (setTh (setNum _ _ _) _ _), (0 : Int))
    rw [Py (by omega) (by have := h.th; omega) hth, Mq hr.1 hg.1 hto]
theorem Xdn (hp : callPoss ts c = true) (hk : kindAt ts run 3 = true) (hne : ¬ c.run = run) : doAns (Fd run a b n ts) c = doAns ts c ∧ (doCall (Fd run a b n ts) c).1 = Fd run a b n (doCall ts c).1 := by
  obtain ⟨hT, hc, hrk⟩ := Yw hp
  have hr := Qr hk
  have hcr := Qr hrk
  have hs : ∀ j, slotAt (Fd run a b n ts) c.run j = slotAt ts c.run j := fun j => R7 hr.1 hcr.1.1 hne
  have hco := Yx hc
  have hsl := Kx hT hcr.1 c.a
  have hlk : ∀ j : Int, 1 ≤ j → _ := fun j hj => Xat (a := a) (b := b) (n := n) hr.1 (j := j) hj
  have key : ∀ r : Rt, slotAt ts c.run c.a = r → (check1 (Fd run a b n ts) c = check1 ts c) ∧ live (Fd run a b n ts) r = live ts r ∧ (1 ≤ r.th → sees (Fd run a b n ts) c.run r.th = sees ts c.run r.th) := fun r e => by
    have hl : live (Fd run a b n ts) r = live ts r := by
      unfold live
      rw [S4]
      by_cases h1 : 1 ≤ r.th
      · rw [(hlk r.th h1).2.2]
      · have : inR r.th 1 (ts.length : Int) = false := by simp [inR]; omega
        rw [this]; rfl
    refine ⟨?_, hl, fun h1 => by unfold sees; rw [(hlk _ h1).2.1, (hlk _ hcr.1.1).2.1]⟩
    by_cases h1 : 1 ≤ r.th
    · exact Mx e ((hs c.a).trans e) rfl rfl S4 (hlk _ h1) (hlk _ hcr.1.1).2.1
    · have hz : r.th = 0 := by
        have := hsl.1
        rw [e] at this
        unfold rightOk at this
        simp only [Bool.or_eq_true, Bool.and_eq_true, decide_eq_true_eq] at this
        rcases this with h | h
        · rw [h]; rfl
        · have := (Qi.1 h.1.1).1
          omega
      unfold check1 chk1
      rw [hs, e, decide_eq_true hz]
      simp
  obtain ⟨k1, k2, k3⟩ := key _ rfl
  have fin : doAns (Fd run a b n ts) c = doAns ts c → doPre (Fd run a b n ts) c = Fd run a b n (doPre ts c) → doAns (Fd run a b n ts) c = doAns ts c ∧ (doCall (Fd run a b n ts) c).1 = Fd run a b n (doCall ts c).1 := fun h1 h2 => by
    refine ⟨h1, ?_⟩
    have l1 := L4 hp
    rw [Vp, Vp (ts := ts), h1, h2, Mq (by omega) (by omega) hne]
  by_cases h3 : c.kind = 3
  · have h1 := Gh (ts := ts) (q := c) rfl h3
    have h2 := Gh (ts := Fd run a b n ts) (q := c) rfl h3
    refine fin (h2.1.trans h1.1.symm) ?_
    rw [h2.2, h1.2, Xau hr.1 hcr.1 hne, hs]
  rcases Zg hp h3 with ⟨h0, hA, hP⟩ | ⟨h0, hl, hA, hP⟩ | ⟨h0, hl, hA, hP⟩
  · have h2 := U0 (ts := Fd run a b n ts) (q := c) (by rw [k1]; exact h0)
    exact fin (by rw [h2.1, hA, k1]) (by rw [h2.2, hP])
  · have h2 := Gi (ts := Fd run a b n ts) (q := c) (by rw [k1]; exact h0) h3 (by rw [hs, k2]; exact hl)
    exact fin (by rw [h2.1, hA]) (by rw [h2.2, hP])
  · have hF := Vl hp h0 h3
    have hf := Xcg (a := a) (b := b) (n := n) hF hk hne
    have hT2 : FarOk (Fd run a b n ts) c (slotAt ts c.run c.a) := by
      refine ⟨?_, hc, ?_, by rw [S4]; exact hF.th, by rw [(hlk _ hF.th.1).1]; exact hF.kind, h3⟩
      · unfold Fd
        have hrow := Vh hT hr.1
        have hx := Kx hT hr.1 a
        have t1 := Gx (j := b) hT hr.1 (Or.inr hr.2) (N5 (a := decide (n % 2 = 1)) (b := decide (n / 2 % 2 = 1)) (c := decide (n / 4 % 2 = 1)) hx.1) (N6 (a := decide (n % 2 = 1)) (b := decide (n / 2 % 2 = 1)) (c := decide (n / 4 % 2 = 1)) hx.2)
        have l1 : ((putSl ts run b (l2Less (slotAt ts run a) (decide (n % 2 = 1)) (decide (n / 2 % 2 = 1)) (decide (n / 4 % 2 = 1)))).length : Int) = ts.length := by unfold putSl; rw [Qu]
        have e : thAt (putSl ts run b (l2Less (slotAt ts run a) (decide (n % 2 = 1)) (decide (n / 2 % 2 = 1)) (decide (n / 4 % 2 = 1)))) run = { thAt ts run with slots := (thAt ts run).slots.set b.toNat (l2Less (slotAt ts run a) (decide (n % 2 = 1)) (decide (n / 2 % 2 = 1)) (decide (n / 4 % 2 = 1))) } := by
          unfold putSl; rw [Jf hr.1 _ hr.1.1, if_pos rfl]
        have t2 := Gs (k := run) (n := 0) t1 (by omega) (by rw [e]; unfold numOk; dsimp only; rw [if_neg (by rw [hr.2]; omega), if_pos hr.2]; decide)
        unfold setNum at t2
        rw [e] at t2
        unfold putSl at t2
        rw [Np] at t2
        exact t2
      · exact Ul (by rw [S4]; exact hcr.1) (by rw [(hlk _ hcr.1.1).1]; exact hcr.2)
    have h2 := Ua (ts := Fd run a b n ts) (q := c) (hs c.a) (by rw [k1]; exact h0) h3 (by rw [k2]; exact hl) hT2
    rw [hf, k3 hF.th.1] at h2
    exact fin (by rw [h2.1, hA]) (by rw [h2.2, hP])
end
section
variable {ms xs ys zs es : List MTh} {q : Cl} {run a b n : Int}
theorem O0 (ht : tabT xs = (callDo (tabT ms) q).1) (hp : callPoss (tabT ms) q = true) (hc : callOk ⟨3, run, a, b, n⟩ = true) (hr : 1 ≤ run ∧ run ≤ (ms.length : Int)) (hk : (mAt ms (run - 1).toNat).t.kind = 3) (hne : ¬ run = q.run)
    (hty : tabT ys = (callDo (tabT xs) ⟨3, run, a, b, n⟩).1) (htz : tabT zs = (callDo (tabT ms) ⟨3, run, a, b, n⟩).1) (hte : tabT es = (callDo (tabT zs) q).1) : tabT ys = tabT es ∧ (callDo (tabT zs) q).2 = (callDo (tabT ms) q).2 := by
  obtain ⟨hT, hco, hrk⟩ := Yw hp
  have hka : kindAt (tabT ms) run 3 = true := Ul (by rw [Y5]; exact hr) (by rw [← Qk]; exact hk)
  have p1 : callPoss (tabT ms) ⟨3, run, a, b, n⟩ = true := by
    unfold callPoss
    rw [hT, hc, hka]
    rfl
  have hX := Uz ht hp
  have hok := V1 hp
  have p2 : callPoss (tabT xs) ⟨3, run, a, b, n⟩ = true := by
    unfold callPoss
    rw [hX, hok.1, hc, Ul (by rw [hok.2.1, Y5]; exact hr) ((hok.2.2 run hr.1).trans (Qr hka).2)]
    rfl
  have hZ : tabT zs = Fd run a b n (tabT ms) := (Uz htz p1).trans (M1 p1).2
  have hY : tabT ys = Fd run a b n (tabT xs) := (Uz hty p2).trans (M1 p2).2
  have okz := V1 p1
  have p3 : callPoss (tabT zs) q = true := by
    have e := Uz htz p1
    have hq := Qr hrk
    unfold callPoss
    rw [e, okz.1, hco, Ul (by rw [okz.2.1]; exact hq.1) ((okz.2.2 _ hq.1.1).trans hq.2)]
    rfl
  have h := Xdn (a := a) (b := b) (n := n) hp hka (Ne.symm hne)
  rw [Sf p3, Sf hp, Uz hte p3, hY, hX, hZ]
  exact ⟨h.2.symm, h.1⟩
end
end Go.Dw
end
section
namespace Go.Proofs.YtlhhijnmacogcaaGreatDoor
open Go.RowKit Go.Dw
set_option maxRecDepth 100000
set_option maxHeartbeats 4000000
set_option linter.unusedSimpArgs false
set_option linter.unusedVariables false
theorem Rc : goFn Tryz.prog 15 = true := by kernel_rfl
theorem Rd : goFn Tryz.prog 16 = true := by kernel_rfl
theorem Hh : goFn Tryz.prog 17 = true := by kernel_rfl
theorem W5 : goFn Tryz.prog 18 = true := by kernel_rfl
theorem Rf : goFn Tryz.prog 19 = true := by kernel_rfl
theorem law_FnDoTwo (bs : List Int) (a : Option Addr) (c : Nat) (w : World) (f9 : SlAt w a 1 (bs.map bcell)) (hb : ∀ b ∈ bs, 0 ≤ b ∧ b ≤ 255) (hn : bs.length ≤ 9223372036854775807) (hc : bs.length ≤ c) (m : Nat) (a2 : Option Addr) (c2 : Nat) (hm : m ≤ 9223372036854775807) (hE : ErrT w) : CallsR Tryz.prog 9 #[.slice a bs.length c, .slice a2 m c2] w (fun v w' => v = .bool true ∧ w.grownBy w' none) := by
 refine Xx (n := 118) Tryz.func9 Z Tryz.ntmps9 Z ?_
 have eu := World.grownBy.refl w none
 have hs := SlAt.lt Wr (by omega) f9
 refine Xa (Xe (v := vb false) Z Z (Xb (Xq (Ya (fun f' w' => (f' 0 = .slice a bs.length c ∧ f' 1 = .slice a2 m c2 ∧ f' 4 = vb false ∧ f' 26 = vb ((decide (1048576 < (bs.length : Int))) || (decide (1048576 < (m : Int))))) ∧ w = w') ?_ ?_))))
 refine Xd (v := .slice a bs.length c) Z Z (Y1 (by kernel_rfl) Z Z (Jm (q := decide (1048576 < (bs.length : Int))) Z Z Z Z (Xd (v := vb (decide (1048576 < (bs.length : Int)))) Z Z ?_)))
 rcases Yg (decide (1048576 < (bs.length : Int))) with aj | aj
 have iq := of_decide_eq_true aj
 iterate 3 refine Xj rfl rfl rfl aj rfl ?_
 exact Xw (v := vb true) Z aj Z Z (Xb ⟨⟨Z, Z, Z, (congrArg Value.bool (by first | (simp only [aj, b0, b1, b2, b3, b4, b5, b6, b7, b8, b9]; done) | simp [aj]))⟩, Z⟩)
 have ir := of_decide_eq_false aj
 exact Xg Z Z Z aj (Xd (v := .slice a2 m c2) Z Z (Xg Z Z Z aj (Y1 (by kernel_rfl) Z Z (Xg Z Z Z aj (Jm (q := decide (1048576 < (m : Int))) Z Z Z Z (Xp (v := vb (decide (1048576 < (m : Int)))) Z aj Z Z (Xb ⟨⟨Z, Z, Z, (congrArg Value.bool (by first | (simp only [aj, b0, b1, b2, b3, b4, b5, b6, b7, b8, b9]; done) | simp [aj]))⟩, Z⟩)))))))
 rintro il i7 ⟨⟨fc, fd, ik, fe⟩, rfl⟩
 refine X0 fe (fun ap => ?_) (fun ap => ?_)
 refine Xa (Xe (v := vb true) Z Z (Xb (Xt (Yk (⟨vb true, Yt Z Z, ?_, eu⟩)))))
 rfl
 have be := Kl ap
 have it := of_decide_eq_false be
 have bf := Km ap
 have iu := of_decide_eq_false bf
 refine Xz (Xu (Xa (Xd (v := .slice a bs.length c) fc Z (Xn Rc (Xf Z Xm) Z (Uv bs a c _ (SlAt.low f9 eu) hb (by omega) (by omega)) ?_))))
 rintro _ i8 ⟨ai, O, G, E, rfl, bl, d9, gk, ii, ew⟩
 have dr := low0 eu ew
 have bg := d9.len
 refine Xd (v := .tuple #[.slice (pa ai) G.length O, .agg #[vi E.kind, vi E.run, vi E.a, vi E.b, vi E.n]]) Z Z (Ye (v := .slice (pa ai) G.length O) Z Z Z (Ye (v := .agg #[vi E.kind, vi E.run, vi E.a, vi E.b, vi E.n]) Z Z Z (Yf (cs := #[vi 0, vi 0, vi 0, vi 0, vi 0]) Ho Z Z ?_)))
 intro cg i9 ae
 have gp := Yd ae dr
 refine Xe (v := .slice (pa ai) G.length O) Z Z (Xy (vs := [vi E.kind, vi E.run, vi E.a, vi E.b, vi E.n]) (cs' := #[vi E.kind, vi E.run, vi E.a, vi E.b, vi E.n]) Y6 Z Z Z (by simp [Value.oneCell']) ae.blk (Nat.le_of_ble_eq_true Z) Z ?_)
 intro gb au
 refine Xb (Xa (Xd (v := .slice (pa ai) G.length O) Z Z (Xr (vs := [vi E.kind, vi E.run, vi E.a, vi E.b, vi E.n]) Y6 Z Z (au.blk.rangeL 0 5 Z) Z ?_)))
 have gt := (au.blk).lt
 refine Xn Rd (Xf Z (Xf Z Xm)) Z (G7 E _ G _ _ (TabG.at (TabG.low bl (low1 ae.grw au.grw (nt ((World.grownBy.refl _ none)).size (Nat.le_of_eq ae.eq.symm))))) bg (by omega)) ?_
 rintro _ gc ⟨br, bd, az, rfl, d5, bq, bn⟩
 have dt := low0 (low1 (low0 dr ae.grw) au.grw (by omega)) bn
 have de := Kq bq
 have g6 := J8 bq
 refine Xd (v := .tuple #[.slice (pa br) az.length bd, vi (callDo (tabT G) E).2]) Z Z (Ye (v := .slice (pa br) az.length bd) Z Z Z (Ye (v := vi (callDo (tabT G) E).2) Z Z Z (Xe (v := .slice (pa br) az.length bd) Z Z (Xe (v := vi (callDo (tabT G) E).2) Z Z (Xb (Xa (Xd (v := .slice (pa ai) G.length O) Z Z ?_)))))))
 have d1 := (au.blk.grown0 bn)
 refine Xr (vs := [vi E.kind, vi E.run, vi E.a, vi E.b, vi E.n]) Y6 Z Z (d1.rangeL 0 5 Z) Z ?_
 have gu := (d1).lt
 refine Xn Hh (Xf Z (Xf Z Xm)) Z (Uk E _ G _ _ (TabG.at (TabG.low bl (low0 (low1 ae.grw au.grw (nt ((World.grownBy.refl _ none)).size (Nat.le_of_eq ae.eq.symm))) bn))) bg (by omega) (ErrT.grown0 hE dt)) ?_
 rintro _ ja ⟨a8, ac, J, rfl, bt, bc, bp⟩
 have bv := Kq bc
 have g7 := J8 bc
 refine Xd (v := .tuple #[.slice a8 J.length ac, vi (callDo (tabT G) E).2]) Z Z (Ye (v := .slice a8 J.length ac) Z Z Z (Ye (v := vi (callDo (tabT G) E).2) Z Z Z (Xe (v := .slice a8 J.length ac) Z Z (Xe (v := vi (callDo (tabT G) E).2) Z Z (Xb (Xq (Xa (Xd (v := vi (callDo (tabT G) E).2) Z Z (Xd (v := vi (callDo (tabT G) E).2) Z Z (Q1 (q := false) Z Z (by simp) Z (Xd (v := vb false) Z Z (Xg Z Z Z Z ?_))))))))))))
 refine Xd (v := .slice a8 J.length ac) Z Z (Xg Z Z Z Z (Xd (v := .slice (pa br) az.length bd) Z Z (Xg Z Z Z Z ?_)))
 have bu := (TabG.low d5 bp)
 refine Xn W5 (Xf Z (Xf Z Xm)) Z (Vb _ J az _ _ _ _ (TabG.at bt) (TabG.at bu) bv de (by omega) (by omega)) ?_
 rintro _ jb ⟨rfl, av⟩
 refine Xg Z Z Z Z (Yn (b' := false) (congrArg Value.bool (decide_eq_true (bc.trans bq.symm))) Z Z (Xp (v := vb false) Z Z Z Z (Xd (v := vb false) Z Z (Xg Z Z Z Z (Xd (v := .slice (pa ai) G.length O) Z Z (Xg Z Z Z Z ?_))))))
 have ej := ((d1.grown0 bp).grown0 av)
 refine Xr (vs := [vi E.kind, vi E.run, vi E.a, vi E.b, vi E.n]) Y6 Z Z (ej.rangeL 0 5 Z) Z (Xg Z Z Z Z (Xn Rf (Xf Z (Xf Z Xm)) Z (N4 E _ G _ _ (TabG.at (TabG.low bl (low0 (low0 (low0 (low1 ae.grw au.grw (nt ((World.grownBy.refl _ none)).size (Nat.le_of_eq ae.eq.symm))) bn) bp) av))) bg (by omega)) ?_))
 rintro _ gf ⟨rfl, a9⟩
 have du := low0 (low0 (low0 dt bp) av) a9
 refine Xg Z Z Z Z (Yn (b' := !callPoss (tabT G) E) Z Z Z (Xp (v := vb (!callPoss (tabT G) E)) Z Z Z Z (Xb (X0 Z (fun aq => ?_) (fun aq => ?_)))))
 have iv := Jr aq
 refine Xa (Xd (v := vi (callDo (tabT G) E).2) Z Z (Xd (v := vi (callDo (tabT G) E).2) Z Z (X6 (q := true) Z Z (by simp) Z (Xd (v := vb true) Z Z (Xg Z Z Z Z (Xd (v := .slice a8 J.length ac) Z Z (Xg Z Z Z Z (Xd (v := .slice (pa br) az.length bd) Z Z (Xg Z Z Z Z (Xn W5 (Xf Z (Xf Z Xm)) Z (Vb _ J az _ _ _ _ (TabG.at (TabG.low (TabG.low bt av) a9)) (TabG.at (TabG.low (TabG.low bu av) a9)) bv de (by omega) (by omega)) ?_))))))))))
 rintro _ jc ⟨rfl, ez⟩
 refine Xw (v := vb true) Z Z (congrArg Value.bool (decide_eq_true (bc.trans bq.symm))) Z (Xe (v := vb true) Z Z (Xb (Xt (Yk (⟨vb true, Yt Z Z, ?_, (low0 du ez)⟩)))))
 rfl
 have ad := Q3 aq
 obtain ⟨ah, am, V⟩ := Yw ad
 have gl := Yx am
 have gm := (Qe V).1
 have ie := Qt ah V
 have g5 := Jk ah
 have hde := Kb ad
 have hrk := Qr (Yw ad).2.2
 have g8 := Vk bq ad
 have g9 := Vk bc ad
 obtain ⟨hi, hhi⟩ : ∃ n, n = gf.heap.size := ⟨_, rfl⟩
 have cw := (TabG.low bl (low0 (low0 (low0 (low0 (low1 ae.grw au.grw (nt ((World.grownBy.refl _ none)).size (Nat.le_of_eq ae.eq.symm))) bn) bp) av) a9))
 have eg := TabG.hi cw
 rw [← hhi] at eg
 have cy := (TabG.low (TabG.low bu av) a9)
 have eh := TabG.hi cy
 rw [← hhi] at eh
 have cz := (TabG.low (TabG.low bt av) a9)
 have ei := TabG.hi cz
 rw [← hhi] at ei
 have gj := Sj bc ad
 refine Xz (Xu (Xq (Xa (Xe (v := vi 1) Z Z (Xb (X9 (Ql (fun mm f' w' => ∃ (r : Nat), mm = G.length + 1 - r ∧ (1 ≤ r ∧ r ≤ G.length + 1) ∧ TabG w.heap.size w' (pa ai) G ∧ TabG gb.heap.size w' (pa br) az ∧ TabG gc.heap.size w' (a8) J ∧ hi ≤ w'.heap.size ∧ f' 11 = vi (r : Int) ∧ f' 1 = .slice a2 m c2 ∧ f' 5 = .slice (pa ai) G.length O ∧ f' 6 = pt cg 0 ∧ f' 9 = .slice a8 J.length ac ∧ f' 10 = vi (callDo (tabT G) E).2 ∧ w.grownBy w' none ∧ Blk w' cg 25 #[vi E.kind, vi E.run, vi E.a, vi E.b, vi E.n]) (G.length + 1 - 1) ⟨1, Z, (by omega), cw, cy, cz, (Nat.le_of_eq hhi), Z, fd, Z, Z, Z, Z, du, (ej.grown0 a9)⟩ ?_)))))))
 rintro mm im gg ⟨r, ig, hk, dq, ee, ef, hhs, bx, ea, cj, dk, eb, ed, bw, df⟩
 refine Xq (Xa (Xd (v := vi (r : Int)) bx Z (Xd (v := .slice (pa ai) G.length O) cj Z (Y1 (by kernel_rfl) Z Z (Vj (q := decide ((r : Int) ≤ (G.length : Int))) Z Z Z Z (Xb (X0 Z (fun ar => ?_) (fun ar => ?_))))))))
 have iw := of_decide_eq_true ar
 refine Xz (Xu (Xq (X9 (Xq (Ya (fun f' w' => (f' 1 = .slice a2 m c2 ∧ f' 5 = .slice (pa ai) G.length O ∧ f' 6 = pt cg 0 ∧ f' 9 = .slice a8 J.length ac ∧ f' 10 = vi (callDo (tabT G) E).2 ∧ f' 11 = vi (r : Int) ∧ f' 85 = vb ((!(decide ((mAt G ((r : Int) - 1).toNat).t.kind = 3))) || (decide ((r : Int) = E.run)))) ∧ gg = w') ?_ ?_)))))
 refine Xd (v := .slice (pa ai) G.length O) cj Z (Xd (v := vi (r : Int)) bx Z (Yr (c := (r : Int) - 1) Z Z (by omega) (by omega) (by omega) Z ?_))
 obtain ⟨ij, i6, ga, ep, e0, fa⟩ := SlAt.at (TabG.at dq).1 (Yp (xg G ((r : Int) - 1).toNat))
 have gr := TabLen.at bg (xg G ((r : Int) - 1).toNat)
 refine X3 Qc Z Z ep e0 (by omega) (by omega) Z (Xc (o' := ga) Qd Z Z Z (Xh (v := vi (mAt G ((r : Int) - 1).toNat).t.kind) X1 Z (fa 0 _ Z) Z (Q1 (q := !(decide ((mAt G ((r : Int) - 1).toNat).t.kind = 3))) Z Z Z Z (Xd (v := vb (!(decide ((mAt G ((r : Int) - 1).toNat).t.kind = 3)))) Z Z ?_))))
 rcases Yg (!(decide ((mAt G ((r : Int) - 1).toNat).t.kind = 3))) with af | af
 have dl := Jr af
 have ix := of_decide_eq_false dl
 iterate 4 refine Xj rfl rfl rfl af rfl ?_
 exact Xw (v := vb true) Z af Z Z (Xb ⟨⟨ea, cj, dk, eb, ed, bx, (congrArg Value.bool (by first | (simp only [ap, be, bf, aq, ad, ar, af, dl, ah, am, V, b0, b1, b2, b3, b4, b5, b6, b7, b8, b9]; done) | simp [ap, be, bf, aq, ad, ar, af, dl, ah, am, V]))⟩, Z⟩)
 have dm := Q3 af
 have iy := of_decide_eq_true dm
 exact Xg Z Z Z af (Xd (v := vi (r : Int)) bx Z (Xg Z Z Z af (Xc (o' := 1) Q5 dk Z Z (Xg Z Z Z af (Xh (v := vi E.run) X1 Z (df.cell Z) Z (Xg Z Z Z af (X6 (q := decide ((r : Int) = E.run)) Z Z Z Z (Xp (v := vb (decide ((r : Int) = E.run))) Z af Z Z (Xb ⟨⟨ea, cj, dk, eb, ed, bx, (congrArg Value.bool (by first | (simp only [ap, be, bf, aq, ad, ar, af, dm, ah, am, V, b0, b1, b2, b3, b4, b5, b6, b7, b8, b9]; done) | simp [ap, be, bf, aq, ad, ar, af, dm, ah, am, V]))⟩, Z⟩)))))))))
 rintro io jd ⟨⟨ck, cl, cm, cn, co, ct, ff⟩, rfl⟩
 refine X0 ff (fun bm => ?_) (fun bm => ?_)
 exact Qf (Y9 (Jh (Xu (X2 (Xd (v := vi (r : Int)) ct Z (Yl (c := (r : Int) + 1) Z Z (by omega) (by omega) (by omega) Z (Xe (v := vi ((r : Int) + 1)) Z Z (Xb (Xu (⟨G.length + 1 - (r + 1), by omega, (r + 1), Z, (by omega), dq, ee, ef, hhs, Z, ck, cl, cm, cn, co, bw, df⟩))))))))))
 have bz := Kl bm
 have ca := Q3 bz
 have iz := of_decide_eq_true ca
 have cc := Km bm
 have i0 := of_decide_eq_false cc
 refine Xz (Xu (Xa (Xd (v := vi (r : Int)) ct Z (Xd (v := .slice a2 m c2) ck Z (Y1 (by kernel_rfl) Z Z (Q9 (c := (m : Int) % 4) Z Z (by omega) (by omega) (by omega) Z Z (Yv (ps := [(0, vi 3), (1, vi (r : Int)), (2, vi ((m : Int) % 4)), (3, vi 1), (4, vi 7)]) (v := .agg #[vi 3, vi (r : Int), vi ((m : Int) % 4), vi 1, vi 7]) (Xk Z (Xk Z (Xk Z (Xk Z (Xk Z X5))))) (by kernel_rfl) Z (Yf (cs := #[vi 0, vi 0, vi 0, vi 0, vi 0]) Ho Z Z ?_))))))))
 intro fb je ag
 have gq := Yd ag bw
 have f8 : hi ≤ fb := nt hhs (Nat.le_of_eq ag.eq.symm)
 have d4 := Xo ag (df).lt
 refine Xy (vs := [vi 3, vi (r : Int), vi ((m : Int) % 4), vi 1, vi 7]) (cs' := #[vi 3, vi (r : Int), vi ((m : Int) % 4), vi 1, vi 7]) Y6 Z Z Z (by simp [Value.oneCell']) ag.blk (Nat.le_of_ble_eq_true Z) Z ?_
 intro jf al
 have dv := low1 (low0 bw ag.grw) al.grw (by omega)
 refine Xb (Xa (Xd (v := .slice a8 J.length ac) cn Z (Xr (vs := [vi 3, vi (r : Int), vi ((m : Int) % 4), vi 1, vi 7]) Y6 Z Z (al.blk.rangeL 0 5 Z) Z ?_)))
 have c8 := (TabG.ge (TabG.low ef ag.grw) al.grw ei (by omega))
 have ek := ((df.grown0 ag.grw).gn al.grw)
 have gv := (ek).lt
 have gw := (al.blk).lt
 refine Xn Hh (Xf Z (Xf Z Xm)) Z (Uk ⟨3, (r : Int), (m : Int) % 4, 1, 7⟩ _ J _ _ (TabG.at c8) bv (by omega) (ErrT.grown0 hE dv)) ?_
 rintro _ gh ⟨dg, bi, an, rfl, c9, cd, ba⟩
 have dw := low0 dv ba
 obtain ⟨ji, fx⟩ : ∃ n, n = gh.heap.size := ⟨_, rfl⟩
 have fu := TabG.hi c9
 rw [← fx] at fu
 have d6 := Kq cd
 have ia := J8 cd
 refine Xd (v := .tuple #[.slice dg an.length bi, vi (callDo (tabT J) ⟨3, (r : Int), (m : Int) % 4, 1, 7⟩).2]) Z Z (Ye (v := .slice dg an.length bi) Z Z Z (Ye (v := vi (callDo (tabT J) ⟨3, (r : Int), (m : Int) % 4, 1, 7⟩).2) Z Z Z (Xe (v := .slice dg an.length bi) Z Z (Xe (v := vi (callDo (tabT J) ⟨3, (r : Int), (m : Int) % 4, 1, 7⟩).2) Z Z (Xb (Xa (Xd (v := .slice (pa ai) G.length O) cl Z ?_)))))))
 have d2 := (al.blk.grown0 ba)
 refine Xr (vs := [vi 3, vi (r : Int), vi ((m : Int) % 4), vi 1, vi 7]) Y6 Z Z (d2.rangeL 0 5 Z) Z ?_
 have da := (TabG.low (TabG.ge (TabG.low dq ag.grw) al.grw eg (by omega)) ba)
 have em := (ek.grown0 ba)
 have gx := (em).lt
 have gy := (d2).lt
 refine Xn Hh (Xf Z (Xf Z Xm)) Z (Uk ⟨3, (r : Int), (m : Int) % 4, 1, 7⟩ _ G _ _ (TabG.at da) bg (by omega) (ErrT.grown0 hE dw)) ?_
 rintro _ gi ⟨dh, bj, ab, rfl, db, ce, aw⟩
 have dx := low0 dw aw
 obtain ⟨jj, fy⟩ : ∃ n, n = gi.heap.size := ⟨_, rfl⟩
 have fv := TabG.hi db
 rw [← fy] at fv
 have d7 := Kq ce
 have ib := J8 ce
 refine Xd (v := .tuple #[.slice dh ab.length bj, vi (callDo (tabT G) ⟨3, (r : Int), (m : Int) % 4, 1, 7⟩).2]) Z Z (Ye (v := .slice dh ab.length bj) Z Z Z (Ye (v := vi (callDo (tabT G) ⟨3, (r : Int), (m : Int) % 4, 1, 7⟩).2) Z Z Z (Xe (v := .slice dh ab.length bj) Z Z (Xe (v := vi (callDo (tabT G) ⟨3, (r : Int), (m : Int) % 4, 1, 7⟩).2) Z Z (Xb (Xa (Xd (v := .slice dh ab.length bj) Z Z ?_)))))))
 have d3 := (em.grown0 aw)
 refine Xr (vs := [vi E.kind, vi E.run, vi E.a, vi E.b, vi E.n]) Y6 cm Z (d3.rangeL 0 5 Z) Z ?_
 have gz := (d3).lt
 have g0 := ((d2.grown0 aw)).lt
 refine Xn Hh (Xf Z (Xf Z Xm)) Z (Uk E _ ab _ _ (TabG.at db) d7 (by omega) (ErrT.grown0 hE dx)) ?_
 rintro _ eo ⟨di, bk, ao, rfl, dc, cf, bb⟩
 obtain ⟨jk, fz⟩ : ∃ n, n = eo.heap.size := ⟨_, rfl⟩
 have fw := TabG.hi dc
 rw [← fz] at fw
 have d8 := Kq cf
 have ic := J8 cf
 refine Xd (v := .tuple #[.slice di ao.length bk, vi (callDo (tabT ab) E).2]) Z Z (Ye (v := .slice di ao.length bk) Z Z Z (Ye (v := vi (callDo (tabT ab) E).2) Z Z Z (Xe (v := .slice di ao.length bk) Z Z (Xe (v := vi (callDo (tabT ab) E).2) Z Z (Xb (Ya (fun f' w' => (f' 1 = .slice a2 m c2 ∧ f' 5 = .slice (pa ai) G.length O ∧ f' 6 = pt cg 0 ∧ f' 9 = .slice a8 J.length ac ∧ f' 10 = vi (callDo (tabT G) E).2 ∧ f' 11 = vi (r : Int) ∧ f' 117 = vb ((!(decide (tabT an = tabT ao))) || (!(decide ((callDo (tabT ab) E).2 = (callDo (tabT G) E).2))))) ∧ eo.grownBy w' none) ?_ ?_))))))
 refine Xd (v := .slice dg an.length bi) Z Z (Xd (v := .slice di ao.length bk) Z Z (Xn W5 (Xf Z (Xf Z Xm)) Z (Vb _ an ao _ _ _ _ (TabG.at (TabG.low (TabG.low c9 aw) bb)) (TabG.at dc) d6 d8 (by omega) (by omega)) ?_))
 rintro _ jg ⟨rfl, dz⟩
 refine Yn (b' := !(decide (tabT an = tabT ao))) Z Z Z (Xd (v := vb (!(decide (tabT an = tabT ao)))) Z Z ?_)
 rcases Yg (!(decide (tabT an = tabT ao))) with ak | ak
 have dn := Jr ak
 have i1 := of_decide_eq_false dn
 iterate 3 refine Xj rfl rfl rfl ak rfl ?_
 exact Xw (v := vb true) Z ak Z Z (Xb ⟨⟨ck, cl, cm, cn, co, ct, (congrArg Value.bool (by first | (simp only [ap, be, bf, aq, ad, ar, bm, bz, ca, cc, ak, dn, ah, am, V, b0, b1, b2, b3, b4, b5, b6, b7, b8, b9]; done) | simp [ap, be, bf, aq, ad, ar, bm, bz, ca, cc, ak, dn, ah, am, V]))⟩, dz⟩)
 have dp := Q3 ak
 have i2 := of_decide_eq_true dp
 exact Xg Z Z Z ak (Xd (v := vi (callDo (tabT ab) E).2) Z Z (Xg Z Z Z ak (Xd (v := vi (callDo (tabT G) E).2) co Z (Xg Z Z Z ak (Q1 (q := !(decide ((callDo (tabT ab) E).2 = (callDo (tabT G) E).2))) Z Z Z Z (Xp (v := vb (!(decide ((callDo (tabT ab) E).2 = (callDo (tabT G) E).2)))) Z ak Z Z (Xb ⟨⟨ck, cl, cm, cn, co, ct, (congrArg Value.bool (by first | (simp only [ap, be, bf, aq, ad, ar, bm, bz, ca, cc, ak, dp, ah, am, V, b0, b1, b2, b3, b4, b5, b6, b7, b8, b9]; done) | simp [ap, be, bf, aq, ad, ar, bm, bz, ca, cc, ak, dp, ah, am, V]))⟩, dz⟩)))))))
 rintro ip jh ⟨⟨fg, fh, fi, fj, fk, fm, fo⟩, bh⟩
 have dy := low0 (low0 dx bb) bh
 refine X0 fo (fun cv => ?_) (fun cv => ?_)
 refine Xa (Xe (v := vb false) Z Z (Xb (Xt (Qn (Yk (Yk (Qn (Yk (⟨vb false, Yt Z Z, ?_, dy⟩)))))))))
 have d0 := O0 bc ad (Tv (by omega)) (by omega) (by assumption) (by omega) cd ce cf
 exfalso
 have hbad := cv
 simp [d0.1, d0.2] at hbad
 have fp := Kl cv
 have fq := Q3 fp
 have i3 := of_decide_eq_true fq
 have fr := Km cv
 have ft := Q3 fr
 have i4 := of_decide_eq_true ft
 exact Xz (Y3 (Xu (X2 (Xd (v := vi (r : Int)) fm Z (Yl (c := (r : Int) + 1) Z Z (by omega) (by omega) (by omega) Z (Xe (v := vi ((r : Int) + 1)) Z Z (Xb (Xu (⟨G.length + 1 - (r + 1), by omega, (r + 1), Z, (by omega), (TabG.low (TabG.low (TabG.low da aw) bb) bh), (TabG.low (TabG.low (TabG.low (TabG.low (TabG.ge (TabG.low ee ag.grw) al.grw eh (by omega)) ba) aw) bb) bh), (TabG.low (TabG.low (TabG.low (TabG.low c8 ba) aw) bb) bh), (nt (nt (nt (nt (nt (nt hhs ag.grw.size) al.grw.size) ba.size) aw.size) bb.size) bh.size), Z, fg, fh, fi, fj, fk, dy, ((d3.grown0 bb).grown0 bh)⟩)))))))))
 have i5 := of_decide_eq_false ar
 refine Qf (Y9 (Y9 (Jh (Xu (Xa (Xe (v := vb true) Z Z (Xb (Xt (⟨vb true, Yt Z Z, ?_, bw⟩)))))))))
 rfl
end Go.Proofs.YtlhhijnmacogcaaGreatDoor
end
