/- Laws and walks: my templates, and what a program of mine (gen.py) printed out of the functions; only what the row reaches. -/
import Derived.Test.YtlhhijnmacogcaaGreatDoorT35
section
namespace Go.Dw
set_option linter.unusedVariables false
set_option linter.unusedSimpArgs false
section
variable {ts : List Th} {q : Cl}
theorem R3 (hp : callPoss ts q = true) (h0 : check1 ts q = 0) (h3 : ¬ q.kind = 3) : (1 ≤ (slotAt ts q.run q.a).th ∧ (slotAt ts q.run q.a).th ≤ (ts.length : Int)) ∧ kindFor q.kind (thAt ts (slotAt ts q.run q.a).th).kind = true ∧ (need0 q.kind = true → sees ts q.run (slotAt ts q.run q.a).th = true) := by
  have e := Qz hp
  have h := Hs (ts := ts) (q := q) (by omega) h3
  exact ⟨h.1, h.2.1, (Lp (ts := ts) (q := q) (by omega) (by omega) h3).1⟩
theorem K0 (hp : callPoss ts q = true) (h0 : check1 ts q = 0) (h3 : ¬ q.kind = 3) : FarOk ts q (slotAt ts q.run q.a) := by
  have h := R3 hp h0 h3
  obtain ⟨hT, hc, hr⟩ := Yd hp
  exact ⟨hT, hc, hr, h.1, h.2.1, h3⟩
theorem Ho (k n j : Int) : thAt (setNum ts k n) j = thAt ts j ∨ thAt (setNum ts k n) j = { thAt ts j with num := n } := by
  unfold setNum setTh thAt
  rw [List.getD_eq_getElem?_getD, List.getD_eq_getElem?_getD, List.getD_eq_getElem?_getD, List.getElem?_set]
  split
  · rename_i e
    split
    · right
      rw [e]
      rfl
    · left
      rw [List.getElem?_eq_none (by omega)]
  · exact Or.inl rfl
theorem Hi (k n j : Int) : (thAt (setNum ts k n) j).lab = (thAt ts j).lab := by rcases Ho (ts := ts) k n j with h | h <;> rw [h]
theorem Se (k n j : Int) : (thAt (setNum ts k n) j).kind = (thAt ts j).kind := by rcases Ho (ts := ts) k n j with h | h <;> rw [h]
theorem Dx (k n j : Int) : (thAt (setNum ts k n) j).ve = (thAt ts j).ve := by rcases Ho (ts := ts) k n j with h | h <;> rw [h]
theorem N1 (k n j : Int) : (thAt (setNum ts k n) j).slots = (thAt ts j).slots := by rcases Ho (ts := ts) k n j with h | h <;> rw [h]
theorem V2 (k n i j : Int) : slotAt (setNum ts k n) i j = slotAt ts i j := by unfold slotAt; rw [N1]
theorem Du (k n i j : Int) : sees (setNum ts k n) i j = sees ts i j := by unfold sees; rw [Hi, Hi]
theorem Sg (k n i j : Int) : touches (setNum ts k n) i j = touches ts i j := by unfold touches; rw [Hi, Hi]
theorem Kz (k n : Int) : (setNum ts k n).length = ts.length := Q7
theorem Hj (k n : Int) (r : Rt) : live (setNum ts k n) r = live ts r := by unfold live; rw [Kz, Dx]
theorem Vn (k n : Int) : check1 (setNum ts k n) q = check1 ts q := by
  unfold check1 chk1 chk2 chk3
  simp only [V2, Se, Du, Sg, Hj]
theorem Sf (hp : callPoss ts q = true) : callPoss (doCall ts q).1 q = true := by
  obtain ⟨hT, hc, hr⟩ := Yd hp
  have h := Wc hp
  have hr := Qq hr
  unfold callPoss
  rw [h.1, hc, M3 (by rw [h.2.1]; exact hr.1) ((h.2.2 _ hr.1.1).trans hr.2)]
  rfl
def Kept (n : Int) (a b : Th) : Prop := (a.kind = 1 → b.num = a.num ∨ b.num = 0 ∨ b.num = n ∨ b.num = n % 2) ∧ ∀ v ∈ b.queue, v = n ∨ v ∈ a.queue
theorem Kept.refl (n : Int) (a : Th) : Kept n a a := ⟨fun _ => Or.inl rfl, fun _ h => Or.inr h⟩
section
variable {ms xs : List MTh}
theorem Wo (hp : callPoss (tabT ms) q = true) : (callDo (tabT ms) q).2 = doAns (tabT ms) q := by rw [Jb hp, Rz]
theorem Kr (ht : tabT xs = (callDo (tabT ms) q).1) (hp : callPoss (tabT ms) q = true) : (mAt xs (q.run - 1).toNat).t.slots.length = 4 := by
  have h := Sf hp
  have h2 := (Yd h)
  rw [← Jb hp, ← ht] at h2
  exact Qt h2.1 h2.2.2
end
end
end Go.Dw
end
section
namespace Go.Dw
set_option linter.unusedVariables false
set_option linter.unusedSimpArgs false
section
variable {ts us : List Th} {q p : Cl}
theorem Kk {k run a b n : Int} (h : (1 ≤ k ∧ k ≤ 9) ∧ (1 ≤ run ∧ run ≤ 8) ∧ (0 ≤ a ∧ a ≤ 3) ∧ (0 ≤ b ∧ b ≤ 3) ∧ 0 ≤ n ∧ n ≤ 99) : callOk ⟨k, run, a, b, n⟩ = true := by
  unfold callOk
  simp only [Bool.and_eq_true]
  exact ⟨⟨⟨⟨Qh.2 h.1, Qh.2 h.2.1⟩, Qh.2 h.2.2.1⟩, Qh.2 h.2.2.2.1⟩, Qh.2 h.2.2.2.2⟩
theorem Vo (hp : callPoss ts q = true) (hc : callOk p = true) (hr : p.run = q.run) : callPoss ts p = true := by
  obtain ⟨hT, _, hk⟩ := Yd hp
  unfold callPoss
  rw [hT, hc, hr, hk]
  rfl
theorem Wu (hp : callPoss ts q = true) (hc : callOk p = true) (hr : p.run = q.run) : callPoss (doCall ts q).1 p = true := Vo (Sf hp) hc hr
theorem Rv {r : Rt} (e1 : slotAt ts q.run q.a = r) (e2 : slotAt us p.run p.a = r) (hr : p.run = q.run) (hk : p.kind = q.kind) (hn : us.length = ts.length)
    (h : (thAt us r.th).kind = (thAt ts r.th).kind ∧ (thAt us r.th).lab = (thAt ts r.th).lab ∧ (thAt us r.th).ve = (thAt ts r.th).ve) (hl : (thAt us q.run).lab = (thAt ts q.run).lab) : check1 us p = check1 ts q := by
  unfold check1 chk1 chk2 chk3 sees touches live
  rw [e1, e2, hr, hk, hn, h.1, h.2.1, h.2.2, hl]
theorem Jg {k n : Int} (hk : 1 ≤ k ∧ k ≤ (ts.length : Int)) (j : Int) (hj : 1 ≤ j) : thAt (setNum ts k n) j = if j = k then { thAt ts k with num := n } else thAt ts j := by
  unfold setNum
  exact Jf hk j hj
theorem M0 (hp : callPoss ts q = true) (h9 : q.kind = 9) (h0 : check1 ts q = 0) : live ts (slotAt ts q.run q.a) = true := by
  have h3 : ¬ q.kind = 3 := by omega
  have hF := K0 hp h0 h3
  have hk := (Q5 hF.kind (Yw hF.call).1).2.2.2.2.2.2.2 h9
  have hrun := (Qq hF.run).1
  have hs := Vb hF.tab hrun q.a
  have hv := (Qv (Vk hF.tab hF.th).1).2.2.1
  unfold versOk at hv
  rw [if_neg (by omega)] at hv
  have hv := of_decide_eq_true hv
  have h1 := hs.1
  have h2 := hs.2
  unfold rightOk at h1
  unfold rightTo at h2
  simp only [Bool.or_eq_true, Bool.and_eq_true, decide_eq_true_eq] at h1 h2
  have hth := hF.th
  rcases h1 with h1 | h1
  · rw [h1] at hth
    exact absurd hth.1 (by decide)
  rcases h2 with h2 | h2
  · omega
  have e1 := Qh.1 h1.1.2
  unfold live
  rw [Qh.2 hth, decide_eq_true (show (thAt ts (slotAt ts q.run q.a).th).ve = (slotAt ts q.run q.a).ve by omega)]
  rfl
theorem Hc (hp : callPoss ts q = true) (h9 : q.kind = 9) (h0 : check1 ts q = 0) : doAns ts q = 0 ∧ (doCall ts q).1 = setNum (setNum (setNum ts (thAt ts (slotAt ts q.run q.a).th).to (q.n % 2)) (slotAt ts q.run q.a).th (min ((thAt ts (slotAt ts q.run q.a).th).num + 1) 99)) q.run 0 ∧
    ((1 ≤ (thAt ts (slotAt ts q.run q.a).th).to ∧ (thAt ts (slotAt ts q.run q.a).th).to ≤ (ts.length : Int)) ∧ (thAt ts (thAt ts (slotAt ts q.run q.a).th).to).kind = 1) ∧ ((1 ≤ (slotAt ts q.run q.a).th ∧ (slotAt ts q.run q.a).th ≤ (ts.length : Int)) ∧ (thAt ts (slotAt ts q.run q.a).th).kind = 5) := by
  have h3 : ¬ q.kind = 3 := by omega
  have hF := K0 hp h0 h3
  have hk := (Q5 hF.kind (Yw hF.call).1).2.2.2.2.2.2.2 h9
  have hg := Qq (Hd hF.tab hF.th hk)
  have hl := M0 hp h9 h0
  have h := Vl rfl h0 h3 hl hF
  have hne : ¬ (slotAt ts q.run q.a).th = (thAt ts (slotAt ts q.run q.a).th).to := fun e => by
    have h5 := hg.2
    rw [← e, hk] at h5
    exact absurd h5 (by decide)
  have hf : far ts q (slotAt ts q.run q.a) = (setNum (setNum ts (thAt ts (slotAt ts q.run q.a).th).to (q.n % 2)) (slotAt ts q.run q.a).th (min ((thAt ts (slotAt ts q.run q.a).th).num + 1) 99), 0) := by
    have e := Jg (n := q.n % 2) hg.1 (slotAt ts q.run q.a).th hF.th.1
    rw [if_neg hne] at e
    unfold far
    rw [if_neg (by omega), if_neg (by omega), if_neg (by omega), if_neg (by omega), if_neg (by omega), if_neg (by omega), if_neg (by omega)]
    show (setTh _ _ _, (0 : Int)) = (setTh _ _ { thAt (setNum ts _ _) _ with num := _ }, (0 : Int))
    rw [e]
  rw [hf] at h
  have hz : doAns ts q = 0 := by rw [h.1]; split <;> rfl
  exact ⟨hz, by rw [Kn, hz, h.2], hg, hF.th, hk⟩
theorem C6 (hp : callPoss ts q = true) (h9 : q.kind = 9) (h0 : check1 ts q = 0) (hc : callOk p = true) (hr : p.run = q.run) (hk : p.kind = q.kind) (ha : p.a = q.a) :
    doAns (doCall ts q).1 p = 0 ∧ (thAt (doCall (doCall ts q).1 p).1 (slotAt ts q.run q.a).th).num = min ((thAt ts (slotAt ts q.run q.a).th).num + 2) 99 ∧ (thAt (doCall (doCall ts q).1 p).1 (thAt ts (slotAt ts q.run q.a).th).to).num = p.n % 2 := by
  obtain ⟨_, e, ⟨hg, hg1⟩, hth, hth5⟩ := Hc hp h9 h0
  have hrun := Qq (Yd hp).2.2
  have hpx := Wu hp hc hr
  have n1 : ¬ (slotAt ts q.run q.a).th = (thAt ts (slotAt ts q.run q.a).th).to := fun e => by rw [← e, hth5] at hg1; exact absurd hg1 (by decide)
  have n2 : ¬ (slotAt ts q.run q.a).th = q.run := fun e => by rw [e, hrun.2] at hth5; exact absurd hth5 (by decide)
  have n3 : ¬ (thAt ts (slotAt ts q.run q.a).th).to = q.run := fun e => by rw [e, hrun.2] at hg1; exact absurd hg1 (by decide)
  have sx : slotAt (doCall ts q).1 p.run p.a = slotAt ts q.run q.a := by rw [e, V2, V2, V2, hr, ha]
  have cx : check1 (doCall ts q).1 p = 0 := by
    rw [e, Vn, Vn, Vn]
    exact (Rv (ts := ts) (us := ts) (q := q) (p := p) rfl (by rw [hr, ha]) hr hk rfl ⟨rfl, rfl, rfl⟩ rfl).trans h0
  have hl : ((doCall ts q).1.length : Int) = ts.length := by rw [e, Kz, Kz, Kz]
  obtain ⟨hA, ey, hg', hth'⟩ := Hc hpx (hk.trans h9) cx
  rw [sx] at ey hg' hth'
  have et : thAt (doCall ts q).1 (slotAt ts q.run q.a).th = { thAt ts (slotAt ts q.run q.a).th with num := min ((thAt ts (slotAt ts q.run q.a).th).num + 1) 99 } := by
    rw [e, Jg (by rw [Kz, Kz]; exact hrun.1) _ hth.1, if_neg n2, Jg (by rw [Kz]; exact hth) _ hth.1, if_pos rfl, Jg hg _ hth.1, if_neg n1]
  rw [et] at ey
  have g1 : 1 ≤ (thAt ts (slotAt ts q.run q.a).th).to ∧ (thAt ts (slotAt ts q.run q.a).th).to ≤ ((doCall ts q).1.length : Int) := by omega
  have g2 : 1 ≤ (slotAt ts q.run q.a).th ∧ (slotAt ts q.run q.a).th ≤ ((doCall ts q).1.length : Int) := by omega
  have g3 : 1 ≤ p.run ∧ p.run ≤ ((doCall ts q).1.length : Int) := by rw [hr]; omega
  refine ⟨hA, ?_, ?_⟩
  · rw [ey, Jg (by rw [Kz, Kz]; exact g3) _ hth.1, if_neg (by rw [hr]; exact n2), Jg (by rw [Kz]; exact g2) _ hth.1, if_pos rfl]
    show min (min _ 99 + 1) 99 = _
    omega
  · rw [ey, Jg (by rw [Kz, Kz]; exact g3) _ hg.1, if_neg (by rw [hr]; exact n3), Jg (by rw [Kz]; exact g2) _ hg.1, if_neg (Ne.symm n1), Jg g1 _ hg.1, if_pos rfl]
end
end Go.Dw
end
section
namespace Go.Dw
set_option linter.unusedVariables false
set_option linter.unusedSimpArgs false
section
variable {ts : List Th} {q p : Cl}
theorem Cp {r : Rt} (hr : slotAt ts q.run q.a = r) (h0 : ¬ r.th = 0) (hk : kindFor q.kind (thAt ts r.th).kind = true) (hrd : r.rd = true) (hwr : r.wr = true) (hs : sees ts q.run r.th = true) (ht : touches ts q.run r.th = true) (hl : live ts r = true) : check1 ts q = 0 := by
  unfold check1 chk1 chk2 chk3
  rw [hr, hk, hrd, hwr, hs, ht, hl, decide_eq_false h0]
  simp
structure Free (us : List Th) (run a : Int) (r : Rt) (kd : Int) : Prop where
  slot : slotAt us run a = r
  nz : ¬ r.th = 0
  kind : (thAt us r.th).kind = kd
  rd : r.rd = true
  wr : r.wr = true
  sees : sees us run r.th = true
  touches : touches us run r.th = true
  live : live us r = true
theorem Free.check {us : List Th} {run a kd : Int} {r : Rt} (h : Free us run a r kd) (hr : p.run = run) (ha : p.a = a) (hk : kindFor p.kind kd = true) : check1 us p = 0 :=
  Cp (r := r) (by rw [hr, ha]; exact h.slot) h.nz (by rw [h.kind]; exact hk) h.rd h.wr (by rw [hr]; exact h.sees) (by rw [hr]; exact h.touches) h.live
theorem Free.far {us : List Th} {a kd : Int} {r : Rt} (hp : callPoss us p = true) (h : Free us p.run a r kd) (ha : p.a = a) (hk : kindFor p.kind kd = true) (h3 : ¬ p.kind = 3) : FarOk us p r ∧ doAns us p = (Go.Dw.far us p r).2 ∧ (doCall us p).1 = setNum (Go.Dw.far us p r).1 p.run (Go.Dw.far us p r).2 := by
  have h0 := h.check rfl ha hk
  have hs : slotAt us p.run p.a = r := by rw [ha]; exact h.slot
  have hF := K0 hp h0 h3
  rw [hs] at hF
  have hx := Vl hs h0 h3 h.live hF
  rw [if_pos h.sees] at hx
  exact ⟨hF, hx.1, by rw [Kn, hx.1, hx.2]⟩
end
section
variable {ms xs ys zs us : List MTh} {q p s t : Cl}
theorem Vp (ht : tabT xs = (callDo (tabT ms) q).1) (hp : callPoss (tabT ms) q = true) (hc : callOk p = true) (hr : p.run = q.run) : callPoss (tabT xs) p = true := by rw [ht, Jb hp]; exact Wu hp hc hr
theorem Ku (ht : tabT xs = (callDo (tabT ms) q).1) (hp : callPoss (tabT ms) q = true) : tabT xs = (doCall (tabT ms) q).1 := by rw [ht, Jb hp]
theorem M1 (ht : tabT xs = (callDo (tabT ms) q).1) (hp : callPoss (tabT ms) q = true) (h9 : q.kind = 9) (h0 : ¬ chkAll (tabT ms) q < 0) (hc : callOk p = true) (hr : p.run = q.run) (hk : p.kind = q.kind) (ha : p.a = q.a) (hty : tabT ys = (callDo (tabT xs) p).1) :
    (callDo (tabT xs) p).2 = 0 ∧ (mAt ys ((rAt (mAt ms (q.run - 1).toNat).t.slots q.a.toNat).th - 1).toNat).t.num = min ((mAt ms ((rAt (mAt ms (q.run - 1).toNat).t.slots q.a.toNat).th - 1).toNat).t.num + 2) 99 ∧ (mAt ys ((mAt ms ((rAt (mAt ms (q.run - 1).toNat).t.slots q.a.toNat).th - 1).toNat).t.to - 1).toNat).t.num = p.n % 2 := by
  rw [Qz hp] at h0
  have hr0 := Kl (tabT ms) q
  have h := C6 hp h9 (by omega) hc hr hk ha
  have hpx := Vp ht hp hc hr
  rw [Wo hpx, Qo ys, Qo ys, Ku hty hpx, Qy, Qo, Ku ht hp]
  exact h
theorem Fc (hp : callPoss (tabT ms) q = true) (h9 : q.kind = 9) (h0 : ¬ chkAll (tabT ms) q < 0) : (1 ≤ (rAt (mAt ms (q.run - 1).toNat).t.slots q.a.toNat).th ∧ (rAt (mAt ms (q.run - 1).toNat).t.slots q.a.toNat).th ≤ (ms.length : Int)) ∧ (1 ≤ (mAt ms ((rAt (mAt ms (q.run - 1).toNat).t.slots q.a.toNat).th - 1).toNat).t.to ∧ (mAt ms ((rAt (mAt ms (q.run - 1).toNat).t.slots q.a.toNat).th - 1).toNat).t.to ≤ (ms.length : Int)) := by
  rw [Qz hp] at h0
  have hr0 := Kl (tabT ms) q
  have h := Hc hp h9 (by omega)
  rw [Qa] at h
  rw [Qy, Qo]
  exact ⟨h.2.2.2.1, h.2.2.1.1⟩
theorem C5 (hp : callPoss (tabT ms) q = true) (h9 : q.kind = 9) (h0 : ¬ chkAll (tabT ms) q < 0) : 0 ≤ (mAt ms ((rAt (mAt ms (q.run - 1).toNat).t.slots q.a.toNat).th - 1).toNat).t.num ∧ (mAt ms ((rAt (mAt ms (q.run - 1).toNat).t.slots q.a.toNat).th - 1).toNat).t.num ≤ 99 := by
  rw [Qz hp] at h0
  have hr0 := Kl (tabT ms) q
  have h := Hc hp h9 (by omega)
  rw [Qy, Qo]
  have hn := (Qv (Vk (Yd hp).1 h.2.2.2.1).1).2.2.2.1
  unfold numOk at hn
  rw [if_pos (Or.inr h.2.2.2.2)] at hn
  exact Qh.1 hn
end
end Go.Dw
end
section
namespace Go.Proofs.YtlhhijnmacogcaaGreatDoor
open Go.RowKit Go.Dw
set_option maxRecDepth 100000
set_option maxHeartbeats 4000000
set_option linter.unusedSimpArgs false
set_option linter.unusedVariables false
theorem Ug : goFn Tryz.prog 15 = true := by kernel_rfl
theorem Uh : goFn Tryz.prog 16 = true := by kernel_rfl
theorem Ks : goFn Tryz.prog 17 = true := by kernel_rfl
theorem K6 : goFn Tryz.prog 18 = true := by kernel_rfl
theorem Ui : goFn Tryz.prog 19 = true := by kernel_rfl
theorem law_FnGateTwice (bs : List Int) (a : Option Addr) (c : Nat) (w : World) (ff : SlAt w a 1 (bs.map bcell)) (hb : ∀ b ∈ bs, 0 ≤ b ∧ b ≤ 255) (hn : bs.length ≤ 9223372036854775807) (hc : bs.length ≤ c) (m : Nat) (a2 : Option Addr) (c2 : Nat) (hm : m ≤ 9223372036854775807) (hE : ErrT w) : CallsR Tryz.prog 10 #[.slice a bs.length c, .slice a2 m c2] w (fun v w' => v = .bool true ∧ w.grownBy w' none) := by
 refine Xw (n := 133) Tryz.func10 Z Tryz.ntmps10 Z ?_
 have dx := World.grownBy.refl w none
 have hs := SlAt.lt Kh (by omega) ff
 refine Xa (Xf (v := vb false) Z Z (Xc (Xs (X8 (fun f' w' => (f' 0 = .slice a bs.length c ∧ f' 1 = .slice a2 m c2 ∧ f' 4 = vb false ∧ f' 22 = vb ((decide (1048576 < (bs.length : Int))) || (decide (1048576 < (m : Int))))) ∧ w = w') ?_ ?_))))
 refine Xb (v := .slice a bs.length c) Z Z (Yr (by kernel_rfl) Z Z (Qw (q := decide (1048576 < (bs.length : Int))) Z Z Z Z (Xb (v := vb (decide (1048576 < (bs.length : Int)))) Z Z ?_)))
 rcases Yb (decide (1048576 < (bs.length : Int))) with ai | ai
 have gr := of_decide_eq_true ai
 iterate 3 refine Xi rfl rfl rfl ai rfl ?_
 exact Xo (v := vb true) Z ai Z Z (Xc ⟨⟨Z, Z, Z, (congrArg Value.bool (by first | (simp only [ai, b0, b1, b2, b3, b4, b5, b6, b7, b8, b9]; done) | simp [ai]))⟩, Z⟩)
 have gt := of_decide_eq_false ai
 exact Xe Z Z Z ai (Xb (v := .slice a2 m c2) Z Z (Xe Z Z Z ai (Yr (by kernel_rfl) Z Z (Xe Z Z Z ai (Qw (q := decide (1048576 < (m : Int))) Z Z Z Z (Xn (v := vb (decide (1048576 < (m : Int)))) Z ai Z Z (Xc ⟨⟨Z, Z, Z, (congrArg Value.bool (by first | (simp only [ai, b0, b1, b2, b3, b4, b5, b6, b7, b8, b9]; done) | simp [ai]))⟩, Z⟩)))))))
 rintro gp ia ⟨⟨eo, dm, dn, ep⟩, rfl⟩
 refine X2 ep (fun az => ?_) (fun az => ?_)
 refine Xa (Xf (v := vb true) Z Z (Xc (Xt (Yo (⟨vb true, Yx Z Z, ?_, dx⟩)))))
 rfl
 have bq := J3 az
 have gu := of_decide_eq_false bq
 have br := J4 az
 have gv := of_decide_eq_false br
 refine Xy (Xv (Xa (Xb (v := .slice a bs.length c) eo Z (Xm Ug (Xg Z Xl) Z (Kp bs a c _ (SlAt.low ff dx) hb (by omega) (by omega)) ?_))))
 rintro _ ib ⟨ae, V, G, E, rfl, aw, dh, fk, gk, d1⟩
 have cm := low0 dx d1
 have ao := dh.len
 refine Xb (v := .tuple #[.slice (pa ae) G.length V, .agg #[vi E.kind, vi E.run, vi E.a, vi E.b, vi E.n]]) Z Z (X1 (v := .slice (pa ae) G.length V) Z Z Z (X1 (v := .agg #[vi E.kind, vi E.run, vi E.a, vi E.b, vi E.n]) Z Z Z (Yf (cs := #[vi 0, vi 0, vi 0, vi 0, vi 0]) Wa Z Z ?_)))
 intro ce ic ad
 have ft := Yi ad cm
 refine Xf (v := .slice (pa ae) G.length V) Z Z (Xx (vs := [vi E.kind, vi E.run, vi E.a, vi E.b, vi E.n]) (cs' := #[vi E.kind, vi E.run, vi E.a, vi E.b, vi E.n]) Y1 Z Z Z (by simp [Value.oneCell']) ad.blk (Nat.le_of_ble_eq_true Z) Z ?_)
 intro ie al
 refine Xc (Xa (Xb (v := .slice (pa ae) G.length V) Z Z (Xq (vs := [vi E.kind, vi E.run, vi E.a, vi E.b, vi E.n]) Y1 Z Z (al.blk.rangeL 0 5 Z) Z ?_)))
 have fy := (al.blk).lt
 refine Xm Uh (Xg Z (Xg Z Xl)) Z (Vr E _ G _ _ (TabG.at (TabG.low aw (low1 ad.grw al.grw (nt ((World.grownBy.refl _ none)).size (Nat.le_of_eq ad.eq.symm))))) ao (by omega)) ?_
 rintro _ ig ⟨bp, au, ar, rfl, df, bd, ba⟩
 have cn := low0 (low1 (low0 cm ad.grw) al.grw (by omega)) ba
 have cc := Qn bd
 have gb := Y8 bd
 refine Xb (v := .tuple #[.slice (pa bp) ar.length au, vi (callDo (tabT G) E).2]) Z Z (X1 (v := .slice (pa bp) ar.length au) Z Z Z (X1 (v := vi (callDo (tabT G) E).2) Z Z Z (Xf (v := .slice (pa bp) ar.length au) Z Z (Xf (v := vi (callDo (tabT G) E).2) Z Z (Xc (Xa (Xb (v := .slice (pa ae) G.length V) Z Z ?_)))))))
 have c9 := (al.blk.grown0 ba)
 refine Xq (vs := [vi E.kind, vi E.run, vi E.a, vi E.b, vi E.n]) Y1 Z Z (c9.rangeL 0 5 Z) Z ?_
 have fz := (c9).lt
 refine Xm Ks (Xg Z (Xg Z Xl)) Z (Jq E _ G _ _ (TabG.at (TabG.low aw (low0 (low1 ad.grw al.grw (nt ((World.grownBy.refl _ none)).size (Nat.le_of_eq ad.eq.symm))) ba))) ao (by omega) (ErrT.grown0 hE cn)) ?_
 rintro _ ii ⟨bf, aj, O, rfl, bi, an, bb⟩
 have bn := Qn an
 have gc := Y8 an
 refine Xb (v := .tuple #[.slice bf O.length aj, vi (callDo (tabT G) E).2]) Z Z (X1 (v := .slice bf O.length aj) Z Z Z (X1 (v := vi (callDo (tabT G) E).2) Z Z Z (Xf (v := .slice bf O.length aj) Z Z (Xf (v := vi (callDo (tabT G) E).2) Z Z (Xc (Xs (Xa (Xb (v := vi (callDo (tabT G) E).2) Z Z (Xb (v := vi (callDo (tabT G) E).2) Z Z (Qj (q := false) Z Z (by simp) Z (Xb (v := vb false) Z Z (Xe Z Z Z Z ?_))))))))))))
 refine Xb (v := .slice bf O.length aj) Z Z (Xe Z Z Z Z (Xb (v := .slice (pa bp) ar.length au) Z Z (Xe Z Z Z Z ?_)))
 have bj := (TabG.low df bb)
 refine Xm K6 (Xg Z (Xg Z Xl)) Z (Js _ O ar _ _ _ _ (TabG.at bi) (TabG.at bj) bn cc (by omega) (by omega)) ?_
 rintro _ ij ⟨rfl, am⟩
 refine Xe Z Z Z Z (Yj (b' := false) (congrArg Value.bool (decide_eq_true (an.trans bd.symm))) Z Z (Xn (v := vb false) Z Z Z Z (Xb (v := vb false) Z Z (Xe Z Z Z Z (Xb (v := .slice (pa ae) G.length V) Z Z (Xe Z Z Z Z ?_))))))
 have bu := ((c9.grown0 bb).grown0 am)
 refine Xq (vs := [vi E.kind, vi E.run, vi E.a, vi E.b, vi E.n]) Y1 Z Z (bu.rangeL 0 5 Z) Z (Xe Z Z Z Z (Xm Ui (Xg Z (Xg Z Xl)) Z (Ut E _ G _ _ (TabG.at (TabG.low aw (low0 (low0 (low0 (low1 ad.grw al.grw (nt ((World.grownBy.refl _ none)).size (Nat.le_of_eq ad.eq.symm))) ba) bb) am))) ao (by omega)) ?_))
 rintro _ dq ⟨rfl, ah⟩
 have bv := low0 (low0 (low0 cn bb) am) ah
 refine Xe Z Z Z Z (Yj (b' := !callPoss (tabT G) E) Z Z Z (Xn (v := vb (!callPoss (tabT G) E)) Z Z Z Z (Xc (X2 Z (fun a8 => ?_) (fun a8 => ?_)))))
 have gw := Jm a8
 refine Xa (Xb (v := vi (callDo (tabT G) E).2) Z Z (Xb (v := vi (callDo (tabT G) E).2) Z Z (X3 (q := true) Z Z (by simp) Z (Xb (v := vb true) Z Z (Xe Z Z Z Z (Xb (v := .slice bf O.length aj) Z Z (Xe Z Z Z Z (Xb (v := .slice (pa bp) ar.length au) Z Z (Xe Z Z Z Z (Xm K6 (Xg Z (Xg Z Xl)) Z (Js _ O ar _ _ _ _ (TabG.at (TabG.low (TabG.low bi am) ah)) (TabG.at (TabG.low (TabG.low bj am) ah)) bn cc (by omega) (by omega)) ?_))))))))))
 rintro _ ik ⟨rfl, d2⟩
 refine Xo (v := vb true) Z Z (congrArg Value.bool (decide_eq_true (an.trans bd.symm))) Z (Xf (v := vb true) Z Z (Xc (Xt (Yo (⟨vb true, Yx Z Z, ?_, (low0 bv d2)⟩)))))
 rfl
 have af := Qu a8
 obtain ⟨aq, a9, ap⟩ := Yd af
 have fo := Yw a9
 have fr := (Y5 ap).1
 have gj := Qt aq ap
 have f9 := Jk aq
 have hde := Jb af
 have hrk := Qq (Yd af).2.2
 have gf := Qm bd af
 have gg := Qm an af
 obtain ⟨hi, hhi⟩ : ∃ n, n = dq.heap.size := ⟨_, rfl⟩
 have bk := (TabG.low aw (low0 (low0 (low0 (low0 (low1 ad.grw al.grw (nt ((World.grownBy.refl _ none)).size (Nat.le_of_eq ad.eq.symm))) ba) bb) am) ah))
 have fa := TabG.hi bk
 rw [← hhi] at fa
 have fb := TabG.hi (TabG.low (TabG.low bj am) ah)
 rw [← hhi] at fb
 have ca := (TabG.low (TabG.low bi am) ah)
 have fc := TabG.hi ca
 rw [← hhi] at fc
 have fi := Kr an af
 refine Xy (Xv (Xs (X8 (fun f' w' => (f' 1 = .slice a2 m c2 ∧ f' 4 = vb false ∧ f' 5 = .slice (pa ae) G.length V ∧ f' 6 = pt ce 0 ∧ f' 9 = .slice bf O.length aj ∧ f' 71 = vb ((!(decide (E.kind = 9))) || (decide (chkAll (tabT G) E < 0)))) ∧ dq.grownBy w' none) ?_ ?_)))
 refine Xd (o' := 0) Ji Z Z Z ?_
 have dp := (bu.grown0 ah)
 refine Xh (v := vi E.kind) Xz Z (dp.cell Z) Z (Qj (q := !(decide (E.kind = 9))) Z Z Z Z (Xb (v := vb (!(decide (E.kind = 9)))) Z Z ?_))
 rcases Yb (!(decide (E.kind = 9))) with ag | ag
 have cg := Jm ag
 have gx := of_decide_eq_false cg
 iterate 4 refine Xi rfl rfl rfl ag rfl ?_
 exact Xo (v := vb true) Z ag Z Z (Xc ⟨⟨dm, dn, Z, Z, Z, (congrArg Value.bool (by first | (simp only [az, bq, br, a8, af, ag, cg, aq, a9, ap, b0, b1, b2, b3, b4, b5, b6, b7, b8, b9]; done) | simp [az, bq, br, a8, af, ag, cg, aq, a9, ap]))⟩, (World.grownBy.refl _ _)⟩)
 have cj := Qu ag
 have gy := of_decide_eq_true cj
 refine Xe Z Z Z ag (Xb (v := .slice (pa ae) G.length V) Z Z (Xe Z Z Z ag (Xq (vs := [vi E.kind, vi E.run, vi E.a, vi E.b, vi E.n]) Y1 Z Z (dp.rangeL 0 5 Z) Z (Xe Z Z Z ag (Xm Dc (Xg Z (Xg Z Xl)) Z (W3 E _ G _ _ (TabG.at bk) ao (by omega) (ErrT.grown0 hE bv)) ?_)))))
 rintro _ il ⟨rfl, d3⟩
 have fm := Wm (ts := tabT G) (q := E)
 exact Xe Z Z Z ag (Qg (q := decide (chkAll (tabT G) E < 0)) Z Z Z Z (Xn (v := vb (decide (chkAll (tabT G) E < 0))) Z ag Z Z (Xc ⟨⟨dm, dn, Z, Z, Z, (congrArg Value.bool (by first | (simp only [az, bq, br, a8, af, ag, cj, aq, a9, ap, b0, b1, b2, b3, b4, b5, b6, b7, b8, b9]; done) | simp [az, bq, br, a8, af, ag, cj, aq, a9, ap]))⟩, d3⟩)))
 rintro gq fh ⟨⟨eu, gm, cf, bx, ew, ez⟩, av⟩
 have co := low0 bv av
 refine X2 ez (fun ck => ?_) (fun ck => ?_)
 refine Xa (Xf (v := vb true) Z Z (Xc (Xt (Yo (⟨vb true, Yx Z Z, ?_, co⟩)))))
 rfl
 have e0 := J3 ck
 have bt := Qu e0
 have gz := of_decide_eq_true bt
 have bz := J4 ck
 have g0 := of_decide_eq_false bz
 refine Xy (Xv (Xs ?_))
 have bl := (TabG.low bk av)
 obtain ⟨di, g5, db, dt, ee, ei⟩ := SlAt.at (TabG.at bl).1 (Yk (xg G (E.run - 1).toNat))
 have fu := TabLen.at ao (xg G (E.run - 1).toNat)
 obtain ⟨gl, g6, fg, du, ef, ej⟩ := SlAt.at (TabAt.th (TabG.at bl) (xg G (E.run - 1).toNat)).1 (Yk (xr (mAt G (E.run - 1).toNat).t.slots (E.a).toNat))
 have ga := Vg aq (lq (E.run - 1).toNat G.length) (lq (E.a).toNat (mAt G (E.run - 1).toNat).t.slots.length)
 refine Yt (m := 9) (vals := [(72, .slice (pa ae) G.length V), (73, pt ce 1), (74, vi E.run), (75, vi (E.run - 1)), (76, pt di db), (77, pt di (db + 5)), (78, .slice (mAt G (E.run - 1).toNat).sa (mAt G (E.run - 1).toNat).t.slots.length (mAt G (E.run - 1).toNat).sc), (79, pt ce 2), (80, vi E.a)]) (fun w' => fh.grownBy w' none) Y0 (by kernel_rfl) (X7 _) ?_ ?_
 exact yl Z (fun _ _ k => Xb (v := .slice (pa ae) G.length V) cf Z k) (yl Z (fun _ _ k => Xd (o' := 1) Y9 bx Z Z k) (yl Z (fun _ d4 k => Xh (v := vi E.run) Xz Z ((((bu.grown0 ah).grown0 av).grown0 d4).cell Z) Z k) (yl Z (fun _ _ k => Ym (c := E.run - 1) Z Z (by omega) (by omega) (by omega) Z k) (yl Z (fun _ _ k => X0 Y6 Z Z dt ee (by omega) (by omega) Z k) (yl Z (fun _ _ k => Xd (o' := db + 5) Qi Z Z Z k) (yl Z (fun _ d5 k => Xh (v := .slice (mAt G (E.run - 1).toNat).sa (mAt G (E.run - 1).toNat).t.slots.length (mAt G (E.run - 1).toNat).sc) Jd Z ((Ye ei d5) 5 _ Z) Z k) (yl Z (fun _ _ k => Xd (o' := 2) Ju bx Z Z k) (yl Z (fun _ d6 k => Xh (v := vi E.a) Xz Z ((((bu.grown0 ah).grown0 av).grown0 d6).cell Z) Z k) Y2))))))))
 intro im bc
 have ct := low0 co bc
 refine X0 J9 Z Z du ef (by omega) (by omega) Z (Xd (o' := fg) Yl Z Z Z (Xh (v := vi (rAt (mAt G (E.run - 1).toNat).t.slots (E.a).toNat).th) Xz Z ((Ye ej bc) 0 _ Z) Z (Xf (v := vi (rAt (mAt G (E.run - 1).toNat).t.slots (E.a).toNat).th) Z Z (Xc (Xv (Xa (Xb (v := .slice a2 m c2) eu Z (Yr (by kernel_rfl) Z Z (Q4 (c := (m : Int) % 90) Z Z (by omega) (by omega) (by omega) Z Z (Xf (v := vi ((m : Int) % 90)) Z Z (Xc (Xa ?_))))))))))))
 refine Xb (v := .slice bf O.length aj) ew Z (Xd (o' := 1) Y9 bx Z Z ?_)
 have da := (((bu.grown0 ah).grown0 av).grown0 bc)
 refine Xh (v := vi E.run) Xz Z (da.cell Z) Z (Xd (o' := 2) Ju bx Z Z (Xh (v := vi E.a) Xz Z (da.cell Z) Z (Xb (v := vi ((m : Int) % 90)) Z Z (Ys (ps := [(0, vi 9), (1, vi E.run), (2, vi E.a), (4, vi ((m : Int) % 90))]) (v := .agg #[vi 9, vi E.run, vi E.a, vi 0, vi ((m : Int) % 90)]) (Xj Z (Xj Z (Xj Z (Xj Z X5)))) (by kernel_rfl) Z ?_))))
 have f8 := (da).lt
 refine Xm Ks (Xg Z (Xg Z Xl)) Z (Jq ⟨9, E.run, E.a, 0, (m : Int) % 90⟩ _ O _ _ (TabG.at (TabG.low (TabG.low ca av) bc)) bn (by omega) (ErrT.grown0 hE ct)) ?_
 rintro _ dr ⟨bg, ak, J, rfl, bm, be, cw⟩
 obtain ⟨ip, fe⟩ : ∃ n, n = dr.heap.size := ⟨_, rfl⟩
 have fd := TabG.hi bm
 rw [← fe] at fd
 have cd := Qn be
 have gh := Y8 be
 have cv : callOk ⟨9, E.run, E.a, 0, (m : Int) % 90⟩ = true := Kk (by omega)
 have cz : callPoss (tabT O) ⟨9, E.run, E.a, 0, (m : Int) % 90⟩ = true := Vp an af cv rfl
 have gi : J.length = O.length := Qm be cz
 have fj : (mAt J (E.run - 1).toNat).t.slots.length = 4 := Kr (q := ⟨9, E.run, E.a, 0, (m : Int) % 90⟩) be cz
 have fp := Fc af (of_decide_eq_true bt) (of_decide_eq_false bz)
 have fq := C5 af (of_decide_eq_true bt) (of_decide_eq_false bz)
 obtain ⟨dy, dz, d0⟩ := M1 an af (of_decide_eq_true bt) (of_decide_eq_false bz) cv rfl (of_decide_eq_true bt).symm rfl be
 have ab : (decide ((callDo (tabT O) ⟨9, E.run, E.a, 0, (m : Int) % 90⟩).2 = 0)) = true := decide_eq_true dy
 have ac : (decide ((mAt J ((rAt (mAt G (E.run - 1).toNat).t.slots (E.a).toNat).th - 1).toNat).t.num = min ((mAt G ((rAt (mAt G (E.run - 1).toNat).t.slots (E.a).toNat).th - 1).toNat).t.num + 2) 99)) = true := decide_eq_true dz
 have ed : (decide ((mAt J ((mAt G ((rAt (mAt G (E.run - 1).toNat).t.slots (E.a).toNat).th - 1).toNat).t.to - 1).toNat).t.num = ((m : Int) % 90) % 2)) = true := decide_eq_true d0
 refine Xb (v := .tuple #[.slice bg J.length ak, vi (callDo (tabT O) ⟨9, E.run, E.a, 0, (m : Int) % 90⟩).2]) Z Z (X1 (v := .slice bg J.length ak) Z Z Z (X1 (v := vi (callDo (tabT O) ⟨9, E.run, E.a, 0, (m : Int) % 90⟩).2) Z Z Z (Xf (v := .slice bg J.length ak) Z Z (Xf (v := vi (callDo (tabT O) ⟨9, E.run, E.a, 0, (m : Int) % 90⟩).2) Z Z (Xc (Xs ?_))))))
 obtain ⟨dk, g7, dc, dv, eg, ek⟩ := SlAt.at (TabG.at bm).1 (Yk (xg J ((rAt (mAt G (E.run - 1).toNat).t.slots (E.a).toNat).th - 1).toNat))
 have fv := TabLen.at cd (xg J ((rAt (mAt G (E.run - 1).toNat).t.slots (E.a).toNat).th - 1).toNat)
 have dg := (TabG.low (TabG.low bl bc) cw)
 obtain ⟨bw, g8, bh, cl, cy, c8⟩ := SlAt.at (TabG.at dg).1 (Yk (xg G ((rAt (mAt G (E.run - 1).toNat).t.slots (E.a).toNat).th - 1).toNat))
 have fw := TabLen.at ao (xg G ((rAt (mAt G (E.run - 1).toNat).t.slots (E.a).toNat).th - 1).toNat)
 obtain ⟨dl, g9, de, dw, eh, em⟩ := SlAt.at (TabG.at bm).1 (Yk (Jw (show ((mAt G ((rAt (mAt G (E.run - 1).toNat).t.slots (E.a).toNat).th - 1).toNat).t.to - 1).toNat < J.length by omega)))
 have fx := TabLen.at cd (Jw (show ((mAt G ((rAt (mAt G (E.run - 1).toNat).t.slots (E.a).toNat).th - 1).toNat).t.to - 1).toNat < J.length by omega))
 refine Yt (m := 33) (vals := [(98, vi (callDo (tabT O) ⟨9, E.run, E.a, 0, (m : Int) % 90⟩).2), (99, vb (decide ((callDo (tabT O) ⟨9, E.run, E.a, 0, (m : Int) % 90⟩).2 = 0))), (100, vb (decide ((callDo (tabT O) ⟨9, E.run, E.a, 0, (m : Int) % 90⟩).2 = 0))), (101, .slice bg J.length ak), (102, vi (rAt (mAt G (E.run - 1).toNat).t.slots (E.a).toNat).th), (103, vi ((rAt (mAt G (E.run - 1).toNat).t.slots (E.a).toNat).th - 1)), (104, pt dk dc), (105, pt dk (dc + 4)), (106, vi (mAt J ((rAt (mAt G (E.run - 1).toNat).t.slots (E.a).toNat).th - 1).toNat).t.num), (107, .slice (pa ae) G.length V), (108, vi (rAt (mAt G (E.run - 1).toNat).t.slots (E.a).toNat).th), (109, vi ((rAt (mAt G (E.run - 1).toNat).t.slots (E.a).toNat).th - 1)), (110, pt bw bh), (111, pt bw (bh + 4)), (112, vi (mAt G ((rAt (mAt G (E.run - 1).toNat).t.slots (E.a).toNat).th - 1).toNat).t.num), (113, vi ((mAt G ((rAt (mAt G (E.run - 1).toNat).t.slots (E.a).toNat).th - 1).toNat).t.num + 2)), (114, vi (min ((mAt G ((rAt (mAt G (E.run - 1).toNat).t.slots (E.a).toNat).th - 1).toNat).t.num + 2) 99)), (115, vb (decide ((mAt J ((rAt (mAt G (E.run - 1).toNat).t.slots (E.a).toNat).th - 1).toNat).t.num = min ((mAt G ((rAt (mAt G (E.run - 1).toNat).t.slots (E.a).toNat).th - 1).toNat).t.num + 2) 99))), (116, vb (decide ((mAt J ((rAt (mAt G (E.run - 1).toNat).t.slots (E.a).toNat).th - 1).toNat).t.num = min ((mAt G ((rAt (mAt G (E.run - 1).toNat).t.slots (E.a).toNat).th - 1).toNat).t.num + 2) 99))), (117, vb (decide ((mAt J ((rAt (mAt G (E.run - 1).toNat).t.slots (E.a).toNat).th - 1).toNat).t.num = min ((mAt G ((rAt (mAt G (E.run - 1).toNat).t.slots (E.a).toNat).th - 1).toNat).t.num + 2) 99))), (118, .slice bg J.length ak), (119, .slice (pa ae) G.length V), (120, vi (rAt (mAt G (E.run - 1).toNat).t.slots (E.a).toNat).th), (121, vi ((rAt (mAt G (E.run - 1).toNat).t.slots (E.a).toNat).th - 1)), (122, pt bw bh), (123, pt bw (bh + 7)), (124, vi (mAt G ((rAt (mAt G (E.run - 1).toNat).t.slots (E.a).toNat).th - 1).toNat).t.to), (125, vi ((mAt G ((rAt (mAt G (E.run - 1).toNat).t.slots (E.a).toNat).th - 1).toNat).t.to - 1)), (126, pt dl de), (127, pt dl (de + 4)), (128, vi (mAt J ((mAt G ((rAt (mAt G (E.run - 1).toNat).t.slots (E.a).toNat).th - 1).toNat).t.to - 1).toNat).t.num), (129, vi ((m : Int) % 90)), (130, vi (((m : Int) % 90) % 2))]) (fun w' => dr.grownBy w' none) Y0 (by kernel_rfl) (X7 _) ?_ ?_
 refine yl Z (fun _ _ k => Xb (v := vi (callDo (tabT O) ⟨9, E.run, E.a, 0, (m : Int) % 90⟩).2) Z Z k) (yl Z (fun _ _ k => X3 (q := decide ((callDo (tabT O) ⟨9, E.run, E.a, 0, (m : Int) % 90⟩).2 = 0)) Z Z Z Z k) (yl Z (fun _ _ k => Xb (v := vb (decide ((callDo (tabT O) ⟨9, E.run, E.a, 0, (m : Int) % 90⟩).2 = 0))) Z Z k) (yl Z (fun _ _ k => Xe Z Z Z ab (Xb (v := .slice bg J.length ak) Z Z k)) (yl Z (fun _ _ k => Xe Z Z Z ab (Xb (v := vi (rAt (mAt G (E.run - 1).toNat).t.slots (E.a).toNat).th) Z Z k)) (yl Z (fun _ _ k => Xe Z Z Z ab (Ym (c := (rAt (mAt G (E.run - 1).toNat).t.slots (E.a).toNat).th - 1) Z Z (by omega) (by omega) (by omega) Z k)) (yl Z (fun _ _ k => Xe Z Z Z ab (X0 Y6 Z Z dv eg (by omega) (by omega) Z k)) (yl Z (fun _ _ k => Xe Z Z Z ab (Xd (o' := dc + 4) Q8 Z Z Z k)) (yl Z (fun _ d7 k => Xe Z Z Z ab (Xh (v := vi (mAt J ((rAt (mAt G (E.run - 1).toNat).t.slots (E.a).toNat).th - 1).toNat).t.num) Xz Z ((Ye ek d7) 4 _ Z) Z k)) (yl Z (fun _ _ k => Xe Z Z Z ab (Xb (v := .slice (pa ae) G.length V) cf Z k)) (yl Z (fun _ _ k => Xe Z Z Z ab (Xb (v := vi (rAt (mAt G (E.run - 1).toNat).t.slots (E.a).toNat).th) Z Z k)) ?_))))))))))
 refine yl Z (fun _ _ k => Xe Z Z Z ab (Ym (c := (rAt (mAt G (E.run - 1).toNat).t.slots (E.a).toNat).th - 1) Z Z (by omega) (by omega) (by omega) Z k)) (yl Z (fun _ _ k => Xe Z Z Z ab (X0 Y6 Z Z cl cy (by omega) (by omega) Z k)) (yl Z (fun _ _ k => Xe Z Z Z ab (Xd (o' := bh + 4) Q8 Z Z Z k)) (yl Z (fun _ d8 k => Xe Z Z Z ab (Xh (v := vi (mAt G ((rAt (mAt G (E.run - 1).toNat).t.slots (E.a).toNat).th - 1).toNat).t.num) Xz Z ((Ye c8 d8) 4 _ Z) Z k)) (yl Z (fun _ _ k => Xe Z Z Z ab (Yv (c := (mAt G ((rAt (mAt G (E.run - 1).toNat).t.slots (E.a).toNat).th - 1).toNat).t.num + 2) Z Z (by omega) (by omega) (by omega) Z k)) (yl Z (fun _ _ k => Xe Z Z Z ab (Rf (c := min ((mAt G ((rAt (mAt G (E.run - 1).toNat).t.slots (E.a).toNat).th - 1).toNat).t.num + 2) 99) Z Z Z Z k)) (yl Z (fun _ _ k => Xe Z Z Z ab (X3 (q := decide ((mAt J ((rAt (mAt G (E.run - 1).toNat).t.slots (E.a).toNat).th - 1).toNat).t.num = min ((mAt G ((rAt (mAt G (E.run - 1).toNat).t.slots (E.a).toNat).th - 1).toNat).t.num + 2) 99)) Z Z Z Z k)) (yl Z (fun _ _ k => Xo (v := vb (decide ((mAt J ((rAt (mAt G (E.run - 1).toNat).t.slots (E.a).toNat).th - 1).toNat).t.num = min ((mAt G ((rAt (mAt G (E.run - 1).toNat).t.slots (E.a).toNat).th - 1).toNat).t.num + 2) 99))) Z ab Z Z k) (yl Z (fun _ _ k => Xb (v := vb (decide ((mAt J ((rAt (mAt G (E.run - 1).toNat).t.slots (E.a).toNat).th - 1).toNat).t.num = min ((mAt G ((rAt (mAt G (E.run - 1).toNat).t.slots (E.a).toNat).th - 1).toNat).t.num + 2) 99))) Z Z k) (yl Z (fun _ _ k => Xe Z Z Z ac (Xb (v := .slice bg J.length ak) Z Z k)) (yl Z (fun _ _ k => Xe Z Z Z ac (Xb (v := .slice (pa ae) G.length V) cf Z k)) ?_))))))))))
 refine yl Z (fun _ _ k => Xe Z Z Z ac (Xb (v := vi (rAt (mAt G (E.run - 1).toNat).t.slots (E.a).toNat).th) Z Z k)) (yl Z (fun _ _ k => Xe Z Z Z ac (Ym (c := (rAt (mAt G (E.run - 1).toNat).t.slots (E.a).toNat).th - 1) Z Z (by omega) (by omega) (by omega) Z k)) (yl Z (fun _ _ k => Xe Z Z Z ac (X0 Y6 Z Z cl cy (by omega) (by omega) Z k)) (yl Z (fun _ _ k => Xe Z Z Z ac (Xd (o' := bh + 7) K2 Z Z Z k)) (yl Z (fun _ d9 k => Xe Z Z Z ac (Xh (v := vi (mAt G ((rAt (mAt G (E.run - 1).toNat).t.slots (E.a).toNat).th - 1).toNat).t.to) Xz Z ((Ye c8 d9) 7 _ Z) Z k)) (yl Z (fun _ _ k => Xe Z Z Z ac (Ym (c := (mAt G ((rAt (mAt G (E.run - 1).toNat).t.slots (E.a).toNat).th - 1).toNat).t.to - 1) Z Z (by omega) (by omega) (by omega) Z k)) (yl Z (fun _ _ k => Xe Z Z Z ac (X0 Y6 Z Z dw eh (by omega) (by omega) Z k)) (yl Z (fun _ _ k => Xe Z Z Z ac (Xd (o' := de + 4) Q8 Z Z Z k)) (yl Z (fun _ ea k => Xe Z Z Z ac (Xh (v := vi (mAt J ((mAt G ((rAt (mAt G (E.run - 1).toNat).t.slots (E.a).toNat).th - 1).toNat).t.to - 1).toNat).t.num) Xz Z ((Ye em ea) 4 _ Z) Z k)) (yl Z (fun _ _ k => Xe Z Z Z ac (Xb (v := vi ((m : Int) % 90)) Z Z k)) (yl Z (fun _ _ k => Xe Z Z Z ac (Q4 (c := ((m : Int) % 90) % 2) Z Z (by omega) (by omega) (by omega) Z Z k)) ?_))))))))))
 exact Y2
 intro io eb
 refine Xe Z Z Z ac (X3 (q := decide ((mAt J ((mAt G ((rAt (mAt G (E.run - 1).toNat).t.slots (E.a).toNat).th - 1).toNat).t.to - 1).toNat).t.num = ((m : Int) % 90) % 2)) Z Z Z Z (Xo (v := vb (decide ((mAt J ((mAt G ((rAt (mAt G (E.run - 1).toNat).t.slots (E.a).toNat).th - 1).toNat).t.to - 1).toNat).t.num = ((m : Int) % 90) % 2))) Z ac Z Z (Xf (v := vb (decide ((mAt J ((mAt G ((rAt (mAt G (E.run - 1).toNat).t.slots (E.a).toNat).th - 1).toNat).t.to - 1).toNat).t.num = ((m : Int) % 90) % 2))) Z Z (Xc (Xv (Xt (⟨vb (decide ((mAt J ((mAt G ((rAt (mAt G (E.run - 1).toNat).t.slots (E.a).toNat).th - 1).toNat).t.to - 1).toNat).t.num = ((m : Int) % 90) % 2)), Yx Z Z, ?_, (low0 (low0 ct cw) eb)⟩)))))))
 exact congrArg Value.bool ed
end Go.Proofs.YtlhhijnmacogcaaGreatDoor
end
