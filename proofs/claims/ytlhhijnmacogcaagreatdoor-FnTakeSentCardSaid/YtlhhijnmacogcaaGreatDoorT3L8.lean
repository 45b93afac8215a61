/- Laws and walks: my templates, and what a program of mine (gen.py) printed out of the functions; only what the row reaches. -/
import Derived.Test.YtlhhijnmacogcaaGreatDoorT35
section
namespace Go.Dw
set_option linter.unusedVariables false
set_option linter.unusedSimpArgs false
section
variable {ts : List Th} {q : Cl}
theorem G8 (hp : callPoss ts q = true) (h : 0 ≤ doAns ts q) : check1 ts q = 0 := by
  have hr := Kl ts q
  by_cases h0 : check1 ts q < 0
  · have := (Ve h0).1
    omega
  · omega
theorem R3 (hp : callPoss ts q = true) (h0 : check1 ts q = 0) (h3 : ¬ q.kind = 3) : (1 ≤ (slotAt ts q.run q.a).th ∧ (slotAt ts q.run q.a).th ≤ (ts.length : Int)) ∧ kindFor q.kind (thAt ts (slotAt ts q.run q.a).th).kind = true ∧ (need0 q.kind = true → sees ts q.run (slotAt ts q.run q.a).th = true) := by
  have e := Qz hp
  have h := Hs (ts := ts) (q := q) (by omega) h3
  exact ⟨h.1, h.2.1, (Lp (ts := ts) (q := q) (by omega) (by omega) h3).1⟩
theorem K0 (hp : callPoss ts q = true) (h0 : check1 ts q = 0) (h3 : ¬ q.kind = 3) : FarOk ts q (slotAt ts q.run q.a) := by
  have h := R3 hp h0 h3
  obtain ⟨hT, hc, hr⟩ := Yd hp
  exact ⟨hT, hc, hr, h.1, h.2.1, h3⟩
theorem T0 (hp : callPoss ts q = true) {j : Int} (hj : 1 ≤ j) (hne : ¬ j = q.run) : thAt (doCall ts q).1 j = thAt (doPre ts q) j := by
  rw [Kn]
  unfold setNum
  rw [Jf (To hp) j hj, if_neg hne]
theorem Pg (hp : callPoss ts q = true) (h0 : check1 ts q = 0) (h3 : ¬ q.kind = 3) : ¬ (slotAt ts q.run q.a).th = q.run := fun e => by
  have h := R3 hp h0 h3
  have hr := (Qq (Yd hp).2.2).2
  have hc := Yw (Yd hp).2.1
  have hk := Q5 h.2.1 hc.1
  rw [e, hr] at hk
  omega
theorem E7 (hp : callPoss ts q = true) (h7 : q.kind = 7) (h0 : check1 ts q = 0) : ((thAt ts (slotAt ts q.run q.a).th).queue.length = 0 → doAns ts q = -4 ∧ (thAt (doCall ts q).1 (slotAt ts q.run q.a).th).queue = []) ∧ (¬ (thAt ts (slotAt ts q.run q.a).th).queue.length = 0 → doAns ts q = iAt (thAt ts (slotAt ts q.run q.a).th).queue 0 ∧ (thAt (doCall ts q).1 (slotAt ts q.run q.a).th).queue = (thAt ts (slotAt ts q.run q.a).th).queue.drop 1) := by
  have h3 : ¬ q.kind = 3 := by omega
  have hF := K0 hp h0 h3
  have hfd := R3 hp h0 h3
  have e := Qz hp
  have hs := hfd.2.2 (by unfold need0; rw [if_neg (by omega), if_pos h7])
  have hl := W5 (ts := ts) (q := q) (by omega) h3 hs
  have h := Vl rfl h0 h3 hl hF
  rw [if_pos hs] at h
  have hq := (Hv (Vk hF.tab hF.th).1 ((Q5 hfd.2.1 (Yw hF.call).1).2.2.2.2.2.1 h7)).2
  rw [T0 hp hF.th.1 (Pg hp h0 h3)]
  refine ⟨fun he => ?_, fun he => ?_⟩
  · have hf : far ts q (slotAt ts q.run q.a) = (ts, -4) := by
      unfold far
      rw [if_neg (by omega), if_neg (by omega), if_neg (by omega), if_neg (by omega), if_neg (by omega), if_pos h7, if_pos he]
    rw [hf] at h
    rw [h.1, h.2]
    exact ⟨rfl, List.length_eq_zero_iff.1 he⟩
  · have hf : far ts q (slotAt ts q.run q.a) = (setQ ts (slotAt ts q.run q.a).th ((thAt ts (slotAt ts q.run q.a).th).queue.drop 1), iAt (thAt ts (slotAt ts q.run q.a).th).queue 0) := by
      unfold far
      rw [if_neg (by omega), if_neg (by omega), if_neg (by omega), if_neg (by omega), if_neg (by omega), if_pos h7, if_neg he]
    rw [hf] at h
    rw [h.1, h.2]
    refine ⟨rfl, ?_⟩
    show (thAt (setTh ts _ _) _).queue = _
    rw [Jf hF.th _ hF.th.1, if_pos rfl]
theorem Ho (k n j : Int) : thAt (setNum ts k n) j = thAt ts j ∨ thAt (setNum ts k n) j = { thAt ts j with num := n } := by
  unfold setNum setTh thAt
  rw [List.getD_eq_getElem?_getD, List.getD_eq_getElem?_getD, List.getD_eq_getElem?_getD, List.getElem?_set]
  split
  · rename_i e
    split
    · right
      rw [e]
      rfl
    · left
      rw [List.getElem?_eq_none (by omega)]
  · exact Or.inl rfl
theorem Hi (k n j : Int) : (thAt (setNum ts k n) j).lab = (thAt ts j).lab := by rcases Ho (ts := ts) k n j with h | h <;> rw [h]
theorem Se (k n j : Int) : (thAt (setNum ts k n) j).kind = (thAt ts j).kind := by rcases Ho (ts := ts) k n j with h | h <;> rw [h]
theorem Dx (k n j : Int) : (thAt (setNum ts k n) j).ve = (thAt ts j).ve := by rcases Ho (ts := ts) k n j with h | h <;> rw [h]
theorem N1 (k n j : Int) : (thAt (setNum ts k n) j).slots = (thAt ts j).slots := by rcases Ho (ts := ts) k n j with h | h <;> rw [h]
theorem Sf (hp : callPoss ts q = true) : callPoss (doCall ts q).1 q = true := by
  obtain ⟨hT, hc, hr⟩ := Yd hp
  have h := Wc hp
  have hr := Qq hr
  unfold callPoss
  rw [h.1, hc, M3 (by rw [h.2.1]; exact hr.1) ((h.2.2 _ hr.1.1).trans hr.2)]
  rfl
def Kept (n : Int) (a b : Th) : Prop := (a.kind = 1 → b.num = a.num ∨ b.num = 0 ∨ b.num = n ∨ b.num = n % 2) ∧ ∀ v ∈ b.queue, v = n ∨ v ∈ a.queue
theorem Kept.refl (n : Int) (a : Th) : Kept n a a := ⟨fun _ => Or.inl rfl, fun _ h => Or.inr h⟩
section
variable {ms xs : List MTh}
theorem Wo (hp : callPoss (tabT ms) q = true) : (callDo (tabT ms) q).2 = doAns (tabT ms) q := by rw [Jb hp, Rz]
theorem Kr (ht : tabT xs = (callDo (tabT ms) q).1) (hp : callPoss (tabT ms) q = true) : (mAt xs (q.run - 1).toNat).t.slots.length = 4 := by
  have h := Sf hp
  have h2 := (Yd h)
  rw [← Jb hp, ← ht] at h2
  exact Qt h2.1 h2.2.2
end
end
end Go.Dw
end
section
namespace Go.Dw
set_option linter.unusedVariables false
set_option linter.unusedSimpArgs false
section
variable {ts us : List Th} {q p : Cl}
theorem Kk {k run a b n : Int} (h : (1 ≤ k ∧ k ≤ 9) ∧ (1 ≤ run ∧ run ≤ 8) ∧ (0 ≤ a ∧ a ≤ 3) ∧ (0 ≤ b ∧ b ≤ 3) ∧ 0 ≤ n ∧ n ≤ 99) : callOk ⟨k, run, a, b, n⟩ = true := by
  unfold callOk
  simp only [Bool.and_eq_true]
  exact ⟨⟨⟨⟨Qh.2 h.1, Qh.2 h.2.1⟩, Qh.2 h.2.2.1⟩, Qh.2 h.2.2.2.1⟩, Qh.2 h.2.2.2.2⟩
theorem Vo (hp : callPoss ts q = true) (hc : callOk p = true) (hr : p.run = q.run) : callPoss ts p = true := by
  obtain ⟨hT, _, hk⟩ := Yd hp
  unfold callPoss
  rw [hT, hc, hr, hk]
  rfl
theorem Wu (hp : callPoss ts q = true) (hc : callOk p = true) (hr : p.run = q.run) : callPoss (doCall ts q).1 p = true := Vo (Sf hp) hc hr
theorem Mh (hp : callPoss ts q = true) (h3 : ¬ q.kind = 3) : (check1 ts q < 0 ∧ doAns ts q = check1 ts q ∧ doPre ts q = ts) ∨ (check1 ts q = 0 ∧ live ts (slotAt ts q.run q.a) = false ∧ doAns ts q = 0 ∧ doPre ts q = ts) ∨
    (check1 ts q = 0 ∧ live ts (slotAt ts q.run q.a) = true ∧ doAns ts q = (if sees ts q.run (slotAt ts q.run q.a).th = true then (far ts q (slotAt ts q.run q.a)).2 else 0) ∧ doPre ts q = (far ts q (slotAt ts q.run q.a)).1) := by
  have hr := Kl ts q
  by_cases h0 : check1 ts q < 0
  · exact Or.inl ⟨h0, Ve h0⟩
  have h0 : check1 ts q = 0 := by omega
  cases hl : live ts (slotAt ts q.run q.a) with
  | false => exact Or.inr (Or.inl ⟨h0, rfl, Uw h0 h3 hl⟩)
  | true => exact Or.inr (Or.inr ⟨h0, rfl, Vl rfl h0 h3 hl (K0 hp h0 h3)⟩)
theorem Jg {k n : Int} (hk : 1 ≤ k ∧ k ≤ (ts.length : Int)) (j : Int) (hj : 1 ≤ j) : thAt (setNum ts k n) j = if j = k then { thAt ts k with num := n } else thAt ts j := by
  unfold setNum
  exact Jf hk j hj
end
end Go.Dw
end
section
namespace Go.Dw
set_option linter.unusedVariables false
set_option linter.unusedSimpArgs false
section
variable {ts : List Th} {q p : Cl}
theorem Cp {r : Rt} (hr : slotAt ts q.run q.a = r) (h0 : ¬ r.th = 0) (hk : kindFor q.kind (thAt ts r.th).kind = true) (hrd : r.rd = true) (hwr : r.wr = true) (hs : sees ts q.run r.th = true) (ht : touches ts q.run r.th = true) (hl : live ts r = true) : check1 ts q = 0 := by
  unfold check1 chk1 chk2 chk3
  rw [hr, hk, hrd, hwr, hs, ht, hl, decide_eq_false h0]
  simp
structure Free (us : List Th) (run a : Int) (r : Rt) (kd : Int) : Prop where
  slot : slotAt us run a = r
  nz : ¬ r.th = 0
  kind : (thAt us r.th).kind = kd
  rd : r.rd = true
  wr : r.wr = true
  sees : sees us run r.th = true
  touches : touches us run r.th = true
  live : live us r = true
theorem Free.check {us : List Th} {run a kd : Int} {r : Rt} (h : Free us run a r kd) (hr : p.run = run) (ha : p.a = a) (hk : kindFor p.kind kd = true) : check1 us p = 0 :=
  Cp (r := r) (by rw [hr, ha]; exact h.slot) h.nz (by rw [h.kind]; exact hk) h.rd h.wr (by rw [hr]; exact h.sees) (by rw [hr]; exact h.touches) h.live
theorem Free.far {us : List Th} {a kd : Int} {r : Rt} (hp : callPoss us p = true) (h : Free us p.run a r kd) (ha : p.a = a) (hk : kindFor p.kind kd = true) (h3 : ¬ p.kind = 3) : FarOk us p r ∧ doAns us p = (Go.Dw.far us p r).2 ∧ (doCall us p).1 = setNum (Go.Dw.far us p r).1 p.run (Go.Dw.far us p r).2 := by
  have h0 := h.check rfl ha hk
  have hs : slotAt us p.run p.a = r := by rw [ha]; exact h.slot
  have hF := K0 hp h0 h3
  rw [hs] at hF
  have hx := Vl hs h0 h3 h.live hF
  rw [if_pos h.sees] at hx
  exact ⟨hF, hx.1, by rw [Kn, hx.1, hx.2]⟩
theorem Gw {us : List Th} {k : Int} {ns : List Int} (hk : 1 ≤ k ∧ k ≤ (us.length : Int)) (j : Int) (hj : 1 ≤ j) : thAt (setQ us k ns) j = if j = k then { thAt us k with queue := ns } else thAt us j := by
  unfold setQ
  exact Jf hk j hj
end
section
variable {ms xs ys zs us : List MTh} {q p s t : Cl}
theorem Vp (ht : tabT xs = (callDo (tabT ms) q).1) (hp : callPoss (tabT ms) q = true) (hc : callOk p = true) (hr : p.run = q.run) : callPoss (tabT xs) p = true := by rw [ht, Jb hp]; exact Wu hp hc hr
theorem Ku (ht : tabT xs = (callDo (tabT ms) q).1) (hp : callPoss (tabT ms) q = true) : tabT xs = (doCall (tabT ms) q).1 := by rw [ht, Jb hp]
theorem Tt {r : Rt} (hs : rAt (mAt ms (q.run - 1).toNat).t.slots q.a.toNat = r) (hth : (1 ≤ r.th ∧ r.th ≤ (ms.length : Int))) (hk : (mAt ms (r.th - 1).toNat).t.kind = 4) (hq : (mAt ms (r.th - 1).toNat).t.queue.length = 0) (h1 : callPoss (tabT ms) p = true) (e1 : p.run = q.run) (a1 : p.a = q.a) (k1 : p.kind = 6) (ht1 : tabT xs = (callDo (tabT ms) p).1)
    (h2 : callPoss (tabT xs) s = true) (e2 : s.run = q.run) (a2 : s.a = q.a) (k2 : s.kind = 7) (ht2 : tabT ys = (callDo (tabT xs) s).1) (h0 : (callDo (tabT ms) p).2 = 0) :
    ((callDo (tabT xs) s).2 = p.n ∧ (mAt ys (r.th - 1).toNat).t.queue.length = 0) ∨ (callDo (tabT xs) s).2 = -1 ∨ (callDo (tabT xs) s).2 = -2 := by
  rw [Wo h1] at h0
  rw [Wo h2]
  rw [Qo] at hk hq
  rw [Qo, Ku ht2 h2]
  have hsl : slotAt (tabT ms) p.run p.a = r := by rw [e1, a1, ← Qy]; exact hs
  have hc1 := G8 h1 (by omega)
  have hF := K0 h1 hc1 (by omega)
  rw [hsl] at hF
  have hrun := Qq hF.run
  have hne : ¬ r.th = p.run := fun e => by rw [e, hrun.2] at hk; exact absurd hk (by decide)
  have hq0 := List.length_eq_zero_iff.1 hq
  have hf : far (tabT ms) p r = (setQ (tabT ms) r.th ((thAt (tabT ms) r.th).queue ++ [p.n]), 0) := by
    unfold far
    rw [if_neg (by omega), if_neg (by omega), if_neg (by omega), if_neg (by omega), if_pos k1, if_pos (by omega)]
  have hr0 := Kl (tabT xs) s
  by_cases c1 : check1 (tabT xs) s = -1
  · exact Or.inr (Or.inl ((Ve (by omega)).1.trans c1))
  by_cases c2 : check1 (tabT xs) s = -2
  · exact Or.inr (Or.inr ((Ve (by omega)).1.trans c2))
  refine Or.inl ?_
  have hq1 : ((setQ (tabT ms) r.th ((thAt (tabT ms) r.th).queue ++ [p.n])).length : Int) = (tabT ms).length := by unfold setQ; rw [Q7]
  have hpre : doPre (tabT ms) p = tabT ms ∨ doPre (tabT ms) p = setQ (tabT ms) r.th ((thAt (tabT ms) r.th).queue ++ [p.n]) := by
    rcases Mh h1 (by omega) with ⟨hx, _⟩ | ⟨_, _, _, hP⟩ | ⟨_, _, _, hP⟩
    · omega
    · exact Or.inl hP
    · rw [hsl, hf] at hP; exact Or.inr hP
  have same : ∀ j : Int, 1 ≤ j → (thAt (tabT xs) j).lab = (thAt (tabT ms) j).lab ∧ (thAt (tabT xs) j).kind = (thAt (tabT ms) j).kind ∧ (thAt (tabT xs) j).ve = (thAt (tabT ms) j).ve ∧ (thAt (tabT xs) j).slots = (thAt (tabT ms) j).slots := fun j hj => by
    rw [Ku ht1 h1, Kn, Hi, Se, Dx, N1]
    rcases hpre with h | h <;> rw [h]
    · exact ⟨rfl, rfl, rfl, rfl⟩
    · rw [Gw hF.th j hj]
      split
      · rename_i e; rw [e]; exact ⟨rfl, rfl, rfl, rfl⟩
      · exact ⟨rfl, rfl, rfl, rfl⟩
  have hln : (tabT xs).length = (tabT ms).length := by rw [Ku ht1 h1]; exact (Wc h1).2.1
  have hsx : slotAt (tabT xs) s.run s.a = r := by
    rw [e2, a2, ← hs, Qy]
    unfold slotAt
    rw [(same q.run (by rw [← e1]; exact hrun.1.1)).2.2.2]
  have hal := Qz h2
  have hp1 := Hs (ts := tabT xs) (q := s) (by omega) (by omega)
  have hf1 := Lp (ts := tabT xs) (q := s) (by omega) (by omega) (by omega)
  have hn0 : need0 s.kind = true := by unfold need0; rw [if_neg (by omega), if_pos k2]
  have hsee := hf1.1 hn0
  rw [hsx] at hsee
  have hsee1 : sees (tabT ms) p.run r.th = true := by
    unfold sees at hsee ⊢
    rw [(same r.th hth.1).1, e2, ← e1, (same p.run hrun.1.1).1] at hsee
    exact hsee
  have hl := W5 (ts := tabT ms) (q := p) (by rw [Qz h1]; exact hc1) (by omega) (by rw [hsl]; exact hsee1)
  rw [hsl] at hl
  have hlx : live (tabT xs) r = true := by unfold live at hl ⊢; rw [hln, (same r.th hth.1).2.2.1]; exact hl
  have hA := Vl hsl hc1 (by omega) hl hF
  rw [hf] at hA
  have hqx : (thAt (tabT xs) r.th).queue = [p.n] := by
    have hA2 := hA.2
    dsimp only at hA2
    rw [Ku ht1 h1, Kn, hA2, Jg (by omega) _ hth.1, if_neg hne, Gw hF.th _ hth.1, if_pos rfl, hq0]
    rfl
  have hc3 : check1 (tabT xs) s = 0 := by
    by_cases c3 : check1 (tabT xs) s = -3
    · have := (Mw (ts := tabT xs) (q := s) (by omega) (by omega)).2
      rw [hsx, hlx] at this
      cases this
    · omega
  have hw := (E7 h2 k2 hc3).2 (by rw [hsx, hqx]; simp)
  rw [hsx, hqx] at hw
  rw [hw.2]
  exact ⟨hw.1, rfl⟩
theorem F2 {sent took n : Int} {l : Nat} {X : Bool} (h : sent = 0 → (took = n ∧ l = 0) ∨ took = -1 ∨ took = -2) : (((((!(decide (sent = 0))) || ((decide (took = n)) && (decide ((l : Int) = 0)))) || (decide (took = (-1)))) || (decide (took = (-2)))) || X) = true := by
  by_cases h0 : sent = 0
  · rcases h h0 with ⟨e1, e2⟩ | e | e
    · subst e1 e2; simp
    · rw [decide_eq_true e]; simp
    · rw [decide_eq_true e]; simp
  · rw [decide_eq_false h0]; simp
end
end Go.Dw
end
section
namespace Go.Proofs.YtlhhijnmacogcaaGreatDoor
open Go.RowKit Go.Dw
set_option maxRecDepth 100000
set_option maxHeartbeats 4000000
set_option linter.unusedSimpArgs false
set_option linter.unusedVariables false
theorem Ug : goFn Tryz.prog 15 = true := by kernel_rfl
theorem Uh : goFn Tryz.prog 16 = true := by kernel_rfl
theorem Ks : goFn Tryz.prog 17 = true := by kernel_rfl
theorem K6 : goFn Tryz.prog 18 = true := by kernel_rfl
theorem Ui : goFn Tryz.prog 19 = true := by kernel_rfl
theorem T9 : goFn Tryz.prog 21 = true := by kernel_rfl
theorem law_FnTakeSent (bs : List Int) (a : Option Addr) (c : Nat) (w : World) (jg : SlAt w a 1 (bs.map bcell)) (hb : ∀ b ∈ bs, 0 ≤ b ∧ b ≤ 255) (hn : bs.length ≤ 9223372036854775807) (hc : bs.length ≤ c) (m : Nat) (a2 : Option Addr) (c2 : Nat) (hm : m ≤ 9223372036854775807) (hE : ErrT w) : CallsR Tryz.prog 5 #[.slice a bs.length c, .slice a2 m c2] w (fun v w' => v = .bool true ∧ w.grownBy w' none) := by
 refine Xw (n := 163) Tryz.func5 Z Tryz.ntmps5 Z ?_
 have fh := World.grownBy.refl w none
 have hs := SlAt.lt Kh (by omega) jg
 refine Xa (Xf (v := vb false) Z Z (Xc (Xs (X8 (fun f' w' => (f' 0 = .slice a bs.length c ∧ f' 1 = .slice a2 m c2 ∧ f' 4 = vb false ∧ f' 24 = vb ((decide (1048576 < (bs.length : Int))) || (decide (1048576 < (m : Int))))) ∧ w = w') ?_ ?_))))
 refine Xb (v := .slice a bs.length c) Z Z (Yr (by kernel_rfl) Z Z (Qw (q := decide (1048576 < (bs.length : Int))) Z Z Z Z (Xb (v := vb (decide (1048576 < (bs.length : Int)))) Z Z ?_)))
 rcases Yb (decide (1048576 < (bs.length : Int))) with bj | bj
 have ko := of_decide_eq_true bj
 iterate 3 refine Xi rfl rfl rfl bj rfl ?_
 exact Xo (v := vb true) Z bj Z Z (Xc ⟨⟨Z, Z, Z, (congrArg Value.bool (by first | (simp only [bj, b0, b1, b2, b3, b4, b5, b6, b7, b8, b9]; done) | simp [bj]))⟩, Z⟩)
 have kp := of_decide_eq_false bj
 exact Xe Z Z Z bj (Xb (v := .slice a2 m c2) Z Z (Xe Z Z Z bj (Yr (by kernel_rfl) Z Z (Xe Z Z Z bj (Qw (q := decide (1048576 < (m : Int))) Z Z Z Z (Xn (v := vb (decide (1048576 < (m : Int)))) Z bj Z Z (Xc ⟨⟨Z, Z, Z, (congrArg Value.bool (by first | (simp only [bj, b0, b1, b2, b3, b4, b5, b6, b7, b8, b9]; done) | simp [bj]))⟩, Z⟩)))))))
 rintro kl lv ⟨⟨gg, gh, gi, gj⟩, rfl⟩
 refine X2 gj (fun ag => ?_) (fun ag => ?_)
 refine Xa (Xf (v := vb true) Z Z (Xc (Xt (Yo (⟨vb true, Yx Z Z, ?_, fh⟩)))))
 rfl
 have ai := J3 ag
 have kq := of_decide_eq_false ai
 have aj := J4 ag
 have kr := of_decide_eq_false aj
 refine Xy (Xv (Xa (Xb (v := .slice a bs.length c) gg Z (Xm Ug (Xg Z Xl) Z (Kp bs a c _ (SlAt.low jg fh) hb (by omega) (by omega)) ?_))))
 rintro _ lw ⟨bf, ak, G, E, rfl, cc, em, jp, kg, fk⟩
 have d2 := low0 fh fk
 have bh := em.len
 refine Xb (v := .tuple #[.slice (pa bf) G.length ak, .agg #[vi E.kind, vi E.run, vi E.a, vi E.b, vi E.n]]) Z Z (X1 (v := .slice (pa bf) G.length ak) Z Z Z (X1 (v := .agg #[vi E.kind, vi E.run, vi E.a, vi E.b, vi E.n]) Z Z Z (Yf (cs := #[vi 0, vi 0, vi 0, vi 0, vi 0]) Wa Z Z ?_)))
 intro cz ly bg
 have js := Yi bg d2
 refine Xf (v := .slice (pa bf) G.length ak) Z Z (Xx (vs := [vi E.kind, vi E.run, vi E.a, vi E.b, vi E.n]) (cs' := #[vi E.kind, vi E.run, vi E.a, vi E.b, vi E.n]) Y1 Z Z Z (by simp [Value.oneCell']) bg.blk (Nat.le_of_ble_eq_true Z) Z ?_)
 intro lz bl
 refine Xc (Xa (Xb (v := .slice (pa bf) G.length ak) Z Z (Xq (vs := [vi E.kind, vi E.run, vi E.a, vi E.b, vi E.n]) Y1 Z Z (bl.blk.rangeL 0 5 Z) Z ?_)))
 have jx := (bl.blk).lt
 refine Xm Uh (Xg Z (Xg Z Xl)) Z (Vr E _ G _ _ (TabG.at (TabG.low cc (low1 bg.grw bl.grw (nt ((World.grownBy.refl _ none)).size (Nat.le_of_eq bg.eq.symm))))) bh (by omega)) ?_
 rintro _ l0 ⟨c8, br, bp, rfl, eh, ck, ce⟩
 have d3 := low0 (low1 (low0 d2 bg.grw) bl.grw (by omega)) ce
 have dk := Qn ck
 have j6 := Y8 ck
 refine Xb (v := .tuple #[.slice (pa c8) bp.length br, vi (callDo (tabT G) E).2]) Z Z (X1 (v := .slice (pa c8) bp.length br) Z Z Z (X1 (v := vi (callDo (tabT G) E).2) Z Z Z (Xf (v := .slice (pa c8) bp.length br) Z Z (Xf (v := vi (callDo (tabT G) E).2) Z Z (Xc (Xa (Xb (v := .slice (pa bf) G.length ak) Z Z ?_)))))))
 have eb := (bl.blk.grown0 ce)
 refine Xq (vs := [vi E.kind, vi E.run, vi E.a, vi E.b, vi E.n]) Y1 Z Z (eb.rangeL 0 5 Z) Z ?_
 have jy := (eb).lt
 refine Xm Ks (Xg Z (Xg Z Xl)) Z (Jq E _ G _ _ (TabG.at (TabG.low cc (low0 (low1 bg.grw bl.grw (nt ((World.grownBy.refl _ none)).size (Nat.le_of_eq bg.eq.symm))) ce))) bh (by omega) (ErrT.grown0 hE d3)) ?_
 rintro _ l3 ⟨dc, bt, bq, rfl, co, bw, cf⟩
 have dl := Qn bw
 have j7 := Y8 bw
 refine Xb (v := .tuple #[.slice dc bq.length bt, vi (callDo (tabT G) E).2]) Z Z (X1 (v := .slice dc bq.length bt) Z Z Z (X1 (v := vi (callDo (tabT G) E).2) Z Z Z (Xf (v := .slice dc bq.length bt) Z Z (Xf (v := vi (callDo (tabT G) E).2) Z Z (Xc (Xs (Xa (Xb (v := vi (callDo (tabT G) E).2) Z Z (Xb (v := vi (callDo (tabT G) E).2) Z Z (Qj (q := false) Z Z (by simp) Z (Xb (v := vb false) Z Z (Xe Z Z Z Z ?_))))))))))))
 refine Xb (v := .slice dc bq.length bt) Z Z (Xe Z Z Z Z (Xb (v := .slice (pa c8) bp.length br) Z Z (Xe Z Z Z Z ?_)))
 have ct := (TabG.low eh cf)
 refine Xm K6 (Xg Z (Xg Z Xl)) Z (Js _ bq bp _ _ _ _ (TabG.at co) (TabG.at ct) dl dk (by omega) (by omega)) ?_
 rintro _ l4 ⟨rfl, bm⟩
 refine Xe Z Z Z Z (Yj (b' := false) (congrArg Value.bool (decide_eq_true (bw.trans ck.symm))) Z Z (Xn (v := vb false) Z Z Z Z (Xb (v := vb false) Z Z (Xe Z Z Z Z (Xb (v := .slice (pa bf) G.length ak) Z Z (Xe Z Z Z Z ?_))))))
 have da := ((eb.grown0 cf).grown0 bm)
 refine Xq (vs := [vi E.kind, vi E.run, vi E.a, vi E.b, vi E.n]) Y1 Z Z (da.rangeL 0 5 Z) Z (Xe Z Z Z Z (Xm Ui (Xg Z (Xg Z Xl)) Z (Ut E _ G _ _ (TabG.at (TabG.low cc (low0 (low0 (low0 (low1 bg.grw bl.grw (nt ((World.grownBy.refl _ none)).size (Nat.le_of_eq bg.eq.symm))) ce) cf) bm))) bh (by omega)) ?_))
 rintro _ dn ⟨rfl, bi⟩
 have de := low0 (low0 (low0 d3 cf) bm) bi
 refine Xe Z Z Z Z (Yj (b' := !callPoss (tabT G) E) Z Z Z (Xn (v := vb (!callPoss (tabT G) E)) Z Z Z Z (Xc (X2 Z (fun ah => ?_) (fun ah => ?_)))))
 have ks := Jm ah
 refine Xa (Xb (v := vi (callDo (tabT G) E).2) Z Z (Xb (v := vi (callDo (tabT G) E).2) Z Z (X3 (q := true) Z Z (by simp) Z (Xb (v := vb true) Z Z (Xe Z Z Z Z (Xb (v := .slice dc bq.length bt) Z Z (Xe Z Z Z Z (Xb (v := .slice (pa c8) bp.length br) Z Z (Xe Z Z Z Z (Xm K6 (Xg Z (Xg Z Xl)) Z (Js _ bq bp _ _ _ _ (TabG.at (TabG.low (TabG.low co bm) bi)) (TabG.at (TabG.low (TabG.low ct bm) bi)) dl dk (by omega) (by omega)) ?_))))))))))
 rintro _ l5 ⟨rfl, fm⟩
 refine Xo (v := vb true) Z Z (congrArg Value.bool (decide_eq_true (bw.trans ck.symm))) Z (Xf (v := vb true) Z Z (Xc (Xt (Yo (⟨vb true, Yx Z Z, ?_, (low0 de fm)⟩)))))
 rfl
 have ad := Qu ah
 obtain ⟨V, ab, O⟩ := Yd ad
 have jq := Yw ab
 have jr := (Y5 O).1
 have kf := Qt V O
 have j4 := Jk V
 have hde := Jb ad
 have hrk := Qq (Yd ad).2.2
 have j8 := Qm ck ad
 have j9 := Qm bw ad
 obtain ⟨hi, hhi⟩ : ∃ n, n = dn.heap.size := ⟨_, rfl⟩
 have bu := (TabG.low cc (low0 (low0 (low0 (low0 (low1 bg.grw bl.grw (nt ((World.grownBy.refl _ none)).size (Nat.le_of_eq bg.eq.symm))) ce) cf) bm) bi))
 have d0 := TabG.hi bu
 rw [← hhi] at d0
 have i8 := TabG.hi (TabG.low (TabG.low ct bm) bi)
 rw [← hhi] at i8
 have i9 := TabG.hi (TabG.low (TabG.low co bm) bi)
 rw [← hhi] at i9
 have jl := Kr bw ad
 refine Xy (Xv (Xs ?_))
 obtain ⟨ew, lm, ef, fe, fz, ga⟩ := SlAt.at (TabG.at bu).1 (Yk (xg G (E.run - 1).toNat))
 have ju := TabLen.at bh (xg G (E.run - 1).toNat)
 obtain ⟨gf, ln, jh, ff, f8, gb⟩ := SlAt.at (TabAt.th (TabG.at bu) (xg G (E.run - 1).toNat)).1 (Yk (xr (mAt G (E.run - 1).toNat).t.slots (E.a).toNat))
 have j5 := Vg V (lq (E.run - 1).toNat G.length) (lq (E.a).toNat (mAt G (E.run - 1).toNat).t.slots.length)
 have kh : hi ≤ dn.heap.size := (Nat.le_of_eq hhi)
 refine Q2 (m := 12) [[], [], [1], [1, 2], [0, 1, 2, 3], [0, 1, 2, 3, 4], [0, 1, 2, 3, 4, 5], [], [7], [0, 1, 2, 3, 4, 5, 6, 7, 8], [0, 1, 2, 3, 4, 5, 6, 7, 8, 9], [], [0, 1, 2, 3, 4, 5, 6, 7, 8, 9, 10, 11]] (fun S F w' => ∃ (af : Nat), dn.grownBy w' none ∧ F 1 = .slice a2 m c2 ∧ F 4 = vb false ∧ F 5 = .slice (pa bf) G.length ak ∧ F 6 = pt cz 0 ∧ (S 11 = true → F 11 = pt af 0 ∧ w.heap.size ≤ af ∧ Blk w' af 33 #[vi 0, vi 0, vb false, vb false, vb false] ∧ cz < af ∧ dn.heap.size ≤ af) ∧ Vals S F [(0, 65, .slice (pa bf) G.length ak), (1, 66, pt cz 1), (2, 67, vi E.run), (3, 68, vi (E.run - 1)), (4, 69, pt ew ef), (5, 70, pt ew (ef + 5)), (6, 71, .slice (mAt G (E.run - 1).toNat).sa (mAt G (E.run - 1).toNat).t.slots.length (mAt G (E.run - 1).toNat).sc), (7, 72, pt cz 2), (8, 73, vi E.a), (9, 74, pt gf jh), (10, 75, .agg #[vi (rAt (mAt G (E.run - 1).toNat).t.slots (E.a).toNat).th, vi (rAt (mAt G (E.run - 1).toNat).t.slots (E.a).toNat).ve, vb (rAt (mAt G (E.run - 1).toNat).t.slots (E.a).toNat).rd, vb (rAt (mAt G (E.run - 1).toNat).t.slots (E.a).toNat).wr, vb (rAt (mAt G (E.run - 1).toNat).t.slots (E.a).toNat).wk])]) Y0 (by kernel_rfl) ⟨0, X7 _, gh, gi, Z, Z, Yy, Ka _⟩ ?_ ?_
 refine Xk (fun S F l6 hS hbef hcl hI => ?_) ?_
 obtain ⟨af, fr, gk, gl, ez, gm, am, hvs⟩ := hI
 exact Xb (v := .slice (pa bf) G.length ak) ez Z (Xc ⟨af, fr, gk, gl, ez, gm, am, Vals.up 0 hvs Z Z Z⟩)
 refine Xk (fun S F l7 hS hbef hcl hI => ?_) ?_
 obtain ⟨af, ft, gp, gq, gr, e0, am, hvs⟩ := hI
 exact Xd (o' := 1) Y9 e0 Z Z (Xc ⟨af, ft, gp, gq, gr, e0, am, Vals.up 1 hvs Z Z Z⟩)
 refine Xk (fun S F l8 hS hbef hcl hI => ?_) ?_
 obtain ⟨af, d5, gt, gu, gv, gw, am, hvs⟩ := hI
 exact Xh (v := vi E.run) Xz (Vals.at 1 hvs Z (Xp 1 hbef Z)) (((da.grown0 bi).grown0 d5).cell Z) Z (Xc ⟨af, d5, gt, gu, gv, gw, am, Vals.up 2 hvs Z Z Z⟩)
 refine Xk (fun S F l9 hS hbef hcl hI => ?_) ?_
 obtain ⟨af, fu, gx, gy, gz, g0, am, hvs⟩ := hI
 exact Ym (c := E.run - 1) (Vals.at 2 hvs Z (Xp 2 hbef Z)) Z (by omega) (by omega) (by omega) Z (Xc ⟨af, fu, gx, gy, gz, g0, am, Vals.up 3 hvs Z Z Z⟩)
 refine Xk (fun S F ma hS hbef hcl hI => ?_) ?_
 obtain ⟨af, fv, g5, g6, g7, g8, am, hvs⟩ := hI
 exact X0 Y6 (Vals.at 0 hvs Z (Xp 0 hbef Z)) (Vals.at 3 hvs Z (Xp 3 hbef Z)) fe fz (by omega) (by omega) Z (Xc ⟨af, fv, g5, g6, g7, g8, am, Vals.up 4 hvs Z Z Z⟩)
 refine Xk (fun S F mb hS hbef hcl hI => ?_) ?_
 obtain ⟨af, fw, g9, ia, ib, ic, am, hvs⟩ := hI
 exact Xd (o' := ef + 5) Qi (Vals.at 4 hvs Z (Xp 4 hbef Z)) Z Z (Xc ⟨af, fw, g9, ia, ib, ic, am, Vals.up 5 hvs Z Z Z⟩)
 refine Xk (fun S F mc hS hbef hcl hI => ?_) ?_
 obtain ⟨af, d6, ie, ig, ii, ij, am, hvs⟩ := hI
 exact Xh (v := .slice (mAt G (E.run - 1).toNat).sa (mAt G (E.run - 1).toNat).t.slots.length (mAt G (E.run - 1).toNat).sc) Jd (Vals.at 5 hvs Z (Xp 5 hbef Z)) ((Ye ga d6) 5 _ Z) Z (Xc ⟨af, d6, ie, ig, ii, ij, am, Vals.up 6 hvs Z Z Z⟩)
 refine Xk (fun S F me hS hbef hcl hI => ?_) ?_
 obtain ⟨af, fx, ik, il, im, fa, am, hvs⟩ := hI
 exact Xd (o' := 2) Ju fa Z Z (Xc ⟨af, fx, ik, il, im, fa, am, Vals.up 7 hvs Z Z Z⟩)
 refine Xk (fun S F mf hS hbef hcl hI => ?_) ?_
 obtain ⟨af, d7, io, ip, iq, ir, am, hvs⟩ := hI
 exact Xh (v := vi E.a) Xz (Vals.at 7 hvs Z (Xp 7 hbef Z)) (((da.grown0 bi).grown0 d7).cell Z) Z (Xc ⟨af, d7, io, ip, iq, ir, am, Vals.up 8 hvs Z Z Z⟩)
 refine Xk (fun S F mg hS hbef hcl hI => ?_) ?_
 obtain ⟨af, fy, it, iu, iv, iw, am, hvs⟩ := hI
 exact X0 J9 (Vals.at 6 hvs Z (Xp 6 hbef Z)) (Vals.at 8 hvs Z (Xp 8 hbef Z)) ff f8 (by omega) (by omega) Z (Xc ⟨af, fy, it, iu, iv, iw, am, Vals.up 9 hvs Z Z Z⟩)
 refine Xk (fun S F mh hS hbef hcl hI => ?_) ?_
 obtain ⟨af, d8, ix, iy, iz, i0, am, hvs⟩ := hI
 exact Xq (vs := [vi (rAt (mAt G (E.run - 1).toNat).t.slots (E.a).toNat).th, vi (rAt (mAt G (E.run - 1).toNat).t.slots (E.a).toNat).ve, vb (rAt (mAt G (E.run - 1).toNat).t.slots (E.a).toNat).rd, vb (rAt (mAt G (E.run - 1).toNat).t.slots (E.a).toNat).wr, vb (rAt (mAt G (E.run - 1).toNat).t.slots (E.a).toNat).wk]) Yz (Vals.at 9 hvs Z (Xp 9 hbef Z)) Z (Y3 (Ye gb d8) 0 5 Z) Z (Xc ⟨af, d8, ix, iy, iz, i0, am, Vals.up 10 hvs Z Z Z⟩)
 refine Xk (fun S F ml hS hbef hcl hI => ?_) ?_
 obtain ⟨af, cj, i1, i2, i3, i4, am, hvs⟩ := hI
 refine Yf (cs := #[vi 0, vi 0, vb false, vb false, vb false]) K7 Z Z ?_
 intro eu mm bv
 have eo := Yi bv (low0 de cj)
 have je : hi ≤ eu := nt (nt (Nat.le_of_eq hhi) cj.size) (Nat.le_of_eq bv.eq.symm)
 have cm := Xr bv (((da.grown0 bi).grown0 cj)).lt
 exact Xc ⟨eu, (low0 cj bv.grw), i1, i2, i3, i4, fun _ => ⟨Z, eo, bv.blk, cm, (nt cj.size (Nat.le_of_eq bv.eq.symm))⟩, Vals.keep hvs Z⟩
 exact Je
 intro S F mn hall hI
 obtain ⟨af, cw, dr, dt, c9, du, am, hvs⟩ := hI
 obtain ⟨cd, jt, ee, eg, jf⟩ := am (hall 11 (by decide))
 refine Xx (vs := [vi (rAt (mAt G (E.run - 1).toNat).t.slots (E.a).toNat).th, vi (rAt (mAt G (E.run - 1).toNat).t.slots (E.a).toNat).ve, vb (rAt (mAt G (E.run - 1).toNat).t.slots (E.a).toNat).rd, vb (rAt (mAt G (E.run - 1).toNat).t.slots (E.a).toNat).wr, vb (rAt (mAt G (E.run - 1).toNat).t.slots (E.a).toNat).wk]) (cs' := #[vi (rAt (mAt G (E.run - 1).toNat).t.slots (E.a).toNat).th, vi (rAt (mAt G (E.run - 1).toNat).t.slots (E.a).toNat).ve, vb (rAt (mAt G (E.run - 1).toNat).t.slots (E.a).toNat).rd, vb (rAt (mAt G (E.run - 1).toNat).t.slots (E.a).toNat).wr, vb (rAt (mAt G (E.run - 1).toNat).t.slots (E.a).toNat).wk]) Yz cd (Vals.at 10 hvs Z (hall 10 (by decide))) Z (by simp [Value.oneCell']) ee (Nat.le_of_ble_eq_true Z) Z ?_
 intro jj bk
 have df := low1 (low0 de cw) bk.grw (by omega)
 refine Xc (Xv (Xs (X8 (fun f' w' => (f' 1 = .slice a2 m c2 ∧ f' 4 = vb false ∧ f' 5 = .slice (pa bf) G.length ak ∧ f' 6 = pt cz 0 ∧ f' 11 = pt af 0 ∧ f' 99 = vb (((decide ((rAt (mAt G (E.run - 1).toNat).t.slots (E.a).toNat).th = 0)) || (!(decide ((mAt G ((rAt (mAt G (E.run - 1).toNat).t.slots (E.a).toNat).th - 1).toNat).t.kind = 4)))) || (decide (0 < ((mAt G ((rAt (mAt G (E.run - 1).toNat).t.slots (E.a).toNat).th - 1).toNat).t.queue.length : Int))))) ∧ jj = w') ?_ ?_)))
 refine Xd (o' := 0) Yl cd Z Z (Xh (v := vi (rAt (mAt G (E.run - 1).toNat).t.slots (E.a).toNat).th) Xz Z (bk.blk.cell Z) Z (X3 (q := decide ((rAt (mAt G (E.run - 1).toNat).t.slots (E.a).toNat).th = 0)) Z Z Z Z (Xb (v := vb (decide ((rAt (mAt G (E.run - 1).toNat).t.slots (E.a).toNat).th = 0))) Z Z ?_)))
 rcases Yb (decide ((rAt (mAt G (E.run - 1).toNat).t.slots (E.a).toNat).th = 0)) with av | av
 have kt := of_decide_eq_true av
 iterate 8 refine Xi rfl rfl rfl av rfl ?_
 refine Xo (v := vb true) Z av Z Z (Xb (v := vb true) Z Z ?_)
 iterate 9 refine Xi rfl rfl rfl rfl rfl ?_
 exact Xo (v := vb true) Z Z Z Z (Xc ⟨⟨dr, dt, c9, du, cd, (congrArg Value.bool (by first | (simp only [ag, ai, aj, ah, ad, av, V, ab, O, b0, b1, b2, b3, b4, b5, b6, b7, b8, b9]; done) | simp [ag, ai, aj, ah, ad, av, V, ab, O]))⟩, Z⟩)
 have ku := of_decide_eq_false av
 refine Xe Z Z Z av (Xb (v := .slice (pa bf) G.length ak) c9 Z (Xe Z Z Z av (Xd (o' := 0) Yl cd Z Z (Xe Z Z Z av (Xh (v := vi (rAt (mAt G (E.run - 1).toNat).t.slots (E.a).toNat).th) Xz Z (bk.blk.cell Z) Z (Xe Z Z Z av (Ym (c := (rAt (mAt G (E.run - 1).toNat).t.slots (E.a).toNat).th - 1) Z Z (by omega) (by omega) (by omega) Z (Xe Z Z Z av ?_))))))))
 have ei := (TabG.ge (TabG.low bu cw) bk.grw d0 (by omega))
 obtain ⟨ki, lp, fc, d1, d9, ea⟩ := SlAt.at (TabG.at ei).1 (Yk (xg G ((rAt (mAt G (E.run - 1).toNat).t.slots (E.a).toNat).th - 1).toNat))
 have jv := TabLen.at bh (xg G ((rAt (mAt G (E.run - 1).toNat).t.slots (E.a).toNat).th - 1).toNat)
 refine X0 Y6 Z Z d1 d9 (by omega) (by omega) Z (Xe Z Z Z av (Xd (o' := fc) Y7 Z Z Z (Xe Z Z Z av (Xh (v := vi (mAt G ((rAt (mAt G (E.run - 1).toNat).t.slots (E.a).toNat).th - 1).toNat).t.kind) Xz Z (ea 0 _ Z) Z (Xe Z Z Z av (Qj (q := !(decide ((mAt G ((rAt (mAt G (E.run - 1).toNat).t.slots (E.a).toNat).th - 1).toNat).t.kind = 4))) Z Z Z Z (Xn (v := vb (!(decide ((mAt G ((rAt (mAt G (E.run - 1).toNat).t.slots (E.a).toNat).th - 1).toNat).t.kind = 4)))) Z av Z Z (Xb (v := vb (!(decide ((mAt G ((rAt (mAt G (E.run - 1).toNat).t.slots (E.a).toNat).th - 1).toNat).t.kind = 4)))) Z Z ?_))))))))
 rcases Yb (!(decide ((mAt G ((rAt (mAt G (E.run - 1).toNat).t.slots (E.a).toNat).th - 1).toNat).t.kind = 4))) with aw | aw
 have dx := Jm aw
 have kv := of_decide_eq_false dx
 iterate 9 refine Xi rfl rfl rfl aw rfl ?_
 exact Xo (v := vb true) Z aw Z Z (Xc ⟨⟨dr, dt, c9, du, cd, (congrArg Value.bool (by first | (simp only [ag, ai, aj, ah, ad, av, aw, dx, V, ab, O, b0, b1, b2, b3, b4, b5, b6, b7, b8, b9]; done) | simp [ag, ai, aj, ah, ad, av, aw, dx, V, ab, O]))⟩, Z⟩)
 have dy := Qu aw
 have kw := of_decide_eq_true dy
 refine Xe Z Z Z aw (Xb (v := .slice (pa bf) G.length ak) c9 Z (Xe Z Z Z aw (Xd (o' := 0) Yl cd Z Z (Xe Z Z Z aw (Xh (v := vi (rAt (mAt G (E.run - 1).toNat).t.slots (E.a).toNat).th) Xz Z (bk.blk.cell Z) Z (Xe Z Z Z aw (Ym (c := (rAt (mAt G (E.run - 1).toNat).t.slots (E.a).toNat).th - 1) Z Z (by omega) (by omega) (by omega) Z (Xe Z Z Z aw (X0 Y6 Z Z d1 d9 (by omega) (by omega) Z (Xe Z Z Z aw (Xd (o' := fc + 6) Qs Z Z Z (Xe Z Z Z aw ?_))))))))))))
 exact Xh (v := .slice (mAt G ((rAt (mAt G (E.run - 1).toNat).t.slots (E.a).toNat).th - 1).toNat).qa (mAt G ((rAt (mAt G (E.run - 1).toNat).t.slots (E.a).toNat).th - 1).toNat).t.queue.length (mAt G ((rAt (mAt G (E.run - 1).toNat).t.slots (E.a).toNat).th - 1).toNat).qc) Jr Z (ea 6 _ Z) Z (Xe Z Z Z aw (Yr (by kernel_rfl) Z Z (Xe Z Z Z aw (Qw (q := decide (0 < ((mAt G ((rAt (mAt G (E.run - 1).toNat).t.slots (E.a).toNat).th - 1).toNat).t.queue.length : Int))) Z Z Z Z (Xn (v := vb (decide (0 < ((mAt G ((rAt (mAt G (E.run - 1).toNat).t.slots (E.a).toNat).th - 1).toNat).t.queue.length : Int)))) Z aw Z Z (Xc ⟨⟨dr, dt, c9, du, cd, (congrArg Value.bool (by first | (simp only [ag, ai, aj, ah, ad, av, aw, dy, V, ab, O, b0, b1, b2, b3, b4, b5, b6, b7, b8, b9]; done) | simp [ag, ai, aj, ah, ad, av, aw, dy, V, ab, O]))⟩, Z⟩))))))
 rintro km mo ⟨⟨i5, kk, dv, cn, dw, i6⟩, rfl⟩
 refine X2 i6 (fun an => ?_) (fun an => ?_)
 refine Xa (Xf (v := vb true) Z Z (Xc (Xt (Yo (⟨vb true, Yx Z Z, ?_, df⟩)))))
 rfl
 have ao := J3 an
 have aq := J3 ao
 have kx := of_decide_eq_false aq
 have ar := J4 ao
 have ap := Qu ar
 have ky := of_decide_eq_true ap
 have au := J4 an
 have kz := of_decide_eq_false au
 refine Xy (Xv (Xa (Xb (v := .slice a2 m c2) i5 Z (Yr (by kernel_rfl) Z Z (Q4 (c := (m : Int) % 100) Z Z (by omega) (by omega) (by omega) Z Z (Xf (v := vi ((m : Int) % 100)) Z Z (Xc (Xa (Xb (v := .slice (pa bf) G.length ak) dv Z (Xd (o' := 1) Y9 cn Z Z ?_))))))))))
 have dm := (((da.grown0 bi).grown0 cw).gn bk.grw)
 refine Xh (v := vi E.run) Xz Z (dm.cell Z) Z (Xd (o' := 2) Ju cn Z Z (Xh (v := vi E.a) Xz Z (dm.cell Z) Z (Xb (v := vi ((m : Int) % 100)) Z Z (Ys (ps := [(0, vi 6), (1, vi E.run), (2, vi E.a), (4, vi ((m : Int) % 100))]) (v := .agg #[vi 6, vi E.run, vi E.a, vi 0, vi ((m : Int) % 100)]) (Xj Z (Xj Z (Xj Z (Xj Z X5)))) (by kernel_rfl) Z ?_))))
 have cv := (TabG.ge (TabG.low bu cw) bk.grw d0 (by omega))
 have jz := (dm).lt
 have j1 := (bk.blk).lt
 refine Xm Ks (Xg Z (Xg Z Xl)) Z (Jq ⟨6, E.run, E.a, 0, (m : Int) % 100⟩ _ G _ _ (TabG.at cv) bh (by omega) (ErrT.grown0 hE df)) ?_
 rintro _ jk ⟨dp, bz, J, rfl, dh, bx, cg⟩
 have d4 := low0 df cg
 obtain ⟨mt, jc⟩ : ∃ n, n = jk.heap.size := ⟨_, rfl⟩
 have ja := TabG.hi dh
 rw [← jc] at ja
 have ej := Qn bx
 have ka := Y8 bx
 have fi : callOk ⟨6, E.run, E.a, 0, (m : Int) % 100⟩ = true := Kk (by omega)
 have cy : callPoss (tabT G) ⟨6, E.run, E.a, 0, (m : Int) % 100⟩ = true := Vo ad fi rfl
 have kb : J.length = G.length := Qm bx cy
 have jm : (mAt J (E.run - 1).toNat).t.slots.length = 4 := Kr (q := ⟨6, E.run, E.a, 0, (m : Int) % 100⟩) bx cy
 refine Xb (v := .tuple #[.slice dp J.length bz, vi (callDo (tabT G) ⟨6, E.run, E.a, 0, (m : Int) % 100⟩).2]) Z Z (X1 (v := .slice dp J.length bz) Z Z Z (X1 (v := vi (callDo (tabT G) ⟨6, E.run, E.a, 0, (m : Int) % 100⟩).2) Z Z Z (Xf (v := .slice dp J.length bz) Z Z (Xf (v := vi (callDo (tabT G) ⟨6, E.run, E.a, 0, (m : Int) % 100⟩).2) Z Z (Xc (Xa (Xb (v := .slice dp J.length bz) Z Z (Xd (o' := 1) Y9 cn Z Z ?_))))))))
 have db := (dm.grown0 cg)
 refine Xh (v := vi E.run) Xz Z (db.cell Z) Z (Xd (o' := 2) Ju cn Z Z (Xh (v := vi E.a) Xz Z (db.cell Z) Z (Ys (ps := [(0, vi 7), (1, vi E.run), (2, vi E.a)]) (v := .agg #[vi 7, vi E.run, vi E.a, vi 0, vi 0]) (Xj Z (Xj Z (Xj Z X5))) (by kernel_rfl) Z ?_)))
 have j2 := (db).lt
 have ed := (bk.blk.grown0 cg)
 have j3 := (ed).lt
 refine Xm Ks (Xg Z (Xg Z Xl)) Z (Jq ⟨7, E.run, E.a, 0, 0⟩ _ J _ _ (TabG.at dh) ej (by omega) (ErrT.grown0 hE d4)) ?_
 rintro _ fd ⟨dq, ca, al, rfl, di, cl, bn⟩
 obtain ⟨mu, jd⟩ : ∃ n, n = fd.heap.size := ⟨_, rfl⟩
 have jb := TabG.hi di
 rw [← jd] at jb
 have ek := Qn cl
 have kc := Y8 cl
 have fj : callOk ⟨7, E.run, E.a, 0, 0⟩ = true := Kk (by omega)
 have dg : callPoss (tabT J) ⟨7, E.run, E.a, 0, 0⟩ = true := Vp bx cy fj rfl
 have ke : al.length = J.length := Qm cl dg
 have jo : (mAt al (E.run - 1).toNat).t.slots.length = 4 := Kr (q := ⟨7, E.run, E.a, 0, 0⟩) cl dg
 have ep := Tt (r := (rAt (mAt G (E.run - 1).toNat).t.slots (E.a).toNat)) (q := E) rfl (by omega) (of_decide_eq_true ap) (by omega) cy rfl rfl rfl bx dg rfl rfl rfl cl
 refine Xb (v := .tuple #[.slice dq al.length ca, vi (callDo (tabT J) ⟨7, E.run, E.a, 0, 0⟩).2]) Z Z (X1 (v := .slice dq al.length ca) Z Z Z (X1 (v := vi (callDo (tabT J) ⟨7, E.run, E.a, 0, 0⟩).2) Z Z Z (Xf (v := .slice dq al.length ca) Z Z (Xf (v := vi (callDo (tabT J) ⟨7, E.run, E.a, 0, 0⟩).2) Z Z (Xc (X8 (fun f' w' => (f' 4 = vb (((((!(decide ((callDo (tabT G) ⟨6, E.run, E.a, 0, (m : Int) % 100⟩).2 = 0))) || ((decide ((callDo (tabT J) ⟨7, E.run, E.a, 0, 0⟩).2 = (m : Int) % 100)) && (decide (((mAt al ((rAt (mAt G (E.run - 1).toNat).t.slots (E.a).toNat).th - 1).toNat).t.queue.length : Int) = 0)))) || (decide ((callDo (tabT J) ⟨7, E.run, E.a, 0, 0⟩).2 = (-1)))) || (decide ((callDo (tabT J) ⟨7, E.run, E.a, 0, 0⟩).2 = (-2)))) || ((decide ((callDo (tabT J) ⟨7, E.run, E.a, 0, 0⟩).2 = (-4))) && (!chkSees (tabT G) E.run (rAt (mAt G (E.run - 1).toNat).t.slots (E.a).toNat).th)))) ∧ fd.grownBy w' none) ?_ ?_))))))
 refine Xb (v := vi (callDo (tabT G) ⟨6, E.run, E.a, 0, (m : Int) % 100⟩).2) Z Z (Qj (q := !(decide ((callDo (tabT G) ⟨6, E.run, E.a, 0, (m : Int) % 100⟩).2 = 0))) Z Z Z Z (Xb (v := vb (!(decide ((callDo (tabT G) ⟨6, E.run, E.a, 0, (m : Int) % 100⟩).2 = 0)))) Z Z ?_))
 rcases Yb (!(decide ((callDo (tabT G) ⟨6, E.run, E.a, 0, (m : Int) % 100⟩).2 = 0))) with ac | ac
 have dz := Jm ac
 have k0 := of_decide_eq_false dz
 iterate 4 refine Xi rfl rfl rfl ac rfl ?_
 iterate 9 refine Yq rfl rfl rfl rfl ?_
 refine Xi Z Z Z ac Z (Xo (v := vb true) Z ac Z Z (Xb (v := vb true) Z Z (Xi Z Z Z Z Z (Xi Z Z Z Z Z (Xo (v := vb true) Z Z Z Z (Xb (v := vb true) Z Z (Xi Z Z Z Z Z (Xi Z Z Z Z Z (Xo (v := vb true) Z Z Z Z (Xb (v := vb true) Z Z ?_))))))))))
 iterate 3 refine Xi rfl rfl rfl rfl rfl ?_
 iterate 7 refine Yq rfl rfl rfl rfl ?_
 exact Xi Z Z Z Z Z (Xo (v := vb true) Z Z Z Z (Xf (v := vb true) Z Z (Xc ⟨(congrArg Value.bool (by first | (simp only [ag, ai, aj, ah, ad, an, ao, aq, ar, ap, au, ac, dz, V, ab, O, b0, b1, b2, b3, b4, b5, b6, b7, b8, b9]; done) | simp [ag, ai, aj, ah, ad, an, ao, aq, ar, ap, au, ac, dz, V, ab, O])), (World.grownBy.refl _ _)⟩)))
 have az := Qu ac
 have k4 := of_decide_eq_true az
 refine Xe Z Z Z ac (Xb (v := vi (callDo (tabT J) ⟨7, E.run, E.a, 0, 0⟩).2) Z Z (Xe Z Z Z ac (Xb (v := vi ((m : Int) % 100)) Z Z (Xe Z Z Z ac (X3 (q := decide ((callDo (tabT J) ⟨7, E.run, E.a, 0, 0⟩).2 = (m : Int) % 100)) Z Z Z Z (Xe Z Z Z ac (Xb (v := vb (decide ((callDo (tabT J) ⟨7, E.run, E.a, 0, 0⟩).2 = (m : Int) % 100))) Z Z ?_)))))))
 rcases Yb (decide ((callDo (tabT J) ⟨7, E.run, E.a, 0, 0⟩).2 = (m : Int) % 100)) with ae | ae
 have k5 := of_decide_eq_true ae
 refine Xe Z Z Z ae (Xb (v := .slice dq al.length ca) Z Z (Xe Z Z Z ae (Xd (o' := 0) Yl dw Z Z (Xe Z Z Z ae ?_))))
 have fb := (ed.grown0 bn)
 refine Xh (v := vi (rAt (mAt G (E.run - 1).toNat).t.slots (E.a).toNat).th) Xz Z (fb.cell Z) Z (Xe Z Z Z ae (Ym (c := (rAt (mAt G (E.run - 1).toNat).t.slots (E.a).toNat).th - 1) Z Z (by omega) (by omega) (by omega) Z (Xe Z Z Z ae ?_)))
 obtain ⟨kj, lu, ji, fg, f9, gc⟩ := SlAt.at (TabG.at di).1 (Yk (xg al ((rAt (mAt G (E.run - 1).toNat).t.slots (E.a).toNat).th - 1).toNat))
 have jw := TabLen.at ek (xg al ((rAt (mAt G (E.run - 1).toNat).t.slots (E.a).toNat).th - 1).toNat)
 refine X0 Y6 Z Z fg f9 (by omega) (by omega) Z (Xe Z Z Z ae (Xd (o' := ji + 6) Qs Z Z Z (Xe Z Z Z ae (Xh (v := .slice (mAt al ((rAt (mAt G (E.run - 1).toNat).t.slots (E.a).toNat).th - 1).toNat).qa (mAt al ((rAt (mAt G (E.run - 1).toNat).t.slots (E.a).toNat).th - 1).toNat).t.queue.length (mAt al ((rAt (mAt G (E.run - 1).toNat).t.slots (E.a).toNat).th - 1).toNat).qc) Jr Z (gc 6 _ Z) Z (Xe Z Z Z ae (Yr (by kernel_rfl) Z Z (Xe Z Z Z ae (X3 (q := decide (((mAt al ((rAt (mAt G (E.run - 1).toNat).t.slots (E.a).toNat).th - 1).toNat).t.queue.length : Int) = 0)) Z Z Z Z (Xe Z Z Z ac (Xo (v := vb (decide (((mAt al ((rAt (mAt G (E.run - 1).toNat).t.slots (E.a).toNat).th - 1).toNat).t.queue.length : Int) = 0))) Z ae Z Z (Xn (v := vb (decide (((mAt al ((rAt (mAt G (E.run - 1).toNat).t.slots (E.a).toNat).th - 1).toNat).t.queue.length : Int) = 0))) Z ac Z Z (Xb (v := vb (decide (((mAt al ((rAt (mAt G (E.run - 1).toNat).t.slots (E.a).toNat).th - 1).toNat).t.queue.length : Int) = 0))) Z Z ?_))))))))))))
 rcases Yb (decide (((mAt al ((rAt (mAt G (E.run - 1).toNat).t.slots (E.a).toNat).th - 1).toNat).t.queue.length : Int) = 0)) with a8 | a8
 have k6 := of_decide_eq_true a8
 refine Xi Z Z Z a8 Z (Xi Z Z Z a8 Z (Xo (v := vb true) Z a8 Z Z (Xb (v := vb true) Z Z (Xi Z Z Z Z Z (Xi Z Z Z Z Z (Xo (v := vb true) Z Z Z Z (Xb (v := vb true) Z Z ?_)))))))
 iterate 3 refine Xi rfl rfl rfl rfl rfl ?_
 iterate 7 refine Yq rfl rfl rfl rfl ?_
 exact Xi Z Z Z Z Z (Xo (v := vb true) Z Z Z Z (Xf (v := vb true) Z Z (Xc ⟨(congrArg Value.bool (by first | (simp only [ag, ai, aj, ah, ad, an, ao, aq, ar, ap, au, ac, az, ae, a8, V, ab, O, b0, b1, b2, b3, b4, b5, b6, b7, b8, b9]; done) | simp [ag, ai, aj, ah, ad, an, ao, aq, ar, ap, au, ac, az, ae, a8, V, ab, O])), (World.grownBy.refl _ _)⟩)))
 have k7 := of_decide_eq_false a8
 refine Xe Z Z Z a8 (Xb (v := vi (callDo (tabT J) ⟨7, E.run, E.a, 0, 0⟩).2) Z Z (Xe Z Z Z a8 (X3 (q := decide ((callDo (tabT J) ⟨7, E.run, E.a, 0, 0⟩).2 = (-1))) Z Z Z Z (Xn (v := vb (decide ((callDo (tabT J) ⟨7, E.run, E.a, 0, 0⟩).2 = (-1)))) Z a8 Z Z (Xb (v := vb (decide ((callDo (tabT J) ⟨7, E.run, E.a, 0, 0⟩).2 = (-1)))) Z Z ?_)))))
 rcases Yb (decide ((callDo (tabT J) ⟨7, E.run, E.a, 0, 0⟩).2 = (-1))) with bb | bb
 have k8 := of_decide_eq_true bb
 refine Xi Z Z Z bb Z (Xi Z Z Z bb Z (Xo (v := vb true) Z bb Z Z (Xb (v := vb true) Z Z ?_)))
 iterate 3 refine Xi rfl rfl rfl rfl rfl ?_
 iterate 7 refine Yq rfl rfl rfl rfl ?_
 exact Xi Z Z Z Z Z (Xo (v := vb true) Z Z Z Z (Xf (v := vb true) Z Z (Xc ⟨(congrArg Value.bool (by first | (simp only [ag, ai, aj, ah, ad, an, ao, aq, ar, ap, au, ac, az, ae, a8, bb, V, ab, O, b0, b1, b2, b3, b4, b5, b6, b7, b8, b9]; done) | simp [ag, ai, aj, ah, ad, an, ao, aq, ar, ap, au, ac, az, ae, a8, bb, V, ab, O])), (World.grownBy.refl _ _)⟩)))
 have k9 := of_decide_eq_false bb
 refine Xe Z Z Z bb (Xb (v := vi (callDo (tabT J) ⟨7, E.run, E.a, 0, 0⟩).2) Z Z (Xe Z Z Z bb (X3 (q := decide ((callDo (tabT J) ⟨7, E.run, E.a, 0, 0⟩).2 = (-2))) Z Z Z Z (Xn (v := vb (decide ((callDo (tabT J) ⟨7, E.run, E.a, 0, 0⟩).2 = (-2)))) Z bb Z Z (Xb (v := vb (decide ((callDo (tabT J) ⟨7, E.run, E.a, 0, 0⟩).2 = (-2)))) Z Z ?_)))))
 rcases Yb (decide ((callDo (tabT J) ⟨7, E.run, E.a, 0, 0⟩).2 = (-2))) with a9 | a9
 have la := of_decide_eq_true a9
 iterate 3 refine Xi rfl rfl rfl a9 rfl ?_
 iterate 7 refine Yq rfl rfl rfl rfl ?_
 exact Xi Z Z Z a9 Z (Xo (v := vb true) Z a9 Z Z (Xf (v := vb true) Z Z (Xc ⟨(congrArg Value.bool (by first | (simp only [ag, ai, aj, ah, ad, an, ao, aq, ar, ap, au, ac, az, ae, a8, bb, a9, V, ab, O, b0, b1, b2, b3, b4, b5, b6, b7, b8, b9]; done) | simp [ag, ai, aj, ah, ad, an, ao, aq, ar, ap, au, ac, az, ae, a8, bb, a9, V, ab, O])), (World.grownBy.refl _ _)⟩)))
 have lc := of_decide_eq_false a9
 refine Xe Z Z Z a9 (Xb (v := vi (callDo (tabT J) ⟨7, E.run, E.a, 0, 0⟩).2) Z Z (Xe Z Z Z a9 (X3 (q := decide ((callDo (tabT J) ⟨7, E.run, E.a, 0, 0⟩).2 = (-4))) Z Z Z Z (Xe Z Z Z a9 (Xb (v := vb (decide ((callDo (tabT J) ⟨7, E.run, E.a, 0, 0⟩).2 = (-4)))) Z Z ?_)))))
 rcases Yb (decide ((callDo (tabT J) ⟨7, E.run, E.a, 0, 0⟩).2 = (-4))) with bc | bc
 have ld := of_decide_eq_true bc
 refine Xe Z Z Z bc (Xb (v := .slice (pa bf) G.length ak) dv Z (Xe Z Z Z bc (Xd (o' := 1) Y9 cn Z Z (Xe Z Z Z bc (Xh (v := vi E.run) Xz Z ((db.grown0 bn).cell Z) Z (Xe Z Z Z bc (Xd (o' := 0) Yl dw Z Z (Xe Z Z Z bc (Xh (v := vi (rAt (mAt G (E.run - 1).toNat).t.slots (E.a).toNat).th) Xz Z (fb.cell Z) Z (Xe Z Z Z bc (Xm T9 (Xg Z (Xg Z (Xg Z Xl))) Z (W4 E.run (rAt (mAt G (E.run - 1).toNat).t.slots (E.a).toNat).th (by omega) _ G _ _ (TabG.at (TabG.low (TabG.low cv cg) bn)) bh (by omega)) ?_)))))))))))
 rintro _ mp ⟨rfl, fo⟩
 exact Xe Z Z Z bc (Yj (b' := !chkSees (tabT G) E.run (rAt (mAt G (E.run - 1).toNat).t.slots (E.a).toNat).th) Z Z Z (Xe Z Z Z a9 (Xo (v := vb (!chkSees (tabT G) E.run (rAt (mAt G (E.run - 1).toNat).t.slots (E.a).toNat).th)) Z bc Z Z (Xn (v := vb (!chkSees (tabT G) E.run (rAt (mAt G (E.run - 1).toNat).t.slots (E.a).toNat).th)) Z a9 Z Z (Xf (v := vb (!chkSees (tabT G) E.run (rAt (mAt G (E.run - 1).toNat).t.slots (E.a).toNat).th)) Z Z (Xc ⟨(congrArg Value.bool (by first | (simp only [ag, ai, aj, ah, ad, an, ao, aq, ar, ap, au, ac, az, ae, a8, bb, a9, bc, V, ab, O, b0, b1, b2, b3, b4, b5, b6, b7, b8, b9]; done) | simp [ag, ai, aj, ah, ad, an, ao, aq, ar, ap, au, ac, az, ae, a8, bb, a9, bc, V, ab, O])), fo⟩))))))
 have le := of_decide_eq_false bc
 iterate 7 refine Xi rfl rfl rfl bc rfl ?_
 exact Xe Z Z Z a9 (Xn (v := vb false) Z bc Z Z (Xn (v := vb false) Z a9 Z Z (Xf (v := vb false) Z Z (Xc ⟨(congrArg Value.bool (by first | (simp only [ag, ai, aj, ah, ad, an, ao, aq, ar, ap, au, ac, az, ae, a8, bb, a9, bc, V, ab, O, b0, b1, b2, b3, b4, b5, b6, b7, b8, b9]; done) | simp [ag, ai, aj, ah, ad, an, ao, aq, ar, ap, au, ac, az, ae, a8, bb, a9, bc, V, ab, O])), (World.grownBy.refl _ _)⟩))))
 have lf := of_decide_eq_false ae
 iterate 9 refine Xi rfl rfl rfl ae rfl ?_
 refine Xe Z Z Z ac (Xn (v := vb false) Z ae Z Z (Xn (v := vb false) Z ac Z Z (Xb (v := vb false) Z Z (Xe Z Z Z Z (Xb (v := vi (callDo (tabT J) ⟨7, E.run, E.a, 0, 0⟩).2) Z Z (Xe Z Z Z Z (X3 (q := decide ((callDo (tabT J) ⟨7, E.run, E.a, 0, 0⟩).2 = (-1))) Z Z Z Z (Xn (v := vb (decide ((callDo (tabT J) ⟨7, E.run, E.a, 0, 0⟩).2 = (-1)))) Z Z Z Z (Xb (v := vb (decide ((callDo (tabT J) ⟨7, E.run, E.a, 0, 0⟩).2 = (-1)))) Z Z ?_)))))))))
 rcases Yb (decide ((callDo (tabT J) ⟨7, E.run, E.a, 0, 0⟩).2 = (-1))) with bd | bd
 have lg := of_decide_eq_true bd
 refine Xi Z Z Z bd Z (Xi Z Z Z bd Z (Xo (v := vb true) Z bd Z Z (Xb (v := vb true) Z Z ?_)))
 iterate 3 refine Xi rfl rfl rfl rfl rfl ?_
 iterate 7 refine Yq rfl rfl rfl rfl ?_
 exact Xi Z Z Z Z Z (Xo (v := vb true) Z Z Z Z (Xf (v := vb true) Z Z (Xc ⟨(congrArg Value.bool (by first | (simp only [ag, ai, aj, ah, ad, an, ao, aq, ar, ap, au, ac, az, ae, bd, V, ab, O, b0, b1, b2, b3, b4, b5, b6, b7, b8, b9]; done) | simp [ag, ai, aj, ah, ad, an, ao, aq, ar, ap, au, ac, az, ae, bd, V, ab, O])), (World.grownBy.refl _ _)⟩)))
 have lh := of_decide_eq_false bd
 refine Xe Z Z Z bd (Xb (v := vi (callDo (tabT J) ⟨7, E.run, E.a, 0, 0⟩).2) Z Z (Xe Z Z Z bd (X3 (q := decide ((callDo (tabT J) ⟨7, E.run, E.a, 0, 0⟩).2 = (-2))) Z Z Z Z (Xn (v := vb (decide ((callDo (tabT J) ⟨7, E.run, E.a, 0, 0⟩).2 = (-2)))) Z bd Z Z (Xb (v := vb (decide ((callDo (tabT J) ⟨7, E.run, E.a, 0, 0⟩).2 = (-2)))) Z Z ?_)))))
 rcases Yb (decide ((callDo (tabT J) ⟨7, E.run, E.a, 0, 0⟩).2 = (-2))) with ba | ba
 have li := of_decide_eq_true ba
 iterate 3 refine Xi rfl rfl rfl ba rfl ?_
 iterate 7 refine Yq rfl rfl rfl rfl ?_
 exact Xi Z Z Z ba Z (Xo (v := vb true) Z ba Z Z (Xf (v := vb true) Z Z (Xc ⟨(congrArg Value.bool (by first | (simp only [ag, ai, aj, ah, ad, an, ao, aq, ar, ap, au, ac, az, ae, bd, ba, V, ab, O, b0, b1, b2, b3, b4, b5, b6, b7, b8, b9]; done) | simp [ag, ai, aj, ah, ad, an, ao, aq, ar, ap, au, ac, az, ae, bd, ba, V, ab, O])), (World.grownBy.refl _ _)⟩)))
 have lj := of_decide_eq_false ba
 refine Xe Z Z Z ba (Xb (v := vi (callDo (tabT J) ⟨7, E.run, E.a, 0, 0⟩).2) Z Z (Xe Z Z Z ba (X3 (q := decide ((callDo (tabT J) ⟨7, E.run, E.a, 0, 0⟩).2 = (-4))) Z Z Z Z (Xe Z Z Z ba (Xb (v := vb (decide ((callDo (tabT J) ⟨7, E.run, E.a, 0, 0⟩).2 = (-4)))) Z Z ?_)))))
 rcases Yb (decide ((callDo (tabT J) ⟨7, E.run, E.a, 0, 0⟩).2 = (-4))) with be | be
 have lk := of_decide_eq_true be
 refine Xe Z Z Z be (Xb (v := .slice (pa bf) G.length ak) dv Z (Xe Z Z Z be (Xd (o' := 1) Y9 cn Z Z (Xe Z Z Z be (Xh (v := vi E.run) Xz Z ((db.grown0 bn).cell Z) Z (Xe Z Z Z be (Xd (o' := 0) Yl dw Z Z (Xe Z Z Z be (Xh (v := vi (rAt (mAt G (E.run - 1).toNat).t.slots (E.a).toNat).th) Xz Z ((ed.grown0 bn).cell Z) Z (Xe Z Z Z be (Xm T9 (Xg Z (Xg Z (Xg Z Xl))) Z (W4 E.run (rAt (mAt G (E.run - 1).toNat).t.slots (E.a).toNat).th (by omega) _ G _ _ (TabG.at (TabG.low (TabG.low cv cg) bn)) bh (by omega)) ?_)))))))))))
 rintro _ mq ⟨rfl, fp⟩
 exact Xe Z Z Z be (Yj (b' := !chkSees (tabT G) E.run (rAt (mAt G (E.run - 1).toNat).t.slots (E.a).toNat).th) Z Z Z (Xe Z Z Z ba (Xo (v := vb (!chkSees (tabT G) E.run (rAt (mAt G (E.run - 1).toNat).t.slots (E.a).toNat).th)) Z be Z Z (Xn (v := vb (!chkSees (tabT G) E.run (rAt (mAt G (E.run - 1).toNat).t.slots (E.a).toNat).th)) Z ba Z Z (Xf (v := vb (!chkSees (tabT G) E.run (rAt (mAt G (E.run - 1).toNat).t.slots (E.a).toNat).th)) Z Z (Xc ⟨(congrArg Value.bool (by first | (simp only [ag, ai, aj, ah, ad, an, ao, aq, ar, ap, au, ac, az, ae, bd, ba, be, V, ab, O, b0, b1, b2, b3, b4, b5, b6, b7, b8, b9]; done) | simp [ag, ai, aj, ah, ad, an, ao, aq, ar, ap, au, ac, az, ae, bd, ba, be, V, ab, O])), fp⟩))))))
 have ll := of_decide_eq_false be
 iterate 7 refine Xi rfl rfl rfl be rfl ?_
 exact Xe Z Z Z ba (Xn (v := vb false) Z be Z Z (Xn (v := vb false) Z ba Z Z (Xf (v := vb false) Z Z (Xc ⟨(congrArg Value.bool (by first | (simp only [ag, ai, aj, ah, ad, an, ao, aq, ar, ap, au, ac, az, ae, bd, ba, be, V, ab, O, b0, b1, b2, b3, b4, b5, b6, b7, b8, b9]; done) | simp [ag, ai, aj, ah, ad, an, ao, aq, ar, ap, au, ac, az, ae, bd, ba, be, V, ab, O])), (World.grownBy.refl _ _)⟩))))
 rintro kn mr ⟨i7, fq⟩
 refine Xt (⟨vb (((((!(decide ((callDo (tabT G) ⟨6, E.run, E.a, 0, (m : Int) % 100⟩).2 = 0))) || ((decide ((callDo (tabT J) ⟨7, E.run, E.a, 0, 0⟩).2 = (m : Int) % 100)) && (decide (((mAt al ((rAt (mAt G (E.run - 1).toNat).t.slots (E.a).toNat).th - 1).toNat).t.queue.length : Int) = 0)))) || (decide ((callDo (tabT J) ⟨7, E.run, E.a, 0, 0⟩).2 = (-1)))) || (decide ((callDo (tabT J) ⟨7, E.run, E.a, 0, 0⟩).2 = (-2)))) || ((decide ((callDo (tabT J) ⟨7, E.run, E.a, 0, 0⟩).2 = (-4))) && (!chkSees (tabT G) E.run (rAt (mAt G (E.run - 1).toNat).t.slots (E.a).toNat).th))), Yx Z i7, ?_, (low0 (low0 d4 bn) fq)⟩)
 exact congrArg Value.bool (F2 ep)
end Go.Proofs.YtlhhijnmacogcaaGreatDoor
end
