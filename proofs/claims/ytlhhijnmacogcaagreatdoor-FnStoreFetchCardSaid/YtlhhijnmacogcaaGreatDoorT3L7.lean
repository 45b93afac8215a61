/- Laws and walks: my templates, and what a program of mine (gen.py) printed out of the functions; only what the row reaches. -/
import Derived.Test.YtlhhijnmacogcaaGreatDoorT35
section
namespace Go.Dw
set_option linter.unusedVariables false
set_option linter.unusedSimpArgs false
section
variable {ts : List Th} {q : Cl}
theorem G8 (hp : callPoss ts q = true) (h : 0 ≤ doAns ts q) : check1 ts q = 0 := by
  have hr := Kl ts q
  by_cases h0 : check1 ts q < 0
  · have := (Ve h0).1
    omega
  · omega
theorem R3 (hp : callPoss ts q = true) (h0 : check1 ts q = 0) (h3 : ¬ q.kind = 3) : (1 ≤ (slotAt ts q.run q.a).th ∧ (slotAt ts q.run q.a).th ≤ (ts.length : Int)) ∧ kindFor q.kind (thAt ts (slotAt ts q.run q.a).th).kind = true ∧ (need0 q.kind = true → sees ts q.run (slotAt ts q.run q.a).th = true) := by
  have e := Qz hp
  have h := Hs (ts := ts) (q := q) (by omega) h3
  exact ⟨h.1, h.2.1, (Lp (ts := ts) (q := q) (by omega) (by omega) h3).1⟩
theorem K0 (hp : callPoss ts q = true) (h0 : check1 ts q = 0) (h3 : ¬ q.kind = 3) : FarOk ts q (slotAt ts q.run q.a) := by
  have h := R3 hp h0 h3
  obtain ⟨hT, hc, hr⟩ := Yd hp
  exact ⟨hT, hc, hr, h.1, h.2.1, h3⟩
theorem T0 (hp : callPoss ts q = true) {j : Int} (hj : 1 ≤ j) (hne : ¬ j = q.run) : thAt (doCall ts q).1 j = thAt (doPre ts q) j := by
  rw [Kn]
  unfold setNum
  rw [Jf (To hp) j hj, if_neg hne]
theorem S5 (hp : callPoss ts q = true) : thAt (doCall ts q).1 q.run = { thAt (doPre ts q) q.run with num := doAns ts q } := by
  rw [Kn]
  unfold setNum
  rw [Jf (To hp) q.run (To hp).1, if_pos rfl]
theorem Pg (hp : callPoss ts q = true) (h0 : check1 ts q = 0) (h3 : ¬ q.kind = 3) : ¬ (slotAt ts q.run q.a).th = q.run := fun e => by
  have h := R3 hp h0 h3
  have hr := (Qq (Yd hp).2.2).2
  have hc := Yw (Yd hp).2.1
  have hk := Q5 h.2.1 hc.1
  rw [e, hr] at hk
  omega
theorem Ha (hp : callPoss ts q = true) (h4 : q.kind = 4) (ha : 0 ≤ doAns ts q) : doAns ts q = 0 ∧ (1 ≤ (slotAt ts q.run q.a).th ∧ (slotAt ts q.run q.a).th ≤ (ts.length : Int)) ∧ (thAt ts (slotAt ts q.run q.a).th).kind = 2 ∧ thAt (doCall ts q).1 (slotAt ts q.run q.a).th = thAt ts (slotAt ts q.run q.a).th ∧ slotAt (doCall ts q).1 q.run q.b = fetched (slotAt ts (slotAt ts q.run q.a).th (q.n % 4)) (slotAt ts q.run q.a).wk := by
  have h3 : ¬ q.kind = 3 := by omega
  have h0 := G8 hp ha
  have hF := K0 hp h0 h3
  have hfd := R3 hp h0 h3
  have hc := Yw (Yd hp).2.1
  have hrun := Qq (Yd hp).2.2
  have e := Qz hp
  have hs := hfd.2.2 (by unfold need0; rw [if_pos (Or.inr h4)])
  have hl := W5 (ts := ts) (q := q) (by omega) h3 hs
  have hne := Pg hp h0 h3
  have h := Vl rfl h0 h3 hl hF
  have hf : far ts q (slotAt ts q.run q.a) = (putSl ts q.run q.b (fetched (slotAt ts (slotAt ts q.run q.a).th (q.n % 4)) (slotAt ts q.run q.a).wk), 0) := by
    unfold far
    rw [if_neg (by omega), if_neg (by omega), if_pos h4]
  rw [hf] at h
  refine ⟨by rw [h.1]; split <;> rfl, hF.th, (Q5 hfd.2.1 hc.1).2.2.1 h4, ?_, ?_⟩
  · rw [T0 hp hF.th.1 hne, h.2]
    show thAt (setTh ts _ _) _ = _
    rw [Jf hrun.1 _ hF.th.1, if_neg hne]
  · have h4s := Uv (Vk (Yd hp).1 hrun.1).1 (Or.inr hrun.2)
    unfold slotAt
    rw [S5 hp, h.2]
    show rAt (thAt (setTh ts _ _) q.run).slots q.b.toNat = _
    rw [Jf hrun.1 _ hrun.1.1, if_pos rfl]
    show rAt ((thAt ts q.run).slots.set q.b.toNat _) q.b.toNat = _
    unfold rAt
    rw [List.getD_eq_getElem?_getD, List.getElem?_set, if_pos rfl, if_pos (by omega)]
    rfl
theorem Mz {r : Rt} : fetched r false = r := by
  unfold fetched
  rw [if_neg Bool.false_ne_true]
theorem Cs (hp : callPoss ts q = true) (h5 : q.kind = 5) (ha : 0 ≤ doAns ts q) : doAns ts q = 0 ∧ (1 ≤ (slotAt ts q.run q.a).th ∧ (slotAt ts q.run q.a).th ≤ (ts.length : Int)) ∧ (thAt ts (slotAt ts q.run q.a).th).kind = 2 ∧ (live ts (slotAt ts q.run q.a) = false → thAt (doCall ts q).1 (slotAt ts q.run q.a).th = thAt ts (slotAt ts q.run q.a).th) ∧ (live ts (slotAt ts q.run q.a) = true → (thAt (doCall ts q).1 (slotAt ts q.run q.a).th).slots = (thAt ts (slotAt ts q.run q.a).th).slots.set (q.n % 4).toNat (slotAt ts q.run q.b)) ∧ (thAt (doCall ts q).1 q.run).slots = (thAt ts q.run).slots := by
  have h3 : ¬ q.kind = 3 := by omega
  have h0 := G8 hp ha
  have hF := K0 hp h0 h3
  have hfd := R3 hp h0 h3
  have hrun := Qq hF.run
  have hne := Pg hp h0 h3
  have hk := (Q5 hfd.2.1 (Yw hF.call).1).2.2.2.1 h5
  rw [T0 hp hF.th.1 hne, S5 hp]
  cases hl : live ts (slotAt ts q.run q.a) with
  | false => rw [(Uw h0 h3 hl).1, (Uw h0 h3 hl).2]; exact ⟨rfl, hF.th, hk, fun _ => rfl, (fun h => absurd h (by decide)), rfl⟩
  | true =>
    have h := Vl rfl h0 h3 hl hF
    have hf : far ts q (slotAt ts q.run q.a) = (putSl ts (slotAt ts q.run q.a).th (q.n % 4) (slotAt ts q.run q.b), 0) := by
      unfold far
      rw [if_neg (by omega), if_neg (by omega), if_neg (by omega), if_pos h5]
    rw [hf] at h
    rw [h.1, h.2]
    refine ⟨by split <;> rfl, hF.th, hk, (fun h => absurd h (by decide)), fun _ => ?_, ?_⟩
    · show (thAt (setTh ts _ _) _).slots = _
      rw [Jf hF.th _ hF.th.1, if_pos rfl]
    · show (thAt (setTh ts _ _) _).slots = _
      rw [Jf hF.th _ hrun.1.1, if_neg (Ne.symm hne)]
theorem Kz (k n : Int) : (setNum ts k n).length = ts.length := Q7
theorem Sf (hp : callPoss ts q = true) : callPoss (doCall ts q).1 q = true := by
  obtain ⟨hT, hc, hr⟩ := Yd hp
  have h := Wc hp
  have hr := Qq hr
  unfold callPoss
  rw [h.1, hc, M3 (by rw [h.2.1]; exact hr.1) ((h.2.2 _ hr.1.1).trans hr.2)]
  rfl
def Kept (n : Int) (a b : Th) : Prop := (a.kind = 1 → b.num = a.num ∨ b.num = 0 ∨ b.num = n ∨ b.num = n % 2) ∧ ∀ v ∈ b.queue, v = n ∨ v ∈ a.queue
theorem Kept.refl (n : Int) (a : Th) : Kept n a a := ⟨fun _ => Or.inl rfl, fun _ h => Or.inr h⟩
section
variable {ms xs : List MTh}
theorem Wo (hp : callPoss (tabT ms) q = true) : (callDo (tabT ms) q).2 = doAns (tabT ms) q := by rw [Jb hp, Rz]
theorem Kr (ht : tabT xs = (callDo (tabT ms) q).1) (hp : callPoss (tabT ms) q = true) : (mAt xs (q.run - 1).toNat).t.slots.length = 4 := by
  have h := Sf hp
  have h2 := (Yd h)
  rw [← Jb hp, ← ht] at h2
  exact Qt h2.1 h2.2.2
theorem Dt (hp : callPoss (tabT ms) q = true) : tabLive (tabT ms) (rAt (mAt ms (q.run - 1).toNat).t.slots q.a.toNat) = live (tabT ms) (slotAt (tabT ms) q.run q.a) := by
  obtain ⟨hT, hc, hr⟩ := Yd hp
  rw [Qy, Ts hT hr]
theorem Zc {l : List Rt} {j k : Nat} {r : Rt} (hk : k < l.length) : rAt (l.set j r) k = if k = j then r else rAt l k := by
  unfold rAt
  rw [List.getD_eq_getElem?_getD, List.getD_eq_getElem?_getD, List.getElem?_set]
  split
  · rename_i e; subst e; rw [if_pos rfl, if_pos hk]; rfl
  · rename_i e; rw [if_neg (Ne.symm e)]
end
end
end Go.Dw
end
section
namespace Go.Dw
set_option linter.unusedVariables false
set_option linter.unusedSimpArgs false
def RowsA (w : World) (l : List MTh) : Prop := ∀ m ∈ l, ThAt w m
theorem RowsA.set {w : World} {l : List MTh} {i : Nat} {m : MTh} (h : RowsA w l) (hi : i < l.length) (e : m.sa = (mAt l i).sa ∧ m.sc = (mAt l i).sc ∧ m.qa = (mAt l i).qa ∧ m.qc = (mAt l i).qc ∧ m.t.slots = (mAt l i).t.slots ∧ m.t.queue = (mAt l i).t.queue) : RowsA w (l.set i m) := fun x hx => by
  rcases List.mem_or_eq_of_mem_set hx with h1 | rfl
  · exact h x h1
  · have := h _ (List.mem_of_getElem? (Jw hi))
    unfold ThAt at this ⊢
    rw [e.1, e.2.1, e.2.2.1, e.2.2.2.1, e.2.2.2.2.1, e.2.2.2.2.2]
    exact this
section
variable {ms xs : List MTh} {q : Cl}
end
end Go.Dw
end
section
namespace Go.Dw
set_option linter.unusedVariables false
set_option linter.unusedSimpArgs false
section
variable {ts us : List Th} {q p : Cl}
theorem Kk {k run a b n : Int} (h : (1 ≤ k ∧ k ≤ 9) ∧ (1 ≤ run ∧ run ≤ 8) ∧ (0 ≤ a ∧ a ≤ 3) ∧ (0 ≤ b ∧ b ≤ 3) ∧ 0 ≤ n ∧ n ≤ 99) : callOk ⟨k, run, a, b, n⟩ = true := by
  unfold callOk
  simp only [Bool.and_eq_true]
  exact ⟨⟨⟨⟨Qh.2 h.1, Qh.2 h.2.1⟩, Qh.2 h.2.2.1⟩, Qh.2 h.2.2.2.1⟩, Qh.2 h.2.2.2.2⟩
theorem Vo (hp : callPoss ts q = true) (hc : callOk p = true) (hr : p.run = q.run) : callPoss ts p = true := by
  obtain ⟨hT, _, hk⟩ := Yd hp
  unfold callPoss
  rw [hT, hc, hr, hk]
  rfl
theorem Wu (hp : callPoss ts q = true) (hc : callOk p = true) (hr : p.run = q.run) : callPoss (doCall ts q).1 p = true := Vo (Sf hp) hc hr
theorem Jg {k n : Int} (hk : 1 ≤ k ∧ k ≤ (ts.length : Int)) (j : Int) (hj : 1 ≤ j) : thAt (setNum ts k n) j = if j = k then { thAt ts k with num := n } else thAt ts j := by
  unfold setNum
  exact Jf hk j hj
end
end Go.Dw
end
section
namespace Go.Dw
set_option linter.unusedVariables false
set_option linter.unusedSimpArgs false
section
variable {ts : List Th} {q p : Cl}
theorem Cp {r : Rt} (hr : slotAt ts q.run q.a = r) (h0 : ¬ r.th = 0) (hk : kindFor q.kind (thAt ts r.th).kind = true) (hrd : r.rd = true) (hwr : r.wr = true) (hs : sees ts q.run r.th = true) (ht : touches ts q.run r.th = true) (hl : live ts r = true) : check1 ts q = 0 := by
  unfold check1 chk1 chk2 chk3
  rw [hr, hk, hrd, hwr, hs, ht, hl, decide_eq_false h0]
  simp
structure Free (us : List Th) (run a : Int) (r : Rt) (kd : Int) : Prop where
  slot : slotAt us run a = r
  nz : ¬ r.th = 0
  kind : (thAt us r.th).kind = kd
  rd : r.rd = true
  wr : r.wr = true
  sees : sees us run r.th = true
  touches : touches us run r.th = true
  live : live us r = true
theorem Nw (l : Lab) (h : labelOk l = true) : flow l l = true := by
  unfold flow l1In
  simp
theorem Free.check {us : List Th} {run a kd : Int} {r : Rt} (h : Free us run a r kd) (hr : p.run = run) (ha : p.a = a) (hk : kindFor p.kind kd = true) : check1 us p = 0 :=
  Cp (r := r) (by rw [hr, ha]; exact h.slot) h.nz (by rw [h.kind]; exact hk) h.rd h.wr (by rw [hr]; exact h.sees) (by rw [hr]; exact h.touches) h.live
theorem Free.next {us vs : List Th} {run a kd : Int} {r : Rt} (h : Free us run a r kd) (hn : vs.length = us.length) (hs : (thAt vs run).slots = (thAt us run).slots) (hlr : (thAt vs run).lab = (thAt us run).lab) (ht : (thAt vs r.th).kind = (thAt us r.th).kind ∧ (thAt vs r.th).lab = (thAt us r.th).lab ∧ (thAt vs r.th).ve = (thAt us r.th).ve) : Free vs run a r kd := by
  refine ⟨?_, h.nz, ht.1.trans h.kind, h.rd, h.wr, ?_, ?_, ?_⟩
  · unfold slotAt; rw [hs]; exact h.slot
  · have := h.sees; unfold Go.Dw.sees at this ⊢; rw [ht.2.1, hlr]; exact this
  · have := h.touches; unfold Go.Dw.touches at this ⊢; rw [ht.2.1, hlr]; exact this
  · have := h.live; unfold Go.Dw.live at this ⊢; rw [ht.2.2, hn]; exact this
theorem Free.far {us : List Th} {a kd : Int} {r : Rt} (hp : callPoss us p = true) (h : Free us p.run a r kd) (ha : p.a = a) (hk : kindFor p.kind kd = true) (h3 : ¬ p.kind = 3) : FarOk us p r ∧ doAns us p = (Go.Dw.far us p r).2 ∧ (doCall us p).1 = setNum (Go.Dw.far us p r).1 p.run (Go.Dw.far us p r).2 := by
  have h0 := h.check rfl ha hk
  have hs : slotAt us p.run p.a = r := by rw [ha]; exact h.slot
  have hF := K0 hp h0 h3
  rw [hs] at hF
  have hx := Vl hs h0 h3 h.live hF
  rw [if_pos h.sees] at hx
  exact ⟨hF, hx.1, by rw [Kn, hx.1, hx.2]⟩
end
section
variable {ms xs ys zs us : List MTh} {q p s t : Cl}
theorem Vp (ht : tabT xs = (callDo (tabT ms) q).1) (hp : callPoss (tabT ms) q = true) (hc : callOk p = true) (hr : p.run = q.run) : callPoss (tabT xs) p = true := by rw [ht, Jb hp]; exact Wu hp hc hr
theorem Ku (ht : tabT xs = (callDo (tabT ms) q).1) (hp : callPoss (tabT ms) q = true) : tabT xs = (doCall (tabT ms) q).1 := by rw [ht, Jb hp]
theorem C3 {kd : Int} (hp : callPoss (tabT ms) q = true) (h0 : ¬ (rAt (mAt ms (q.run - 1).toNat).t.slots q.a.toNat).th = 0) (hk : (mAt ms ((rAt (mAt ms (q.run - 1).toNat).t.slots q.a.toNat).th - 1).toNat).t.kind = kd) (hrd : (rAt (mAt ms (q.run - 1).toNat).t.slots q.a.toNat).rd = true) (hwr : (rAt (mAt ms (q.run - 1).toNat).t.slots q.a.toNat).wr = true)
    (hlb : (mAt ms ((rAt (mAt ms (q.run - 1).toNat).t.slots q.a.toNat).th - 1).toNat).t.lab = (mAt ms (q.run - 1).toNat).t.lab) (hl : tabLive (tabT ms) (rAt (mAt ms (q.run - 1).toNat).t.slots q.a.toNat) = true) : Free (tabT ms) q.run q.a (rAt (mAt ms (q.run - 1).toNat).t.slots q.a.toNat) kd := by
  obtain ⟨hT, _, hr⟩ := Yd hp
  have hrun := Qq hr
  rw [Dt hp] at hl
  have hok := (Qv (Vk hT hrun.1).1).2.1
  refine ⟨Qy.symm, h0, by rw [← Qo]; exact hk, hrd, hwr, ?_, ?_, by rw [Qy]; exact hl⟩
  · rw [← Tq, hlb]; exact Nw _ (by rw [Qo]; exact hok)
  · rw [← Hx, hlb]; exact Nw _ (by rw [Qo]; exact hok)
theorem P6 {r : Rt} (hf : Free (tabT ms) q.run q.a r 2) (h1 : callPoss (tabT ms) p = true) (e1 : p.run = q.run) (a1 : p.a = q.a) (k1 : p.kind = 5) (ht1 : tabT xs = (callDo (tabT ms) p).1) (h2 : callPoss (tabT xs) s = true) (e2 : s.run = q.run) (a2 : s.a = q.a) (k2 : s.kind = 4) (hn : s.n = p.n) (ht2 : tabT ys = (callDo (tabT xs) s).1) :
    (callDo (tabT ms) p).2 = 0 ∧ (callDo (tabT xs) s).2 = 0 ∧ rAt (mAt ys (q.run - 1).toNat).t.slots s.b.toNat = rAt (mAt ms (q.run - 1).toNat).t.slots p.b.toNat := by
  have hf1 : Free (tabT ms) p.run p.a r 2 := by rw [e1, a1]; exact hf
  obtain ⟨hF, hA, hX⟩ := Free.far h1 hf1 rfl (by unfold kindFor; rw [k1]; rfl) (by omega)
  have hrun := Qq hF.run
  have hne : ¬ r.th = p.run := fun e => by have := hf.kind; rw [e, hrun.2] at this; exact absurd this (by decide)
  have hfr : far (tabT ms) p r = (putSl (tabT ms) r.th (p.n % 4) (slotAt (tabT ms) p.run p.b), 0) := by
    unfold far
    rw [if_neg (by omega), if_neg (by omega), if_neg (by omega), if_pos k1]
  rw [hfr] at hA hX
  dsimp only at hA hX
  have hz : doAns (tabT ms) p = 0 := hA
  have hw := Cs h1 k1 (by omega)
  have hs1 : slotAt (tabT ms) p.run p.a = r := hf1.slot
  rw [hs1] at hw
  have hst := hw.2.2.2.2.1 hf.live
  have hl1 : ((putSl (tabT ms) r.th (p.n % 4) (slotAt (tabT ms) p.run p.b)).length : Int) = (tabT ms).length := by unfold putSl; rw [Q7]
  have x1 : thAt (tabT xs) p.run = { thAt (tabT ms) p.run with num := 0 } := by
    rw [Ku ht1 h1, hX, Jg (by omega) _ hrun.1.1, if_pos rfl]
    show ({ thAt (setTh _ _ _) p.run with num := 0 } : Th) = _
    rw [Jf hF.th _ hrun.1.1, if_neg (Ne.symm hne)]
  have x2 : thAt (tabT xs) r.th = { thAt (tabT ms) r.th with slots := (thAt (tabT ms) r.th).slots.set (p.n % 4).toNat (slotAt (tabT ms) p.run p.b) } := by
    rw [Ku ht1 h1, hX, Jg (by omega) _ hF.th.1, if_neg hne]
    show thAt (setTh _ _ _) r.th = _
    rw [Jf hF.th _ hF.th.1, if_pos rfl]
  have hf2 : Free (tabT xs) q.run q.a r 2 := by
    refine hf.next (by rw [Ku ht1 h1, hX, Kz]; unfold putSl; rw [Q7]) (by rw [← e1, x1]) (by rw [← e1, x1]) (by rw [x2]; exact ⟨rfl, rfl, rfl⟩)
  have hf2' : Free (tabT xs) s.run s.a r 2 := by rw [e2, a2]; exact hf2
  obtain ⟨hF2, hA2, _⟩ := Free.far h2 hf2' rfl (by unfold kindFor; rw [k2]; rfl) (by omega)
  have hfr2 : far (tabT xs) s r = (putSl (tabT xs) s.run s.b (fetched (slotAt (tabT xs) r.th (s.n % 4)) r.wk), 0) := by
    unfold far
    rw [if_neg (by omega), if_neg (by omega), if_pos k2]
  rw [hfr2] at hA2
  have hz2 : doAns (tabT xs) s = 0 := hA2
  have hw2 := Ha h2 k2 (by omega)
  have hs2 : slotAt (tabT xs) s.run s.a = r := hf2'.slot
  rw [hs2] at hw2
  have hwk : r.wk = false := by
    have := (Vb (Yd h1).1 hrun.1 p.a).1
    rw [hs1] at this
    unfold rightOk at this
    rw [hf.wr] at this
    simp only [Bool.or_eq_true, Bool.and_eq_true, decide_eq_true_eq] at this
    rcases this with h | h
    · exact absurd (congrArg Rt.th h) hf.nz
    · simpa using h.2
  have h4 := Uv (Vk (Yd h1).1 hF.th).1 (Or.inl hf.kind)
  rw [Wo h1, Wo h2]
  refine ⟨hz, hz2, ?_⟩
  rw [← e2, Qy, Ku ht2 h2, hw2.2.2.2.2, hwk, Mz, hn]
  show rAt (thAt (tabT xs) r.th).slots _ = _
  rw [x2]
  show rAt ((thAt (tabT ms) r.th).slots.set _ _) _ = _
  rw [Zc (by omega), if_pos rfl, e2, ← e1, Qy]
end
end Go.Dw
end
section
namespace Go.Proofs.YtlhhijnmacogcaaGreatDoor
open Go.RowKit Go.Dw
set_option maxRecDepth 100000
set_option maxHeartbeats 4000000
set_option linter.unusedSimpArgs false
set_option linter.unusedVariables false
theorem Ug : goFn Tryz.prog 15 = true := by kernel_rfl
theorem Uh : goFn Tryz.prog 16 = true := by kernel_rfl
theorem Ks : goFn Tryz.prog 17 = true := by kernel_rfl
theorem K6 : goFn Tryz.prog 18 = true := by kernel_rfl
theorem Ui : goFn Tryz.prog 19 = true := by kernel_rfl
theorem Db : goFn Tryz.prog 20 = true := by kernel_rfl
theorem law_FnStoreFetch (bs : List Int) (a : Option Addr) (c : Nat) (w : World) (nu : SlAt w a 1 (bs.map bcell)) (hb : ∀ b ∈ bs, 0 ≤ b ∧ b ≤ 255) (hn : bs.length ≤ 9223372036854775807) (hc : bs.length ≤ c) (m : Nat) (a2 : Option Addr) (c2 : Nat) (hm : m ≤ 9223372036854775807) (hE : ErrT w) : CallsR Tryz.prog 4 #[.slice a bs.length c, .slice a2 m c2] w (fun v w' => v = .bool true ∧ w.grownBy w' none) := by
 refine Xw (n := 176) Tryz.func4 Z Tryz.ntmps4 Z ?_
 have jz := World.grownBy.refl w none
 have hs := SlAt.lt Kh (by omega) nu
 refine Xa (Xf (v := vb false) Z Z (Xc (Xs (X8 (fun f' w' => (f' 0 = .slice a bs.length c ∧ f' 1 = .slice a2 m c2 ∧ f' 4 = vb false ∧ f' 25 = vb ((decide (1048576 < (bs.length : Int))) || (decide (1048576 < (m : Int))))) ∧ w = w') ?_ ?_))))
 refine Xb (v := .slice a bs.length c) Z Z (Yr (by kernel_rfl) Z Z (Qw (q := decide (1048576 < (bs.length : Int))) Z Z Z Z (Xb (v := vb (decide (1048576 < (bs.length : Int)))) Z Z ?_)))
 rcases Yb (decide (1048576 < (bs.length : Int))) with bb | bb
 have px := of_decide_eq_true bb
 iterate 3 refine Xi rfl rfl rfl bb rfl ?_
 exact Xo (v := vb true) Z bb Z Z (Xc ⟨⟨Z, Z, Z, (congrArg Value.bool (by first | (simp only [bb, b0, b1, b2, b3, b4, b5, b6, b7, b8, b9]; done) | simp [bb]))⟩, Z⟩)
 have py := of_decide_eq_false bb
 exact Xe Z Z Z bb (Xb (v := .slice a2 m c2) Z Z (Xe Z Z Z bb (Yr (by kernel_rfl) Z Z (Xe Z Z Z bb (Qw (q := decide (1048576 < (m : Int))) Z Z Z Z (Xn (v := vb (decide (1048576 < (m : Int)))) Z bb Z Z (Xc ⟨⟨Z, Z, Z, (congrArg Value.bool (by first | (simp only [bb, b0, b1, b2, b3, b4, b5, b6, b7, b8, b9]; done) | simp [bb]))⟩, Z⟩)))))))
 rintro pw qk ⟨⟨k7, k8, k9, la⟩, rfl⟩
 refine X2 la (fun az => ?_) (fun az => ?_)
 refine Xa (Xf (v := vb true) Z Z (Xc (Xt (Yo (⟨vb true, Yx Z Z, ?_, jz⟩)))))
 rfl
 have bc := J3 az
 have pz := of_decide_eq_false bc
 have bd := J4 az
 have p0 := of_decide_eq_false bd
 refine Xy (Xv (Xa (Xb (v := .slice a bs.length c) k7 Z (Xm Ug (Xg Z Xl) Z (Kp bs a c _ (SlAt.low nu jz) hb (by omega) (by omega)) ?_))))
 rintro _ qm ⟨ag, ab, G, E, rfl, cd, ga, oa, pb, j1⟩
 have fb := low0 jz j1
 have aj := ga.len
 refine Xb (v := .tuple #[.slice (pa ag) G.length ab, .agg #[vi E.kind, vi E.run, vi E.a, vi E.b, vi E.n]]) Z Z (X1 (v := .slice (pa ag) G.length ab) Z Z Z (X1 (v := .agg #[vi E.kind, vi E.run, vi E.a, vi E.b, vi E.n]) Z Z Z (Yf (cs := #[vi 0, vi 0, vi 0, vi 0, vi 0]) Wa Z Z ?_)))
 intro bz qn a9
 have od := Yi a9 fb
 refine Xf (v := .slice (pa ag) G.length ab) Z Z (Xx (vs := [vi E.kind, vi E.run, vi E.a, vi E.b, vi E.n]) (cs' := #[vi E.kind, vi E.run, vi E.a, vi E.b, vi E.n]) Y1 Z Z Z (by simp [Value.oneCell']) a9.blk (Nat.le_of_ble_eq_true Z) Z ?_)
 intro qo bf
 refine Xc (Xa (Xb (v := .slice (pa ag) G.length ab) Z Z (Xq (vs := [vi E.kind, vi E.run, vi E.a, vi E.b, vi E.n]) Y1 Z Z (bf.blk.rangeL 0 5 Z) Z ?_)))
 have oo := (bf.blk).lt
 refine Xm Uh (Xg Z (Xg Z Xl)) Z (Vr E _ G _ _ (TabG.at (TabG.low cd (low1 a9.grw bf.grw (nt ((World.grownBy.refl _ none)).size (Nat.le_of_eq a9.eq.symm))))) aj (by omega)) ?_
 rintro _ qp ⟨dp, bl, bj, rfl, fy, co, cl⟩
 have fc := low0 (low1 (low0 fb a9.grw) bf.grw (by omega)) cl
 have d2 := Qn co
 have ov := Y8 co
 refine Xb (v := .tuple #[.slice (pa dp) bj.length bl, vi (callDo (tabT G) E).2]) Z Z (X1 (v := .slice (pa dp) bj.length bl) Z Z Z (X1 (v := vi (callDo (tabT G) E).2) Z Z Z (Xf (v := .slice (pa dp) bj.length bl) Z Z (Xf (v := vi (callDo (tabT G) E).2) Z Z (Xc (Xa (Xb (v := .slice (pa ag) G.length ab) Z Z ?_)))))))
 have fh := (bf.blk.grown0 cl)
 refine Xq (vs := [vi E.kind, vi E.run, vi E.a, vi E.b, vi E.n]) Y1 Z Z (fh.rangeL 0 5 Z) Z ?_
 have oq := (fh).lt
 refine Xm Ks (Xg Z (Xg Z Xl)) Z (Jq E _ G _ _ (TabG.at (TabG.low cd (low0 (low1 a9.grw bf.grw (nt ((World.grownBy.refl _ none)).size (Nat.le_of_eq a9.eq.symm))) cl))) aj (by omega) (ErrT.grown0 hE fc)) ?_
 rintro _ qq ⟨dt, bm, bk, rfl, de, bv, cm⟩
 have d3 := Qn bv
 have ow := Y8 bv
 refine Xb (v := .tuple #[.slice dt bk.length bm, vi (callDo (tabT G) E).2]) Z Z (X1 (v := .slice dt bk.length bm) Z Z Z (X1 (v := vi (callDo (tabT G) E).2) Z Z Z (Xf (v := .slice dt bk.length bm) Z Z (Xf (v := vi (callDo (tabT G) E).2) Z Z (Xc (Xs (Xa (Xb (v := vi (callDo (tabT G) E).2) Z Z (Xb (v := vi (callDo (tabT G) E).2) Z Z (Qj (q := false) Z Z (by simp) Z (Xb (v := vb false) Z Z (Xe Z Z Z Z ?_))))))))))))
 refine Xb (v := .slice dt bk.length bm) Z Z (Xe Z Z Z Z (Xb (v := .slice (pa dp) bj.length bl) Z Z (Xe Z Z Z Z ?_)))
 have df := (TabG.low fy cm)
 refine Xm K6 (Xg Z (Xg Z Xl)) Z (Js _ bk bj _ _ _ _ (TabG.at de) (TabG.at df) d3 d2 (by omega) (by omega)) ?_
 rintro _ qr ⟨rfl, bg⟩
 refine Xe Z Z Z Z (Yj (b' := false) (congrArg Value.bool (decide_eq_true (bv.trans co.symm))) Z Z (Xn (v := vb false) Z Z Z Z (Xb (v := vb false) Z Z (Xe Z Z Z Z (Xb (v := .slice (pa ag) G.length ab) Z Z (Xe Z Z Z Z ?_))))))
 have ct := ((fh.grown0 cm).grown0 bg)
 refine Xq (vs := [vi E.kind, vi E.run, vi E.a, vi E.b, vi E.n]) Y1 Z Z (ct.rangeL 0 5 Z) Z (Xe Z Z Z Z (Xm Ui (Xg Z (Xg Z Xl)) Z (Ut E _ G _ _ (TabG.at (TabG.low cd (low0 (low0 (low0 (low1 a9.grw bf.grw (nt ((World.grownBy.refl _ none)).size (Nat.le_of_eq a9.eq.symm))) cl) cm) bg))) aj (by omega)) ?_))
 rintro _ ee ⟨rfl, ar⟩
 have dx := low0 (low0 (low0 fc cm) bg) ar
 refine Xe Z Z Z Z (Yj (b' := !callPoss (tabT G) E) Z Z Z (Xn (v := vb (!callPoss (tabT G) E)) Z Z Z Z (Xc (X2 Z (fun a8 => ?_) (fun a8 => ?_)))))
 have p8 := Jm a8
 refine Xa (Xb (v := vi (callDo (tabT G) E).2) Z Z (Xb (v := vi (callDo (tabT G) E).2) Z Z (X3 (q := true) Z Z (by simp) Z (Xb (v := vb true) Z Z (Xe Z Z Z Z (Xb (v := .slice dt bk.length bm) Z Z (Xe Z Z Z Z (Xb (v := .slice (pa dp) bj.length bl) Z Z (Xe Z Z Z Z (Xm K6 (Xg Z (Xg Z Xl)) Z (Js _ bk bj _ _ _ _ (TabG.at (TabG.low (TabG.low de bg) ar)) (TabG.at (TabG.low (TabG.low df bg) ar)) d3 d2 (by omega) (by omega)) ?_))))))))))
 rintro _ qt ⟨rfl, j2⟩
 refine Xo (v := vb true) Z Z (congrArg Value.bool (decide_eq_true (bv.trans co.symm))) Z (Xf (v := vb true) Z Z (Xc (Xt (Yo (⟨vb true, Yx Z Z, ?_, (low0 dx j2)⟩)))))
 rfl
 have ap := Qu a8
 obtain ⟨an, aq, ak⟩ := Yd ap
 have ob := Yw aq
 have oc := (Y5 ak).1
 have o9 := Qt an ak
 have ot := Jk an
 have hde := Jb ap
 have hrk := Qq (Yd ap).2.2
 have ox := Qm co ap
 have oy := Qm bv ap
 obtain ⟨hi, hhi⟩ : ∃ n, n = ee.heap.size := ⟨_, rfl⟩
 have aw := (TabG.low cd (low0 (low0 (low0 (low0 (low1 a9.grw bf.grw (nt ((World.grownBy.refl _ none)).size (Nat.le_of_eq a9.eq.symm))) cl) cm) bg) ar))
 have cc := TabG.hi aw
 rw [← hhi] at cc
 have m5 := TabG.hi (TabG.low (TabG.low df bg) ar)
 rw [← hhi] at m5
 have m6 := TabG.hi (TabG.low (TabG.low de bg) ar)
 rw [← hhi] at m6
 have n9 := Kr bv ap
 refine Xy (Xv (Xs ?_))
 obtain ⟨i8, qf, fq, ju, kp, ku⟩ := SlAt.at (TabG.at aw).1 (Yk (xg G (E.run - 1).toNat))
 have og := TabLen.at aj (xg G (E.run - 1).toNat)
 obtain ⟨k6, qg, n7, jv, kq, kv⟩ := SlAt.at (TabAt.th (TabG.at aw) (xg G (E.run - 1).toNat)).1 (Yk (xr (mAt G (E.run - 1).toNat).t.slots (E.a).toNat))
 have ou := Vg an (lq (E.run - 1).toNat G.length) (lq (E.a).toNat (mAt G (E.run - 1).toNat).t.slots.length)
 have pc : hi ≤ ee.heap.size := (Nat.le_of_eq hhi)
 refine Q2 (m := 12) [[], [], [1], [1, 2], [0, 1, 2, 3], [0, 1, 2, 3, 4], [0, 1, 2, 3, 4, 5], [], [7], [0, 1, 2, 3, 4, 5, 6, 7, 8], [0, 1, 2, 3, 4, 5, 6, 7, 8, 9], [], [0, 1, 2, 3, 4, 5, 6, 7, 8, 9, 10, 11]] (fun S F w' => ∃ (ac : Nat), ee.grownBy w' none ∧ F 1 = .slice a2 m c2 ∧ F 4 = vb false ∧ F 5 = .slice (pa ag) G.length ab ∧ F 6 = pt bz 0 ∧ (S 11 = true → F 11 = pt ac 0 ∧ w.heap.size ≤ ac ∧ Blk w' ac 33 #[vi 0, vi 0, vb false, vb false, vb false] ∧ bz < ac ∧ ee.heap.size ≤ ac) ∧ Vals S F [(0, 66, .slice (pa ag) G.length ab), (1, 67, pt bz 1), (2, 68, vi E.run), (3, 69, vi (E.run - 1)), (4, 70, pt i8 fq), (5, 71, pt i8 (fq + 5)), (6, 72, .slice (mAt G (E.run - 1).toNat).sa (mAt G (E.run - 1).toNat).t.slots.length (mAt G (E.run - 1).toNat).sc), (7, 73, pt bz 2), (8, 74, vi E.a), (9, 75, pt k6 n7), (10, 76, .agg #[vi (rAt (mAt G (E.run - 1).toNat).t.slots (E.a).toNat).th, vi (rAt (mAt G (E.run - 1).toNat).t.slots (E.a).toNat).ve, vb (rAt (mAt G (E.run - 1).toNat).t.slots (E.a).toNat).rd, vb (rAt (mAt G (E.run - 1).toNat).t.slots (E.a).toNat).wr, vb (rAt (mAt G (E.run - 1).toNat).t.slots (E.a).toNat).wk])]) Y0 (by kernel_rfl) ⟨0, X7 _, k8, k9, Z, Z, Yy, Ka _⟩ ?_ ?_
 refine Xk (fun S F qu hS hbef hcl hI => ?_) ?_
 obtain ⟨ac, j3, lc, ld, jc, le, ai, hvs⟩ := hI
 exact Xb (v := .slice (pa ag) G.length ab) jc Z (Xc ⟨ac, j3, lc, ld, jc, le, ai, Vals.up 0 hvs Z Z Z⟩)
 refine Xk (fun S F qv hS hbef hcl hI => ?_) ?_
 obtain ⟨ac, j4, lf, lg, lh, jd, ai, hvs⟩ := hI
 exact Xd (o' := 1) Y9 jd Z Z (Xc ⟨ac, j4, lf, lg, lh, jd, ai, Vals.up 1 hvs Z Z Z⟩)
 refine Xk (fun S F qw hS hbef hcl hI => ?_) ?_
 obtain ⟨ac, fd, li, lj, lk, ll, ai, hvs⟩ := hI
 exact Xh (v := vi E.run) Xz (Vals.at 1 hvs Z (Xp 1 hbef Z)) (((ct.grown0 ar).grown0 fd).cell Z) Z (Xc ⟨ac, fd, li, lj, lk, ll, ai, Vals.up 2 hvs Z Z Z⟩)
 refine Xk (fun S F qx hS hbef hcl hI => ?_) ?_
 obtain ⟨ac, j5, lm, ln, lp, lu, ai, hvs⟩ := hI
 exact Ym (c := E.run - 1) (Vals.at 2 hvs Z (Xp 2 hbef Z)) Z (by omega) (by omega) (by omega) Z (Xc ⟨ac, j5, lm, ln, lp, lu, ai, Vals.up 3 hvs Z Z Z⟩)
 refine Xk (fun S F qy hS hbef hcl hI => ?_) ?_
 obtain ⟨ac, j6, lv, lw, ly, lz, ai, hvs⟩ := hI
 exact X0 Y6 (Vals.at 0 hvs Z (Xp 0 hbef Z)) (Vals.at 3 hvs Z (Xp 3 hbef Z)) ju kp (by omega) (by omega) Z (Xc ⟨ac, j6, lv, lw, ly, lz, ai, Vals.up 4 hvs Z Z Z⟩)
 refine Xk (fun S F qz hS hbef hcl hI => ?_) ?_
 obtain ⟨ac, j7, l0, l3, l4, l5, ai, hvs⟩ := hI
 exact Xd (o' := fq + 5) Qi (Vals.at 4 hvs Z (Xp 4 hbef Z)) Z Z (Xc ⟨ac, j7, l0, l3, l4, l5, ai, Vals.up 5 hvs Z Z Z⟩)
 refine Xk (fun S F q0 hS hbef hcl hI => ?_) ?_
 obtain ⟨ac, fe, l6, l7, l8, l9, ai, hvs⟩ := hI
 exact Xh (v := .slice (mAt G (E.run - 1).toNat).sa (mAt G (E.run - 1).toNat).t.slots.length (mAt G (E.run - 1).toNat).sc) Jd (Vals.at 5 hvs Z (Xp 5 hbef Z)) ((Ye ku fe) 5 _ Z) Z (Xc ⟨ac, fe, l6, l7, l8, l9, ai, Vals.up 6 hvs Z Z Z⟩)
 refine Xk (fun S F q4 hS hbef hcl hI => ?_) ?_
 obtain ⟨ac, j8, ma, mb, mc, je, ai, hvs⟩ := hI
 exact Xd (o' := 2) Ju je Z Z (Xc ⟨ac, j8, ma, mb, mc, je, ai, Vals.up 7 hvs Z Z Z⟩)
 refine Xk (fun S F q5 hS hbef hcl hI => ?_) ?_
 obtain ⟨ac, ff, me, mf, mg, mh, ai, hvs⟩ := hI
 exact Xh (v := vi E.a) Xz (Vals.at 7 hvs Z (Xp 7 hbef Z)) (((ct.grown0 ar).grown0 ff).cell Z) Z (Xc ⟨ac, ff, me, mf, mg, mh, ai, Vals.up 8 hvs Z Z Z⟩)
 refine Xk (fun S F q6 hS hbef hcl hI => ?_) ?_
 obtain ⟨ac, j9, ml, mm, mn, mo, ai, hvs⟩ := hI
 exact X0 J9 (Vals.at 6 hvs Z (Xp 6 hbef Z)) (Vals.at 8 hvs Z (Xp 8 hbef Z)) jv kq (by omega) (by omega) Z (Xc ⟨ac, j9, ml, mm, mn, mo, ai, Vals.up 9 hvs Z Z Z⟩)
 refine Xk (fun S F q7 hS hbef hcl hI => ?_) ?_
 obtain ⟨ac, fg, mp, mq, mr, mt, ai, hvs⟩ := hI
 exact Xq (vs := [vi (rAt (mAt G (E.run - 1).toNat).t.slots (E.a).toNat).th, vi (rAt (mAt G (E.run - 1).toNat).t.slots (E.a).toNat).ve, vb (rAt (mAt G (E.run - 1).toNat).t.slots (E.a).toNat).rd, vb (rAt (mAt G (E.run - 1).toNat).t.slots (E.a).toNat).wr, vb (rAt (mAt G (E.run - 1).toNat).t.slots (E.a).toNat).wk]) Yz (Vals.at 9 hvs Z (Xp 9 hbef Z)) Z (Y3 (Ye kv fg) 0 5 Z) Z (Xc ⟨ac, fg, mp, mq, mr, mt, ai, Vals.up 10 hvs Z Z Z⟩)
 refine Xk (fun S F q8 hS hbef hcl hI => ?_) ?_
 obtain ⟨ac, cn, mu, mv, mw, my, ai, hvs⟩ := hI
 refine Yf (cs := #[vi 0, vi 0, vb false, vb false, vb false]) K7 Z Z ?_
 intro i7 q9 bu
 have iu := Yi bu (low0 dx cn)
 have nb : hi ≤ i7 := nt (nt (Nat.le_of_eq hhi) cn.size) (Nat.le_of_eq bu.eq.symm)
 have cy := Xr bu (((ct.grown0 ar).grown0 cn)).lt
 exact Xc ⟨i7, (low0 cn bu.grw), mu, mv, mw, my, fun _ => ⟨Z, iu, bu.blk, cy, (nt cn.size (Nat.le_of_eq bu.eq.symm))⟩, Vals.keep hvs Z⟩
 exact Je
 intro S F ra hall hI
 obtain ⟨ac, ba, cz, c8, au, ca, ai, hvs⟩ := hI
 obtain ⟨am, oe, fm, fw, nc⟩ := ai (hall 11 (by decide))
 refine Xx (vs := [vi (rAt (mAt G (E.run - 1).toNat).t.slots (E.a).toNat).th, vi (rAt (mAt G (E.run - 1).toNat).t.slots (E.a).toNat).ve, vb (rAt (mAt G (E.run - 1).toNat).t.slots (E.a).toNat).rd, vb (rAt (mAt G (E.run - 1).toNat).t.slots (E.a).toNat).wr, vb (rAt (mAt G (E.run - 1).toNat).t.slots (E.a).toNat).wk]) (cs' := #[vi (rAt (mAt G (E.run - 1).toNat).t.slots (E.a).toNat).th, vi (rAt (mAt G (E.run - 1).toNat).t.slots (E.a).toNat).ve, vb (rAt (mAt G (E.run - 1).toNat).t.slots (E.a).toNat).rd, vb (rAt (mAt G (E.run - 1).toNat).t.slots (E.a).toNat).wr, vb (rAt (mAt G (E.run - 1).toNat).t.slots (E.a).toNat).wk]) Yz am (Vals.at 10 hvs Z (hall 10 (by decide))) Z (by simp [Value.oneCell']) fm (Nat.le_of_ble_eq_true Z) Z ?_
 intro cv ad
 refine Xc (Xv (Xs (Ki (fun f' w' => (f' 1 = .slice a2 m c2 ∧ f' 4 = vb false ∧ f' 5 = .slice (pa ag) G.length ab ∧ f' 6 = pt bz 0 ∧ f' 122 = vb ((((((decide ((rAt (mAt G (E.run - 1).toNat).t.slots (E.a).toNat).th = 0)) || (!(decide ((mAt G ((rAt (mAt G (E.run - 1).toNat).t.slots (E.a).toNat).th - 1).toNat).t.kind = 2)))) || (!(rAt (mAt G (E.run - 1).toNat).t.slots (E.a).toNat).rd)) || (!(rAt (mAt G (E.run - 1).toNat).t.slots (E.a).toNat).wr)) || (!(decide ((mAt G ((rAt (mAt G (E.run - 1).toNat).t.slots (E.a).toNat).th - 1).toNat).t.lab = (mAt G (E.run - 1).toNat).t.lab)))) || (!tabLive (tabT G) (rAt (mAt G (E.run - 1).toNat).t.slots (E.a).toNat)))) ∧ cv.grownBy w' none) ?_ ?_)))
 rcases Yb (decide ((rAt (mAt G (E.run - 1).toNat).t.slots (E.a).toNat).th = 0)) with J | J
 have p9 := of_decide_eq_true J
 refine Yt (m := 43) (vals := [(77, pt ac 0), (78, vi (rAt (mAt G (E.run - 1).toNat).t.slots (E.a).toNat).th), (79, vb (decide ((rAt (mAt G (E.run - 1).toNat).t.slots (E.a).toNat).th = 0))), (80, vb (decide ((rAt (mAt G (E.run - 1).toNat).t.slots (E.a).toNat).th = 0))), (81, undef), (82, undef), (83, undef), (84, undef), (85, undef), (86, undef), (87, undef), (88, undef), (89, vb true), (90, vb true), (91, undef), (92, undef), (93, undef), (94, vb true), (95, vb true), (96, undef), (97, undef), (98, undef), (99, vb true), (100, vb true), (101, undef), (102, undef), (103, undef), (104, undef), (105, undef), (106, undef), (107, undef), (108, undef), (109, undef), (110, undef), (111, undef), (112, undef), (113, undef), (114, undef), (115, undef), (116, vb true), (117, vb true), (118, undef), (119, undef)]) (fun w' => cv.grownBy w' none) Y0 (by kernel_rfl) (X7 _) ?_ ?_
 refine yl Z (fun _ _ k => Xd (o' := 0) Yl am Z Z k) (yl Z (fun _ ka k => Xh (v := vi (rAt (mAt G (E.run - 1).toNat).t.slots (E.a).toNat).th) Xz Z ((ad.blk.grown0 ka).cell Z) Z k) (yl Z (fun _ _ k => X3 (q := decide ((rAt (mAt G (E.run - 1).toNat).t.slots (E.a).toNat).th = 0)) Z Z Z Z k) (yl Z (fun _ _ k => Xb (v := vb (decide ((rAt (mAt G (E.run - 1).toNat).t.slots (E.a).toNat).th = 0))) Z Z k) (yl Z (fun _ _ k => Xi Z Z Z J Z k) (yl Z (fun _ _ k => Xi Z Z Z J Z k) (yl Z (fun _ _ k => Xi Z Z Z J Z k) (yl Z (fun _ _ k => Xi Z Z Z J Z k) (yl Z (fun _ _ k => Xi Z Z Z J Z k) (yl Z (fun _ _ k => Xi Z Z Z J Z k) (yl Z (fun _ _ k => Xi Z Z Z J Z k) ?_))))))))))
 refine yl Z (fun _ _ k => Xi Z Z Z J Z k) (yl Z (fun _ _ k => Xo (v := vb true) Z J Z Z k) (yl Z (fun _ _ k => Xb (v := vb true) Z Z k) (yl Z (fun _ _ k => Xi Z Z Z Z Z k) (yl Z (fun _ _ k => Xi Z Z Z Z Z k) (yl Z (fun _ _ k => Xi Z Z Z Z Z k) (yl Z (fun _ _ k => Xo (v := vb true) Z Z Z Z k) (yl Z (fun _ _ k => Xb (v := vb true) Z Z k) (yl Z (fun _ _ k => Xi Z Z Z Z Z k) (yl Z (fun _ _ k => Xi Z Z Z Z Z k) (yl Z (fun _ _ k => Xi Z Z Z Z Z k) ?_))))))))))
 refine yl Z (fun _ _ k => Xo (v := vb true) Z Z Z Z k) (yl Z (fun _ _ k => Xb (v := vb true) Z Z k) (yl Z (fun _ _ k => Xi Z Z Z Z Z k) (yl Z (fun _ _ k => Xi Z Z Z Z Z k) (yl Z (fun _ _ k => Xi Z Z Z Z Z k) (yl Z (fun _ _ k => Xi Z Z Z Z Z k) (yl Z (fun _ _ k => Xi Z Z Z Z Z k) (yl Z (fun _ _ k => Xi Z Z Z Z Z k) (yl Z (fun _ _ k => Xi Z Z Z Z Z k) (yl Z (fun _ _ k => Xi Z Z Z Z Z k) (yl Z (fun _ _ k => Xi Z Z Z Z Z k) ?_))))))))))
 exact yl Z (fun _ _ k => Xi Z Z Z Z Z k) (yl Z (fun _ _ k => Xi Z Z Z Z Z k) (yl Z (fun _ _ k => Xi Z Z Z Z Z k) (yl Z (fun _ _ k => Xi Z Z Z Z Z k) (yl Z (fun _ _ k => Xi Z Z Z Z Z k) (yl Z (fun _ _ k => Xi Z Z Z Z Z k) (yl Z (fun _ _ k => Xo (v := vb true) Z Z Z Z k) (yl Z (fun _ _ k => Xb (v := vb true) Z Z k) (yl Z (fun _ _ k => Xi Z Z Z Z Z k) (yl Z (fun _ _ k => Xi Z Z Z Z Z k) Y2)))))))))
 intro rb kb
 exact Xi Z Z Z Z Z (Xi Z Z Z Z Z (Xo (v := vb true) Z Z Z Z (Xc (Xv ⟨⟨cz, c8, au, ca, (congrArg Value.bool (by first | (simp only [az, bc, bd, a8, ap, J, an, aq, ak, b0, b1, b2, b3, b4, b5, b6, b7, b8, b9]; done) | simp [az, bc, bd, a8, ap, J, an, aq, ak]))⟩, kb⟩))))
 have qb := of_decide_eq_false J
 rcases Yb (!(decide ((mAt G ((rAt (mAt G (E.run - 1).toNat).t.slots (E.a).toNat).th - 1).toNat).t.kind = 2))) with af | af
 have ez := Jm af
 have qd := of_decide_eq_false ez
 have fz := (TabG.ge (TabG.low aw ba) ad.grw cc (by omega))
 obtain ⟨i9, qh, fr, jw, kr, kw⟩ := SlAt.at (TabG.at fz).1 (Yk (xg G ((rAt (mAt G (E.run - 1).toNat).t.slots (E.a).toNat).th - 1).toNat))
 have oh := TabLen.at aj (xg G ((rAt (mAt G (E.run - 1).toNat).t.slots (E.a).toNat).th - 1).toNat)
 refine Yt (m := 43) (vals := [(77, pt ac 0), (78, vi (rAt (mAt G (E.run - 1).toNat).t.slots (E.a).toNat).th), (79, vb (decide ((rAt (mAt G (E.run - 1).toNat).t.slots (E.a).toNat).th = 0))), (80, vb (decide ((rAt (mAt G (E.run - 1).toNat).t.slots (E.a).toNat).th = 0))), (81, .slice (pa ag) G.length ab), (82, pt ac 0), (83, vi (rAt (mAt G (E.run - 1).toNat).t.slots (E.a).toNat).th), (84, vi ((rAt (mAt G (E.run - 1).toNat).t.slots (E.a).toNat).th - 1)), (85, pt i9 fr), (86, pt i9 fr), (87, vi (mAt G ((rAt (mAt G (E.run - 1).toNat).t.slots (E.a).toNat).th - 1).toNat).t.kind), (88, vb (!(decide ((mAt G ((rAt (mAt G (E.run - 1).toNat).t.slots (E.a).toNat).th - 1).toNat).t.kind = 2)))), (89, vb (!(decide ((mAt G ((rAt (mAt G (E.run - 1).toNat).t.slots (E.a).toNat).th - 1).toNat).t.kind = 2)))), (90, vb (!(decide ((mAt G ((rAt (mAt G (E.run - 1).toNat).t.slots (E.a).toNat).th - 1).toNat).t.kind = 2)))), (91, undef), (92, undef), (93, undef), (94, vb true), (95, vb true), (96, undef), (97, undef), (98, undef), (99, vb true), (100, vb true), (101, undef), (102, undef), (103, undef), (104, undef), (105, undef), (106, undef), (107, undef), (108, undef), (109, undef), (110, undef), (111, undef), (112, undef), (113, undef), (114, undef), (115, undef), (116, vb true), (117, vb true), (118, undef), (119, undef)]) (fun w' => cv.grownBy w' none) Y0 (by kernel_rfl) (X7 _) ?_ ?_
 refine yl Z (fun _ _ k => Xd (o' := 0) Yl am Z Z k) (yl Z (fun _ kc k => Xh (v := vi (rAt (mAt G (E.run - 1).toNat).t.slots (E.a).toNat).th) Xz Z ((ad.blk.grown0 kc).cell Z) Z k) (yl Z (fun _ _ k => X3 (q := decide ((rAt (mAt G (E.run - 1).toNat).t.slots (E.a).toNat).th = 0)) Z Z Z Z k) (yl Z (fun _ _ k => Xb (v := vb (decide ((rAt (mAt G (E.run - 1).toNat).t.slots (E.a).toNat).th = 0))) Z Z k) (yl Z (fun _ _ k => Xe Z Z Z J (Xb (v := .slice (pa ag) G.length ab) au Z k)) (yl Z (fun _ _ k => Xe Z Z Z J (Xd (o' := 0) Yl am Z Z k)) (yl Z (fun _ ke k => Xe Z Z Z J (Xh (v := vi (rAt (mAt G (E.run - 1).toNat).t.slots (E.a).toNat).th) Xz Z ((ad.blk.grown0 ke).cell Z) Z k)) (yl Z (fun _ _ k => Xe Z Z Z J (Ym (c := (rAt (mAt G (E.run - 1).toNat).t.slots (E.a).toNat).th - 1) Z Z (by omega) (by omega) (by omega) Z k)) (yl Z (fun _ _ k => Xe Z Z Z J (X0 Y6 Z Z jw kr (by omega) (by omega) Z k)) (yl Z (fun _ _ k => Xe Z Z Z J (Xd (o' := fr) Y7 Z Z Z k)) (yl Z (fun _ kf k => Xe Z Z Z J (Xh (v := vi (mAt G ((rAt (mAt G (E.run - 1).toNat).t.slots (E.a).toNat).th - 1).toNat).t.kind) Xz Z ((Ye kw kf) 0 _ Z) Z k)) ?_))))))))))
 refine yl Z (fun _ _ k => Xe Z Z Z J (Qj (q := !(decide ((mAt G ((rAt (mAt G (E.run - 1).toNat).t.slots (E.a).toNat).th - 1).toNat).t.kind = 2))) Z Z Z Z k)) (yl Z (fun _ _ k => Xn (v := vb (!(decide ((mAt G ((rAt (mAt G (E.run - 1).toNat).t.slots (E.a).toNat).th - 1).toNat).t.kind = 2)))) Z J Z Z k) (yl Z (fun _ _ k => Xb (v := vb (!(decide ((mAt G ((rAt (mAt G (E.run - 1).toNat).t.slots (E.a).toNat).th - 1).toNat).t.kind = 2)))) Z Z k) (yl Z (fun _ _ k => Xi Z Z Z af Z k) (yl Z (fun _ _ k => Xi Z Z Z af Z k) (yl Z (fun _ _ k => Xi Z Z Z af Z k) (yl Z (fun _ _ k => Xo (v := vb true) Z af Z Z k) (yl Z (fun _ _ k => Xb (v := vb true) Z Z k) (yl Z (fun _ _ k => Xi Z Z Z Z Z k) (yl Z (fun _ _ k => Xi Z Z Z Z Z k) (yl Z (fun _ _ k => Xi Z Z Z Z Z k) ?_))))))))))
 refine yl Z (fun _ _ k => Xo (v := vb true) Z Z Z Z k) (yl Z (fun _ _ k => Xb (v := vb true) Z Z k) (yl Z (fun _ _ k => Xi Z Z Z Z Z k) (yl Z (fun _ _ k => Xi Z Z Z Z Z k) (yl Z (fun _ _ k => Xi Z Z Z Z Z k) (yl Z (fun _ _ k => Xi Z Z Z Z Z k) (yl Z (fun _ _ k => Xi Z Z Z Z Z k) (yl Z (fun _ _ k => Xi Z Z Z Z Z k) (yl Z (fun _ _ k => Xi Z Z Z Z Z k) (yl Z (fun _ _ k => Xi Z Z Z Z Z k) (yl Z (fun _ _ k => Xi Z Z Z Z Z k) ?_))))))))))
 exact yl Z (fun _ _ k => Xi Z Z Z Z Z k) (yl Z (fun _ _ k => Xi Z Z Z Z Z k) (yl Z (fun _ _ k => Xi Z Z Z Z Z k) (yl Z (fun _ _ k => Xi Z Z Z Z Z k) (yl Z (fun _ _ k => Xi Z Z Z Z Z k) (yl Z (fun _ _ k => Xi Z Z Z Z Z k) (yl Z (fun _ _ k => Xo (v := vb true) Z Z Z Z k) (yl Z (fun _ _ k => Xb (v := vb true) Z Z k) (yl Z (fun _ _ k => Xi Z Z Z Z Z k) (yl Z (fun _ _ k => Xi Z Z Z Z Z k) Y2)))))))))
 intro rf kg
 exact Xi Z Z Z Z Z (Xi Z Z Z Z Z (Xo (v := vb true) Z Z Z Z (Xc (Xv ⟨⟨cz, c8, au, ca, (congrArg Value.bool (by first | (simp only [az, bc, bd, a8, ap, J, af, ez, an, aq, ak, b0, b1, b2, b3, b4, b5, b6, b7, b8, b9]; done) | simp [az, bc, bd, a8, ap, J, af, ez, an, aq, ak]))⟩, kg⟩))))
 have bp := Qu af
 have qe := of_decide_eq_true bp
 rcases Yb (!(rAt (mAt G (E.run - 1).toNat).t.slots (E.a).toNat).rd) with ah | ah
 have jf := Jm ah
 have f8 := (TabG.ge (TabG.low aw ba) ad.grw cc (by omega))
 obtain ⟨ja, qi, ft, jx, ks, kx⟩ := SlAt.at (TabG.at f8).1 (Yk (xg G ((rAt (mAt G (E.run - 1).toNat).t.slots (E.a).toNat).th - 1).toNat))
 have ol := TabLen.at aj (xg G ((rAt (mAt G (E.run - 1).toNat).t.slots (E.a).toNat).th - 1).toNat)
 refine Yt (m := 43) (vals := [(77, pt ac 0), (78, vi (rAt (mAt G (E.run - 1).toNat).t.slots (E.a).toNat).th), (79, vb (decide ((rAt (mAt G (E.run - 1).toNat).t.slots (E.a).toNat).th = 0))), (80, vb (decide ((rAt (mAt G (E.run - 1).toNat).t.slots (E.a).toNat).th = 0))), (81, .slice (pa ag) G.length ab), (82, pt ac 0), (83, vi (rAt (mAt G (E.run - 1).toNat).t.slots (E.a).toNat).th), (84, vi ((rAt (mAt G (E.run - 1).toNat).t.slots (E.a).toNat).th - 1)), (85, pt ja ft), (86, pt ja ft), (87, vi (mAt G ((rAt (mAt G (E.run - 1).toNat).t.slots (E.a).toNat).th - 1).toNat).t.kind), (88, vb (!(decide ((mAt G ((rAt (mAt G (E.run - 1).toNat).t.slots (E.a).toNat).th - 1).toNat).t.kind = 2)))), (89, vb (!(decide ((mAt G ((rAt (mAt G (E.run - 1).toNat).t.slots (E.a).toNat).th - 1).toNat).t.kind = 2)))), (90, vb (!(decide ((mAt G ((rAt (mAt G (E.run - 1).toNat).t.slots (E.a).toNat).th - 1).toNat).t.kind = 2)))), (91, pt ac 2), (92, vb (rAt (mAt G (E.run - 1).toNat).t.slots (E.a).toNat).rd), (93, vb (!(rAt (mAt G (E.run - 1).toNat).t.slots (E.a).toNat).rd)), (94, vb (!(rAt (mAt G (E.run - 1).toNat).t.slots (E.a).toNat).rd)), (95, vb (!(rAt (mAt G (E.run - 1).toNat).t.slots (E.a).toNat).rd)), (96, undef), (97, undef), (98, undef), (99, vb true), (100, vb true), (101, undef), (102, undef), (103, undef), (104, undef), (105, undef), (106, undef), (107, undef), (108, undef), (109, undef), (110, undef), (111, undef), (112, undef), (113, undef), (114, undef), (115, undef), (116, vb true), (117, vb true), (118, undef), (119, undef)]) (fun w' => cv.grownBy w' none) Y0 (by kernel_rfl) (X7 _) ?_ ?_
 refine yl Z (fun _ _ k => Xd (o' := 0) Yl am Z Z k) (yl Z (fun _ kh k => Xh (v := vi (rAt (mAt G (E.run - 1).toNat).t.slots (E.a).toNat).th) Xz Z ((ad.blk.grown0 kh).cell Z) Z k) (yl Z (fun _ _ k => X3 (q := decide ((rAt (mAt G (E.run - 1).toNat).t.slots (E.a).toNat).th = 0)) Z Z Z Z k) (yl Z (fun _ _ k => Xb (v := vb (decide ((rAt (mAt G (E.run - 1).toNat).t.slots (E.a).toNat).th = 0))) Z Z k) (yl Z (fun _ _ k => Xe Z Z Z J (Xb (v := .slice (pa ag) G.length ab) au Z k)) (yl Z (fun _ _ k => Xe Z Z Z J (Xd (o' := 0) Yl am Z Z k)) (yl Z (fun _ ki k => Xe Z Z Z J (Xh (v := vi (rAt (mAt G (E.run - 1).toNat).t.slots (E.a).toNat).th) Xz Z ((ad.blk.grown0 ki).cell Z) Z k)) (yl Z (fun _ _ k => Xe Z Z Z J (Ym (c := (rAt (mAt G (E.run - 1).toNat).t.slots (E.a).toNat).th - 1) Z Z (by omega) (by omega) (by omega) Z k)) (yl Z (fun _ _ k => Xe Z Z Z J (X0 Y6 Z Z jx ks (by omega) (by omega) Z k)) (yl Z (fun _ _ k => Xe Z Z Z J (Xd (o' := ft) Y7 Z Z Z k)) (yl Z (fun _ kj k => Xe Z Z Z J (Xh (v := vi (mAt G ((rAt (mAt G (E.run - 1).toNat).t.slots (E.a).toNat).th - 1).toNat).t.kind) Xz Z ((Ye kx kj) 0 _ Z) Z k)) ?_))))))))))
 refine yl Z (fun _ _ k => Xe Z Z Z J (Qj (q := !(decide ((mAt G ((rAt (mAt G (E.run - 1).toNat).t.slots (E.a).toNat).th - 1).toNat).t.kind = 2))) Z Z Z Z k)) (yl Z (fun _ _ k => Xn (v := vb (!(decide ((mAt G ((rAt (mAt G (E.run - 1).toNat).t.slots (E.a).toNat).th - 1).toNat).t.kind = 2)))) Z J Z Z k) (yl Z (fun _ _ k => Xb (v := vb (!(decide ((mAt G ((rAt (mAt G (E.run - 1).toNat).t.slots (E.a).toNat).th - 1).toNat).t.kind = 2)))) Z Z k) (yl Z (fun _ _ k => Xe Z Z Z af (Xd (o' := 2) Kx am Z Z k)) (yl Z (fun _ kk k => Xe Z Z Z af (Xh (v := vb (rAt (mAt G (E.run - 1).toNat).t.slots (E.a).toNat).rd) Jn Z ((ad.blk.grown0 kk).cell Z) Z k)) (yl Z (fun _ _ k => Xe Z Z Z af (Yj (b' := !(rAt (mAt G (E.run - 1).toNat).t.slots (E.a).toNat).rd) Z Z Z k)) (yl Z (fun _ _ k => Xn (v := vb (!(rAt (mAt G (E.run - 1).toNat).t.slots (E.a).toNat).rd)) Z af Z Z k) (yl Z (fun _ _ k => Xb (v := vb (!(rAt (mAt G (E.run - 1).toNat).t.slots (E.a).toNat).rd)) Z Z k) (yl Z (fun _ _ k => Xi Z Z Z ah Z k) (yl Z (fun _ _ k => Xi Z Z Z ah Z k) (yl Z (fun _ _ k => Xi Z Z Z ah Z k) ?_))))))))))
 refine yl Z (fun _ _ k => Xo (v := vb true) Z ah Z Z k) (yl Z (fun _ _ k => Xb (v := vb true) Z Z k) (yl Z (fun _ _ k => Xi Z Z Z Z Z k) (yl Z (fun _ _ k => Xi Z Z Z Z Z k) (yl Z (fun _ _ k => Xi Z Z Z Z Z k) (yl Z (fun _ _ k => Xi Z Z Z Z Z k) (yl Z (fun _ _ k => Xi Z Z Z Z Z k) (yl Z (fun _ _ k => Xi Z Z Z Z Z k) (yl Z (fun _ _ k => Xi Z Z Z Z Z k) (yl Z (fun _ _ k => Xi Z Z Z Z Z k) (yl Z (fun _ _ k => Xi Z Z Z Z Z k) ?_))))))))))
 exact yl Z (fun _ _ k => Xi Z Z Z Z Z k) (yl Z (fun _ _ k => Xi Z Z Z Z Z k) (yl Z (fun _ _ k => Xi Z Z Z Z Z k) (yl Z (fun _ _ k => Xi Z Z Z Z Z k) (yl Z (fun _ _ k => Xi Z Z Z Z Z k) (yl Z (fun _ _ k => Xi Z Z Z Z Z k) (yl Z (fun _ _ k => Xo (v := vb true) Z Z Z Z k) (yl Z (fun _ _ k => Xb (v := vb true) Z Z k) (yl Z (fun _ _ k => Xi Z Z Z Z Z k) (yl Z (fun _ _ k => Xi Z Z Z Z Z k) Y2)))))))))
 intro rg kl
 exact Xi Z Z Z Z Z (Xi Z Z Z Z Z (Xo (v := vb true) Z Z Z Z (Xc (Xv ⟨⟨cz, c8, au, ca, (congrArg Value.bool (by first | (simp only [az, bc, bd, a8, ap, J, af, bp, ah, jf, an, aq, ak, b0, b1, b2, b3, b4, b5, b6, b7, b8, b9]; done) | simp [az, bc, bd, a8, ap, J, af, bp, ah, jf, an, aq, ak]))⟩, kl⟩))))
 have c9 := Qu ah
 rcases Yb (!(rAt (mAt G (E.run - 1).toNat).t.slots (E.a).toNat).wr) with V | V
 have jg := Jm V
 have f9 := (TabG.ge (TabG.low aw ba) ad.grw cc (by omega))
 obtain ⟨jb, qj, fu, jy, kt, ky⟩ := SlAt.at (TabG.at f9).1 (Yk (xg G ((rAt (mAt G (E.run - 1).toNat).t.slots (E.a).toNat).th - 1).toNat))
 have om := TabLen.at aj (xg G ((rAt (mAt G (E.run - 1).toNat).t.slots (E.a).toNat).th - 1).toNat)
 refine Yt (m := 43) (vals := [(77, pt ac 0), (78, vi (rAt (mAt G (E.run - 1).toNat).t.slots (E.a).toNat).th), (79, vb (decide ((rAt (mAt G (E.run - 1).toNat).t.slots (E.a).toNat).th = 0))), (80, vb (decide ((rAt (mAt G (E.run - 1).toNat).t.slots (E.a).toNat).th = 0))), (81, .slice (pa ag) G.length ab), (82, pt ac 0), (83, vi (rAt (mAt G (E.run - 1).toNat).t.slots (E.a).toNat).th), (84, vi ((rAt (mAt G (E.run - 1).toNat).t.slots (E.a).toNat).th - 1)), (85, pt jb fu), (86, pt jb fu), (87, vi (mAt G ((rAt (mAt G (E.run - 1).toNat).t.slots (E.a).toNat).th - 1).toNat).t.kind), (88, vb (!(decide ((mAt G ((rAt (mAt G (E.run - 1).toNat).t.slots (E.a).toNat).th - 1).toNat).t.kind = 2)))), (89, vb (!(decide ((mAt G ((rAt (mAt G (E.run - 1).toNat).t.slots (E.a).toNat).th - 1).toNat).t.kind = 2)))), (90, vb (!(decide ((mAt G ((rAt (mAt G (E.run - 1).toNat).t.slots (E.a).toNat).th - 1).toNat).t.kind = 2)))), (91, pt ac 2), (92, vb (rAt (mAt G (E.run - 1).toNat).t.slots (E.a).toNat).rd), (93, vb (!(rAt (mAt G (E.run - 1).toNat).t.slots (E.a).toNat).rd)), (94, vb (!(rAt (mAt G (E.run - 1).toNat).t.slots (E.a).toNat).rd)), (95, vb (!(rAt (mAt G (E.run - 1).toNat).t.slots (E.a).toNat).rd)), (96, pt ac 3), (97, vb (rAt (mAt G (E.run - 1).toNat).t.slots (E.a).toNat).wr), (98, vb (!(rAt (mAt G (E.run - 1).toNat).t.slots (E.a).toNat).wr)), (99, vb (!(rAt (mAt G (E.run - 1).toNat).t.slots (E.a).toNat).wr)), (100, vb (!(rAt (mAt G (E.run - 1).toNat).t.slots (E.a).toNat).wr)), (101, undef), (102, undef), (103, undef), (104, undef), (105, undef), (106, undef), (107, undef), (108, undef), (109, undef), (110, undef), (111, undef), (112, undef), (113, undef), (114, undef), (115, undef), (116, vb true), (117, vb true), (118, undef), (119, undef)]) (fun w' => cv.grownBy w' none) Y0 (by kernel_rfl) (X7 _) ?_ ?_
 refine yl Z (fun _ _ k => Xd (o' := 0) Yl am Z Z k) (yl Z (fun _ km k => Xh (v := vi (rAt (mAt G (E.run - 1).toNat).t.slots (E.a).toNat).th) Xz Z ((ad.blk.grown0 km).cell Z) Z k) (yl Z (fun _ _ k => X3 (q := decide ((rAt (mAt G (E.run - 1).toNat).t.slots (E.a).toNat).th = 0)) Z Z Z Z k) (yl Z (fun _ _ k => Xb (v := vb (decide ((rAt (mAt G (E.run - 1).toNat).t.slots (E.a).toNat).th = 0))) Z Z k) (yl Z (fun _ _ k => Xe Z Z Z J (Xb (v := .slice (pa ag) G.length ab) au Z k)) (yl Z (fun _ _ k => Xe Z Z Z J (Xd (o' := 0) Yl am Z Z k)) (yl Z (fun _ kn k => Xe Z Z Z J (Xh (v := vi (rAt (mAt G (E.run - 1).toNat).t.slots (E.a).toNat).th) Xz Z ((ad.blk.grown0 kn).cell Z) Z k)) (yl Z (fun _ _ k => Xe Z Z Z J (Ym (c := (rAt (mAt G (E.run - 1).toNat).t.slots (E.a).toNat).th - 1) Z Z (by omega) (by omega) (by omega) Z k)) (yl Z (fun _ _ k => Xe Z Z Z J (X0 Y6 Z Z jy kt (by omega) (by omega) Z k)) (yl Z (fun _ _ k => Xe Z Z Z J (Xd (o' := fu) Y7 Z Z Z k)) (yl Z (fun _ ko k => Xe Z Z Z J (Xh (v := vi (mAt G ((rAt (mAt G (E.run - 1).toNat).t.slots (E.a).toNat).th - 1).toNat).t.kind) Xz Z ((Ye ky ko) 0 _ Z) Z k)) ?_))))))))))
 refine yl Z (fun _ _ k => Xe Z Z Z J (Qj (q := !(decide ((mAt G ((rAt (mAt G (E.run - 1).toNat).t.slots (E.a).toNat).th - 1).toNat).t.kind = 2))) Z Z Z Z k)) (yl Z (fun _ _ k => Xn (v := vb (!(decide ((mAt G ((rAt (mAt G (E.run - 1).toNat).t.slots (E.a).toNat).th - 1).toNat).t.kind = 2)))) Z J Z Z k) (yl Z (fun _ _ k => Xb (v := vb (!(decide ((mAt G ((rAt (mAt G (E.run - 1).toNat).t.slots (E.a).toNat).th - 1).toNat).t.kind = 2)))) Z Z k) (yl Z (fun _ _ k => Xe Z Z Z af (Xd (o' := 2) Kx am Z Z k)) (yl Z (fun _ gr k => Xe Z Z Z af (Xh (v := vb (rAt (mAt G (E.run - 1).toNat).t.slots (E.a).toNat).rd) Jn Z ((ad.blk.grown0 gr).cell Z) Z k)) (yl Z (fun _ _ k => Xe Z Z Z af (Yj (b' := !(rAt (mAt G (E.run - 1).toNat).t.slots (E.a).toNat).rd) Z Z Z k)) (yl Z (fun _ _ k => Xn (v := vb (!(rAt (mAt G (E.run - 1).toNat).t.slots (E.a).toNat).rd)) Z af Z Z k) (yl Z (fun _ _ k => Xb (v := vb (!(rAt (mAt G (E.run - 1).toNat).t.slots (E.a).toNat).rd)) Z Z k) (yl Z (fun _ _ k => Xe Z Z Z ah (Xd (o' := 3) Kb am Z Z k)) (yl Z (fun _ gt k => Xe Z Z Z ah (Xh (v := vb (rAt (mAt G (E.run - 1).toNat).t.slots (E.a).toNat).wr) Jn Z ((ad.blk.grown0 gt).cell Z) Z k)) (yl Z (fun _ _ k => Xe Z Z Z ah (Yj (b' := !(rAt (mAt G (E.run - 1).toNat).t.slots (E.a).toNat).wr) Z Z Z k)) ?_))))))))))
 refine yl Z (fun _ _ k => Xn (v := vb (!(rAt (mAt G (E.run - 1).toNat).t.slots (E.a).toNat).wr)) Z ah Z Z k) (yl Z (fun _ _ k => Xb (v := vb (!(rAt (mAt G (E.run - 1).toNat).t.slots (E.a).toNat).wr)) Z Z k) (yl Z (fun _ _ k => Xi Z Z Z V Z k) (yl Z (fun _ _ k => Xi Z Z Z V Z k) (yl Z (fun _ _ k => Xi Z Z Z V Z k) (yl Z (fun _ _ k => Xi Z Z Z V Z k) (yl Z (fun _ _ k => Xi Z Z Z V Z k) (yl Z (fun _ _ k => Xi Z Z Z V Z k) (yl Z (fun _ _ k => Xi Z Z Z V Z k) (yl Z (fun _ _ k => Xi Z Z Z V Z k) (yl Z (fun _ _ k => Xi Z Z Z V Z k) ?_))))))))))
 exact yl Z (fun _ _ k => Xi Z Z Z V Z k) (yl Z (fun _ _ k => Xi Z Z Z V Z k) (yl Z (fun _ _ k => Xi Z Z Z V Z k) (yl Z (fun _ _ k => Xi Z Z Z V Z k) (yl Z (fun _ _ k => Xi Z Z Z V Z k) (yl Z (fun _ _ k => Xi Z Z Z V Z k) (yl Z (fun _ _ k => Xo (v := vb true) Z V Z Z k) (yl Z (fun _ _ k => Xb (v := vb true) Z Z k) (yl Z (fun _ _ k => Xi Z Z Z Z Z k) (yl Z (fun _ _ k => Xi Z Z Z Z Z k) Y2)))))))))
 intro pm gu
 exact Xi Z Z Z Z Z (Xi Z Z Z Z Z (Xo (v := vb true) Z Z Z Z (Xc (Xv ⟨⟨cz, c8, au, ca, (congrArg Value.bool (by first | (simp only [az, bc, bd, a8, ap, J, af, bp, ah, c9, V, jg, an, aq, ak, b0, b1, b2, b3, b4, b5, b6, b7, b8, b9]; done) | simp [az, bc, bd, a8, ap, J, af, bp, ah, c9, V, jg, an, aq, ak]))⟩, gu⟩))))
 have dc := Qu V
 rcases Yb (!(decide ((mAt G ((rAt (mAt G (E.run - 1).toNat).t.slots (E.a).toNat).th - 1).toNat).t.lab = (mAt G (E.run - 1).toNat).t.lab))) with al | al
 have du := Jm al
 have o4 := of_decide_eq_false du
 have dq := (TabG.ge (TabG.low aw ba) ad.grw cc (by omega))
 obtain ⟨da, pe, bw, d4, d9, eb⟩ := SlAt.at (TabG.at dq).1 (Yk (xg G ((rAt (mAt G (E.run - 1).toNat).t.slots (E.a).toNat).th - 1).toNat))
 have ne := TabLen.at aj (xg G ((rAt (mAt G (E.run - 1).toNat).t.slots (E.a).toNat).th - 1).toNat)
 obtain ⟨ef, pf, dz, gb, iv, i1⟩ := SlAt.at (TabG.at dq).1 (Yk (xg G (E.run - 1).toNat))
 have nf := TabLen.at aj (xg G (E.run - 1).toNat)
 refine Yt (m := 43) (vals := [(77, pt ac 0), (78, vi (rAt (mAt G (E.run - 1).toNat).t.slots (E.a).toNat).th), (79, vb (decide ((rAt (mAt G (E.run - 1).toNat).t.slots (E.a).toNat).th = 0))), (80, vb (decide ((rAt (mAt G (E.run - 1).toNat).t.slots (E.a).toNat).th = 0))), (81, .slice (pa ag) G.length ab), (82, pt ac 0), (83, vi (rAt (mAt G (E.run - 1).toNat).t.slots (E.a).toNat).th), (84, vi ((rAt (mAt G (E.run - 1).toNat).t.slots (E.a).toNat).th - 1)), (85, pt da bw), (86, pt da bw), (87, vi (mAt G ((rAt (mAt G (E.run - 1).toNat).t.slots (E.a).toNat).th - 1).toNat).t.kind), (88, vb (!(decide ((mAt G ((rAt (mAt G (E.run - 1).toNat).t.slots (E.a).toNat).th - 1).toNat).t.kind = 2)))), (89, vb (!(decide ((mAt G ((rAt (mAt G (E.run - 1).toNat).t.slots (E.a).toNat).th - 1).toNat).t.kind = 2)))), (90, vb (!(decide ((mAt G ((rAt (mAt G (E.run - 1).toNat).t.slots (E.a).toNat).th - 1).toNat).t.kind = 2)))), (91, pt ac 2), (92, vb (rAt (mAt G (E.run - 1).toNat).t.slots (E.a).toNat).rd), (93, vb (!(rAt (mAt G (E.run - 1).toNat).t.slots (E.a).toNat).rd)), (94, vb (!(rAt (mAt G (E.run - 1).toNat).t.slots (E.a).toNat).rd)), (95, vb (!(rAt (mAt G (E.run - 1).toNat).t.slots (E.a).toNat).rd)), (96, pt ac 3), (97, vb (rAt (mAt G (E.run - 1).toNat).t.slots (E.a).toNat).wr), (98, vb (!(rAt (mAt G (E.run - 1).toNat).t.slots (E.a).toNat).wr)), (99, vb (!(rAt (mAt G (E.run - 1).toNat).t.slots (E.a).toNat).wr)), (100, vb (!(rAt (mAt G (E.run - 1).toNat).t.slots (E.a).toNat).wr)), (101, .slice (pa ag) G.length ab), (102, pt ac 0), (103, vi (rAt (mAt G (E.run - 1).toNat).t.slots (E.a).toNat).th), (104, vi ((rAt (mAt G (E.run - 1).toNat).t.slots (E.a).toNat).th - 1)), (105, pt da bw), (106, pt da (bw + 1)), (107, .agg #[vi (mAt G ((rAt (mAt G (E.run - 1).toNat).t.slots (E.a).toNat).th - 1).toNat).t.lab.s, vi (mAt G ((rAt (mAt G (E.run - 1).toNat).t.slots (E.a).toNat).th - 1).toNat).t.lab.v]), (108, .slice (pa ag) G.length ab), (109, pt bz 1), (110, vi E.run), (111, vi (E.run - 1)), (112, pt ef dz), (113, pt ef (dz + 1)), (114, .agg #[vi (mAt G (E.run - 1).toNat).t.lab.s, vi (mAt G (E.run - 1).toNat).t.lab.v]), (115, vb (!(decide ((mAt G ((rAt (mAt G (E.run - 1).toNat).t.slots (E.a).toNat).th - 1).toNat).t.lab = (mAt G (E.run - 1).toNat).t.lab)))), (116, vb (!(decide ((mAt G ((rAt (mAt G (E.run - 1).toNat).t.slots (E.a).toNat).th - 1).toNat).t.lab = (mAt G (E.run - 1).toNat).t.lab)))), (117, vb (!(decide ((mAt G ((rAt (mAt G (E.run - 1).toNat).t.slots (E.a).toNat).th - 1).toNat).t.lab = (mAt G (E.run - 1).toNat).t.lab)))), (118, undef), (119, undef)]) (fun w' => cv.grownBy w' none) Y0 (by kernel_rfl) (X7 _) ?_ ?_
 refine yl Z (fun _ _ k => Xd (o' := 0) Yl am Z Z k) (yl Z (fun _ gv k => Xh (v := vi (rAt (mAt G (E.run - 1).toNat).t.slots (E.a).toNat).th) Xz Z ((ad.blk.grown0 gv).cell Z) Z k) (yl Z (fun _ _ k => X3 (q := decide ((rAt (mAt G (E.run - 1).toNat).t.slots (E.a).toNat).th = 0)) Z Z Z Z k) (yl Z (fun _ _ k => Xb (v := vb (decide ((rAt (mAt G (E.run - 1).toNat).t.slots (E.a).toNat).th = 0))) Z Z k) (yl Z (fun _ _ k => Xe Z Z Z J (Xb (v := .slice (pa ag) G.length ab) au Z k)) (yl Z (fun _ _ k => Xe Z Z Z J (Xd (o' := 0) Yl am Z Z k)) (yl Z (fun _ gw k => Xe Z Z Z J (Xh (v := vi (rAt (mAt G (E.run - 1).toNat).t.slots (E.a).toNat).th) Xz Z ((ad.blk.grown0 gw).cell Z) Z k)) (yl Z (fun _ _ k => Xe Z Z Z J (Ym (c := (rAt (mAt G (E.run - 1).toNat).t.slots (E.a).toNat).th - 1) Z Z (by omega) (by omega) (by omega) Z k)) (yl Z (fun _ _ k => Xe Z Z Z J (X0 Y6 Z Z d4 d9 (by omega) (by omega) Z k)) (yl Z (fun _ _ k => Xe Z Z Z J (Xd (o' := bw) Y7 Z Z Z k)) (yl Z (fun _ gx k => Xe Z Z Z J (Xh (v := vi (mAt G ((rAt (mAt G (E.run - 1).toNat).t.slots (E.a).toNat).th - 1).toNat).t.kind) Xz Z ((Ye eb gx) 0 _ Z) Z k)) ?_))))))))))
 refine yl Z (fun _ _ k => Xe Z Z Z J (Qj (q := !(decide ((mAt G ((rAt (mAt G (E.run - 1).toNat).t.slots (E.a).toNat).th - 1).toNat).t.kind = 2))) Z Z Z Z k)) (yl Z (fun _ _ k => Xn (v := vb (!(decide ((mAt G ((rAt (mAt G (E.run - 1).toNat).t.slots (E.a).toNat).th - 1).toNat).t.kind = 2)))) Z J Z Z k) (yl Z (fun _ _ k => Xb (v := vb (!(decide ((mAt G ((rAt (mAt G (E.run - 1).toNat).t.slots (E.a).toNat).th - 1).toNat).t.kind = 2)))) Z Z k) (yl Z (fun _ _ k => Xe Z Z Z af (Xd (o' := 2) Kx am Z Z k)) (yl Z (fun _ gy k => Xe Z Z Z af (Xh (v := vb (rAt (mAt G (E.run - 1).toNat).t.slots (E.a).toNat).rd) Jn Z ((ad.blk.grown0 gy).cell Z) Z k)) (yl Z (fun _ _ k => Xe Z Z Z af (Yj (b' := !(rAt (mAt G (E.run - 1).toNat).t.slots (E.a).toNat).rd) Z Z Z k)) (yl Z (fun _ _ k => Xn (v := vb (!(rAt (mAt G (E.run - 1).toNat).t.slots (E.a).toNat).rd)) Z af Z Z k) (yl Z (fun _ _ k => Xb (v := vb (!(rAt (mAt G (E.run - 1).toNat).t.slots (E.a).toNat).rd)) Z Z k) (yl Z (fun _ _ k => Xe Z Z Z ah (Xd (o' := 3) Kb am Z Z k)) (yl Z (fun _ gz k => Xe Z Z Z ah (Xh (v := vb (rAt (mAt G (E.run - 1).toNat).t.slots (E.a).toNat).wr) Jn Z ((ad.blk.grown0 gz).cell Z) Z k)) (yl Z (fun _ _ k => Xe Z Z Z ah (Yj (b' := !(rAt (mAt G (E.run - 1).toNat).t.slots (E.a).toNat).wr) Z Z Z k)) ?_))))))))))
 refine yl Z (fun _ _ k => Xn (v := vb (!(rAt (mAt G (E.run - 1).toNat).t.slots (E.a).toNat).wr)) Z ah Z Z k) (yl Z (fun _ _ k => Xb (v := vb (!(rAt (mAt G (E.run - 1).toNat).t.slots (E.a).toNat).wr)) Z Z k) (yl Z (fun _ _ k => Xe Z Z Z V (Xb (v := .slice (pa ag) G.length ab) au Z k)) (yl Z (fun _ _ k => Xe Z Z Z V (Xd (o' := 0) Yl am Z Z k)) (yl Z (fun _ g0 k => Xe Z Z Z V (Xh (v := vi (rAt (mAt G (E.run - 1).toNat).t.slots (E.a).toNat).th) Xz Z ((ad.blk.grown0 g0).cell Z) Z k)) (yl Z (fun _ _ k => Xe Z Z Z V (Ym (c := (rAt (mAt G (E.run - 1).toNat).t.slots (E.a).toNat).th - 1) Z Z (by omega) (by omega) (by omega) Z k)) (yl Z (fun _ _ k => Xe Z Z Z V (X0 Y6 Z Z d4 d9 (by omega) (by omega) Z k)) (yl Z (fun _ _ k => Xe Z Z Z V (Xd (o' := bw + 1) J6 Z Z Z k)) (yl Z (fun _ g5 k => Xe Z Z Z V (Xq (vs := [vi (mAt G ((rAt (mAt G (E.run - 1).toNat).t.slots (E.a).toNat).th - 1).toNat).t.lab.s, vi (mAt G ((rAt (mAt G (E.run - 1).toNat).t.slots (E.a).toNat).th - 1).toNat).t.lab.v]) J5 Z Z (Y3 (Ye eb g5) 1 2 Z) Z k)) (yl Z (fun _ _ k => Xe Z Z Z V (Xb (v := .slice (pa ag) G.length ab) au Z k)) (yl Z (fun _ _ k => Xe Z Z Z V (Xd (o' := 1) Y9 ca Z Z k)) ?_))))))))))
 exact yl Z (fun _ g6 k => Xe Z Z Z V (Xh (v := vi E.run) Xz Z (((((ct.grown0 ar).grown0 ba).gn ad.grw).grown0 g6).cell Z) Z k)) (yl Z (fun _ _ k => Xe Z Z Z V (Ym (c := E.run - 1) Z Z (by omega) (by omega) (by omega) Z k)) (yl Z (fun _ _ k => Xe Z Z Z V (X0 Y6 Z Z gb iv (by omega) (by omega) Z k)) (yl Z (fun _ _ k => Xe Z Z Z V (Xd (o' := dz + 1) J6 Z Z Z k)) (yl Z (fun _ g7 k => Xe Z Z Z V (Xq (vs := [vi (mAt G (E.run - 1).toNat).t.lab.s, vi (mAt G (E.run - 1).toNat).t.lab.v]) J5 Z Z (Y3 (Ye i1 g7) 1 2 Z) Z k)) (yl Z (fun _ _ k => Xe Z Z Z V (V9 (q := !(decide ((mAt G ((rAt (mAt G (E.run - 1).toNat).t.slots (E.a).toNat).th - 1).toNat).t.lab = (mAt G (E.run - 1).toNat).t.lab))) Z Z (L3 _ _ (mAt G ((rAt (mAt G (E.run - 1).toNat).t.slots (E.a).toNat).th - 1).toNat).t.lab (mAt G (E.run - 1).toNat).t.lab _) (L4 (mAt G ((rAt (mAt G (E.run - 1).toNat).t.slots (E.a).toNat).th - 1).toNat).t.lab (mAt G (E.run - 1).toNat).t.lab _) Z Z k)) (yl Z (fun _ _ k => Xn (v := vb (!(decide ((mAt G ((rAt (mAt G (E.run - 1).toNat).t.slots (E.a).toNat).th - 1).toNat).t.lab = (mAt G (E.run - 1).toNat).t.lab)))) Z V Z Z k) (yl Z (fun _ _ k => Xb (v := vb (!(decide ((mAt G ((rAt (mAt G (E.run - 1).toNat).t.slots (E.a).toNat).th - 1).toNat).t.lab = (mAt G (E.run - 1).toNat).t.lab)))) Z Z k) (yl Z (fun _ _ k => Xi Z Z Z al Z k) (yl Z (fun _ _ k => Xi Z Z Z al Z k) Y2)))))))))
 intro pn g8
 exact Xi Z Z Z al Z (Xi Z Z Z al Z (Xo (v := vb true) Z al Z Z (Xc (Xv ⟨⟨cz, c8, au, ca, (congrArg Value.bool (by first | (simp only [dc, az, bc, al, du, bd, a8, ap, J, af, bp, ah, c9, V, an, aq, ak, b0, b1, b2, b3, b4, b5, b6, b7, b8, b9]; done) | simp [dc, az, bc, al, du, bd, a8, ap, J, af, bp, ah, c9, V, an, aq, ak]))⟩, g8⟩))))
 have dv := Qu al
 have o5 := of_decide_eq_true dv
 have cg := (TabG.ge (TabG.low aw ba) ad.grw cc (by omega))
 obtain ⟨db, pg, bx, d5, ea, ed⟩ := SlAt.at (TabG.at cg).1 (Yk (xg G ((rAt (mAt G (E.run - 1).toNat).t.slots (E.a).toNat).th - 1).toNat))
 have ng := TabLen.at aj (xg G ((rAt (mAt G (E.run - 1).toNat).t.slots (E.a).toNat).th - 1).toNat)
 obtain ⟨eg, ph, d0, gc, iw, i2⟩ := SlAt.at (TabG.at cg).1 (Yk (xg G (E.run - 1).toNat))
 have nh := TabLen.at aj (xg G (E.run - 1).toNat)
 refine Yt (m := 43) (vals := [(77, pt ac 0), (78, vi (rAt (mAt G (E.run - 1).toNat).t.slots (E.a).toNat).th), (79, vb (decide ((rAt (mAt G (E.run - 1).toNat).t.slots (E.a).toNat).th = 0))), (80, vb (decide ((rAt (mAt G (E.run - 1).toNat).t.slots (E.a).toNat).th = 0))), (81, .slice (pa ag) G.length ab), (82, pt ac 0), (83, vi (rAt (mAt G (E.run - 1).toNat).t.slots (E.a).toNat).th), (84, vi ((rAt (mAt G (E.run - 1).toNat).t.slots (E.a).toNat).th - 1)), (85, pt db bx), (86, pt db bx), (87, vi (mAt G ((rAt (mAt G (E.run - 1).toNat).t.slots (E.a).toNat).th - 1).toNat).t.kind), (88, vb (!(decide ((mAt G ((rAt (mAt G (E.run - 1).toNat).t.slots (E.a).toNat).th - 1).toNat).t.kind = 2)))), (89, vb (!(decide ((mAt G ((rAt (mAt G (E.run - 1).toNat).t.slots (E.a).toNat).th - 1).toNat).t.kind = 2)))), (90, vb (!(decide ((mAt G ((rAt (mAt G (E.run - 1).toNat).t.slots (E.a).toNat).th - 1).toNat).t.kind = 2)))), (91, pt ac 2), (92, vb (rAt (mAt G (E.run - 1).toNat).t.slots (E.a).toNat).rd), (93, vb (!(rAt (mAt G (E.run - 1).toNat).t.slots (E.a).toNat).rd)), (94, vb (!(rAt (mAt G (E.run - 1).toNat).t.slots (E.a).toNat).rd)), (95, vb (!(rAt (mAt G (E.run - 1).toNat).t.slots (E.a).toNat).rd)), (96, pt ac 3), (97, vb (rAt (mAt G (E.run - 1).toNat).t.slots (E.a).toNat).wr), (98, vb (!(rAt (mAt G (E.run - 1).toNat).t.slots (E.a).toNat).wr)), (99, vb (!(rAt (mAt G (E.run - 1).toNat).t.slots (E.a).toNat).wr)), (100, vb (!(rAt (mAt G (E.run - 1).toNat).t.slots (E.a).toNat).wr)), (101, .slice (pa ag) G.length ab), (102, pt ac 0), (103, vi (rAt (mAt G (E.run - 1).toNat).t.slots (E.a).toNat).th), (104, vi ((rAt (mAt G (E.run - 1).toNat).t.slots (E.a).toNat).th - 1)), (105, pt db bx), (106, pt db (bx + 1)), (107, .agg #[vi (mAt G ((rAt (mAt G (E.run - 1).toNat).t.slots (E.a).toNat).th - 1).toNat).t.lab.s, vi (mAt G ((rAt (mAt G (E.run - 1).toNat).t.slots (E.a).toNat).th - 1).toNat).t.lab.v]), (108, .slice (pa ag) G.length ab), (109, pt bz 1), (110, vi E.run), (111, vi (E.run - 1)), (112, pt eg d0), (113, pt eg (d0 + 1)), (114, .agg #[vi (mAt G (E.run - 1).toNat).t.lab.s, vi (mAt G (E.run - 1).toNat).t.lab.v]), (115, vb (!(decide ((mAt G ((rAt (mAt G (E.run - 1).toNat).t.slots (E.a).toNat).th - 1).toNat).t.lab = (mAt G (E.run - 1).toNat).t.lab)))), (116, vb (!(decide ((mAt G ((rAt (mAt G (E.run - 1).toNat).t.slots (E.a).toNat).th - 1).toNat).t.lab = (mAt G (E.run - 1).toNat).t.lab)))), (117, vb (!(decide ((mAt G ((rAt (mAt G (E.run - 1).toNat).t.slots (E.a).toNat).th - 1).toNat).t.lab = (mAt G (E.run - 1).toNat).t.lab)))), (118, .slice (pa ag) G.length ab), (119, .agg #[vi (rAt (mAt G (E.run - 1).toNat).t.slots (E.a).toNat).th, vi (rAt (mAt G (E.run - 1).toNat).t.slots (E.a).toNat).ve, vb (rAt (mAt G (E.run - 1).toNat).t.slots (E.a).toNat).rd, vb (rAt (mAt G (E.run - 1).toNat).t.slots (E.a).toNat).wr, vb (rAt (mAt G (E.run - 1).toNat).t.slots (E.a).toNat).wk])]) (fun w' => cv.grownBy w' none) Y0 (by kernel_rfl) (X7 _) ?_ ?_
 refine yl Z (fun _ _ k => Xd (o' := 0) Yl am Z Z k) (yl Z (fun _ g9 k => Xh (v := vi (rAt (mAt G (E.run - 1).toNat).t.slots (E.a).toNat).th) Xz Z ((ad.blk.grown0 g9).cell Z) Z k) (yl Z (fun _ _ k => X3 (q := decide ((rAt (mAt G (E.run - 1).toNat).t.slots (E.a).toNat).th = 0)) Z Z Z Z k) (yl Z (fun _ _ k => Xb (v := vb (decide ((rAt (mAt G (E.run - 1).toNat).t.slots (E.a).toNat).th = 0))) Z Z k) (yl Z (fun _ _ k => Xe Z Z Z J (Xb (v := .slice (pa ag) G.length ab) au Z k)) (yl Z (fun _ _ k => Xe Z Z Z J (Xd (o' := 0) Yl am Z Z k)) (yl Z (fun _ ia k => Xe Z Z Z J (Xh (v := vi (rAt (mAt G (E.run - 1).toNat).t.slots (E.a).toNat).th) Xz Z ((ad.blk.grown0 ia).cell Z) Z k)) (yl Z (fun _ _ k => Xe Z Z Z J (Ym (c := (rAt (mAt G (E.run - 1).toNat).t.slots (E.a).toNat).th - 1) Z Z (by omega) (by omega) (by omega) Z k)) (yl Z (fun _ _ k => Xe Z Z Z J (X0 Y6 Z Z d5 ea (by omega) (by omega) Z k)) (yl Z (fun _ _ k => Xe Z Z Z J (Xd (o' := bx) Y7 Z Z Z k)) (yl Z (fun _ ib k => Xe Z Z Z J (Xh (v := vi (mAt G ((rAt (mAt G (E.run - 1).toNat).t.slots (E.a).toNat).th - 1).toNat).t.kind) Xz Z ((Ye ed ib) 0 _ Z) Z k)) ?_))))))))))
 refine yl Z (fun _ _ k => Xe Z Z Z J (Qj (q := !(decide ((mAt G ((rAt (mAt G (E.run - 1).toNat).t.slots (E.a).toNat).th - 1).toNat).t.kind = 2))) Z Z Z Z k)) (yl Z (fun _ _ k => Xn (v := vb (!(decide ((mAt G ((rAt (mAt G (E.run - 1).toNat).t.slots (E.a).toNat).th - 1).toNat).t.kind = 2)))) Z J Z Z k) (yl Z (fun _ _ k => Xb (v := vb (!(decide ((mAt G ((rAt (mAt G (E.run - 1).toNat).t.slots (E.a).toNat).th - 1).toNat).t.kind = 2)))) Z Z k) (yl Z (fun _ _ k => Xe Z Z Z af (Xd (o' := 2) Kx am Z Z k)) (yl Z (fun _ ic k => Xe Z Z Z af (Xh (v := vb (rAt (mAt G (E.run - 1).toNat).t.slots (E.a).toNat).rd) Jn Z ((ad.blk.grown0 ic).cell Z) Z k)) (yl Z (fun _ _ k => Xe Z Z Z af (Yj (b' := !(rAt (mAt G (E.run - 1).toNat).t.slots (E.a).toNat).rd) Z Z Z k)) (yl Z (fun _ _ k => Xn (v := vb (!(rAt (mAt G (E.run - 1).toNat).t.slots (E.a).toNat).rd)) Z af Z Z k) (yl Z (fun _ _ k => Xb (v := vb (!(rAt (mAt G (E.run - 1).toNat).t.slots (E.a).toNat).rd)) Z Z k) (yl Z (fun _ _ k => Xe Z Z Z ah (Xd (o' := 3) Kb am Z Z k)) (yl Z (fun _ ie k => Xe Z Z Z ah (Xh (v := vb (rAt (mAt G (E.run - 1).toNat).t.slots (E.a).toNat).wr) Jn Z ((ad.blk.grown0 ie).cell Z) Z k)) (yl Z (fun _ _ k => Xe Z Z Z ah (Yj (b' := !(rAt (mAt G (E.run - 1).toNat).t.slots (E.a).toNat).wr) Z Z Z k)) ?_))))))))))
 refine yl Z (fun _ _ k => Xn (v := vb (!(rAt (mAt G (E.run - 1).toNat).t.slots (E.a).toNat).wr)) Z ah Z Z k) (yl Z (fun _ _ k => Xb (v := vb (!(rAt (mAt G (E.run - 1).toNat).t.slots (E.a).toNat).wr)) Z Z k) (yl Z (fun _ _ k => Xe Z Z Z V (Xb (v := .slice (pa ag) G.length ab) au Z k)) (yl Z (fun _ _ k => Xe Z Z Z V (Xd (o' := 0) Yl am Z Z k)) (yl Z (fun _ ig k => Xe Z Z Z V (Xh (v := vi (rAt (mAt G (E.run - 1).toNat).t.slots (E.a).toNat).th) Xz Z ((ad.blk.grown0 ig).cell Z) Z k)) (yl Z (fun _ _ k => Xe Z Z Z V (Ym (c := (rAt (mAt G (E.run - 1).toNat).t.slots (E.a).toNat).th - 1) Z Z (by omega) (by omega) (by omega) Z k)) (yl Z (fun _ _ k => Xe Z Z Z V (X0 Y6 Z Z d5 ea (by omega) (by omega) Z k)) (yl Z (fun _ _ k => Xe Z Z Z V (Xd (o' := bx + 1) J6 Z Z Z k)) (yl Z (fun _ ii k => Xe Z Z Z V (Xq (vs := [vi (mAt G ((rAt (mAt G (E.run - 1).toNat).t.slots (E.a).toNat).th - 1).toNat).t.lab.s, vi (mAt G ((rAt (mAt G (E.run - 1).toNat).t.slots (E.a).toNat).th - 1).toNat).t.lab.v]) J5 Z Z (Y3 (Ye ed ii) 1 2 Z) Z k)) (yl Z (fun _ _ k => Xe Z Z Z V (Xb (v := .slice (pa ag) G.length ab) au Z k)) (yl Z (fun _ _ k => Xe Z Z Z V (Xd (o' := 1) Y9 ca Z Z k)) ?_))))))))))
 exact yl Z (fun _ ij k => Xe Z Z Z V (Xh (v := vi E.run) Xz Z (((((ct.grown0 ar).grown0 ba).gn ad.grw).grown0 ij).cell Z) Z k)) (yl Z (fun _ _ k => Xe Z Z Z V (Ym (c := E.run - 1) Z Z (by omega) (by omega) (by omega) Z k)) (yl Z (fun _ _ k => Xe Z Z Z V (X0 Y6 Z Z gc iw (by omega) (by omega) Z k)) (yl Z (fun _ _ k => Xe Z Z Z V (Xd (o' := d0 + 1) J6 Z Z Z k)) (yl Z (fun _ ik k => Xe Z Z Z V (Xq (vs := [vi (mAt G (E.run - 1).toNat).t.lab.s, vi (mAt G (E.run - 1).toNat).t.lab.v]) J5 Z Z (Y3 (Ye i2 ik) 1 2 Z) Z k)) (yl Z (fun _ _ k => Xe Z Z Z V (V9 (q := !(decide ((mAt G ((rAt (mAt G (E.run - 1).toNat).t.slots (E.a).toNat).th - 1).toNat).t.lab = (mAt G (E.run - 1).toNat).t.lab))) Z Z (L3 _ _ (mAt G ((rAt (mAt G (E.run - 1).toNat).t.slots (E.a).toNat).th - 1).toNat).t.lab (mAt G (E.run - 1).toNat).t.lab _) (L4 (mAt G ((rAt (mAt G (E.run - 1).toNat).t.slots (E.a).toNat).th - 1).toNat).t.lab (mAt G (E.run - 1).toNat).t.lab _) Z Z k)) (yl Z (fun _ _ k => Xn (v := vb (!(decide ((mAt G ((rAt (mAt G (E.run - 1).toNat).t.slots (E.a).toNat).th - 1).toNat).t.lab = (mAt G (E.run - 1).toNat).t.lab)))) Z V Z Z k) (yl Z (fun _ _ k => Xb (v := vb (!(decide ((mAt G ((rAt (mAt G (E.run - 1).toNat).t.slots (E.a).toNat).th - 1).toNat).t.lab = (mAt G (E.run - 1).toNat).t.lab)))) Z Z k) (yl Z (fun _ _ k => Xe Z Z Z al (Xb (v := .slice (pa ag) G.length ab) au Z k)) (yl Z (fun _ il k => Xe Z Z Z al (Xq (vs := [vi (rAt (mAt G (E.run - 1).toNat).t.slots (E.a).toNat).th, vi (rAt (mAt G (E.run - 1).toNat).t.slots (E.a).toNat).ve, vb (rAt (mAt G (E.run - 1).toNat).t.slots (E.a).toNat).rd, vb (rAt (mAt G (E.run - 1).toNat).t.slots (E.a).toNat).wr, vb (rAt (mAt G (E.run - 1).toNat).t.slots (E.a).toNat).wk]) Yz am Z ((ad.blk.grown0 il).rangeL 0 5 Z) Z k)) Y2)))))))))
 intro po d8
 refine Xe Z Z Z al (Xm Db (Xg Z (Xg Z Xl)) Z (H1 (rAt (mAt G (E.run - 1).toNat).t.slots (E.a).toNat) _ G _ _ (TabG.at (TabG.low cg d8)) aj (by omega)) ?_)
 rintro _ pp ⟨rfl, gq⟩
 exact Xe Z Z Z al (Yj (b' := !tabLive (tabT G) (rAt (mAt G (E.run - 1).toNat).t.slots (E.a).toNat)) Z Z Z (Xn (v := vb (!tabLive (tabT G) (rAt (mAt G (E.run - 1).toNat).t.slots (E.a).toNat))) Z al Z Z (Xc (Xv ⟨⟨cz, c8, au, ca, (congrArg Value.bool (by first | (simp only [dc, az, bc, al, bd, dv, a8, ap, J, af, bp, ah, c9, V, an, aq, ak, b0, b1, b2, b3, b4, b5, b6, b7, b8, b9]; done) | simp [dc, az, bc, al, bd, dv, a8, ap, J, af, bp, ah, c9, V, an, aq, ak]))⟩, (grown_trans d8 gq)⟩))))
 rintro o3 pq ⟨⟨jj, o1, ei, bt, jk⟩, bq⟩
 have dg := low0 (low1 (low0 dx ba) ad.grw (by omega)) bq
 refine X2 jk (fun dw => ?_) (fun dw => ?_)
 refine Xa (Xf (v := vb true) Z Z (Xc (Xt (Yo (⟨vb true, Yx Z Z, ?_, dg⟩)))))
 rfl
 have ej := J3 dw
 have ek := J3 ej
 have em := J3 ek
 have eo := J3 em
 have ep := J3 eo
 have o6 := of_decide_eq_false ep
 have jl := J4 eo
 have eu := Qu jl
 have o7 := of_decide_eq_true eu
 have jm := J4 em
 have jo := Qu jm
 have jp := J4 ek
 have jq := Qu jp
 have jr := J4 ej
 have ew := Qu jr
 have o8 := of_decide_eq_true ew
 have js := J4 dw
 have jt := Qu js
 refine Xy (Xv (Xa (Xb (v := .slice a2 m c2) jj Z (Yr (by kernel_rfl) Z Z (Q4 (c := (m : Int) % 4) Z Z (by omega) (by omega) (by omega) Z Z (Xf (v := vi ((m : Int) % 4)) Z Z (Xc (Xa (Xb (v := .slice (pa ag) G.length ab) ei Z (Xd (o' := 1) Y9 bt Z Z ?_))))))))))
 have dy := ((((ct.grown0 ar).grown0 ba).gn ad.grw).grown0 bq)
 refine Xh (v := vi E.run) Xz Z (dy.cell Z) Z (Ym (c := E.run - 1) Z Z (by omega) (by omega) (by omega) Z ?_)
 have cj := (TabG.low (TabG.ge (TabG.low aw ba) ad.grw cc (by omega)) bq)
 obtain ⟨oz, pi, kz, gf, ix, i3⟩ := SlAt.at (TabG.at cj).1 (Yk (xg G (E.run - 1).toNat))
 have ni := TabLen.at aj (xg G (E.run - 1).toNat)
 refine X0 Y6 Z Z gf ix (by omega) (by omega) Z (Xd (o' := kz + 5) Qi Z Z Z (Xh (v := .slice (mAt G (E.run - 1).toNat).sa (mAt G (E.run - 1).toNat).t.slots.length (mAt G (E.run - 1).toNat).sc) Jd Z (i3 5 _ Z) Z (Xb (v := vi ((m : Int) % 4)) Z Z ?_)))
 obtain ⟨o0, pj, pd, gg, iy, i4⟩ := SlAt.at (TabAt.th (TabG.at cj) (xg G (E.run - 1).toNat)).1 (Yk (xr (mAt G (E.run - 1).toNat).t.slots ((m : Int) % 4).toNat))
 have nv := Vg an (lq (E.run - 1).toNat G.length) (show ((m : Int) % 4).toNat < (mAt G (E.run - 1).toNat).t.slots.length by omega)
 refine X0 J9 Z Z gg iy (by omega) (by omega) Z (Xq (vs := [vi (rAt (mAt G (E.run - 1).toNat).t.slots ((m : Int) % 4).toNat).th, vi (rAt (mAt G (E.run - 1).toNat).t.slots ((m : Int) % 4).toNat).ve, vb (rAt (mAt G (E.run - 1).toNat).t.slots ((m : Int) % 4).toNat).rd, vb (rAt (mAt G (E.run - 1).toNat).t.slots ((m : Int) % 4).toNat).wr, vb (rAt (mAt G (E.run - 1).toNat).t.slots ((m : Int) % 4).toNat).wk]) Yz Z Z (Y3 i4 0 5 Z) Z (Yf (cs := #[vi 0, vi 0, vb false, vb false, vb false]) K7 Z Z ?_))
 intro jh pr av
 have nd := Yi av dg
 have k5 : hi ≤ jh := nt (nt (nt (nt (Nat.le_of_eq hhi) ba.size) ad.grw.size) bq.size) (Nat.le_of_eq av.eq.symm)
 have fo := Xr av (dy).lt
 have fi := (ad.blk.grown0 bq)
 have fp := Xr av (fi).lt
 refine Xx (vs := [vi (rAt (mAt G (E.run - 1).toNat).t.slots ((m : Int) % 4).toNat).th, vi (rAt (mAt G (E.run - 1).toNat).t.slots ((m : Int) % 4).toNat).ve, vb (rAt (mAt G (E.run - 1).toNat).t.slots ((m : Int) % 4).toNat).rd, vb (rAt (mAt G (E.run - 1).toNat).t.slots ((m : Int) % 4).toNat).wr, vb (rAt (mAt G (E.run - 1).toNat).t.slots ((m : Int) % 4).toNat).wk]) (cs' := #[vi (rAt (mAt G (E.run - 1).toNat).t.slots ((m : Int) % 4).toNat).th, vi (rAt (mAt G (E.run - 1).toNat).t.slots ((m : Int) % 4).toNat).ve, vb (rAt (mAt G (E.run - 1).toNat).t.slots ((m : Int) % 4).toNat).rd, vb (rAt (mAt G (E.run - 1).toNat).t.slots ((m : Int) % 4).toNat).wr, vb (rAt (mAt G (E.run - 1).toNat).t.slots ((m : Int) % 4).toNat).wk]) Yz Z Z Z (by simp [Value.oneCell']) av.blk (Nat.le_of_ble_eq_true Z) Z ?_
 intro pu bh
 have d6 := low1 (low0 dg av.grw) bh.grw (by omega)
 refine Xc (Xa (Xb (v := .slice (pa ag) G.length ab) ei Z (Xd (o' := 1) Y9 bt Z Z ?_)))
 have dl := ((dy.grown0 av.grw).gn bh.grw)
 refine Xh (v := vi E.run) Xz Z (dl.cell Z) Z (Xd (o' := 2) Ju bt Z Z (Xh (v := vi E.a) Xz Z (dl.cell Z) Z (Xb (v := vi ((m : Int) % 4)) Z Z (Ys (ps := [(0, vi 5), (1, vi E.run), (2, vi E.a), (3, vi ((m : Int) % 4)), (4, vi 2)]) (v := .agg #[vi 5, vi E.run, vi E.a, vi ((m : Int) % 4), vi 2]) (Xj Z (Xj Z (Xj Z (Xj Z (Xj Z X5))))) (by kernel_rfl) Z ?_))))
 have nk := (dl).lt
 have fj := ((fi.grown0 av.grw).gn bh.grw)
 have nn := (fj).lt
 have no := (bh.blk).lt
 refine Xm Ks (Xg Z (Xg Z Xl)) Z (Jq ⟨5, E.run, E.a, (m : Int) % 4, 2⟩ _ G _ _ (TabG.at (TabG.ge (TabG.low cj av.grw) bh.grw cc (by omega))) aj (by omega) (ErrT.grown0 hE d6)) ?_
 rintro _ k4 ⟨dn, bn, ae, rfl, dr, bi, ce⟩
 have d7 := low0 d6 ce
 obtain ⟨rh, m9⟩ : ∃ n, n = k4.heap.size := ⟨_, rfl⟩
 have m7 := TabG.hi dr
 rw [← m9] at m7
 have e0 := Qn bi
 have nw := Y8 bi
 have gj : callOk ⟨5, E.run, E.a, (m : Int) % 4, 2⟩ = true := Kk (by omega)
 have cf : callPoss (tabT G) ⟨5, E.run, E.a, (m : Int) % 4, 2⟩ = true := Vo ap gj rfl
 have nx : ae.length = G.length := Qm bi cf
 have mz : (mAt ae (E.run - 1).toNat).t.slots.length = 4 := Kr (q := ⟨5, E.run, E.a, (m : Int) % 4, 2⟩) bi cf
 refine Xb (v := .tuple #[.slice dn ae.length bn, vi (callDo (tabT G) ⟨5, E.run, E.a, (m : Int) % 4, 2⟩).2]) Z Z (X1 (v := .slice dn ae.length bn) Z Z Z (X1 (v := vi (callDo (tabT G) ⟨5, E.run, E.a, (m : Int) % 4, 2⟩).2) Z Z Z (Xf (v := .slice dn ae.length bn) Z Z (Xf (v := vi (callDo (tabT G) ⟨5, E.run, E.a, (m : Int) % 4, 2⟩).2) Z Z (Xc (Xa (Xb (v := .slice dn ae.length bn) Z Z (Xd (o' := 1) Y9 bt Z Z ?_))))))))
 have dm := (dl.grown0 ce)
 refine Xh (v := vi E.run) Xz Z (dm.cell Z) Z (Xd (o' := 2) Ju bt Z Z (Xh (v := vi E.a) Xz Z (dm.cell Z) Z (Ys (ps := [(0, vi 4), (1, vi E.run), (2, vi E.a), (3, vi 3), (4, vi 2)]) (v := .agg #[vi 4, vi E.run, vi E.a, vi 3, vi 2]) (Xj Z (Xj Z (Xj Z (Xj Z (Xj Z X5))))) (by kernel_rfl) Z ?_)))
 have np := (dm).lt
 have nq := ((fj.grown0 ce)).lt
 have fk := (bh.blk.grown0 ce)
 have nr := (fk).lt
 refine Xm Ks (Xg Z (Xg Z Xl)) Z (Jq ⟨4, E.run, E.a, 3, 2⟩ _ ae _ _ (TabG.at dr) e0 (by omega) (ErrT.grown0 hE d7)) ?_
 rintro _ fv ⟨cw, be, O, rfl, ck, br, dh⟩
 obtain ⟨ri, na⟩ : ∃ n, n = fv.heap.size := ⟨_, rfl⟩
 have m8 := TabG.hi ck
 rw [← na] at m8
 have fa := Qn br
 have ny := Y8 br
 have gk : callOk ⟨4, E.run, E.a, 3, 2⟩ = true := Kk (by omega)
 have dk : callPoss (tabT ae) ⟨4, E.run, E.a, 3, 2⟩ = true := Vp bi cf gk rfl
 have n5 : O.length = ae.length := Qm br dk
 have m4 : (mAt O (E.run - 1).toNat).t.slots.length = 4 := Kr (q := ⟨4, E.run, E.a, 3, 2⟩) br dk
 have fx := C3 ap (of_decide_eq_false ep) (of_decide_eq_true eu) jo jq (of_decide_eq_true ew) jt
 obtain ⟨gl, gm, gp⟩ := P6 fx cf rfl rfl rfl bi dk rfl rfl rfl rfl br
 have di : (decide ((callDo (tabT G) ⟨5, E.run, E.a, (m : Int) % 4, 2⟩).2 = 0)) = true := decide_eq_true gl
 have ao : (decide ((callDo (tabT ae) ⟨4, E.run, E.a, 3, 2⟩).2 = 0)) = true := decide_eq_true gm
 have it : (decide ((rAt (mAt O (E.run - 1).toNat).t.slots 3) = (rAt (mAt G (E.run - 1).toNat).t.slots ((m : Int) % 4).toNat))) = true := decide_eq_true gp
 refine Xb (v := .tuple #[.slice cw O.length be, vi (callDo (tabT ae) ⟨4, E.run, E.a, 3, 2⟩).2]) Z Z (X1 (v := .slice cw O.length be) Z Z Z (X1 (v := vi (callDo (tabT ae) ⟨4, E.run, E.a, 3, 2⟩).2) Z Z Z (Xf (v := .slice cw O.length be) Z Z (Xf (v := vi (callDo (tabT ae) ⟨4, E.run, E.a, 3, 2⟩).2) Z Z (Xc (Xs ?_))))))
 obtain ⟨eh, pk, d1, gh, iz, i5⟩ := SlAt.at (TabG.at ck).1 (Yk (xg O (E.run - 1).toNat))
 have nj := TabLen.at fa (xg O (E.run - 1).toNat)
 obtain ⟨ji, pl, k0, gi, i0, i6⟩ := SlAt.at (TabAt.th (TabG.at ck) (xg O (E.run - 1).toNat)).1 (Yk (xr (mAt O (E.run - 1).toNat).t.slots 3))
 refine Yt (m := 17) (vals := [(157, vi (callDo (tabT G) ⟨5, E.run, E.a, (m : Int) % 4, 2⟩).2), (158, vb (decide ((callDo (tabT G) ⟨5, E.run, E.a, (m : Int) % 4, 2⟩).2 = 0))), (159, vb (decide ((callDo (tabT G) ⟨5, E.run, E.a, (m : Int) % 4, 2⟩).2 = 0))), (160, vi (callDo (tabT ae) ⟨4, E.run, E.a, 3, 2⟩).2), (161, vb (decide ((callDo (tabT ae) ⟨4, E.run, E.a, 3, 2⟩).2 = 0))), (162, vb (decide ((callDo (tabT ae) ⟨4, E.run, E.a, 3, 2⟩).2 = 0))), (163, vb (decide ((callDo (tabT ae) ⟨4, E.run, E.a, 3, 2⟩).2 = 0))), (164, .slice cw O.length be), (165, pt bz 1), (166, vi E.run), (167, vi (E.run - 1)), (168, pt eh d1), (169, pt eh (d1 + 5)), (170, .slice (mAt O (E.run - 1).toNat).sa (mAt O (E.run - 1).toNat).t.slots.length (mAt O (E.run - 1).toNat).sc), (171, pt ji k0), (172, .agg #[vi (rAt (mAt O (E.run - 1).toNat).t.slots 3).th, vi (rAt (mAt O (E.run - 1).toNat).t.slots 3).ve, vb (rAt (mAt O (E.run - 1).toNat).t.slots 3).rd, vb (rAt (mAt O (E.run - 1).toNat).t.slots 3).wr, vb (rAt (mAt O (E.run - 1).toNat).t.slots 3).wk]), (173, .agg #[vi (rAt (mAt G (E.run - 1).toNat).t.slots ((m : Int) % 4).toNat).th, vi (rAt (mAt G (E.run - 1).toNat).t.slots ((m : Int) % 4).toNat).ve, vb (rAt (mAt G (E.run - 1).toNat).t.slots ((m : Int) % 4).toNat).rd, vb (rAt (mAt G (E.run - 1).toNat).t.slots ((m : Int) % 4).toNat).wr, vb (rAt (mAt G (E.run - 1).toNat).t.slots ((m : Int) % 4).toNat).wk])]) (fun w' => fv.grownBy w' none) Y0 (by kernel_rfl) (X7 _) ?_ ?_
 refine yl Z (fun _ _ k => Xb (v := vi (callDo (tabT G) ⟨5, E.run, E.a, (m : Int) % 4, 2⟩).2) Z Z k) (yl Z (fun _ _ k => X3 (q := decide ((callDo (tabT G) ⟨5, E.run, E.a, (m : Int) % 4, 2⟩).2 = 0)) Z Z Z Z k) (yl Z (fun _ _ k => Xb (v := vb (decide ((callDo (tabT G) ⟨5, E.run, E.a, (m : Int) % 4, 2⟩).2 = 0))) Z Z k) (yl Z (fun _ _ k => Xe Z Z Z di (Xb (v := vi (callDo (tabT ae) ⟨4, E.run, E.a, 3, 2⟩).2) Z Z k)) (yl Z (fun _ _ k => Xe Z Z Z di (X3 (q := decide ((callDo (tabT ae) ⟨4, E.run, E.a, 3, 2⟩).2 = 0)) Z Z Z Z k)) (yl Z (fun _ _ k => Xo (v := vb (decide ((callDo (tabT ae) ⟨4, E.run, E.a, 3, 2⟩).2 = 0))) Z di Z Z k) (yl Z (fun _ _ k => Xb (v := vb (decide ((callDo (tabT ae) ⟨4, E.run, E.a, 3, 2⟩).2 = 0))) Z Z k) (yl Z (fun _ _ k => Xe Z Z Z ao (Xb (v := .slice cw O.length be) Z Z k)) (yl Z (fun _ _ k => Xe Z Z Z ao (Xd (o' := 1) Y9 bt Z Z k)) (yl Z (fun _ im k => Xe Z Z Z ao (Xh (v := vi E.run) Xz Z (((dm.grown0 dh).grown0 im).cell Z) Z k)) (yl Z (fun _ _ k => Xe Z Z Z ao (Ym (c := E.run - 1) Z Z (by omega) (by omega) (by omega) Z k)) ?_))))))))))
 exact yl Z (fun _ _ k => Xe Z Z Z ao (X0 Y6 Z Z gh iz (by omega) (by omega) Z k)) (yl Z (fun _ _ k => Xe Z Z Z ao (Xd (o' := d1 + 5) Qi Z Z Z k)) (yl Z (fun _ io k => Xe Z Z Z ao (Xh (v := .slice (mAt O (E.run - 1).toNat).sa (mAt O (E.run - 1).toNat).t.slots.length (mAt O (E.run - 1).toNat).sc) Jd Z ((Ye i5 io) 5 _ Z) Z k)) (yl Z (fun _ _ k => Xe Z Z Z ao (X0 J9 Z Z gi i0 (by omega) (by omega) Z k)) (yl Z (fun _ ip k => Xe Z Z Z ao (Xq (vs := [vi (rAt (mAt O (E.run - 1).toNat).t.slots 3).th, vi (rAt (mAt O (E.run - 1).toNat).t.slots 3).ve, vb (rAt (mAt O (E.run - 1).toNat).t.slots 3).rd, vb (rAt (mAt O (E.run - 1).toNat).t.slots 3).wr, vb (rAt (mAt O (E.run - 1).toNat).t.slots 3).wk]) Yz Z Z (Y3 (Ye i6 ip) 0 5 Z) Z k)) (yl Z (fun _ iq k => Xe Z Z Z ao (Xq (vs := [vi (rAt (mAt G (E.run - 1).toNat).t.slots ((m : Int) % 4).toNat).th, vi (rAt (mAt G (E.run - 1).toNat).t.slots ((m : Int) % 4).toNat).ve, vb (rAt (mAt G (E.run - 1).toNat).t.slots ((m : Int) % 4).toNat).rd, vb (rAt (mAt G (E.run - 1).toNat).t.slots ((m : Int) % 4).toNat).wr, vb (rAt (mAt G (E.run - 1).toNat).t.slots ((m : Int) % 4).toNat).wk]) Yz Z Z (((fk.grown0 dh).grown0 iq).rangeL 0 5 Z) Z k)) Y2)))))
 intro pv ir
 refine Xe Z Z Z ao (V9 (q := decide ((rAt (mAt O (E.run - 1).toNat).t.slots 3) = (rAt (mAt G (E.run - 1).toNat).t.slots ((m : Int) % 4).toNat))) Z Z (Lu _ _ (rAt (mAt O (E.run - 1).toNat).t.slots 3) (rAt (mAt G (E.run - 1).toNat).t.slots ((m : Int) % 4).toNat) _) (Ht (rAt (mAt O (E.run - 1).toNat).t.slots 3) (rAt (mAt G (E.run - 1).toNat).t.slots ((m : Int) % 4).toNat) _) Z Z (Xo (v := vb (decide ((rAt (mAt O (E.run - 1).toNat).t.slots 3) = (rAt (mAt G (E.run - 1).toNat).t.slots ((m : Int) % 4).toNat)))) Z ao Z Z (Xf (v := vb (decide ((rAt (mAt O (E.run - 1).toNat).t.slots 3) = (rAt (mAt G (E.run - 1).toNat).t.slots ((m : Int) % 4).toNat)))) Z Z (Xc (Xv (Xt (⟨vb (decide ((rAt (mAt O (E.run - 1).toNat).t.slots 3) = (rAt (mAt G (E.run - 1).toNat).t.slots ((m : Int) % 4).toNat))), Yx Z Z, ?_, (low0 (low0 d7 dh) ir)⟩)))))))
 exact congrArg Value.bool it
end Go.Proofs.YtlhhijnmacogcaaGreatDoor
end
