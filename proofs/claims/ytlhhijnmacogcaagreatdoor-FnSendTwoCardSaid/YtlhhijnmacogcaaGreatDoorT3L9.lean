/- Laws and walks: my templates, and what a program of mine (gen.py) printed out of the functions; only what the row reaches. -/
import Derived.Test.YtlhhijnmacogcaaGreatDoorT35
section
namespace Go.Dw
set_option linter.unusedVariables false
set_option linter.unusedSimpArgs false
section
variable {ts : List Th} {q : Cl}
theorem R3 (hp : callPoss ts q = true) (h0 : check1 ts q = 0) (h3 : ¬ q.kind = 3) : (1 ≤ (slotAt ts q.run q.a).th ∧ (slotAt ts q.run q.a).th ≤ (ts.length : Int)) ∧ kindFor q.kind (thAt ts (slotAt ts q.run q.a).th).kind = true ∧ (need0 q.kind = true → sees ts q.run (slotAt ts q.run q.a).th = true) := by
  have e := Qz hp
  have h := Hs (ts := ts) (q := q) (by omega) h3
  exact ⟨h.1, h.2.1, (Lp (ts := ts) (q := q) (by omega) (by omega) h3).1⟩
theorem K0 (hp : callPoss ts q = true) (h0 : check1 ts q = 0) (h3 : ¬ q.kind = 3) : FarOk ts q (slotAt ts q.run q.a) := by
  have h := R3 hp h0 h3
  obtain ⟨hT, hc, hr⟩ := Yd hp
  exact ⟨hT, hc, hr, h.1, h.2.1, h3⟩
theorem Kz (k n : Int) : (setNum ts k n).length = ts.length := Q7
theorem Sf (hp : callPoss ts q = true) : callPoss (doCall ts q).1 q = true := by
  obtain ⟨hT, hc, hr⟩ := Yd hp
  have h := Wc hp
  have hr := Qq hr
  unfold callPoss
  rw [h.1, hc, M3 (by rw [h.2.1]; exact hr.1) ((h.2.2 _ hr.1.1).trans hr.2)]
  rfl
def Kept (n : Int) (a b : Th) : Prop := (a.kind = 1 → b.num = a.num ∨ b.num = 0 ∨ b.num = n ∨ b.num = n % 2) ∧ ∀ v ∈ b.queue, v = n ∨ v ∈ a.queue
theorem Kept.refl (n : Int) (a : Th) : Kept n a a := ⟨fun _ => Or.inl rfl, fun _ h => Or.inr h⟩
section
variable {ms xs : List MTh}
theorem Wo (hp : callPoss (tabT ms) q = true) : (callDo (tabT ms) q).2 = doAns (tabT ms) q := by rw [Jb hp, Rz]
theorem Kr (ht : tabT xs = (callDo (tabT ms) q).1) (hp : callPoss (tabT ms) q = true) : (mAt xs (q.run - 1).toNat).t.slots.length = 4 := by
  have h := Sf hp
  have h2 := (Yd h)
  rw [← Jb hp, ← ht] at h2
  exact Qt h2.1 h2.2.2
theorem Dt (hp : callPoss (tabT ms) q = true) : tabLive (tabT ms) (rAt (mAt ms (q.run - 1).toNat).t.slots q.a.toNat) = live (tabT ms) (slotAt (tabT ms) q.run q.a) := by
  obtain ⟨hT, hc, hr⟩ := Yd hp
  rw [Qy, Ts hT hr]
end
end
end Go.Dw
end
section
namespace Go.Dw
set_option linter.unusedVariables false
set_option linter.unusedSimpArgs false
section
variable {ts us : List Th} {q p : Cl}
theorem Kk {k run a b n : Int} (h : (1 ≤ k ∧ k ≤ 9) ∧ (1 ≤ run ∧ run ≤ 8) ∧ (0 ≤ a ∧ a ≤ 3) ∧ (0 ≤ b ∧ b ≤ 3) ∧ 0 ≤ n ∧ n ≤ 99) : callOk ⟨k, run, a, b, n⟩ = true := by
  unfold callOk
  simp only [Bool.and_eq_true]
  exact ⟨⟨⟨⟨Qh.2 h.1, Qh.2 h.2.1⟩, Qh.2 h.2.2.1⟩, Qh.2 h.2.2.2.1⟩, Qh.2 h.2.2.2.2⟩
theorem Vo (hp : callPoss ts q = true) (hc : callOk p = true) (hr : p.run = q.run) : callPoss ts p = true := by
  obtain ⟨hT, _, hk⟩ := Yd hp
  unfold callPoss
  rw [hT, hc, hr, hk]
  rfl
theorem Wu (hp : callPoss ts q = true) (hc : callOk p = true) (hr : p.run = q.run) : callPoss (doCall ts q).1 p = true := Vo (Sf hp) hc hr
theorem Jg {k n : Int} (hk : 1 ≤ k ∧ k ≤ (ts.length : Int)) (j : Int) (hj : 1 ≤ j) : thAt (setNum ts k n) j = if j = k then { thAt ts k with num := n } else thAt ts j := by
  unfold setNum
  exact Jf hk j hj
end
end Go.Dw
end
section
namespace Go.Dw
set_option linter.unusedVariables false
set_option linter.unusedSimpArgs false
section
variable {ts : List Th} {q p : Cl}
theorem Cp {r : Rt} (hr : slotAt ts q.run q.a = r) (h0 : ¬ r.th = 0) (hk : kindFor q.kind (thAt ts r.th).kind = true) (hrd : r.rd = true) (hwr : r.wr = true) (hs : sees ts q.run r.th = true) (ht : touches ts q.run r.th = true) (hl : live ts r = true) : check1 ts q = 0 := by
  unfold check1 chk1 chk2 chk3
  rw [hr, hk, hrd, hwr, hs, ht, hl, decide_eq_false h0]
  simp
structure Free (us : List Th) (run a : Int) (r : Rt) (kd : Int) : Prop where
  slot : slotAt us run a = r
  nz : ¬ r.th = 0
  kind : (thAt us r.th).kind = kd
  rd : r.rd = true
  wr : r.wr = true
  sees : sees us run r.th = true
  touches : touches us run r.th = true
  live : live us r = true
theorem Nw (l : Lab) (h : labelOk l = true) : flow l l = true := by
  unfold flow l1In
  simp
theorem Free.check {us : List Th} {run a kd : Int} {r : Rt} (h : Free us run a r kd) (hr : p.run = run) (ha : p.a = a) (hk : kindFor p.kind kd = true) : check1 us p = 0 :=
  Cp (r := r) (by rw [hr, ha]; exact h.slot) h.nz (by rw [h.kind]; exact hk) h.rd h.wr (by rw [hr]; exact h.sees) (by rw [hr]; exact h.touches) h.live
theorem Free.next {us vs : List Th} {run a kd : Int} {r : Rt} (h : Free us run a r kd) (hn : vs.length = us.length) (hs : (thAt vs run).slots = (thAt us run).slots) (hlr : (thAt vs run).lab = (thAt us run).lab) (ht : (thAt vs r.th).kind = (thAt us r.th).kind ∧ (thAt vs r.th).lab = (thAt us r.th).lab ∧ (thAt vs r.th).ve = (thAt us r.th).ve) : Free vs run a r kd := by
  refine ⟨?_, h.nz, ht.1.trans h.kind, h.rd, h.wr, ?_, ?_, ?_⟩
  · unfold slotAt; rw [hs]; exact h.slot
  · have := h.sees; unfold Go.Dw.sees at this ⊢; rw [ht.2.1, hlr]; exact this
  · have := h.touches; unfold Go.Dw.touches at this ⊢; rw [ht.2.1, hlr]; exact this
  · have := h.live; unfold Go.Dw.live at this ⊢; rw [ht.2.2, hn]; exact this
theorem Free.far {us : List Th} {a kd : Int} {r : Rt} (hp : callPoss us p = true) (h : Free us p.run a r kd) (ha : p.a = a) (hk : kindFor p.kind kd = true) (h3 : ¬ p.kind = 3) : FarOk us p r ∧ doAns us p = (Go.Dw.far us p r).2 ∧ (doCall us p).1 = setNum (Go.Dw.far us p r).1 p.run (Go.Dw.far us p r).2 := by
  have h0 := h.check rfl ha hk
  have hs : slotAt us p.run p.a = r := by rw [ha]; exact h.slot
  have hF := K0 hp h0 h3
  rw [hs] at hF
  have hx := Vl hs h0 h3 h.live hF
  rw [if_pos h.sees] at hx
  exact ⟨hF, hx.1, by rw [Kn, hx.1, hx.2]⟩
theorem Gw {us : List Th} {k : Int} {ns : List Int} (hk : 1 ≤ k ∧ k ≤ (us.length : Int)) (j : Int) (hj : 1 ≤ j) : thAt (setQ us k ns) j = if j = k then { thAt us k with queue := ns } else thAt us j := by
  unfold setQ
  exact Jf hk j hj
theorem Free.send {us : List Th} {a : Int} {r : Rt} (hp : callPoss us p = true) (h : Free us p.run a r 4) (ha : p.a = a) (hk : p.kind = 6) (hl : (thAt us r.th).queue.length < 3) : doAns us p = 0 ∧ Free (doCall us p).1 p.run a r 4 ∧ (thAt (doCall us p).1 r.th).queue = (thAt us r.th).queue ++ [p.n] := by
  obtain ⟨hF, hA, hX⟩ := Free.far hp h ha (by unfold kindFor; rw [hk]; rfl) (by omega)
  have hrun := Qq hF.run
  have hne : ¬ r.th = p.run := fun e => by have := h.kind; rw [e, hrun.2] at this; exact absurd this (by decide)
  have hf : Go.Dw.far us p r = (setQ us r.th ((thAt us r.th).queue ++ [p.n]), 0) := by
    unfold Go.Dw.far
    rw [if_neg (by omega), if_neg (by omega), if_neg (by omega), if_neg (by omega), if_pos hk, if_pos hl]
  rw [hf] at hA hX
  dsimp only at hA hX
  have hq : ((setQ us r.th ((thAt us r.th).queue ++ [p.n])).length : Int) = us.length := by unfold setQ; rw [Q7]
  have e1 : thAt (doCall us p).1 p.run = { thAt us p.run with num := 0 } := by rw [hX, Jg (by omega) _ hrun.1.1, if_pos rfl, Gw hF.th _ hrun.1.1, if_neg (Ne.symm hne)]
  have e2 : thAt (doCall us p).1 r.th = { thAt us r.th with queue := (thAt us r.th).queue ++ [p.n] } := by rw [hX, Jg (by omega) _ hF.th.1, if_neg hne, Gw hF.th _ hF.th.1, if_pos rfl]
  exact ⟨hA, h.next (by rw [hX, Kz]; unfold setQ; rw [Q7]) (by rw [e1]) (by rw [e1]) (by rw [e2]; exact ⟨rfl, rfl, rfl⟩), by rw [e2]⟩
theorem Free.take {us : List Th} {a n : Int} {l : List Int} {r : Rt} (hp : callPoss us p = true) (h : Free us p.run a r 4) (ha : p.a = a) (hk : p.kind = 7) (hl : (thAt us r.th).queue = n :: l) : doAns us p = n ∧ Free (doCall us p).1 p.run a r 4 ∧ (thAt (doCall us p).1 r.th).queue = l := by
  obtain ⟨hF, hA, hX⟩ := Free.far hp h ha (by unfold kindFor; rw [hk]; rfl) (by omega)
  have hrun := Qq hF.run
  have hne : ¬ r.th = p.run := fun e => by have := h.kind; rw [e, hrun.2] at this; exact absurd this (by decide)
  have hf : Go.Dw.far us p r = (setQ us r.th l, n) := by
    unfold Go.Dw.far
    rw [if_neg (by omega), if_neg (by omega), if_neg (by omega), if_neg (by omega), if_neg (by omega), if_pos hk, hl, if_neg (by simp)]
    rfl
  rw [hf] at hA hX
  dsimp only at hA hX
  have hq : ((setQ us r.th l).length : Int) = us.length := by unfold setQ; rw [Q7]
  have e1 : thAt (doCall us p).1 p.run = { thAt us p.run with num := n } := by rw [hX, Jg (by omega) _ hrun.1.1, if_pos rfl, Gw hF.th _ hrun.1.1, if_neg (Ne.symm hne)]
  have e2 : thAt (doCall us p).1 r.th = { thAt us r.th with queue := l } := by rw [hX, Jg (by omega) _ hF.th.1, if_neg hne, Gw hF.th _ hF.th.1, if_pos rfl]
  exact ⟨hA, h.next (by rw [hX, Kz]; unfold setQ; rw [Q7]) (by rw [e1]) (by rw [e1]) (by rw [e2]; exact ⟨rfl, rfl, rfl⟩), by rw [e2]⟩
end
section
variable {ms xs ys zs us : List MTh} {q p s t : Cl}
theorem Vp (ht : tabT xs = (callDo (tabT ms) q).1) (hp : callPoss (tabT ms) q = true) (hc : callOk p = true) (hr : p.run = q.run) : callPoss (tabT xs) p = true := by rw [ht, Jb hp]; exact Wu hp hc hr
theorem Ku (ht : tabT xs = (callDo (tabT ms) q).1) (hp : callPoss (tabT ms) q = true) : tabT xs = (doCall (tabT ms) q).1 := by rw [ht, Jb hp]
theorem C3 {kd : Int} (hp : callPoss (tabT ms) q = true) (h0 : ¬ (rAt (mAt ms (q.run - 1).toNat).t.slots q.a.toNat).th = 0) (hk : (mAt ms ((rAt (mAt ms (q.run - 1).toNat).t.slots q.a.toNat).th - 1).toNat).t.kind = kd) (hrd : (rAt (mAt ms (q.run - 1).toNat).t.slots q.a.toNat).rd = true) (hwr : (rAt (mAt ms (q.run - 1).toNat).t.slots q.a.toNat).wr = true)
    (hlb : (mAt ms ((rAt (mAt ms (q.run - 1).toNat).t.slots q.a.toNat).th - 1).toNat).t.lab = (mAt ms (q.run - 1).toNat).t.lab) (hl : tabLive (tabT ms) (rAt (mAt ms (q.run - 1).toNat).t.slots q.a.toNat) = true) : Free (tabT ms) q.run q.a (rAt (mAt ms (q.run - 1).toNat).t.slots q.a.toNat) kd := by
  obtain ⟨hT, _, hr⟩ := Yd hp
  have hrun := Qq hr
  rw [Dt hp] at hl
  have hok := (Qv (Vk hT hrun.1).1).2.1
  refine ⟨Qy.symm, h0, by rw [← Qo]; exact hk, hrd, hwr, ?_, ?_, by rw [Qy]; exact hl⟩
  · rw [← Tq, hlb]; exact Nw _ (by rw [Qo]; exact hok)
  · rw [← Hx, hlb]; exact Nw _ (by rw [Qo]; exact hok)
theorem B9 {r : Rt} (hf : Free (tabT ms) q.run q.a r 4) (hq : (mAt ms (r.th - 1).toNat).t.queue.length = 0) (h1 : callPoss (tabT ms) p = true) (e1 : p.run = q.run) (a1 : p.a = q.a) (k1 : p.kind = 6) (ht1 : tabT xs = (callDo (tabT ms) p).1)
    (h2 : callPoss (tabT xs) s = true) (e2 : s.run = q.run) (a2 : s.a = q.a) (k2 : s.kind = 6) (ht2 : tabT ys = (callDo (tabT xs) s).1) (h3 : callPoss (tabT ys) t = true) (e3 : t.run = q.run) (a3 : t.a = q.a) (k3 : t.kind = 7) (ht3 : tabT zs = (callDo (tabT ys) t).1) (h4 : callPoss (tabT zs) t = true) :
    (callDo (tabT ys) t).2 = p.n ∧ (callDo (tabT zs) t).2 = s.n := by
  rw [Qo] at hq
  have hq := List.length_eq_zero_iff.1 hq
  obtain ⟨_, f1, q1⟩ := Free.send h1 (by rw [e1]; exact hf) a1 k1 (by rw [hq]; decide)
  rw [← Ku ht1 h1, hq] at q1
  rw [← Ku ht1 h1, e1] at f1
  obtain ⟨_, f2, q2⟩ := Free.send h2 (by rw [e2]; exact f1) a2 k2 (by rw [q1]; show (1 : Nat) < 3; decide)
  rw [← Ku ht2 h2, q1] at q2
  rw [← Ku ht2 h2, e2] at f2
  obtain ⟨r3, f3, q3⟩ := Free.take (n := p.n) (l := [s.n]) h3 (by rw [e3]; exact f2) a3 k3 (by rw [q2]; rfl)
  rw [← Ku ht3 h3] at q3
  rw [← Ku ht3 h3, e3] at f3
  obtain ⟨r4, _, _⟩ := Free.take (n := s.n) (l := []) h4 (by rw [e3]; exact f3) a3 k3 q3
  rw [Wo h3, Wo h4]
  exact ⟨r3, r4⟩
end
end Go.Dw
end
section
namespace Go.Proofs.YtlhhijnmacogcaaGreatDoor
open Go.RowKit Go.Dw
set_option maxRecDepth 100000
set_option maxHeartbeats 4000000
set_option linter.unusedSimpArgs false
set_option linter.unusedVariables false
theorem Ug : goFn Tryz.prog 15 = true := by kernel_rfl
theorem Uh : goFn Tryz.prog 16 = true := by kernel_rfl
theorem Ks : goFn Tryz.prog 17 = true := by kernel_rfl
theorem K6 : goFn Tryz.prog 18 = true := by kernel_rfl
theorem Ui : goFn Tryz.prog 19 = true := by kernel_rfl
theorem Db : goFn Tryz.prog 20 = true := by kernel_rfl
theorem law_FnSendTwo (bs : List Int) (a : Option Addr) (c : Nat) (w : World) (ov : SlAt w a 1 (bs.map bcell)) (hb : ∀ b ∈ bs, 0 ≤ b ∧ b ≤ 255) (hn : bs.length ≤ 9223372036854775807) (hc : bs.length ≤ c) (m : Nat) (a2 : Option Addr) (c2 : Nat) (hm : m ≤ 9223372036854775807) (hE : ErrT w) : CallsR Tryz.prog 3 #[.slice a bs.length c, .slice a2 m c2] w (fun v w' => v = .bool true ∧ w.grownBy w' none) := by
 refine Xw (n := 189) Tryz.func3 Z Tryz.ntmps3 Z ?_
 have kl := World.grownBy.refl w none
 have hs := SlAt.lt Kh (by omega) ov
 refine Xa (Xf (v := vb false) Z Z (Xc (Xs (X8 (fun f' w' => (f' 0 = .slice a bs.length c ∧ f' 1 = .slice a2 m c2 ∧ f' 4 = vb false ∧ f' 25 = vb ((decide (1048576 < (bs.length : Int))) || (decide (1048576 < (m : Int))))) ∧ w = w') ?_ ?_))))
 refine Xb (v := .slice a bs.length c) Z Z (Yr (by kernel_rfl) Z Z (Qw (q := decide (1048576 < (bs.length : Int))) Z Z Z Z (Xb (v := vb (decide (1048576 < (bs.length : Int)))) Z Z ?_)))
 rcases Yb (decide (1048576 < (bs.length : Int))) with bd | bd
 have qq := of_decide_eq_true bd
 iterate 3 refine Xi rfl rfl rfl bd rfl ?_
 exact Xo (v := vb true) Z bd Z Z (Xc ⟨⟨Z, Z, Z, (congrArg Value.bool (by first | (simp only [bd, b0, b1, b2, b3, b4, b5, b6, b7, b8, b9]; done) | simp [bd]))⟩, Z⟩)
 have qr := of_decide_eq_false bd
 exact Xe Z Z Z bd (Xb (v := .slice a2 m c2) Z Z (Xe Z Z Z bd (Yr (by kernel_rfl) Z Z (Xe Z Z Z bd (Qw (q := decide (1048576 < (m : Int))) Z Z Z Z (Xn (v := vb (decide (1048576 < (m : Int)))) Z bd Z Z (Xc ⟨⟨Z, Z, Z, (congrArg Value.bool (by first | (simp only [bd, b0, b1, b2, b3, b4, b5, b6, b7, b8, b9]; done) | simp [bd]))⟩, Z⟩)))))))
 rintro qp q8 ⟨⟨ll, lm, ln, lp⟩, rfl⟩
 refine X2 lp (fun aw => ?_) (fun aw => ?_)
 refine Xa (Xf (v := vb true) Z Z (Xc (Xt (Yo (⟨vb true, Yx Z Z, ?_, kl⟩)))))
 rfl
 have a9 := J3 aw
 have qt := of_decide_eq_false a9
 have ba := J4 aw
 have qu := of_decide_eq_false ba
 refine Xy (Xv (Xa (Xb (v := .slice a bs.length c) ll Z (Xm Ug (Xg Z Xl) Z (Kp bs a c _ (SlAt.low ov kl) hb (by omega) (by omega)) ?_))))
 rintro _ q9 ⟨ae, ab, G, E, rfl, cm, g7, o7, p0, km⟩
 have gg := low0 kl km
 have am := g7.len
 refine Xb (v := .tuple #[.slice (pa ae) G.length ab, .agg #[vi E.kind, vi E.run, vi E.a, vi E.b, vi E.n]]) Z Z (X1 (v := .slice (pa ae) G.length ab) Z Z Z (X1 (v := .agg #[vi E.kind, vi E.run, vi E.a, vi E.b, vi E.n]) Z Z Z (Yf (cs := #[vi 0, vi 0, vi 0, vi 0, vi 0]) Wa Z Z ?_)))
 intro cy ra bb
 have pb := Yi bb gg
 refine Xf (v := .slice (pa ae) G.length ab) Z Z (Xx (vs := [vi E.kind, vi E.run, vi E.a, vi E.b, vi E.n]) (cs' := #[vi E.kind, vi E.run, vi E.a, vi E.b, vi E.n]) Y1 Z Z Z (by simp [Value.oneCell']) bb.blk (Nat.le_of_ble_eq_true Z) Z ?_)
 intro rb bi
 refine Xc (Xa (Xb (v := .slice (pa ae) G.length ab) Z Z (Xq (vs := [vi E.kind, vi E.run, vi E.a, vi E.b, vi E.n]) Y1 Z Z (bi.blk.rangeL 0 5 Z) Z ?_)))
 have pg := (bi.blk).lt
 refine Xm Uh (Xg Z (Xg Z Xl)) Z (Vr E _ G _ _ (TabG.at (TabG.low cm (low1 bb.grw bi.grw (nt ((World.grownBy.refl _ none)).size (Nat.le_of_eq bb.eq.symm))))) am (by omega)) ?_
 rintro _ rf ⟨d8, bq, bn, rfl, g0, df, db⟩
 have gh := low0 (low1 (low0 gg bb.grw) bi.grw (by omega)) db
 have eu := Qn df
 have pk := Y8 df
 refine Xb (v := .tuple #[.slice (pa d8) bn.length bq, vi (callDo (tabT G) E).2]) Z Z (X1 (v := .slice (pa d8) bn.length bq) Z Z Z (X1 (v := vi (callDo (tabT G) E).2) Z Z Z (Xf (v := .slice (pa d8) bn.length bq) Z Z (Xf (v := vi (callDo (tabT G) E).2) Z Z (Xc (Xa (Xb (v := .slice (pa ae) G.length ab) Z Z ?_)))))))
 have gq := (bi.blk.grown0 db)
 refine Xq (vs := [vi E.kind, vi E.run, vi E.a, vi E.b, vi E.n]) Y1 Z Z (gq.rangeL 0 5 Z) Z ?_
 have ph := (gq).lt
 refine Xm Ks (Xg Z (Xg Z Xl)) Z (Jq E _ G _ _ (TabG.at (TabG.low cm (low0 (low1 bb.grw bi.grw (nt ((World.grownBy.refl _ none)).size (Nat.le_of_eq bb.eq.symm))) db))) am (by omega) (ErrT.grown0 hE gh)) ?_
 rintro _ rg ⟨ee, br, bp, rfl, dn, cf, dc⟩
 have ew := Qn cf
 have pl := Y8 cf
 refine Xb (v := .tuple #[.slice ee bp.length br, vi (callDo (tabT G) E).2]) Z Z (X1 (v := .slice ee bp.length br) Z Z Z (X1 (v := vi (callDo (tabT G) E).2) Z Z Z (Xf (v := .slice ee bp.length br) Z Z (Xf (v := vi (callDo (tabT G) E).2) Z Z (Xc (Xs (Xa (Xb (v := vi (callDo (tabT G) E).2) Z Z (Xb (v := vi (callDo (tabT G) E).2) Z Z (Qj (q := false) Z Z (by simp) Z (Xb (v := vb false) Z Z (Xe Z Z Z Z ?_))))))))))))
 refine Xb (v := .slice ee bp.length br) Z Z (Xe Z Z Z Z (Xb (v := .slice (pa d8) bn.length bq) Z Z (Xe Z Z Z Z ?_)))
 have dp := (TabG.low g0 dc)
 refine Xm K6 (Xg Z (Xg Z Xl)) Z (Js _ bp bn _ _ _ _ (TabG.at dn) (TabG.at dp) ew eu (by omega) (by omega)) ?_
 rintro _ rh ⟨rfl, bj⟩
 refine Xe Z Z Z Z (Yj (b' := false) (congrArg Value.bool (decide_eq_true (cf.trans df.symm))) Z Z (Xn (v := vb false) Z Z Z Z (Xb (v := vb false) Z Z (Xe Z Z Z Z (Xb (v := .slice (pa ae) G.length ab) Z Z (Xe Z Z Z Z ?_))))))
 have dg := ((gq.grown0 dc).grown0 bj)
 refine Xq (vs := [vi E.kind, vi E.run, vi E.a, vi E.b, vi E.n]) Y1 Z Z (dg.rangeL 0 5 Z) Z (Xe Z Z Z Z (Xm Ui (Xg Z (Xg Z Xl)) Z (Ut E _ G _ _ (TabG.at (TabG.low cm (low0 (low0 (low0 (low1 bb.grw bi.grw (nt ((World.grownBy.refl _ none)).size (Nat.le_of_eq bb.eq.symm))) db) dc) bj))) am (by omega)) ?_))
 rintro _ fi ⟨rfl, a8⟩
 have ei := low0 (low0 (low0 gh dc) bj) a8
 refine Xe Z Z Z Z (Yj (b' := !callPoss (tabT G) E) Z Z Z (Xn (v := vb (!callPoss (tabT G) E)) Z Z Z Z (Xc (X2 Z (fun az => ?_) (fun az => ?_)))))
 have qv := Jm az
 refine Xa (Xb (v := vi (callDo (tabT G) E).2) Z Z (Xb (v := vi (callDo (tabT G) E).2) Z Z (X3 (q := true) Z Z (by simp) Z (Xb (v := vb true) Z Z (Xe Z Z Z Z (Xb (v := .slice ee bp.length br) Z Z (Xe Z Z Z Z (Xb (v := .slice (pa d8) bn.length bq) Z Z (Xe Z Z Z Z (Xm K6 (Xg Z (Xg Z Xl)) Z (Js _ bp bn _ _ _ _ (TabG.at (TabG.low (TabG.low dn bj) a8)) (TabG.at (TabG.low (TabG.low dp bj) a8)) ew eu (by omega) (by omega)) ?_))))))))))
 rintro _ ri ⟨rfl, kn⟩
 refine Xo (v := vb true) Z Z (congrArg Value.bool (decide_eq_true (cf.trans df.symm))) Z (Xf (v := vb true) Z Z (Xc (Xt (Yo (⟨vb true, Yx Z Z, ?_, (low0 ei kn)⟩)))))
 rfl
 have aq := Qu az
 obtain ⟨ap, ar, aj⟩ := Yd aq
 have o8 := Yw ar
 have o9 := (Y5 aj).1
 have pz := Qt ap aj
 have pi := Jk ap
 have hde := Jb aq
 have hrk := Qq (Yd aq).2.2
 have pm := Qm df aq
 have pn := Qm cf aq
 obtain ⟨hi, hhi⟩ : ∃ n, n = fi.heap.size := ⟨_, rfl⟩
 have av := (TabG.low cm (low0 (low0 (low0 (low0 (low1 bb.grw bi.grw (nt ((World.grownBy.refl _ none)).size (Nat.le_of_eq bb.eq.symm))) db) dc) bj) a8))
 have ck := TabG.hi av
 rw [← hhi] at ck
 have nk := TabG.hi (TabG.low (TabG.low dp bj) a8)
 rw [← hhi] at nk
 have nn := TabG.hi (TabG.low (TabG.low dn bj) a8)
 rw [← hhi] at nn
 have o6 := Kr cf aq
 refine Xy (Xv (Xs ?_))
 obtain ⟨jz, q4, gw, ki, k9, ld⟩ := SlAt.at (TabG.at av).1 (Yk (xg G (E.run - 1).toNat))
 have pd := TabLen.at am (xg G (E.run - 1).toNat)
 obtain ⟨lk, q5, o5, kj, la, le⟩ := SlAt.at (TabAt.th (TabG.at av) (xg G (E.run - 1).toNat)).1 (Yk (xr (mAt G (E.run - 1).toNat).t.slots (E.a).toNat))
 have pj := Vg ap (lq (E.run - 1).toNat G.length) (lq (E.a).toNat (mAt G (E.run - 1).toNat).t.slots.length)
 have p8 : hi ≤ fi.heap.size := (Nat.le_of_eq hhi)
 refine Q2 (m := 12) [[], [], [1], [1, 2], [0, 1, 2, 3], [0, 1, 2, 3, 4], [0, 1, 2, 3, 4, 5], [], [7], [0, 1, 2, 3, 4, 5, 6, 7, 8], [0, 1, 2, 3, 4, 5, 6, 7, 8, 9], [], [0, 1, 2, 3, 4, 5, 6, 7, 8, 9, 10, 11]] (fun S F w' => ∃ (ac : Nat), fi.grownBy w' none ∧ F 1 = .slice a2 m c2 ∧ F 4 = vb false ∧ F 5 = .slice (pa ae) G.length ab ∧ F 6 = pt cy 0 ∧ (S 11 = true → F 11 = pt ac 0 ∧ w.heap.size ≤ ac ∧ Blk w' ac 33 #[vi 0, vi 0, vb false, vb false, vb false] ∧ cy < ac ∧ fi.heap.size ≤ ac) ∧ Vals S F [(0, 66, .slice (pa ae) G.length ab), (1, 67, pt cy 1), (2, 68, vi E.run), (3, 69, vi (E.run - 1)), (4, 70, pt jz gw), (5, 71, pt jz (gw + 5)), (6, 72, .slice (mAt G (E.run - 1).toNat).sa (mAt G (E.run - 1).toNat).t.slots.length (mAt G (E.run - 1).toNat).sc), (7, 73, pt cy 2), (8, 74, vi E.a), (9, 75, pt lk o5), (10, 76, .agg #[vi (rAt (mAt G (E.run - 1).toNat).t.slots (E.a).toNat).th, vi (rAt (mAt G (E.run - 1).toNat).t.slots (E.a).toNat).ve, vb (rAt (mAt G (E.run - 1).toNat).t.slots (E.a).toNat).rd, vb (rAt (mAt G (E.run - 1).toNat).t.slots (E.a).toNat).wr, vb (rAt (mAt G (E.run - 1).toNat).t.slots (E.a).toNat).wk])]) Y0 (by kernel_rfl) ⟨0, X7 _, lm, ln, Z, Z, Yy, Ka _⟩ ?_ ?_
 refine Xk (fun S F rj hS hbef hcl hI => ?_) ?_
 obtain ⟨ac, ko, lu, lv, j2, lw, al, hvs⟩ := hI
 exact Xb (v := .slice (pa ae) G.length ab) j2 Z (Xc ⟨ac, ko, lu, lv, j2, lw, al, Vals.up 0 hvs Z Z Z⟩)
 refine Xk (fun S F rk hS hbef hcl hI => ?_) ?_
 obtain ⟨ac, kp, ly, lz, l0, j3, al, hvs⟩ := hI
 exact Xd (o' := 1) Y9 j3 Z Z (Xc ⟨ac, kp, ly, lz, l0, j3, al, Vals.up 1 hvs Z Z Z⟩)
 refine Xk (fun S F rl hS hbef hcl hI => ?_) ?_
 obtain ⟨ac, gi, l3, l4, l5, l6, al, hvs⟩ := hI
 exact Xh (v := vi E.run) Xz (Vals.at 1 hvs Z (Xp 1 hbef Z)) (((dg.grown0 a8).grown0 gi).cell Z) Z (Xc ⟨ac, gi, l3, l4, l5, l6, al, Vals.up 2 hvs Z Z Z⟩)
 refine Xk (fun S F rm hS hbef hcl hI => ?_) ?_
 obtain ⟨ac, kq, l7, l8, l9, ma, al, hvs⟩ := hI
 exact Ym (c := E.run - 1) (Vals.at 2 hvs Z (Xp 2 hbef Z)) Z (by omega) (by omega) (by omega) Z (Xc ⟨ac, kq, l7, l8, l9, ma, al, Vals.up 3 hvs Z Z Z⟩)
 refine Xk (fun S F rn hS hbef hcl hI => ?_) ?_
 obtain ⟨ac, kr, mb, mc, me, mf, al, hvs⟩ := hI
 exact X0 Y6 (Vals.at 0 hvs Z (Xp 0 hbef Z)) (Vals.at 3 hvs Z (Xp 3 hbef Z)) ki k9 (by omega) (by omega) Z (Xc ⟨ac, kr, mb, mc, me, mf, al, Vals.up 4 hvs Z Z Z⟩)
 refine Xk (fun S F ro hS hbef hcl hI => ?_) ?_
 obtain ⟨ac, ks, mg, mh, ml, mm, al, hvs⟩ := hI
 exact Xd (o' := gw + 5) Qi (Vals.at 4 hvs Z (Xp 4 hbef Z)) Z Z (Xc ⟨ac, ks, mg, mh, ml, mm, al, Vals.up 5 hvs Z Z Z⟩)
 refine Xk (fun S F rp hS hbef hcl hI => ?_) ?_
 obtain ⟨ac, gj, mn, mo, mp, mq, al, hvs⟩ := hI
 exact Xh (v := .slice (mAt G (E.run - 1).toNat).sa (mAt G (E.run - 1).toNat).t.slots.length (mAt G (E.run - 1).toNat).sc) Jd (Vals.at 5 hvs Z (Xp 5 hbef Z)) ((Ye ld gj) 5 _ Z) Z (Xc ⟨ac, gj, mn, mo, mp, mq, al, Vals.up 6 hvs Z Z Z⟩)
 refine Xk (fun S F rq hS hbef hcl hI => ?_) ?_
 obtain ⟨ac, kt, mr, mt, mu, j4, al, hvs⟩ := hI
 exact Xd (o' := 2) Ju j4 Z Z (Xc ⟨ac, kt, mr, mt, mu, j4, al, Vals.up 7 hvs Z Z Z⟩)
 refine Xk (fun S F rr hS hbef hcl hI => ?_) ?_
 obtain ⟨ac, gk, mv, mw, my, mz, al, hvs⟩ := hI
 exact Xh (v := vi E.a) Xz (Vals.at 7 hvs Z (Xp 7 hbef Z)) (((dg.grown0 a8).grown0 gk).cell Z) Z (Xc ⟨ac, gk, mv, mw, my, mz, al, Vals.up 8 hvs Z Z Z⟩)
 refine Xk (fun S F ru hS hbef hcl hI => ?_) ?_
 obtain ⟨ac, ku, m4, m5, m6, m7, al, hvs⟩ := hI
 exact X0 J9 (Vals.at 6 hvs Z (Xp 6 hbef Z)) (Vals.at 8 hvs Z (Xp 8 hbef Z)) kj la (by omega) (by omega) Z (Xc ⟨ac, ku, m4, m5, m6, m7, al, Vals.up 9 hvs Z Z Z⟩)
 refine Xk (fun S F rx hS hbef hcl hI => ?_) ?_
 obtain ⟨ac, gl, m8, m9, na, nb, al, hvs⟩ := hI
 exact Xq (vs := [vi (rAt (mAt G (E.run - 1).toNat).t.slots (E.a).toNat).th, vi (rAt (mAt G (E.run - 1).toNat).t.slots (E.a).toNat).ve, vb (rAt (mAt G (E.run - 1).toNat).t.slots (E.a).toNat).rd, vb (rAt (mAt G (E.run - 1).toNat).t.slots (E.a).toNat).wr, vb (rAt (mAt G (E.run - 1).toNat).t.slots (E.a).toNat).wk]) Yz (Vals.at 9 hvs Z (Xp 9 hbef Z)) Z (Y3 (Ye le gl) 0 5 Z) Z (Xc ⟨ac, gl, m8, m9, na, nb, al, Vals.up 10 hvs Z Z Z⟩)
 refine Xk (fun S F ry hS hbef hcl hI => ?_) ?_
 obtain ⟨ac, de, nc, nd, ne, nf, al, hvs⟩ := hI
 refine Yf (cs := #[vi 0, vi 0, vb false, vb false, vb false]) K7 Z Z ?_
 intro jy rz ce
 have jt := Yi ce (low0 ei de)
 have n5 : hi ≤ jy := nt (nt (Nat.le_of_eq hhi) de.size) (Nat.le_of_eq ce.eq.symm)
 have dh := Xr ce (((dg.grown0 a8).grown0 de)).lt
 exact Xc ⟨jy, (low0 de ce.grw), nc, nd, ne, nf, fun _ => ⟨Z, jt, ce.blk, dh, (nt de.size (Nat.le_of_eq ce.eq.symm))⟩, Vals.keep hvs Z⟩
 exact Je
 intro S F r0 hall hI
 obtain ⟨ac, bc, c8, c9, an, bw, al, hvs⟩ := hI
 obtain ⟨ai, pc, gv, gy, n7⟩ := al (hall 11 (by decide))
 refine Xx (vs := [vi (rAt (mAt G (E.run - 1).toNat).t.slots (E.a).toNat).th, vi (rAt (mAt G (E.run - 1).toNat).t.slots (E.a).toNat).ve, vb (rAt (mAt G (E.run - 1).toNat).t.slots (E.a).toNat).rd, vb (rAt (mAt G (E.run - 1).toNat).t.slots (E.a).toNat).wr, vb (rAt (mAt G (E.run - 1).toNat).t.slots (E.a).toNat).wk]) (cs' := #[vi (rAt (mAt G (E.run - 1).toNat).t.slots (E.a).toNat).th, vi (rAt (mAt G (E.run - 1).toNat).t.slots (E.a).toNat).ve, vb (rAt (mAt G (E.run - 1).toNat).t.slots (E.a).toNat).rd, vb (rAt (mAt G (E.run - 1).toNat).t.slots (E.a).toNat).wr, vb (rAt (mAt G (E.run - 1).toNat).t.slots (E.a).toNat).wk]) Yz ai (Vals.at 10 hvs Z (hall 10 (by decide))) Z (by simp [Value.oneCell']) gv (Nat.le_of_ble_eq_true Z) Z ?_
 intro cl ad
 refine Xc (Xv (Xs (Ki (fun f' w' => (f' 1 = .slice a2 m c2 ∧ f' 4 = vb false ∧ f' 5 = .slice (pa ae) G.length ab ∧ f' 6 = pt cy 0 ∧ f' 133 = vb (((((((decide ((rAt (mAt G (E.run - 1).toNat).t.slots (E.a).toNat).th = 0)) || (!(decide ((mAt G ((rAt (mAt G (E.run - 1).toNat).t.slots (E.a).toNat).th - 1).toNat).t.kind = 4)))) || (decide (0 < ((mAt G ((rAt (mAt G (E.run - 1).toNat).t.slots (E.a).toNat).th - 1).toNat).t.queue.length : Int)))) || (!(rAt (mAt G (E.run - 1).toNat).t.slots (E.a).toNat).rd)) || (!(rAt (mAt G (E.run - 1).toNat).t.slots (E.a).toNat).wr)) || (!(decide ((mAt G ((rAt (mAt G (E.run - 1).toNat).t.slots (E.a).toNat).th - 1).toNat).t.lab = (mAt G (E.run - 1).toNat).t.lab)))) || (!tabLive (tabT G) (rAt (mAt G (E.run - 1).toNat).t.slots (E.a).toNat)))) ∧ cl.grownBy w' none) ?_ ?_)))
 rcases Yb (decide ((rAt (mAt G (E.run - 1).toNat).t.slots (E.a).toNat).th = 0)) with J | J
 have qw := of_decide_eq_true J
 refine Yt (m := 54) (vals := [(77, pt ac 0), (78, vi (rAt (mAt G (E.run - 1).toNat).t.slots (E.a).toNat).th), (79, vb (decide ((rAt (mAt G (E.run - 1).toNat).t.slots (E.a).toNat).th = 0))), (80, vb (decide ((rAt (mAt G (E.run - 1).toNat).t.slots (E.a).toNat).th = 0))), (81, undef), (82, undef), (83, undef), (84, undef), (85, undef), (86, undef), (87, undef), (88, undef), (89, vb true), (90, vb true), (91, undef), (92, undef), (93, undef), (94, undef), (95, undef), (96, undef), (97, undef), (98, undef), (99, undef), (100, vb true), (101, vb true), (102, undef), (103, undef), (104, undef), (105, vb true), (106, vb true), (107, undef), (108, undef), (109, undef), (110, vb true), (111, vb true), (112, undef), (113, undef), (114, undef), (115, undef), (116, undef), (117, undef), (118, undef), (119, undef), (120, undef), (121, undef), (122, undef), (123, undef), (124, undef), (125, undef), (126, undef), (127, vb true), (128, vb true), (129, undef), (130, undef)]) (fun w' => cl.grownBy w' none) Y0 (by kernel_rfl) (X7 _) ?_ ?_
 refine yl Z (fun _ _ k => Xd (o' := 0) Yl ai Z Z k) (yl Z (fun _ kv k => Xh (v := vi (rAt (mAt G (E.run - 1).toNat).t.slots (E.a).toNat).th) Xz Z ((ad.blk.grown0 kv).cell Z) Z k) (yl Z (fun _ _ k => X3 (q := decide ((rAt (mAt G (E.run - 1).toNat).t.slots (E.a).toNat).th = 0)) Z Z Z Z k) (yl Z (fun _ _ k => Xb (v := vb (decide ((rAt (mAt G (E.run - 1).toNat).t.slots (E.a).toNat).th = 0))) Z Z k) (yl Z (fun _ _ k => Xi Z Z Z J Z k) (yl Z (fun _ _ k => Xi Z Z Z J Z k) (yl Z (fun _ _ k => Xi Z Z Z J Z k) (yl Z (fun _ _ k => Xi Z Z Z J Z k) (yl Z (fun _ _ k => Xi Z Z Z J Z k) (yl Z (fun _ _ k => Xi Z Z Z J Z k) (yl Z (fun _ _ k => Xi Z Z Z J Z k) ?_))))))))))
 refine yl Z (fun _ _ k => Xi Z Z Z J Z k) (yl Z (fun _ _ k => Xo (v := vb true) Z J Z Z k) (yl Z (fun _ _ k => Xb (v := vb true) Z Z k) (yl Z (fun _ _ k => Xi Z Z Z Z Z k) (yl Z (fun _ _ k => Xi Z Z Z Z Z k) (yl Z (fun _ _ k => Xi Z Z Z Z Z k) (yl Z (fun _ _ k => Xi Z Z Z Z Z k) (yl Z (fun _ _ k => Xi Z Z Z Z Z k) (yl Z (fun _ _ k => Xi Z Z Z Z Z k) (yl Z (fun _ _ k => Xi Z Z Z Z Z k) (yl Z (fun _ _ k => Xi Z Z Z Z Z k) ?_))))))))))
 refine yl Z (fun _ _ k => Xi Z Z Z Z Z k) (yl Z (fun _ _ k => Xo (v := vb true) Z Z Z Z k) (yl Z (fun _ _ k => Xb (v := vb true) Z Z k) (yl Z (fun _ _ k => Xi Z Z Z Z Z k) (yl Z (fun _ _ k => Xi Z Z Z Z Z k) (yl Z (fun _ _ k => Xi Z Z Z Z Z k) (yl Z (fun _ _ k => Xo (v := vb true) Z Z Z Z k) (yl Z (fun _ _ k => Xb (v := vb true) Z Z k) (yl Z (fun _ _ k => Xi Z Z Z Z Z k) (yl Z (fun _ _ k => Xi Z Z Z Z Z k) (yl Z (fun _ _ k => Xi Z Z Z Z Z k) ?_))))))))))
 refine yl Z (fun _ _ k => Xo (v := vb true) Z Z Z Z k) (yl Z (fun _ _ k => Xb (v := vb true) Z Z k) (yl Z (fun _ _ k => Xi Z Z Z Z Z k) (yl Z (fun _ _ k => Xi Z Z Z Z Z k) (yl Z (fun _ _ k => Xi Z Z Z Z Z k) (yl Z (fun _ _ k => Xi Z Z Z Z Z k) (yl Z (fun _ _ k => Xi Z Z Z Z Z k) (yl Z (fun _ _ k => Xi Z Z Z Z Z k) (yl Z (fun _ _ k => Xi Z Z Z Z Z k) (yl Z (fun _ _ k => Xi Z Z Z Z Z k) (yl Z (fun _ _ k => Xi Z Z Z Z Z k) ?_))))))))))
 exact yl Z (fun _ _ k => Xi Z Z Z Z Z k) (yl Z (fun _ _ k => Xi Z Z Z Z Z k) (yl Z (fun _ _ k => Xi Z Z Z Z Z k) (yl Z (fun _ _ k => Xi Z Z Z Z Z k) (yl Z (fun _ _ k => Xi Z Z Z Z Z k) (yl Z (fun _ _ k => Xi Z Z Z Z Z k) (yl Z (fun _ _ k => Xo (v := vb true) Z Z Z Z k) (yl Z (fun _ _ k => Xb (v := vb true) Z Z k) (yl Z (fun _ _ k => Xi Z Z Z Z Z k) (yl Z (fun _ _ k => Xi Z Z Z Z Z k) Y2)))))))))
 intro r1 kw
 exact Xi Z Z Z Z Z (Xi Z Z Z Z Z (Xo (v := vb true) Z Z Z Z (Xc (Xv ⟨⟨c8, c9, an, bw, (congrArg Value.bool (by first | (simp only [aw, a9, ba, az, aq, J, ap, ar, aj, b0, b1, b2, b3, b4, b5, b6, b7, b8, b9]; done) | simp [aw, a9, ba, az, aq, J, ap, ar, aj]))⟩, kw⟩))))
 have qx := of_decide_eq_false J
 rcases Yb (!(decide ((mAt G ((rAt (mAt G (E.run - 1).toNat).t.slots (E.a).toNat).th - 1).toNat).t.kind = 4))) with V | V
 have fy := Jm V
 have qy := of_decide_eq_false fy
 have g5 := (TabG.ge (TabG.low av bc) ad.grw ck (by omega))
 obtain ⟨j1, q6, gx, kk, lc, lf⟩ := SlAt.at (TabG.at g5).1 (Yk (xg G ((rAt (mAt G (E.run - 1).toNat).t.slots (E.a).toNat).th - 1).toNat))
 have pe := TabLen.at am (xg G ((rAt (mAt G (E.run - 1).toNat).t.slots (E.a).toNat).th - 1).toNat)
 refine Yt (m := 54) (vals := [(77, pt ac 0), (78, vi (rAt (mAt G (E.run - 1).toNat).t.slots (E.a).toNat).th), (79, vb (decide ((rAt (mAt G (E.run - 1).toNat).t.slots (E.a).toNat).th = 0))), (80, vb (decide ((rAt (mAt G (E.run - 1).toNat).t.slots (E.a).toNat).th = 0))), (81, .slice (pa ae) G.length ab), (82, pt ac 0), (83, vi (rAt (mAt G (E.run - 1).toNat).t.slots (E.a).toNat).th), (84, vi ((rAt (mAt G (E.run - 1).toNat).t.slots (E.a).toNat).th - 1)), (85, pt j1 gx), (86, pt j1 gx), (87, vi (mAt G ((rAt (mAt G (E.run - 1).toNat).t.slots (E.a).toNat).th - 1).toNat).t.kind), (88, vb (!(decide ((mAt G ((rAt (mAt G (E.run - 1).toNat).t.slots (E.a).toNat).th - 1).toNat).t.kind = 4)))), (89, vb (!(decide ((mAt G ((rAt (mAt G (E.run - 1).toNat).t.slots (E.a).toNat).th - 1).toNat).t.kind = 4)))), (90, vb (!(decide ((mAt G ((rAt (mAt G (E.run - 1).toNat).t.slots (E.a).toNat).th - 1).toNat).t.kind = 4)))), (91, undef), (92, undef), (93, undef), (94, undef), (95, undef), (96, undef), (97, undef), (98, undef), (99, undef), (100, vb true), (101, vb true), (102, undef), (103, undef), (104, undef), (105, vb true), (106, vb true), (107, undef), (108, undef), (109, undef), (110, vb true), (111, vb true), (112, undef), (113, undef), (114, undef), (115, undef), (116, undef), (117, undef), (118, undef), (119, undef), (120, undef), (121, undef), (122, undef), (123, undef), (124, undef), (125, undef), (126, undef), (127, vb true), (128, vb true), (129, undef), (130, undef)]) (fun w' => cl.grownBy w' none) Y0 (by kernel_rfl) (X7 _) ?_ ?_
 refine yl Z (fun _ _ k => Xd (o' := 0) Yl ai Z Z k) (yl Z (fun _ kx k => Xh (v := vi (rAt (mAt G (E.run - 1).toNat).t.slots (E.a).toNat).th) Xz Z ((ad.blk.grown0 kx).cell Z) Z k) (yl Z (fun _ _ k => X3 (q := decide ((rAt (mAt G (E.run - 1).toNat).t.slots (E.a).toNat).th = 0)) Z Z Z Z k) (yl Z (fun _ _ k => Xb (v := vb (decide ((rAt (mAt G (E.run - 1).toNat).t.slots (E.a).toNat).th = 0))) Z Z k) (yl Z (fun _ _ k => Xe Z Z Z J (Xb (v := .slice (pa ae) G.length ab) an Z k)) (yl Z (fun _ _ k => Xe Z Z Z J (Xd (o' := 0) Yl ai Z Z k)) (yl Z (fun _ ky k => Xe Z Z Z J (Xh (v := vi (rAt (mAt G (E.run - 1).toNat).t.slots (E.a).toNat).th) Xz Z ((ad.blk.grown0 ky).cell Z) Z k)) (yl Z (fun _ _ k => Xe Z Z Z J (Ym (c := (rAt (mAt G (E.run - 1).toNat).t.slots (E.a).toNat).th - 1) Z Z (by omega) (by omega) (by omega) Z k)) (yl Z (fun _ _ k => Xe Z Z Z J (X0 Y6 Z Z kk lc (by omega) (by omega) Z k)) (yl Z (fun _ _ k => Xe Z Z Z J (Xd (o' := gx) Y7 Z Z Z k)) (yl Z (fun _ kz k => Xe Z Z Z J (Xh (v := vi (mAt G ((rAt (mAt G (E.run - 1).toNat).t.slots (E.a).toNat).th - 1).toNat).t.kind) Xz Z ((Ye lf kz) 0 _ Z) Z k)) ?_))))))))))
 refine yl Z (fun _ _ k => Xe Z Z Z J (Qj (q := !(decide ((mAt G ((rAt (mAt G (E.run - 1).toNat).t.slots (E.a).toNat).th - 1).toNat).t.kind = 4))) Z Z Z Z k)) (yl Z (fun _ _ k => Xn (v := vb (!(decide ((mAt G ((rAt (mAt G (E.run - 1).toNat).t.slots (E.a).toNat).th - 1).toNat).t.kind = 4)))) Z J Z Z k) (yl Z (fun _ _ k => Xb (v := vb (!(decide ((mAt G ((rAt (mAt G (E.run - 1).toNat).t.slots (E.a).toNat).th - 1).toNat).t.kind = 4)))) Z Z k) (yl Z (fun _ _ k => Xi Z Z Z V Z k) (yl Z (fun _ _ k => Xi Z Z Z V Z k) (yl Z (fun _ _ k => Xi Z Z Z V Z k) (yl Z (fun _ _ k => Xi Z Z Z V Z k) (yl Z (fun _ _ k => Xi Z Z Z V Z k) (yl Z (fun _ _ k => Xi Z Z Z V Z k) (yl Z (fun _ _ k => Xi Z Z Z V Z k) (yl Z (fun _ _ k => Xi Z Z Z V Z k) ?_))))))))))
 refine yl Z (fun _ _ k => Xi Z Z Z V Z k) (yl Z (fun _ _ k => Xo (v := vb true) Z V Z Z k) (yl Z (fun _ _ k => Xb (v := vb true) Z Z k) (yl Z (fun _ _ k => Xi Z Z Z Z Z k) (yl Z (fun _ _ k => Xi Z Z Z Z Z k) (yl Z (fun _ _ k => Xi Z Z Z Z Z k) (yl Z (fun _ _ k => Xo (v := vb true) Z Z Z Z k) (yl Z (fun _ _ k => Xb (v := vb true) Z Z k) (yl Z (fun _ _ k => Xi Z Z Z Z Z k) (yl Z (fun _ _ k => Xi Z Z Z Z Z k) (yl Z (fun _ _ k => Xi Z Z Z Z Z k) ?_))))))))))
 refine yl Z (fun _ _ k => Xo (v := vb true) Z Z Z Z k) (yl Z (fun _ _ k => Xb (v := vb true) Z Z k) (yl Z (fun _ _ k => Xi Z Z Z Z Z k) (yl Z (fun _ _ k => Xi Z Z Z Z Z k) (yl Z (fun _ _ k => Xi Z Z Z Z Z k) (yl Z (fun _ _ k => Xi Z Z Z Z Z k) (yl Z (fun _ _ k => Xi Z Z Z Z Z k) (yl Z (fun _ _ k => Xi Z Z Z Z Z k) (yl Z (fun _ _ k => Xi Z Z Z Z Z k) (yl Z (fun _ _ k => Xi Z Z Z Z Z k) (yl Z (fun _ _ k => Xi Z Z Z Z Z k) ?_))))))))))
 exact yl Z (fun _ _ k => Xi Z Z Z Z Z k) (yl Z (fun _ _ k => Xi Z Z Z Z Z k) (yl Z (fun _ _ k => Xi Z Z Z Z Z k) (yl Z (fun _ _ k => Xi Z Z Z Z Z k) (yl Z (fun _ _ k => Xi Z Z Z Z Z k) (yl Z (fun _ _ k => Xi Z Z Z Z Z k) (yl Z (fun _ _ k => Xo (v := vb true) Z Z Z Z k) (yl Z (fun _ _ k => Xb (v := vb true) Z Z k) (yl Z (fun _ _ k => Xi Z Z Z Z Z k) (yl Z (fun _ _ k => Xi Z Z Z Z Z k) Y2)))))))))
 intro r2 k0
 exact Xi Z Z Z Z Z (Xi Z Z Z Z Z (Xo (v := vb true) Z Z Z Z (Xc (Xv ⟨⟨c8, c9, an, bw, (congrArg Value.bool (by first | (simp only [aw, a9, ba, az, aq, J, V, fy, ap, ar, aj, b0, b1, b2, b3, b4, b5, b6, b7, b8, b9]; done) | simp [aw, a9, ba, az, aq, J, V, fy, ap, ar, aj]))⟩, k0⟩))))
 have bh := Qu V
 have qz := of_decide_eq_true bh
 rcases Yb (decide (0 < ((mAt G ((rAt (mAt G (E.run - 1).toNat).t.slots (E.a).toNat).th - 1).toNat).t.queue.length : Int))) with ag | ag
 have q0 := of_decide_eq_true ag
 have g6 := (TabG.ge (TabG.low av bc) ad.grw ck (by omega))
 obtain ⟨ep, q7, di, gf, gm, gp⟩ := SlAt.at (TabG.at g6).1 (Yk (xg G ((rAt (mAt G (E.run - 1).toNat).t.slots (E.a).toNat).th - 1).toNat))
 have pf := TabLen.at am (xg G ((rAt (mAt G (E.run - 1).toNat).t.slots (E.a).toNat).th - 1).toNat)
 refine Yt (m := 54) (vals := [(77, pt ac 0), (78, vi (rAt (mAt G (E.run - 1).toNat).t.slots (E.a).toNat).th), (79, vb (decide ((rAt (mAt G (E.run - 1).toNat).t.slots (E.a).toNat).th = 0))), (80, vb (decide ((rAt (mAt G (E.run - 1).toNat).t.slots (E.a).toNat).th = 0))), (81, .slice (pa ae) G.length ab), (82, pt ac 0), (83, vi (rAt (mAt G (E.run - 1).toNat).t.slots (E.a).toNat).th), (84, vi ((rAt (mAt G (E.run - 1).toNat).t.slots (E.a).toNat).th - 1)), (85, pt ep di), (86, pt ep di), (87, vi (mAt G ((rAt (mAt G (E.run - 1).toNat).t.slots (E.a).toNat).th - 1).toNat).t.kind), (88, vb (!(decide ((mAt G ((rAt (mAt G (E.run - 1).toNat).t.slots (E.a).toNat).th - 1).toNat).t.kind = 4)))), (89, vb (!(decide ((mAt G ((rAt (mAt G (E.run - 1).toNat).t.slots (E.a).toNat).th - 1).toNat).t.kind = 4)))), (90, vb (!(decide ((mAt G ((rAt (mAt G (E.run - 1).toNat).t.slots (E.a).toNat).th - 1).toNat).t.kind = 4)))), (91, .slice (pa ae) G.length ab), (92, pt ac 0), (93, vi (rAt (mAt G (E.run - 1).toNat).t.slots (E.a).toNat).th), (94, vi ((rAt (mAt G (E.run - 1).toNat).t.slots (E.a).toNat).th - 1)), (95, pt ep di), (96, pt ep (di + 6)), (97, .slice (mAt G ((rAt (mAt G (E.run - 1).toNat).t.slots (E.a).toNat).th - 1).toNat).qa (mAt G ((rAt (mAt G (E.run - 1).toNat).t.slots (E.a).toNat).th - 1).toNat).t.queue.length (mAt G ((rAt (mAt G (E.run - 1).toNat).t.slots (E.a).toNat).th - 1).toNat).qc), (98, vi ((mAt G ((rAt (mAt G (E.run - 1).toNat).t.slots (E.a).toNat).th - 1).toNat).t.queue.length : Int)), (99, vb (decide (0 < ((mAt G ((rAt (mAt G (E.run - 1).toNat).t.slots (E.a).toNat).th - 1).toNat).t.queue.length : Int)))), (100, vb (decide (0 < ((mAt G ((rAt (mAt G (E.run - 1).toNat).t.slots (E.a).toNat).th - 1).toNat).t.queue.length : Int)))), (101, vb (decide (0 < ((mAt G ((rAt (mAt G (E.run - 1).toNat).t.slots (E.a).toNat).th - 1).toNat).t.queue.length : Int)))), (102, undef), (103, undef), (104, undef), (105, vb true), (106, vb true), (107, undef), (108, undef), (109, undef), (110, vb true), (111, vb true), (112, undef), (113, undef), (114, undef), (115, undef), (116, undef), (117, undef), (118, undef), (119, undef), (120, undef), (121, undef), (122, undef), (123, undef), (124, undef), (125, undef), (126, undef), (127, vb true), (128, vb true), (129, undef), (130, undef)]) (fun w' => cl.grownBy w' none) Y0 (by kernel_rfl) (X7 _) ?_ ?_
 refine yl Z (fun _ _ k => Xd (o' := 0) Yl ai Z Z k) (yl Z (fun _ k4 k => Xh (v := vi (rAt (mAt G (E.run - 1).toNat).t.slots (E.a).toNat).th) Xz Z ((ad.blk.grown0 k4).cell Z) Z k) (yl Z (fun _ _ k => X3 (q := decide ((rAt (mAt G (E.run - 1).toNat).t.slots (E.a).toNat).th = 0)) Z Z Z Z k) (yl Z (fun _ _ k => Xb (v := vb (decide ((rAt (mAt G (E.run - 1).toNat).t.slots (E.a).toNat).th = 0))) Z Z k) (yl Z (fun _ _ k => Xe Z Z Z J (Xb (v := .slice (pa ae) G.length ab) an Z k)) (yl Z (fun _ _ k => Xe Z Z Z J (Xd (o' := 0) Yl ai Z Z k)) (yl Z (fun _ k5 k => Xe Z Z Z J (Xh (v := vi (rAt (mAt G (E.run - 1).toNat).t.slots (E.a).toNat).th) Xz Z ((ad.blk.grown0 k5).cell Z) Z k)) (yl Z (fun _ _ k => Xe Z Z Z J (Ym (c := (rAt (mAt G (E.run - 1).toNat).t.slots (E.a).toNat).th - 1) Z Z (by omega) (by omega) (by omega) Z k)) (yl Z (fun _ _ k => Xe Z Z Z J (X0 Y6 Z Z gf gm (by omega) (by omega) Z k)) (yl Z (fun _ _ k => Xe Z Z Z J (Xd (o' := di) Y7 Z Z Z k)) (yl Z (fun _ k6 k => Xe Z Z Z J (Xh (v := vi (mAt G ((rAt (mAt G (E.run - 1).toNat).t.slots (E.a).toNat).th - 1).toNat).t.kind) Xz Z ((Ye gp k6) 0 _ Z) Z k)) ?_))))))))))
 refine yl Z (fun _ _ k => Xe Z Z Z J (Qj (q := !(decide ((mAt G ((rAt (mAt G (E.run - 1).toNat).t.slots (E.a).toNat).th - 1).toNat).t.kind = 4))) Z Z Z Z k)) (yl Z (fun _ _ k => Xn (v := vb (!(decide ((mAt G ((rAt (mAt G (E.run - 1).toNat).t.slots (E.a).toNat).th - 1).toNat).t.kind = 4)))) Z J Z Z k) (yl Z (fun _ _ k => Xb (v := vb (!(decide ((mAt G ((rAt (mAt G (E.run - 1).toNat).t.slots (E.a).toNat).th - 1).toNat).t.kind = 4)))) Z Z k) (yl Z (fun _ _ k => Xe Z Z Z V (Xb (v := .slice (pa ae) G.length ab) an Z k)) (yl Z (fun _ _ k => Xe Z Z Z V (Xd (o' := 0) Yl ai Z Z k)) (yl Z (fun _ k7 k => Xe Z Z Z V (Xh (v := vi (rAt (mAt G (E.run - 1).toNat).t.slots (E.a).toNat).th) Xz Z ((ad.blk.grown0 k7).cell Z) Z k)) (yl Z (fun _ _ k => Xe Z Z Z V (Ym (c := (rAt (mAt G (E.run - 1).toNat).t.slots (E.a).toNat).th - 1) Z Z (by omega) (by omega) (by omega) Z k)) (yl Z (fun _ _ k => Xe Z Z Z V (X0 Y6 Z Z gf gm (by omega) (by omega) Z k)) (yl Z (fun _ _ k => Xe Z Z Z V (Xd (o' := di + 6) Qs Z Z Z k)) (yl Z (fun _ k8 k => Xe Z Z Z V (Xh (v := .slice (mAt G ((rAt (mAt G (E.run - 1).toNat).t.slots (E.a).toNat).th - 1).toNat).qa (mAt G ((rAt (mAt G (E.run - 1).toNat).t.slots (E.a).toNat).th - 1).toNat).t.queue.length (mAt G ((rAt (mAt G (E.run - 1).toNat).t.slots (E.a).toNat).th - 1).toNat).qc) Jr Z ((Ye gp k8) 6 _ Z) Z k)) (yl Z (fun _ _ k => Xe Z Z Z V (Yr (by kernel_rfl) Z Z k)) ?_))))))))))
 refine yl Z (fun _ _ k => Xe Z Z Z V (Qw (q := decide (0 < ((mAt G ((rAt (mAt G (E.run - 1).toNat).t.slots (E.a).toNat).th - 1).toNat).t.queue.length : Int))) Z Z Z Z k)) (yl Z (fun _ _ k => Xn (v := vb (decide (0 < ((mAt G ((rAt (mAt G (E.run - 1).toNat).t.slots (E.a).toNat).th - 1).toNat).t.queue.length : Int)))) Z V Z Z k) (yl Z (fun _ _ k => Xb (v := vb (decide (0 < ((mAt G ((rAt (mAt G (E.run - 1).toNat).t.slots (E.a).toNat).th - 1).toNat).t.queue.length : Int)))) Z Z k) (yl Z (fun _ _ k => Xi Z Z Z ag Z k) (yl Z (fun _ _ k => Xi Z Z Z ag Z k) (yl Z (fun _ _ k => Xi Z Z Z ag Z k) (yl Z (fun _ _ k => Xo (v := vb true) Z ag Z Z k) (yl Z (fun _ _ k => Xb (v := vb true) Z Z k) (yl Z (fun _ _ k => Xi Z Z Z Z Z k) (yl Z (fun _ _ k => Xi Z Z Z Z Z k) (yl Z (fun _ _ k => Xi Z Z Z Z Z k) ?_))))))))))
 refine yl Z (fun _ _ k => Xo (v := vb true) Z Z Z Z k) (yl Z (fun _ _ k => Xb (v := vb true) Z Z k) (yl Z (fun _ _ k => Xi Z Z Z Z Z k) (yl Z (fun _ _ k => Xi Z Z Z Z Z k) (yl Z (fun _ _ k => Xi Z Z Z Z Z k) (yl Z (fun _ _ k => Xi Z Z Z Z Z k) (yl Z (fun _ _ k => Xi Z Z Z Z Z k) (yl Z (fun _ _ k => Xi Z Z Z Z Z k) (yl Z (fun _ _ k => Xi Z Z Z Z Z k) (yl Z (fun _ _ k => Xi Z Z Z Z Z k) (yl Z (fun _ _ k => Xi Z Z Z Z Z k) ?_))))))))))
 exact yl Z (fun _ _ k => Xi Z Z Z Z Z k) (yl Z (fun _ _ k => Xi Z Z Z Z Z k) (yl Z (fun _ _ k => Xi Z Z Z Z Z k) (yl Z (fun _ _ k => Xi Z Z Z Z Z k) (yl Z (fun _ _ k => Xi Z Z Z Z Z k) (yl Z (fun _ _ k => Xi Z Z Z Z Z k) (yl Z (fun _ _ k => Xo (v := vb true) Z Z Z Z k) (yl Z (fun _ _ k => Xb (v := vb true) Z Z k) (yl Z (fun _ _ k => Xi Z Z Z Z Z k) (yl Z (fun _ _ k => Xi Z Z Z Z Z k) Y2)))))))))
 intro qh il
 exact Xi Z Z Z Z Z (Xi Z Z Z Z Z (Xo (v := vb true) Z Z Z Z (Xc (Xv ⟨⟨c8, c9, an, bw, (congrArg Value.bool (by first | (simp only [aw, a9, ba, az, aq, J, V, bh, ag, ap, ar, aj, b0, b1, b2, b3, b4, b5, b6, b7, b8, b9]; done) | simp [aw, a9, ba, az, aq, J, V, bh, ag, ap, ar, aj]))⟩, il⟩))))
 have pq := of_decide_eq_false ag
 rcases Yb (!(rAt (mAt G (E.run - 1).toNat).t.slots (E.a).toNat).rd) with af | af
 have fm := Jm af
 have fz := (TabG.ge (TabG.low av bc) ad.grw ck (by omega))
 obtain ⟨dk, p9, cg, ez, fe, fg⟩ := SlAt.at (TabG.at fz).1 (Yk (xg G ((rAt (mAt G (E.run - 1).toNat).t.slots (E.a).toNat).th - 1).toNat))
 have n9 := TabLen.at am (xg G ((rAt (mAt G (E.run - 1).toNat).t.slots (E.a).toNat).th - 1).toNat)
 refine Yt (m := 54) (vals := [(77, pt ac 0), (78, vi (rAt (mAt G (E.run - 1).toNat).t.slots (E.a).toNat).th), (79, vb (decide ((rAt (mAt G (E.run - 1).toNat).t.slots (E.a).toNat).th = 0))), (80, vb (decide ((rAt (mAt G (E.run - 1).toNat).t.slots (E.a).toNat).th = 0))), (81, .slice (pa ae) G.length ab), (82, pt ac 0), (83, vi (rAt (mAt G (E.run - 1).toNat).t.slots (E.a).toNat).th), (84, vi ((rAt (mAt G (E.run - 1).toNat).t.slots (E.a).toNat).th - 1)), (85, pt dk cg), (86, pt dk cg), (87, vi (mAt G ((rAt (mAt G (E.run - 1).toNat).t.slots (E.a).toNat).th - 1).toNat).t.kind), (88, vb (!(decide ((mAt G ((rAt (mAt G (E.run - 1).toNat).t.slots (E.a).toNat).th - 1).toNat).t.kind = 4)))), (89, vb (!(decide ((mAt G ((rAt (mAt G (E.run - 1).toNat).t.slots (E.a).toNat).th - 1).toNat).t.kind = 4)))), (90, vb (!(decide ((mAt G ((rAt (mAt G (E.run - 1).toNat).t.slots (E.a).toNat).th - 1).toNat).t.kind = 4)))), (91, .slice (pa ae) G.length ab), (92, pt ac 0), (93, vi (rAt (mAt G (E.run - 1).toNat).t.slots (E.a).toNat).th), (94, vi ((rAt (mAt G (E.run - 1).toNat).t.slots (E.a).toNat).th - 1)), (95, pt dk cg), (96, pt dk (cg + 6)), (97, .slice (mAt G ((rAt (mAt G (E.run - 1).toNat).t.slots (E.a).toNat).th - 1).toNat).qa (mAt G ((rAt (mAt G (E.run - 1).toNat).t.slots (E.a).toNat).th - 1).toNat).t.queue.length (mAt G ((rAt (mAt G (E.run - 1).toNat).t.slots (E.a).toNat).th - 1).toNat).qc), (98, vi ((mAt G ((rAt (mAt G (E.run - 1).toNat).t.slots (E.a).toNat).th - 1).toNat).t.queue.length : Int)), (99, vb (decide (0 < ((mAt G ((rAt (mAt G (E.run - 1).toNat).t.slots (E.a).toNat).th - 1).toNat).t.queue.length : Int)))), (100, vb (decide (0 < ((mAt G ((rAt (mAt G (E.run - 1).toNat).t.slots (E.a).toNat).th - 1).toNat).t.queue.length : Int)))), (101, vb (decide (0 < ((mAt G ((rAt (mAt G (E.run - 1).toNat).t.slots (E.a).toNat).th - 1).toNat).t.queue.length : Int)))), (102, pt ac 2), (103, vb (rAt (mAt G (E.run - 1).toNat).t.slots (E.a).toNat).rd), (104, vb (!(rAt (mAt G (E.run - 1).toNat).t.slots (E.a).toNat).rd)), (105, vb (!(rAt (mAt G (E.run - 1).toNat).t.slots (E.a).toNat).rd)), (106, vb (!(rAt (mAt G (E.run - 1).toNat).t.slots (E.a).toNat).rd)), (107, undef), (108, undef), (109, undef), (110, vb true), (111, vb true), (112, undef), (113, undef), (114, undef), (115, undef), (116, undef), (117, undef), (118, undef), (119, undef), (120, undef), (121, undef), (122, undef), (123, undef), (124, undef), (125, undef), (126, undef), (127, vb true), (128, vb true), (129, undef), (130, undef)]) (fun w' => cl.grownBy w' none) Y0 (by kernel_rfl) (X7 _) ?_ ?_
 refine yl Z (fun _ _ k => Xd (o' := 0) Yl ai Z Z k) (yl Z (fun _ im k => Xh (v := vi (rAt (mAt G (E.run - 1).toNat).t.slots (E.a).toNat).th) Xz Z ((ad.blk.grown0 im).cell Z) Z k) (yl Z (fun _ _ k => X3 (q := decide ((rAt (mAt G (E.run - 1).toNat).t.slots (E.a).toNat).th = 0)) Z Z Z Z k) (yl Z (fun _ _ k => Xb (v := vb (decide ((rAt (mAt G (E.run - 1).toNat).t.slots (E.a).toNat).th = 0))) Z Z k) (yl Z (fun _ _ k => Xe Z Z Z J (Xb (v := .slice (pa ae) G.length ab) an Z k)) (yl Z (fun _ _ k => Xe Z Z Z J (Xd (o' := 0) Yl ai Z Z k)) (yl Z (fun _ io k => Xe Z Z Z J (Xh (v := vi (rAt (mAt G (E.run - 1).toNat).t.slots (E.a).toNat).th) Xz Z ((ad.blk.grown0 io).cell Z) Z k)) (yl Z (fun _ _ k => Xe Z Z Z J (Ym (c := (rAt (mAt G (E.run - 1).toNat).t.slots (E.a).toNat).th - 1) Z Z (by omega) (by omega) (by omega) Z k)) (yl Z (fun _ _ k => Xe Z Z Z J (X0 Y6 Z Z ez fe (by omega) (by omega) Z k)) (yl Z (fun _ _ k => Xe Z Z Z J (Xd (o' := cg) Y7 Z Z Z k)) (yl Z (fun _ ip k => Xe Z Z Z J (Xh (v := vi (mAt G ((rAt (mAt G (E.run - 1).toNat).t.slots (E.a).toNat).th - 1).toNat).t.kind) Xz Z ((Ye fg ip) 0 _ Z) Z k)) ?_))))))))))
 refine yl Z (fun _ _ k => Xe Z Z Z J (Qj (q := !(decide ((mAt G ((rAt (mAt G (E.run - 1).toNat).t.slots (E.a).toNat).th - 1).toNat).t.kind = 4))) Z Z Z Z k)) (yl Z (fun _ _ k => Xn (v := vb (!(decide ((mAt G ((rAt (mAt G (E.run - 1).toNat).t.slots (E.a).toNat).th - 1).toNat).t.kind = 4)))) Z J Z Z k) (yl Z (fun _ _ k => Xb (v := vb (!(decide ((mAt G ((rAt (mAt G (E.run - 1).toNat).t.slots (E.a).toNat).th - 1).toNat).t.kind = 4)))) Z Z k) (yl Z (fun _ _ k => Xe Z Z Z V (Xb (v := .slice (pa ae) G.length ab) an Z k)) (yl Z (fun _ _ k => Xe Z Z Z V (Xd (o' := 0) Yl ai Z Z k)) (yl Z (fun _ iq k => Xe Z Z Z V (Xh (v := vi (rAt (mAt G (E.run - 1).toNat).t.slots (E.a).toNat).th) Xz Z ((ad.blk.grown0 iq).cell Z) Z k)) (yl Z (fun _ _ k => Xe Z Z Z V (Ym (c := (rAt (mAt G (E.run - 1).toNat).t.slots (E.a).toNat).th - 1) Z Z (by omega) (by omega) (by omega) Z k)) (yl Z (fun _ _ k => Xe Z Z Z V (X0 Y6 Z Z ez fe (by omega) (by omega) Z k)) (yl Z (fun _ _ k => Xe Z Z Z V (Xd (o' := cg + 6) Qs Z Z Z k)) (yl Z (fun _ ir k => Xe Z Z Z V (Xh (v := .slice (mAt G ((rAt (mAt G (E.run - 1).toNat).t.slots (E.a).toNat).th - 1).toNat).qa (mAt G ((rAt (mAt G (E.run - 1).toNat).t.slots (E.a).toNat).th - 1).toNat).t.queue.length (mAt G ((rAt (mAt G (E.run - 1).toNat).t.slots (E.a).toNat).th - 1).toNat).qc) Jr Z ((Ye fg ir) 6 _ Z) Z k)) (yl Z (fun _ _ k => Xe Z Z Z V (Yr (by kernel_rfl) Z Z k)) ?_))))))))))
 refine yl Z (fun _ _ k => Xe Z Z Z V (Qw (q := decide (0 < ((mAt G ((rAt (mAt G (E.run - 1).toNat).t.slots (E.a).toNat).th - 1).toNat).t.queue.length : Int))) Z Z Z Z k)) (yl Z (fun _ _ k => Xn (v := vb (decide (0 < ((mAt G ((rAt (mAt G (E.run - 1).toNat).t.slots (E.a).toNat).th - 1).toNat).t.queue.length : Int)))) Z V Z Z k) (yl Z (fun _ _ k => Xb (v := vb (decide (0 < ((mAt G ((rAt (mAt G (E.run - 1).toNat).t.slots (E.a).toNat).th - 1).toNat).t.queue.length : Int)))) Z Z k) (yl Z (fun _ _ k => Xe Z Z Z ag (Xd (o' := 2) Kx ai Z Z k)) (yl Z (fun _ it k => Xe Z Z Z ag (Xh (v := vb (rAt (mAt G (E.run - 1).toNat).t.slots (E.a).toNat).rd) Jn Z ((ad.blk.grown0 it).cell Z) Z k)) (yl Z (fun _ _ k => Xe Z Z Z ag (Yj (b' := !(rAt (mAt G (E.run - 1).toNat).t.slots (E.a).toNat).rd) Z Z Z k)) (yl Z (fun _ _ k => Xn (v := vb (!(rAt (mAt G (E.run - 1).toNat).t.slots (E.a).toNat).rd)) Z ag Z Z k) (yl Z (fun _ _ k => Xb (v := vb (!(rAt (mAt G (E.run - 1).toNat).t.slots (E.a).toNat).rd)) Z Z k) (yl Z (fun _ _ k => Xi Z Z Z af Z k) (yl Z (fun _ _ k => Xi Z Z Z af Z k) (yl Z (fun _ _ k => Xi Z Z Z af Z k) ?_))))))))))
 refine yl Z (fun _ _ k => Xo (v := vb true) Z af Z Z k) (yl Z (fun _ _ k => Xb (v := vb true) Z Z k) (yl Z (fun _ _ k => Xi Z Z Z Z Z k) (yl Z (fun _ _ k => Xi Z Z Z Z Z k) (yl Z (fun _ _ k => Xi Z Z Z Z Z k) (yl Z (fun _ _ k => Xi Z Z Z Z Z k) (yl Z (fun _ _ k => Xi Z Z Z Z Z k) (yl Z (fun _ _ k => Xi Z Z Z Z Z k) (yl Z (fun _ _ k => Xi Z Z Z Z Z k) (yl Z (fun _ _ k => Xi Z Z Z Z Z k) (yl Z (fun _ _ k => Xi Z Z Z Z Z k) ?_))))))))))
 exact yl Z (fun _ _ k => Xi Z Z Z Z Z k) (yl Z (fun _ _ k => Xi Z Z Z Z Z k) (yl Z (fun _ _ k => Xi Z Z Z Z Z k) (yl Z (fun _ _ k => Xi Z Z Z Z Z k) (yl Z (fun _ _ k => Xi Z Z Z Z Z k) (yl Z (fun _ _ k => Xi Z Z Z Z Z k) (yl Z (fun _ _ k => Xo (v := vb true) Z Z Z Z k) (yl Z (fun _ _ k => Xb (v := vb true) Z Z k) (yl Z (fun _ _ k => Xi Z Z Z Z Z k) (yl Z (fun _ _ k => Xi Z Z Z Z Z k) Y2)))))))))
 intro qi iu
 exact Xi Z Z Z Z Z (Xi Z Z Z Z Z (Xo (v := vb true) Z Z Z Z (Xc (Xv ⟨⟨c8, c9, an, bw, (congrArg Value.bool (by first | (simp only [af, fm, aw, a9, ba, az, aq, J, V, bh, ag, ap, ar, aj, b0, b1, b2, b3, b4, b5, b6, b7, b8, b9]; done) | simp [af, fm, aw, a9, ba, az, aq, J, V, bh, ag, ap, ar, aj]))⟩, iu⟩))))
 have cd := Qu af
 rcases Yb (!(rAt (mAt G (E.run - 1).toNat).t.slots (E.a).toNat).wr) with O | O
 have fo := Jm O
 have f8 := (TabG.ge (TabG.low av bc) ad.grw ck (by omega))
 obtain ⟨dl, qb, cj, e0, ff, fh⟩ := SlAt.at (TabG.at f8).1 (Yk (xg G ((rAt (mAt G (E.run - 1).toNat).t.slots (E.a).toNat).th - 1).toNat))
 have oa := TabLen.at am (xg G ((rAt (mAt G (E.run - 1).toNat).t.slots (E.a).toNat).th - 1).toNat)
 refine Yt (m := 54) (vals := [(77, pt ac 0), (78, vi (rAt (mAt G (E.run - 1).toNat).t.slots (E.a).toNat).th), (79, vb (decide ((rAt (mAt G (E.run - 1).toNat).t.slots (E.a).toNat).th = 0))), (80, vb (decide ((rAt (mAt G (E.run - 1).toNat).t.slots (E.a).toNat).th = 0))), (81, .slice (pa ae) G.length ab), (82, pt ac 0), (83, vi (rAt (mAt G (E.run - 1).toNat).t.slots (E.a).toNat).th), (84, vi ((rAt (mAt G (E.run - 1).toNat).t.slots (E.a).toNat).th - 1)), (85, pt dl cj), (86, pt dl cj), (87, vi (mAt G ((rAt (mAt G (E.run - 1).toNat).t.slots (E.a).toNat).th - 1).toNat).t.kind), (88, vb (!(decide ((mAt G ((rAt (mAt G (E.run - 1).toNat).t.slots (E.a).toNat).th - 1).toNat).t.kind = 4)))), (89, vb (!(decide ((mAt G ((rAt (mAt G (E.run - 1).toNat).t.slots (E.a).toNat).th - 1).toNat).t.kind = 4)))), (90, vb (!(decide ((mAt G ((rAt (mAt G (E.run - 1).toNat).t.slots (E.a).toNat).th - 1).toNat).t.kind = 4)))), (91, .slice (pa ae) G.length ab), (92, pt ac 0), (93, vi (rAt (mAt G (E.run - 1).toNat).t.slots (E.a).toNat).th), (94, vi ((rAt (mAt G (E.run - 1).toNat).t.slots (E.a).toNat).th - 1)), (95, pt dl cj), (96, pt dl (cj + 6)), (97, .slice (mAt G ((rAt (mAt G (E.run - 1).toNat).t.slots (E.a).toNat).th - 1).toNat).qa (mAt G ((rAt (mAt G (E.run - 1).toNat).t.slots (E.a).toNat).th - 1).toNat).t.queue.length (mAt G ((rAt (mAt G (E.run - 1).toNat).t.slots (E.a).toNat).th - 1).toNat).qc), (98, vi ((mAt G ((rAt (mAt G (E.run - 1).toNat).t.slots (E.a).toNat).th - 1).toNat).t.queue.length : Int)), (99, vb (decide (0 < ((mAt G ((rAt (mAt G (E.run - 1).toNat).t.slots (E.a).toNat).th - 1).toNat).t.queue.length : Int)))), (100, vb (decide (0 < ((mAt G ((rAt (mAt G (E.run - 1).toNat).t.slots (E.a).toNat).th - 1).toNat).t.queue.length : Int)))), (101, vb (decide (0 < ((mAt G ((rAt (mAt G (E.run - 1).toNat).t.slots (E.a).toNat).th - 1).toNat).t.queue.length : Int)))), (102, pt ac 2), (103, vb (rAt (mAt G (E.run - 1).toNat).t.slots (E.a).toNat).rd), (104, vb (!(rAt (mAt G (E.run - 1).toNat).t.slots (E.a).toNat).rd)), (105, vb (!(rAt (mAt G (E.run - 1).toNat).t.slots (E.a).toNat).rd)), (106, vb (!(rAt (mAt G (E.run - 1).toNat).t.slots (E.a).toNat).rd)), (107, pt ac 3), (108, vb (rAt (mAt G (E.run - 1).toNat).t.slots (E.a).toNat).wr), (109, vb (!(rAt (mAt G (E.run - 1).toNat).t.slots (E.a).toNat).wr)), (110, vb (!(rAt (mAt G (E.run - 1).toNat).t.slots (E.a).toNat).wr)), (111, vb (!(rAt (mAt G (E.run - 1).toNat).t.slots (E.a).toNat).wr)), (112, undef), (113, undef), (114, undef), (115, undef), (116, undef), (117, undef), (118, undef), (119, undef), (120, undef), (121, undef), (122, undef), (123, undef), (124, undef), (125, undef), (126, undef), (127, vb true), (128, vb true), (129, undef), (130, undef)]) (fun w' => cl.grownBy w' none) Y0 (by kernel_rfl) (X7 _) ?_ ?_
 refine yl Z (fun _ _ k => Xd (o' := 0) Yl ai Z Z k) (yl Z (fun _ iv k => Xh (v := vi (rAt (mAt G (E.run - 1).toNat).t.slots (E.a).toNat).th) Xz Z ((ad.blk.grown0 iv).cell Z) Z k) (yl Z (fun _ _ k => X3 (q := decide ((rAt (mAt G (E.run - 1).toNat).t.slots (E.a).toNat).th = 0)) Z Z Z Z k) (yl Z (fun _ _ k => Xb (v := vb (decide ((rAt (mAt G (E.run - 1).toNat).t.slots (E.a).toNat).th = 0))) Z Z k) (yl Z (fun _ _ k => Xe Z Z Z J (Xb (v := .slice (pa ae) G.length ab) an Z k)) (yl Z (fun _ _ k => Xe Z Z Z J (Xd (o' := 0) Yl ai Z Z k)) (yl Z (fun _ iw k => Xe Z Z Z J (Xh (v := vi (rAt (mAt G (E.run - 1).toNat).t.slots (E.a).toNat).th) Xz Z ((ad.blk.grown0 iw).cell Z) Z k)) (yl Z (fun _ _ k => Xe Z Z Z J (Ym (c := (rAt (mAt G (E.run - 1).toNat).t.slots (E.a).toNat).th - 1) Z Z (by omega) (by omega) (by omega) Z k)) (yl Z (fun _ _ k => Xe Z Z Z J (X0 Y6 Z Z e0 ff (by omega) (by omega) Z k)) (yl Z (fun _ _ k => Xe Z Z Z J (Xd (o' := cj) Y7 Z Z Z k)) (yl Z (fun _ ix k => Xe Z Z Z J (Xh (v := vi (mAt G ((rAt (mAt G (E.run - 1).toNat).t.slots (E.a).toNat).th - 1).toNat).t.kind) Xz Z ((Ye fh ix) 0 _ Z) Z k)) ?_))))))))))
 refine yl Z (fun _ _ k => Xe Z Z Z J (Qj (q := !(decide ((mAt G ((rAt (mAt G (E.run - 1).toNat).t.slots (E.a).toNat).th - 1).toNat).t.kind = 4))) Z Z Z Z k)) (yl Z (fun _ _ k => Xn (v := vb (!(decide ((mAt G ((rAt (mAt G (E.run - 1).toNat).t.slots (E.a).toNat).th - 1).toNat).t.kind = 4)))) Z J Z Z k) (yl Z (fun _ _ k => Xb (v := vb (!(decide ((mAt G ((rAt (mAt G (E.run - 1).toNat).t.slots (E.a).toNat).th - 1).toNat).t.kind = 4)))) Z Z k) (yl Z (fun _ _ k => Xe Z Z Z V (Xb (v := .slice (pa ae) G.length ab) an Z k)) (yl Z (fun _ _ k => Xe Z Z Z V (Xd (o' := 0) Yl ai Z Z k)) (yl Z (fun _ iy k => Xe Z Z Z V (Xh (v := vi (rAt (mAt G (E.run - 1).toNat).t.slots (E.a).toNat).th) Xz Z ((ad.blk.grown0 iy).cell Z) Z k)) (yl Z (fun _ _ k => Xe Z Z Z V (Ym (c := (rAt (mAt G (E.run - 1).toNat).t.slots (E.a).toNat).th - 1) Z Z (by omega) (by omega) (by omega) Z k)) (yl Z (fun _ _ k => Xe Z Z Z V (X0 Y6 Z Z e0 ff (by omega) (by omega) Z k)) (yl Z (fun _ _ k => Xe Z Z Z V (Xd (o' := cj + 6) Qs Z Z Z k)) (yl Z (fun _ iz k => Xe Z Z Z V (Xh (v := .slice (mAt G ((rAt (mAt G (E.run - 1).toNat).t.slots (E.a).toNat).th - 1).toNat).qa (mAt G ((rAt (mAt G (E.run - 1).toNat).t.slots (E.a).toNat).th - 1).toNat).t.queue.length (mAt G ((rAt (mAt G (E.run - 1).toNat).t.slots (E.a).toNat).th - 1).toNat).qc) Jr Z ((Ye fh iz) 6 _ Z) Z k)) (yl Z (fun _ _ k => Xe Z Z Z V (Yr (by kernel_rfl) Z Z k)) ?_))))))))))
 refine yl Z (fun _ _ k => Xe Z Z Z V (Qw (q := decide (0 < ((mAt G ((rAt (mAt G (E.run - 1).toNat).t.slots (E.a).toNat).th - 1).toNat).t.queue.length : Int))) Z Z Z Z k)) (yl Z (fun _ _ k => Xn (v := vb (decide (0 < ((mAt G ((rAt (mAt G (E.run - 1).toNat).t.slots (E.a).toNat).th - 1).toNat).t.queue.length : Int)))) Z V Z Z k) (yl Z (fun _ _ k => Xb (v := vb (decide (0 < ((mAt G ((rAt (mAt G (E.run - 1).toNat).t.slots (E.a).toNat).th - 1).toNat).t.queue.length : Int)))) Z Z k) (yl Z (fun _ _ k => Xe Z Z Z ag (Xd (o' := 2) Kx ai Z Z k)) (yl Z (fun _ i0 k => Xe Z Z Z ag (Xh (v := vb (rAt (mAt G (E.run - 1).toNat).t.slots (E.a).toNat).rd) Jn Z ((ad.blk.grown0 i0).cell Z) Z k)) (yl Z (fun _ _ k => Xe Z Z Z ag (Yj (b' := !(rAt (mAt G (E.run - 1).toNat).t.slots (E.a).toNat).rd) Z Z Z k)) (yl Z (fun _ _ k => Xn (v := vb (!(rAt (mAt G (E.run - 1).toNat).t.slots (E.a).toNat).rd)) Z ag Z Z k) (yl Z (fun _ _ k => Xb (v := vb (!(rAt (mAt G (E.run - 1).toNat).t.slots (E.a).toNat).rd)) Z Z k) (yl Z (fun _ _ k => Xe Z Z Z af (Xd (o' := 3) Kb ai Z Z k)) (yl Z (fun _ i1 k => Xe Z Z Z af (Xh (v := vb (rAt (mAt G (E.run - 1).toNat).t.slots (E.a).toNat).wr) Jn Z ((ad.blk.grown0 i1).cell Z) Z k)) (yl Z (fun _ _ k => Xe Z Z Z af (Yj (b' := !(rAt (mAt G (E.run - 1).toNat).t.slots (E.a).toNat).wr) Z Z Z k)) ?_))))))))))
 refine yl Z (fun _ _ k => Xn (v := vb (!(rAt (mAt G (E.run - 1).toNat).t.slots (E.a).toNat).wr)) Z af Z Z k) (yl Z (fun _ _ k => Xb (v := vb (!(rAt (mAt G (E.run - 1).toNat).t.slots (E.a).toNat).wr)) Z Z k) (yl Z (fun _ _ k => Xi Z Z Z O Z k) (yl Z (fun _ _ k => Xi Z Z Z O Z k) (yl Z (fun _ _ k => Xi Z Z Z O Z k) (yl Z (fun _ _ k => Xi Z Z Z O Z k) (yl Z (fun _ _ k => Xi Z Z Z O Z k) (yl Z (fun _ _ k => Xi Z Z Z O Z k) (yl Z (fun _ _ k => Xi Z Z Z O Z k) (yl Z (fun _ _ k => Xi Z Z Z O Z k) (yl Z (fun _ _ k => Xi Z Z Z O Z k) ?_))))))))))
 exact yl Z (fun _ _ k => Xi Z Z Z O Z k) (yl Z (fun _ _ k => Xi Z Z Z O Z k) (yl Z (fun _ _ k => Xi Z Z Z O Z k) (yl Z (fun _ _ k => Xi Z Z Z O Z k) (yl Z (fun _ _ k => Xi Z Z Z O Z k) (yl Z (fun _ _ k => Xi Z Z Z O Z k) (yl Z (fun _ _ k => Xo (v := vb true) Z O Z Z k) (yl Z (fun _ _ k => Xb (v := vb true) Z Z k) (yl Z (fun _ _ k => Xi Z Z Z Z Z k) (yl Z (fun _ _ k => Xi Z Z Z Z Z k) Y2)))))))))
 intro qj i2
 exact Xi Z Z Z Z Z (Xi Z Z Z Z Z (Xo (v := vb true) Z Z Z Z (Xc (Xv ⟨⟨c8, c9, an, bw, (congrArg Value.bool (by first | (simp only [af, aw, a9, ba, cd, O, fo, az, aq, J, V, bh, ag, ap, ar, aj, b0, b1, b2, b3, b4, b5, b6, b7, b8, b9]; done) | simp [af, aw, a9, ba, cd, O, fo, az, aq, J, V, bh, ag, ap, ar, aj]))⟩, i2⟩))))
 have dm := Qu O
 rcases Yb (!(decide ((mAt G ((rAt (mAt G (E.run - 1).toNat).t.slots (E.a).toNat).th - 1).toNat).t.lab = (mAt G (E.run - 1).toNat).t.lab))) with ao | ao
 have ef := Jm ao
 have pr := of_decide_eq_false ef
 have d9 := (TabG.ge (TabG.low av bc) ad.grw ck (by omega))
 obtain ⟨ca, qd, be, dq, dx, d0⟩ := SlAt.at (TabG.at d9).1 (Yk (xg G ((rAt (mAt G (E.run - 1).toNat).t.slots (E.a).toNat).th - 1).toNat))
 have ob := TabLen.at am (xg G ((rAt (mAt G (E.run - 1).toNat).t.slots (E.a).toNat).th - 1).toNat)
 obtain ⟨fj, qe, ek, g8, ju, jw⟩ := SlAt.at (TabG.at d9).1 (Yk (xg G (E.run - 1).toNat))
 have oc := TabLen.at am (xg G (E.run - 1).toNat)
 refine Yt (m := 54) (vals := [(77, pt ac 0), (78, vi (rAt (mAt G (E.run - 1).toNat).t.slots (E.a).toNat).th), (79, vb (decide ((rAt (mAt G (E.run - 1).toNat).t.slots (E.a).toNat).th = 0))), (80, vb (decide ((rAt (mAt G (E.run - 1).toNat).t.slots (E.a).toNat).th = 0))), (81, .slice (pa ae) G.length ab), (82, pt ac 0), (83, vi (rAt (mAt G (E.run - 1).toNat).t.slots (E.a).toNat).th), (84, vi ((rAt (mAt G (E.run - 1).toNat).t.slots (E.a).toNat).th - 1)), (85, pt ca be), (86, pt ca be), (87, vi (mAt G ((rAt (mAt G (E.run - 1).toNat).t.slots (E.a).toNat).th - 1).toNat).t.kind), (88, vb (!(decide ((mAt G ((rAt (mAt G (E.run - 1).toNat).t.slots (E.a).toNat).th - 1).toNat).t.kind = 4)))), (89, vb (!(decide ((mAt G ((rAt (mAt G (E.run - 1).toNat).t.slots (E.a).toNat).th - 1).toNat).t.kind = 4)))), (90, vb (!(decide ((mAt G ((rAt (mAt G (E.run - 1).toNat).t.slots (E.a).toNat).th - 1).toNat).t.kind = 4)))), (91, .slice (pa ae) G.length ab), (92, pt ac 0), (93, vi (rAt (mAt G (E.run - 1).toNat).t.slots (E.a).toNat).th), (94, vi ((rAt (mAt G (E.run - 1).toNat).t.slots (E.a).toNat).th - 1)), (95, pt ca be), (96, pt ca (be + 6)), (97, .slice (mAt G ((rAt (mAt G (E.run - 1).toNat).t.slots (E.a).toNat).th - 1).toNat).qa (mAt G ((rAt (mAt G (E.run - 1).toNat).t.slots (E.a).toNat).th - 1).toNat).t.queue.length (mAt G ((rAt (mAt G (E.run - 1).toNat).t.slots (E.a).toNat).th - 1).toNat).qc), (98, vi ((mAt G ((rAt (mAt G (E.run - 1).toNat).t.slots (E.a).toNat).th - 1).toNat).t.queue.length : Int)), (99, vb (decide (0 < ((mAt G ((rAt (mAt G (E.run - 1).toNat).t.slots (E.a).toNat).th - 1).toNat).t.queue.length : Int)))), (100, vb (decide (0 < ((mAt G ((rAt (mAt G (E.run - 1).toNat).t.slots (E.a).toNat).th - 1).toNat).t.queue.length : Int)))), (101, vb (decide (0 < ((mAt G ((rAt (mAt G (E.run - 1).toNat).t.slots (E.a).toNat).th - 1).toNat).t.queue.length : Int)))), (102, pt ac 2), (103, vb (rAt (mAt G (E.run - 1).toNat).t.slots (E.a).toNat).rd), (104, vb (!(rAt (mAt G (E.run - 1).toNat).t.slots (E.a).toNat).rd)), (105, vb (!(rAt (mAt G (E.run - 1).toNat).t.slots (E.a).toNat).rd)), (106, vb (!(rAt (mAt G (E.run - 1).toNat).t.slots (E.a).toNat).rd)), (107, pt ac 3), (108, vb (rAt (mAt G (E.run - 1).toNat).t.slots (E.a).toNat).wr), (109, vb (!(rAt (mAt G (E.run - 1).toNat).t.slots (E.a).toNat).wr)), (110, vb (!(rAt (mAt G (E.run - 1).toNat).t.slots (E.a).toNat).wr)), (111, vb (!(rAt (mAt G (E.run - 1).toNat).t.slots (E.a).toNat).wr)), (112, .slice (pa ae) G.length ab), (113, pt ac 0), (114, vi (rAt (mAt G (E.run - 1).toNat).t.slots (E.a).toNat).th), (115, vi ((rAt (mAt G (E.run - 1).toNat).t.slots (E.a).toNat).th - 1)), (116, pt ca be), (117, pt ca (be + 1)), (118, .agg #[vi (mAt G ((rAt (mAt G (E.run - 1).toNat).t.slots (E.a).toNat).th - 1).toNat).t.lab.s, vi (mAt G ((rAt (mAt G (E.run - 1).toNat).t.slots (E.a).toNat).th - 1).toNat).t.lab.v]), (119, .slice (pa ae) G.length ab), (120, pt cy 1), (121, vi E.run), (122, vi (E.run - 1)), (123, pt fj ek), (124, pt fj (ek + 1)), (125, .agg #[vi (mAt G (E.run - 1).toNat).t.lab.s, vi (mAt G (E.run - 1).toNat).t.lab.v]), (126, vb (!(decide ((mAt G ((rAt (mAt G (E.run - 1).toNat).t.slots (E.a).toNat).th - 1).toNat).t.lab = (mAt G (E.run - 1).toNat).t.lab)))), (127, vb (!(decide ((mAt G ((rAt (mAt G (E.run - 1).toNat).t.slots (E.a).toNat).th - 1).toNat).t.lab = (mAt G (E.run - 1).toNat).t.lab)))), (128, vb (!(decide ((mAt G ((rAt (mAt G (E.run - 1).toNat).t.slots (E.a).toNat).th - 1).toNat).t.lab = (mAt G (E.run - 1).toNat).t.lab)))), (129, undef), (130, undef)]) (fun w' => cl.grownBy w' none) Y0 (by kernel_rfl) (X7 _) ?_ ?_
 refine yl Z (fun _ _ k => Xd (o' := 0) Yl ai Z Z k) (yl Z (fun _ i3 k => Xh (v := vi (rAt (mAt G (E.run - 1).toNat).t.slots (E.a).toNat).th) Xz Z ((ad.blk.grown0 i3).cell Z) Z k) (yl Z (fun _ _ k => X3 (q := decide ((rAt (mAt G (E.run - 1).toNat).t.slots (E.a).toNat).th = 0)) Z Z Z Z k) (yl Z (fun _ _ k => Xb (v := vb (decide ((rAt (mAt G (E.run - 1).toNat).t.slots (E.a).toNat).th = 0))) Z Z k) (yl Z (fun _ _ k => Xe Z Z Z J (Xb (v := .slice (pa ae) G.length ab) an Z k)) (yl Z (fun _ _ k => Xe Z Z Z J (Xd (o' := 0) Yl ai Z Z k)) (yl Z (fun _ i4 k => Xe Z Z Z J (Xh (v := vi (rAt (mAt G (E.run - 1).toNat).t.slots (E.a).toNat).th) Xz Z ((ad.blk.grown0 i4).cell Z) Z k)) (yl Z (fun _ _ k => Xe Z Z Z J (Ym (c := (rAt (mAt G (E.run - 1).toNat).t.slots (E.a).toNat).th - 1) Z Z (by omega) (by omega) (by omega) Z k)) (yl Z (fun _ _ k => Xe Z Z Z J (X0 Y6 Z Z dq dx (by omega) (by omega) Z k)) (yl Z (fun _ _ k => Xe Z Z Z J (Xd (o' := be) Y7 Z Z Z k)) (yl Z (fun _ i5 k => Xe Z Z Z J (Xh (v := vi (mAt G ((rAt (mAt G (E.run - 1).toNat).t.slots (E.a).toNat).th - 1).toNat).t.kind) Xz Z ((Ye d0 i5) 0 _ Z) Z k)) ?_))))))))))
 refine yl Z (fun _ _ k => Xe Z Z Z J (Qj (q := !(decide ((mAt G ((rAt (mAt G (E.run - 1).toNat).t.slots (E.a).toNat).th - 1).toNat).t.kind = 4))) Z Z Z Z k)) (yl Z (fun _ _ k => Xn (v := vb (!(decide ((mAt G ((rAt (mAt G (E.run - 1).toNat).t.slots (E.a).toNat).th - 1).toNat).t.kind = 4)))) Z J Z Z k) (yl Z (fun _ _ k => Xb (v := vb (!(decide ((mAt G ((rAt (mAt G (E.run - 1).toNat).t.slots (E.a).toNat).th - 1).toNat).t.kind = 4)))) Z Z k) (yl Z (fun _ _ k => Xe Z Z Z V (Xb (v := .slice (pa ae) G.length ab) an Z k)) (yl Z (fun _ _ k => Xe Z Z Z V (Xd (o' := 0) Yl ai Z Z k)) (yl Z (fun _ i6 k => Xe Z Z Z V (Xh (v := vi (rAt (mAt G (E.run - 1).toNat).t.slots (E.a).toNat).th) Xz Z ((ad.blk.grown0 i6).cell Z) Z k)) (yl Z (fun _ _ k => Xe Z Z Z V (Ym (c := (rAt (mAt G (E.run - 1).toNat).t.slots (E.a).toNat).th - 1) Z Z (by omega) (by omega) (by omega) Z k)) (yl Z (fun _ _ k => Xe Z Z Z V (X0 Y6 Z Z dq dx (by omega) (by omega) Z k)) (yl Z (fun _ _ k => Xe Z Z Z V (Xd (o' := be + 6) Qs Z Z Z k)) (yl Z (fun _ i7 k => Xe Z Z Z V (Xh (v := .slice (mAt G ((rAt (mAt G (E.run - 1).toNat).t.slots (E.a).toNat).th - 1).toNat).qa (mAt G ((rAt (mAt G (E.run - 1).toNat).t.slots (E.a).toNat).th - 1).toNat).t.queue.length (mAt G ((rAt (mAt G (E.run - 1).toNat).t.slots (E.a).toNat).th - 1).toNat).qc) Jr Z ((Ye d0 i7) 6 _ Z) Z k)) (yl Z (fun _ _ k => Xe Z Z Z V (Yr (by kernel_rfl) Z Z k)) ?_))))))))))
 refine yl Z (fun _ _ k => Xe Z Z Z V (Qw (q := decide (0 < ((mAt G ((rAt (mAt G (E.run - 1).toNat).t.slots (E.a).toNat).th - 1).toNat).t.queue.length : Int))) Z Z Z Z k)) (yl Z (fun _ _ k => Xn (v := vb (decide (0 < ((mAt G ((rAt (mAt G (E.run - 1).toNat).t.slots (E.a).toNat).th - 1).toNat).t.queue.length : Int)))) Z V Z Z k) (yl Z (fun _ _ k => Xb (v := vb (decide (0 < ((mAt G ((rAt (mAt G (E.run - 1).toNat).t.slots (E.a).toNat).th - 1).toNat).t.queue.length : Int)))) Z Z k) (yl Z (fun _ _ k => Xe Z Z Z ag (Xd (o' := 2) Kx ai Z Z k)) (yl Z (fun _ i8 k => Xe Z Z Z ag (Xh (v := vb (rAt (mAt G (E.run - 1).toNat).t.slots (E.a).toNat).rd) Jn Z ((ad.blk.grown0 i8).cell Z) Z k)) (yl Z (fun _ _ k => Xe Z Z Z ag (Yj (b' := !(rAt (mAt G (E.run - 1).toNat).t.slots (E.a).toNat).rd) Z Z Z k)) (yl Z (fun _ _ k => Xn (v := vb (!(rAt (mAt G (E.run - 1).toNat).t.slots (E.a).toNat).rd)) Z ag Z Z k) (yl Z (fun _ _ k => Xb (v := vb (!(rAt (mAt G (E.run - 1).toNat).t.slots (E.a).toNat).rd)) Z Z k) (yl Z (fun _ _ k => Xe Z Z Z af (Xd (o' := 3) Kb ai Z Z k)) (yl Z (fun _ i9 k => Xe Z Z Z af (Xh (v := vb (rAt (mAt G (E.run - 1).toNat).t.slots (E.a).toNat).wr) Jn Z ((ad.blk.grown0 i9).cell Z) Z k)) (yl Z (fun _ _ k => Xe Z Z Z af (Yj (b' := !(rAt (mAt G (E.run - 1).toNat).t.slots (E.a).toNat).wr) Z Z Z k)) ?_))))))))))
 refine yl Z (fun _ _ k => Xn (v := vb (!(rAt (mAt G (E.run - 1).toNat).t.slots (E.a).toNat).wr)) Z af Z Z k) (yl Z (fun _ _ k => Xb (v := vb (!(rAt (mAt G (E.run - 1).toNat).t.slots (E.a).toNat).wr)) Z Z k) (yl Z (fun _ _ k => Xe Z Z Z O (Xb (v := .slice (pa ae) G.length ab) an Z k)) (yl Z (fun _ _ k => Xe Z Z Z O (Xd (o' := 0) Yl ai Z Z k)) (yl Z (fun _ ja k => Xe Z Z Z O (Xh (v := vi (rAt (mAt G (E.run - 1).toNat).t.slots (E.a).toNat).th) Xz Z ((ad.blk.grown0 ja).cell Z) Z k)) (yl Z (fun _ _ k => Xe Z Z Z O (Ym (c := (rAt (mAt G (E.run - 1).toNat).t.slots (E.a).toNat).th - 1) Z Z (by omega) (by omega) (by omega) Z k)) (yl Z (fun _ _ k => Xe Z Z Z O (X0 Y6 Z Z dq dx (by omega) (by omega) Z k)) (yl Z (fun _ _ k => Xe Z Z Z O (Xd (o' := be + 1) J6 Z Z Z k)) (yl Z (fun _ jb k => Xe Z Z Z O (Xq (vs := [vi (mAt G ((rAt (mAt G (E.run - 1).toNat).t.slots (E.a).toNat).th - 1).toNat).t.lab.s, vi (mAt G ((rAt (mAt G (E.run - 1).toNat).t.slots (E.a).toNat).th - 1).toNat).t.lab.v]) J5 Z Z (Y3 (Ye d0 jb) 1 2 Z) Z k)) (yl Z (fun _ _ k => Xe Z Z Z O (Xb (v := .slice (pa ae) G.length ab) an Z k)) (yl Z (fun _ _ k => Xe Z Z Z O (Xd (o' := 1) Y9 bw Z Z k)) ?_))))))))))
 exact yl Z (fun _ jc k => Xe Z Z Z O (Xh (v := vi E.run) Xz Z (((((dg.grown0 a8).grown0 bc).gn ad.grw).grown0 jc).cell Z) Z k)) (yl Z (fun _ _ k => Xe Z Z Z O (Ym (c := E.run - 1) Z Z (by omega) (by omega) (by omega) Z k)) (yl Z (fun _ _ k => Xe Z Z Z O (X0 Y6 Z Z g8 ju (by omega) (by omega) Z k)) (yl Z (fun _ _ k => Xe Z Z Z O (Xd (o' := ek + 1) J6 Z Z Z k)) (yl Z (fun _ jd k => Xe Z Z Z O (Xq (vs := [vi (mAt G (E.run - 1).toNat).t.lab.s, vi (mAt G (E.run - 1).toNat).t.lab.v]) J5 Z Z (Y3 (Ye jw jd) 1 2 Z) Z k)) (yl Z (fun _ _ k => Xe Z Z Z O (V9 (q := !(decide ((mAt G ((rAt (mAt G (E.run - 1).toNat).t.slots (E.a).toNat).th - 1).toNat).t.lab = (mAt G (E.run - 1).toNat).t.lab))) Z Z (L3 _ _ (mAt G ((rAt (mAt G (E.run - 1).toNat).t.slots (E.a).toNat).th - 1).toNat).t.lab (mAt G (E.run - 1).toNat).t.lab _) (L4 (mAt G ((rAt (mAt G (E.run - 1).toNat).t.slots (E.a).toNat).th - 1).toNat).t.lab (mAt G (E.run - 1).toNat).t.lab _) Z Z k)) (yl Z (fun _ _ k => Xn (v := vb (!(decide ((mAt G ((rAt (mAt G (E.run - 1).toNat).t.slots (E.a).toNat).th - 1).toNat).t.lab = (mAt G (E.run - 1).toNat).t.lab)))) Z O Z Z k) (yl Z (fun _ _ k => Xb (v := vb (!(decide ((mAt G ((rAt (mAt G (E.run - 1).toNat).t.slots (E.a).toNat).th - 1).toNat).t.lab = (mAt G (E.run - 1).toNat).t.lab)))) Z Z k) (yl Z (fun _ _ k => Xi Z Z Z ao Z k) (yl Z (fun _ _ k => Xi Z Z Z ao Z k) Y2)))))))))
 intro qk je
 exact Xi Z Z Z ao Z (Xi Z Z Z ao Z (Xo (v := vb true) Z ao Z Z (Xc (Xv ⟨⟨c8, c9, an, bw, (congrArg Value.bool (by first | (simp only [af, aw, a9, ba, cd, O, dm, ao, ef, az, aq, J, V, bh, ag, ap, ar, aj, b0, b1, b2, b3, b4, b5, b6, b7, b8, b9]; done) | simp [af, aw, a9, ba, cd, O, dm, ao, ef, az, aq, J, V, bh, ag, ap, ar, aj]))⟩, je⟩))))
 have eg := Qu ao
 have pu := of_decide_eq_true eg
 have da := (TabG.ge (TabG.low av bc) ad.grw ck (by omega))
 obtain ⟨cc, qf, bf, dr, dy, d1⟩ := SlAt.at (TabG.at da).1 (Yk (xg G ((rAt (mAt G (E.run - 1).toNat).t.slots (E.a).toNat).th - 1).toNat))
 have od := TabLen.at am (xg G ((rAt (mAt G (E.run - 1).toNat).t.slots (E.a).toNat).th - 1).toNat)
 obtain ⟨fk, qg, em, g9, jv, jx⟩ := SlAt.at (TabG.at da).1 (Yk (xg G (E.run - 1).toNat))
 have oe := TabLen.at am (xg G (E.run - 1).toNat)
 refine Yt (m := 54) (vals := [(77, pt ac 0), (78, vi (rAt (mAt G (E.run - 1).toNat).t.slots (E.a).toNat).th), (79, vb (decide ((rAt (mAt G (E.run - 1).toNat).t.slots (E.a).toNat).th = 0))), (80, vb (decide ((rAt (mAt G (E.run - 1).toNat).t.slots (E.a).toNat).th = 0))), (81, .slice (pa ae) G.length ab), (82, pt ac 0), (83, vi (rAt (mAt G (E.run - 1).toNat).t.slots (E.a).toNat).th), (84, vi ((rAt (mAt G (E.run - 1).toNat).t.slots (E.a).toNat).th - 1)), (85, pt cc bf), (86, pt cc bf), (87, vi (mAt G ((rAt (mAt G (E.run - 1).toNat).t.slots (E.a).toNat).th - 1).toNat).t.kind), (88, vb (!(decide ((mAt G ((rAt (mAt G (E.run - 1).toNat).t.slots (E.a).toNat).th - 1).toNat).t.kind = 4)))), (89, vb (!(decide ((mAt G ((rAt (mAt G (E.run - 1).toNat).t.slots (E.a).toNat).th - 1).toNat).t.kind = 4)))), (90, vb (!(decide ((mAt G ((rAt (mAt G (E.run - 1).toNat).t.slots (E.a).toNat).th - 1).toNat).t.kind = 4)))), (91, .slice (pa ae) G.length ab), (92, pt ac 0), (93, vi (rAt (mAt G (E.run - 1).toNat).t.slots (E.a).toNat).th), (94, vi ((rAt (mAt G (E.run - 1).toNat).t.slots (E.a).toNat).th - 1)), (95, pt cc bf), (96, pt cc (bf + 6)), (97, .slice (mAt G ((rAt (mAt G (E.run - 1).toNat).t.slots (E.a).toNat).th - 1).toNat).qa (mAt G ((rAt (mAt G (E.run - 1).toNat).t.slots (E.a).toNat).th - 1).toNat).t.queue.length (mAt G ((rAt (mAt G (E.run - 1).toNat).t.slots (E.a).toNat).th - 1).toNat).qc), (98, vi ((mAt G ((rAt (mAt G (E.run - 1).toNat).t.slots (E.a).toNat).th - 1).toNat).t.queue.length : Int)), (99, vb (decide (0 < ((mAt G ((rAt (mAt G (E.run - 1).toNat).t.slots (E.a).toNat).th - 1).toNat).t.queue.length : Int)))), (100, vb (decide (0 < ((mAt G ((rAt (mAt G (E.run - 1).toNat).t.slots (E.a).toNat).th - 1).toNat).t.queue.length : Int)))), (101, vb (decide (0 < ((mAt G ((rAt (mAt G (E.run - 1).toNat).t.slots (E.a).toNat).th - 1).toNat).t.queue.length : Int)))), (102, pt ac 2), (103, vb (rAt (mAt G (E.run - 1).toNat).t.slots (E.a).toNat).rd), (104, vb (!(rAt (mAt G (E.run - 1).toNat).t.slots (E.a).toNat).rd)), (105, vb (!(rAt (mAt G (E.run - 1).toNat).t.slots (E.a).toNat).rd)), (106, vb (!(rAt (mAt G (E.run - 1).toNat).t.slots (E.a).toNat).rd)), (107, pt ac 3), (108, vb (rAt (mAt G (E.run - 1).toNat).t.slots (E.a).toNat).wr), (109, vb (!(rAt (mAt G (E.run - 1).toNat).t.slots (E.a).toNat).wr)), (110, vb (!(rAt (mAt G (E.run - 1).toNat).t.slots (E.a).toNat).wr)), (111, vb (!(rAt (mAt G (E.run - 1).toNat).t.slots (E.a).toNat).wr)), (112, .slice (pa ae) G.length ab), (113, pt ac 0), (114, vi (rAt (mAt G (E.run - 1).toNat).t.slots (E.a).toNat).th), (115, vi ((rAt (mAt G (E.run - 1).toNat).t.slots (E.a).toNat).th - 1)), (116, pt cc bf), (117, pt cc (bf + 1)), (118, .agg #[vi (mAt G ((rAt (mAt G (E.run - 1).toNat).t.slots (E.a).toNat).th - 1).toNat).t.lab.s, vi (mAt G ((rAt (mAt G (E.run - 1).toNat).t.slots (E.a).toNat).th - 1).toNat).t.lab.v]), (119, .slice (pa ae) G.length ab), (120, pt cy 1), (121, vi E.run), (122, vi (E.run - 1)), (123, pt fk em), (124, pt fk (em + 1)), (125, .agg #[vi (mAt G (E.run - 1).toNat).t.lab.s, vi (mAt G (E.run - 1).toNat).t.lab.v]), (126, vb (!(decide ((mAt G ((rAt (mAt G (E.run - 1).toNat).t.slots (E.a).toNat).th - 1).toNat).t.lab = (mAt G (E.run - 1).toNat).t.lab)))), (127, vb (!(decide ((mAt G ((rAt (mAt G (E.run - 1).toNat).t.slots (E.a).toNat).th - 1).toNat).t.lab = (mAt G (E.run - 1).toNat).t.lab)))), (128, vb (!(decide ((mAt G ((rAt (mAt G (E.run - 1).toNat).t.slots (E.a).toNat).th - 1).toNat).t.lab = (mAt G (E.run - 1).toNat).t.lab)))), (129, .slice (pa ae) G.length ab), (130, .agg #[vi (rAt (mAt G (E.run - 1).toNat).t.slots (E.a).toNat).th, vi (rAt (mAt G (E.run - 1).toNat).t.slots (E.a).toNat).ve, vb (rAt (mAt G (E.run - 1).toNat).t.slots (E.a).toNat).rd, vb (rAt (mAt G (E.run - 1).toNat).t.slots (E.a).toNat).wr, vb (rAt (mAt G (E.run - 1).toNat).t.slots (E.a).toNat).wk])]) (fun w' => cl.grownBy w' none) Y0 (by kernel_rfl) (X7 _) ?_ ?_
 refine yl Z (fun _ _ k => Xd (o' := 0) Yl ai Z Z k) (yl Z (fun _ jf k => Xh (v := vi (rAt (mAt G (E.run - 1).toNat).t.slots (E.a).toNat).th) Xz Z ((ad.blk.grown0 jf).cell Z) Z k) (yl Z (fun _ _ k => X3 (q := decide ((rAt (mAt G (E.run - 1).toNat).t.slots (E.a).toNat).th = 0)) Z Z Z Z k) (yl Z (fun _ _ k => Xb (v := vb (decide ((rAt (mAt G (E.run - 1).toNat).t.slots (E.a).toNat).th = 0))) Z Z k) (yl Z (fun _ _ k => Xe Z Z Z J (Xb (v := .slice (pa ae) G.length ab) an Z k)) (yl Z (fun _ _ k => Xe Z Z Z J (Xd (o' := 0) Yl ai Z Z k)) (yl Z (fun _ jg k => Xe Z Z Z J (Xh (v := vi (rAt (mAt G (E.run - 1).toNat).t.slots (E.a).toNat).th) Xz Z ((ad.blk.grown0 jg).cell Z) Z k)) (yl Z (fun _ _ k => Xe Z Z Z J (Ym (c := (rAt (mAt G (E.run - 1).toNat).t.slots (E.a).toNat).th - 1) Z Z (by omega) (by omega) (by omega) Z k)) (yl Z (fun _ _ k => Xe Z Z Z J (X0 Y6 Z Z dr dy (by omega) (by omega) Z k)) (yl Z (fun _ _ k => Xe Z Z Z J (Xd (o' := bf) Y7 Z Z Z k)) (yl Z (fun _ jh k => Xe Z Z Z J (Xh (v := vi (mAt G ((rAt (mAt G (E.run - 1).toNat).t.slots (E.a).toNat).th - 1).toNat).t.kind) Xz Z ((Ye d1 jh) 0 _ Z) Z k)) ?_))))))))))
 refine yl Z (fun _ _ k => Xe Z Z Z J (Qj (q := !(decide ((mAt G ((rAt (mAt G (E.run - 1).toNat).t.slots (E.a).toNat).th - 1).toNat).t.kind = 4))) Z Z Z Z k)) (yl Z (fun _ _ k => Xn (v := vb (!(decide ((mAt G ((rAt (mAt G (E.run - 1).toNat).t.slots (E.a).toNat).th - 1).toNat).t.kind = 4)))) Z J Z Z k) (yl Z (fun _ _ k => Xb (v := vb (!(decide ((mAt G ((rAt (mAt G (E.run - 1).toNat).t.slots (E.a).toNat).th - 1).toNat).t.kind = 4)))) Z Z k) (yl Z (fun _ _ k => Xe Z Z Z V (Xb (v := .slice (pa ae) G.length ab) an Z k)) (yl Z (fun _ _ k => Xe Z Z Z V (Xd (o' := 0) Yl ai Z Z k)) (yl Z (fun _ ji k => Xe Z Z Z V (Xh (v := vi (rAt (mAt G (E.run - 1).toNat).t.slots (E.a).toNat).th) Xz Z ((ad.blk.grown0 ji).cell Z) Z k)) (yl Z (fun _ _ k => Xe Z Z Z V (Ym (c := (rAt (mAt G (E.run - 1).toNat).t.slots (E.a).toNat).th - 1) Z Z (by omega) (by omega) (by omega) Z k)) (yl Z (fun _ _ k => Xe Z Z Z V (X0 Y6 Z Z dr dy (by omega) (by omega) Z k)) (yl Z (fun _ _ k => Xe Z Z Z V (Xd (o' := bf + 6) Qs Z Z Z k)) (yl Z (fun _ jj k => Xe Z Z Z V (Xh (v := .slice (mAt G ((rAt (mAt G (E.run - 1).toNat).t.slots (E.a).toNat).th - 1).toNat).qa (mAt G ((rAt (mAt G (E.run - 1).toNat).t.slots (E.a).toNat).th - 1).toNat).t.queue.length (mAt G ((rAt (mAt G (E.run - 1).toNat).t.slots (E.a).toNat).th - 1).toNat).qc) Jr Z ((Ye d1 jj) 6 _ Z) Z k)) (yl Z (fun _ _ k => Xe Z Z Z V (Yr (by kernel_rfl) Z Z k)) ?_))))))))))
 refine yl Z (fun _ _ k => Xe Z Z Z V (Qw (q := decide (0 < ((mAt G ((rAt (mAt G (E.run - 1).toNat).t.slots (E.a).toNat).th - 1).toNat).t.queue.length : Int))) Z Z Z Z k)) (yl Z (fun _ _ k => Xn (v := vb (decide (0 < ((mAt G ((rAt (mAt G (E.run - 1).toNat).t.slots (E.a).toNat).th - 1).toNat).t.queue.length : Int)))) Z V Z Z k) (yl Z (fun _ _ k => Xb (v := vb (decide (0 < ((mAt G ((rAt (mAt G (E.run - 1).toNat).t.slots (E.a).toNat).th - 1).toNat).t.queue.length : Int)))) Z Z k) (yl Z (fun _ _ k => Xe Z Z Z ag (Xd (o' := 2) Kx ai Z Z k)) (yl Z (fun _ jk k => Xe Z Z Z ag (Xh (v := vb (rAt (mAt G (E.run - 1).toNat).t.slots (E.a).toNat).rd) Jn Z ((ad.blk.grown0 jk).cell Z) Z k)) (yl Z (fun _ _ k => Xe Z Z Z ag (Yj (b' := !(rAt (mAt G (E.run - 1).toNat).t.slots (E.a).toNat).rd) Z Z Z k)) (yl Z (fun _ _ k => Xn (v := vb (!(rAt (mAt G (E.run - 1).toNat).t.slots (E.a).toNat).rd)) Z ag Z Z k) (yl Z (fun _ _ k => Xb (v := vb (!(rAt (mAt G (E.run - 1).toNat).t.slots (E.a).toNat).rd)) Z Z k) (yl Z (fun _ _ k => Xe Z Z Z af (Xd (o' := 3) Kb ai Z Z k)) (yl Z (fun _ jl k => Xe Z Z Z af (Xh (v := vb (rAt (mAt G (E.run - 1).toNat).t.slots (E.a).toNat).wr) Jn Z ((ad.blk.grown0 jl).cell Z) Z k)) (yl Z (fun _ _ k => Xe Z Z Z af (Yj (b' := !(rAt (mAt G (E.run - 1).toNat).t.slots (E.a).toNat).wr) Z Z Z k)) ?_))))))))))
 refine yl Z (fun _ _ k => Xn (v := vb (!(rAt (mAt G (E.run - 1).toNat).t.slots (E.a).toNat).wr)) Z af Z Z k) (yl Z (fun _ _ k => Xb (v := vb (!(rAt (mAt G (E.run - 1).toNat).t.slots (E.a).toNat).wr)) Z Z k) (yl Z (fun _ _ k => Xe Z Z Z O (Xb (v := .slice (pa ae) G.length ab) an Z k)) (yl Z (fun _ _ k => Xe Z Z Z O (Xd (o' := 0) Yl ai Z Z k)) (yl Z (fun _ jm k => Xe Z Z Z O (Xh (v := vi (rAt (mAt G (E.run - 1).toNat).t.slots (E.a).toNat).th) Xz Z ((ad.blk.grown0 jm).cell Z) Z k)) (yl Z (fun _ _ k => Xe Z Z Z O (Ym (c := (rAt (mAt G (E.run - 1).toNat).t.slots (E.a).toNat).th - 1) Z Z (by omega) (by omega) (by omega) Z k)) (yl Z (fun _ _ k => Xe Z Z Z O (X0 Y6 Z Z dr dy (by omega) (by omega) Z k)) (yl Z (fun _ _ k => Xe Z Z Z O (Xd (o' := bf + 1) J6 Z Z Z k)) (yl Z (fun _ jo k => Xe Z Z Z O (Xq (vs := [vi (mAt G ((rAt (mAt G (E.run - 1).toNat).t.slots (E.a).toNat).th - 1).toNat).t.lab.s, vi (mAt G ((rAt (mAt G (E.run - 1).toNat).t.slots (E.a).toNat).th - 1).toNat).t.lab.v]) J5 Z Z (Y3 (Ye d1 jo) 1 2 Z) Z k)) (yl Z (fun _ _ k => Xe Z Z Z O (Xb (v := .slice (pa ae) G.length ab) an Z k)) (yl Z (fun _ _ k => Xe Z Z Z O (Xd (o' := 1) Y9 bw Z Z k)) ?_))))))))))
 exact yl Z (fun _ jp k => Xe Z Z Z O (Xh (v := vi E.run) Xz Z (((((dg.grown0 a8).grown0 bc).gn ad.grw).grown0 jp).cell Z) Z k)) (yl Z (fun _ _ k => Xe Z Z Z O (Ym (c := E.run - 1) Z Z (by omega) (by omega) (by omega) Z k)) (yl Z (fun _ _ k => Xe Z Z Z O (X0 Y6 Z Z g9 jv (by omega) (by omega) Z k)) (yl Z (fun _ _ k => Xe Z Z Z O (Xd (o' := em + 1) J6 Z Z Z k)) (yl Z (fun _ jq k => Xe Z Z Z O (Xq (vs := [vi (mAt G (E.run - 1).toNat).t.lab.s, vi (mAt G (E.run - 1).toNat).t.lab.v]) J5 Z Z (Y3 (Ye jx jq) 1 2 Z) Z k)) (yl Z (fun _ _ k => Xe Z Z Z O (V9 (q := !(decide ((mAt G ((rAt (mAt G (E.run - 1).toNat).t.slots (E.a).toNat).th - 1).toNat).t.lab = (mAt G (E.run - 1).toNat).t.lab))) Z Z (L3 _ _ (mAt G ((rAt (mAt G (E.run - 1).toNat).t.slots (E.a).toNat).th - 1).toNat).t.lab (mAt G (E.run - 1).toNat).t.lab _) (L4 (mAt G ((rAt (mAt G (E.run - 1).toNat).t.slots (E.a).toNat).th - 1).toNat).t.lab (mAt G (E.run - 1).toNat).t.lab _) Z Z k)) (yl Z (fun _ _ k => Xn (v := vb (!(decide ((mAt G ((rAt (mAt G (E.run - 1).toNat).t.slots (E.a).toNat).th - 1).toNat).t.lab = (mAt G (E.run - 1).toNat).t.lab)))) Z O Z Z k) (yl Z (fun _ _ k => Xb (v := vb (!(decide ((mAt G ((rAt (mAt G (E.run - 1).toNat).t.slots (E.a).toNat).th - 1).toNat).t.lab = (mAt G (E.run - 1).toNat).t.lab)))) Z Z k) (yl Z (fun _ _ k => Xe Z Z Z ao (Xb (v := .slice (pa ae) G.length ab) an Z k)) (yl Z (fun _ jr k => Xe Z Z Z ao (Xq (vs := [vi (rAt (mAt G (E.run - 1).toNat).t.slots (E.a).toNat).th, vi (rAt (mAt G (E.run - 1).toNat).t.slots (E.a).toNat).ve, vb (rAt (mAt G (E.run - 1).toNat).t.slots (E.a).toNat).rd, vb (rAt (mAt G (E.run - 1).toNat).t.slots (E.a).toNat).wr, vb (rAt (mAt G (E.run - 1).toNat).t.slots (E.a).toNat).wk]) Yz ai Z ((ad.blk.grown0 jr).rangeL 0 5 Z) Z k)) Y2)))))))))
 intro qm fd
 refine Xe Z Z Z ao (Xm Db (Xg Z (Xg Z Xl)) Z (H1 (rAt (mAt G (E.run - 1).toNat).t.slots (E.a).toNat) _ G _ _ (TabG.at (TabG.low da fd)) am (by omega)) ?_)
 rintro _ qn ⟨rfl, ij⟩
 exact Xe Z Z Z ao (Yj (b' := !tabLive (tabT G) (rAt (mAt G (E.run - 1).toNat).t.slots (E.a).toNat)) Z Z Z (Xn (v := vb (!tabLive (tabT G) (rAt (mAt G (E.run - 1).toNat).t.slots (E.a).toNat))) Z ao Z Z (Xc (Xv ⟨⟨c8, c9, an, bw, (congrArg Value.bool (by first | (simp only [af, aw, a9, ba, cd, O, dm, ao, eg, az, aq, J, V, bh, ag, ap, ar, aj, b0, b1, b2, b3, b4, b5, b6, b7, b8, b9]; done) | simp [af, aw, a9, ba, cd, O, dm, ao, eg, az, aq, J, V, bh, ag, ap, ar, aj]))⟩, (grown_trans fd ij)⟩))))
 rintro pp qo ⟨⟨j5, po, j6, bg, j7⟩, cn⟩
 have dt := low0 (low1 (low0 ei bc) ad.grw (by omega)) cn
 refine X2 j7 (fun eh => ?_) (fun eh => ?_)
 refine Xa (Xf (v := vb true) Z Z (Xc (Xt (Yo (⟨vb true, Yx Z Z, ?_, dt⟩)))))
 rfl
 have fp := J3 eh
 have fq := J3 fp
 have fr := J3 fq
 have ft := J3 fr
 have fu := J3 ft
 have fv := J3 fu
 have pv := of_decide_eq_false fv
 have j8 := J4 fu
 have fw := Qu j8
 have pw := of_decide_eq_true fw
 have j9 := J4 ft
 have px := of_decide_eq_false j9
 have ka := J4 fr
 have kb := Qu ka
 have kc := J4 fq
 have ke := Qu kc
 have kf := J4 fp
 have fx := Qu kf
 have py := of_decide_eq_true fx
 have kg := J4 eh
 have kh := Qu kg
 refine Xy (Xv (Xa (Xb (v := .slice a2 m c2) j5 Z (Yr (by kernel_rfl) Z Z (Q4 (c := (m : Int) % 90) Z Z (by omega) (by omega) (by omega) Z Z (Xf (v := vi ((m : Int) % 90)) Z Z (Xc (Xa (Xb (v := .slice (pa ae) G.length ab) j6 Z (Xd (o' := 1) Y9 bg Z Z ?_))))))))))
 have d2 := ((((dg.grown0 a8).grown0 bc).gn ad.grw).grown0 cn)
 refine Xh (v := vi E.run) Xz Z (d2.cell Z) Z (Xd (o' := 2) Ju bg Z Z (Xh (v := vi E.a) Xz Z (d2.cell Z) Z (Xb (v := vi ((m : Int) % 90)) Z Z (Ys (ps := [(0, vi 6), (1, vi E.run), (2, vi E.a), (4, vi ((m : Int) % 90))]) (v := .agg #[vi 6, vi E.run, vi E.a, vi 0, vi ((m : Int) % 90)]) (Xj Z (Xj Z (Xj Z (Xj Z X5)))) (by kernel_rfl) Z ?_))))
 have og := (d2).lt
 have gr := (ad.blk.grown0 cn)
 have oh := (gr).lt
 refine Xm Ks (Xg Z (Xg Z Xl)) Z (Jq ⟨6, E.run, E.a, 0, (m : Int) % 90⟩ _ G _ _ (TabG.at (TabG.low (TabG.ge (TabG.low av bc) ad.grw ck (by omega)) cn)) am (by omega) (ErrT.grown0 hE dt)) ?_
 rintro _ lg ⟨d5, bt, au, rfl, ea, bk, du⟩
 have fa := low0 dt du
 obtain ⟨r5, nv⟩ : ∃ n, n = lg.heap.size := ⟨_, rfl⟩
 have no := TabG.hi ea
 rw [← nv] at no
 have ga := Qn bk
 have ow := Y8 bk
 have ia : callOk ⟨6, E.run, E.a, 0, (m : Int) % 90⟩ = true := Kk (by omega)
 have co : callPoss (tabT G) ⟨6, E.run, E.a, 0, (m : Int) % 90⟩ = true := Vo aq ia rfl
 have ox : au.length = G.length := Qm bk co
 have ng : (mAt au (E.run - 1).toNat).t.slots.length = 4 := Kr (q := ⟨6, E.run, E.a, 0, (m : Int) % 90⟩) bk co
 refine Xb (v := .tuple #[.slice d5 au.length bt, vi (callDo (tabT G) ⟨6, E.run, E.a, 0, (m : Int) % 90⟩).2]) Z Z (X1 (v := .slice d5 au.length bt) Z Z Z (X1 (v := vi (callDo (tabT G) ⟨6, E.run, E.a, 0, (m : Int) % 90⟩).2) Z Z Z (Xf (v := .slice d5 au.length bt) Z Z (Xf (v := vi (callDo (tabT G) ⟨6, E.run, E.a, 0, (m : Int) % 90⟩).2) Z Z (Xc (Xa (Xb (v := .slice d5 au.length bt) Z Z (Xd (o' := 1) Y9 bg Z Z ?_))))))))
 have d3 := (d2.grown0 du)
 refine Xh (v := vi E.run) Xz Z (d3.cell Z) Z (Xd (o' := 2) Ju bg Z Z (Xh (v := vi E.a) Xz Z (d3.cell Z) Z (Xb (v := vi ((m : Int) % 90)) Z Z (Yv (c := (m : Int) % 90 + 1) Z Z (by omega) (by omega) (by omega) Z (Ys (ps := [(0, vi 6), (1, vi E.run), (2, vi E.a), (4, vi ((m : Int) % 90 + 1))]) (v := .agg #[vi 6, vi E.run, vi E.a, vi 0, vi ((m : Int) % 90 + 1)]) (Xj Z (Xj Z (Xj Z (Xj Z X5)))) (by kernel_rfl) Z ?_)))))
 have ol := (d3).lt
 have gt := (gr.grown0 du)
 have om := (gt).lt
 refine Xm Ks (Xg Z (Xg Z Xl)) Z (Jq ⟨6, E.run, E.a, 0, (m : Int) % 90 + 1⟩ _ au _ _ (TabG.at ea) ga (by omega) (ErrT.grown0 hE fa)) ?_
 rintro _ lh ⟨d6, bu, ak, rfl, eb, bl, dv⟩
 have fb := low0 fa dv
 obtain ⟨r6, nw⟩ : ∃ n, n = lh.heap.size := ⟨_, rfl⟩
 have np := TabG.hi eb
 rw [← nw] at np
 have gb := Qn bl
 have oy := Y8 bl
 have ib : callOk ⟨6, E.run, E.a, 0, (m : Int) % 90 + 1⟩ = true := Kk (by omega)
 have ct : callPoss (tabT au) ⟨6, E.run, E.a, 0, (m : Int) % 90 + 1⟩ = true := Vp bk co ib rfl
 have oz : ak.length = au.length := Qm bl ct
 have nh : (mAt ak (E.run - 1).toNat).t.slots.length = 4 := Kr (q := ⟨6, E.run, E.a, 0, (m : Int) % 90 + 1⟩) bl ct
 refine Xb (v := .tuple #[.slice d6 ak.length bu, vi (callDo (tabT au) ⟨6, E.run, E.a, 0, (m : Int) % 90 + 1⟩).2]) Z Z (X1 (v := .slice d6 ak.length bu) Z Z Z (X1 (v := vi (callDo (tabT au) ⟨6, E.run, E.a, 0, (m : Int) % 90 + 1⟩).2) Z Z Z (Xf (v := .slice d6 ak.length bu) Z Z (Xc (Xa (Xb (v := .slice d6 ak.length bu) Z Z (Xd (o' := 1) Y9 bg Z Z ?_)))))))
 have d4 := (d3.grown0 dv)
 refine Xh (v := vi E.run) Xz Z (d4.cell Z) Z (Xd (o' := 2) Ju bg Z Z (Xh (v := vi E.a) Xz Z (d4.cell Z) Z (Ys (ps := [(0, vi 7), (1, vi E.run), (2, vi E.a)]) (v := .agg #[vi 7, vi E.run, vi E.a, vi 0, vi 0]) (Xj Z (Xj Z (Xj Z X5))) (by kernel_rfl) Z ?_)))
 have oo := (d4).lt
 have gu := (gt.grown0 dv)
 have oq := (gu).lt
 refine Xm Ks (Xg Z (Xg Z Xl)) Z (Jq ⟨7, E.run, E.a, 0, 0⟩ _ ak _ _ (TabG.at eb) gb (by omega) (ErrT.grown0 hE fb)) ?_
 rintro _ li ⟨d7, bv, ah, rfl, ed, bm, dw⟩
 have fc := low0 fb dw
 obtain ⟨r7, nx⟩ : ∃ n, n = li.heap.size := ⟨_, rfl⟩
 have nq := TabG.hi ed
 rw [← nx] at nq
 have gc := Qn bm
 have o0 := Y8 bm
 have ic : callOk ⟨7, E.run, E.a, 0, 0⟩ = true := Kk (by omega)
 have cv : callPoss (tabT ak) ⟨7, E.run, E.a, 0, 0⟩ = true := Vp bl ct ic rfl
 have o1 : ah.length = ak.length := Qm bm cv
 have ni : (mAt ah (E.run - 1).toNat).t.slots.length = 4 := Kr (q := ⟨7, E.run, E.a, 0, 0⟩) bm cv
 refine Xb (v := .tuple #[.slice d7 ah.length bv, vi (callDo (tabT ak) ⟨7, E.run, E.a, 0, 0⟩).2]) Z Z (X1 (v := .slice d7 ah.length bv) Z Z Z (X1 (v := vi (callDo (tabT ak) ⟨7, E.run, E.a, 0, 0⟩).2) Z Z Z (Xf (v := .slice d7 ah.length bv) Z Z (Xf (v := vi (callDo (tabT ak) ⟨7, E.run, E.a, 0, 0⟩).2) Z Z (Xc (Xa (Xb (v := .slice d7 ah.length bv) Z Z (Xd (o' := 1) Y9 bg Z Z ?_))))))))
 have ej := (d4.grown0 dw)
 refine Xh (v := vi E.run) Xz Z (ej.cell Z) Z (Xd (o' := 2) Ju bg Z Z (Xh (v := vi E.a) Xz Z (ej.cell Z) Z (Ys (ps := [(0, vi 7), (1, vi E.run), (2, vi E.a)]) (v := .agg #[vi 7, vi E.run, vi E.a, vi 0, vi 0]) (Xj Z (Xj Z (Xj Z X5))) (by kernel_rfl) Z ?_)))
 have ot := (ej).lt
 have ou := ((gu.grown0 dw)).lt
 refine Xm Ks (Xg Z (Xg Z Xl)) Z (Jq ⟨7, E.run, E.a, 0, 0⟩ _ ah _ _ (TabG.at ed) gc (by omega) (ErrT.grown0 hE fc)) ?_
 rintro _ lj ⟨eo, cz, bz, rfl, f9, cw, ik⟩
 obtain ⟨r8, ny⟩ : ∃ n, n = lj.heap.size := ⟨_, rfl⟩
 have nr := TabG.hi f9
 rw [← ny] at nr
 have nu := Qn cw
 have o3 := Y8 cw
 have ie : callOk ⟨7, E.run, E.a, 0, 0⟩ = true := Kk (by omega)
 have dz : callPoss (tabT ah) ⟨7, E.run, E.a, 0, 0⟩ = true := Vp bm cv ie rfl
 have o4 : bz.length = ah.length := Qm cw dz
 have nj : (mAt bz (E.run - 1).toNat).t.slots.length = 4 := Kr (q := ⟨7, E.run, E.a, 0, 0⟩) cw dz
 have gz := C3 aq (of_decide_eq_false fv) (of_decide_eq_true fw) kb ke (of_decide_eq_true fx) kh
 obtain ⟨ig, ii⟩ := B9 gz (by omega) co rfl rfl rfl bk ct rfl rfl rfl bl cv rfl rfl rfl bm dz
 have bx : (decide ((callDo (tabT ak) ⟨7, E.run, E.a, 0, 0⟩).2 = (m : Int) % 90)) = true := decide_eq_true ig
 have js : (decide ((callDo (tabT ah) ⟨7, E.run, E.a, 0, 0⟩).2 = (m : Int) % 90 + 1)) = true := decide_eq_true ii
 refine Xb (v := .tuple #[.slice eo bz.length cz, vi (callDo (tabT ah) ⟨7, E.run, E.a, 0, 0⟩).2]) Z Z (X1 (v := .slice eo bz.length cz) Z Z Z (X1 (v := vi (callDo (tabT ah) ⟨7, E.run, E.a, 0, 0⟩).2) Z Z Z (Xf (v := .slice eo bz.length cz) Z Z (Xf (v := vi (callDo (tabT ah) ⟨7, E.run, E.a, 0, 0⟩).2) Z Z (Xc (Xa (Xb (v := vi (callDo (tabT ak) ⟨7, E.run, E.a, 0, 0⟩).2) Z Z (Xb (v := vi ((m : Int) % 90)) Z Z (X3 (q := decide ((callDo (tabT ak) ⟨7, E.run, E.a, 0, 0⟩).2 = (m : Int) % 90)) Z Z Z Z (Xb (v := vb (decide ((callDo (tabT ak) ⟨7, E.run, E.a, 0, 0⟩).2 = (m : Int) % 90))) Z Z (Xe Z Z Z bx (Xb (v := vi (callDo (tabT ah) ⟨7, E.run, E.a, 0, 0⟩).2) Z Z ?_))))))))))))
 refine Xe Z Z Z bx (Xb (v := vi ((m : Int) % 90)) Z Z (Xe Z Z Z bx (Yv (c := (m : Int) % 90 + 1) Z Z (by omega) (by omega) (by omega) Z (Xe Z Z Z bx (X3 (q := decide ((callDo (tabT ah) ⟨7, E.run, E.a, 0, 0⟩).2 = (m : Int) % 90 + 1)) Z Z Z Z (Xo (v := vb (decide ((callDo (tabT ah) ⟨7, E.run, E.a, 0, 0⟩).2 = (m : Int) % 90 + 1))) Z bx Z Z (Xf (v := vb (decide ((callDo (tabT ah) ⟨7, E.run, E.a, 0, 0⟩).2 = (m : Int) % 90 + 1))) Z Z (Xc (Xt (⟨vb (decide ((callDo (tabT ah) ⟨7, E.run, E.a, 0, 0⟩).2 = (m : Int) % 90 + 1)), Yx Z Z, ?_, (low0 fc ik)⟩))))))))))
 exact congrArg Value.bool js
end Go.Proofs.YtlhhijnmacogcaaGreatDoor
end
