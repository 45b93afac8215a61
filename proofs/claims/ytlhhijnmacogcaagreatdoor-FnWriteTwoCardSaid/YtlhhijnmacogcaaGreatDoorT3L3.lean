/- Laws and walks: my templates, and what a program of mine (gen.py) printed out of the functions; only what the row reaches. -/
import Derived.Test.YtlhhijnmacogcaaGreatDoorT35
section
namespace Go.Dw
set_option linter.unusedVariables false
set_option linter.unusedSimpArgs false
section
variable {ts : List Th} {q : Cl}
theorem R3 (hp : callPoss ts q = true) (h0 : check1 ts q = 0) (h3 : ¬ q.kind = 3) : (1 ≤ (slotAt ts q.run q.a).th ∧ (slotAt ts q.run q.a).th ≤ (ts.length : Int)) ∧ kindFor q.kind (thAt ts (slotAt ts q.run q.a).th).kind = true ∧ (need0 q.kind = true → sees ts q.run (slotAt ts q.run q.a).th = true) := by
  have e := Qz hp
  have h := Hs (ts := ts) (q := q) (by omega) h3
  exact ⟨h.1, h.2.1, (Lp (ts := ts) (q := q) (by omega) (by omega) h3).1⟩
theorem K0 (hp : callPoss ts q = true) (h0 : check1 ts q = 0) (h3 : ¬ q.kind = 3) : FarOk ts q (slotAt ts q.run q.a) := by
  have h := R3 hp h0 h3
  obtain ⟨hT, hc, hr⟩ := Yd hp
  exact ⟨hT, hc, hr, h.1, h.2.1, h3⟩
theorem Pg (hp : callPoss ts q = true) (h0 : check1 ts q = 0) (h3 : ¬ q.kind = 3) : ¬ (slotAt ts q.run q.a).th = q.run := fun e => by
  have h := R3 hp h0 h3
  have hr := (Qq (Yd hp).2.2).2
  have hc := Yw (Yd hp).2.1
  have hk := Q5 h.2.1 hc.1
  rw [e, hr] at hk
  omega
theorem Ho (k n j : Int) : thAt (setNum ts k n) j = thAt ts j ∨ thAt (setNum ts k n) j = { thAt ts j with num := n } := by
  unfold setNum setTh thAt
  rw [List.getD_eq_getElem?_getD, List.getD_eq_getElem?_getD, List.getD_eq_getElem?_getD, List.getElem?_set]
  split
  · rename_i e
    split
    · right
      rw [e]
      rfl
    · left
      rw [List.getElem?_eq_none (by omega)]
  · exact Or.inl rfl
theorem Hi (k n j : Int) : (thAt (setNum ts k n) j).lab = (thAt ts j).lab := by rcases Ho (ts := ts) k n j with h | h <;> rw [h]
theorem Se (k n j : Int) : (thAt (setNum ts k n) j).kind = (thAt ts j).kind := by rcases Ho (ts := ts) k n j with h | h <;> rw [h]
theorem Dx (k n j : Int) : (thAt (setNum ts k n) j).ve = (thAt ts j).ve := by rcases Ho (ts := ts) k n j with h | h <;> rw [h]
theorem N1 (k n j : Int) : (thAt (setNum ts k n) j).slots = (thAt ts j).slots := by rcases Ho (ts := ts) k n j with h | h <;> rw [h]
theorem V2 (k n i j : Int) : slotAt (setNum ts k n) i j = slotAt ts i j := by unfold slotAt; rw [N1]
theorem Du (k n i j : Int) : sees (setNum ts k n) i j = sees ts i j := by unfold sees; rw [Hi, Hi]
theorem Sg (k n i j : Int) : touches (setNum ts k n) i j = touches ts i j := by unfold touches; rw [Hi, Hi]
theorem Kz (k n : Int) : (setNum ts k n).length = ts.length := Q7
theorem Hj (k n : Int) (r : Rt) : live (setNum ts k n) r = live ts r := by unfold live; rw [Kz, Dx]
theorem Vn (k n : Int) : check1 (setNum ts k n) q = check1 ts q := by
  unfold check1 chk1 chk2 chk3
  simp only [V2, Se, Du, Sg, Hj]
theorem Sf (hp : callPoss ts q = true) : callPoss (doCall ts q).1 q = true := by
  obtain ⟨hT, hc, hr⟩ := Yd hp
  have h := Wc hp
  have hr := Qq hr
  unfold callPoss
  rw [h.1, hc, M3 (by rw [h.2.1]; exact hr.1) ((h.2.2 _ hr.1.1).trans hr.2)]
  rfl
def Kept (n : Int) (a b : Th) : Prop := (a.kind = 1 → b.num = a.num ∨ b.num = 0 ∨ b.num = n ∨ b.num = n % 2) ∧ ∀ v ∈ b.queue, v = n ∨ v ∈ a.queue
theorem Kept.refl (n : Int) (a : Th) : Kept n a a := ⟨fun _ => Or.inl rfl, fun _ h => Or.inr h⟩
section
variable {ms xs : List MTh}
theorem Wo (hp : callPoss (tabT ms) q = true) : (callDo (tabT ms) q).2 = doAns (tabT ms) q := by rw [Jb hp, Rz]
theorem Kr (ht : tabT xs = (callDo (tabT ms) q).1) (hp : callPoss (tabT ms) q = true) : (mAt xs (q.run - 1).toNat).t.slots.length = 4 := by
  have h := Sf hp
  have h2 := (Yd h)
  rw [← Jb hp, ← ht] at h2
  exact Qt h2.1 h2.2.2
end
end
end Go.Dw
end
section
namespace Go.Dw
set_option linter.unusedVariables false
set_option linter.unusedSimpArgs false
section
variable {ts us : List Th} {q p : Cl}
theorem Kk {k run a b n : Int} (h : (1 ≤ k ∧ k ≤ 9) ∧ (1 ≤ run ∧ run ≤ 8) ∧ (0 ≤ a ∧ a ≤ 3) ∧ (0 ≤ b ∧ b ≤ 3) ∧ 0 ≤ n ∧ n ≤ 99) : callOk ⟨k, run, a, b, n⟩ = true := by
  unfold callOk
  simp only [Bool.and_eq_true]
  exact ⟨⟨⟨⟨Qh.2 h.1, Qh.2 h.2.1⟩, Qh.2 h.2.2.1⟩, Qh.2 h.2.2.2.1⟩, Qh.2 h.2.2.2.2⟩
theorem Vo (hp : callPoss ts q = true) (hc : callOk p = true) (hr : p.run = q.run) : callPoss ts p = true := by
  obtain ⟨hT, _, hk⟩ := Yd hp
  unfold callPoss
  rw [hT, hc, hr, hk]
  rfl
theorem Wu (hp : callPoss ts q = true) (hc : callOk p = true) (hr : p.run = q.run) : callPoss (doCall ts q).1 p = true := Vo (Sf hp) hc hr
theorem Rv {r : Rt} (e1 : slotAt ts q.run q.a = r) (e2 : slotAt us p.run p.a = r) (hr : p.run = q.run) (hk : p.kind = q.kind) (hn : us.length = ts.length)
    (h : (thAt us r.th).kind = (thAt ts r.th).kind ∧ (thAt us r.th).lab = (thAt ts r.th).lab ∧ (thAt us r.th).ve = (thAt ts r.th).ve) (hl : (thAt us q.run).lab = (thAt ts q.run).lab) : check1 us p = check1 ts q := by
  unfold check1 chk1 chk2 chk3 sees touches live
  rw [e1, e2, hr, hk, hn, h.1, h.2.1, h.2.2, hl]
theorem Mh (hp : callPoss ts q = true) (h3 : ¬ q.kind = 3) : (check1 ts q < 0 ∧ doAns ts q = check1 ts q ∧ doPre ts q = ts) ∨ (check1 ts q = 0 ∧ live ts (slotAt ts q.run q.a) = false ∧ doAns ts q = 0 ∧ doPre ts q = ts) ∨
    (check1 ts q = 0 ∧ live ts (slotAt ts q.run q.a) = true ∧ doAns ts q = (if sees ts q.run (slotAt ts q.run q.a).th = true then (far ts q (slotAt ts q.run q.a)).2 else 0) ∧ doPre ts q = (far ts q (slotAt ts q.run q.a)).1) := by
  have hr := Kl ts q
  by_cases h0 : check1 ts q < 0
  · exact Or.inl ⟨h0, Ve h0⟩
  have h0 : check1 ts q = 0 := by omega
  cases hl : live ts (slotAt ts q.run q.a) with
  | false => exact Or.inr (Or.inl ⟨h0, rfl, Uw h0 h3 hl⟩)
  | true => exact Or.inr (Or.inr ⟨h0, rfl, Vl rfl h0 h3 hl (K0 hp h0 h3)⟩)
theorem Py {k a b : Int} (hk : 1 ≤ k ∧ k ≤ (ts.length : Int)) : setNum (setNum ts k a) k b = setNum ts k b := by
  unfold setNum
  rw [Pf, Jf hk k hk.1, if_pos rfl]
theorem Sd {k m a b : Int} (hk : 1 ≤ k ∧ k ≤ (ts.length : Int)) (hm : 1 ≤ m ∧ m ≤ (ts.length : Int)) (hne : ¬ k = m) : setNum (setNum ts k a) m b = setNum (setNum ts m b) k a := by
  unfold setNum
  rw [Jf hk m hm.1, if_neg (Ne.symm hne), Jf hm k hk.1, if_neg hne]
  unfold setTh
  exact List.set_comm _ _ (by omega)
theorem Dv {k m a b c d : Int} (hk : 1 ≤ k ∧ k ≤ (ts.length : Int)) (hm : 1 ≤ m ∧ m ≤ (ts.length : Int)) (hne : ¬ k = m) : setNum (setNum (setNum (setNum ts k a) m b) k c) m d = setNum (setNum ts k c) m d := by
  rw [Sd hk hm hne, Py (by rw [Kz]; exact hk), Sd hm hk (Ne.symm hne), Py (by rw [Kz]; exact hm)]
theorem Ch (hp : callPoss ts q = true) (h2 : q.kind = 2) (hc : callOk p = true) (hr : p.run = q.run) (hk : p.kind = q.kind) (ha : p.a = q.a) : doAns (doCall ts q).1 p = doAns ts p ∧ (doCall (doCall ts q).1 p).1 = (doCall ts p).1 := by
  have h3 : ¬ q.kind = 3 := by omega
  have h3p : ¬ p.kind = 3 := by omega
  have hpp := Vo hp hc hr
  have hpx := Wu hp hc hr
  have hrun := (Qq (Yd hp).2.2).1
  have es : slotAt ts p.run p.a = slotAt ts q.run q.a := by rw [hr, ha]
  have ec : check1 ts p = check1 ts q := Rv rfl es hr hk rfl ⟨rfl, rfl, rfl⟩ rfl
  have rest : ∀ n : Int, (doCall ts q).1 = setNum ts q.run n → doAns (doCall ts q).1 p = n ∧ doPre (doCall ts q).1 p = (doCall ts q).1 → doAns ts p = n ∧ doPre ts p = ts → doAns (doCall ts q).1 p = doAns ts p ∧ (doCall (doCall ts q).1 p).1 = (doCall ts p).1 := fun n e h1 h2 => by
    refine ⟨h1.1.trans h2.1.symm, ?_⟩
    rw [Kn (q := p), Kn (ts := ts) (q := p), h1.1, h1.2, h2.1, h2.2, e, hr, Py hrun]
  rcases Mh hp h3 with ⟨h0, hA, hP⟩ | ⟨h0, hl, hA, hP⟩ | ⟨h0, hl, hA, hP⟩
  · have e : (doCall ts q).1 = setNum ts q.run (check1 ts q) := by rw [Kn, hA, hP]
    refine rest _ e ?_ ?_
    · have : check1 (doCall ts q).1 p = check1 ts q := by rw [e, Vn, ec]
      have h := Ve (ts := (doCall ts q).1) (q := p) (by omega)
      exact ⟨h.1.trans this, h.2⟩
    · have h := Ve (ts := ts) (q := p) (by omega)
      exact ⟨h.1.trans ec, h.2⟩
  · have e : (doCall ts q).1 = setNum ts q.run 0 := by rw [Kn, hA, hP]
    refine rest _ e ?_ ?_
    · refine Uw (by rw [e, Vn, ec]; exact h0) h3p ?_
      rw [e, V2, Hj, es, hl]
    · exact Uw (by rw [ec]; exact h0) h3p (by rw [es, hl])
  · have hF := K0 hp h0 h3
    have hne := Pg hp h0 h3
    have f2 : ∀ (vs : List Th) (c : Cl), c.kind = 2 → far vs c (slotAt ts q.run q.a) = (setNum vs (slotAt ts q.run q.a).th c.n, 0) := fun vs c h => by
      unfold far
      rw [if_neg (by omega), if_pos h]
    rw [f2 ts q h2] at hA hP
    have e : (doCall ts q).1 = setNum (setNum ts (slotAt ts q.run q.a).th q.n) q.run 0 := by
      rw [Kn, hP, hA]
      congr 1
      split <;> rfl
    have sx : slotAt (doCall ts q).1 p.run p.a = slotAt ts q.run q.a := by rw [e, V2, V2, es]
    have hx := Vl sx (by rw [e, Vn, Vn, ec]; exact h0) h3p (by rw [e, Hj, Hj, hl]) (sx ▸ K0 hpx (by rw [e, Vn, Vn, ec]; exact h0) h3p)
    have ht := Vl es (by rw [ec]; exact h0) h3p hl (es ▸ K0 hpp (by rw [ec]; exact h0) h3p)
    rw [f2 _ p (by omega)] at hx ht
    have zx : doAns (doCall ts q).1 p = 0 := by rw [hx.1]; split <;> rfl
    have zt : doAns ts p = 0 := by rw [ht.1]; split <;> rfl
    refine ⟨zx.trans zt.symm, ?_⟩
    rw [Kn (q := p), Kn (ts := ts) (q := p), zx, zt, hx.2, ht.2, e, hr]
    exact Dv hF.th hrun hne
end
end Go.Dw
end
section
namespace Go.Dw
set_option linter.unusedVariables false
set_option linter.unusedSimpArgs false
section
variable {ts : List Th} {q p : Cl}
theorem Cp {r : Rt} (hr : slotAt ts q.run q.a = r) (h0 : ¬ r.th = 0) (hk : kindFor q.kind (thAt ts r.th).kind = true) (hrd : r.rd = true) (hwr : r.wr = true) (hs : sees ts q.run r.th = true) (ht : touches ts q.run r.th = true) (hl : live ts r = true) : check1 ts q = 0 := by
  unfold check1 chk1 chk2 chk3
  rw [hr, hk, hrd, hwr, hs, ht, hl, decide_eq_false h0]
  simp
structure Free (us : List Th) (run a : Int) (r : Rt) (kd : Int) : Prop where
  slot : slotAt us run a = r
  nz : ¬ r.th = 0
  kind : (thAt us r.th).kind = kd
  rd : r.rd = true
  wr : r.wr = true
  sees : sees us run r.th = true
  touches : touches us run r.th = true
  live : live us r = true
theorem Free.check {us : List Th} {run a kd : Int} {r : Rt} (h : Free us run a r kd) (hr : p.run = run) (ha : p.a = a) (hk : kindFor p.kind kd = true) : check1 us p = 0 :=
  Cp (r := r) (by rw [hr, ha]; exact h.slot) h.nz (by rw [h.kind]; exact hk) h.rd h.wr (by rw [hr]; exact h.sees) (by rw [hr]; exact h.touches) h.live
theorem Free.far {us : List Th} {a kd : Int} {r : Rt} (hp : callPoss us p = true) (h : Free us p.run a r kd) (ha : p.a = a) (hk : kindFor p.kind kd = true) (h3 : ¬ p.kind = 3) : FarOk us p r ∧ doAns us p = (Go.Dw.far us p r).2 ∧ (doCall us p).1 = setNum (Go.Dw.far us p r).1 p.run (Go.Dw.far us p r).2 := by
  have h0 := h.check rfl ha hk
  have hs : slotAt us p.run p.a = r := by rw [ha]; exact h.slot
  have hF := K0 hp h0 h3
  rw [hs] at hF
  have hx := Vl hs h0 h3 h.live hF
  rw [if_pos h.sees] at hx
  exact ⟨hF, hx.1, by rw [Kn, hx.1, hx.2]⟩
end
section
variable {ms xs ys zs us : List MTh} {q p s t : Cl}
theorem Vp (ht : tabT xs = (callDo (tabT ms) q).1) (hp : callPoss (tabT ms) q = true) (hc : callOk p = true) (hr : p.run = q.run) : callPoss (tabT xs) p = true := by rw [ht, Jb hp]; exact Wu hp hc hr
theorem Ku (ht : tabT xs = (callDo (tabT ms) q).1) (hp : callPoss (tabT ms) q = true) : tabT xs = (doCall (tabT ms) q).1 := by rw [ht, Jb hp]
theorem Tx (ht : tabT xs = (callDo (tabT ms) q).1) (hp : callPoss (tabT ms) q = true) (h2 : q.kind = 2) (hc : callOk p = true) (hr : p.run = q.run) (hk : p.kind = q.kind) (ha : p.a = q.a) (hty : tabT ys = (callDo (tabT xs) p).1) (htz : tabT zs = (callDo (tabT ms) p).1) : (callDo (tabT xs) p).2 = (callDo (tabT ms) p).2 ∧ tabT ys = tabT zs := by
  have h := Ch hp h2 hc hr hk ha
  have hpx := Vp ht hp hc hr
  have hpp := Vo hp hc hr
  rw [Wo hpx, Wo hpp, Ku hty hpx, Ku htz hpp, Ku ht hp]
  exact h
end
end Go.Dw
end
section
namespace Go.Proofs.YtlhhijnmacogcaaGreatDoor
open Go.RowKit Go.Dw
set_option maxRecDepth 100000
set_option maxHeartbeats 4000000
set_option linter.unusedSimpArgs false
set_option linter.unusedVariables false
theorem Ug : goFn Tryz.prog 15 = true := by kernel_rfl
theorem Uh : goFn Tryz.prog 16 = true := by kernel_rfl
theorem Ks : goFn Tryz.prog 17 = true := by kernel_rfl
theorem K6 : goFn Tryz.prog 18 = true := by kernel_rfl
theorem Ui : goFn Tryz.prog 19 = true := by kernel_rfl
theorem law_FnWriteTwo (bs : List Int) (a : Option Addr) (c : Nat) (w : World) (d0 : SlAt w a 1 (bs.map bcell)) (hb : ∀ b ∈ bs, 0 ≤ b ∧ b ≤ 255) (hn : bs.length ≤ 9223372036854775807) (hc : bs.length ≤ c) (m : Nat) (a2 : Option Addr) (c2 : Nat) (hm : m ≤ 9223372036854775807) (hE : ErrT w) : CallsR Tryz.prog 12 #[.slice a bs.length c, .slice a2 m c2] w (fun v w' => v = .bool true ∧ w.grownBy w' none) := by
 refine Xw (n := 92) Tryz.func12 Z Tryz.ntmps12 Z ?_
 have da := World.grownBy.refl w none
 have hs := SlAt.lt Kh (by omega) d0
 refine Xa (Xf (v := vb false) Z Z (Xc (Xs (X8 (fun f' w' => (f' 0 = .slice a bs.length c ∧ f' 1 = .slice a2 m c2 ∧ f' 4 = vb false ∧ f' 23 = vb ((decide (1048576 < (bs.length : Int))) || (decide (1048576 < (m : Int))))) ∧ w = w') ?_ ?_))))
 refine Xb (v := .slice a bs.length c) Z Z (Yr (by kernel_rfl) Z Z (Qw (q := decide (1048576 < (bs.length : Int))) Z Z Z Z (Xb (v := vb (decide (1048576 < (bs.length : Int)))) Z Z ?_)))
 rcases Yb (decide (1048576 < (bs.length : Int))) with ac | ac
 have ff := of_decide_eq_true ac
 iterate 3 refine Xi rfl rfl rfl ac rfl ?_
 exact Xo (v := vb true) Z ac Z Z (Xc ⟨⟨Z, Z, Z, (congrArg Value.bool (by first | (simp only [ac, b0, b1, b2, b3, b4, b5, b6, b7, b8, b9]; done) | simp [ac]))⟩, Z⟩)
 have fg := of_decide_eq_false ac
 exact Xe Z Z Z ac (Xb (v := .slice a2 m c2) Z Z (Xe Z Z Z ac (Yr (by kernel_rfl) Z Z (Xe Z Z Z ac (Qw (q := decide (1048576 < (m : Int))) Z Z Z Z (Xn (v := vb (decide (1048576 < (m : Int)))) Z ac Z Z (Xc ⟨⟨Z, Z, Z, (congrArg Value.bool (by first | (simp only [ac, b0, b1, b2, b3, b4, b5, b6, b7, b8, b9]; done) | simp [ac]))⟩, Z⟩)))))))
 rintro fe fo ⟨⟨dm, dn, fd, dp⟩, rfl⟩
 refine X2 dp (fun bu => ?_) (fun bu => ?_)
 refine Xa (Xf (v := vb true) Z Z (Xc (Xt (Yo (⟨vb true, Yx Z Z, ?_, da⟩)))))
 rfl
 have dq := J3 bu
 have fh := of_decide_eq_false dq
 have dr := J4 bu
 have fi := of_decide_eq_false dr
 refine Xy (Xv (Xa (Xb (v := .slice a bs.length c) dm Z (Xm Ug (Xg Z Xl) Z (Kp bs a c _ (SlAt.low d0 da) hb (by omega) (by omega)) ?_))))
 rintro _ fp ⟨au, ad, G, E, rfl, aq, cw, d7, fb, dg⟩
 have cc := low0 da dg
 have ar := cw.len
 refine Xb (v := .tuple #[.slice (pa au) G.length ad, .agg #[vi E.kind, vi E.run, vi E.a, vi E.b, vi E.n]]) Z Z (X1 (v := .slice (pa au) G.length ad) Z Z Z (X1 (v := .agg #[vi E.kind, vi E.run, vi E.a, vi E.b, vi E.n]) Z Z Z (Yf (cs := #[vi 0, vi 0, vi 0, vi 0, vi 0]) Wa Z Z ?_)))
 intro fc fq O
 have ea := Yi O cc
 refine Xf (v := .slice (pa au) G.length ad) Z Z (Xx (vs := [vi E.kind, vi E.run, vi E.a, vi E.b, vi E.n]) (cs' := #[vi E.kind, vi E.run, vi E.a, vi E.b, vi E.n]) Y1 Z Z Z (by simp [Value.oneCell']) O.blk (Nat.le_of_ble_eq_true Z) Z ?_)
 intro fr af
 refine Xc (Xa (Xb (v := .slice (pa au) G.length ad) Z Z (Xq (vs := [vi E.kind, vi E.run, vi E.a, vi E.b, vi E.n]) Y1 Z Z (af.blk.rangeL 0 5 Z) Z ?_)))
 have ed := (af.blk).lt
 refine Xm Uh (Xg Z (Xg Z Xl)) Z (Vr E _ G _ _ (TabG.at (TabG.low aq (low1 O.grw af.grw (nt ((World.grownBy.refl _ none)).size (Nat.le_of_eq O.eq.symm))))) ar (by omega)) ?_
 rintro _ ft ⟨bi, am, al, rfl, co, a8, aw⟩
 have cd := low0 (low1 (low0 cc O.grw) af.grw (by omega)) aw
 have bn := Qn a8
 have ek := Y8 a8
 refine Xb (v := .tuple #[.slice (pa bi) al.length am, vi (callDo (tabT G) E).2]) Z Z (X1 (v := .slice (pa bi) al.length am) Z Z Z (X1 (v := vi (callDo (tabT G) E).2) Z Z Z (Xf (v := .slice (pa bi) al.length am) Z Z (Xf (v := vi (callDo (tabT G) E).2) Z Z (Xc (Xa (Xb (v := .slice (pa au) G.length ad) Z Z ?_)))))))
 have cm := (af.blk.grown0 aw)
 refine Xq (vs := [vi E.kind, vi E.run, vi E.a, vi E.b, vi E.n]) Y1 Z Z (cm.rangeL 0 5 Z) Z ?_
 have ee := (cm).lt
 refine Xm Ks (Xg Z (Xg Z Xl)) Z (Jq E _ G _ _ (TabG.at (TabG.low aq (low0 (low1 O.grw af.grw (nt ((World.grownBy.refl _ none)).size (Nat.le_of_eq O.eq.symm))) aw))) ar (by omega) (ErrT.grown0 hE cd)) ?_
 rintro _ fu ⟨bb, ai, J, rfl, bc, ah, az⟩
 have be := Qn ah
 have em := Y8 ah
 refine Xb (v := .tuple #[.slice bb J.length ai, vi (callDo (tabT G) E).2]) Z Z (X1 (v := .slice bb J.length ai) Z Z Z (X1 (v := vi (callDo (tabT G) E).2) Z Z Z (Xf (v := .slice bb J.length ai) Z Z (Xf (v := vi (callDo (tabT G) E).2) Z Z (Xc (Xs (Xa (Xb (v := vi (callDo (tabT G) E).2) Z Z (Xb (v := vi (callDo (tabT G) E).2) Z Z (Qj (q := false) Z Z (by simp) Z (Xb (v := vb false) Z Z (Xe Z Z Z Z ?_))))))))))))
 refine Xb (v := .slice bb J.length ai) Z Z (Xe Z Z Z Z (Xb (v := .slice (pa bi) al.length am) Z Z (Xe Z Z Z Z ?_)))
 have bd := (TabG.low co az)
 refine Xm K6 (Xg Z (Xg Z Xl)) Z (Js _ J al _ _ _ _ (TabG.at bc) (TabG.at bd) be bn (by omega) (by omega)) ?_
 rintro _ fv ⟨rfl, ag⟩
 refine Xe Z Z Z Z (Yj (b' := false) (congrArg Value.bool (decide_eq_true (ah.trans a8.symm))) Z Z (Xn (v := vb false) Z Z Z Z (Xb (v := vb false) Z Z (Xe Z Z Z Z (Xb (v := .slice (pa au) G.length ad) Z Z (Xe Z Z Z Z ?_))))))
 have cz := ((cm.grown0 az).grown0 ag)
 refine Xq (vs := [vi E.kind, vi E.run, vi E.a, vi E.b, vi E.n]) Y1 Z Z (cz.rangeL 0 5 Z) Z (Xe Z Z Z Z (Xm Ui (Xg Z (Xg Z Xl)) Z (Ut E _ G _ _ (TabG.at (TabG.low aq (low0 (low0 (low0 (low1 O.grw af.grw (nt ((World.grownBy.refl _ none)).size (Nat.le_of_eq O.eq.symm))) aw) az) ag))) ar (by omega)) ?_))
 rintro _ d1 ⟨rfl, ak⟩
 have bf := low0 (low0 (low0 cd az) ag) ak
 refine Xe Z Z Z Z (Yj (b' := !callPoss (tabT G) E) Z Z Z (Xn (v := vb (!callPoss (tabT G) E)) Z Z Z Z (Xc (X2 Z (fun bv => ?_) (fun bv => ?_)))))
 have fj := Jm bv
 refine Xa (Xb (v := vi (callDo (tabT G) E).2) Z Z (Xb (v := vi (callDo (tabT G) E).2) Z Z (X3 (q := true) Z Z (by simp) Z (Xb (v := vb true) Z Z (Xe Z Z Z Z (Xb (v := .slice bb J.length ai) Z Z (Xe Z Z Z Z (Xb (v := .slice (pa bi) al.length am) Z Z (Xe Z Z Z Z (Xm K6 (Xg Z (Xg Z Xl)) Z (Js _ J al _ _ _ _ (TabG.at (TabG.low (TabG.low bc ag) ak)) (TabG.at (TabG.low (TabG.low bd ag) ak)) be bn (by omega) (by omega)) ?_))))))))))
 rintro _ fw ⟨rfl, dh⟩
 refine Xo (v := vb true) Z Z (congrArg Value.bool (decide_eq_true (ah.trans a8.symm))) Z (Xf (v := vb true) Z Z (Xc (Xt (Yo (⟨vb true, Yx Z Z, ?_, (low0 bf dh)⟩)))))
 rfl
 have an := Qu bv
 obtain ⟨bx, db, bp⟩ := Yd an
 have d8 := Yw db
 have d9 := (Y5 bp).1
 have fa := Qt bx bp
 have ej := Jk bx
 have hde := Jb an
 have hrk := Qq (Yd an).2.2
 have eo := Qm a8 an
 have ep := Qm ah an
 obtain ⟨hi, hhi⟩ : ∃ n, n = d1.heap.size := ⟨_, rfl⟩
 have bj := (TabG.low aq (low0 (low0 (low0 (low0 (low1 O.grw af.grw (nt ((World.grownBy.refl _ none)).size (Nat.le_of_eq O.eq.symm))) aw) az) ag) ak))
 have bz := TabG.hi bj
 rw [← hhi] at bz
 have du := TabG.hi (TabG.low (TabG.low bd ag) ak)
 rw [← hhi] at du
 have bk := (TabG.low (TabG.low bc ag) ak)
 have ca := TabG.hi bk
 rw [← hhi] at ca
 have d4 := Kr ah an
 refine Xy (Xv (Xs (Xa (Xd (o' := 0) Ji Z Z Z ?_))))
 have bq := (cz.grown0 ak)
 refine Xh (v := vi E.kind) Xz Z (bq.cell Z) Z (Qj (q := !(decide (E.kind = 2))) Z Z Z Z (Xc (X2 Z (fun bw => ?_) (fun bw => ?_))))
 have dt := Jm bw
 have fk := of_decide_eq_false dt
 refine Xa (Xf (v := vb true) Z Z (Xc (Xt (Yo (⟨vb true, Yx Z Z, ?_, bf⟩)))))
 rfl
 have cy := Qu bw
 have fm := of_decide_eq_true cy
 refine Xy (Xv (Xa (Xq (vs := [vi E.kind, vi E.run, vi E.a, vi E.b, vi E.n]) Y1 Z Z (bq.rangeL 0 5 Z) Z (Yf (cs := #[vi 0, vi 0, vi 0, vi 0, vi 0]) Wa Z Z ?_))))
 intro dl fx ae
 have eb := Yi ae bf
 have dz : hi ≤ dl := nt (Nat.le_of_eq hhi) (Nat.le_of_eq ae.eq.symm)
 have cn := Xr ae (bq).lt
 refine Xx (vs := [vi E.kind, vi E.run, vi E.a, vi E.b, vi E.n]) (cs' := #[vi E.kind, vi E.run, vi E.a, vi E.b, vi E.n]) Y1 Z Z Z (by simp [Value.oneCell']) ae.blk (Nat.le_of_ble_eq_true Z) Z ?_
 intro fy av
 refine Xc (Xa (Xb (v := .slice a2 m c2) dn Z (Yr (by kernel_rfl) Z Z (Q4 (c := (m : Int) % 100) Z Z (by omega) (by omega) (by omega) Z Z (Xd (o' := 4) J1 Z Z Z (Yg (v := vi ((m : Int) % 100)) (cs' := #[vi E.kind, vi E.run, vi E.a, vi E.b, vi ((m : Int) % 100)]) Xz Z Z Z av.blk (Nat.le_of_ble_eq_true Z) Z ?_))))))
 intro fz aj
 have ce := low1 (low1 (low0 bf ae.grw) av.grw (by omega)) aj.grw (by omega)
 refine Xc (Xa (Xb (v := .slice bb J.length ai) Z Z (Xq (vs := [vi E.kind, vi E.run, vi E.a, vi E.b, vi ((m : Int) % 100)]) Y1 Z Z (aj.blk.rangeL 0 5 Z) Z ?_)))
 have c8 := (((bq.grown0 ae.grw).gn av.grw).gn aj.grw)
 have ef := (c8).lt
 have eg := (aj.blk).lt
 refine Xm Ks (Xg Z (Xg Z Xl)) Z (Jq ⟨E.kind, E.run, E.a, E.b, (m : Int) % 100⟩ _ J _ _ (TabG.at (TabG.ge (TabG.ge (TabG.low bk ae.grw) av.grw ca (by omega)) aj.grw ca (by omega))) be (by omega) (ErrT.grown0 hE ce)) ?_
 rintro _ d2 ⟨br, ao, V, rfl, bl, a9, bg⟩
 have cf := low0 ce bg
 obtain ⟨f9, dx⟩ : ∃ n, n = d2.heap.size := ⟨_, rfl⟩
 have dv := TabG.hi bl
 rw [← dx] at dv
 have ct := Qn a9
 have eu := Y8 a9
 have cg : callOk ⟨E.kind, E.run, E.a, E.b, (m : Int) % 100⟩ = true := Kk (by omega)
 have ck : callPoss (tabT J) ⟨E.kind, E.run, E.a, E.b, (m : Int) % 100⟩ = true := Vp ah an cg rfl
 have ew : V.length = J.length := Qm a9 ck
 have d5 : (mAt V (E.run - 1).toNat).t.slots.length = 4 := Kr (q := ⟨E.kind, E.run, E.a, E.b, (m : Int) % 100⟩) a9 ck
 refine Xb (v := .tuple #[.slice br V.length ao, vi (callDo (tabT J) ⟨E.kind, E.run, E.a, E.b, (m : Int) % 100⟩).2]) Z Z (X1 (v := .slice br V.length ao) Z Z Z (X1 (v := vi (callDo (tabT J) ⟨E.kind, E.run, E.a, E.b, (m : Int) % 100⟩).2) Z Z Z (Xf (v := .slice br V.length ao) Z Z (Xf (v := vi (callDo (tabT J) ⟨E.kind, E.run, E.a, E.b, (m : Int) % 100⟩).2) Z Z (Xc (Xa (Xb (v := .slice (pa au) G.length ad) Z Z ?_)))))))
 have c9 := (aj.blk.grown0 bg)
 refine Xq (vs := [vi E.kind, vi E.run, vi E.a, vi E.b, vi ((m : Int) % 100)]) Y1 Z Z (c9.rangeL 0 5 Z) Z ?_
 have eh := ((c8.grown0 bg)).lt
 have ei := (c9).lt
 refine Xm Ks (Xg Z (Xg Z Xl)) Z (Jq ⟨E.kind, E.run, E.a, E.b, (m : Int) % 100⟩ _ G _ _ (TabG.at (TabG.low (TabG.ge (TabG.ge (TabG.low bj ae.grw) av.grw bz (by omega)) aj.grw bz (by omega)) bg)) ar (by omega) (ErrT.grown0 hE cf)) ?_
 rintro _ d3 ⟨bt, ap, ab, rfl, bm, ba, cj⟩
 obtain ⟨ga, dy⟩ : ∃ n, n = d3.heap.size := ⟨_, rfl⟩
 have dw := TabG.hi bm
 rw [← dy] at dw
 have cv := Qn ba
 have ez := Y8 ba
 have dc : callOk ⟨E.kind, E.run, E.a, E.b, (m : Int) % 100⟩ = true := Kk (by omega)
 have cl : callPoss (tabT G) ⟨E.kind, E.run, E.a, E.b, (m : Int) % 100⟩ = true := Vo an dc rfl
 have e0 : ab.length = G.length := Qm ba cl
 have d6 : (mAt ab (E.run - 1).toNat).t.slots.length = 4 := Kr (q := ⟨E.kind, E.run, E.a, E.b, (m : Int) % 100⟩) ba cl
 obtain ⟨de, df⟩ := Tx ah an (of_decide_eq_true cy) cg rfl rfl rfl a9 ba
 have bh : (decide ((callDo (tabT J) ⟨E.kind, E.run, E.a, E.b, (m : Int) % 100⟩).2 = (callDo (tabT G) ⟨E.kind, E.run, E.a, E.b, (m : Int) % 100⟩).2)) = true := decide_eq_true de
 have dk : (decide (tabT V = tabT ab)) = true := decide_eq_true df
 refine Xb (v := .tuple #[.slice bt ab.length ap, vi (callDo (tabT G) ⟨E.kind, E.run, E.a, E.b, (m : Int) % 100⟩).2]) Z Z (X1 (v := .slice bt ab.length ap) Z Z Z (X1 (v := vi (callDo (tabT G) ⟨E.kind, E.run, E.a, E.b, (m : Int) % 100⟩).2) Z Z Z (Xf (v := .slice bt ab.length ap) Z Z (Xf (v := vi (callDo (tabT G) ⟨E.kind, E.run, E.a, E.b, (m : Int) % 100⟩).2) Z Z (Xc (Xa (Xb (v := vi (callDo (tabT J) ⟨E.kind, E.run, E.a, E.b, (m : Int) % 100⟩).2) Z Z (Xb (v := vi (callDo (tabT G) ⟨E.kind, E.run, E.a, E.b, (m : Int) % 100⟩).2) Z Z (X3 (q := decide ((callDo (tabT J) ⟨E.kind, E.run, E.a, E.b, (m : Int) % 100⟩).2 = (callDo (tabT G) ⟨E.kind, E.run, E.a, E.b, (m : Int) % 100⟩).2)) Z Z Z Z (Xb (v := vb (decide ((callDo (tabT J) ⟨E.kind, E.run, E.a, E.b, (m : Int) % 100⟩).2 = (callDo (tabT G) ⟨E.kind, E.run, E.a, E.b, (m : Int) % 100⟩).2))) Z Z (Xe Z Z Z bh (Xb (v := .slice br V.length ao) Z Z ?_))))))))))))
 refine Xe Z Z Z bh (Xb (v := .slice bt ab.length ap) Z Z (Xe Z Z Z bh (Xm K6 (Xg Z (Xg Z Xl)) Z (Js _ V ab _ _ _ _ (TabG.at (TabG.low bl cj)) (TabG.at bm) ct cv (by omega) (by omega)) ?_)))
 rintro _ f8 ⟨rfl, di⟩
 refine Xo (v := vb (decide (tabT V = tabT ab))) Z bh Z Z (Xf (v := vb (decide (tabT V = tabT ab))) Z Z (Xc (Xt (⟨vb (decide (tabT V = tabT ab)), Yx Z Z, ?_, (low0 (low0 cf cj) di)⟩))))
 exact congrArg Value.bool dk
end Go.Proofs.YtlhhijnmacogcaaGreatDoor
end
