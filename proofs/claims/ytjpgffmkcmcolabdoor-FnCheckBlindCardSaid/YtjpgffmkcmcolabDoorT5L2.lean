/- Laws and walks: my templates, and what a program of mine (gen.py) printed out of the functions; only what the row reaches. -/
import Derived.Test.YtjpgffmkcmcolabDoorT53
section
namespace Go.Dw
set_option linter.unusedVariables false
set_option linter.unusedSimpArgs false
section
variable {ts : List Th} {q : Cl}
def Kept (n : Int) (a b : Th) : Prop := (a.kind = 1 → b.num = a.num ∨ b.num = 0 ∨ b.num = n ∨ b.num = n % 2) ∧ ∀ v ∈ b.queue, v = n ∨ v ∈ a.queue
theorem Kept.refl (n : Int) (a : Th) : Kept n a a := ⟨fun _ => Or.inl rfl, fun _ h => Or.inr h⟩
section
variable {ms xs : List MTh}
end
end
end Go.Dw
end
section
namespace Go.Dw
set_option linter.unusedVariables false
set_option linter.unusedSimpArgs false
def RowsA (w : World) (l : List MTh) : Prop := ∀ m ∈ l, ThAt w m
theorem RowsA.of {w : World} {a : Option Addr} {l : List MTh} (h : TabAt w a l) : RowsA w l := h.2
theorem RowsA.set {w : World} {l : List MTh} {i : Nat} {m : MTh} (h : RowsA w l) (hi : i < l.length) (e : m.sa = (mAt l i).sa ∧ m.sc = (mAt l i).sc ∧ m.qa = (mAt l i).qa ∧ m.qc = (mAt l i).qc ∧ m.t.slots = (mAt l i).t.slots ∧ m.t.queue = (mAt l i).t.queue) : RowsA w (l.set i m) := fun x hx => by
  rcases List.mem_or_eq_of_mem_set hx with h1 | rfl
  · exact h x h1
  · have := h _ (List.mem_of_getElem? (Qw hi))
    unfold ThAt at this ⊢
    rw [e.1, e.2.1, e.2.2.1, e.2.2.2.1, e.2.2.2.2.1, e.2.2.2.2.2]
    exact this
theorem RowsA.setn {w : World} {l : List MTh} {i : Nat} {m : MTh} (h : RowsA w l) (hm : ThAt w m) : RowsA w (l.set i m) := fun x hx => by
  rcases List.mem_or_eq_of_mem_set hx with h1 | rfl
  · exact h x h1
  · exact hm
theorem Vz {w : World} {Y T cap : Nat} {l : List MTh} (ho : Own w Y T 8 cap l.length (l.flatMap MTh.cells)) (h : RowsA w l) : TabAt w (some ⟨Y, 0, none⟩) l := ⟨Own.sl Qf ho, h⟩
theorem Li {w : World} {a : Option Addr} {l : List MTh} (h : TabAt w a l) (hn : 0 < l.length) : ¬ a = none := fun e => by
  obtain ⟨x, hx⟩ := Qa hn
  obtain ⟨b, q, o, ha, _, _⟩ := SlAt.at h.1 (Yi hx)
  rw [e] at ha
  cases ha
theorem TabLen.setn {l : List MTh} {i : Nat} {m : MTh} (h : TabLen l) (hi : i < l.length) (e1 : m.t.slots = (mAt l i).t.slots) (e2 : m.t.queue = (mAt l i).t.queue) : TabLen (l.set i m) := fun x hx => by
  rcases List.mem_or_eq_of_mem_set hx with h1 | rfl
  · exact h x h1
  · rw [e1, e2]
    exact h _ (List.mem_of_getElem? (Qw hi))
theorem TabLen.put {l : List MTh} {i : Nat} {m : MTh} (h : TabLen l) (hm : m.t.slots.length ≤ 1048576 ∧ m.t.queue.length ≤ 1048576) : TabLen (l.set i m) := fun x hx => by
  rcases List.mem_or_eq_of_mem_set hx with h1 | rfl
  · exact h x h1
  · exact hm
theorem Vu {P : Program} {k : FuncId} {a : Option Addr} {c n m : Nat} {u : Value} {w : World} {R : Value → World → Prop} (h : m = n) (hc : CallsR P k #[.slice a m c, u] w R) : CallsR P k #[.slice a n c, u] w R := h ▸ hc
theorem Ha {Y b n : Nat} (h : (some ⟨Y, 0, none⟩ : Option Addr).map (·.block) = (some ⟨b, 0, none⟩ : Option Addr).map (·.block) ∨ (some ⟨Y, 0, none⟩ : Option Addr).map (·.block) = some n) : Y = b ∨ Y = n := by simpa using h
section
variable {ms xs : List MTh} {q : Cl}
end
end Go.Dw
end
section
namespace Go.Dw
set_option linter.unusedVariables false
set_option linter.unusedSimpArgs false
section
variable {ts us : List Th} {q : Cl}
theorem Uk (hp : callPoss ts q = true) {k : Int} {t : Th} (hk : 1 ≤ k ∧ k ≤ (ts.length : Int)) (hs : chkSees ts q.run k = false) (h1 : t.kind = (thAt ts k).kind) (h2 : t.lab = (thAt ts k).lab) (h3 : t.slots = (thAt ts k).slots) (hT' : tableOk (setTh ts k t) = true) : chkAll (setTh ts k t) q = chkAll ts q := by
  obtain ⟨hT, hc, hka⟩ := Qq hp
  have hrun := Ug hka
  rw [L3 hT hka hk] at hs
  have hne : ¬ k = q.run := fun e => by
    have hok := (Qg (Vb hT hrun.1).1).2.1
    unfold sees at hs
    rw [e] at hs
    unfold flow l1In at hs
    simp at hs
  have hrow : thAt (setTh ts k t) q.run = thAt ts q.run := by rw [Kq hk _ hrun.1.1, if_neg (Ne.symm hne)]
  have hp' : callPoss (setTh ts k t) q = true := by
    unfold callPoss
    rw [hT', hc, Wk hk h1, hka]
    rfl
  rw [Q5 hp, Q5 hp']
  have hsl : slotAt (setTh ts k t) q.run q.a = slotAt ts q.run q.a := by unfold slotAt; rw [hrow]
  have like : ∀ j : Int, 1 ≤ j → (thAt (setTh ts k t) j).kind = (thAt ts j).kind ∧ (thAt (setTh ts k t) j).lab = (thAt ts j).lab := fun j hj => by
    rw [Kq hk j hj]
    split
    · rename_i e; rw [e]; exact ⟨h1, h2⟩
    · exact ⟨rfl, rfl⟩
  unfold check1
  rw [hsl]
  by_cases hth : 1 ≤ (slotAt ts q.run q.a).th
  · have e1 : chk1 (setTh ts k t) q (slotAt ts q.run q.a) = chk1 ts q (slotAt ts q.run q.a) := by unfold chk1; rw [(like _ hth).1]
    have e2 : chk2 (setTh ts k t) q (slotAt ts q.run q.a) = chk2 ts q (slotAt ts q.run q.a) := by unfold chk2 sees touches; rw [(like _ hth).2, hrow]
    have e3 : chk3 (setTh ts k t) q (slotAt ts q.run q.a) = chk3 ts q (slotAt ts q.run q.a) := by
      unfold chk3 sees live
      rw [(like _ hth).2, hrow, K0]
      by_cases e : (slotAt ts q.run q.a).th = k
      · unfold sees at hs
        rw [e, hs]
        rfl
      · rw [Kq hk _ hth, if_neg e]
    rw [e1, e2, e3]
  · have hz : (slotAt ts q.run q.a).th = 0 := by
      have hok := (Hh hT hrun.1 q.a).1
      unfold rightOk at hok
      simp only [Bool.or_eq_true, Bool.and_eq_true, decide_eq_true_eq] at hok
      rcases hok with h | h
      · rw [h]; rfl
      · have := (Yu.1 h.1.1).1
        omega
    have e1 : ∀ vs : List Th, chk1 vs q (slotAt ts q.run q.a) = true := fun vs => by unfold chk1; rw [decide_eq_true hz]; rfl
    rw [e1, e1]
    rfl
theorem Lz (hT : tableOk ts = true) {k n v : Int} (hk : 1 ≤ k ∧ k ≤ (ts.length : Int)) (hkd : (thAt ts k).kind = 1) (hn : 0 ≤ n ∧ n ≤ 99) (hv : (thAt ts k).ve ≤ v ∧ v ≤ 5) : tableOk (setTh ts k { thAt ts k with num := n, ve := v }) = true := by
  have h1 := Vb hT hk
  refine Gn hT hk ?_ rfl hv.1 rfl h1.2.2
  obtain ⟨p1, p2, p3, p4, p5, p6, p7⟩ := Qg h1.1
  unfold thingOk
  simp only [Bool.and_eq_true]
  refine ⟨⟨⟨⟨⟨⟨p1, p2⟩, ?_⟩, ?_⟩, p5⟩, p6⟩, p7⟩
  · unfold versOk at p3 ⊢
    rw [if_pos (Or.inl hkd)] at p3
    have := Yu.1 p3
    dsimp only
    rw [if_pos (Or.inl hkd)]
    exact Yu.2 (by omega)
  · unfold numOk
    dsimp only
    rw [if_pos (Or.inl hkd)]
    exact Yu.2 (by omega)
theorem L0 (hT : tableOk ts = true) {k v : Int} (hk : 1 ≤ k ∧ k ≤ (ts.length : Int)) (hkd : (thAt ts k).kind = 4) (hv : (thAt ts k).ve ≤ v ∧ v ≤ 5) : tableOk (setTh ts k { thAt ts k with queue := [3], ve := v }) = true := by
  have h1 := Vb hT hk
  refine Gn hT hk ?_ rfl hv.1 rfl h1.2.2
  obtain ⟨p1, p2, p3, p4, p5, p6, p7⟩ := Qg h1.1
  unfold thingOk
  simp only [Bool.and_eq_true]
  refine ⟨⟨⟨⟨⟨⟨p1, p2⟩, ?_⟩, p4⟩, p5⟩, ?_⟩, p7⟩
  · unfold versOk at p3 ⊢
    rw [if_pos (Or.inr (Or.inr hkd))] at p3
    have := Yu.1 p3
    dsimp only
    rw [if_pos (Or.inr (Or.inr hkd))]
    exact Yu.2 (by omega)
  · unfold queueOk
    dsimp only
    rw [if_pos hkd]
    rfl
end
section
variable {ms : List MTh} {q : Cl}
theorem Wa {M : MTh} {k : Int} (hk : 0 ≤ k ∧ k < (ms.length : Int)) : tabT (ms.set k.toNat M) = setTh (tabT ms) (k + 1) M.t ∧ (mAt ms k.toNat).t = thAt (tabT ms) (k + 1) ∧ (1 ≤ k + 1 ∧ k + 1 ≤ ((tabT ms).length : Int)) := by
  have e : (k + 1 - 1).toNat = k.toNat := by omega
  refine ⟨?_, ?_, ?_⟩
  · rw [Lf]; unfold setTh; rw [e]
  · rw [← J9, e]
  · rw [Q9]; omega
theorem Gw {M : MTh} {k : Int} (hp : callPoss (tabT ms) q = true) (hk : 0 ≤ k ∧ k < (ms.length : Int)) (hs : chkSees (tabT ms) q.run (k + 1) = false) (hkd : (mAt ms k.toNat).t.kind = 1) (h : M.t = { (mAt ms k.toNat).t with num := ((mAt ms k.toNat).t.num + 7) % 90, ve := min ((mAt ms k.toNat).t.ve + 1) 5 }) : chkAll (tabT (ms.set k.toNat M)) q = chkAll (tabT ms) q := by
  obtain ⟨hT, _, _⟩ := Qq hp
  obtain ⟨e1, e2, e3⟩ := Wa (M := M) hk
  rw [e2] at hkd h
  have hr := Vb hT e3
  have hv := (Qg hr.1).2.2.1
  unfold versOk at hv
  rw [if_pos (Or.inl hkd)] at hv
  have hv := Yu.1 hv
  have hn := (Qg hr.1).2.2.2.1
  unfold numOk at hn
  rw [if_pos (Or.inl hkd)] at hn
  have hn := Yu.1 hn
  rw [e1, h]
  exact Uk hp e3 hs rfl rfl rfl (Lz hT e3 hkd (by omega) (by omega))
theorem Gx {M : MTh} {k : Int} (hp : callPoss (tabT ms) q = true) (hk : 0 ≤ k ∧ k < (ms.length : Int)) (hs : chkSees (tabT ms) q.run (k + 1) = false) (hkd : (mAt ms k.toNat).t.kind = 4) (h : M.t = { (mAt ms k.toNat).t with queue := [3], ve := min ((mAt ms k.toNat).t.ve + 1) 5 }) : chkAll (tabT (ms.set k.toNat M)) q = chkAll (tabT ms) q := by
  obtain ⟨hT, _, _⟩ := Qq hp
  obtain ⟨e1, e2, e3⟩ := Wa (M := M) hk
  rw [e2] at hkd h
  have hr := Vb hT e3
  have hv := (Qg hr.1).2.2.1
  unfold versOk at hv
  rw [if_pos (Or.inr (Or.inr hkd))] at hv
  have hv := Yu.1 hv
  rw [e1, h]
  exact Uk hp e3 hs rfl rfl rfl (L0 hT e3 hkd (by omega))
theorem T3 (hp : callPoss (tabT ms) q = true) {k : Int} (hk : 0 ≤ k ∧ k < (ms.length : Int)) : (0 ≤ (mAt ms k.toNat).t.ve ∧ (mAt ms k.toNat).t.ve ≤ 5) ∧ (-4 ≤ (mAt ms k.toNat).t.num ∧ (mAt ms k.toNat).t.num ≤ 99) := by
  obtain ⟨hT, _, _⟩ := Qq hp
  obtain ⟨_, e2, e3⟩ := Wa (M := MTh.zero) hk
  have hr := Vb hT e3
  rw [e2]
  have hv := (Qg hr.1).2.2.1
  have hn := (Qg hr.1).2.2.2.1
  unfold versOk at hv
  unfold numOk at hn
  refine ⟨?_, ?_⟩
  · split at hv
    · exact Yu.1 hv
    · have := of_decide_eq_true hv
      omega
  · split at hn
    · have := Yu.1 hn; omega
    · split at hn
      · exact Yu.1 hn
      · have := of_decide_eq_true hn
        omega
end
end Go.Dw
end
section
namespace Go.Proofs.YtjpgffmkcmcolabDoor
open Go.RowKit Go.Dw
set_option maxRecDepth 100000
set_option maxHeartbeats 4000000
set_option linter.unusedSimpArgs false
set_option linter.unusedVariables false
theorem Ma : goFn Tryd.prog 11 = true := by kernel_rfl
theorem Tu : goFn Tryd.prog 5 = true := by kernel_rfl
theorem L6 : goFn Tryd.prog 6 = true := by kernel_rfl
theorem Rh : goFn Tryd.prog 7 = true := by kernel_rfl
theorem law_FnCheckBlind (bs : List Int) (a : Option Addr) (c : Nat) (w : World) (fd : SlAt w a 1 (bs.map bcell)) (hb : ∀ b ∈ bs, 0 ≤ b ∧ b ≤ 255) (hn : bs.length ≤ 9223372036854775807) (hc : bs.length ≤ c) (m : Nat) (a2 : Option Addr) (c2 : Nat) (hm : m ≤ 9223372036854775807) (hE : ErrT w) : CallsR Tryd.prog 4 #[.slice a bs.length c, .slice a2 m c2] w (fun v w' => v = .bool true ∧ w.grownBy w' none) := by
 refine X0 (n := 129) Tryd.func4 Z Tryd.ntmps4 Z ?_
 have d6 := World.grownBy.refl w none
 have hs := SlAt.lt V7 (by omega) fd
 refine Xa (Xg (v := vb false) Z Z (Xb (Xs (X2 (fun f' w' => (f' 0 = .slice a bs.length c ∧ f' 1 = .slice a2 m c2 ∧ f' 4 = vb false ∧ f' 17 = vb ((decide (1048576 < (bs.length : Int))) || (decide (1048576 < (m : Int))))) ∧ w = w') ?_ ?_))))
 refine Xc (v := .slice a bs.length c) Z Z (Yj (by kernel_rfl) Z Z (Qe (q := decide (1048576 < (bs.length : Int))) Z Z Z Z (Xc (v := vb (decide (1048576 < (bs.length : Int)))) Z Z ?_)))
 rcases X6 (decide (1048576 < (bs.length : Int))) with ak | ak
 have g5 := of_decide_eq_true ak
 iterate 3 refine Xi rfl rfl rfl ak rfl ?_
 exact Xo (v := vb true) Z ak Z Z (Xb ⟨⟨Z, Z, Z, (congrArg Value.bool (by first | (simp only [ak, b0, b1, b2, b3, b4, b5, b6, b7, b8, b9]; done) | simp [ak]))⟩, Z⟩)
 have g6 := of_decide_eq_false ak
 exact Xe Z Z Z ak (Xc (v := .slice a2 m c2) Z Z (Xe Z Z Z ak (Yj (by kernel_rfl) Z Z (Xe Z Z Z ak (Qe (q := decide (1048576 < (m : Int))) Z Z Z Z (Xj (v := vb (decide (1048576 < (m : Int)))) Z ak Z Z (Xb ⟨⟨Z, Z, Z, (congrArg Value.bool (by first | (simp only [ak, b0, b1, b2, b3, b4, b5, b6, b7, b8, b9]; done) | simp [ak]))⟩, Z⟩)))))))
 rintro gz iq ⟨⟨em, br, bt, eo⟩, rfl⟩
 refine Xu eo (fun ao => ?_) (fun ao => ?_)
 refine Xa (Xg (v := vb true) Z Z (Xb (Xq (Ye (⟨vb true, Yy Z Z, ?_, d6⟩)))))
 rfl
 have aq := Jm ao
 have g7 := of_decide_eq_false aq
 have ar := Jn ao
 have g8 := of_decide_eq_false ar
 refine Xv (Xr (Xa (Xc (v := .slice a bs.length c) em Z (Xm Tu (Xf Z Xl) Z (Vg bs a c _ (SlAt.low fd d6) hb (by omega) (by omega)) ?_))))
 rintro _ ir ⟨ad, J, E, G, rfl, an, dc, fm, gm, d8⟩
 have cl := low0 d6 d8
 have O := dc.len
 refine Xc (v := .tuple #[.slice (pa ad) E.length J, .agg #[vi G.kind, vi G.run, vi G.a, vi G.b, vi G.n]]) Z Z (Yx (v := .slice (pa ad) E.length J) Z Z Z (Yx (v := .agg #[vi G.kind, vi G.run, vi G.a, vi G.b, vi G.n]) Z Z Z (Yd (cs := #[vi 0, vi 0, vi 0, vi 0, vi 0]) Lr Z Z ?_)))
 intro df it V
 have fz := X9 V cl
 refine Xg (v := .slice (pa ad) E.length J) Z Z (Xt (vs := [vi G.kind, vi G.run, vi G.a, vi G.b, vi G.n]) (cs' := #[vi G.kind, vi G.run, vi G.a, vi G.b, vi G.n]) Yp Z Z Z (by simp [Value.oneCell']) V.blk (Nat.le_of_ble_eq_true Z) Z ?_)
 intro iu ag
 have cm := low1 (low0 cl V.grw) ag.grw (by omega)
 refine Xb (Xa (Xc (v := .slice (pa ad) E.length J) Z Z (Xp (vs := [vi G.kind, vi G.run, vi G.a, vi G.b, vi G.n]) Yp Z Z (ag.blk.rangeL 0 5 Z) Z (Xm L6 (Xf Z (Xf Z Xl)) Z (J2 G _ E _ _ (TabG.at (TabG.low an (low1 V.grw ag.grw (nt ((World.grownBy.refl _ none)).size (Nat.le_of_eq V.eq.symm))))) O (by omega) (ErrT.grown0 hE cm)) ?_))))
 rintro _ fi ⟨rfl, ai⟩
 have fo := Ja (ts := tabT E) (q := G)
 refine Xg (v := vi (chkAll (tabT E) G)) Z Z (Xb (Xs (X2 (fun f' w' => (f' 1 = .slice a2 m c2 ∧ f' 4 = vb false ∧ f' 5 = .slice (pa ad) E.length J ∧ f' 6 = pt df 0 ∧ f' 7 = vi (chkAll (tabT E) G) ∧ f' 57 = vb ((((false || (!tableOk (tabT E))) || (!callOk G)) || (decide ((E.length : Int) < G.run))) || (!(decide ((mAt E (G.run - 1).toNat).t.kind = 3))))) ∧ fi.grownBy w' none) ?_ ?_)))
 refine Xc (v := vi (chkAll (tabT E) G)) Z Z (Xc (v := .slice (pa ad) E.length J) Z Z ?_)
 have dq := (ag.blk.grown0 ai)
 refine Xp (vs := [vi G.kind, vi G.run, vi G.a, vi G.b, vi G.n]) Yp Z Z (dq.rangeL 0 5 Z) Z (Xm Rh (Xf Z (Xf Z Xl)) Z (Kk G _ E _ _ (TabG.at (TabG.low an (low0 (low1 V.grw ag.grw (nt ((World.grownBy.refl _ none)).size (Nat.le_of_eq V.eq.symm))) ai))) O (by omega)) ?_)
 rintro _ iv ⟨rfl, ap⟩
 have fp := Ja (ts := tabT E) (q := G)
 refine Q4 (q := false) Z Z (by simp) Z (Xc (v := vb false) Z Z (Xe Z Z Z Z (Xc (v := .slice (pa ad) E.length J) Z Z (Xe Z Z Z Z (Xm Sg (Xf Z Xl) Z (Vc  _ E _ _ (TabG.at (TabG.low an (low0 (low0 (low1 V.grw ag.grw (nt ((World.grownBy.refl _ none)).size (Nat.le_of_eq V.eq.symm))) ai) ap))) O (by omega)) ?_)))))
 rintro _ iw ⟨rfl, au⟩
 refine Xe Z Z Z Z (Yg (b' := !tableOk (tabT E)) Z Z Z (Xj (v := vb (!tableOk (tabT E))) Z Z Z Z (Xc (v := vb (!tableOk (tabT E))) Z Z ?_)))
 rcases X6 (!tableOk (tabT E)) with ae | ae
 have dh := Q8 ae
 iterate 3 refine Xi rfl rfl rfl ae rfl ?_
 refine Xo (v := vb true) Z ae Z Z (Xc (v := vb true) Z Z ?_)
 iterate 5 refine Xi rfl rfl rfl rfl rfl ?_
 refine Xo (v := vb true) Z Z Z Z (Xc (v := vb true) Z Z ?_)
 iterate 8 refine Xi rfl rfl rfl rfl rfl ?_
 exact Xo (v := vb true) Z Z Z Z (Xb ⟨⟨br, bt, Z, Z, Z, (congrArg Value.bool (by first | (simp only [ao, aq, ar, ae, dh, b0, b1, b2, b3, b4, b5, b6, b7, b8, b9]; done) | simp [ao, aq, ar, ae, dh]))⟩, (grown_trans ap au)⟩)
 have bc := Qp ae
 refine Xe Z Z Z ae ?_
 have dr := ((dq.grown0 ap).grown0 au)
 refine Xp (vs := [vi G.kind, vi G.run, vi G.a, vi G.b, vi G.n]) Yp Z Z (dr.rangeL 0 5 Z) Z (Xe Z Z Z ae (Xm Tv (Xf Z Xl) Z (Uh G _) ?_))
 rintro _ ix ⟨rfl, bb⟩
 refine Xe Z Z Z ae (Yg (b' := !callOk G) Z Z Z (Xj (v := vb (!callOk G)) Z ae Z Z (Xc (v := vb (!callOk G)) Z Z ?_)))
 rcases X6 (!callOk G) with af | af
 have di := Q8 af
 iterate 5 refine Xi rfl rfl rfl af rfl ?_
 refine Xo (v := vb true) Z af Z Z (Xc (v := vb true) Z Z ?_)
 iterate 8 refine Xi rfl rfl rfl rfl rfl ?_
 exact Xo (v := vb true) Z Z Z Z (Xb ⟨⟨br, bt, Z, Z, Z, (congrArg Value.bool (by first | (simp only [ao, aq, ar, ae, bc, af, di, b0, b1, b2, b3, b4, b5, b6, b7, b8, b9]; done) | simp [ao, aq, ar, ae, bc, af, di]))⟩, (grown_trans (grown_trans ap au) bb)⟩)
 have bk := Qp af
 have fv := Q2 bk
 refine Xe Z Z Z af (Xd (o' := 1) Qn Z Z Z (Xe Z Z Z af ?_))
 have dt := (dr.grown0 bb)
 refine Xh (v := vi G.run) X3 Z (dt.cell Z) Z (Xe Z Z Z af (Xc (v := .slice (pa ad) E.length J) Z Z (Xe Z Z Z af (Yj (by kernel_rfl) Z Z (Xe Z Z Z af (Qe (q := decide ((E.length : Int) < G.run)) Z Z Z Z (Xj (v := vb (decide ((E.length : Int) < G.run))) Z af Z Z (Xc (v := vb (decide ((E.length : Int) < G.run))) Z Z ?_))))))))
 rcases X6 (decide ((E.length : Int) < G.run)) with ac | ac
 have g9 := of_decide_eq_true ac
 iterate 8 refine Xi rfl rfl rfl ac rfl ?_
 exact Xo (v := vb true) Z ac Z Z (Xb ⟨⟨br, bt, Z, Z, Z, (congrArg Value.bool (by first | (simp only [ao, aq, ar, ae, bc, af, bk, ac, b0, b1, b2, b3, b4, b5, b6, b7, b8, b9]; done) | simp [ao, aq, ar, ae, bc, af, bk, ac]))⟩, (grown_trans (grown_trans ap au) bb)⟩)
 have ia := of_decide_eq_false ac
 refine Xe Z Z Z ac (Xc (v := .slice (pa ad) E.length J) Z Z (Xe Z Z Z ac (Xd (o' := 1) Qn Z Z Z (Xe Z Z Z ac (Xh (v := vi G.run) X3 Z (dt.cell Z) Z (Xe Z Z Z ac (Y0 (c := G.run - 1) Z Z (by omega) (by omega) (by omega) Z (Xe Z Z Z ac ?_))))))))
 obtain ⟨gu, il, ff, d3, ef, ei⟩ := SlAt.at (TabG.at (TabG.low an (low0 (low0 (low0 (low0 (low1 V.grw ag.grw (nt ((World.grownBy.refl _ none)).size (Nat.le_of_eq V.eq.symm))) ai) ap) au) bb))).1 (Yi (xg E (G.run - 1).toNat))
 have gb := TabLen.at O (xg E (G.run - 1).toNat)
 exact X8 Y7 Z Z d3 ef (by omega) (by omega) Z (Xe Z Z Z ac (Xd (o' := ff) Yl Z Z Z (Xe Z Z Z ac (Xh (v := vi (mAt E (G.run - 1).toNat).t.kind) X3 Z (ei 0 _ Z) Z (Xe Z Z Z ac (Q4 (q := !(decide ((mAt E (G.run - 1).toNat).t.kind = 3))) Z Z Z Z (Xj (v := vb (!(decide ((mAt E (G.run - 1).toNat).t.kind = 3)))) Z ac Z Z (Xb ⟨⟨br, bt, Z, Z, Z, (congrArg Value.bool (by first | (simp only [ao, aq, ar, ae, bc, af, bk, ac, b0, b1, b2, b3, b4, b5, b6, b7, b8, b9]; done) | simp [ao, aq, ar, ae, bc, af, bk, ac]))⟩, (grown_trans (grown_trans ap au) bb)⟩))))))))
 rintro g0 fj ⟨⟨ep, gy, a8, bj, bu, eu⟩, av⟩
 have bm := low0 (low0 cm ai) av
 refine Xu eu (fun cf => ?_) (fun cf => ?_)
 refine Xa (Xc (v := vi (chkAll (tabT E) G)) bu Z (Xc (v := .slice (pa ad) E.length J) a8 Z (Xp (vs := [vi G.kind, vi G.run, vi G.a, vi G.b, vi G.n]) Yp bj Z (((ag.blk.grown0 ai).grown0 av).rangeL 0 5 Z) Z (Xm Rh (Xf Z (Xf Z Xl)) Z (Kk G _ E _ _ (TabG.at (TabG.low an (low0 (low0 (low1 V.grw ag.grw (nt ((World.grownBy.refl _ none)).size (Nat.le_of_eq V.eq.symm))) ai) av))) O (by omega)) ?_))))
 rintro _ iy ⟨rfl, d9⟩
 have fq := Ja (ts := tabT E) (q := G)
 refine Xw (q := true) Z Z (by simp) Z (Xg (v := vb true) Z Z (Xb (Xq (Ye (⟨vb true, Yy Z Z, ?_, (low0 bm d9)⟩)))))
 rfl
 have dk := Jm cf
 have dl := Jm dk
 have dm := Jm dl
 have ib := Jm dm
 have ew := Jn dm
 have ex := Qp ew
 have ez := Jn dl
 have dn := Qp ez
 have fw := Q2 dn
 have e0 := Jn dk
 have ic := of_decide_eq_false e0
 have fa := Jn cf
 have dp := Qp fa
 obtain ⟨hi, hhi⟩ : ∃ n, n = fj.heap.size := ⟨_, rfl⟩
 have bx := (TabG.low an (low0 (low0 (low1 V.grw ag.grw (nt ((World.grownBy.refl _ none)).size (Nat.le_of_eq V.eq.symm))) ai) av))
 have hTH := TabG.hi (TabG.low an (low0 (low0 (low1 V.grw ag.grw (nt ((World.grownBy.refl _ none)).size (Nat.le_of_eq V.eq.symm))) ai) av))
 rw [← hhi] at hTH
 have gr : w.heap.size ≤ hi := by rw [hhi]; exact (bm).size
 have de : kindAt (tabT E) G.run 3 = true := Gc (by omega) (of_decide_eq_true dp)
 have bi := Ul (q := G) ex dn de
 obtain ⟨cj, d7, cc⟩ := Qq bi
 have fx := Q2 d7
 have fy := (Js cc).1
 have gl := Vy cj cc
 have gj := Hi cj
 have ie := of_decide_eq_true dp
 refine Xv (Xr (Xa (Xc (v := .slice a2 m c2) ep Z (Yj (by kernel_rfl) Z Z (Xc (v := .slice (pa ad) E.length J) a8 Z (Yj (by kernel_rfl) Z Z ?_))))))
 have gp := Int.emod_nonneg (m : Int) (show (E.length : Int) ≠ 0 by omega)
 have gq := Int.emod_lt_of_pos (m : Int) (show 0 < (E.length : Int) by omega)
 refine J0 (c := (m : Int) % (E.length : Int)) Z Z (by omega) (by omega) (by omega) Z Z (Xg (v := vi ((m : Int) % (E.length : Int))) Z Z (Xb (Xs (Xa (Xc (v := .slice (pa ad) E.length J) a8 Z (Xd (o' := 1) Qn bj Z Z ?_))))))
 have du := ((ag.blk.grown0 ai).grown0 av)
 refine Xh (v := vi G.run) X3 Z (du.cell Z) Z (Xc (v := vi ((m : Int) % (E.length : Int))) Z Z (Yw (c := (m : Int) % (E.length : Int) + 1) Z Z (by omega) (by omega) (by omega) Z (Xm Ma (Xf Z (Xf Z (Xf Z Xl))) Z (Hs G.run ((m : Int) % (E.length : Int) + 1) (by omega) _ E _ _ (TabG.at bx) O (by omega)) ?_)))
 rintro _ iz ⟨rfl, aw⟩
 have bn := low0 bm aw
 refine Xb (Xu Z (fun cg => ?_) (fun cg => ?_))
 refine Xa (Xg (v := vb true) Z Z (Xb (Xq (Ye (⟨vb true, Yy Z Z, ?_, bn⟩)))))
 rfl
 have gk := T3 (k := (m : Int) % (E.length : Int)) bi ⟨by omega, by omega⟩
 refine Xv (Xr (Xa (Xy (ps := []) (e := 36) (cs := (([] : List MTh).flatMap MTh.cells).toArray) Xz (fun _ => by kernel_rfl) Z ?_)))
 intro dg fk al
 have f8 := X9 al bn
 have cv : hi ≤ dg := nt (nt (Nat.le_of_eq hhi) aw.size) (Nat.le_of_eq al.eq.symm)
 have dv := (du.grown0 aw)
 have cz := Xn al (dv).lt
 have cn := low0 bn al.grw
 refine Xc (v := .slice (pa ad) E.length J) a8 Z ?_
 have ce := (dv.grown0 al.grw)
 have bd := (TabG.low (TabG.low bx aw) al.grw)
 refine Vr (g := MTh.cells) (ys := []) (zs := E) (lo := hi) Rs Z Qf (by omega) Wq Z Z (OwnN.of (Own.rows Qf al.blk (by simp)) cv) (TabG.at bd).1 (fun h => absurd h (Li (TabG.at bd) (by omega))) (by simp only [List.length_nil]; omega) (by omega) (nt (nt (Nat.le_of_eq hhi) aw.size) al.grw.size) Z ?_
 intro gt ab bl dy ea cd
 have az : World.grownBy fk bl (some dg) := ea
 obtain ⟨ah, rfl, fc, bf⟩ := OwnN.some_ dy (lq 0 E.length)
 have ga : w.heap.size ≤ ah := by have h2 := Ha cd; have h3 := (cn).size; omega
 have da : df ≠ ah := by have h := (ce).lt; have h2 := Ha cd; omega
 have ba := low1 cn az (by omega)
 refine Xg (v := .slice (pa ah) E.length ab) Z Z (Xb (Xs (Xa (Xc (v := .slice (pa ad) E.length J) a8 Z (Xc (v := vi ((m : Int) % (E.length : Int))) Z Z ?_)))))
 have a9 := (TabG.ge bd az hTH (by omega))
 obtain ⟨gv, im, dx, ck, cw, cy⟩ := SlAt.at (TabG.at a9).1 (Yi (xg E ((m : Int) % (E.length : Int)).toNat))
 have gc := TabLen.at O (xg E ((m : Int) % (E.length : Int)).toNat)
 refine X8 Y7 Z Z ck cw (by omega) (by omega) Z (Xd (o' := dx) Yl Z Z Z (Xh (v := vi (mAt E ((m : Int) % (E.length : Int)).toNat).t.kind) X3 Z (cy 0 _ Z) Z (Xb (Ya (Xa (Xw (q := decide ((mAt E ((m : Int) % (E.length : Int)).toNat).t.kind = 1)) Z Z Z Z (Xg (v := vb (decide ((mAt E ((m : Int) % (E.length : Int)).toNat).t.kind = 1))) Z Z (Xb (Xu Z (fun bv => ?_) (fun bv => ?_))))))))))
 have ig := of_decide_eq_true bv
 refine Xa (Xc (v := .slice (pa ah) E.length ab) Z Z (Xc (v := vi ((m : Int) % (E.length : Int))) Z Z (Xc (v := .slice (pa ad) E.length J) a8 Z (Xc (v := vi ((m : Int) % (E.length : Int))) Z Z (X8 Y7 Z Z ck cw (by omega) (by omega) Z (Xd (o' := dx + 4) Jg Z Z Z (Xh (v := vi (mAt E ((m : Int) % (E.length : Int)).toNat).t.num) X3 Z (cy 4 _ Z) Z (Yw (c := (mAt E ((m : Int) % (E.length : Int)).toNat).t.num + 7) Z Z (by omega) (by omega) (by omega) Z (J0 (c := ((mAt E ((m : Int) % (E.length : Int)).toNat).t.num + 7) % 90) Z Z (by omega) (by omega) (by omega) Z Z (X1 (o' := ((m : Int) % (E.length : Int)).toNat * 8) Y7 Z Z (by omega) (by omega) (by omega) Z (Xd (o' := ((m : Int) % (E.length : Int)).toNat * 8 + 4) Jg Z Z Z ?_)))))))))))
 have gf := TabLen.at O (Qw (show ((m : Int) % (E.length : Int)).toNat < E.length by first | omega | (simp only [List.length_set]; omega)))
 refine J4 (g := MTh.cells) (j := 4) (z := (mAt E ((m : Int) % (E.length : Int)).toNat)) (z' := (⟨⟨(mAt E ((m : Int) % (E.length : Int)).toNat).t.kind, (mAt E ((m : Int) % (E.length : Int)).toNat).t.lab, (mAt E ((m : Int) % (E.length : Int)).toNat).t.ve, ((mAt E ((m : Int) % (E.length : Int)).toNat).t.num + 7) % 90, (mAt E ((m : Int) % (E.length : Int)).toNat).t.slots, (mAt E ((m : Int) % (E.length : Int)).toNat).t.queue, (mAt E ((m : Int) % (E.length : Int)).toNat).t.to⟩, (mAt E ((m : Int) % (E.length : Int)).toNat).sa, (mAt E ((m : Int) % (E.length : Int)).toNat).sc, (mAt E ((m : Int) % (E.length : Int)).toNat).qa, (mAt E ((m : Int) % (E.length : Int)).toNat).qc⟩ : MTh)) (v := vi (((mAt E ((m : Int) % (E.length : Int)).toNat).t.num + 7) % 90)) X3 Z Z Z Qf (show Dw.Own bl ah 36 8 ab E.length (E.flatMap MTh.cells) from bf) (xg E ((m : Int) % (E.length : Int)).toNat) (by omega) Z Z ?_
 intro i0 dz bp
 refine Xb (Xx (Xc (v := .slice (pa ah) E.length ab) Z Z (Xc (v := vi ((m : Int) % (E.length : Int))) Z Z (Xc (v := .slice (pa ad) E.length J) a8 Z (Xc (v := vi ((m : Int) % (E.length : Int))) Z Z ?_)))))
 have bz := (TabG.ge a9 bp hTH (by omega))
 obtain ⟨gw, io, fg, d4, eg, ej⟩ := SlAt.at (TabG.at bz).1 (Yi (xg E ((m : Int) % (E.length : Int)).toNat))
 have gg := TabLen.at O (xg E ((m : Int) % (E.length : Int)).toNat)
 refine X8 Y7 Z Z d4 eg (by omega) (by omega) Z (Xd (o' := fg + 3) Qv Z Z Z (Xh (v := vi (mAt E ((m : Int) % (E.length : Int)).toNat).t.ve) X3 Z (ej 3 _ Z) Z (Yw (c := (mAt E ((m : Int) % (E.length : Int)).toNat).t.ve + 1) Z Z (by omega) (by omega) (by omega) Z (N9 (c := min ((mAt E ((m : Int) % (E.length : Int)).toNat).t.ve + 1) 5) Z Z Z Z (X1 (o' := ((m : Int) % (E.length : Int)).toNat * 8) Y7 Z Z (by omega) (by omega) (by omega) Z (Xd (o' := ((m : Int) % (E.length : Int)).toNat * 8 + 3) Qv Z Z Z (J4 (g := MTh.cells) (j := 3) (z := (⟨⟨(mAt E ((m : Int) % (E.length : Int)).toNat).t.kind, (mAt E ((m : Int) % (E.length : Int)).toNat).t.lab, (mAt E ((m : Int) % (E.length : Int)).toNat).t.ve, ((mAt E ((m : Int) % (E.length : Int)).toNat).t.num + 7) % 90, (mAt E ((m : Int) % (E.length : Int)).toNat).t.slots, (mAt E ((m : Int) % (E.length : Int)).toNat).t.queue, (mAt E ((m : Int) % (E.length : Int)).toNat).t.to⟩, (mAt E ((m : Int) % (E.length : Int)).toNat).sa, (mAt E ((m : Int) % (E.length : Int)).toNat).sc, (mAt E ((m : Int) % (E.length : Int)).toNat).qa, (mAt E ((m : Int) % (E.length : Int)).toNat).qc⟩ : MTh)) (z' := (⟨⟨(mAt E ((m : Int) % (E.length : Int)).toNat).t.kind, (mAt E ((m : Int) % (E.length : Int)).toNat).t.lab, min ((mAt E ((m : Int) % (E.length : Int)).toNat).t.ve + 1) 5, ((mAt E ((m : Int) % (E.length : Int)).toNat).t.num + 7) % 90, (mAt E ((m : Int) % (E.length : Int)).toNat).t.slots, (mAt E ((m : Int) % (E.length : Int)).toNat).t.queue, (mAt E ((m : Int) % (E.length : Int)).toNat).t.to⟩, (mAt E ((m : Int) % (E.length : Int)).toNat).sa, (mAt E ((m : Int) % (E.length : Int)).toNat).sc, (mAt E ((m : Int) % (E.length : Int)).toNat).qa, (mAt E ((m : Int) % (E.length : Int)).toNat).qc⟩ : MTh)) (v := vi (min ((mAt E ((m : Int) % (E.length : Int)).toNat).t.ve + 1) 5)) X3 Z Z Z Qf dz (G4 (xg E ((m : Int) % (E.length : Int)).toNat)) (by omega) Z Z ?_)))))))
 intro i1 d0 bq
 have co := low1 (low1 ba bp (by omega)) bq (by omega)
 refine Xb (Ys (Xr (Xa (Xc (v := .slice (pa ah) E.length ab) Z Z (Xp (vs := [vi G.kind, vi G.run, vi G.a, vi G.b, vi G.n]) Yp bj Z ((((ce.gn az).gn bp).gn bq).rangeL 0 5 Z) Z ?_)))))
 have db := (TabG.ge bz bq hTH (by omega))
 refine Xm L6 (Xf Z (Xf Z Xl)) Z (Vu (show (E.set ((m : Int) % (E.length : Int)).toNat (⟨⟨(mAt E ((m : Int) % (E.length : Int)).toNat).t.kind, (mAt E ((m : Int) % (E.length : Int)).toNat).t.lab, min ((mAt E ((m : Int) % (E.length : Int)).toNat).t.ve + 1) 5, ((mAt E ((m : Int) % (E.length : Int)).toNat).t.num + 7) % 90, (mAt E ((m : Int) % (E.length : Int)).toNat).t.slots, (mAt E ((m : Int) % (E.length : Int)).toNat).t.queue, (mAt E ((m : Int) % (E.length : Int)).toNat).t.to⟩, (mAt E ((m : Int) % (E.length : Int)).toNat).sa, (mAt E ((m : Int) % (E.length : Int)).toNat).sc, (mAt E ((m : Int) % (E.length : Int)).toNat).qa, (mAt E ((m : Int) % (E.length : Int)).toNat).qc⟩ : MTh)).length = E.length by first | rfl | simp only [List.length_set]) (J2 G _ (E.set ((m : Int) % (E.length : Int)).toNat (⟨⟨(mAt E ((m : Int) % (E.length : Int)).toNat).t.kind, (mAt E ((m : Int) % (E.length : Int)).toNat).t.lab, min ((mAt E ((m : Int) % (E.length : Int)).toNat).t.ve + 1) 5, ((mAt E ((m : Int) % (E.length : Int)).toNat).t.num + 7) % 90, (mAt E ((m : Int) % (E.length : Int)).toNat).t.slots, (mAt E ((m : Int) % (E.length : Int)).toNat).t.queue, (mAt E ((m : Int) % (E.length : Int)).toNat).t.to⟩, (mAt E ((m : Int) % (E.length : Int)).toNat).sa, (mAt E ((m : Int) % (E.length : Int)).toNat).sc, (mAt E ((m : Int) % (E.length : Int)).toNat).qa, (mAt E ((m : Int) % (E.length : Int)).toNat).qc⟩ : MTh)) _ _ (Vz (Own.set2 d0) (RowsA.set (m := (⟨⟨(mAt E ((m : Int) % (E.length : Int)).toNat).t.kind, (mAt E ((m : Int) % (E.length : Int)).toNat).t.lab, min ((mAt E ((m : Int) % (E.length : Int)).toNat).t.ve + 1) 5, ((mAt E ((m : Int) % (E.length : Int)).toNat).t.num + 7) % 90, (mAt E ((m : Int) % (E.length : Int)).toNat).t.slots, (mAt E ((m : Int) % (E.length : Int)).toNat).t.queue, (mAt E ((m : Int) % (E.length : Int)).toNat).t.to⟩, (mAt E ((m : Int) % (E.length : Int)).toNat).sa, (mAt E ((m : Int) % (E.length : Int)).toNat).sc, (mAt E ((m : Int) % (E.length : Int)).toNat).qa, (mAt E ((m : Int) % (E.length : Int)).toNat).qc⟩ : MTh)) (RowsA.of (TabG.at db)) (by omega) ⟨Z, Z, Z, Z, Z, Z⟩)) (TabLen.setn (m := (⟨⟨(mAt E ((m : Int) % (E.length : Int)).toNat).t.kind, (mAt E ((m : Int) % (E.length : Int)).toNat).t.lab, min ((mAt E ((m : Int) % (E.length : Int)).toNat).t.ve + 1) 5, ((mAt E ((m : Int) % (E.length : Int)).toNat).t.num + 7) % 90, (mAt E ((m : Int) % (E.length : Int)).toNat).t.slots, (mAt E ((m : Int) % (E.length : Int)).toNat).t.queue, (mAt E ((m : Int) % (E.length : Int)).toNat).t.to⟩, (mAt E ((m : Int) % (E.length : Int)).toNat).sa, (mAt E ((m : Int) % (E.length : Int)).toNat).sc, (mAt E ((m : Int) % (E.length : Int)).toNat).qa, (mAt E ((m : Int) % (E.length : Int)).toNat).qc⟩ : MTh)) O (by omega) Z Z) (by first | omega | (simp only [List.length_set]; omega)) (ErrT.grown0 hE co))) ?_
 rintro _ i2 ⟨rfl, eb⟩
 have fr := Ja (ts := tabT (E.set ((m : Int) % (E.length : Int)).toNat (⟨⟨(mAt E ((m : Int) % (E.length : Int)).toNat).t.kind, (mAt E ((m : Int) % (E.length : Int)).toNat).t.lab, min ((mAt E ((m : Int) % (E.length : Int)).toNat).t.ve + 1) 5, ((mAt E ((m : Int) % (E.length : Int)).toNat).t.num + 7) % 90, (mAt E ((m : Int) % (E.length : Int)).toNat).t.slots, (mAt E ((m : Int) % (E.length : Int)).toNat).t.queue, (mAt E ((m : Int) % (E.length : Int)).toNat).t.to⟩, (mAt E ((m : Int) % (E.length : Int)).toNat).sa, (mAt E ((m : Int) % (E.length : Int)).toNat).sc, (mAt E ((m : Int) % (E.length : Int)).toNat).qa, (mAt E ((m : Int) % (E.length : Int)).toNat).qc⟩ : MTh))) (q := G)
 refine Xc (v := vi (chkAll (tabT E) G)) bu Z (Xw (q := decide (chkAll (tabT (E.set ((m : Int) % (E.length : Int)).toNat (⟨⟨(mAt E ((m : Int) % (E.length : Int)).toNat).t.kind, (mAt E ((m : Int) % (E.length : Int)).toNat).t.lab, min ((mAt E ((m : Int) % (E.length : Int)).toNat).t.ve + 1) 5, ((mAt E ((m : Int) % (E.length : Int)).toNat).t.num + 7) % 90, (mAt E ((m : Int) % (E.length : Int)).toNat).t.slots, (mAt E ((m : Int) % (E.length : Int)).toNat).t.queue, (mAt E ((m : Int) % (E.length : Int)).toNat).t.to⟩, (mAt E ((m : Int) % (E.length : Int)).toNat).sa, (mAt E ((m : Int) % (E.length : Int)).toNat).sc, (mAt E ((m : Int) % (E.length : Int)).toNat).qa, (mAt E ((m : Int) % (E.length : Int)).toNat).qc⟩ : MTh))) G = chkAll (tabT E) G)) Z Z Z Z (Xg (v := vb (decide (chkAll (tabT (E.set ((m : Int) % (E.length : Int)).toNat (⟨⟨(mAt E ((m : Int) % (E.length : Int)).toNat).t.kind, (mAt E ((m : Int) % (E.length : Int)).toNat).t.lab, min ((mAt E ((m : Int) % (E.length : Int)).toNat).t.ve + 1) 5, ((mAt E ((m : Int) % (E.length : Int)).toNat).t.num + 7) % 90, (mAt E ((m : Int) % (E.length : Int)).toNat).t.slots, (mAt E ((m : Int) % (E.length : Int)).toNat).t.queue, (mAt E ((m : Int) % (E.length : Int)).toNat).t.to⟩, (mAt E ((m : Int) % (E.length : Int)).toNat).sa, (mAt E ((m : Int) % (E.length : Int)).toNat).sc, (mAt E ((m : Int) % (E.length : Int)).toNat).qa, (mAt E ((m : Int) % (E.length : Int)).toNat).qc⟩ : MTh))) G = chkAll (tabT E) G))) Z Z (Xb (Xq ?_))))
 refine ⟨vb (decide (chkAll (tabT (E.set ((m : Int) % (E.length : Int)).toNat (⟨⟨(mAt E ((m : Int) % (E.length : Int)).toNat).t.kind, (mAt E ((m : Int) % (E.length : Int)).toNat).t.lab, min ((mAt E ((m : Int) % (E.length : Int)).toNat).t.ve + 1) 5, ((mAt E ((m : Int) % (E.length : Int)).toNat).t.num + 7) % 90, (mAt E ((m : Int) % (E.length : Int)).toNat).t.slots, (mAt E ((m : Int) % (E.length : Int)).toNat).t.queue, (mAt E ((m : Int) % (E.length : Int)).toNat).t.to⟩, (mAt E ((m : Int) % (E.length : Int)).toNat).sa, (mAt E ((m : Int) % (E.length : Int)).toNat).sc, (mAt E ((m : Int) % (E.length : Int)).toNat).qa, (mAt E ((m : Int) % (E.length : Int)).toNat).qc⟩ : MTh))) G = chkAll (tabT E) G)), Yy Z Z, ?_, (low0 co eb)⟩
 exact congrArg Value.bool (decide_eq_true (Gw bi (by omega) cg (of_decide_eq_true bv) Z))
 have ii := of_decide_eq_false bv
 refine Xa (Xw (q := decide ((mAt E ((m : Int) % (E.length : Int)).toNat).t.kind = 4)) Z Z Z Z (Xg (v := vb (decide ((mAt E ((m : Int) % (E.length : Int)).toNat).t.kind = 4))) Z Z (Xb (Xu Z (fun bw => ?_) (fun bw => ?_)))))
 have ij := of_decide_eq_true bw
 refine Xa (Xc (v := .slice (pa ah) E.length ab) Z Z (Xc (v := vi ((m : Int) % (E.length : Int))) Z Z (Xy (ps := [(0, vi 3)]) (e := 3) (cs := (([3] : List Int).flatMap icell).toArray) (Xk Z Xz) (fun _ => by kernel_rfl) Z ?_)))
 intro aj i3 am
 have f9 := X9 am ba
 have fb : hi ≤ aj := nt (nt (nt (nt (Nat.le_of_eq hhi) aw.size) al.grw.size) az.size) (Nat.le_of_eq am.eq.symm)
 have dw := (ce.gn az)
 have c8 := Xn am (dw).lt
 have c9 := Xn am ((show Dw.Own bl ah 36 8 ab E.length (E.flatMap MTh.cells) from bf)).lt
 refine X1 (o' := ((m : Int) % (E.length : Int)).toNat * 8) Y7 Z Z (by omega) (by omega) (by omega) Z (Xd (o' := ((m : Int) % (E.length : Int)).toNat * 8 + 6) Jy Z Z Z ?_)
 have gh := TabLen.at O (Qw (show ((m : Int) % (E.length : Int)).toNat < E.length by first | omega | (simp only [List.length_set]; omega)))
 refine J4 (g := MTh.cells) (j := 6) (z := (mAt E ((m : Int) % (E.length : Int)).toNat)) (z' := (⟨⟨(mAt E ((m : Int) % (E.length : Int)).toNat).t.kind, (mAt E ((m : Int) % (E.length : Int)).toNat).t.lab, (mAt E ((m : Int) % (E.length : Int)).toNat).t.ve, (mAt E ((m : Int) % (E.length : Int)).toNat).t.num, (mAt E ((m : Int) % (E.length : Int)).toNat).t.slots, ([3] : List Int), (mAt E ((m : Int) % (E.length : Int)).toNat).t.to⟩, (mAt E ((m : Int) % (E.length : Int)).toNat).sa, (mAt E ((m : Int) % (E.length : Int)).toNat).sc, some ⟨aj, 0, none⟩, 1⟩ : MTh)) (v := .slice (pa aj) 1 1) Ky Z Z Z Qf ((show Dw.Own bl ah 36 8 ab E.length (E.flatMap MTh.cells) from bf).grown0 am.grw) (xg E ((m : Int) % (E.length : Int)).toNat) (by omega) Z Z ?_
 intro i4 d1 bg
 refine Xb (Xx (Xc (v := .slice (pa ah) E.length ab) Z Z (Xc (v := vi ((m : Int) % (E.length : Int))) Z Z (Xc (v := .slice (pa ad) E.length J) a8 Z (Xc (v := vi ((m : Int) % (E.length : Int))) Z Z ?_)))))
 have ca := (TabG.ge (TabG.low a9 am.grw) bg hTH (by omega))
 obtain ⟨gx, ip, fh, d5, eh, ek⟩ := SlAt.at (TabG.at ca).1 (Yi (xg E ((m : Int) % (E.length : Int)).toNat))
 have gi := TabLen.at O (xg E ((m : Int) % (E.length : Int)).toNat)
 refine X8 Y7 Z Z d5 eh (by omega) (by omega) Z (Xd (o' := fh + 3) Qv Z Z Z (Xh (v := vi (mAt E ((m : Int) % (E.length : Int)).toNat).t.ve) X3 Z (ek 3 _ Z) Z (Yw (c := (mAt E ((m : Int) % (E.length : Int)).toNat).t.ve + 1) Z Z (by omega) (by omega) (by omega) Z (N9 (c := min ((mAt E ((m : Int) % (E.length : Int)).toNat).t.ve + 1) 5) Z Z Z Z (X1 (o' := ((m : Int) % (E.length : Int)).toNat * 8) Y7 Z Z (by omega) (by omega) (by omega) Z (Xd (o' := ((m : Int) % (E.length : Int)).toNat * 8 + 3) Qv Z Z Z (J4 (g := MTh.cells) (j := 3) (z := (⟨⟨(mAt E ((m : Int) % (E.length : Int)).toNat).t.kind, (mAt E ((m : Int) % (E.length : Int)).toNat).t.lab, (mAt E ((m : Int) % (E.length : Int)).toNat).t.ve, (mAt E ((m : Int) % (E.length : Int)).toNat).t.num, (mAt E ((m : Int) % (E.length : Int)).toNat).t.slots, ([3] : List Int), (mAt E ((m : Int) % (E.length : Int)).toNat).t.to⟩, (mAt E ((m : Int) % (E.length : Int)).toNat).sa, (mAt E ((m : Int) % (E.length : Int)).toNat).sc, some ⟨aj, 0, none⟩, 1⟩ : MTh)) (z' := (⟨⟨(mAt E ((m : Int) % (E.length : Int)).toNat).t.kind, (mAt E ((m : Int) % (E.length : Int)).toNat).t.lab, min ((mAt E ((m : Int) % (E.length : Int)).toNat).t.ve + 1) 5, (mAt E ((m : Int) % (E.length : Int)).toNat).t.num, (mAt E ((m : Int) % (E.length : Int)).toNat).t.slots, ([3] : List Int), (mAt E ((m : Int) % (E.length : Int)).toNat).t.to⟩, (mAt E ((m : Int) % (E.length : Int)).toNat).sa, (mAt E ((m : Int) % (E.length : Int)).toNat).sc, some ⟨aj, 0, none⟩, 1⟩ : MTh)) (v := vi (min ((mAt E ((m : Int) % (E.length : Int)).toNat).t.ve + 1) 5)) X3 Z Z Z Qf d1 (G4 (xg E ((m : Int) % (E.length : Int)).toNat)) (by omega) Z Z ?_)))))))
 intro i5 d2 bh
 have ct := low1 (low1 (low0 ba am.grw) bg (by omega)) bh (by omega)
 refine Xb (Ys (Xr (Xa (Xc (v := .slice (pa ah) E.length ab) Z Z (Xp (vs := [vi G.kind, vi G.run, vi G.a, vi G.b, vi G.n]) Yp bj Z ((((dw.grown0 am.grw).gn bg).gn bh).rangeL 0 5 Z) Z ?_)))))
 have be := (TabG.ge ca bh hTH (by omega))
 have fe := ((am.blk.gn bg).gn bh)
 refine Xm L6 (Xf Z (Xf Z Xl)) Z (Vu (show (E.set ((m : Int) % (E.length : Int)).toNat (⟨⟨(mAt E ((m : Int) % (E.length : Int)).toNat).t.kind, (mAt E ((m : Int) % (E.length : Int)).toNat).t.lab, min ((mAt E ((m : Int) % (E.length : Int)).toNat).t.ve + 1) 5, (mAt E ((m : Int) % (E.length : Int)).toNat).t.num, (mAt E ((m : Int) % (E.length : Int)).toNat).t.slots, ([3] : List Int), (mAt E ((m : Int) % (E.length : Int)).toNat).t.to⟩, (mAt E ((m : Int) % (E.length : Int)).toNat).sa, (mAt E ((m : Int) % (E.length : Int)).toNat).sc, some ⟨aj, 0, none⟩, 1⟩ : MTh)).length = E.length by first | rfl | simp only [List.length_set]) (J2 G _ (E.set ((m : Int) % (E.length : Int)).toNat (⟨⟨(mAt E ((m : Int) % (E.length : Int)).toNat).t.kind, (mAt E ((m : Int) % (E.length : Int)).toNat).t.lab, min ((mAt E ((m : Int) % (E.length : Int)).toNat).t.ve + 1) 5, (mAt E ((m : Int) % (E.length : Int)).toNat).t.num, (mAt E ((m : Int) % (E.length : Int)).toNat).t.slots, ([3] : List Int), (mAt E ((m : Int) % (E.length : Int)).toNat).t.to⟩, (mAt E ((m : Int) % (E.length : Int)).toNat).sa, (mAt E ((m : Int) % (E.length : Int)).toNat).sc, some ⟨aj, 0, none⟩, 1⟩ : MTh)) _ _ (Vz (Own.set2 d2) (RowsA.setn (m := (⟨⟨(mAt E ((m : Int) % (E.length : Int)).toNat).t.kind, (mAt E ((m : Int) % (E.length : Int)).toNat).t.lab, min ((mAt E ((m : Int) % (E.length : Int)).toNat).t.ve + 1) 5, (mAt E ((m : Int) % (E.length : Int)).toNat).t.num, (mAt E ((m : Int) % (E.length : Int)).toNat).t.slots, ([3] : List Int), (mAt E ((m : Int) % (E.length : Int)).toNat).t.to⟩, (mAt E ((m : Int) % (E.length : Int)).toNat).sa, (mAt E ((m : Int) % (E.length : Int)).toNat).sc, some ⟨aj, 0, none⟩, 1⟩ : MTh)) (RowsA.of (TabG.at be)) ⟨((TabG.at be).2 _ (List.mem_of_getElem? (xg E ((m : Int) % (E.length : Int)).toNat))).1, (Jh Yn fe), ((TabG.at be).2 _ (List.mem_of_getElem? (xg E ((m : Int) % (E.length : Int)).toNat))).2.2.1, (fun h => by cases h)⟩)) (TabLen.put (m := (⟨⟨(mAt E ((m : Int) % (E.length : Int)).toNat).t.kind, (mAt E ((m : Int) % (E.length : Int)).toNat).t.lab, min ((mAt E ((m : Int) % (E.length : Int)).toNat).t.ve + 1) 5, (mAt E ((m : Int) % (E.length : Int)).toNat).t.num, (mAt E ((m : Int) % (E.length : Int)).toNat).t.slots, ([3] : List Int), (mAt E ((m : Int) % (E.length : Int)).toNat).t.to⟩, (mAt E ((m : Int) % (E.length : Int)).toNat).sa, (mAt E ((m : Int) % (E.length : Int)).toNat).sc, some ⟨aj, 0, none⟩, 1⟩ : MTh)) O ⟨(TabLen.at O (xg E ((m : Int) % (E.length : Int)).toNat)).1, show ([3] : List Int).length ≤ 1048576 by decide⟩) (by first | omega | (simp only [List.length_set]; omega)) (ErrT.grown0 hE ct))) ?_
 rintro _ i6 ⟨rfl, ed⟩
 have ft := Ja (ts := tabT (E.set ((m : Int) % (E.length : Int)).toNat (⟨⟨(mAt E ((m : Int) % (E.length : Int)).toNat).t.kind, (mAt E ((m : Int) % (E.length : Int)).toNat).t.lab, min ((mAt E ((m : Int) % (E.length : Int)).toNat).t.ve + 1) 5, (mAt E ((m : Int) % (E.length : Int)).toNat).t.num, (mAt E ((m : Int) % (E.length : Int)).toNat).t.slots, ([3] : List Int), (mAt E ((m : Int) % (E.length : Int)).toNat).t.to⟩, (mAt E ((m : Int) % (E.length : Int)).toNat).sa, (mAt E ((m : Int) % (E.length : Int)).toNat).sc, some ⟨aj, 0, none⟩, 1⟩ : MTh))) (q := G)
 refine Xc (v := vi (chkAll (tabT E) G)) bu Z (Xw (q := decide (chkAll (tabT (E.set ((m : Int) % (E.length : Int)).toNat (⟨⟨(mAt E ((m : Int) % (E.length : Int)).toNat).t.kind, (mAt E ((m : Int) % (E.length : Int)).toNat).t.lab, min ((mAt E ((m : Int) % (E.length : Int)).toNat).t.ve + 1) 5, (mAt E ((m : Int) % (E.length : Int)).toNat).t.num, (mAt E ((m : Int) % (E.length : Int)).toNat).t.slots, ([3] : List Int), (mAt E ((m : Int) % (E.length : Int)).toNat).t.to⟩, (mAt E ((m : Int) % (E.length : Int)).toNat).sa, (mAt E ((m : Int) % (E.length : Int)).toNat).sc, some ⟨aj, 0, none⟩, 1⟩ : MTh))) G = chkAll (tabT E) G)) Z Z Z Z (Xg (v := vb (decide (chkAll (tabT (E.set ((m : Int) % (E.length : Int)).toNat (⟨⟨(mAt E ((m : Int) % (E.length : Int)).toNat).t.kind, (mAt E ((m : Int) % (E.length : Int)).toNat).t.lab, min ((mAt E ((m : Int) % (E.length : Int)).toNat).t.ve + 1) 5, (mAt E ((m : Int) % (E.length : Int)).toNat).t.num, (mAt E ((m : Int) % (E.length : Int)).toNat).t.slots, ([3] : List Int), (mAt E ((m : Int) % (E.length : Int)).toNat).t.to⟩, (mAt E ((m : Int) % (E.length : Int)).toNat).sa, (mAt E ((m : Int) % (E.length : Int)).toNat).sc, some ⟨aj, 0, none⟩, 1⟩ : MTh))) G = chkAll (tabT E) G))) Z Z (Xb (Xq (⟨vb (decide (chkAll (tabT (E.set ((m : Int) % (E.length : Int)).toNat (⟨⟨(mAt E ((m : Int) % (E.length : Int)).toNat).t.kind, (mAt E ((m : Int) % (E.length : Int)).toNat).t.lab, min ((mAt E ((m : Int) % (E.length : Int)).toNat).t.ve + 1) 5, (mAt E ((m : Int) % (E.length : Int)).toNat).t.num, (mAt E ((m : Int) % (E.length : Int)).toNat).t.slots, ([3] : List Int), (mAt E ((m : Int) % (E.length : Int)).toNat).t.to⟩, (mAt E ((m : Int) % (E.length : Int)).toNat).sa, (mAt E ((m : Int) % (E.length : Int)).toNat).sc, some ⟨aj, 0, none⟩, 1⟩ : MTh))) G = chkAll (tabT E) G)), Yy Z Z, ?_, (low0 ct ed)⟩)))))
 exact congrArg Value.bool (decide_eq_true (Gx bi (by omega) cg (of_decide_eq_true bw) Z))
 have ik := of_decide_eq_false bw
 refine Xv (Ys (Xr (Xa (Xc (v := .slice (pa ah) E.length ab) Z Z (Xp (vs := [vi G.kind, vi G.run, vi G.a, vi G.b, vi G.n]) Yp bj Z ((ce.gn az).rangeL 0 5 Z) Z (Xm L6 (Xf Z (Xf Z Xl)) Z (Vu (show (E).length = E.length by first | rfl | simp only [List.length_set]) (J2 G _ (E) _ _ (Vz (show Dw.Own bl ah 36 8 ab E.length (E.flatMap MTh.cells) from bf) (RowsA.of (TabG.at a9))) O (by first | omega | (simp only [List.length_set]; omega)) (ErrT.grown0 hE ba))) ?_))))))
 rintro _ i7 ⟨rfl, ee⟩
 have fu := Ja (ts := tabT E) (q := G)
 refine Xc (v := vi (chkAll (tabT E) G)) bu Z (Xw (q := true) Z Z (by simp) Z (Xg (v := vb true) Z Z (Xb (Xq (⟨vb true, Yy Z Z, ?_, (low0 ba ee)⟩)))))
 rfl
end Go.Proofs.YtjpgffmkcmcolabDoor
end
