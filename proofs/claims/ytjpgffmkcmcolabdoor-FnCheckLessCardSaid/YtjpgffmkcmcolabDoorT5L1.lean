/- Laws and walks: my templates, and what a program of mine (gen.py) printed out of the functions; only what the row reaches. -/
import Derived.Test.YtjpgffmkcmcolabDoorT53
section
namespace Go.Dw
set_option linter.unusedVariables false
set_option linter.unusedSimpArgs false
section
variable {ts : List Th} {q : Cl}
def Kept (n : Int) (a b : Th) : Prop := (a.kind = 1 → b.num = a.num ∨ b.num = 0 ∨ b.num = n ∨ b.num = n % 2) ∧ ∀ v ∈ b.queue, v = n ∨ v ∈ a.queue
theorem Kept.refl (n : Int) (a : Th) : Kept n a a := ⟨fun _ => Or.inl rfl, fun _ h => Or.inr h⟩
section
variable {ms xs : List MTh}
theorem T2 {l : List Rt} {j k : Nat} {r : Rt} (hk : k < l.length) : rAt (l.set j r) k = if k = j then r else rAt l k := by
  unfold rAt
  rw [List.getD_eq_getElem?_getD, List.getD_eq_getElem?_getD, List.getElem?_set]
  split
  · rename_i e; subst e; rw [if_pos rfl, if_pos hk]; rfl
  · rename_i e; rw [if_neg (Ne.symm e)]
end
end
end Go.Dw
end
section
namespace Go.Dw
set_option linter.unusedVariables false
set_option linter.unusedSimpArgs false
def RowsA (w : World) (l : List MTh) : Prop := ∀ m ∈ l, ThAt w m
theorem RowsA.of {w : World} {a : Option Addr} {l : List MTh} (h : TabAt w a l) : RowsA w l := h.2
theorem RowsA.set {w : World} {l : List MTh} {i : Nat} {m : MTh} (h : RowsA w l) (hi : i < l.length) (e : m.sa = (mAt l i).sa ∧ m.sc = (mAt l i).sc ∧ m.qa = (mAt l i).qa ∧ m.qc = (mAt l i).qc ∧ m.t.slots = (mAt l i).t.slots ∧ m.t.queue = (mAt l i).t.queue) : RowsA w (l.set i m) := fun x hx => by
  rcases List.mem_or_eq_of_mem_set hx with h1 | rfl
  · exact h x h1
  · have := h _ (List.mem_of_getElem? (Qw hi))
    unfold ThAt at this ⊢
    rw [e.1, e.2.1, e.2.2.1, e.2.2.2.1, e.2.2.2.2.1, e.2.2.2.2.2]
    exact this
theorem RowsA.setn {w : World} {l : List MTh} {i : Nat} {m : MTh} (h : RowsA w l) (hm : ThAt w m) : RowsA w (l.set i m) := fun x hx => by
  rcases List.mem_or_eq_of_mem_set hx with h1 | rfl
  · exact h x h1
  · exact hm
theorem Vz {w : World} {Y T cap : Nat} {l : List MTh} (ho : Own w Y T 8 cap l.length (l.flatMap MTh.cells)) (h : RowsA w l) : TabAt w (some ⟨Y, 0, none⟩) l := ⟨Own.sl Qf ho, h⟩
theorem Li {w : World} {a : Option Addr} {l : List MTh} (h : TabAt w a l) (hn : 0 < l.length) : ¬ a = none := fun e => by
  obtain ⟨x, hx⟩ := Qa hn
  obtain ⟨b, q, o, ha, _, _⟩ := SlAt.at h.1 (Yi hx)
  rw [e] at ha
  cases ha
theorem TabLen.setn {l : List MTh} {i : Nat} {m : MTh} (h : TabLen l) (hi : i < l.length) (e1 : m.t.slots = (mAt l i).t.slots) (e2 : m.t.queue = (mAt l i).t.queue) : TabLen (l.set i m) := fun x hx => by
  rcases List.mem_or_eq_of_mem_set hx with h1 | rfl
  · exact h x h1
  · rw [e1, e2]
    exact h _ (List.mem_of_getElem? (Qw hi))
theorem TabLen.put {l : List MTh} {i : Nat} {m : MTh} (h : TabLen l) (hm : m.t.slots.length ≤ 1048576 ∧ m.t.queue.length ≤ 1048576) : TabLen (l.set i m) := fun x hx => by
  rcases List.mem_or_eq_of_mem_set hx with h1 | rfl
  · exact h x h1
  · exact hm
theorem Vu {P : Program} {k : FuncId} {a : Option Addr} {c n m : Nat} {u : Value} {w : World} {R : Value → World → Prop} (h : m = n) (hc : CallsR P k #[.slice a m c, u] w R) : CallsR P k #[.slice a n c, u] w R := h ▸ hc
theorem Ha {Y b n : Nat} (h : (some ⟨Y, 0, none⟩ : Option Addr).map (·.block) = (some ⟨b, 0, none⟩ : Option Addr).map (·.block) ∨ (some ⟨Y, 0, none⟩ : Option Addr).map (·.block) = some n) : Y = b ∨ Y = n := by simpa using h
section
variable {ms xs : List MTh} {q : Cl}
end
end Go.Dw
end
section
namespace Go.Dw
set_option linter.unusedVariables false
set_option linter.unusedSimpArgs false
section
variable {ts us : List Th} {q : Cl}
theorem Sj {r : Rt} {x y z : Bool} : (l2Less r x y z).th = r.th ∧ (l2Less r x y z).ve = r.ve ∧ ((l2Less r x y z).rd = true → r.rd = true) ∧ ((l2Less r x y z).wr = true → r.wr = true) := by
  unfold l2Less
  split
  · exact ⟨rfl, rfl, id, id⟩
  · refine ⟨rfl, rfl, fun h => ?_, fun h => ?_⟩
    · simp only [Bool.and_eq_true] at h
      exact h.1
    · simp only [Bool.and_eq_true] at h
      exact h.1.1
theorem Nd {x y z : Bool} (hp : callPoss ts q = true) (h : check1 (putSl ts q.run q.a (l2Less (slotAt ts q.run q.a) x y z)) q = 0) : check1 ts q = 0 := by
  obtain ⟨hT, hc, hk⟩ := Qq hp
  have hrun := Ug hk
  have hco := Q2 hc
  have h4 := N4 (Vb hT hrun.1).1 (Or.inr hrun.2)
  by_cases h3 : q.kind = 3
  · unfold check1; rw [if_pos h3]
  have hs : slotAt (putSl ts q.run q.a (l2Less (slotAt ts q.run q.a) x y z)) q.run q.a = l2Less (slotAt ts q.run q.a) x y z := by
    show rAt (thAt (setTh ts _ _) q.run).slots q.a.toNat = _
    rw [Kq hrun.1 _ hrun.1.1, if_pos rfl]
    show rAt ((thAt ts q.run).slots.set _ _) _ = _
    rw [T2 (by omega), if_pos rfl]
  obtain ⟨e1, e2, e3, e4⟩ := Sj (r := slotAt ts q.run q.a) (x := x) (y := y) (z := z)
  have like : ∀ j : Int, 1 ≤ j → (thAt (putSl ts q.run q.a (l2Less (slotAt ts q.run q.a) x y z)) j).kind = (thAt ts j).kind ∧ (thAt (putSl ts q.run q.a (l2Less (slotAt ts q.run q.a) x y z)) j).lab = (thAt ts j).lab ∧ (thAt (putSl ts q.run q.a (l2Less (slotAt ts q.run q.a) x y z)) j).ve = (thAt ts j).ve := fun j hj => by
    unfold putSl
    rw [Kq hrun.1 j hj]
    split
    · rename_i e; rw [e]; exact ⟨rfl, rfl, rfl⟩
    · exact ⟨rfl, rfl, rfl⟩
  have hn : (putSl ts q.run q.a (l2Less (slotAt ts q.run q.a) x y z)).length = ts.length := by unfold putSl; exact K0
  unfold check1 at h
  rw [if_neg h3, hs] at h
  by_cases c1 : chk1 (putSl ts q.run q.a (l2Less (slotAt ts q.run q.a) x y z)) q (l2Less (slotAt ts q.run q.a) x y z) = true
  · rw [if_pos c1] at h; exact absurd h (by decide)
  rw [if_neg c1] at h
  by_cases c2 : chk2 (putSl ts q.run q.a (l2Less (slotAt ts q.run q.a) x y z)) q (l2Less (slotAt ts q.run q.a) x y z) = true
  · rw [if_pos c2] at h; exact absurd h (by decide)
  rw [if_neg c2] at h
  by_cases c3 : chk3 (putSl ts q.run q.a (l2Less (slotAt ts q.run q.a) x y z)) q (l2Less (slotAt ts q.run q.a) x y z) = true
  · rw [if_pos c3] at h; exact absurd h (by decide)
  unfold chk1 at c1
  rw [e1] at c1
  simp only [Bool.or_eq_true, Bool.and_eq_true, Bool.not_eq_true', decide_eq_true_eq, not_or, not_and, Bool.not_eq_false] at c1
  have hok := (Hh hT hrun.1 q.a).1
  have hth : 1 ≤ (slotAt ts q.run q.a).th := by
    unfold rightOk at hok
    simp only [Bool.or_eq_true, Bool.and_eq_true, decide_eq_true_eq] at hok
    rcases hok with h | h
    · exact absurd (congrArg Rt.th h) c1.1.1.1
    · exact (Yu.1 h.1.1).1
  unfold chk2 sees touches at c2
  unfold chk3 sees live at c3
  rw [e1, (like _ hth).2.1, (like _ hrun.1.1).2.1] at c2 c3
  rw [e2, (like _ hth).2.2, hn] at c3
  rw [(like _ hth).1] at c1
  unfold check1
  rw [if_neg h3, if_neg, if_neg (by unfold chk2 sees touches; exact c2), if_neg (by unfold chk3 sees live; exact c3)]
  unfold chk1
  simp only [Bool.or_eq_true, Bool.and_eq_true, Bool.not_eq_true', decide_eq_true_eq, not_or, not_and, Bool.not_eq_false]
  exact ⟨⟨⟨c1.1.1.1, c1.1.1.2⟩, fun h => e3 (c1.1.2 h)⟩, fun h => e4 (c1.2 h)⟩
theorem Rq {x y z : Bool} (hp : callPoss ts q = true) (hu : us = putSl ts q.run q.a (l2Less (slotAt ts q.run q.a) x y z)) : ((!(decide (chkAll us q = 0))) || (decide (chkAll ts q = 0))) = true := by
  by_cases h : chkAll us q = 0
  · have h1 := Q5 (Hz (ts := us) (q := q) (by omega))
    rw [h1, hu] at h
    rw [Q5 hp, Nd hp h]
    simp
  · rw [decide_eq_false h]
    rfl
end
section
variable {ms : List MTh} {q : Cl}
theorem Tx {M : MTh} {x y z : Bool} (hp : callPoss (tabT ms) q = true) (h : M.t = { (mAt ms (q.run - 1).toNat).t with slots := (mAt ms (q.run - 1).toNat).t.slots.set q.a.toNat (rightLess (rAt (mAt ms (q.run - 1).toNat).t.slots q.a.toNat) x y z) }) (h0 : decide (chkAll (tabT (ms.set (q.run - 1).toNat M)) q = 0) = true) : decide (chkAll (tabT ms) q = 0) = true := by
  obtain ⟨hT, _, hk⟩ := Qq hp
  have hok := (Hh hT (Ug hk).1 q.a).1
  have e : tabT (ms.set (q.run - 1).toNat M) = putSl (tabT ms) q.run q.a (l2Less (slotAt (tabT ms) q.run q.a) x y z) := by
    rw [Lf, h, J9]
    unfold rightLess
    have e2 : rAt (thAt (tabT ms) q.run).slots q.a.toNat = slotAt (tabT ms) q.run q.a := rfl
    rw [e2, if_pos hok]
    rfl
  have := Rq (x := x) (y := y) (z := z) hp e
  rw [h0] at this
  simpa using this
theorem Tw {M : MTh} {x y z : Bool} (hp : callPoss (tabT ms) q = true) (h : M.t = { (mAt ms (q.run - 1).toNat).t with slots := (mAt ms (q.run - 1).toNat).t.slots.set q.a.toNat (rightLess (rAt (mAt ms (q.run - 1).toNat).t.slots q.a.toNat) x y z) }) : ((!(decide (chkAll (tabT (ms.set (q.run - 1).toNat M)) q = 0))) || (decide (chkAll (tabT ms) q = 0))) = true := by
  cases h0 : decide (chkAll (tabT (ms.set (q.run - 1).toNat M)) q = 0) with
  | false => rfl
  | true => rw [Tx hp h h0]; rfl
theorem Nk {w : World} {Y T cap i : Nat} {l : List MTh} {m m2 : MTh} (ho : Own w Y T 8 cap (l.set i m).length ((l.set i m).flatMap MTh.cells)) (e : m2.cells = m.cells) (h : RowsA w (l.set i m2)) : TabAt w (some ⟨Y, 0, none⟩) (l.set i m2) := by
  have e2 : (l.set i m).flatMap MTh.cells = (l.set i m2).flatMap MTh.cells := by
    rw [List.flatMap_def, List.flatMap_def, List.map_set, List.map_set, e]
  have e3 : (l.set i m).length = (l.set i m2).length := by simp
  rw [e2, e3] at ho
  exact Vz ho h
end
end Go.Dw
end
section
namespace Go.Proofs.YtjpgffmkcmcolabDoor
open Go.RowKit Go.Dw
set_option maxRecDepth 100000
set_option maxHeartbeats 4000000
set_option linter.unusedSimpArgs false
set_option linter.unusedVariables false
theorem Sf : fieldOff Tryd.prog 92 0 = some 0 := by kernel_rfl
theorem T9 : goFn Tryd.prog 10 = true := by kernel_rfl
theorem S7 : goFn Tryd.prog 22 = true := by kernel_rfl
theorem Tu : goFn Tryd.prog 5 = true := by kernel_rfl
theorem L6 : goFn Tryd.prog 6 = true := by kernel_rfl
theorem Rh : goFn Tryd.prog 7 = true := by kernel_rfl
theorem M0 : goFn Tryd.prog 91 = true := by kernel_rfl
theorem M1 : goFn Tryd.prog 93 = true := by kernel_rfl
theorem Sh (a b c : Bool) (w : World) : CallsR Tryd.prog 91 #[.agg #[], vb a, vb b, vb c] w (fun v w' => v = .agg #[vi 0, vi 0, vb false, vb false, vb false] ∧ w.grownBy w' none) := by
 refine X0 (n := 10) Tryd.func91 Z Tryd.ntmps91 Z ?_
 have ab := World.grownBy.refl w none
 refine Xa (Yr (v := .agg #[]) (cs := #[]) Z Z Z ?_)
 intro ae ag G
 have ac := X9 G ab
 have O := low0 ab G.grw
 refine Yd (cs := #[vi 0, vi 0, vb false, vb false, vb false]) Ks Z Z ?_
 intro af ah E
 have ad := X9 E O
 have V := Xn E (G.blk).lt
 refine Xb (Xa (Yk (ps := []) (v := .agg #[vi 0, vi 0, vb false, vb false, vb false]) Xz (by kernel_rfl) Z (Xt (vs := [vi 0, vi 0, vb false, vb false, vb false]) (cs' := #[vi 0, vi 0, vb false, vb false, vb false]) Yv Z Z Z (by simp [Value.oneCell']) E.blk (Nat.le_of_ble_eq_true Z) Z ?_)))
 intro ai J
 refine Xb (Xq (⟨.agg #[vi 0, vi 0, vb false, vb false, vb false], Qo Z (X7 (vs := [vi 0, vi 0, vb false, vb false, vb false]) Yv Z Z (J.blk.rangeL 0 5 Z)), ?_, (low1 (low0 O E.grw) J.grw (by omega))⟩))
 rfl
theorem Si (r : Rt) (a b c : Bool) (w : World) : CallsR Tryd.prog 93 #[.agg #[vi r.th, vi r.ve, vb r.rd, vb r.wr, vb r.wk], vb a, vb b, vb c] w (fun v w' => v = .agg #[vi r.th, vi r.ve, vb (r.rd && a), vb ((r.wr && b) && c), vb (r.wk || (!c))] ∧ w.grownBy w' none) := by
 refine X0 (n := 35) Tryd.func93 Z Tryd.ntmps93 Z ?_
 have be := World.grownBy.refl w none
 refine Xa (Yr (v := .agg #[vi r.th, vi r.ve, vb r.rd, vb r.wr, vb r.wk]) (cs := #[vi r.th, vi r.ve, vb r.rd, vb r.wr, vb r.wk]) Z Z Z ?_)
 intro bl bq ac
 have bi := X9 ac be
 have ao := low0 be ac.grw
 refine Yd (cs := #[vi 0, vi 0, vb false, vb false, vb false]) Ks Z Z ?_
 intro ak br G
 have bj := X9 G ao
 have aq := Xn G (ac.blk).lt
 have ap := low0 ao G.grw
 refine Xb (Xa (Xd (o' := 0) Sf Z Z Z ?_))
 have a8 := (ac.blk.grown0 G.grw)
 refine Xp (vs := [vi r.th, vi r.ve, vb r.rd, vb r.wr, vb r.wk]) Yv Z Z (a8.rangeL 0 5 Z) Z (Yd (cs := #[vi 0, vi 0, vb false, vb false, vb false]) Ks Z Z ?_)
 intro al bt J
 have bk := X9 J ap
 have ar := Xn J (a8).lt
 have au := Xn J (G.blk).lt
 refine Xt (vs := [vi r.th, vi r.ve, vb r.rd, vb r.wr, vb r.wk]) (cs' := #[vi r.th, vi r.ve, vb r.rd, vb r.wr, vb r.wk]) Yv Z Z Z (by simp [Value.oneCell']) J.blk (Nat.le_of_ble_eq_true Z) Z ?_
 intro bf ad
 refine Xb (Xa (Nm 5 (fun f' w' => (f' 2 = vb b ∧ f' 3 = vb c ∧ f' 8 = pt ak 0 ∧ f' 9 = pt al 0 ∧ f' 16 = vb (r.rd && a)) ∧ bf = w') ?_ ?_))
 simp only [List.take_succ_cons, List.take_zero]
 refine Xd (o' := 2) Vw Z Z Z (Xh (v := vb r.rd) Q3 Z (ad.blk.cell Z) Z (Xc (v := vb r.rd) Z Z ?_))
 rcases X6 (r.rd) with V | V
 exact Xe Z Z Z V (Xc (v := vb a) Z Z (Xo (v := vb a) Z V Z Z (Xb ⟨⟨Z, Z, Z, Z, (cB (by simp [V]))⟩, Z⟩)))
 exact Xi Z Z Z V Z (Xj (v := vb false) Z V Z Z (Xb ⟨⟨Z, Z, Z, Z, (cB (by simp [V]))⟩, Z⟩))
 rintro bm bu ⟨⟨a9, ai, am, ag, ba⟩, rfl⟩
 simp only [List.drop_succ_cons, List.drop_zero]
 refine Xd (o' := 2) Vw ag Z Z (Yb (v := vb (r.rd && a)) (cs' := #[vi r.th, vi r.ve, vb (r.rd && a), vb r.wr, vb r.wk]) Q3 Z ba Z ad.blk (Nat.le_of_ble_eq_true Z) Z ?_)
 intro bg ae
 refine Xb (Xa (Nm 8 (fun f' w' => (f' 3 = vb c ∧ f' 8 = pt ak 0 ∧ f' 9 = pt al 0 ∧ f' 25 = vb ((r.wr && b) && c)) ∧ bg = w') ?_ ?_))
 simp only [List.take_succ_cons, List.take_zero]
 refine Xd (o' := 3) Ki ag Z Z (Xh (v := vb r.wr) Q3 Z (ae.blk.cell Z) Z (Xc (v := vb r.wr) Z Z ?_))
 rcases X6 (r.wr) with O | O
 refine Xe Z Z Z O (Xc (v := vb b) a9 Z (Xo (v := vb b) Z O Z Z (Xc (v := vb b) Z Z ?_)))
 rcases X6 (b) with ab | ab
 exact Xe Z Z Z ab (Xc (v := vb c) ai Z (Xo (v := vb c) Z ab Z Z (Xb ⟨⟨ai, am, ag, (cB (by simp [O, ab]))⟩, Z⟩)))
 exact Xi Z Z Z ab Z (Xj (v := vb false) Z ab Z Z (Xb ⟨⟨ai, am, ag, (cB (by simp [O, ab]))⟩, Z⟩))
 exact Xi Z Z Z O Z (Xj (v := vb false) Z O Z Z (Xc (v := vb false) Z Z (Xi Z Z Z Z Z (Xj (v := vb false) Z Z Z Z (Xb ⟨⟨ai, am, ag, (cB (by simp [O]))⟩, Z⟩)))))
 rintro bn bv ⟨⟨bb, av, aj, bc⟩, rfl⟩
 simp only [List.drop_succ_cons, List.drop_zero]
 refine Xd (o' := 3) Ki aj Z Z (Yb (v := vb ((r.wr && b) && c)) (cs' := #[vi r.th, vi r.ve, vb (r.rd && a), vb ((r.wr && b) && c), vb r.wk]) Q3 Z bc Z ae.blk (Nat.le_of_ble_eq_true Z) Z ?_)
 intro bh af
 refine Xb (Xa (Nm 6 (fun f' w' => (f' 8 = pt ak 0 ∧ f' 9 = pt al 0 ∧ f' 32 = vb (r.wk || (!c))) ∧ bh = w') ?_ ?_))
 simp only [List.take_succ_cons, List.take_zero]
 refine Xd (o' := 4) K8 aj Z Z (Xh (v := vb r.wk) Q3 Z (af.blk.cell Z) Z (Xc (v := vb r.wk) Z Z ?_))
 rcases X6 (r.wk) with E | E
 exact Xi Z Z Z E Z (Xi Z Z Z E Z (Xo (v := vb true) Z E Z Z (Xb ⟨⟨av, aj, (cB (by simp [E]))⟩, Z⟩)))
 exact Xe Z Z Z E (Xc (v := vb c) bb Z (Xe Z Z Z E (Yg (b' := !c) Z Z Z (Xj (v := vb (!c)) Z E Z Z (Xb ⟨⟨av, aj, (cB (by simp [E]))⟩, Z⟩)))))
 rintro bp bw ⟨⟨aw, az, bd⟩, rfl⟩
 simp only [List.drop_succ_cons, List.drop_zero]
 refine Xd (o' := 4) K8 az Z Z (Yb (v := vb (r.wk || (!c))) (cs' := #[vi r.th, vi r.ve, vb (r.rd && a), vb ((r.wr && b) && c), vb (r.wk || (!c))]) Q3 Z bd Z af.blk (Nat.le_of_ble_eq_true Z) Z ?_)
 intro bx ah
 refine Xb (Xa (Xp (vs := [vi r.th, vi r.ve, vb (r.rd && a), vb ((r.wr && b) && c), vb (r.wk || (!c))]) Yv az Z (ah.blk.rangeL 0 5 Z) Z (Xt (vs := [vi r.th, vi r.ve, vb (r.rd && a), vb ((r.wr && b) && c), vb (r.wk || (!c))]) (cs' := #[vi r.th, vi r.ve, vb (r.rd && a), vb ((r.wr && b) && c), vb (r.wk || (!c))]) Yv aw Z Z (by simp [Value.oneCell']) (((((G.blk.grown0 J.grw).gn ad.grw).gn ae.grw).gn af.grw).gn ah.grw) (Nat.le_of_ble_eq_true Z) Z ?_)))
 intro bz an
 refine Xb (Xq (⟨.agg #[vi r.th, vi r.ve, vb (r.rd && a), vb ((r.wr && b) && c), vb (r.wk || (!c))], Qo Z (X7 (vs := [vi r.th, vi r.ve, vb (r.rd && a), vb ((r.wr && b) && c), vb (r.wk || (!c))]) Yv aw Z (an.blk.rangeL 0 5 Z)), ?_, (low1 (low1 (low1 (low1 (low1 (low0 ap J.grw) ad.grw (by omega)) ae.grw (by omega)) af.grw (by omega)) ah.grw (by omega)) an.grw (by omega))⟩))
 rfl
theorem G5 (r : Rt) (a b c : Bool) (w : World) : CallsR Tryd.prog 10 #[.agg #[vi r.th, vi r.ve, vb r.rd, vb r.wr, vb r.wk], vb a, vb b, vb c] w (fun v w' => v = .agg #[vi (rightLess r a b c).th, vi (rightLess r a b c).ve, vb (rightLess r a b c).rd, vb (rightLess r a b c).wr, vb (rightLess r a b c).wk] ∧ w.grownBy w' none) := by
 refine X0 (n := 19) Tryd.func10 Z Tryd.ntmps10 Z ?_
 have av := World.grownBy.refl w none
 rcases X6 (decide (r.th = 0)) with J | J
 have bk := of_decide_eq_true J
 refine Xa (Yr (v := .agg #[vi r.th, vi r.ve, vb r.rd, vb r.wr, vb r.wk]) (cs := #[vi r.th, vi r.ve, vb r.rd, vb r.wr, vb r.wk]) Z Z Z ?_)
 intro bg bm O
 have bc := X9 O av
 have aj := low0 av O.grw
 refine Yd (cs := #[vi 0, vi 0, vb false, vb false, vb false]) Ks Z Z ?_
 intro bh bn E
 have bd := X9 E aj
 have ar := Xn E (O.blk).lt
 refine Xb (Xs (Xa ?_))
 have az := (O.blk.grown0 E.grw)
 refine Xp (vs := [vi r.th, vi r.ve, vb r.rd, vb r.wr, vb r.wk]) Yv Z Z (az.rangeL 0 5 Z) Z (Xm Rd (Xf Z Xl) Z (Uf r _) ?_)
 rintro _ bp ⟨rfl, ab⟩
 have ak := low0 (low0 aj E.grw) ab
 refine Yg (b' := !rightOk r) Z Z Z (Xb (Xu Z (fun ad => ?_) (fun ad => ?_)))
 have a9 := Q8 ad
 refine Xa (Yk (ps := []) (v := .agg #[vi 0, vi 0, vb false, vb false, vb false]) Xz (by kernel_rfl) Z (Xt (vs := [vi 0, vi 0, vb false, vb false, vb false]) (cs' := #[vi 0, vi 0, vb false, vb false, vb false]) Yv Z Z Z (by simp [Value.oneCell']) (E.blk.grown0 ab) (Nat.le_of_ble_eq_true Z) Z ?_))
 intro bq af
 refine Xb (Xq (Ye (⟨.agg #[vi 0, vi 0, vb false, vb false, vb false], Qo Z (X7 (vs := [vi 0, vi 0, vb false, vb false, vb false]) Yv Z Z (af.blk.rangeL 0 5 Z)), ?_, (low1 ak af.grw (by omega))⟩)))
 rw [Uu a9]; rfl
 have aw := Qp ad
 refine Xv (Xr (Xa (Xp (vs := [vi r.th, vi r.ve, vb r.rd, vb r.wr, vb r.wk]) Yv Z Z ((az.grown0 ab).rangeL 0 5 Z) Z (Xm S7 (Xf Z Xl) Z (Sa r J _) ?_))))
 rintro _ br ⟨rfl, an⟩
 refine Xc (v := vb a) Z Z (Xc (v := vb b) Z Z (Xc (v := vb c) Z Z (W0 (T := 90) (rv := .agg #[]) (v0 := .agg #[]) (vs := [vb a, vb b, vb c]) M0 Z (fun _ => by kernel_rfl) (Xf Z (Xf Z (Xf Z Xl))) Z (Sh a b c _) ?_)))
 rintro _ bt ⟨rfl, ao⟩
 refine Xt (vs := [vi 0, vi 0, vb false, vb false, vb false]) (cs' := #[vi 0, vi 0, vb false, vb false, vb false]) Yv Z Z Z (by simp [Value.oneCell']) (((E.blk.grown0 ab).grown0 an).grown0 ao) (Nat.le_of_ble_eq_true Z) Z ?_
 intro bu ag
 refine Xb (Xq (⟨.agg #[vi 0, vi 0, vb false, vb false, vb false], Qo Z (X7 (vs := [vi 0, vi 0, vb false, vb false, vb false]) Yv Z Z (ag.blk.rangeL 0 5 Z)), ?_, (low1 (low0 (low0 ak an) ao) ag.grw (by omega))⟩))
 rw [Uv aw, Rl J, So aw J]; rfl
 have bl := of_decide_eq_false J
 refine Xa (Yr (v := .agg #[vi r.th, vi r.ve, vb r.rd, vb r.wr, vb r.wk]) (cs := #[vi r.th, vi r.ve, vb r.rd, vb r.wr, vb r.wk]) Z Z Z ?_)
 intro bi bv V
 have be := X9 V av
 have al := low0 av V.grw
 refine Yd (cs := #[vi 0, vi 0, vb false, vb false, vb false]) Ks Z Z ?_
 intro bj bw G
 have bf := X9 G al
 have au := Xn G (V.blk).lt
 refine Xb (Xs (Xa ?_))
 have a8 := (V.blk.grown0 G.grw)
 refine Xp (vs := [vi r.th, vi r.ve, vb r.rd, vb r.wr, vb r.wk]) Yv Z Z (a8.rangeL 0 5 Z) Z (Xm Rd (Xf Z Xl) Z (Uf r _) ?_)
 rintro _ bx ⟨rfl, ac⟩
 have am := low0 (low0 al G.grw) ac
 refine Yg (b' := !rightOk r) Z Z Z (Xb (Xu Z (fun ae => ?_) (fun ae => ?_)))
 have ba := Q8 ae
 refine Xa (Yk (ps := []) (v := .agg #[vi 0, vi 0, vb false, vb false, vb false]) Xz (by kernel_rfl) Z (Xt (vs := [vi 0, vi 0, vb false, vb false, vb false]) (cs' := #[vi 0, vi 0, vb false, vb false, vb false]) Yv Z Z Z (by simp [Value.oneCell']) (G.blk.grown0 ac) (Nat.le_of_ble_eq_true Z) Z ?_))
 intro bz ah
 refine Xb (Xq (Ye (⟨.agg #[vi 0, vi 0, vb false, vb false, vb false], Qo Z (X7 (vs := [vi 0, vi 0, vb false, vb false, vb false]) Yv Z Z (ah.blk.rangeL 0 5 Z)), ?_, (low1 am ah.grw (by omega))⟩)))
 rw [Uu ba]; rfl
 have bb := Qp ae
 refine Xv (Xr (Xa (Xp (vs := [vi r.th, vi r.ve, vb r.rd, vb r.wr, vb r.wk]) Yv Z Z ((a8.grown0 ac).rangeL 0 5 Z) Z (Xm S7 (Xf Z Xl) Z (R9 r J _) ?_))))
 rintro _ ca ⟨rfl, ap⟩
 refine Xc (v := vb a) Z Z (Xc (v := vb b) Z Z (Xc (v := vb c) Z Z (W0 (T := 92) (rv := .agg #[vi r.th, vi r.ve, vb r.rd, vb r.wr, vb r.wk]) (v0 := .agg #[vi r.th, vi r.ve, vb r.rd, vb r.wr, vb r.wk]) (vs := [vb a, vb b, vb c]) M1 Z (fun _ => by kernel_rfl) (Xf Z (Xf Z (Xf Z Xl))) Z (Si r a b c _) ?_)))
 rintro _ cc ⟨rfl, aq⟩
 refine Xt (vs := [vi r.th, vi r.ve, vb (r.rd && a), vb ((r.wr && b) && c), vb (r.wk || (!c))]) (cs' := #[vi r.th, vi r.ve, vb (r.rd && a), vb ((r.wr && b) && c), vb (r.wk || (!c))]) Yv Z Z Z (by simp [Value.oneCell']) (((G.blk.grown0 ac).grown0 ap).grown0 aq) (Nat.le_of_ble_eq_true Z) Z ?_
 intro cd ai
 refine Xb (Xq (⟨.agg #[vi r.th, vi r.ve, vb (r.rd && a), vb ((r.wr && b) && c), vb (r.wk || (!c))], Qo Z (X7 (vs := [vi r.th, vi r.ve, vb (r.rd && a), vb ((r.wr && b) && c), vb (r.wk || (!c))]) Yv Z Z (ai.blk.rangeL 0 5 Z)), ?_, (low1 (low0 (low0 am ap) aq) ai.grw (by omega))⟩))
 rw [Uv bb, Rk J]
theorem law_FnCheckLess (bs : List Int) (a : Option Addr) (c : Nat) (w : World) (kr : SlAt w a 1 (bs.map bcell)) (hb : ∀ b ∈ bs, 0 ≤ b ∧ b ≤ 255) (hn : bs.length ≤ 9223372036854775807) (hc : bs.length ≤ c) (m : Nat) (a2 : Option Addr) (c2 : Nat) (hm : m ≤ 9223372036854775807) (hE : ErrT w) : CallsR Tryd.prog 3 #[.slice a bs.length c, .slice a2 m c2] w (fun v w' => v = .bool true ∧ w.grownBy w' none) := by
 refine X0 (n := 124) Tryd.func3 Z Tryd.ntmps3 Z ?_
 have fm := World.grownBy.refl w none
 have hs := SlAt.lt V7 (by omega) kr
 refine Xa (Xg (v := vb false) Z Z (Xb (Xs (X2 (fun f' w' => (f' 0 = .slice a bs.length c ∧ f' 1 = .slice a2 m c2 ∧ f' 4 = vb false ∧ f' 17 = vb ((decide (1048576 < (bs.length : Int))) || (decide (1048576 < (m : Int))))) ∧ w = w') ?_ ?_))))
 refine Xc (v := .slice a bs.length c) Z Z (Yj (by kernel_rfl) Z Z (Qe (q := decide (1048576 < (bs.length : Int))) Z Z Z Z (Xc (v := vb (decide (1048576 < (bs.length : Int)))) Z Z ?_)))
 rcases X6 (decide (1048576 < (bs.length : Int))) with aq | aq
 have mc := of_decide_eq_true aq
 iterate 3 refine Xi rfl rfl rfl aq rfl ?_
 exact Xo (v := vb true) Z aq Z Z (Xb ⟨⟨Z, Z, Z, (congrArg Value.bool (by first | (simp only [aq, b0, b1, b2, b3, b4, b5, b6, b7, b8, b9]; done) | simp [aq]))⟩, Z⟩)
 have me := of_decide_eq_false aq
 exact Xe Z Z Z aq (Xc (v := .slice a2 m c2) Z Z (Xe Z Z Z aq (Yj (by kernel_rfl) Z Z (Xe Z Z Z aq (Qe (q := decide (1048576 < (m : Int))) Z Z Z Z (Xj (v := vb (decide (1048576 < (m : Int)))) Z aq Z Z (Xb ⟨⟨Z, Z, Z, (congrArg Value.bool (by first | (simp only [aq, b0, b1, b2, b3, b4, b5, b6, b7, b8, b9]; done) | simp [aq]))⟩, Z⟩)))))))
 rintro l9 mv ⟨⟨g0, da, db, g5⟩, rfl⟩
 refine Xu g5 (fun am => ?_) (fun am => ?_)
 refine Xa (Xg (v := vb true) Z Z (Xb (Xq (Ye (⟨vb true, Yy Z Z, ?_, fm⟩)))))
 rfl
 have ar := Jm am
 have mf := of_decide_eq_false ar
 have au := Jn am
 have mg := of_decide_eq_false au
 refine Xv (Xr (Xa (Xc (v := .slice a bs.length c) g0 Z (Xm Tu (Xf Z Xl) Z (Vg bs a c _ (SlAt.low kr fm) hb (by omega) (by omega)) ?_))))
 rintro _ mw ⟨ak, ab, G, E, rfl, aw, d7, k9, l3, fo⟩
 have dm := low0 fm fo
 have ad := d7.len
 refine Xc (v := .tuple #[.slice (pa ak) G.length ab, .agg #[vi E.kind, vi E.run, vi E.a, vi E.b, vi E.n]]) Z Z (Yx (v := .slice (pa ak) G.length ab) Z Z Z (Yx (v := .agg #[vi E.kind, vi E.run, vi E.a, vi E.b, vi E.n]) Z Z Z (Yd (cs := #[vi 0, vi 0, vi 0, vi 0, vi 0]) Lr Z Z ?_)))
 intro ba my ac
 have lj := X9 ac dm
 refine Xg (v := .slice (pa ak) G.length ab) Z Z (Xt (vs := [vi E.kind, vi E.run, vi E.a, vi E.b, vi E.n]) (cs' := #[vi E.kind, vi E.run, vi E.a, vi E.b, vi E.n]) Yp Z Z Z (by simp [Value.oneCell']) ac.blk (Nat.le_of_ble_eq_true Z) Z ?_)
 intro mz aj
 have dn := low1 (low0 dm ac.grw) aj.grw (by omega)
 refine Xb (Xa (Xc (v := .slice (pa ak) G.length ab) Z Z (Xp (vs := [vi E.kind, vi E.run, vi E.a, vi E.b, vi E.n]) Yp Z Z (aj.blk.rangeL 0 5 Z) Z (Xm L6 (Xf Z (Xf Z Xl)) Z (J2 E _ G _ _ (TabG.at (TabG.low aw (low1 ac.grw aj.grw (nt ((World.grownBy.refl _ none)).size (Nat.le_of_eq ac.eq.symm))))) ad (by omega) (ErrT.grown0 hE dn)) ?_))))
 rintro _ kv ⟨rfl, ap⟩
 have la := Ja (ts := tabT G) (q := E)
 refine Xg (v := vi (chkAll (tabT G) E)) Z Z (Xb (Xs (X2 (fun f' w' => (f' 1 = .slice a2 m c2 ∧ f' 4 = vb false ∧ f' 5 = .slice (pa ak) G.length ab ∧ f' 6 = pt ba 0 ∧ f' 7 = vi (chkAll (tabT G) E) ∧ f' 57 = vb ((((false || (!tableOk (tabT G))) || (!callOk E)) || (decide ((G.length : Int) < E.run))) || (!(decide ((mAt G (E.run - 1).toNat).t.kind = 3))))) ∧ kv.grownBy w' none) ?_ ?_)))
 refine Xc (v := vi (chkAll (tabT G) E)) Z Z (Xc (v := .slice (pa ak) G.length ab) Z Z ?_)
 have ex := (aj.blk.grown0 ap)
 refine Xp (vs := [vi E.kind, vi E.run, vi E.a, vi E.b, vi E.n]) Yp Z Z (ex.rangeL 0 5 Z) Z (Xm Rh (Xf Z (Xf Z Xl)) Z (Kk E _ G _ _ (TabG.at (TabG.low aw (low0 (low1 ac.grw aj.grw (nt ((World.grownBy.refl _ none)).size (Nat.le_of_eq ac.eq.symm))) ap))) ad (by omega)) ?_)
 rintro _ m3 ⟨rfl, bb⟩
 have lc := Ja (ts := tabT G) (q := E)
 refine Q4 (q := false) Z Z (by simp) Z (Xc (v := vb false) Z Z (Xe Z Z Z Z (Xc (v := .slice (pa ak) G.length ab) Z Z (Xe Z Z Z Z (Xm Sg (Xf Z Xl) Z (Vc  _ G _ _ (TabG.at (TabG.low aw (low0 (low0 (low1 ac.grw aj.grw (nt ((World.grownBy.refl _ none)).size (Nat.le_of_eq ac.eq.symm))) ap) bb))) ad (by omega)) ?_)))))
 rintro _ m4 ⟨rfl, bd⟩
 refine Xe Z Z Z Z (Yg (b' := !tableOk (tabT G)) Z Z Z (Xj (v := vb (!tableOk (tabT G))) Z Z Z Z (Xc (v := vb (!tableOk (tabT G))) Z Z ?_)))
 rcases X6 (!tableOk (tabT G)) with ah | ah
 have ep := Q8 ah
 iterate 3 refine Xi rfl rfl rfl ah rfl ?_
 refine Xo (v := vb true) Z ah Z Z (Xc (v := vb true) Z Z ?_)
 iterate 5 refine Xi rfl rfl rfl rfl rfl ?_
 refine Xo (v := vb true) Z Z Z Z (Xc (v := vb true) Z Z ?_)
 iterate 8 refine Xi rfl rfl rfl rfl rfl ?_
 exact Xo (v := vb true) Z Z Z Z (Xb ⟨⟨da, db, Z, Z, Z, (congrArg Value.bool (by first | (simp only [am, ar, au, ah, ep, b0, b1, b2, b3, b4, b5, b6, b7, b8, b9]; done) | simp [am, ar, au, ah, ep]))⟩, (grown_trans bb bd)⟩)
 have bq := Qp ah
 refine Xe Z Z Z ah ?_
 have ez := ((ex.grown0 bb).grown0 bd)
 refine Xp (vs := [vi E.kind, vi E.run, vi E.a, vi E.b, vi E.n]) Yp Z Z (ez.rangeL 0 5 Z) Z (Xe Z Z Z ah (Xm Tv (Xf Z Xl) Z (Uh E _) ?_))
 rintro _ m5 ⟨rfl, bj⟩
 refine Xe Z Z Z ah (Yg (b' := !callOk E) Z Z Z (Xj (v := vb (!callOk E)) Z ah Z Z (Xc (v := vb (!callOk E)) Z Z ?_)))
 rcases X6 (!callOk E) with ai | ai
 have eu := Q8 ai
 iterate 5 refine Xi rfl rfl rfl ai rfl ?_
 refine Xo (v := vb true) Z ai Z Z (Xc (v := vb true) Z Z ?_)
 iterate 8 refine Xi rfl rfl rfl rfl rfl ?_
 exact Xo (v := vb true) Z Z Z Z (Xb ⟨⟨da, db, Z, Z, Z, (congrArg Value.bool (by first | (simp only [am, ar, au, ah, bq, ai, eu, b0, b1, b2, b3, b4, b5, b6, b7, b8, b9]; done) | simp [am, ar, au, ah, bq, ai, eu]))⟩, (grown_trans (grown_trans bb bd) bj)⟩)
 have cm := Qp ai
 have lf := Q2 cm
 refine Xe Z Z Z ai (Xd (o' := 1) Qn Z Z Z (Xe Z Z Z ai ?_))
 have e0 := (ez.grown0 bj)
 refine Xh (v := vi E.run) X3 Z (e0.cell Z) Z (Xe Z Z Z ai (Xc (v := .slice (pa ak) G.length ab) Z Z (Xe Z Z Z ai (Yj (by kernel_rfl) Z Z (Xe Z Z Z ai (Qe (q := decide ((G.length : Int) < E.run)) Z Z Z Z (Xj (v := vb (decide ((G.length : Int) < E.run))) Z ai Z Z (Xc (v := vb (decide ((G.length : Int) < E.run))) Z Z ?_))))))))
 rcases X6 (decide ((G.length : Int) < E.run)) with af | af
 have mh := of_decide_eq_true af
 iterate 8 refine Xi rfl rfl rfl af rfl ?_
 exact Xo (v := vb true) Z af Z Z (Xb ⟨⟨da, db, Z, Z, Z, (congrArg Value.bool (by first | (simp only [am, ar, au, ah, bq, ai, cm, af, b0, b1, b2, b3, b4, b5, b6, b7, b8, b9]; done) | simp [am, ar, au, ah, bq, ai, cm, af]))⟩, (grown_trans (grown_trans bb bd) bj)⟩)
 have ml := of_decide_eq_false af
 refine Xe Z Z Z af (Xc (v := .slice (pa ak) G.length ab) Z Z (Xe Z Z Z af (Xd (o' := 1) Qn Z Z Z (Xe Z Z Z af (Xh (v := vi E.run) X3 Z (e0.cell Z) Z (Xe Z Z Z af (Y0 (c := E.run - 1) Z Z (by omega) (by omega) (by omega) Z (Xe Z Z Z af ?_))))))))
 obtain ⟨l6, mq, kt, fh, gl, gr⟩ := SlAt.at (TabG.at (TabG.low aw (low0 (low0 (low0 (low0 (low1 ac.grw aj.grw (nt ((World.grownBy.refl _ none)).size (Nat.le_of_eq ac.eq.symm))) ap) bb) bd) bj))).1 (Yi (xg G (E.run - 1).toNat))
 have ln := TabLen.at ad (xg G (E.run - 1).toNat)
 exact X8 Y7 Z Z fh gl (by omega) (by omega) Z (Xe Z Z Z af (Xd (o' := kt) Yl Z Z Z (Xe Z Z Z af (Xh (v := vi (mAt G (E.run - 1).toNat).t.kind) X3 Z (gr 0 _ Z) Z (Xe Z Z Z af (Q4 (q := !(decide ((mAt G (E.run - 1).toNat).t.kind = 3))) Z Z Z Z (Xj (v := vb (!(decide ((mAt G (E.run - 1).toNat).t.kind = 3)))) Z af Z Z (Xb ⟨⟨da, db, Z, Z, Z, (congrArg Value.bool (by first | (simp only [am, ar, au, ah, bq, ai, cm, af, b0, b1, b2, b3, b4, b5, b6, b7, b8, b9]; done) | simp [am, ar, au, ah, bq, ai, cm, af]))⟩, (grown_trans (grown_trans bb bd) bj)⟩))))))))
 rintro ma kw ⟨⟨g6, g7, dg, eg, eh, g8⟩, be⟩
 have cf := low0 (low0 dn ap) be
 refine Xu g8 (fun bh => ?_) (fun bh => ?_)
 refine Xa (Xc (v := vi (chkAll (tabT G) E)) eh Z (Xc (v := .slice (pa ak) G.length ab) dg Z (Xp (vs := [vi E.kind, vi E.run, vi E.a, vi E.b, vi E.n]) Yp eg Z (((aj.blk.grown0 ap).grown0 be).rangeL 0 5 Z) Z (Xm Rh (Xf Z (Xf Z Xl)) Z (Kk E _ G _ _ (TabG.at (TabG.low aw (low0 (low0 (low1 ac.grw aj.grw (nt ((World.grownBy.refl _ none)).size (Nat.le_of_eq ac.eq.symm))) ap) be))) ad (by omega)) ?_))))
 rintro _ m6 ⟨rfl, fp⟩
 have ld := Ja (ts := tabT G) (q := E)
 refine Xw (q := true) Z Z (by simp) Z (Xg (v := vb true) Z Z (Xb (Xq (Ye (⟨vb true, Yy Z Z, ?_, (low0 cf fp)⟩)))))
 rfl
 have br := Jm bh
 have bt := Jm br
 have bu := Jm bt
 have dc := Jm bu
 have cn := Jn bu
 have ko := Qp cn
 have co := Jn bt
 have ew := Qp co
 have lg := Q2 ew
 have ct := Jn br
 have mm := of_decide_eq_false ct
 have cv := Jn bh
 have bv := Qp cv
 obtain ⟨hi, hhi⟩ : ∃ n, n = kw.heap.size := ⟨_, rfl⟩
 have hTH := TabG.hi (TabG.low aw (low0 (low0 (low1 ac.grw aj.grw (nt ((World.grownBy.refl _ none)).size (Nat.le_of_eq ac.eq.symm))) ap) be))
 rw [← hhi] at hTH
 have gw : w.heap.size ≤ hi := by rw [hhi]; exact (cf).size
 have d8 : kindAt (tabT G) E.run 3 = true := Gc (by omega) (of_decide_eq_true bv)
 have bg := Ul (q := E) ko ew d8
 obtain ⟨bc, bi, a9⟩ := Qq bg
 have lh := Q2 bi
 have li := (Js a9).1
 have l0 := Vy bc a9
 have lw := Hi bc
 have mn := of_decide_eq_true bv
 refine Xv (Xr (Xa (Xc (v := .slice a2 m c2) g6 Z (Yj (by kernel_rfl) Z Z (Xg (v := vi (m : Int)) Z Z (Xb (Xa (Xy (ps := []) (e := 36) (cs := (([] : List MTh).flatMap MTh.cells).toArray) Xz (fun _ => by kernel_rfl) Z ?_))))))))
 intro eb kx an
 have lk := X9 an cf
 have dv : hi ≤ eb := nt (Nat.le_of_eq hhi) (Nat.le_of_eq an.eq.symm)
 have fa := ((aj.blk.grown0 ap).grown0 be)
 have d4 := Xn an (fa).lt
 have dp := low0 cf an.grw
 refine Xc (v := .slice (pa ak) G.length ab) dg Z ?_
 have cw := (fa.grown0 an.grw)
 have ca := (TabG.low (TabG.low aw (low0 (low0 (low1 ac.grw aj.grw (nt ((World.grownBy.refl _ none)).size (Nat.le_of_eq ac.eq.symm))) ap) be)) an.grw)
 refine Vr (g := MTh.cells) (ys := []) (zs := G) (lo := hi) Rs Z Qf (by omega) Wq Z Z (OwnN.of (Own.rows Qf an.blk (by simp)) dv) (TabG.at ca).1 (fun h => absurd h (Li (TabG.at ca) (by omega))) (by simp only [List.length_nil]; omega) (by omega) (nt (Nat.le_of_eq hhi) an.grw.size) Z ?_
 intro l5 al bx fd fq df
 have az : World.grownBy kx bx (some eb) := fq
 obtain ⟨ao, rfl, kq, dl⟩ := OwnN.some_ fd (lq 0 G.length)
 have lm : w.heap.size ≤ ao := by have h2 := Ha df; have h3 := (dp).size; omega
 have d5 : ba ≠ ao := by have h := (cw).lt; have h2 := Ha df; omega
 have dq := low1 dp az (by omega)
 refine Xg (v := .slice (pa ao) G.length al) Z Z (Xb (Xs ?_))
 have cc := (TabG.ge ca az hTH (by omega))
 obtain ⟨ee, mr, d2, fi, gm, gt⟩ := SlAt.at (TabG.at cc).1 (Yi (xg G (E.run - 1).toNat))
 have lp := TabLen.at ad (xg G (E.run - 1).toNat)
 have l4 : hi ≤ bx.heap.size := (nt (nt (Nat.le_of_eq hhi) an.grw.size) az.size)
 refine J3 (m := 13) [[], [], [1], [1, 2], [], [], [], [6], [6, 7], [5, 6, 7, 8], [5, 6, 7, 8, 9], [5, 6, 7, 8, 9, 10], [4, 5, 6, 7, 8, 9, 10, 11], [0, 1, 2, 3, 4, 5, 6, 7, 8, 9, 10, 11, 12], [0, 1, 2, 3, 4, 5, 6, 7, 8, 9, 10, 11, 12, 13], [0, 1, 2, 3, 4, 5, 6, 7, 8, 9, 10, 11, 12, 13, 14]] (fun S F w' => ∃ (V : Nat) (O : Option Addr) (J : Nat), bx.grownBy w' none ∧ F 4 = vb false ∧ F 5 = .slice (pa ak) G.length ab ∧ F 6 = pt ba 0 ∧ F 7 = vi (chkAll (tabT G) E) ∧ F 8 = vi (m : Int) ∧ F 9 = .slice (pa ao) G.length al ∧ (S 4 = true → F 72 = .slice (pa V) 0 0 ∧ w.heap.size ≤ V ∧ (S 12 = false → Blk w' V 38 (([] : List Rt).flatMap Rt.cells).toArray) ∧ ba < V ∧ ao < V ∧ bx.heap.size ≤ V ∧ V < w'.heap.size) ∧ (S 12 = true → F 80 = .slice O (mAt G (E.run - 1).toNat).t.slots.length J ∧ OwnN hi w' O 38 5 J (mAt G (E.run - 1).toNat).t.slots.length ((mAt G (E.run - 1).toNat).t.slots.flatMap Rt.cells)) ∧ Vals S F [(0, 68, .slice (pa ao) G.length al), (1, 69, pt ba 1), (2, 70, vi E.run), (3, 71, vi (E.run - 1)), (5, 73, .slice (pa ak) G.length ab), (6, 74, pt ba 1), (7, 75, vi E.run), (8, 76, vi (E.run - 1)), (9, 77, pt ee d2), (10, 78, pt ee (d2 + 5)), (11, 79, .slice (mAt G (E.run - 1).toNat).sa (mAt G (E.run - 1).toNat).t.slots.length (mAt G (E.run - 1).toNat).sc)]) Qb (by kernel_rfl) ⟨0, none, 0, Yf _, g7, dg, eg, eh, Z, Z, Y4, Y4, Vn _⟩ ?_ ?_
 refine X5 (fun S F m7 hS hbef hcl hI => ?_) ?_
 obtain ⟨V, O, J, fv, g9, ia, ib, ic, ie, ei, ag, ae, hvs⟩ := hI
 exact Xc (v := .slice (pa ao) G.length al) ei Z (Xb ⟨V, O, J, fv, g9, ia, ib, ic, ie, ei, ag, ae, Vals.up 0 hvs Z Z Z⟩)
 refine X5 (fun S F m8 hS hbef hcl hI => ?_) ?_
 obtain ⟨V, O, J, fw, ig, ii, ej, ij, ik, il, ag, ae, hvs⟩ := hI
 exact Xd (o' := 1) Qn ej Z Z (Xb ⟨V, O, J, fw, ig, ii, ej, ij, ik, il, ag, ae, Vals.up 1 hvs Z Z Z⟩)
 refine X5 (fun S F m9 hS hbef hcl hI => ?_) ?_
 obtain ⟨V, O, J, dx, im, io, ip, iq, ir, it, ag, ae, hvs⟩ := hI
 exact Xh (v := vi E.run) X3 (Vals.at 1 hvs Z (X4 1 hbef Z)) (((cw.gn az).grown0 dx).cell Z) Z (Xb ⟨V, O, J, dx, im, io, ip, iq, ir, it, ag, ae, Vals.up 2 hvs Z Z Z⟩)
 refine X5 (fun S F na hS hbef hcl hI => ?_) ?_
 obtain ⟨V, O, J, fx, iu, iv, iw, ix, iy, iz, ag, ae, hvs⟩ := hI
 exact Y0 (c := E.run - 1) (Vals.at 2 hvs Z (X4 2 hbef Z)) Z (by omega) (by omega) (by omega) Z (Xb ⟨V, O, J, fx, iu, iv, iw, ix, iy, iz, ag, ae, Vals.up 3 hvs Z Z Z⟩)
 refine X5 (fun S F nb hS hbef hcl hI => ?_) ?_
 obtain ⟨V, O, J, bf, i0, i1, i2, i3, i4, i5, ag, ae, hvs⟩ := hI
 refine Xy (ps := []) (e := 38) (cs := (([] : List Rt).flatMap Rt.cells).toArray) Xz (fun _ => by kernel_rfl) Z ?_
 intro ed nc a8
 have ea := X9 a8 (low0 dq bf)
 have kp : hi ≤ ed := nt (nt (nt (nt (Nat.le_of_eq hhi) an.grw.size) az.size) bf.size) (Nat.le_of_eq a8.eq.symm)
 have bm := Xn a8 (((cw.gn az).grown0 bf)).lt
 have bp := Xn a8 (((show Dw.Own bx ao 36 8 al G.length (G.flatMap MTh.cells) from dl).grown0 bf)).lt
 exact Xb ⟨ed, O, J, (low0 bf a8.grw), i0, i1, i2, i3, i4, i5, fun _ => ⟨Z, ea, fun _ => a8.blk, bm, bp, (nt bf.size (Nat.le_of_eq a8.eq.symm)), (a8.blk).lt⟩, Y1 12 hS hcl Z, Vals.keep hvs Z⟩
 refine X5 (fun S F nd hS hbef hcl hI => ?_) ?_
 obtain ⟨V, O, J, fy, i6, ek, i7, i8, i9, ja, ag, ae, hvs⟩ := hI
 exact Xc (v := .slice (pa ak) G.length ab) ek Z (Xb ⟨V, O, J, fy, i6, ek, i7, i8, i9, ja, ag, Y1 12 hS hcl Z, Vals.up 4 hvs Z Z Z⟩)
 refine X5 (fun S F ne hS hbef hcl hI => ?_) ?_
 obtain ⟨V, O, J, fz, jb, jc, em, jd, je, jf, ag, ae, hvs⟩ := hI
 exact Xd (o' := 1) Qn em Z Z (Xb ⟨V, O, J, fz, jb, jc, em, jd, je, jf, ag, Y1 12 hS hcl Z, Vals.up 5 hvs Z Z Z⟩)
 refine X5 (fun S F nf hS hbef hcl hI => ?_) ?_
 obtain ⟨V, O, J, dy, jg, jh, ji, jj, jk, jl, ag, ae, hvs⟩ := hI
 exact Xh (v := vi E.run) X3 (Vals.at 5 hvs Z (X4 6 hbef Z)) (((cw.gn az).grown0 dy).cell Z) Z (Xb ⟨V, O, J, dy, jg, jh, ji, jj, jk, jl, ag, Y1 12 hS hcl Z, Vals.up 6 hvs Z Z Z⟩)
 refine X5 (fun S F ng hS hbef hcl hI => ?_) ?_
 obtain ⟨V, O, J, f8, jm, jo, jp, jq, jr, js, ag, ae, hvs⟩ := hI
 exact Y0 (c := E.run - 1) (Vals.at 6 hvs Z (X4 7 hbef Z)) Z (by omega) (by omega) (by omega) Z (Xb ⟨V, O, J, f8, jm, jo, jp, jq, jr, js, ag, Y1 12 hS hcl Z, Vals.up 7 hvs Z Z Z⟩)
 refine X5 (fun S F nh hS hbef hcl hI => ?_) ?_
 obtain ⟨V, O, J, f9, jt, ju, jv, jw, jx, jy, ag, ae, hvs⟩ := hI
 exact X8 Y7 (Vals.at 4 hvs Z (X4 5 hbef Z)) (Vals.at 7 hvs Z (X4 8 hbef Z)) fi gm (by omega) (by omega) Z (Xb ⟨V, O, J, f9, jt, ju, jv, jw, jx, jy, ag, Y1 12 hS hcl Z, Vals.up 8 hvs Z Z Z⟩)
 refine X5 (fun S F ni hS hbef hcl hI => ?_) ?_
 obtain ⟨V, O, J, ga, jz, j1, j2, j3, j4, j5, ag, ae, hvs⟩ := hI
 exact Xd (o' := d2 + 5) Qr (Vals.at 8 hvs Z (X4 9 hbef Z)) Z Z (Xb ⟨V, O, J, ga, jz, j1, j2, j3, j4, j5, ag, Y1 12 hS hcl Z, Vals.up 9 hvs Z Z Z⟩)
 refine X5 (fun S F nj hS hbef hcl hI => ?_) ?_
 obtain ⟨V, O, J, dz, j6, j7, j8, j9, ka, kb, ag, ae, hvs⟩ := hI
 exact Xh (v := .slice (mAt G (E.run - 1).toNat).sa (mAt G (E.run - 1).toNat).t.slots.length (mAt G (E.run - 1).toNat).sc) Jo (Vals.at 9 hvs Z (X4 10 hbef Z)) ((Yo gt dz) 5 _ Z) Z (Xb ⟨V, O, J, dz, j6, j7, j8, j9, ka, kb, ag, Y1 12 hS hcl Z, Vals.up 10 hvs Z Z Z⟩)
 refine X5 (fun S F ky hS hbef hcl hI => ?_) ?_
 obtain ⟨V, O, J, c9, kc, ke, kf, kg, kh, ki, ag, ae, hvs⟩ := hI
 obtain ⟨kj, d9, cy, bl, bn, d0, d1⟩ := ag (X4 4 hbef rfl)
 have de := (TabG.low cc c9)
 refine Vr (g := Rt.cells) (ys := ([])) (zs := (mAt G (E.run - 1).toNat).t.slots) (lo := hi) Ru Z Qs (by omega) G8 kj (Vals.at 10 hvs Z (X4 11 hbef Z)) (OwnN.of (Own.rows Qs (cy hS) (by simp)) (by omega)) (TabAt.th (TabG.at de) (xg G (E.run - 1).toNat)).1 (TabAt.th (TabG.at de) (xg G (E.run - 1).toNat)).2.2.1 (by first | omega | exact Nat.le_of_ble_eq_true rfl | (simp only [List.length_nil, List.length_cons, List.length_append, List.length_replicate]; omega) | (simp only [List.length_drop, List.length_nil]; omega)) (by omega) (nt (nt (nt (Nat.le_of_eq hhi) an.grw.size) az.size) c9.size) Z ?_
 intro gy d6 kz ff fr lz
 have dt : World.grownBy ky kz (some V) := fr
 exact Xb ⟨V, gy, d6, (low1 c9 dt (by omega)), kc, ke, kf, kg, kh, ki, fun h => let ⟨k3, k4, nu, k5, k6, k7, k8⟩ := ag h; ⟨k3, k4, fun h => Q7 h, k5, k6, k7, (nl k8 dt.size)⟩, fun _ => ⟨Z, ff⟩, Vals.keep hvs Z⟩
 exact Ke
 intro S F nk hall hI
 obtain ⟨V, O, J, ck, l7, kk, cl, kl, dh, eo, ag, ae, hvs⟩ := hI
 obtain ⟨l8, d9, cy, bl, bn, d0, d1⟩ := ag (hall 4 (by decide))
 obtain ⟨km, fe⟩ := ae (hall 12 (by decide))
 refine X1 (o' := (E.run - 1).toNat * 8) Y7 (Vals.at 0 hvs Z (hall 0 (by decide))) (Vals.at 3 hvs Z (hall 3 (by decide))) (by omega) (by omega) (by omega) Z (Xd (o' := (E.run - 1).toNat * 8 + 5) Qr Z Z Z ?_)
 have fb := ((show Dw.Own bx ao 36 8 al G.length (G.flatMap MTh.cells) from dl).grown0 ck)
 have lu := TabLen.at ad (Qw (show (E.run - 1).toNat < G.length by first | omega | (simp only [List.length_set]; omega)))
 refine J4 (g := MTh.cells) (j := 5) (z := (mAt G (E.run - 1).toNat)) (z' := (⟨⟨(mAt G (E.run - 1).toNat).t.kind, (mAt G (E.run - 1).toNat).t.lab, (mAt G (E.run - 1).toNat).t.ve, (mAt G (E.run - 1).toNat).t.num, (mAt G (E.run - 1).toNat).t.slots, (mAt G (E.run - 1).toNat).t.queue, (mAt G (E.run - 1).toNat).t.to⟩, O, J, (mAt G (E.run - 1).toNat).qa, (mAt G (E.run - 1).toNat).qc⟩ : MTh)) (v := .slice O (mAt G (E.run - 1).toNat).t.slots.length J) Jo Z km Z Qf fb (xg G (E.run - 1).toNat) (by omega) Z Z ?_
 intro k0 cz cg
 refine Xb (Xr (Xs ?_))
 have cd := (TabG.ge (TabG.low cc ck) cg hTH (by omega))
 obtain ⟨ef, mt, d3, fj, gp, gu⟩ := SlAt.at (TabG.at cd).1 (Yi (xg G (E.run - 1).toNat))
 have lv := TabLen.at ad (xg G (E.run - 1).toNat)
 obtain ⟨gz, mu, ku, fk, gq, gv⟩ := SlAt.at (TabAt.th (TabG.at cd) (xg G (E.run - 1).toNat)).1 (Yi (xr (mAt G (E.run - 1).toNat).t.slots (E.a).toNat))
 obtain ⟨gx, c8, dw, bz⟩ := OwnN.some_ (OwnN.typ fe cg fb (by decide)) (lq 0 (mAt G (E.run - 1).toNat).t.slots.length)
 have bw := (((cw.gn az).grown0 ck).gn cg)
 have lx := Nf bz bw (by decide)
 have ly := G9 cz bz (by decide)
 have ll : w.heap.size ≤ gx := nt gw dw
 refine Y8 (m := 32) (vals := [(83, .slice (pa ao) G.length al), (84, pt ba 1), (85, vi E.run), (86, vi (E.run - 1)), (87, pt ao ((E.run - 1).toNat * 8)), (88, pt ao ((E.run - 1).toNat * 8 + 5)), (89, .slice O (mAt G (E.run - 1).toNat).t.slots.length J), (90, pt ba 2), (91, vi E.a), (92, .slice (pa ak) G.length ab), (93, pt ba 1), (94, vi E.run), (95, vi (E.run - 1)), (96, pt ef d3), (97, pt ef (d3 + 5)), (98, .slice (mAt G (E.run - 1).toNat).sa (mAt G (E.run - 1).toNat).t.slots.length (mAt G (E.run - 1).toNat).sc), (99, pt ba 2), (100, vi E.a), (101, pt gz ku), (102, .agg #[vi (rAt (mAt G (E.run - 1).toNat).t.slots (E.a).toNat).th, vi (rAt (mAt G (E.run - 1).toNat).t.slots (E.a).toNat).ve, vb (rAt (mAt G (E.run - 1).toNat).t.slots (E.a).toNat).rd, vb (rAt (mAt G (E.run - 1).toNat).t.slots (E.a).toNat).wr, vb (rAt (mAt G (E.run - 1).toNat).t.slots (E.a).toNat).wk]), (103, vi (m : Int)), (104, vi ((m : Int) % 2)), (105, vb (decide ((m : Int) % 2 = 1))), (106, vi (m : Int)), (107, vi ((m : Int) / 2)), (108, vi (((m : Int) / 2) % 2)), (109, vb (decide (((m : Int) / 2) % 2 = 1))), (110, vi (m : Int)), (111, vi ((m : Int) / 4)), (112, vi (((m : Int) / 4) % 2)), (113, vb (decide (((m : Int) / 4) % 2 = 1))), (114, .agg #[vi (rightLess (rAt (mAt G (E.run - 1).toNat).t.slots (E.a).toNat) (decide ((m : Int) % 2 = 1)) (decide (((m : Int) / 2) % 2 = 1)) (decide (((m : Int) / 4) % 2 = 1))).th, vi (rightLess (rAt (mAt G (E.run - 1).toNat).t.slots (E.a).toNat) (decide ((m : Int) % 2 = 1)) (decide (((m : Int) / 2) % 2 = 1)) (decide (((m : Int) / 4) % 2 = 1))).ve, vb (rightLess (rAt (mAt G (E.run - 1).toNat).t.slots (E.a).toNat) (decide ((m : Int) % 2 = 1)) (decide (((m : Int) / 2) % 2 = 1)) (decide (((m : Int) / 4) % 2 = 1))).rd, vb (rightLess (rAt (mAt G (E.run - 1).toNat).t.slots (E.a).toNat) (decide ((m : Int) % 2 = 1)) (decide (((m : Int) / 2) % 2 = 1)) (decide (((m : Int) / 4) % 2 = 1))).wr, vb (rightLess (rAt (mAt G (E.run - 1).toNat).t.slots (E.a).toNat) (decide ((m : Int) % 2 = 1)) (decide (((m : Int) / 2) % 2 = 1)) (decide (((m : Int) / 4) % 2 = 1))).wk])]) (fun w' => k0.grownBy w' none) Qb (by kernel_rfl) (Yf _) ?_ ?_
 refine yl Z (fun _ _ k => Xc (v := .slice (pa ao) G.length al) eo Z k) (yl Z (fun _ _ k => Xd (o' := 1) Qn cl Z Z k) (yl Z (fun _ gb k => Xh (v := vi E.run) X3 Z ((bw.grown0 gb).cell Z) Z k) (yl Z (fun _ _ k => Y0 (c := E.run - 1) Z Z (by omega) (by omega) (by omega) Z k) (yl Z (fun _ _ k => X1 (o' := (E.run - 1).toNat * 8) Y7 Z Z (by omega) (by omega) (by omega) Z k) (yl Z (fun _ _ k => Xd (o' := (E.run - 1).toNat * 8 + 5) Qr Z Z Z k) (yl Z (fun _ gc k => Xh (v := .slice O (mAt G (E.run - 1).toNat).t.slots.length J) Jo Z ((Own.range Qf (cz.grown0 gc) (G4 (xg G (E.run - 1).toNat))) 5 _ Z) Z k) (yl Z (fun _ _ k => Xd (o' := 2) Jq cl Z Z k) (yl Z (fun _ gf k => Xh (v := vi E.a) X3 Z ((bw.grown0 gf).cell Z) Z k) (yl Z (fun _ _ k => Xc (v := .slice (pa ak) G.length ab) kk Z k) (yl Z (fun _ _ k => Xd (o' := 1) Qn cl Z Z k) ?_))))))))))
 refine yl Z (fun _ gg k => Xh (v := vi E.run) X3 Z ((bw.grown0 gg).cell Z) Z k) (yl Z (fun _ _ k => Y0 (c := E.run - 1) Z Z (by omega) (by omega) (by omega) Z k) (yl Z (fun _ _ k => X8 Y7 Z Z fj gp (by omega) (by omega) Z k) (yl Z (fun _ _ k => Xd (o' := d3 + 5) Qr Z Z Z k) (yl Z (fun _ gh k => Xh (v := .slice (mAt G (E.run - 1).toNat).sa (mAt G (E.run - 1).toNat).t.slots.length (mAt G (E.run - 1).toNat).sc) Jo Z ((Yo gu gh) 5 _ Z) Z k) (yl Z (fun _ _ k => Xd (o' := 2) Jq cl Z Z k) (yl Z (fun _ gi k => Xh (v := vi E.a) X3 Z ((bw.grown0 gi).cell Z) Z k) (yl Z (fun _ _ k => X8 V1 Z Z fk gq (by omega) (by omega) Z k) (yl Z (fun _ gj k => Xp (vs := [vi (rAt (mAt G (E.run - 1).toNat).t.slots (E.a).toNat).th, vi (rAt (mAt G (E.run - 1).toNat).t.slots (E.a).toNat).ve, vb (rAt (mAt G (E.run - 1).toNat).t.slots (E.a).toNat).rd, vb (rAt (mAt G (E.run - 1).toNat).t.slots (E.a).toNat).wr, vb (rAt (mAt G (E.run - 1).toNat).t.slots (E.a).toNat).wk]) Yv Z Z (Qi (Yo gv gj) 0 5 Z) Z k) (yl Z (fun _ _ k => Xc (v := vi (m : Int)) dh Z k) (yl Z (fun _ _ k => J0 (c := (m : Int) % 2) Z Z (by omega) (by omega) (by omega) Z Z k) ?_))))))))))
 refine yl Z (fun _ _ k => Xw (q := decide ((m : Int) % 2 = 1)) Z Z Z Z k) (yl Z (fun _ _ k => Xc (v := vi (m : Int)) dh Z k) (yl Z (fun _ _ k => Jz (c := (m : Int) / 2) Z Z (by omega) (by omega) (by omega) Z Z k) (yl Z (fun _ _ k => J0 (c := ((m : Int) / 2) % 2) Z Z (by omega) (by omega) (by omega) Z Z k) (yl Z (fun _ _ k => Xw (q := decide (((m : Int) / 2) % 2 = 1)) Z Z Z Z k) (yl Z (fun _ _ k => Xc (v := vi (m : Int)) dh Z k) (yl Z (fun _ _ k => Jz (c := (m : Int) / 4) Z Z (by omega) (by omega) (by omega) Z Z k) (yl Z (fun _ _ k => J0 (c := ((m : Int) / 4) % 2) Z Z (by omega) (by omega) (by omega) Z Z k) (yl Z (fun _ _ k => Xw (q := decide (((m : Int) / 4) % 2 = 1)) Z Z Z Z k) ?_))))))))
 refine Yq Z (fun nn gk => ?_) ?_
 refine Xm T9 (Xf Z (Xf Z (Xf Z (Xf Z Xl)))) Z (G5 (rAt (mAt G (E.run - 1).toNat).t.slots (E.a).toNat) (decide ((m : Int) % 2 = 1)) (decide (((m : Int) / 2) % 2 = 1)) (decide (((m : Int) / 4) % 2 = 1)) _) ?_
 rintro _ no ⟨rfl, ft⟩
 exact Xb ⟨Z, (grown_trans gk ft)⟩
 exact Qd
 intro np bk
 refine X8 V1 Z Z c8 (Nat.zero_add _) (by omega) (by omega) Z (Lq (g := Rt.cells) (z' := (rightLess (rAt (mAt G (E.run - 1).toNat).t.slots (E.a).toNat) (decide ((m : Int) % 2 = 1)) (decide (((m : Int) / 2) % 2 = 1)) (decide (((m : Int) / 4) % 2 = 1)))) Yv Z Z (G8 _) Qs (bz.grown0 bk) (by omega) Z ?_)
 intro fc fg cj
 have dr := low1 (low0 (low1 (low0 dq ck) cg (by omega)) bk) cj (by omega)
 refine Xb (Xr (X2 (fun f' w' => (f' 4 = vb ((!(decide (chkAll (tabT (G.set (E.run - 1).toNat (⟨⟨(mAt G (E.run - 1).toNat).t.kind, (mAt G (E.run - 1).toNat).t.lab, (mAt G (E.run - 1).toNat).t.ve, (mAt G (E.run - 1).toNat).t.num, (mAt G (E.run - 1).toNat).t.slots.set (E.a).toNat (rightLess (rAt (mAt G (E.run - 1).toNat).t.slots (E.a).toNat) (decide ((m : Int) % 2 = 1)) (decide (((m : Int) / 2) % 2 = 1)) (decide (((m : Int) / 4) % 2 = 1))), (mAt G (E.run - 1).toNat).t.queue, (mAt G (E.run - 1).toNat).t.to⟩, O, J, (mAt G (E.run - 1).toNat).qa, (mAt G (E.run - 1).toNat).qc⟩ : MTh))) E = 0))) || (decide (chkAll (tabT G) E = 0)))) ∧ fc.grownBy w' none) ?_ ?_))
 refine Xc (v := .slice (pa ao) G.length al) eo Z (Xp (vs := [vi E.kind, vi E.run, vi E.a, vi E.b, vi E.n]) Yp cl Z (((bw.grown0 bk).gn cj).rangeL 0 5 Z) Z ?_)
 have ce := (TabG.ge (TabG.low cd bk) cj hTH (by omega))
 have ks := ((cz.grown0 bk).gn cj)
 refine Xm L6 (Xf Z (Xf Z Xl)) Z (Vu (show (G.set (E.run - 1).toNat (⟨⟨(mAt G (E.run - 1).toNat).t.kind, (mAt G (E.run - 1).toNat).t.lab, (mAt G (E.run - 1).toNat).t.ve, (mAt G (E.run - 1).toNat).t.num, (mAt G (E.run - 1).toNat).t.slots.set (E.a).toNat (rightLess (rAt (mAt G (E.run - 1).toNat).t.slots (E.a).toNat) (decide ((m : Int) % 2 = 1)) (decide (((m : Int) / 2) % 2 = 1)) (decide (((m : Int) / 4) % 2 = 1))), (mAt G (E.run - 1).toNat).t.queue, (mAt G (E.run - 1).toNat).t.to⟩, O, J, (mAt G (E.run - 1).toNat).qa, (mAt G (E.run - 1).toNat).qc⟩ : MTh)).length = G.length by first | rfl | simp only [List.length_set]) (J2 E _ (G.set (E.run - 1).toNat (⟨⟨(mAt G (E.run - 1).toNat).t.kind, (mAt G (E.run - 1).toNat).t.lab, (mAt G (E.run - 1).toNat).t.ve, (mAt G (E.run - 1).toNat).t.num, (mAt G (E.run - 1).toNat).t.slots.set (E.a).toNat (rightLess (rAt (mAt G (E.run - 1).toNat).t.slots (E.a).toNat) (decide ((m : Int) % 2 = 1)) (decide (((m : Int) / 2) % 2 = 1)) (decide (((m : Int) / 4) % 2 = 1))), (mAt G (E.run - 1).toNat).t.queue, (mAt G (E.run - 1).toNat).t.to⟩, O, J, (mAt G (E.run - 1).toNat).qa, (mAt G (E.run - 1).toNat).qc⟩ : MTh)) _ _ (Nk (m2 := (⟨⟨(mAt G (E.run - 1).toNat).t.kind, (mAt G (E.run - 1).toNat).t.lab, (mAt G (E.run - 1).toNat).t.ve, (mAt G (E.run - 1).toNat).t.num, (mAt G (E.run - 1).toNat).t.slots.set (E.a).toNat (rightLess (rAt (mAt G (E.run - 1).toNat).t.slots (E.a).toNat) (decide ((m : Int) % 2 = 1)) (decide (((m : Int) / 2) % 2 = 1)) (decide (((m : Int) / 4) % 2 = 1))), (mAt G (E.run - 1).toNat).t.queue, (mAt G (E.run - 1).toNat).t.to⟩, O, J, (mAt G (E.run - 1).toNat).qa, (mAt G (E.run - 1).toNat).qc⟩ : MTh)) ks (by unfold MTh.cells; simp only [List.length_set]) (RowsA.setn (m := (⟨⟨(mAt G (E.run - 1).toNat).t.kind, (mAt G (E.run - 1).toNat).t.lab, (mAt G (E.run - 1).toNat).t.ve, (mAt G (E.run - 1).toNat).t.num, (mAt G (E.run - 1).toNat).t.slots.set (E.a).toNat (rightLess (rAt (mAt G (E.run - 1).toNat).t.slots (E.a).toNat) (decide ((m : Int) % 2 = 1)) (decide (((m : Int) / 2) % 2 = 1)) (decide (((m : Int) / 4) % 2 = 1))), (mAt G (E.run - 1).toNat).t.queue, (mAt G (E.run - 1).toNat).t.to⟩, O, J, (mAt G (E.run - 1).toNat).qa, (mAt G (E.run - 1).toNat).qc⟩ : MTh)) (RowsA.of (TabG.at ce)) ⟨(show SlAt fc O 5 (((mAt G (E.run - 1).toNat).t.slots.set (E.a).toNat (rightLess (rAt (mAt G (E.run - 1).toNat).t.slots (E.a).toNat) (decide ((m : Int) % 2 = 1)) (decide (((m : Int) / 2) % 2 = 1)) (decide (((m : Int) / 4) % 2 = 1)))).map Rt.cells) by rw [c8]; exact Own.sl Qs fg), ((TabG.at ce).2 _ (List.mem_of_getElem? (xg G (E.run - 1).toNat))).2.1, (fun h => absurd (show O = none from h) (by rw [c8]; exact Option.some_ne_none _)), ((TabG.at ce).2 _ (List.mem_of_getElem? (xg G (E.run - 1).toNat))).2.2.2⟩)) (TabLen.put (m := (⟨⟨(mAt G (E.run - 1).toNat).t.kind, (mAt G (E.run - 1).toNat).t.lab, (mAt G (E.run - 1).toNat).t.ve, (mAt G (E.run - 1).toNat).t.num, (mAt G (E.run - 1).toNat).t.slots.set (E.a).toNat (rightLess (rAt (mAt G (E.run - 1).toNat).t.slots (E.a).toNat) (decide ((m : Int) % 2 = 1)) (decide (((m : Int) / 2) % 2 = 1)) (decide (((m : Int) / 4) % 2 = 1))), (mAt G (E.run - 1).toNat).t.queue, (mAt G (E.run - 1).toNat).t.to⟩, O, J, (mAt G (E.run - 1).toNat).qa, (mAt G (E.run - 1).toNat).qc⟩ : MTh)) ad ⟨by have hh := (TabLen.at ad (xg G (E.run - 1).toNat)); show ((mAt G (E.run - 1).toNat).t.slots.set (E.a).toNat (rightLess (rAt (mAt G (E.run - 1).toNat).t.slots (E.a).toNat) (decide ((m : Int) % 2 = 1)) (decide (((m : Int) / 2) % 2 = 1)) (decide (((m : Int) / 4) % 2 = 1)))).length ≤ 1048576; simp only [List.length_set]; omega, (TabLen.at ad (xg G (E.run - 1).toNat)).2⟩) (by first | omega | (simp only [List.length_set]; omega)) (ErrT.grown0 hE dr))) ?_
 rintro _ nq ⟨rfl, du⟩
 have le := Ja (ts := tabT (G.set (E.run - 1).toNat (⟨⟨(mAt G (E.run - 1).toNat).t.kind, (mAt G (E.run - 1).toNat).t.lab, (mAt G (E.run - 1).toNat).t.ve, (mAt G (E.run - 1).toNat).t.num, (mAt G (E.run - 1).toNat).t.slots.set (E.a).toNat (rightLess (rAt (mAt G (E.run - 1).toNat).t.slots (E.a).toNat) (decide ((m : Int) % 2 = 1)) (decide (((m : Int) / 2) % 2 = 1)) (decide (((m : Int) / 4) % 2 = 1))), (mAt G (E.run - 1).toNat).t.queue, (mAt G (E.run - 1).toNat).t.to⟩, O, J, (mAt G (E.run - 1).toNat).qa, (mAt G (E.run - 1).toNat).qc⟩ : MTh))) (q := E)
 refine Q4 (q := !(decide (chkAll (tabT (G.set (E.run - 1).toNat (⟨⟨(mAt G (E.run - 1).toNat).t.kind, (mAt G (E.run - 1).toNat).t.lab, (mAt G (E.run - 1).toNat).t.ve, (mAt G (E.run - 1).toNat).t.num, (mAt G (E.run - 1).toNat).t.slots.set (E.a).toNat (rightLess (rAt (mAt G (E.run - 1).toNat).t.slots (E.a).toNat) (decide ((m : Int) % 2 = 1)) (decide (((m : Int) / 2) % 2 = 1)) (decide (((m : Int) / 4) % 2 = 1))), (mAt G (E.run - 1).toNat).t.queue, (mAt G (E.run - 1).toNat).t.to⟩, O, J, (mAt G (E.run - 1).toNat).qa, (mAt G (E.run - 1).toNat).qc⟩ : MTh))) E = 0))) Z Z Z Z (Xc (v := vb (!(decide (chkAll (tabT (G.set (E.run - 1).toNat (⟨⟨(mAt G (E.run - 1).toNat).t.kind, (mAt G (E.run - 1).toNat).t.lab, (mAt G (E.run - 1).toNat).t.ve, (mAt G (E.run - 1).toNat).t.num, (mAt G (E.run - 1).toNat).t.slots.set (E.a).toNat (rightLess (rAt (mAt G (E.run - 1).toNat).t.slots (E.a).toNat) (decide ((m : Int) % 2 = 1)) (decide (((m : Int) / 2) % 2 = 1)) (decide (((m : Int) / 4) % 2 = 1))), (mAt G (E.run - 1).toNat).t.queue, (mAt G (E.run - 1).toNat).t.to⟩, O, J, (mAt G (E.run - 1).toNat).qa, (mAt G (E.run - 1).toNat).qc⟩ : MTh))) E = 0)))) Z Z ?_)
 rcases X6 (!(decide (chkAll (tabT (G.set (E.run - 1).toNat (⟨⟨(mAt G (E.run - 1).toNat).t.kind, (mAt G (E.run - 1).toNat).t.lab, (mAt G (E.run - 1).toNat).t.ve, (mAt G (E.run - 1).toNat).t.num, (mAt G (E.run - 1).toNat).t.slots.set (E.a).toNat (rightLess (rAt (mAt G (E.run - 1).toNat).t.slots (E.a).toNat) (decide ((m : Int) % 2 = 1)) (decide (((m : Int) / 2) % 2 = 1)) (decide (((m : Int) / 4) % 2 = 1))), (mAt G (E.run - 1).toNat).t.queue, (mAt G (E.run - 1).toNat).t.to⟩, O, J, (mAt G (E.run - 1).toNat).qa, (mAt G (E.run - 1).toNat).qc⟩ : MTh))) E = 0))) with av | av
 have di := Q8 av
 have mo := of_decide_eq_false di
 exact Xi Z Z Z av Z (Xi Z Z Z av Z (Xo (v := vb true) Z av Z Z (Xg (v := vb true) Z Z (Xb ⟨(congrArg Value.bool (by first | (simp only [am, ar, au, bh, br, bt, bu, dc, cn, co, ct, cv, bv, av, di, bc, bi, a9, bg, b0, b1, b2, b3, b4, b5, b6, b7, b8, b9]; done) | simp [am, ar, au, bh, br, bt, bu, dc, cn, co, ct, cv, bv, av, di, bc, bi, a9, bg])), du⟩))))
 have dk := Qp av
 have mp := of_decide_eq_true dk
 exact Xe Z Z Z av (Xc (v := vi (chkAll (tabT G) E)) kl Z (Xe Z Z Z av (Xw (q := decide (chkAll (tabT G) E = 0)) Z Z Z Z (Xj (v := vb (decide (chkAll (tabT G) E = 0))) Z av Z Z (Xg (v := vb (decide (chkAll (tabT G) E = 0))) Z Z (Xb ⟨(congrArg Value.bool (by first | (simp only [am, ar, au, bh, br, bt, bu, dc, cn, co, ct, cv, bv, av, dk, bc, bi, a9, bg, b0, b1, b2, b3, b4, b5, b6, b7, b8, b9]; done) | simp [am, ar, au, bh, br, bt, bu, dc, cn, co, ct, cv, bv, av, dk, bc, bi, a9, bg])), du⟩))))))
 rintro mb nr ⟨kn, fu⟩
 refine Xq (⟨vb ((!(decide (chkAll (tabT (G.set (E.run - 1).toNat (⟨⟨(mAt G (E.run - 1).toNat).t.kind, (mAt G (E.run - 1).toNat).t.lab, (mAt G (E.run - 1).toNat).t.ve, (mAt G (E.run - 1).toNat).t.num, (mAt G (E.run - 1).toNat).t.slots.set (E.a).toNat (rightLess (rAt (mAt G (E.run - 1).toNat).t.slots (E.a).toNat) (decide ((m : Int) % 2 = 1)) (decide (((m : Int) / 2) % 2 = 1)) (decide (((m : Int) / 4) % 2 = 1))), (mAt G (E.run - 1).toNat).t.queue, (mAt G (E.run - 1).toNat).t.to⟩, O, J, (mAt G (E.run - 1).toNat).qa, (mAt G (E.run - 1).toNat).qc⟩ : MTh))) E = 0))) || (decide (chkAll (tabT G) E = 0))), Yy Z kn, ?_, (low0 dr fu)⟩)
 exact congrArg Value.bool (Tw bg Z)
end Go.Proofs.YtjpgffmkcmcolabDoor
end
