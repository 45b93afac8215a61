/- Laws and walks: my templates, and what a program of mine (gen.py) printed out of the functions; only what the row reaches. -/
import Derived.Test.YtjpgffmkcmcolaaGreatDoorT25
section
namespace Go.Dw
set_option linter.unusedVariables false
set_option linter.unusedSimpArgs false
section
variable {ts : List Th} {q : Cl}
theorem Hd (k n j : Int) : thAt (setNum ts k n) j = thAt ts j ∨ thAt (setNum ts k n) j = { thAt ts j with num := n } := by
  unfold setNum setTh thAt
  rw [List.getD_eq_getElem?_getD, List.getD_eq_getElem?_getD, List.getD_eq_getElem?_getD, List.getElem?_set]
  split
  · rename_i e
    split
    · right
      rw [e]
      rfl
    · left
      rw [List.getElem?_eq_none (by omega)]
  · exact Or.inl rfl
theorem H1 (k n j : Int) : (thAt (setNum ts k n) j).lab = (thAt ts j).lab := by rcases Hd (ts := ts) k n j with h | h <;> rw [h]
theorem C3 (k n j : Int) : (thAt (setNum ts k n) j).kind = (thAt ts j).kind := by rcases Hd (ts := ts) k n j with h | h <;> rw [h]
theorem Oe (k n j : Int) : (thAt (setNum ts k n) j).ve = (thAt ts j).ve := by rcases Hd (ts := ts) k n j with h | h <;> rw [h]
theorem Mz (k n j : Int) : (thAt (setNum ts k n) j).slots = (thAt ts j).slots := by rcases Hd (ts := ts) k n j with h | h <;> rw [h]
theorem Lw (k n i j : Int) : slotAt (setNum ts k n) i j = slotAt ts i j := by unfold slotAt; rw [Mz]
theorem R4 (k n i j : Int) : sees (setNum ts k n) i j = sees ts i j := by unfold sees; rw [H1, H1]
theorem R5 (k n i j : Int) : touches (setNum ts k n) i j = touches ts i j := by unfold touches; rw [H1, H1]
theorem Eu (k n : Int) : (setNum ts k n).length = ts.length := Jt
theorem R2 (k n : Int) (r : Rt) : live (setNum ts k n) r = live ts r := by unfold live; rw [Eu, Oe]
theorem My (k n : Int) : check1 (setNum ts k n) q = check1 ts q := by
  unfold check1 chk1 chk2 chk3
  simp only [Lw, C3, R4, R5, R2]
theorem R3 (hp : callPoss ts q = true) : callPoss (doCall ts q).1 q = true := by
  obtain ⟨hT, hc, hr⟩ := Yh hp
  have h := Uj hp
  have hr := Qn hr
  unfold callPoss
  rw [h.1, hc, Mu (by rw [h.2.1]; exact hr.1) ((h.2.2 _ hr.1.1).trans hr.2)]
  rfl
theorem Ti (hp : callPoss ts q = true) (h1 : q.kind = 1) : callDo (callDo ts q).1 q = callDo ts q := by
  have h3 : ¬ q.kind = 3 := by omega
  rw [Qs hp, Qs (R3 hp)]
  have pre : ∀ us : List Th, doPre us q = us := fun us => by
    unfold doPre
    rw [if_neg h3]
    split
    · rfl
    split
    · unfold far; rw [if_pos h1]
    · rfl
  have hrun := (Qn (Yh hp).2.2).1
  have e : (doCall ts q).1 = setNum ts q.run (doAns ts q) := by rw [U8, pre]
  have ha : doAns (doCall ts q).1 q = doAns ts q := by
    rw [e]
    unfold doAns told
    simp only [My, Lw, R2, if_neg h3]
    split
    · rfl
    rename_i h0
    split
    · rename_i hl
      have hF := Vi hp h0 h3 hl
      have hne : ¬ (slotAt ts q.run q.a).th = q.run := fun e => by
        have hr := (Qn hF.run).2
        have hk := (Q0 hF.kind (Yq hF.call).1).1 h1
        rw [e, hr] at hk
        omega
      have hf : ∀ us : List Th, far us q (slotAt ts q.run q.a) = (us, (thAt us (slotAt ts q.run q.a).th).num) := fun us => by unfold far; rw [if_pos h1]
      rw [hf, hf]
      show (if sees (setNum ts q.run _) _ _ = true then (thAt (setNum ts q.run _) (slotAt ts q.run q.a).th).num else 0) = _
      rw [R4]
      unfold setNum
      rw [Ji hrun _ hF.th.1, if_neg hne]
    · rfl
  have e2 : (doCall (doCall ts q).1 q).1 = (doCall ts q).1 := by
    rw [U8, pre, ha, e]
    unfold setNum
    rw [N4]
    congr 1
    rw [Ji hrun _ hrun.1, if_pos rfl]
  have e3 : (doCall (doCall ts q).1 q).2 = (doCall ts q).2 := by rw [Um, ha, ← Um]
  exact Prod.ext e2 e3
def Kept (n : Int) (a b : Th) : Prop := (a.kind = 1 → b.num = a.num ∨ b.num = 0 ∨ b.num = n ∨ b.num = n % 2) ∧ ∀ v ∈ b.queue, v = n ∨ v ∈ a.queue
theorem Kept.refl (n : Int) (a : Th) : Kept n a a := ⟨fun _ => Or.inl rfl, fun _ h => Or.inr h⟩
section
variable {ms xs : List MTh}
theorem E8 (ht : tabT xs = (callDo (tabT ms) q).1) (hp : callPoss (tabT ms) q = true) (h1 : q.kind = 1) : callDo (tabT xs) q = callDo (tabT ms) q := by rw [ht]; exact Ti hp h1
end
end
end Go.Dw
end
section
namespace Go.Proofs.YtjpgffmkcmcolaaGreatDoor
open Go.RowKit Go.Dw
set_option maxRecDepth 100000
set_option maxHeartbeats 4000000
set_option linter.unusedSimpArgs false
set_option linter.unusedVariables false
theorem Va : goFn Tryz.prog 15 = true := by kernel_rfl
theorem Vb : goFn Tryz.prog 16 = true := by kernel_rfl
theorem K8 : goFn Tryz.prog 17 = true := by kernel_rfl
theorem Kc : goFn Tryz.prog 18 = true := by kernel_rfl
theorem Vc : goFn Tryz.prog 19 = true := by kernel_rfl
theorem law_FnReadTwice (bs : List Int) (a : Option Addr) (c : Nat) (w : World) (cg : SlAt w a 1 (bs.map bcell)) (hb : ∀ b ∈ bs, 0 ≤ b ∧ b ≤ 255) (hn : bs.length ≤ 9223372036854775807) (hc : bs.length ≤ c) (hE : ErrT w) : CallsR Tryz.prog 11 #[.slice a bs.length c] w (fun v w' => v = .bool true ∧ w.grownBy w' none) := by
 refine Xx (n := 71) Tryz.func11 Z Tryz.ntmps11 Z ?_
 have bx := World.grownBy.refl w none
 have hs := SlAt.lt Kl (by omega) cg
 refine Xa (Xe (v := vb false) Z Z (Xc (Xq (Xa (Xb (v := .slice a bs.length c) Z Z (Yu (by kernel_rfl) Z Z (Jd (q := decide (1048576 < (bs.length : Int))) Z Z Z Z (Xc (Xy Z (fun bb => ?_) (fun bb => ?_))))))))))
 have df := of_decide_eq_true bb
 refine Xa (Xe (v := vb true) Z Z (Xc (Xt (Yk (⟨vb true, Yp Z Z, ?_, bx⟩)))))
 rfl
 have dg := of_decide_eq_false bb
 refine Xw (Xu (Xa (Xb (v := .slice a bs.length c) Z Z (Xl Va (Xg Z Xk) Z (J0 bs a c _ (SlAt.low cg bx) hb (by omega) (by omega)) ?_))))
 rintro _ dn ⟨aq, ad, G, E, rfl, au, bv, ck, db, bz⟩
 have bl := low0 bx bz
 have aw := bv.len
 refine Xb (v := .tuple #[.slice (pa aq) G.length ad, .agg #[vi E.kind, vi E.run, vi E.a, vi E.b, vi E.n]]) Z Z (X4 (v := .slice (pa aq) G.length ad) Z Z Z (X4 (v := .agg #[vi E.kind, vi E.run, vi E.a, vi E.b, vi E.n]) Z Z Z (Ye (cs := #[vi 0, vi 0, vi 0, vi 0, vi 0]) Uh Z Z ?_)))
 intro dc dp V
 have cn := Yj V bl
 refine Xe (v := .slice (pa aq) G.length ad) Z Z (X0 (vs := [vi E.kind, vi E.run, vi E.a, vi E.b, vi E.n]) (cs' := #[vi E.kind, vi E.run, vi E.a, vi E.b, vi E.n]) Y1 Z Z Z (by simp [Value.oneCell']) V.blk (Nat.le_of_ble_eq_true Z) Z ?_)
 intro dq ae
 refine Xc (Xa (Xb (v := .slice (pa aq) G.length ad) Z Z (Xp (vs := [vi E.kind, vi E.run, vi E.a, vi E.b, vi E.n]) Y1 Z Z (ae.blk.rangeL 0 5 Z) Z ?_)))
 have co := (ae.blk).lt
 refine Xl Vb (Xg Z (Xg Z Xk)) Z (Ku E _ G _ _ (TabG.at (TabG.low au (low1 V.grw ae.grw (nt ((World.grownBy.refl _ none)).size (Nat.le_of_eq V.eq.symm))))) aw (by omega)) ?_
 rintro _ dr ⟨ba, ah, ag, rfl, br, ao, a8⟩
 have bm := low0 (low1 (low0 bl V.grw) ae.grw (by omega)) a8
 have bj := Q3 ao
 have cx := Qo ao
 refine Xb (v := .tuple #[.slice (pa ba) ag.length ah, vi (callDo (tabT G) E).2]) Z Z (X4 (v := .slice (pa ba) ag.length ah) Z Z Z (X4 (v := vi (callDo (tabT G) E).2) Z Z Z (Xe (v := .slice (pa ba) ag.length ah) Z Z (Xe (v := vi (callDo (tabT G) E).2) Z Z (Xc (Xa (Xb (v := .slice (pa aq) G.length ad) Z Z ?_)))))))
 have bp := (ae.blk.grown0 a8)
 refine Xp (vs := [vi E.kind, vi E.run, vi E.a, vi E.b, vi E.n]) Y1 Z Z (bp.rangeL 0 5 Z) Z ?_
 have ct := (bp).lt
 refine Xl K8 (Xg Z (Xg Z Xk)) Z (K2 E _ G _ _ (TabG.at (TabG.low au (low0 (low1 V.grw ae.grw (nt ((World.grownBy.refl _ none)).size (Nat.le_of_eq V.eq.symm))) a8))) aw (by omega) (ErrT.grown0 hE bm)) ?_
 rintro _ dt ⟨ap, O, J, rfl, av, af, a9⟩
 have al := Q3 af
 have cy := Qo af
 refine Xb (v := .tuple #[.slice ap J.length O, vi (callDo (tabT G) E).2]) Z Z (X4 (v := .slice ap J.length O) Z Z Z (X4 (v := vi (callDo (tabT G) E).2) Z Z Z (Xe (v := .slice ap J.length O) Z Z (Xe (v := vi (callDo (tabT G) E).2) Z Z (Xc (Xq (Xa (Xb (v := vi (callDo (tabT G) E).2) Z Z (Xb (v := vi (callDo (tabT G) E).2) Z Z (Y8 (q := false) Z Z (by simp) Z (Xb (v := vb false) Z Z (Xf Z Z Z Z ?_))))))))))))
 refine Xb (v := .slice ap J.length O) Z Z (Xf Z Z Z Z (Xb (v := .slice (pa ba) ag.length ah) Z Z (Xf Z Z Z Z ?_)))
 have bh := (TabG.low br a9)
 refine Xl Kc (Xg Z (Xg Z Xk)) Z (Q9 _ J ag _ _ _ _ (TabG.at av) (TabG.at bh) al bj (by omega) (by omega)) ?_
 rintro _ du ⟨rfl, ai⟩
 refine Xf Z Z Z Z (Yl (b' := false) (cB (decide_eq_true (af.trans ao.symm))) Z Z (Xo (v := vb false) Z Z Z Z (Xb (v := vb false) Z Z (Xf Z Z Z Z (Xb (v := .slice (pa aq) G.length ad) Z Z (Xf Z Z Z Z ?_))))))
 have bw := ((bp.grown0 a9).grown0 ai)
 refine Xp (vs := [vi E.kind, vi E.run, vi E.a, vi E.b, vi E.n]) Y1 Z Z (bw.rangeL 0 5 Z) Z (Xf Z Z Z Z (Xl Vc (Xg Z (Xg Z Xk)) Z (Vl E _ G _ _ (TabG.at (TabG.low au (low0 (low0 (low0 (low1 V.grw ae.grw (nt ((World.grownBy.refl _ none)).size (Nat.le_of_eq V.eq.symm))) a8) a9) ai))) aw (by omega)) ?_))
 rintro _ dv ⟨rfl, an⟩
 have az := low0 (low0 (low0 bm a9) ai) an
 refine Xf Z Z Z Z (Yl (b' := !callPoss (tabT G) E) Z Z Z (Xo (v := vb (!callPoss (tabT G) E)) Z Z Z Z (Xc (Xy Z (fun bc => ?_) (fun bc => ?_)))))
 have dh := Q2 bc
 refine Xa (Xb (v := vi (callDo (tabT G) E).2) Z Z (Xb (v := vi (callDo (tabT G) E).2) Z Z (X3 (q := true) Z Z (by simp) Z (Xb (v := vb true) Z Z (Xf Z Z Z Z (Xb (v := .slice ap J.length O) Z Z (Xf Z Z Z Z (Xb (v := .slice (pa ba) ag.length ah) Z Z (Xf Z Z Z Z (Xl Kc (Xg Z (Xg Z Xk)) Z (Q9 _ J ag _ _ _ _ (TabG.at (TabG.low (TabG.low av ai) an)) (TabG.at (TabG.low (TabG.low bh ai) an)) al bj (by omega) (by omega)) ?_))))))))))
 rintro _ dw ⟨rfl, ca⟩
 refine Xs (v := vb true) Z Z (cB (decide_eq_true (af.trans ao.symm))) Z (Xe (v := vb true) Z Z (Xc (Xt (Yk (⟨vb true, Yp Z Z, ?_, (low0 az ca)⟩)))))
 rfl
 have aj := Qx bc
 obtain ⟨ar, be, am⟩ := Yh aj
 have cl := Yq be
 have cm := (Y3 am).1
 have da := Qp ar am
 have cw := Jb ar
 have hde := Qs aj
 have hrk := Qn (Yh aj).2.2
 have cz := Q1 ao aj
 have c8 := Q1 af aj
 refine Xw (Xu (Xq (Xa (Xd (o' := 0) Ja Z Z Z ?_))))
 have bq := (bw.grown0 an)
 refine Xh (v := vi E.kind) X1 Z (bq.cell Z) Z (Y8 (q := !(decide (E.kind = 1))) Z Z Z Z (Xc (Xy Z (fun bd => ?_) (fun bd => ?_))))
 have cf := Q2 bd
 have di := of_decide_eq_false cf
 refine Xa (Xe (v := vb true) Z Z (Xc (Xt (Yk (⟨vb true, Yp Z Z, ?_, az⟩)))))
 rfl
 have bg := Qx bd
 have dk := of_decide_eq_true bg
 refine Xw (Xu (Xa (Xb (v := .slice ap J.length O) Z Z (Xp (vs := [vi E.kind, vi E.run, vi E.a, vi E.b, vi E.n]) Y1 Z Z (bq.rangeL 0 5 Z) Z ?_))))
 have bi := (TabG.low (TabG.low av ai) an)
 have cv := (bq).lt
 refine Xl K8 (Xg Z (Xg Z Xk)) Z (K2 E _ J _ _ (TabG.at bi) al (by omega) (ErrT.grown0 hE az)) ?_
 rintro _ cj ⟨bk, ak, ab, rfl, bt, bf, bn⟩
 have bu := Q3 bf
 have c9 := Qo bf
 refine Xb (v := .tuple #[.slice bk ab.length ak, vi (callDo (tabT J) E).2]) Z Z (X4 (v := .slice bk ab.length ak) Z Z Z (X4 (v := vi (callDo (tabT J) E).2) Z Z Z (Xe (v := .slice bk ab.length ak) Z Z (Xe (v := vi (callDo (tabT J) E).2) Z Z (Xc (X7 (fun f' w' => (f' 2 = vb ((decide ((callDo (tabT J) E).2 = (callDo (tabT G) E).2)) && (decide (tabT ab = tabT J)))) ∧ cj.grownBy w' none) ?_ ?_))))))
 refine Xb (v := vi (callDo (tabT J) E).2) Z Z (Xb (v := vi (callDo (tabT G) E).2) Z Z (X3 (q := decide ((callDo (tabT J) E).2 = (callDo (tabT G) E).2)) Z Z Z Z (Xb (v := vb (decide ((callDo (tabT J) E).2 = (callDo (tabT G) E).2))) Z Z ?_)))
 rcases Yf (decide ((callDo (tabT J) E).2 = (callDo (tabT G) E).2)) with ac | ac
 have dl := of_decide_eq_true ac
 refine Xf Z Z Z ac (Xb (v := .slice bk ab.length ak) Z Z (Xf Z Z Z ac (Xb (v := .slice ap J.length O) Z Z (Xf Z Z Z ac (Xl Kc (Xg Z (Xg Z Xk)) Z (Q9 _ ab J _ _ _ _ (TabG.at bt) (TabG.at (TabG.low bi bn)) bu al (by omega) (by omega)) ?_)))))
 rintro _ dx ⟨rfl, cc⟩
 exact Xs (v := vb (decide (tabT ab = tabT J))) Z ac Z Z (Xe (v := vb (decide (tabT ab = tabT J))) Z Z (Xc ⟨(cB (by simp [bb, bc, aj, bd, bg, ac, ar, be, am])), cc⟩))
 have dm := of_decide_eq_false ac
 iterate 3 refine Xi rfl rfl rfl ac rfl ?_
 exact Xo (v := vb false) Z ac Z Z (Xe (v := vb false) Z Z (Xc ⟨(cB (by simp [bb, bc, aj, bd, bg, ac, ar, be, am])), (World.grownBy.refl _ _)⟩))
 rintro de dy ⟨ce, cd⟩
 refine Xt (⟨vb ((decide ((callDo (tabT J) E).2 = (callDo (tabT G) E).2)) && (decide (tabT ab = tabT J))), Yp Z ce, ?_, (low0 (low0 az bn) cd)⟩)
 have e2 := E8 af aj (of_decide_eq_true bg)
 exact cB (Bool.and_eq_true_iff.2 ⟨decide_eq_true (congrArg Prod.snd e2), decide_eq_true (bf.trans ((congrArg Prod.fst e2).trans af.symm))⟩)
end Go.Proofs.YtjpgffmkcmcolaaGreatDoor
end
