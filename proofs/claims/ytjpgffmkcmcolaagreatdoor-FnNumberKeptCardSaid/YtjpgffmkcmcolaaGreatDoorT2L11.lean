/- Laws and walks: my templates, and what a program of mine (gen.py) printed out of the functions; only what the row reaches. -/
import Derived.Test.YtjpgffmkcmcolaaGreatDoorT25
section
namespace Go.Dw
set_option linter.unusedVariables false
set_option linter.unusedSimpArgs false
section
variable {ts : List Th} {q : Cl}
theorem Ri (hp : callPoss ts q = true) {j : Int} (hj : 1 ≤ j) (hne : ¬ j = q.run) : thAt (doCall ts q).1 j = thAt (doPre ts q) j := by
  rw [U8]
  unfold setNum
  rw [Ji (Gx hp) j hj, if_neg hne]
theorem Sv (hp : callPoss ts q = true) : thAt (doCall ts q).1 q.run = { thAt (doPre ts q) q.run with num := doAns ts q } := by
  rw [U8]
  unfold setNum
  rw [Ji (Gx hp) q.run (Gx hp).1, if_pos rfl]
def Kept (n : Int) (a b : Th) : Prop := (a.kind = 1 → b.num = a.num ∨ b.num = 0 ∨ b.num = n ∨ b.num = n % 2) ∧ ∀ v ∈ b.queue, v = n ∨ v ∈ a.queue
theorem Kept.refl (n : Int) (a : Th) : Kept n a a := ⟨fun _ => Or.inl rfl, fun _ h => Or.inr h⟩
theorem Uc {us : List Th} {n k : Int} {t : Th} (hk : 1 ≤ k ∧ k ≤ (us.length : Int)) (h : Kept n (thAt us k) t) (j : Int) (hj : 1 ≤ j) : Kept n (thAt us j) (thAt (setTh us k t) j) := by
  rw [Ji hk j hj]
  split
  · rename_i e; rw [e]; exact h
  · exact Kept.refl _ _
theorem B7 {r : Rt} (h : FarOk ts q r) (j : Int) (hj : 1 ≤ j) : Kept q.n (thAt ts j) (thAt (far ts q r).1 j) := by
  have hrun := (Qn h.run).1
  have hc := Yq h.call
  have hn := h.copy
  unfold far
  split
  · exact Kept.refl _ _
  split
  · refine Uc h.th ?_ j hj; exact ⟨fun _ => Or.inr (Or.inr (Or.inl rfl)), fun _ h => Or.inr h⟩
  split
  · refine Uc hrun ?_ j hj; exact ⟨fun _ => Or.inl rfl, fun _ h => Or.inr h⟩
  split
  · refine Uc h.th ?_ j hj; exact ⟨fun _ => Or.inl rfl, fun _ h => Or.inr h⟩
  split
  · split
    · refine Uc h.th ?_ j hj
      refine ⟨fun _ => Or.inl rfl, fun v hv => ?_⟩
      change v ∈ (thAt ts r.th).queue ++ [q.n] at hv
      rcases List.mem_append.1 hv with h1 | h1
      · exact Or.inr h1
      · exact Or.inl (List.mem_singleton.1 h1)
    · exact Kept.refl _ _
  split
  · split
    · exact Kept.refl _ _
    · refine Uc h.th ?_ j hj; exact ⟨fun _ => Or.inl rfl, fun _ h => Or.inr (List.mem_of_mem_drop h)⟩
  split
  · split
    · refine Uc h.th ?_ j hj
      refine ⟨fun _ => Or.inr (Or.inl rfl), fun v hv => ?_⟩
      unfold renewed newTh at hv
      cases hv
    · exact Kept.refl _ _
  · rename_i e1 e2 e4 e5 e6 e7 e8
    have h5 := (Q0 h.kind hc.1).2.2.2.2.2.2.2 (by omega)
    have hg := Qn (Uz h.tab h.th h5)
    have h1 := Uc (n := q.n) (t := { thAt ts (thAt ts r.th).to with num := q.n % 2 }) hg.1 ⟨fun _ => Or.inr (Or.inr (Or.inr rfl)), fun _ h => Or.inr h⟩ j hj
    have hth : 1 ≤ r.th ∧ r.th ≤ ((setNum ts (thAt ts r.th).to (q.n % 2)).length : Int) := by unfold setNum; rw [Jt]; exact h.th
    show Kept q.n (thAt ts j) (thAt (setTh (setNum ts (thAt ts r.th).to (q.n % 2)) r.th _) j)
    rw [Ji hth j hj]
    split
    · rename_i e; rw [e]; exact ⟨fun hk => by rw [h5] at hk; exact absurd hk (by decide), fun _ h => Or.inr h⟩
    · exact h1
theorem R6 (hp : callPoss ts q = true) {j : Int} (hj : 1 ≤ j) : Kept q.n (thAt ts j) (thAt (doCall ts q).1 j) := by
  obtain ⟨hT, hc, hr⟩ := Yh hp
  have hrun := Qn hr
  have hpre : Kept q.n (thAt ts j) (thAt (doPre ts q) j) := by
    unfold doPre
    split
    · exact Kept.refl _ _
    rename_i h0
    split
    · refine Uc hrun.1 ?_ j hj; exact ⟨fun _ => Or.inl rfl, fun _ h => Or.inr h⟩
    rename_i h3
    split
    · rename_i hl
      exact B7 (Vi hp h0 h3 hl) j hj
    · exact Kept.refl _ _
  by_cases e : j = q.run
  · subst e
    rw [Sv hp]
    exact ⟨fun hk => by rw [hrun.2] at hk; exact absurd hk (by decide), hpre.2⟩
  · rw [Ri hp hj e]
    exact hpre
theorem Eh {l : List Int} {v : Int} (h : v ∈ l) : ∃ i : Nat, i < l.length ∧ iAt l i = v := by
  obtain ⟨i, hi⟩ := List.mem_iff_getElem?.1 h
  refine ⟨i, (List.getElem?_eq_some_iff.1 hi).1, ?_⟩
  unfold iAt
  rw [List.getD_eq_getElem?_getD, hi]
  rfl
theorem Iz {l : List Int} {i : Nat} (h : i < l.length) : iAt l i ∈ l := List.mem_of_getElem? (Ve h)
theorem Ct {n : Int} {a b : Th} (h : Kept n a b) (hk : b.kind = a.kind) (hb : (((((decide (b.kind = 1)) && (!(decide (b.num = a.num)))) && (!(decide (b.num = 0)))) && (!(decide (b.num = n)))) && (!(decide (b.num = n % 2)))) = true) : False := by
  simp only [Bool.and_eq_true, Bool.not_eq_true', decide_eq_true_eq, decide_eq_false_iff_not] at hb
  rcases h.1 (hk ▸ hb.1.1.1.1) with e | e | e | e
  · exact hb.1.1.1.2 e
  · exact hb.1.1.2 e
  · exact hb.1.2 e
  · exact hb.2 e
theorem Oc {n : Int} {a b : Th} {j : Nat} (h : Kept n a b) (hj : j < b.queue.length) (h1 : ¬ iAt b.queue j = n) (h2 : ∀ i : Nat, i < a.queue.length → ¬ iAt a.queue i = iAt b.queue j) : False := by
  rcases h.2 _ (Iz hj) with e | e
  · exact h1 e
  · obtain ⟨i, hi, he⟩ := Eh e
    exact h2 i hi he
theorem Bc {P : Prop} {l : List Int} {v : Int} {m : Nat} (h : P ∧ ∀ i : Nat, i < m → ¬ iAt l i = v) (hm : ¬ iAt l m = v) : P ∧ ∀ i : Nat, i < m + 1 → ¬ iAt l i = v :=
  ⟨h.1, fun i hi => by
    rcases Nat.lt_succ_iff_lt_or_eq.1 hi with h1 | h1
    · exact h.2 i h1
    · rw [h1]; exact hm⟩
section
variable {ms xs : List MTh}
theorem Cs (ht : tabT xs = (callDo (tabT ms) q).1) (hp : callPoss (tabT ms) q = true) (k : Nat) : Kept q.n (mAt ms k).t (mAt xs k).t := by
  rw [Ts ht hp, Wr]
  exact R6 hp (by omega)
end
end
end Go.Dw
end
section
namespace Go.Proofs.YtjpgffmkcmcolaaGreatDoor
open Go.RowKit Go.Dw
set_option maxRecDepth 100000
set_option maxHeartbeats 4000000
set_option linter.unusedSimpArgs false
set_option linter.unusedVariables false
theorem Va : goFn Tryz.prog 15 = true := by kernel_rfl
theorem Vb : goFn Tryz.prog 16 = true := by kernel_rfl
theorem K8 : goFn Tryz.prog 17 = true := by kernel_rfl
theorem Kc : goFn Tryz.prog 18 = true := by kernel_rfl
theorem Vc : goFn Tryz.prog 19 = true := by kernel_rfl
theorem law_FnNumberKept (bs : List Int) (a : Option Addr) (c : Nat) (w : World) (gj : SlAt w a 1 (bs.map bcell)) (hb : ∀ b ∈ bs, 0 ≤ b ∧ b ≤ 255) (hn : bs.length ≤ 9223372036854775807) (hc : bs.length ≤ c) (hE : ErrT w) : CallsR Tryz.prog 13 #[.slice a bs.length c] w (fun v w' => v = .bool true ∧ w.grownBy w' none) := by
 refine Xx (n := 153) Tryz.func13 Z Tryz.ntmps13 Z ?_
 have eg := World.grownBy.refl w none
 have hs := SlAt.lt Kl (by omega) gj
 refine Xa (Xe (v := vb false) Z Z (Xc (Xq (Xa (Xb (v := .slice a bs.length c) Z Z (Yu (by kernel_rfl) Z Z (Jd (q := decide (1048576 < (bs.length : Int))) Z Z Z Z (Xc (Xy Z (fun aj => ?_) (fun aj => ?_))))))))))
 have iq := of_decide_eq_true aj
 refine Xa (Xe (v := vb true) Z Z (Xc (Xt (Yk (⟨vb true, Yp Z Z, ?_, eg⟩)))))
 rfl
 have ir := of_decide_eq_false aj
 refine Xw (Xu (Xa (Xb (v := .slice a bs.length c) Z Z (Xl Va (Xg Z Xk) Z (J0 bs a c _ (SlAt.low gj eg) hb (by omega) (by omega)) ?_))))
 rintro _ jm ⟨ai, ac, G, J, rfl, bh, dz, gt, ig, eh⟩
 have de := low0 eg eh
 have bd := dz.len
 refine Xb (v := .tuple #[.slice (pa ai) G.length ac, .agg #[vi J.kind, vi J.run, vi J.a, vi J.b, vi J.n]]) Z Z (X4 (v := .slice (pa ai) G.length ac) Z Z Z (X4 (v := .agg #[vi J.kind, vi J.run, vi J.a, vi J.b, vi J.n]) Z Z Z (Ye (cs := #[vi 0, vi 0, vi 0, vi 0, vi 0]) Uh Z Z ?_)))
 intro a9 jo ap
 have gw := Yj ap de
 refine Xe (v := .slice (pa ai) G.length ac) Z Z (X0 (vs := [vi J.kind, vi J.run, vi J.a, vi J.b, vi J.n]) (cs' := #[vi J.kind, vi J.run, vi J.a, vi J.b, vi J.n]) Y1 Z Z Z (by simp [Value.oneCell']) ap.blk (Nat.le_of_ble_eq_true Z) Z ?_)
 intro dv au
 refine Xc (Xa (Xb (v := .slice (pa ai) G.length ac) Z Z (Xp (vs := [vi J.kind, vi J.run, vi J.a, vi J.b, vi J.n]) Y1 Z Z (au.blk.rangeL 0 5 Z) Z ?_)))
 have g2 := (au.blk).lt
 refine Xl Vb (Xg Z (Xg Z Xk)) Z (Ku J _ G _ _ (TabG.at (TabG.low bh (low1 ap.grw au.grw (nt ((World.grownBy.refl _ none)).size (Nat.le_of_eq ap.eq.symm))))) bd (by omega)) ?_
 rintro _ dw ⟨be, ba, aq, rfl, dy, bt, bn⟩
 have df := low0 (low1 (low0 de ap.grw) au.grw (by omega)) bn
 have cl := Q3 bt
 have g6 := Qo bt
 refine Xb (v := .tuple #[.slice (pa be) aq.length ba, vi (callDo (tabT G) J).2]) Z Z (X4 (v := .slice (pa be) aq.length ba) Z Z Z (X4 (v := vi (callDo (tabT G) J).2) Z Z Z (Xe (v := .slice (pa be) aq.length ba) Z Z (Xe (v := vi (callDo (tabT G) J).2) Z Z (Xc (Xa (Xb (v := .slice (pa ai) G.length ac) Z Z ?_)))))))
 have dq := (au.blk.grown0 bn)
 refine Xp (vs := [vi J.kind, vi J.run, vi J.a, vi J.b, vi J.n]) Y1 Z Z (dq.rangeL 0 5 Z) Z ?_
 have g3 := (dq).lt
 refine Xl K8 (Xg Z (Xg Z Xk)) Z (K2 J _ G _ _ (TabG.at (TabG.low bh (low0 (low1 ap.grw au.grw (nt ((World.grownBy.refl _ none)).size (Nat.le_of_eq ap.eq.symm))) bn))) bd (by omega) (ErrT.grown0 hE df)) ?_
 rintro _ jp ⟨ag, V, E, rfl, bw, aw, bp⟩
 have bc := Q3 aw
 have g7 := Qo aw
 refine Xb (v := .tuple #[.slice ag E.length V, vi (callDo (tabT G) J).2]) Z Z (X4 (v := .slice ag E.length V) Z Z Z (X4 (v := vi (callDo (tabT G) J).2) Z Z Z (Xe (v := .slice ag E.length V) Z Z (Xe (v := vi (callDo (tabT G) J).2) Z Z (Xc (Xq (Xa (Xb (v := vi (callDo (tabT G) J).2) Z Z (Xb (v := vi (callDo (tabT G) J).2) Z Z (Y8 (q := false) Z Z (by simp) Z (Xb (v := vb false) Z Z (Xf Z Z Z Z ?_))))))))))))
 refine Xb (v := .slice ag E.length V) Z Z (Xf Z Z Z Z (Xb (v := .slice (pa be) aq.length ba) Z Z (Xf Z Z Z Z ?_)))
 have bx := (TabG.low dy bp)
 refine Xl Kc (Xg Z (Xg Z Xk)) Z (Q9 _ E aq _ _ _ _ (TabG.at bw) (TabG.at bx) bc cl (by omega) (by omega)) ?_
 rintro _ jq ⟨rfl, av⟩
 refine Xf Z Z Z Z (Yl (b' := false) (congrArg Value.bool (decide_eq_true (aw.trans bt.symm))) Z Z (Xo (v := vb false) Z Z Z Z (Xb (v := vb false) Z Z (Xf Z Z Z Z (Xb (v := .slice (pa ai) G.length ac) Z Z (Xf Z Z Z Z ?_))))))
 have d7 := ((dq.grown0 bp).grown0 av)
 refine Xp (vs := [vi J.kind, vi J.run, vi J.a, vi J.b, vi J.n]) Y1 Z Z (d7.rangeL 0 5 Z) Z (Xf Z Z Z Z (Xl Vc (Xg Z (Xg Z Xk)) Z (Vl J _ G _ _ (TabG.at (TabG.low bh (low0 (low0 (low0 (low1 ap.grw au.grw (nt ((World.grownBy.refl _ none)).size (Nat.le_of_eq ap.eq.symm))) bn) bp) av))) bd (by omega)) ?_))
 rintro _ jr ⟨rfl, a8⟩
 have dg := low0 (low0 (low0 df bp) av) a8
 refine Xf Z Z Z Z (Yl (b' := !callPoss (tabT G) J) Z Z Z (Xo (v := vb (!callPoss (tabT G) J)) Z Z Z Z (Xc (Xy Z (fun ak => ?_) (fun ak => ?_)))))
 have it := Q2 ak
 refine Xa (Xb (v := vi (callDo (tabT G) J).2) Z Z (Xb (v := vi (callDo (tabT G) J).2) Z Z (X3 (q := true) Z Z (by simp) Z (Xb (v := vb true) Z Z (Xf Z Z Z Z (Xb (v := .slice ag E.length V) Z Z (Xf Z Z Z Z (Xb (v := .slice (pa be) aq.length ba) Z Z (Xf Z Z Z Z (Xl Kc (Xg Z (Xg Z Xk)) Z (Q9 _ E aq _ _ _ _ (TabG.at (TabG.low (TabG.low bw av) a8)) (TabG.at (TabG.low (TabG.low bx av) a8)) bc cl (by omega) (by omega)) ?_))))))))))
 rintro _ js ⟨rfl, ei⟩
 refine Xs (v := vb true) Z Z (congrArg Value.bool (decide_eq_true (aw.trans bt.symm))) Z (Xe (v := vb true) Z Z (Xc (Xt (Yk (⟨vb true, Yp Z Z, ?_, (low0 dg ei)⟩)))))
 rfl
 have ae := Qx ak
 obtain ⟨af, ah, ab⟩ := Yh ae
 have gu := Yq ah
 have gv := (Y3 ab).1
 have ia := Qp af ab
 have g5 := Jb af
 have hde := Qs ae
 have hrk := Qn (Yh ae).2.2
 have g8 := Q1 bt ae
 have g9 := Q1 aw ae
 refine Xw (Xu (Xq (Xa (Xe (v := vi 0) Z Z (Xc (Yc (Qm (fun mm f' w' => ∃ (k : Nat), mm = G.length - k ∧ k ≤ G.length ∧ TabG w.heap.size w' (pa ai) G ∧ TabG dv.heap.size w' (pa be) aq ∧ TabG dw.heap.size w' (ag) E ∧ f' 9 = vi (k : Int) ∧ f' 3 = .slice (pa ai) G.length ac ∧ f' 4 = pt a9 0 ∧ f' 7 = .slice ag E.length V ∧ w.grownBy w' none ∧ Blk w' a9 25 #[vi J.kind, vi J.run, vi J.a, vi J.b, vi J.n]) (G.length - 0) ⟨0, Z, (Nat.zero_le _), (TabG.low bh (low0 (low0 (low0 (low0 (low1 ap.grw au.grw (nt ((World.grownBy.refl _ none)).size (Nat.le_of_eq ap.eq.symm))) bn) bp) av) a8)), (TabG.low (TabG.low bx av) a8), (TabG.low (TabG.low bw av) a8), Z, Z, Z, Z, dg, (d7.grown0 a8)⟩ ?_)))))))
 rintro mm ik gq ⟨k, ib, hk, az, bm, ar, bb, bu, bi, bf, cc, dr⟩
 refine Xq (Xa (Xb (v := vi (k : Int)) bb Z (Xb (v := .slice ag E.length V) bf Z (Yu (by kernel_rfl) Z Z (Qa (q := decide ((k : Int) < (E.length : Int))) Z Z Z Z (Xc (Xy Z (fun al => ?_) (fun al => ?_))))))))
 have iu := of_decide_eq_true al
 refine Xw (Xu (Xq (Yc (Xa (Xb (v := .slice ag E.length V) bf Z (Xb (v := vi (k : Int)) bb Z ?_))))))
 obtain ⟨ii, je, d9, da, di, dm⟩ := SlAt.at (TabG.at ar).1 (Yi (xg E k))
 have gx := TabLen.at bc (xg E k)
 refine Xz Y2 Z Z da di (by omega) (by omega) Z (Xd (o' := d9 + 4) Q6 Z Z Z (Xh (v := vi (mAt E k).t.num) X1 Z (dm 4 _ Z) Z (Xe (v := vi (mAt E k).t.num) Z Z (Xc (Xq (X7 (fun f' w' => (f' 3 = .slice (pa ai) G.length ac ∧ f' 4 = pt a9 0 ∧ f' 7 = .slice ag E.length V ∧ f' 9 = vi (k : Int) ∧ f' 99 = vb (((((decide ((mAt E k).t.kind = 1)) && (!(decide ((mAt E k).t.num = (mAt G k).t.num)))) && (!(decide ((mAt E k).t.num = 0)))) && (!(decide ((mAt E k).t.num = J.n)))) && (!(decide ((mAt E k).t.num = J.n % 2))))) ∧ gq = w') ?_ ?_))))))
 refine Xb (v := .slice ag E.length V) bf Z (Xb (v := vi (k : Int)) bb Z (Xz Y2 Z Z da di (by omega) (by omega) Z (Xd (o' := d9) Y9 Z Z Z (Xh (v := vi (mAt E k).t.kind) X1 Z (dm 0 _ Z) Z (X3 (q := decide ((mAt E k).t.kind = 1)) Z Z Z Z (Xb (v := vb (decide ((mAt E k).t.kind = 1))) Z Z ?_))))))
 rcases Yf (decide ((mAt E k).t.kind = 1)) with ad | ad
 have iv := of_decide_eq_true ad
 refine Xf Z Z Z ad (Xb (v := vi (mAt E k).t.num) Z Z (Xf Z Z Z ad (Xb (v := .slice (pa ai) G.length ac) bu Z (Xf Z Z Z ad (Xb (v := vi (k : Int)) bb Z (Xf Z Z Z ad ?_))))))
 obtain ⟨ij, jf, gk, ea, ey, fc⟩ := SlAt.at (TabG.at az).1 (Yi (xg G k))
 have gy := TabLen.at bd (xg G k)
 refine Xz Y2 Z Z ea ey (by omega) (by omega) Z (Xf Z Z Z ad (Xd (o' := gk + 4) Q6 Z Z Z (Xf Z Z Z ad (Xh (v := vi (mAt G k).t.num) X1 Z (fc 4 _ Z) Z (Xf Z Z Z ad (Y8 (q := !(decide ((mAt E k).t.num = (mAt G k).t.num))) Z Z Z Z (Xs (v := vb (!(decide ((mAt E k).t.num = (mAt G k).t.num)))) Z ad Z Z (Xb (v := vb (!(decide ((mAt E k).t.num = (mAt G k).t.num)))) Z Z ?_))))))))
 rcases Yf (!(decide ((mAt E k).t.num = (mAt G k).t.num))) with am | am
 have bj := Q2 am
 have iw := of_decide_eq_false bj
 refine Xf Z Z Z am (Xb (v := vi (mAt E k).t.num) Z Z (Xf Z Z Z am (Y8 (q := !(decide ((mAt E k).t.num = 0))) Z Z Z Z (Xs (v := vb (!(decide ((mAt E k).t.num = 0)))) Z am Z Z (Xb (v := vb (!(decide ((mAt E k).t.num = 0)))) Z Z ?_)))))
 rcases Yf (!(decide ((mAt E k).t.num = 0))) with an | an
 have ca := Q2 an
 have ix := of_decide_eq_false ca
 refine Xf Z Z Z an (Xb (v := vi (mAt E k).t.num) Z Z (Xf Z Z Z an (Xd (o' := 4) Jk bi Z Z (Xf Z Z Z an (Xh (v := vi J.n) X1 Z (dr.cell Z) Z (Xf Z Z Z an (Y8 (q := !(decide ((mAt E k).t.num = J.n))) Z Z Z Z (Xs (v := vb (!(decide ((mAt E k).t.num = J.n)))) Z an Z Z (Xb (v := vb (!(decide ((mAt E k).t.num = J.n)))) Z Z ?_)))))))))
 rcases Yf (!(decide ((mAt E k).t.num = J.n))) with ao | ao
 have cx := Q2 ao
 have iy := of_decide_eq_false cx
 exact Xf Z Z Z ao (Xb (v := vi (mAt E k).t.num) Z Z (Xf Z Z Z ao (Xd (o' := 4) Jk bi Z Z (Xf Z Z Z ao (Xh (v := vi J.n) X1 Z (dr.cell Z) Z (Xf Z Z Z ao (Q8 (c := J.n % 2) Z Z (by omega) (by omega) (by omega) Z Z (Xf Z Z Z ao (Y8 (q := !(decide ((mAt E k).t.num = J.n % 2))) Z Z Z Z (Xs (v := vb (!(decide ((mAt E k).t.num = J.n % 2)))) Z ao Z Z (Xc ⟨⟨bu, bi, bf, bb, (congrArg Value.bool (by first | (simp only [aj, ak, ae, al, ad, am, bj, an, ca, ao, cx, af, ah, ab, b0, b1, b2, b3, b4, b5, b6, b7, b8, b9]; done) | simp [aj, ak, ae, al, ad, am, bj, an, ca, ao, cx, af, ah, ab]))⟩, Z⟩)))))))))))
 have cy := Qx ao
 have iz := of_decide_eq_true cy
 iterate 5 refine Xi rfl rfl rfl ao rfl ?_
 exact Xo (v := vb false) Z ao Z Z (Xc ⟨⟨bu, bi, bf, bb, (congrArg Value.bool (by first | (simp only [aj, ak, ae, al, ad, am, bj, an, ca, ao, cy, af, ah, ab, b0, b1, b2, b3, b4, b5, b6, b7, b8, b9]; done) | simp [aj, ak, ae, al, ad, am, bj, an, ca, ao, cy, af, ah, ab]))⟩, Z⟩)
 have cz := Qx an
 have i0 := of_decide_eq_true cz
 iterate 4 refine Xi rfl rfl rfl an rfl ?_
 refine Xo (v := vb false) Z an Z Z (Xb (v := vb false) Z Z ?_)
 iterate 5 refine Xi rfl rfl rfl rfl rfl ?_
 exact Xo (v := vb false) Z Z Z Z (Xc ⟨⟨bu, bi, bf, bb, (congrArg Value.bool (by first | (simp only [aj, ak, ae, al, ad, am, bj, an, cz, af, ah, ab, b0, b1, b2, b3, b4, b5, b6, b7, b8, b9]; done) | simp [aj, ak, ae, al, ad, am, bj, an, cz, af, ah, ab]))⟩, Z⟩)
 have c8 := Qx am
 have i1 := of_decide_eq_true c8
 refine Xi Z Z Z am Z (Xi Z Z Z am Z (Xo (v := vb false) Z am Z Z (Xb (v := vb false) Z Z ?_)))
 iterate 4 refine Xi rfl rfl rfl rfl rfl ?_
 refine Xo (v := vb false) Z Z Z Z (Xb (v := vb false) Z Z ?_)
 iterate 5 refine Xi rfl rfl rfl rfl rfl ?_
 exact Xo (v := vb false) Z Z Z Z (Xc ⟨⟨bu, bi, bf, bb, (congrArg Value.bool (by first | (simp only [aj, ak, ae, al, ad, am, c8, af, ah, ab, b0, b1, b2, b3, b4, b5, b6, b7, b8, b9]; done) | simp [aj, ak, ae, al, ad, am, c8, af, ah, ab]))⟩, Z⟩)
 have i2 := of_decide_eq_false ad
 iterate 7 refine Xi rfl rfl rfl ad rfl ?_
 refine Xo (v := vb false) Z ad Z Z (Xb (v := vb false) Z Z (Xi Z Z Z Z Z (Xi Z Z Z Z Z (Xo (v := vb false) Z Z Z Z (Xb (v := vb false) Z Z ?_)))))
 iterate 4 refine Xi rfl rfl rfl rfl rfl ?_
 refine Xo (v := vb false) Z Z Z Z (Xb (v := vb false) Z Z ?_)
 iterate 5 refine Xi rfl rfl rfl rfl rfl ?_
 exact Xo (v := vb false) Z Z Z Z (Xc ⟨⟨bu, bi, bf, bb, (congrArg Value.bool (by first | (simp only [aj, ak, ae, al, ad, af, ah, ab, b0, b1, b2, b3, b4, b5, b6, b7, b8, b9]; done) | simp [aj, ak, ae, al, ad, af, ah, ab]))⟩, Z⟩)
 rintro il jt ⟨⟨fk, fm, fo, fp, fq⟩, rfl⟩
 refine Xy fq (fun bg => ?_) (fun bg => ?_)
 have d4 := Uk bg
 have d5 := Uk d4
 have d6 := Uk d5
 have fz := Uk d6
 have i3 := of_decide_eq_true fz
 have f8 := Ul d6
 have f9 := Q2 f8
 have i4 := of_decide_eq_false f9
 have ga := Ul d5
 have gb := Q2 ga
 have i5 := of_decide_eq_false gb
 have gc := Ul d4
 have gf := Q2 gc
 have i6 := of_decide_eq_false gf
 have gg := Ul bg
 have gh := Q2 gg
 have i7 := of_decide_eq_false gh
 refine Xa (Xe (v := vb false) Z Z (Xc (Xt (Yk (Qi (Yk (Yk (Qi (Yk (⟨vb false, Yp Z Z, ?_, cc⟩))))))))))
 exact absurd bg (fun hb => Ct (Cs aw ae k) (C1 aw ae k).1 hb)
 refine Xw (Xu (Xa (Xe (v := vi 0) Z Z (Xc (Yc (Qm (fun mm f' w' => ∃ (j : Nat), mm = (mAt E k).t.queue.length - j ∧ j ≤ (mAt E k).t.queue.length ∧ TabG w.heap.size w' (pa ai) G ∧ TabG dv.heap.size w' (pa be) aq ∧ TabG dw.heap.size w' (ag) E ∧ f' 11 = vi (j : Int) ∧ f' 3 = .slice (pa ai) G.length ac ∧ f' 4 = pt a9 0 ∧ f' 7 = .slice ag E.length V ∧ f' 9 = vi (k : Int) ∧ w.grownBy w' none ∧ Blk w' a9 25 #[vi J.kind, vi J.run, vi J.a, vi J.b, vi J.n]) ((mAt E k).t.queue.length - 0) ⟨0, Z, (Nat.zero_le _), az, bm, ar, Z, fk, fm, fo, fp, cc, dr⟩ ?_))))))
 rintro mm im gr ⟨j, ic, hj, az, bm, ar, co, d3, ct, ce, cf, dh, dt⟩
 refine Xq (Xa (Xb (v := vi (j : Int)) co Z (Xb (v := .slice ag E.length V) ce Z (Xb (v := vi (k : Int)) cf Z ?_))))
 obtain ⟨d0, jg, cm, db, dk, dn⟩ := SlAt.at (TabG.at ar).1 (Yi (xg E k))
 have gz := TabLen.at bc (xg E k)
 refine Xz Y2 Z Z db dk (by omega) (by omega) Z (Xd (o' := cm + 6) Qt Z Z Z (Xh (v := .slice (mAt E k).qa (mAt E k).t.queue.length (mAt E k).qc) Js Z (dn 6 _ Z) Z (Yu (by kernel_rfl) Z Z (Qa (q := decide ((j : Int) < ((mAt E k).t.queue.length : Int))) Z Z Z Z (Xc (Xy Z (fun bk => ?_) (fun bk => ?_)))))))
 have i8 := of_decide_eq_true bk
 refine Xw (Xu (Xq (Yc (Xq ?_))))
 obtain ⟨fh, jh, gl, eb, ez, fd⟩ := SlAt.at (TabAt.th (TabG.at ar) (xg E k)).2.1 (Yi (Ve (lq j (mAt E k).t.queue.length)))
 refine Yw (m := 10) (vals := [(110, .slice ag E.length V), (111, vi (k : Int)), (112, pt d0 cm), (113, pt d0 (cm + 6)), (114, .slice (mAt E k).qa (mAt E k).t.queue.length (mAt E k).qc), (115, vi (j : Int)), (116, pt fh gl), (117, vi (iAt (mAt E k).t.queue j)), (118, pt a9 4), (119, vi J.n)]) (fun w' => gr.grownBy w' none) Yy (by kernel_rfl) (X6 _) ?_ ?_
 exact yl Z (fun _ _ k => Xb (v := .slice ag E.length V) ce Z k) (yl Z (fun _ _ kq => Xb (v := vi (k : Int)) cf Z kq) (yl Z (fun _ _ k => Xz Y2 Z Z db dk (by omega) (by omega) Z k) (yl Z (fun _ _ k => Xd (o' := cm + 6) Qt Z Z Z k) (yl Z (fun _ ej kq => Xh (v := .slice (mAt E k).qa (mAt E k).t.queue.length (mAt E k).qc) Js Z ((X9 dn ej) 6 _ Z) Z kq) (yl Z (fun _ _ k => Xb (v := vi (j : Int)) co Z k) (yl Z (fun _ _ k => Xz J6 Z Z eb ez (by omega) (by omega) Z k) (yl Z (fun _ ek kq => Xh (v := vi (iAt (mAt E k).t.queue j)) X1 Z ((X9 fd ek) 0 _ Z) Z kq) (yl Z (fun _ _ k => Xd (o' := 4) Jk ct Z Z k) (yl Z (fun _ em k => Xh (v := vi J.n) X1 Z ((dt.grown0 em).cell Z) Z k) Y5)))))))))
 intro ju br
 refine X3 (q := decide ((iAt (mAt E k).t.queue j) = J.n)) Z Z Z Z (Xe (v := vb (decide ((iAt (mAt E k).t.queue j) = J.n))) Z Z (Xc (Xu (Xq (Xa (Xe (v := vi 0) Z Z (Xc (Yc (Qm (fun mm f' w' => ∃ (m : Nat) (f : Bool), mm = (mAt G k).t.queue.length - m ∧ (f = false → ¬ iAt (mAt E k).t.queue j = J.n ∧ ∀ i : Nat, i < m → ¬ iAt (mAt G k).t.queue i = iAt (mAt E k).t.queue j) ∧ m ≤ (mAt G k).t.queue.length ∧ TabG w.heap.size w' (pa ai) G ∧ TabG dv.heap.size w' (pa be) aq ∧ TabG dw.heap.size w' (ag) E ∧ f' 12 = vb f ∧ f' 13 = vi (m : Int) ∧ f' 3 = .slice (pa ai) G.length ac ∧ f' 4 = pt a9 0 ∧ f' 7 = .slice ag E.length V ∧ f' 9 = vi (k : Int) ∧ f' 11 = vi (j : Int) ∧ w.grownBy w' none ∧ Blk w' a9 25 #[vi J.kind, vi J.run, vi J.a, vi J.b, vi J.n]) ((mAt G k).t.queue.length - 0) ⟨0, (decide ((iAt (mAt E k).t.queue j) = J.n)), Z, (fun h => ⟨of_decide_eq_false h, fun i hi => absurd hi (Nat.not_lt_zero i)⟩), (Nat.zero_le _), (TabG.low az br), (TabG.low bm br), (TabG.low ar br), Z, Z, d3, ct, ce, cf, co, (low0 dh br), (dt.grown0 br)⟩ ?_)))))))))
 rintro mm io dx ⟨m, f, ie, hf, hm, az, bm, ar, cv, cg, bz, cw, cj, bv, ck, cd, d8⟩
 refine Xq (Xa (Xb (v := vi (m : Int)) cg Z (Xb (v := .slice (pa ai) G.length ac) bz Z (Xb (v := vi (k : Int)) bv Z ?_))))
 obtain ⟨d1, ji, cn, dc, dl, dp⟩ := SlAt.at (TabG.at az).1 (Yi (xg G k))
 have g0 := TabLen.at bd (xg G k)
 refine Xz Y2 Z Z dc dl (by omega) (by omega) Z (Xd (o' := cn + 6) Qt Z Z Z (Xh (v := .slice (mAt G k).qa (mAt G k).t.queue.length (mAt G k).qc) Js Z (dp 6 _ Z) Z (Yu (by kernel_rfl) Z Z (Qa (q := decide ((m : Int) < ((mAt G k).t.queue.length : Int))) Z Z Z Z (Xc (Xy Z (fun bl => ?_) (fun bl => ?_)))))))
 have i9 := of_decide_eq_true bl
 refine Xw (Xu (Xq (Yc (P0 (fun f' w' => (f' 3 = .slice (pa ai) G.length ac ∧ f' 4 = pt a9 0 ∧ f' 7 = .slice ag E.length V ∧ f' 9 = vi (k : Int) ∧ f' 11 = vi (j : Int) ∧ f' 12 = vb (f || (decide ((iAt (mAt G k).t.queue m) = (iAt (mAt E k).t.queue j)))) ∧ f' 13 = vi (m : Int)) ∧ dx.grownBy w' none) ?_ ?_))))
 rcases Yf (f) with O | O
 refine Yw (m := 18) (vals := [(131, vb f), (132, vb f), (133, undef), (134, undef), (135, undef), (136, undef), (137, undef), (138, undef), (139, undef), (140, undef), (141, undef), (142, undef), (143, undef), (144, undef), (145, undef), (146, undef), (147, undef), (148, undef)]) (fun w' => dx.grownBy w' none) Yy (by kernel_rfl) (X6 _) ?_ ?_
 refine yl Z (fun _ _ k => Xb (v := vb f) cv Z k) (yl Z (fun _ _ k => Xb (v := vb f) Z Z k) (yl Z (fun _ _ k => Xi Z Z Z O Z k) (yl Z (fun _ _ k => Xi Z Z Z O Z k) (yl Z (fun _ _ k => Xi Z Z Z O Z k) (yl Z (fun _ _ k => Xi Z Z Z O Z k) (yl Z (fun _ _ k => Xi Z Z Z O Z k) (yl Z (fun _ _ k => Xi Z Z Z O Z k) (yl Z (fun _ _ k => Xi Z Z Z O Z k) (yl Z (fun _ _ k => Xi Z Z Z O Z k) (yl Z (fun _ _ k => Xi Z Z Z O Z k) ?_))))))))))
 exact yl Z (fun _ _ k => Xi Z Z Z O Z k) (yl Z (fun _ _ k => Xi Z Z Z O Z k) (yl Z (fun _ _ k => Xi Z Z Z O Z k) (yl Z (fun _ _ k => Xi Z Z Z O Z k) (yl Z (fun _ _ k => Xi Z Z Z O Z k) (yl Z (fun _ _ k => Xi Z Z Z O Z k) (yl Z (fun _ _ k => Xi Z Z Z O Z k) Y5))))))
 intro jv eo
 exact Xi Z Z Z O Z (Xs (v := vb true) Z O Z Z (Xe (v := vb true) Z Z (Xc (Xu ⟨⟨bz, cw, cj, bv, ck, (congrArg Value.bool (by first | (simp only [aj, ak, ae, al, bg, bk, bl, O, af, ah, ab, b0, b1, b2, b3, b4, b5, b6, b7, b8, b9]; done) | simp [aj, ak, ae, al, bg, bk, bl, O, af, ah, ab])), cg⟩, eo⟩))))
 obtain ⟨fi, jj, gm, ed, e0, fe⟩ := SlAt.at (TabAt.th (TabG.at az) (xg G k)).2.1 (Yi (Ve (lq m (mAt G k).t.queue.length)))
 obtain ⟨d2, jk, du, ee, fa, ff⟩ := SlAt.at (TabG.at ar).1 (Yi (xg E k))
 have g1 := TabLen.at bc (xg E k)
 obtain ⟨fj, jl, gp, ef, fb, fg⟩ := SlAt.at (TabAt.th (TabG.at ar) (xg E k)).2.1 (Yi (Ve (lq j (mAt E k).t.queue.length)))
 refine Yw (m := 18) (vals := [(131, vb f), (132, vb f), (133, .slice (pa ai) G.length ac), (134, vi (k : Int)), (135, pt d1 cn), (136, pt d1 (cn + 6)), (137, .slice (mAt G k).qa (mAt G k).t.queue.length (mAt G k).qc), (138, vi (m : Int)), (139, pt fi gm), (140, vi (iAt (mAt G k).t.queue m)), (141, .slice ag E.length V), (142, vi (k : Int)), (143, pt d2 du), (144, pt d2 (du + 6)), (145, .slice (mAt E k).qa (mAt E k).t.queue.length (mAt E k).qc), (146, vi (j : Int)), (147, pt fj gp), (148, vi (iAt (mAt E k).t.queue j))]) (fun w' => dx.grownBy w' none) Yy (by kernel_rfl) (X6 _) ?_ ?_
 refine yl Z (fun _ _ k => Xb (v := vb f) cv Z k) (yl Z (fun _ _ k => Xb (v := vb f) Z Z k) (yl Z (fun _ _ k => Xf Z Z Z O (Xb (v := .slice (pa ai) G.length ac) bz Z k)) (yl Z (fun _ _ kq => Xf Z Z Z O (Xb (v := vi (k : Int)) bv Z kq)) (yl Z (fun _ _ k => Xf Z Z Z O (Xz Y2 Z Z dc dl (by omega) (by omega) Z k)) (yl Z (fun _ _ k => Xf Z Z Z O (Xd (o' := cn + 6) Qt Z Z Z k)) (yl Z (fun _ ep kq => Xf Z Z Z O (Xh (v := .slice (mAt G k).qa (mAt G k).t.queue.length (mAt G k).qc) Js Z ((X9 dp ep) 6 _ Z) Z kq)) (yl Z (fun _ _ k => Xf Z Z Z O (Xb (v := vi (m : Int)) cg Z k)) (yl Z (fun _ _ k => Xf Z Z Z O (Xz J6 Z Z ed e0 (by omega) (by omega) Z k)) (yl Z (fun _ er kq => Xf Z Z Z O (Xh (v := vi (iAt (mAt G k).t.queue m)) X1 Z ((X9 fe er) 0 _ Z) Z kq)) (yl Z (fun _ _ k => Xf Z Z Z O (Xb (v := .slice ag E.length V) cj Z k)) ?_))))))))))
 exact yl Z (fun _ _ kq => Xf Z Z Z O (Xb (v := vi (k : Int)) bv Z kq)) (yl Z (fun _ _ k => Xf Z Z Z O (Xz Y2 Z Z ee fa (by omega) (by omega) Z k)) (yl Z (fun _ _ k => Xf Z Z Z O (Xd (o' := du + 6) Qt Z Z Z k)) (yl Z (fun _ eu kq => Xf Z Z Z O (Xh (v := .slice (mAt E k).qa (mAt E k).t.queue.length (mAt E k).qc) Js Z ((X9 ff eu) 6 _ Z) Z kq)) (yl Z (fun _ _ k => Xf Z Z Z O (Xb (v := vi (j : Int)) ck Z k)) (yl Z (fun _ _ k => Xf Z Z Z O (Xz J6 Z Z ef fb (by omega) (by omega) Z k)) (yl Z (fun _ ew kq => Xf Z Z Z O (Xh (v := vi (iAt (mAt E k).t.queue j)) X1 Z ((X9 fg ew) 0 _ Z) Z kq)) Y5))))))
 intro jw ex
 exact Xf Z Z Z O (X3 (q := decide ((iAt (mAt G k).t.queue m) = (iAt (mAt E k).t.queue j))) Z Z Z Z (Xo (v := vb (decide ((iAt (mAt G k).t.queue m) = (iAt (mAt E k).t.queue j)))) Z O Z Z (Xe (v := vb (decide ((iAt (mAt G k).t.queue m) = (iAt (mAt E k).t.queue j)))) Z Z (Xc (Xu ⟨⟨bz, cw, cj, bv, ck, (congrArg Value.bool (by first | (simp only [aj, ak, ae, al, bg, bk, bl, O, af, ah, ab, b0, b1, b2, b3, b4, b5, b6, b7, b8, b9]; done) | simp [aj, ak, ae, al, bg, bk, bl, O, af, ah, ab])), cg⟩, ex⟩)))))
 rintro ip jx ⟨⟨fr, ft, fu, fv, fw, fx, fy⟩, bq⟩
 exact Y7 (Xu (X2 (Xb (v := vi (m : Int)) fy Z (Yn (c := (m : Int) + 1) Z Z (by omega) (by omega) (by omega) Z (Xe (v := vi ((m : Int) + 1)) Z Z (Xc (Xu (⟨(mAt G k).t.queue.length - (m + 1), by omega, (m + 1), (f || (decide ((iAt (mAt G k).t.queue m) = (iAt (mAt E k).t.queue j)))), Z, (fun h => Bc (hf (Bool.or_eq_false_iff.1 h).1) (of_decide_eq_false (Bool.or_eq_false_iff.1 h).2)), (by omega), (TabG.low az bq), (TabG.low bm bq), (TabG.low ar bq), fx, Z, fr, ft, fu, fv, fw, (low0 cd bq), (d8.grown0 bq)⟩))))))))
 have ja := of_decide_eq_false bl
 refine Qe (Qb (Qb (Jm (Xu (Xa (Xb (v := vb f) cv Z (Yl (b' := !f) Z Z Z (Xc (Xy Z (fun c9 => ?_) (fun c9 => ?_))))))))))
 have gi := Q2 c9
 refine Xa (Xe (v := vb false) Z Z (Xc (Xt (Qi (Yk (Yk (Qi (Qi (Yk (Yk (Qi (Yk ?_))))))))))))
 refine ⟨vb false, Yp Z Z, ?_, cd⟩
 exact absurd (hf gi) (fun hb => Oc (j := j) (Cs aw ae k) (by omega) hb.1 (fun i hi => hb.2 i (by omega)))
 have jb := Qx c9
 exact Xw (Y7 (Xu (X2 (Xb (v := vi (j : Int)) ck Z (Yn (c := (j : Int) + 1) Z Z (by omega) (by omega) (by omega) Z (Xe (v := vi ((j : Int) + 1)) Z Z (Xc (Xu (⟨(mAt E k).t.queue.length - (j + 1), by omega, (j + 1), Z, (by omega), az, bm, ar, Z, bz, cw, cj, bv, cd, d8⟩)))))))))
 have jc := of_decide_eq_false bk
 exact Qe (Qb (Qb (Jm (Y7 (Xu (X2 (Xb (v := vi (k : Int)) cf Z (Yn (c := (k : Int) + 1) Z Z (by omega) (by omega) (by omega) Z (Xe (v := vi ((k : Int) + 1)) Z Z (Xc (Xu (⟨G.length - (k + 1), by omega, (k + 1), Z, (by omega), az, bm, ar, Z, d3, ct, ce, dh, dt⟩))))))))))))
 have jd := of_decide_eq_false al
 refine Qe (Qb (Qb (Jm (Xu (Xa (Xe (v := vb true) Z Z (Xc (Xt (⟨vb true, Yp Z Z, ?_, cc⟩)))))))))
 rfl
end Go.Proofs.YtjpgffmkcmcolaaGreatDoor
end
