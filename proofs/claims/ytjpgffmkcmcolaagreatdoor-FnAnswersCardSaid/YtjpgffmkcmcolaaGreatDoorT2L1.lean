/- Laws and walks: my templates, and what a program of mine (gen.py) printed out of the functions; only what the row reaches. -/
import Derived.Test.YtjpgffmkcmcolaaGreatDoorT25
section
namespace Go.Proofs.YtjpgffmkcmcolaaGreatDoor
open Go.RowKit Go.Dw
set_option maxRecDepth 100000
set_option maxHeartbeats 4000000
set_option linter.unusedSimpArgs false
set_option linter.unusedVariables false
theorem Va : goFn Tryz.prog 15 = true := by kernel_rfl
theorem Vb : goFn Tryz.prog 16 = true := by kernel_rfl
theorem K8 : goFn Tryz.prog 17 = true := by kernel_rfl
theorem Kc : goFn Tryz.prog 18 = true := by kernel_rfl
theorem Vc : goFn Tryz.prog 19 = true := by kernel_rfl
theorem law_FnAnswers (bs : List Int) (a : Option Addr) (c : Nat) (w : World) (bw : SlAt w a 1 (bs.map bcell)) (hb : ∀ b ∈ bs, 0 ≤ b ∧ b ≤ 255) (hn : bs.length ≤ 9223372036854775807) (hc : bs.length ≤ c) (hE : ErrT w) : CallsR Tryz.prog 3 #[.slice a bs.length c] w (fun v w' => v = .bool true ∧ w.grownBy w' none) := by
 refine Xx (n := 77) Tryz.func3 Z Tryz.ntmps3 Z ?_
 have bq := World.grownBy.refl w none
 have hs := SlAt.lt Kl (by omega) bw
 refine Xa (Xe (v := vb false) Z Z (Xc (Xq (Xa (Xb (v := .slice a bs.length c) Z Z (Yu (by kernel_rfl) Z Z (Jd (q := decide (1048576 < (bs.length : Int))) Z Z Z Z (Xc (Xy Z (fun ad => ?_) (fun ad => ?_))))))))))
 have cy := of_decide_eq_true ad
 refine Xa (Xe (v := vb true) Z Z (Xc (Xt (Yk (⟨vb true, Yp Z Z, ?_, bq⟩)))))
 rfl
 have cz := of_decide_eq_false ad
 refine Xw (Xu (Xa (Xb (v := .slice a bs.length c) Z Z (Xl Va (Xg Z Xk) Z (J0 bs a c _ (SlAt.low bw bq) hb (by omega) (by omega)) ?_))))
 rintro _ dl ⟨av, ak, G, E, rfl, aw, bm, bx, cn, br⟩
 have bi := low0 bq br
 have az := bm.len
 refine Xb (v := .tuple #[.slice (pa av) G.length ak, .agg #[vi E.kind, vi E.run, vi E.a, vi E.b, vi E.n]]) Z Z (X4 (v := .slice (pa av) G.length ak) Z Z Z (X4 (v := .agg #[vi E.kind, vi E.run, vi E.a, vi E.b, vi E.n]) Z Z Z (Ye (cs := #[vi 0, vi 0, vi 0, vi 0, vi 0]) Uh Z Z ?_)))
 intro co dm aj
 have cc := Yj aj bi
 refine Xe (v := .slice (pa av) G.length ak) Z Z (X0 (vs := [vi E.kind, vi E.run, vi E.a, vi E.b, vi E.n]) (cs' := #[vi E.kind, vi E.run, vi E.a, vi E.b, vi E.n]) Y1 Z Z Z (by simp [Value.oneCell']) aj.blk (Nat.le_of_ble_eq_true Z) Z ?_)
 intro dn al
 refine Xc (Xa (Xb (v := .slice (pa av) G.length ak) Z Z (Xp (vs := [vi E.kind, vi E.run, vi E.a, vi E.b, vi E.n]) Y1 Z Z (al.blk.rangeL 0 5 Z) Z ?_)))
 have cd := (al.blk).lt
 refine Xl Vb (Xg Z (Xg Z Xk)) Z (Ku E _ G _ _ (TabG.at (TabG.low aw (low1 aj.grw al.grw (nt ((World.grownBy.refl _ none)).size (Nat.le_of_eq aj.eq.symm))))) az (by omega)) ?_
 rintro _ dp ⟨bb, ao, am, rfl, bl, ar, a8⟩
 have bj := low0 (low1 (low0 bi aj.grw) al.grw (by omega)) a8
 have bg := Q3 ar
 have cg := Qo ar
 refine Xb (v := .tuple #[.slice (pa bb) am.length ao, vi (callDo (tabT G) E).2]) Z Z (X4 (v := .slice (pa bb) am.length ao) Z Z Z (X4 (v := vi (callDo (tabT G) E).2) Z Z Z (Xe (v := .slice (pa bb) am.length ao) Z Z (Xe (v := vi (callDo (tabT G) E).2) Z Z (Xc (Xa (Xb (v := .slice (pa av) G.length ak) Z Z ?_)))))))
 have bk := (al.blk.grown0 a8)
 refine Xp (vs := [vi E.kind, vi E.run, vi E.a, vi E.b, vi E.n]) Y1 Z Z (bk.rangeL 0 5 Z) Z ?_
 have ce := (bk).lt
 refine Xl K8 (Xg Z (Xg Z Xk)) Z (K2 E _ G _ _ (TabG.at (TabG.low aw (low0 (low1 aj.grw al.grw (nt ((World.grownBy.refl _ none)).size (Nat.le_of_eq aj.eq.symm))) a8))) az (by omega) (ErrT.grown0 hE bj)) ?_
 rintro _ dq ⟨bc, ap, an, rfl, be, au, a9⟩
 have bh := Q3 au
 have cj := Qo au
 refine Xb (v := .tuple #[.slice bc an.length ap, vi (callDo (tabT G) E).2]) Z Z (X4 (v := .slice bc an.length ap) Z Z Z (X4 (v := vi (callDo (tabT G) E).2) Z Z Z (Xe (v := .slice bc an.length ap) Z Z (Xe (v := vi (callDo (tabT G) E).2) Z Z (Xc (Xq (Xa (Xb (v := vi (callDo (tabT G) E).2) Z Z (Xb (v := vi (callDo (tabT G) E).2) Z Z (Y8 (q := false) Z Z (by simp) Z (Xb (v := vb false) Z Z (Xf Z Z Z Z ?_))))))))))))
 refine Xb (v := .slice bc an.length ap) Z Z (Xf Z Z Z Z (Xb (v := .slice (pa bb) am.length ao) Z Z (Xf Z Z Z Z ?_)))
 have bf := (TabG.low bl a9)
 refine Xl Kc (Xg Z (Xg Z Xk)) Z (Q9 _ an am _ _ _ _ (TabG.at be) (TabG.at bf) bh bg (by omega) (by omega)) ?_
 rintro _ dr ⟨rfl, aq⟩
 refine Xf Z Z Z Z (Yl (b' := false) (congrArg Value.bool (decide_eq_true (au.trans ar.symm))) Z Z (Xo (v := vb false) Z Z Z Z (Xb (v := vb false) Z Z (Xf Z Z Z Z (Xb (v := .slice (pa av) G.length ak) Z Z (Xf Z Z Z Z ?_))))))
 have bn := ((bk.grown0 a9).grown0 aq)
 refine Xp (vs := [vi E.kind, vi E.run, vi E.a, vi E.b, vi E.n]) Y1 Z Z (bn.rangeL 0 5 Z) Z (Xf Z Z Z Z (Xl Vc (Xg Z (Xg Z Xk)) Z (Vl E _ G _ _ (TabG.at (TabG.low aw (low0 (low0 (low0 (low1 aj.grw al.grw (nt ((World.grownBy.refl _ none)).size (Nat.le_of_eq aj.eq.symm))) a8) a9) aq))) az (by omega)) ?_))
 rintro _ bp ⟨rfl, ba⟩
 have bd := low0 (low0 (low0 bj a9) aq) ba
 refine Xf Z Z Z Z (Yl (b' := !callPoss (tabT G) E) Z Z Z (Xo (v := vb (!callPoss (tabT G) E)) Z Z Z Z (Xc (Xy Z (fun ae => ?_) (fun ae => ?_)))))
 have c8 := Q2 ae
 refine Xa (Xb (v := vi (callDo (tabT G) E).2) Z Z (Xb (v := vi (callDo (tabT G) E).2) Z Z (X3 (q := true) Z Z (by simp) Z (Xb (v := vb true) Z Z (Xf Z Z Z Z (Xb (v := .slice bc an.length ap) Z Z (Xf Z Z Z Z (Xb (v := .slice (pa bb) am.length ao) Z Z (Xf Z Z Z Z (Xl Kc (Xg Z (Xg Z Xk)) Z (Q9 _ an am _ _ _ _ (TabG.at (TabG.low (TabG.low be aq) ba)) (TabG.at (TabG.low (TabG.low bf aq) ba)) bh bg (by omega) (by omega)) ?_))))))))))
 rintro _ dt ⟨rfl, bt⟩
 refine Xs (v := vb true) Z Z (congrArg Value.bool (decide_eq_true (au.trans ar.symm))) Z (Xe (v := vb true) Z Z (Xc (Xt (Yk (⟨vb true, Yp Z Z, ?_, (low0 bd bt)⟩)))))
 rfl
 have O := Qx ae
 obtain ⟨V, ab, J⟩ := Yh O
 have bz := Yq ab
 have ca := (Y3 J).1
 have cm := Qp V J
 have cf := Jb V
 have hde := Qs O
 have hrk := Qn (Yh O).2.2
 have ck := Q1 ar O
 have cl := Q1 au O
 refine Xw (Xu (Xa (Xd (o' := 0) Ja Z Z Z (Xh (v := vi E.kind) X1 Z ((bn.grown0 ba).cell Z) Z (Xe (v := vi E.kind) Z Z (Xc (Xq (Xa (Xb (v := vi (callDo (tabT G) E).2) Z Z (X3 (q := decide ((callDo (tabT G) E).2 = (-4))) Z Z Z Z (Xc (Xy Z (fun ac => ?_) (fun ac => ?_)))))))))))))
 have c9 := of_decide_eq_true ac
 refine X7 (fun f' w' => (f' 2 = vb (((decide (E.kind = 6)) || (decide (E.kind = 7))) || (decide (E.kind = 8))) ∧ f' 8 = vi (callDo (tabT G) E).2 ∧ f' 9 = vi E.kind) ∧ bp = w') ?_ ?_
 refine Xb (v := vi E.kind) Z Z (X3 (q := decide (E.kind = 6)) Z Z Z Z (Xb (v := vb (decide (E.kind = 6))) Z Z ?_))
 rcases Yf (decide (E.kind = 6)) with af | af
 have da := of_decide_eq_true af
 exact Xi Z Z Z af Z (Xi Z Z Z af Z (Xs (v := vb true) Z af Z Z (Xb (v := vb true) Z Z (Xi Z Z Z Z Z (Xi Z Z Z Z Z (Xs (v := vb true) Z Z Z Z (Xe (v := vb true) Z Z (Xc ⟨⟨(congrArg Value.bool (by first | (simp only [ad, ae, O, ac, af, V, ab, J, b0, b1, b2, b3, b4, b5, b6, b7, b8, b9]; done) | simp [ad, ae, O, ac, af, V, ab, J])), Z, Z⟩, Z⟩))))))))
 have db := of_decide_eq_false af
 refine Xf Z Z Z af (Xb (v := vi E.kind) Z Z (Xf Z Z Z af (X3 (q := decide (E.kind = 7)) Z Z Z Z (Xo (v := vb (decide (E.kind = 7))) Z af Z Z (Xb (v := vb (decide (E.kind = 7))) Z Z ?_)))))
 rcases Yf (decide (E.kind = 7)) with ah | ah
 have dc := of_decide_eq_true ah
 exact Xi Z Z Z ah Z (Xi Z Z Z ah Z (Xs (v := vb true) Z ah Z Z (Xe (v := vb true) Z Z (Xc ⟨⟨(congrArg Value.bool (by first | (simp only [ad, ae, O, ac, af, ah, V, ab, J, b0, b1, b2, b3, b4, b5, b6, b7, b8, b9]; done) | simp [ad, ae, O, ac, af, ah, V, ab, J])), Z, Z⟩, Z⟩))))
 have de := of_decide_eq_false ah
 exact Xf Z Z Z ah (Xb (v := vi E.kind) Z Z (Xf Z Z Z ah (X3 (q := decide (E.kind = 8)) Z Z Z Z (Xo (v := vb (decide (E.kind = 8))) Z ah Z Z (Xe (v := vb (decide (E.kind = 8))) Z Z (Xc ⟨⟨(congrArg Value.bool (by first | (simp only [ad, ae, O, ac, af, ah, V, ab, J, b0, b1, b2, b3, b4, b5, b6, b7, b8, b9]; done) | simp [ad, ae, O, ac, af, ah, V, ab, J])), Z, Z⟩, Z⟩))))))
 rintro cw du ⟨⟨bu, ct, cv⟩, rfl⟩
 refine Xt (Yk (⟨vb (((decide (E.kind = 6)) || (decide (E.kind = 7))) || (decide (E.kind = 8))), Yp Z bu, ?_, bd⟩))
 exact congrArg Value.bool (Bp O ac)
 have df := of_decide_eq_false ac
 refine Xw (Xu (X7 (fun f' w' => (f' 2 = vb (((decide ((callDo (tabT G) E).2 ≤ 0)) || (decide (E.kind = 1))) || (decide (E.kind = 7)))) ∧ bp = w') ?_ ?_))
 refine Xb (v := vi (callDo (tabT G) E).2) Z Z (Vo (q := decide ((callDo (tabT G) E).2 ≤ 0)) Z Z Z Z (Xb (v := vb (decide ((callDo (tabT G) E).2 ≤ 0))) Z Z ?_))
 rcases Yf (decide ((callDo (tabT G) E).2 ≤ 0)) with ag | ag
 have dg := of_decide_eq_true ag
 exact Xi Z Z Z ag Z (Xi Z Z Z ag Z (Xs (v := vb true) Z ag Z Z (Xb (v := vb true) Z Z (Xi Z Z Z Z Z (Xi Z Z Z Z Z (Xs (v := vb true) Z Z Z Z (Xe (v := vb true) Z Z (Xc ⟨(congrArg Value.bool (by first | (simp only [ad, ae, O, ac, ag, V, ab, J, b0, b1, b2, b3, b4, b5, b6, b7, b8, b9]; done) | simp [ad, ae, O, ac, ag, V, ab, J])), Z⟩))))))))
 have dh := of_decide_eq_false ag
 refine Xf Z Z Z ag (Xb (v := vi E.kind) Z Z (Xf Z Z Z ag (X3 (q := decide (E.kind = 1)) Z Z Z Z (Xo (v := vb (decide (E.kind = 1))) Z ag Z Z (Xb (v := vb (decide (E.kind = 1))) Z Z ?_)))))
 rcases Yf (decide (E.kind = 1)) with ai | ai
 have di := of_decide_eq_true ai
 exact Xi Z Z Z ai Z (Xi Z Z Z ai Z (Xs (v := vb true) Z ai Z Z (Xe (v := vb true) Z Z (Xc ⟨(congrArg Value.bool (by first | (simp only [ad, ae, O, ac, ag, ai, V, ab, J, b0, b1, b2, b3, b4, b5, b6, b7, b8, b9]; done) | simp [ad, ae, O, ac, ag, ai, V, ab, J])), Z⟩))))
 have dk := of_decide_eq_false ai
 exact Xf Z Z Z ai (Xb (v := vi E.kind) Z Z (Xf Z Z Z ai (X3 (q := decide (E.kind = 7)) Z Z Z Z (Xo (v := vb (decide (E.kind = 7))) Z ai Z Z (Xe (v := vb (decide (E.kind = 7))) Z Z (Xc ⟨(congrArg Value.bool (by first | (simp only [ad, ae, O, ac, ag, ai, V, ab, J, b0, b1, b2, b3, b4, b5, b6, b7, b8, b9]; done) | simp [ad, ae, O, ac, ag, ai, V, ab, J])), Z⟩))))))
 rintro cx dv ⟨bv, rfl⟩
 refine Xt (⟨vb (((decide ((callDo (tabT G) E).2 ≤ 0)) || (decide (E.kind = 1))) || (decide (E.kind = 7))), Yp Z bv, ?_, bd⟩)
 exact congrArg Value.bool (Bo O)
end Go.Proofs.YtjpgffmkcmcolaaGreatDoor
end
