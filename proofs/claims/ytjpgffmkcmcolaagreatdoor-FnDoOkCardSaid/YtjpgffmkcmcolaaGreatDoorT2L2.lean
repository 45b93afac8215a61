/- Laws and walks: my templates, and what a program of mine (gen.py) printed out of the functions; only what the row reaches. -/
import Derived.Test.YtjpgffmkcmcolaaGreatDoorT25
section
namespace Go.Proofs.YtjpgffmkcmcolaaGreatDoor
open Go.RowKit Go.Dw
set_option maxRecDepth 100000
set_option maxHeartbeats 4000000
set_option linter.unusedSimpArgs false
set_option linter.unusedVariables false
theorem Va : goFn Tryz.prog 15 = true := by kernel_rfl
theorem Vb : goFn Tryz.prog 16 = true := by kernel_rfl
theorem K8 : goFn Tryz.prog 17 = true := by kernel_rfl
theorem Kc : goFn Tryz.prog 18 = true := by kernel_rfl
theorem Vc : goFn Tryz.prog 19 = true := by kernel_rfl
theorem law_FnDoOk (bs : List Int) (a : Option Addr) (c : Nat) (w : World) (gl : SlAt w a 1 (bs.map bcell)) (hb : ∀ b ∈ bs, 0 ≤ b ∧ b ≤ 255) (hn : bs.length ≤ 9223372036854775807) (hc : bs.length ≤ c) (hE : ErrT w) : CallsR Tryz.prog 6 #[.slice a bs.length c] w (fun v w' => v = .bool true ∧ w.grownBy w' none) := by
 refine Xx (n := 137) Tryz.func6 Z Tryz.ntmps6 Z ?_
 have fd := World.grownBy.refl w none
 have hs := SlAt.lt Kl (by omega) gl
 refine Xa (Xe (v := vb false) Z Z (Xc (Xq (Xa (Xb (v := .slice a bs.length c) Z Z (Yu (by kernel_rfl) Z Z (Jd (q := decide (1048576 < (bs.length : Int))) Z Z Z Z (Xc (Xy Z (fun an => ?_) (fun an => ?_))))))))))
 have i3 := of_decide_eq_true an
 refine Xa (Xe (v := vb true) Z Z (Xc (Xt (Yk (⟨vb true, Yp Z Z, ?_, fd⟩)))))
 rfl
 have i4 := of_decide_eq_false an
 refine Xw (Xu (Xa (Xb (v := .slice a bs.length c) Z Z (Xl Va (Xg Z Xk) Z (J0 bs a c _ (SlAt.low gl fd) hb (by omega) (by omega)) ?_))))
 rintro _ jl ⟨ae, V, E, J, rfl, bn, d5, gq, iw, fe⟩
 have dt := low0 fd fe
 have a8 := d5.len
 refine Xb (v := .tuple #[.slice (pa ae) E.length V, .agg #[vi J.kind, vi J.run, vi J.a, vi J.b, vi J.n]]) Z Z (X4 (v := .slice (pa ae) E.length V) Z Z Z (X4 (v := .agg #[vi J.kind, vi J.run, vi J.a, vi J.b, vi J.n]) Z Z Z (Ye (cs := #[vi 0, vi 0, vi 0, vi 0, vi 0]) Uh Z Z ?_)))
 intro dg jm aw
 have gu := Yj aw dt
 refine Xe (v := .slice (pa ae) E.length V) Z Z (X0 (vs := [vi J.kind, vi J.run, vi J.a, vi J.b, vi J.n]) (cs' := #[vi J.kind, vi J.run, vi J.a, vi J.b, vi J.n]) Y1 Z Z Z (by simp [Value.oneCell']) aw.blk (Nat.le_of_ble_eq_true Z) Z ?_)
 intro gm bd
 refine Xc (Xa (Xb (v := .slice (pa ae) E.length V) Z Z (Xp (vs := [vi J.kind, vi J.run, vi J.a, vi J.b, vi J.n]) Y1 Z Z (bd.blk.rangeL 0 5 Z) Z ?_)))
 have g3 := (bd.blk).lt
 refine Xl Vb (Xg Z (Xg Z Xk)) Z (Ku J _ E _ _ (TabG.at (TabG.low bn (low1 aw.grw bd.grw (nt ((World.grownBy.refl _ none)).size (Nat.le_of_eq aw.eq.symm))))) a8 (by omega)) ?_
 rintro _ gp ⟨bw, bh, bf, rfl, d4, bv, bt⟩
 have du := low0 (low1 (low0 dt aw.grw) bd.grw (by omega)) bt
 have de := Q3 bv
 have g7 := Qo bv
 refine Xb (v := .tuple #[.slice (pa bw) bf.length bh, vi (callDo (tabT E) J).2]) Z Z (X4 (v := .slice (pa bw) bf.length bh) Z Z Z (X4 (v := vi (callDo (tabT E) J).2) Z Z Z (Xe (v := .slice (pa bw) bf.length bh) Z Z (Xe (v := vi (callDo (tabT E) J).2) Z Z (Xc (Xa (Xb (v := .slice (pa ae) E.length V) Z Z ?_)))))))
 have d1 := (bd.blk.grown0 bt)
 refine Xp (vs := [vi J.kind, vi J.run, vi J.a, vi J.b, vi J.n]) Y1 Z Z (d1.rangeL 0 5 Z) Z ?_
 have g5 := (d1).lt
 refine Xl K8 (Xg Z (Xg Z Xk)) Z (K2 J _ E _ _ (TabG.at (TabG.low bn (low0 (low1 aw.grw bd.grw (nt ((World.grownBy.refl _ none)).size (Nat.le_of_eq aw.eq.symm))) bt))) a8 (by omega) (ErrT.grown0 hE du)) ?_
 rintro _ jo ⟨ah, ab, G, rfl, cf, ba, bu⟩
 have az := Q3 ba
 have g8 := Qo ba
 refine Xb (v := .tuple #[.slice ah G.length ab, vi (callDo (tabT E) J).2]) Z Z (X4 (v := .slice ah G.length ab) Z Z Z (X4 (v := vi (callDo (tabT E) J).2) Z Z Z (Xe (v := .slice ah G.length ab) Z Z (Xe (v := vi (callDo (tabT E) J).2) Z Z (Xc (Xq (Xa (Xb (v := vi (callDo (tabT E) J).2) Z Z (Xb (v := vi (callDo (tabT E) J).2) Z Z (Y8 (q := false) Z Z (by simp) Z (Xb (v := vb false) Z Z (Xf Z Z Z Z ?_))))))))))))
 refine Xb (v := .slice ah G.length ab) Z Z (Xf Z Z Z Z (Xb (v := .slice (pa bw) bf.length bh) Z Z (Xf Z Z Z Z ?_)))
 have cg := (TabG.low d4 bu)
 refine Xl Kc (Xg Z (Xg Z Xk)) Z (Q9 _ G bf _ _ _ _ (TabG.at cf) (TabG.at cg) az de (by omega) (by omega)) ?_
 rintro _ jp ⟨rfl, be⟩
 refine Xf Z Z Z Z (Yl (b' := false) (congrArg Value.bool (decide_eq_true (ba.trans bv.symm))) Z Z (Xo (v := vb false) Z Z Z Z (Xb (v := vb false) Z Z (Xf Z Z Z Z (Xb (v := .slice (pa ae) E.length V) Z Z (Xf Z Z Z Z ?_))))))
 have eg := ((d1.grown0 bu).grown0 be)
 refine Xp (vs := [vi J.kind, vi J.run, vi J.a, vi J.b, vi J.n]) Y1 Z Z (eg.rangeL 0 5 Z) Z (Xf Z Z Z Z (Xl Vc (Xg Z (Xg Z Xk)) Z (Vl J _ E _ _ (TabG.at (TabG.low bn (low0 (low0 (low0 (low1 aw.grw bd.grw (nt ((World.grownBy.refl _ none)).size (Nat.le_of_eq aw.eq.symm))) bt) bu) be))) a8 (by omega)) ?_))
 rintro _ jq ⟨rfl, bg⟩
 have dv := low0 (low0 (low0 du bu) be) bg
 refine Xf Z Z Z Z (Yl (b' := !callPoss (tabT E) J) Z Z Z (Xo (v := vb (!callPoss (tabT E) J)) Z Z Z Z (Xc (Xy Z (fun ao => ?_) (fun ao => ?_)))))
 have i5 := Q2 ao
 refine Xa (Xb (v := vi (callDo (tabT E) J).2) Z Z (Xb (v := vi (callDo (tabT E) J).2) Z Z (X3 (q := true) Z Z (by simp) Z (Xb (v := vb true) Z Z (Xf Z Z Z Z (Xb (v := .slice ah G.length ab) Z Z (Xf Z Z Z Z (Xb (v := .slice (pa bw) bf.length bh) Z Z (Xf Z Z Z Z (Xl Kc (Xg Z (Xg Z Xk)) Z (Q9 _ G bf _ _ _ _ (TabG.at (TabG.low (TabG.low cf be) bg)) (TabG.at (TabG.low (TabG.low cg be) bg)) az de (by omega) (by omega)) ?_))))))))))
 rintro _ jr ⟨rfl, ff⟩
 refine Xs (v := vb true) Z Z (congrArg Value.bool (decide_eq_true (ba.trans bv.symm))) Z (Xe (v := vb true) Z Z (Xc (Xt (Yk (⟨vb true, Yp Z Z, ?_, (low0 dv ff)⟩)))))
 rfl
 have ai := Qx ao
 obtain ⟨aj, al, ad⟩ := Yh ai
 have gr := Yq al
 have gt := (Y3 ad).1
 have iu := Qp aj ad
 have g6 := Jb aj
 have hde := Qs ai
 have hrk := Qn (Yh ai).2.2
 have g9 := Q1 bv ai
 have ia := Q1 ba ai
 refine Xw (Xu (Xq (Xa (Xe (v := vi 0) Z Z (Xc (Yc (Qm (fun mm f' w' => ∃ (k : Nat), mm = E.length - k ∧ k ≤ E.length ∧ TabG w.heap.size w' (pa ae) E ∧ TabG gm.heap.size w' (pa bw) bf ∧ TabG gp.heap.size w' (ah) G ∧ f' 9 = vi (k : Int) ∧ f' 3 = .slice (pa ae) E.length V ∧ f' 4 = pt dg 0 ∧ f' 7 = .slice ah G.length ab ∧ f' 8 = vi (callDo (tabT E) J).2 ∧ w.grownBy w' none ∧ Blk w' dg 25 #[vi J.kind, vi J.run, vi J.a, vi J.b, vi J.n]) (E.length - 0) ⟨0, Z, (Nat.zero_le _), (TabG.low bn (low0 (low0 (low0 (low0 (low1 aw.grw bd.grw (nt ((World.grownBy.refl _ none)).size (Nat.le_of_eq aw.eq.symm))) bt) bu) be) bg)), (TabG.low (TabG.low cg be) bg), (TabG.low (TabG.low cf be) bg), Z, Z, Z, Z, Z, dv, (eg.grown0 bg)⟩ ?_)))))))
 rintro mm i2 cd ⟨k, iv, hk, cw, gj, br, am, av, ct, au, bp, dw, eh⟩
 refine Xq (Xa (Xb (v := vi (k : Int)) am Z (Xb (v := .slice (pa ae) E.length V) av Z (Yu (by kernel_rfl) Z Z (Qa (q := decide ((k : Int) < (E.length : Int))) Z Z Z Z (Xc (Xy Z (fun ap => ?_) (fun ap => ?_))))))))
 have i6 := of_decide_eq_true ap
 refine Xw (Xu (Xq (Yc (Kn (fun f' w' => (f' 3 = .slice (pa ae) E.length V ∧ f' 4 = pt dg 0 ∧ f' 7 = .slice ah G.length ab ∧ f' 8 = vi (callDo (tabT E) J).2 ∧ f' 9 = vi (k : Int) ∧ f' 108 = vb ((((!(decide ((mAt G k).t.kind = (mAt E k).t.kind))) || (!(decide ((mAt G k).t.lab = (mAt E k).t.lab)))) || (!(decide ((mAt G k).t.to = (mAt E k).t.to)))) || (decide ((mAt G k).t.ve < (mAt E k).t.ve)))) ∧ cd.grownBy w' none) ?_ ?_))))
 rcases Yf (!(decide ((mAt G k).t.kind = (mAt E k).t.kind))) with O | O
 have dk := Q2 O
 have i7 := of_decide_eq_false dk
 obtain ⟨ee, jd, d2, fb, gc, gg⟩ := SlAt.at (TabG.at br).1 (Yi (xg G k))
 have gv := TabLen.at az (xg G k)
 obtain ⟨ef, je, d3, fc, gf, gh⟩ := SlAt.at (TabG.at cw).1 (Yi (xg E k))
 have gw := TabLen.at a8 (xg E k)
 refine Yw (m := 48) (vals := [(59, .slice ah G.length ab), (60, vi (k : Int)), (61, pt ee d2), (62, pt ee d2), (63, vi (mAt G k).t.kind), (64, .slice (pa ae) E.length V), (65, vi (k : Int)), (66, pt ef d3), (67, pt ef d3), (68, vi (mAt E k).t.kind), (69, vb (!(decide ((mAt G k).t.kind = (mAt E k).t.kind)))), (70, vb (!(decide ((mAt G k).t.kind = (mAt E k).t.kind)))), (71, undef), (72, undef), (73, undef), (74, undef), (75, undef), (76, undef), (77, undef), (78, undef), (79, undef), (80, undef), (81, undef), (82, vb true), (83, vb true), (84, undef), (85, undef), (86, undef), (87, undef), (88, undef), (89, undef), (90, undef), (91, undef), (92, undef), (93, undef), (94, undef), (95, vb true), (96, vb true), (97, undef), (98, undef), (99, undef), (100, undef), (101, undef), (102, undef), (103, undef), (104, undef), (105, undef), (106, undef)]) (fun w' => cd.grownBy w' none) Yy (by kernel_rfl) (X6 _) ?_ ?_
 refine yl Z (fun _ _ k => Xb (v := .slice ah G.length ab) au Z k) (yl Z (fun _ _ kq => Xb (v := vi (k : Int)) am Z kq) (yl Z (fun _ _ k => Xz Y2 Z Z fb gc (by omega) (by omega) Z k) (yl Z (fun _ _ k => Xd (o' := d2) Y9 Z Z Z k) (yl Z (fun _ fg kq => Xh (v := vi (mAt G k).t.kind) X1 Z ((X9 gg fg) 0 _ Z) Z kq) (yl Z (fun _ _ k => Xb (v := .slice (pa ae) E.length V) av Z k) (yl Z (fun _ _ kq => Xb (v := vi (k : Int)) am Z kq) (yl Z (fun _ _ k => Xz Y2 Z Z fc gf (by omega) (by omega) Z k) (yl Z (fun _ _ k => Xd (o' := d3) Y9 Z Z Z k) (yl Z (fun _ fh kq => Xh (v := vi (mAt E k).t.kind) X1 Z ((X9 gh fh) 0 _ Z) Z kq) (yl Z (fun _ _ kq => Y8 (q := !(decide ((mAt G k).t.kind = (mAt E k).t.kind))) Z Z Z Z kq) ?_))))))))))
 refine yl Z (fun _ _ kq => Xb (v := vb (!(decide ((mAt G k).t.kind = (mAt E k).t.kind)))) Z Z kq) (yl Z (fun _ _ k => Xi Z Z Z O Z k) (yl Z (fun _ _ k => Xi Z Z Z O Z k) (yl Z (fun _ _ k => Xi Z Z Z O Z k) (yl Z (fun _ _ k => Xi Z Z Z O Z k) (yl Z (fun _ _ k => Xi Z Z Z O Z k) (yl Z (fun _ _ k => Xi Z Z Z O Z k) (yl Z (fun _ _ k => Xi Z Z Z O Z k) (yl Z (fun _ _ k => Xi Z Z Z O Z k) (yl Z (fun _ _ k => Xi Z Z Z O Z k) (yl Z (fun _ _ k => Xi Z Z Z O Z k) ?_))))))))))
 refine yl Z (fun _ _ k => Xi Z Z Z O Z k) (yl Z (fun _ _ k => Xs (v := vb true) Z O Z Z k) (yl Z (fun _ _ k => Xb (v := vb true) Z Z k) (yl Z (fun _ _ k => Xi Z Z Z Z Z k) (yl Z (fun _ _ k => Xi Z Z Z Z Z k) (yl Z (fun _ _ k => Xi Z Z Z Z Z k) (yl Z (fun _ _ k => Xi Z Z Z Z Z k) (yl Z (fun _ _ k => Xi Z Z Z Z Z k) (yl Z (fun _ _ k => Xi Z Z Z Z Z k) (yl Z (fun _ _ k => Xi Z Z Z Z Z k) (yl Z (fun _ _ k => Xi Z Z Z Z Z k) ?_))))))))))
 refine yl Z (fun _ _ k => Xi Z Z Z Z Z k) (yl Z (fun _ _ k => Xi Z Z Z Z Z k) (yl Z (fun _ _ k => Xi Z Z Z Z Z k) (yl Z (fun _ _ k => Xs (v := vb true) Z Z Z Z k) (yl Z (fun _ _ k => Xb (v := vb true) Z Z k) (yl Z (fun _ _ k => Xi Z Z Z Z Z k) (yl Z (fun _ _ k => Xi Z Z Z Z Z k) (yl Z (fun _ _ k => Xi Z Z Z Z Z k) (yl Z (fun _ _ k => Xi Z Z Z Z Z k) (yl Z (fun _ _ k => Xi Z Z Z Z Z k) (yl Z (fun _ _ k => Xi Z Z Z Z Z k) ?_))))))))))
 exact yl Z (fun _ _ k => Xi Z Z Z Z Z k) (yl Z (fun _ _ k => Xi Z Z Z Z Z k) (yl Z (fun _ _ k => Xi Z Z Z Z Z k) (yl Z (fun _ _ k => Xi Z Z Z Z Z k) Y5)))
 intro js fi
 exact Xi Z Z Z Z Z (Xs (v := vb true) Z Z Z Z (Xc (Xu ⟨⟨av, ct, au, bp, am, (congrArg Value.bool (by first | (simp only [an, ao, ai, ap, O, dk, aj, al, ad, b0, b1, b2, b3, b4, b5, b6, b7, b8, b9]; done) | simp [an, ao, ai, ap, O, dk, aj, al, ad]))⟩, fi⟩)))
 have bq := Qx O
 have i8 := of_decide_eq_true bq
 rcases Yf (!(decide ((mAt G k).t.lab = (mAt E k).t.lab))) with ac | ac
 have dl := Q2 ac
 have i9 := of_decide_eq_false dl
 obtain ⟨db, jf, ca, dq, dx, dz⟩ := SlAt.at (TabG.at br).1 (Yi (xg G k))
 have gx := TabLen.at az (xg G k)
 obtain ⟨dc, jg, cc, dr, dy, d0⟩ := SlAt.at (TabG.at cw).1 (Yi (xg E k))
 have gy := TabLen.at a8 (xg E k)
 refine Yw (m := 48) (vals := [(59, .slice ah G.length ab), (60, vi (k : Int)), (61, pt db ca), (62, pt db ca), (63, vi (mAt G k).t.kind), (64, .slice (pa ae) E.length V), (65, vi (k : Int)), (66, pt dc cc), (67, pt dc cc), (68, vi (mAt E k).t.kind), (69, vb (!(decide ((mAt G k).t.kind = (mAt E k).t.kind)))), (70, vb (!(decide ((mAt G k).t.kind = (mAt E k).t.kind)))), (71, .slice ah G.length ab), (72, vi (k : Int)), (73, pt db ca), (74, pt db (ca + 1)), (75, .agg #[vi (mAt G k).t.lab.s, vi (mAt G k).t.lab.v]), (76, .slice (pa ae) E.length V), (77, vi (k : Int)), (78, pt dc cc), (79, pt dc (cc + 1)), (80, .agg #[vi (mAt E k).t.lab.s, vi (mAt E k).t.lab.v]), (81, vb (!(decide ((mAt G k).t.lab = (mAt E k).t.lab)))), (82, vb (!(decide ((mAt G k).t.lab = (mAt E k).t.lab)))), (83, vb (!(decide ((mAt G k).t.lab = (mAt E k).t.lab)))), (84, undef), (85, undef), (86, undef), (87, undef), (88, undef), (89, undef), (90, undef), (91, undef), (92, undef), (93, undef), (94, undef), (95, vb true), (96, vb true), (97, undef), (98, undef), (99, undef), (100, undef), (101, undef), (102, undef), (103, undef), (104, undef), (105, undef), (106, undef)]) (fun w' => cd.grownBy w' none) Yy (by kernel_rfl) (X6 _) ?_ ?_
 refine yl Z (fun _ _ k => Xb (v := .slice ah G.length ab) au Z k) (yl Z (fun _ _ kq => Xb (v := vi (k : Int)) am Z kq) (yl Z (fun _ _ k => Xz Y2 Z Z dq dx (by omega) (by omega) Z k) (yl Z (fun _ _ k => Xd (o' := ca) Y9 Z Z Z k) (yl Z (fun _ fj kq => Xh (v := vi (mAt G k).t.kind) X1 Z ((X9 dz fj) 0 _ Z) Z kq) (yl Z (fun _ _ k => Xb (v := .slice (pa ae) E.length V) av Z k) (yl Z (fun _ _ kq => Xb (v := vi (k : Int)) am Z kq) (yl Z (fun _ _ k => Xz Y2 Z Z dr dy (by omega) (by omega) Z k) (yl Z (fun _ _ k => Xd (o' := cc) Y9 Z Z Z k) (yl Z (fun _ fk kq => Xh (v := vi (mAt E k).t.kind) X1 Z ((X9 d0 fk) 0 _ Z) Z kq) (yl Z (fun _ _ kq => Y8 (q := !(decide ((mAt G k).t.kind = (mAt E k).t.kind))) Z Z Z Z kq) ?_))))))))))
 refine yl Z (fun _ _ kq => Xb (v := vb (!(decide ((mAt G k).t.kind = (mAt E k).t.kind)))) Z Z kq) (yl Z (fun _ _ k => Xf Z Z Z O (Xb (v := .slice ah G.length ab) au Z k)) (yl Z (fun _ _ kq => Xf Z Z Z O (Xb (v := vi (k : Int)) am Z kq)) (yl Z (fun _ _ k => Xf Z Z Z O (Xz Y2 Z Z dq dx (by omega) (by omega) Z k)) (yl Z (fun _ _ k => Xf Z Z Z O (Xd (o' := ca + 1) Kd Z Z Z k)) (yl Z (fun _ fm kq => Xf Z Z Z O (Xp (vs := [vi (mAt G k).t.lab.s, vi (mAt G k).t.lab.v]) Kb Z Z (Yr (X9 dz fm) 1 2 Z) Z kq)) (yl Z (fun _ _ k => Xf Z Z Z O (Xb (v := .slice (pa ae) E.length V) av Z k)) (yl Z (fun _ _ kq => Xf Z Z Z O (Xb (v := vi (k : Int)) am Z kq)) (yl Z (fun _ _ k => Xf Z Z Z O (Xz Y2 Z Z dr dy (by omega) (by omega) Z k)) (yl Z (fun _ _ k => Xf Z Z Z O (Xd (o' := cc + 1) Kd Z Z Z k)) (yl Z (fun _ fo kq => Xf Z Z Z O (Xp (vs := [vi (mAt E k).t.lab.s, vi (mAt E k).t.lab.v]) Kb Z Z (Yr (X9 d0 fo) 1 2 Z) Z kq)) ?_))))))))))
 refine yl Z (fun _ _ kq => Xf Z Z Z O (Vn (q := !(decide ((mAt G k).t.lab = (mAt E k).t.lab))) Z Z (Pn _ _ (mAt G k).t.lab (mAt E k).t.lab _) (Po (mAt G k).t.lab (mAt E k).t.lab _) Z Z kq)) (yl Z (fun _ _ kq => Xo (v := vb (!(decide ((mAt G k).t.lab = (mAt E k).t.lab)))) Z O Z Z kq) (yl Z (fun _ _ kq => Xb (v := vb (!(decide ((mAt G k).t.lab = (mAt E k).t.lab)))) Z Z kq) (yl Z (fun _ _ k => Xi Z Z Z ac Z k) (yl Z (fun _ _ k => Xi Z Z Z ac Z k) (yl Z (fun _ _ k => Xi Z Z Z ac Z k) (yl Z (fun _ _ k => Xi Z Z Z ac Z k) (yl Z (fun _ _ k => Xi Z Z Z ac Z k) (yl Z (fun _ _ k => Xi Z Z Z ac Z k) (yl Z (fun _ _ k => Xi Z Z Z ac Z k) (yl Z (fun _ _ k => Xi Z Z Z ac Z k) ?_))))))))))
 refine yl Z (fun _ _ k => Xi Z Z Z ac Z k) (yl Z (fun _ _ k => Xi Z Z Z ac Z k) (yl Z (fun _ _ k => Xi Z Z Z ac Z k) (yl Z (fun _ _ k => Xs (v := vb true) Z ac Z Z k) (yl Z (fun _ _ k => Xb (v := vb true) Z Z k) (yl Z (fun _ _ k => Xi Z Z Z Z Z k) (yl Z (fun _ _ k => Xi Z Z Z Z Z k) (yl Z (fun _ _ k => Xi Z Z Z Z Z k) (yl Z (fun _ _ k => Xi Z Z Z Z Z k) (yl Z (fun _ _ k => Xi Z Z Z Z Z k) (yl Z (fun _ _ k => Xi Z Z Z Z Z k) ?_))))))))))
 exact yl Z (fun _ _ k => Xi Z Z Z Z Z k) (yl Z (fun _ _ k => Xi Z Z Z Z Z k) (yl Z (fun _ _ k => Xi Z Z Z Z Z k) (yl Z (fun _ _ k => Xi Z Z Z Z Z k) Y5)))
 intro jt fp
 exact Xi Z Z Z Z Z (Xs (v := vb true) Z Z Z Z (Xc (Xu ⟨⟨av, ct, au, bp, am, (congrArg Value.bool (by first | (simp only [an, ao, ai, ap, O, bq, ac, dl, aj, al, ad, b0, b1, b2, b3, b4, b5, b6, b7, b8, b9]; done) | simp [an, ao, ai, ap, O, bq, ac, dl, aj, al, ad]))⟩, fp⟩)))
 have cv := Qx ac
 have ja := of_decide_eq_true cv
 rcases Yf (!(decide ((mAt G k).t.to = (mAt E k).t.to))) with ag | ag
 have dm := Q2 ag
 have jb := of_decide_eq_false dm
 obtain ⟨bx, jh, bj, cx, cz, c9⟩ := SlAt.at (TabG.at br).1 (Yi (xg G k))
 have gz := TabLen.at az (xg G k)
 obtain ⟨bz, ji, bk, cy, c8, da⟩ := SlAt.at (TabG.at cw).1 (Yi (xg E k))
 have g0 := TabLen.at a8 (xg E k)
 refine Yw (m := 48) (vals := [(59, .slice ah G.length ab), (60, vi (k : Int)), (61, pt bx bj), (62, pt bx bj), (63, vi (mAt G k).t.kind), (64, .slice (pa ae) E.length V), (65, vi (k : Int)), (66, pt bz bk), (67, pt bz bk), (68, vi (mAt E k).t.kind), (69, vb (!(decide ((mAt G k).t.kind = (mAt E k).t.kind)))), (70, vb (!(decide ((mAt G k).t.kind = (mAt E k).t.kind)))), (71, .slice ah G.length ab), (72, vi (k : Int)), (73, pt bx bj), (74, pt bx (bj + 1)), (75, .agg #[vi (mAt G k).t.lab.s, vi (mAt G k).t.lab.v]), (76, .slice (pa ae) E.length V), (77, vi (k : Int)), (78, pt bz bk), (79, pt bz (bk + 1)), (80, .agg #[vi (mAt E k).t.lab.s, vi (mAt E k).t.lab.v]), (81, vb (!(decide ((mAt G k).t.lab = (mAt E k).t.lab)))), (82, vb (!(decide ((mAt G k).t.lab = (mAt E k).t.lab)))), (83, vb (!(decide ((mAt G k).t.lab = (mAt E k).t.lab)))), (84, .slice ah G.length ab), (85, vi (k : Int)), (86, pt bx bj), (87, pt bx (bj + 7)), (88, vi (mAt G k).t.to), (89, .slice (pa ae) E.length V), (90, vi (k : Int)), (91, pt bz bk), (92, pt bz (bk + 7)), (93, vi (mAt E k).t.to), (94, vb (!(decide ((mAt G k).t.to = (mAt E k).t.to)))), (95, vb (!(decide ((mAt G k).t.to = (mAt E k).t.to)))), (96, vb (!(decide ((mAt G k).t.to = (mAt E k).t.to)))), (97, undef), (98, undef), (99, undef), (100, undef), (101, undef), (102, undef), (103, undef), (104, undef), (105, undef), (106, undef)]) (fun w' => cd.grownBy w' none) Yy (by kernel_rfl) (X6 _) ?_ ?_
 refine yl Z (fun _ _ k => Xb (v := .slice ah G.length ab) au Z k) (yl Z (fun _ _ kq => Xb (v := vi (k : Int)) am Z kq) (yl Z (fun _ _ k => Xz Y2 Z Z cx cz (by omega) (by omega) Z k) (yl Z (fun _ _ k => Xd (o' := bj) Y9 Z Z Z k) (yl Z (fun _ fq kq => Xh (v := vi (mAt G k).t.kind) X1 Z ((X9 c9 fq) 0 _ Z) Z kq) (yl Z (fun _ _ k => Xb (v := .slice (pa ae) E.length V) av Z k) (yl Z (fun _ _ kq => Xb (v := vi (k : Int)) am Z kq) (yl Z (fun _ _ k => Xz Y2 Z Z cy c8 (by omega) (by omega) Z k) (yl Z (fun _ _ k => Xd (o' := bk) Y9 Z Z Z k) (yl Z (fun _ fr kq => Xh (v := vi (mAt E k).t.kind) X1 Z ((X9 da fr) 0 _ Z) Z kq) (yl Z (fun _ _ kq => Y8 (q := !(decide ((mAt G k).t.kind = (mAt E k).t.kind))) Z Z Z Z kq) ?_))))))))))
 refine yl Z (fun _ _ kq => Xb (v := vb (!(decide ((mAt G k).t.kind = (mAt E k).t.kind)))) Z Z kq) (yl Z (fun _ _ k => Xf Z Z Z O (Xb (v := .slice ah G.length ab) au Z k)) (yl Z (fun _ _ kq => Xf Z Z Z O (Xb (v := vi (k : Int)) am Z kq)) (yl Z (fun _ _ k => Xf Z Z Z O (Xz Y2 Z Z cx cz (by omega) (by omega) Z k)) (yl Z (fun _ _ k => Xf Z Z Z O (Xd (o' := bj + 1) Kd Z Z Z k)) (yl Z (fun _ ft kq => Xf Z Z Z O (Xp (vs := [vi (mAt G k).t.lab.s, vi (mAt G k).t.lab.v]) Kb Z Z (Yr (X9 c9 ft) 1 2 Z) Z kq)) (yl Z (fun _ _ k => Xf Z Z Z O (Xb (v := .slice (pa ae) E.length V) av Z k)) (yl Z (fun _ _ kq => Xf Z Z Z O (Xb (v := vi (k : Int)) am Z kq)) (yl Z (fun _ _ k => Xf Z Z Z O (Xz Y2 Z Z cy c8 (by omega) (by omega) Z k)) (yl Z (fun _ _ k => Xf Z Z Z O (Xd (o' := bk + 1) Kd Z Z Z k)) (yl Z (fun _ fu kq => Xf Z Z Z O (Xp (vs := [vi (mAt E k).t.lab.s, vi (mAt E k).t.lab.v]) Kb Z Z (Yr (X9 da fu) 1 2 Z) Z kq)) ?_))))))))))
 refine yl Z (fun _ _ kq => Xf Z Z Z O (Vn (q := !(decide ((mAt G k).t.lab = (mAt E k).t.lab))) Z Z (Pn _ _ (mAt G k).t.lab (mAt E k).t.lab _) (Po (mAt G k).t.lab (mAt E k).t.lab _) Z Z kq)) (yl Z (fun _ _ kq => Xo (v := vb (!(decide ((mAt G k).t.lab = (mAt E k).t.lab)))) Z O Z Z kq) (yl Z (fun _ _ kq => Xb (v := vb (!(decide ((mAt G k).t.lab = (mAt E k).t.lab)))) Z Z kq) (yl Z (fun _ _ k => Xf Z Z Z ac (Xb (v := .slice ah G.length ab) au Z k)) (yl Z (fun _ _ kq => Xf Z Z Z ac (Xb (v := vi (k : Int)) am Z kq)) (yl Z (fun _ _ k => Xf Z Z Z ac (Xz Y2 Z Z cx cz (by omega) (by omega) Z k)) (yl Z (fun _ _ k => Xf Z Z Z ac (Xd (o' := bj + 7) Kk Z Z Z k)) (yl Z (fun _ fv kq => Xf Z Z Z ac (Xh (v := vi (mAt G k).t.to) X1 Z ((X9 c9 fv) 7 _ Z) Z kq)) (yl Z (fun _ _ k => Xf Z Z Z ac (Xb (v := .slice (pa ae) E.length V) av Z k)) (yl Z (fun _ _ kq => Xf Z Z Z ac (Xb (v := vi (k : Int)) am Z kq)) (yl Z (fun _ _ k => Xf Z Z Z ac (Xz Y2 Z Z cy c8 (by omega) (by omega) Z k)) ?_))))))))))
 refine yl Z (fun _ _ k => Xf Z Z Z ac (Xd (o' := bk + 7) Kk Z Z Z k)) (yl Z (fun _ fw kq => Xf Z Z Z ac (Xh (v := vi (mAt E k).t.to) X1 Z ((X9 da fw) 7 _ Z) Z kq)) (yl Z (fun _ _ kq => Xf Z Z Z ac (Y8 (q := !(decide ((mAt G k).t.to = (mAt E k).t.to))) Z Z Z Z kq)) (yl Z (fun _ _ kq => Xo (v := vb (!(decide ((mAt G k).t.to = (mAt E k).t.to)))) Z ac Z Z kq) (yl Z (fun _ _ kq => Xb (v := vb (!(decide ((mAt G k).t.to = (mAt E k).t.to)))) Z Z kq) (yl Z (fun _ _ k => Xi Z Z Z ag Z k) (yl Z (fun _ _ k => Xi Z Z Z ag Z k) (yl Z (fun _ _ k => Xi Z Z Z ag Z k) (yl Z (fun _ _ k => Xi Z Z Z ag Z k) (yl Z (fun _ _ k => Xi Z Z Z ag Z k) (yl Z (fun _ _ k => Xi Z Z Z ag Z k) ?_))))))))))
 exact yl Z (fun _ _ k => Xi Z Z Z ag Z k) (yl Z (fun _ _ k => Xi Z Z Z ag Z k) (yl Z (fun _ _ k => Xi Z Z Z ag Z k) (yl Z (fun _ _ k => Xi Z Z Z ag Z k) Y5)))
 intro ju fx
 exact Xi Z Z Z ag Z (Xs (v := vb true) Z ag Z Z (Xc (Xu ⟨⟨av, ct, au, bp, am, (congrArg Value.bool (by first | (simp only [an, ao, ai, ap, O, bq, ac, cv, ag, dm, aj, al, ad, b0, b1, b2, b3, b4, b5, b6, b7, b8, b9]; done) | simp [an, ao, ai, ap, O, bq, ac, cv, ag, dm, aj, al, ad]))⟩, fx⟩)))
 have dn := Qx ag
 have jc := of_decide_eq_true dn
 obtain ⟨bl, jj, bb, cj, cl, cn⟩ := SlAt.at (TabG.at br).1 (Yi (xg G k))
 have g1 := TabLen.at az (xg G k)
 obtain ⟨bm, jk, bc, ck, cm, co⟩ := SlAt.at (TabG.at cw).1 (Yi (xg E k))
 have g2 := TabLen.at a8 (xg E k)
 refine Yw (m := 48) (vals := [(59, .slice ah G.length ab), (60, vi (k : Int)), (61, pt bl bb), (62, pt bl bb), (63, vi (mAt G k).t.kind), (64, .slice (pa ae) E.length V), (65, vi (k : Int)), (66, pt bm bc), (67, pt bm bc), (68, vi (mAt E k).t.kind), (69, vb (!(decide ((mAt G k).t.kind = (mAt E k).t.kind)))), (70, vb (!(decide ((mAt G k).t.kind = (mAt E k).t.kind)))), (71, .slice ah G.length ab), (72, vi (k : Int)), (73, pt bl bb), (74, pt bl (bb + 1)), (75, .agg #[vi (mAt G k).t.lab.s, vi (mAt G k).t.lab.v]), (76, .slice (pa ae) E.length V), (77, vi (k : Int)), (78, pt bm bc), (79, pt bm (bc + 1)), (80, .agg #[vi (mAt E k).t.lab.s, vi (mAt E k).t.lab.v]), (81, vb (!(decide ((mAt G k).t.lab = (mAt E k).t.lab)))), (82, vb (!(decide ((mAt G k).t.lab = (mAt E k).t.lab)))), (83, vb (!(decide ((mAt G k).t.lab = (mAt E k).t.lab)))), (84, .slice ah G.length ab), (85, vi (k : Int)), (86, pt bl bb), (87, pt bl (bb + 7)), (88, vi (mAt G k).t.to), (89, .slice (pa ae) E.length V), (90, vi (k : Int)), (91, pt bm bc), (92, pt bm (bc + 7)), (93, vi (mAt E k).t.to), (94, vb (!(decide ((mAt G k).t.to = (mAt E k).t.to)))), (95, vb (!(decide ((mAt G k).t.to = (mAt E k).t.to)))), (96, vb (!(decide ((mAt G k).t.to = (mAt E k).t.to)))), (97, .slice ah G.length ab), (98, vi (k : Int)), (99, pt bl bb), (100, pt bl (bb + 3)), (101, vi (mAt G k).t.ve), (102, .slice (pa ae) E.length V), (103, vi (k : Int)), (104, pt bm bc), (105, pt bm (bc + 3)), (106, vi (mAt E k).t.ve)]) (fun w' => cd.grownBy w' none) Yy (by kernel_rfl) (X6 _) ?_ ?_
 refine yl Z (fun _ _ k => Xb (v := .slice ah G.length ab) au Z k) (yl Z (fun _ _ kq => Xb (v := vi (k : Int)) am Z kq) (yl Z (fun _ _ k => Xz Y2 Z Z cj cl (by omega) (by omega) Z k) (yl Z (fun _ _ k => Xd (o' := bb) Y9 Z Z Z k) (yl Z (fun _ fy kq => Xh (v := vi (mAt G k).t.kind) X1 Z ((X9 cn fy) 0 _ Z) Z kq) (yl Z (fun _ _ k => Xb (v := .slice (pa ae) E.length V) av Z k) (yl Z (fun _ _ kq => Xb (v := vi (k : Int)) am Z kq) (yl Z (fun _ _ k => Xz Y2 Z Z ck cm (by omega) (by omega) Z k) (yl Z (fun _ _ k => Xd (o' := bc) Y9 Z Z Z k) (yl Z (fun _ fz kq => Xh (v := vi (mAt E k).t.kind) X1 Z ((X9 co fz) 0 _ Z) Z kq) (yl Z (fun _ _ kq => Y8 (q := !(decide ((mAt G k).t.kind = (mAt E k).t.kind))) Z Z Z Z kq) ?_))))))))))
 refine yl Z (fun _ _ kq => Xb (v := vb (!(decide ((mAt G k).t.kind = (mAt E k).t.kind)))) Z Z kq) (yl Z (fun _ _ k => Xf Z Z Z O (Xb (v := .slice ah G.length ab) au Z k)) (yl Z (fun _ _ kq => Xf Z Z Z O (Xb (v := vi (k : Int)) am Z kq)) (yl Z (fun _ _ k => Xf Z Z Z O (Xz Y2 Z Z cj cl (by omega) (by omega) Z k)) (yl Z (fun _ _ k => Xf Z Z Z O (Xd (o' := bb + 1) Kd Z Z Z k)) (yl Z (fun _ f8 kq => Xf Z Z Z O (Xp (vs := [vi (mAt G k).t.lab.s, vi (mAt G k).t.lab.v]) Kb Z Z (Yr (X9 cn f8) 1 2 Z) Z kq)) (yl Z (fun _ _ k => Xf Z Z Z O (Xb (v := .slice (pa ae) E.length V) av Z k)) (yl Z (fun _ _ kq => Xf Z Z Z O (Xb (v := vi (k : Int)) am Z kq)) (yl Z (fun _ _ k => Xf Z Z Z O (Xz Y2 Z Z ck cm (by omega) (by omega) Z k)) (yl Z (fun _ _ k => Xf Z Z Z O (Xd (o' := bc + 1) Kd Z Z Z k)) (yl Z (fun _ f9 kq => Xf Z Z Z O (Xp (vs := [vi (mAt E k).t.lab.s, vi (mAt E k).t.lab.v]) Kb Z Z (Yr (X9 co f9) 1 2 Z) Z kq)) ?_))))))))))
 refine yl Z (fun _ _ kq => Xf Z Z Z O (Vn (q := !(decide ((mAt G k).t.lab = (mAt E k).t.lab))) Z Z (Pn _ _ (mAt G k).t.lab (mAt E k).t.lab _) (Po (mAt G k).t.lab (mAt E k).t.lab _) Z Z kq)) (yl Z (fun _ _ kq => Xo (v := vb (!(decide ((mAt G k).t.lab = (mAt E k).t.lab)))) Z O Z Z kq) (yl Z (fun _ _ kq => Xb (v := vb (!(decide ((mAt G k).t.lab = (mAt E k).t.lab)))) Z Z kq) (yl Z (fun _ _ k => Xf Z Z Z ac (Xb (v := .slice ah G.length ab) au Z k)) (yl Z (fun _ _ kq => Xf Z Z Z ac (Xb (v := vi (k : Int)) am Z kq)) (yl Z (fun _ _ k => Xf Z Z Z ac (Xz Y2 Z Z cj cl (by omega) (by omega) Z k)) (yl Z (fun _ _ k => Xf Z Z Z ac (Xd (o' := bb + 7) Kk Z Z Z k)) (yl Z (fun _ ga kq => Xf Z Z Z ac (Xh (v := vi (mAt G k).t.to) X1 Z ((X9 cn ga) 7 _ Z) Z kq)) (yl Z (fun _ _ k => Xf Z Z Z ac (Xb (v := .slice (pa ae) E.length V) av Z k)) (yl Z (fun _ _ kq => Xf Z Z Z ac (Xb (v := vi (k : Int)) am Z kq)) (yl Z (fun _ _ k => Xf Z Z Z ac (Xz Y2 Z Z ck cm (by omega) (by omega) Z k)) ?_))))))))))
 refine yl Z (fun _ _ k => Xf Z Z Z ac (Xd (o' := bc + 7) Kk Z Z Z k)) (yl Z (fun _ gb kq => Xf Z Z Z ac (Xh (v := vi (mAt E k).t.to) X1 Z ((X9 co gb) 7 _ Z) Z kq)) (yl Z (fun _ _ kq => Xf Z Z Z ac (Y8 (q := !(decide ((mAt G k).t.to = (mAt E k).t.to))) Z Z Z Z kq)) (yl Z (fun _ _ kq => Xo (v := vb (!(decide ((mAt G k).t.to = (mAt E k).t.to)))) Z ac Z Z kq) (yl Z (fun _ _ kq => Xb (v := vb (!(decide ((mAt G k).t.to = (mAt E k).t.to)))) Z Z kq) (yl Z (fun _ _ k => Xf Z Z Z ag (Xb (v := .slice ah G.length ab) au Z k)) (yl Z (fun _ _ kq => Xf Z Z Z ag (Xb (v := vi (k : Int)) am Z kq)) (yl Z (fun _ _ k => Xf Z Z Z ag (Xz Y2 Z Z cj cl (by omega) (by omega) Z k)) (yl Z (fun _ _ k => Xf Z Z Z ag (Xd (o' := bb + 3) Jl Z Z Z k)) (yl Z (fun _ d8 kq => Xf Z Z Z ag (Xh (v := vi (mAt G k).t.ve) X1 Z ((X9 cn d8) 3 _ Z) Z kq)) (yl Z (fun _ _ k => Xf Z Z Z ag (Xb (v := .slice (pa ae) E.length V) av Z k)) ?_))))))))))
 exact yl Z (fun _ _ kq => Xf Z Z Z ag (Xb (v := vi (k : Int)) am Z kq)) (yl Z (fun _ _ k => Xf Z Z Z ag (Xz Y2 Z Z ck cm (by omega) (by omega) Z k)) (yl Z (fun _ _ k => Xf Z Z Z ag (Xd (o' := bc + 3) Jl Z Z Z k)) (yl Z (fun _ d9 kq => Xf Z Z Z ag (Xh (v := vi (mAt E k).t.ve) X1 Z ((X9 co d9) 3 _ Z) Z kq)) Y5)))
 intro iy ea
 exact Xf Z Z Z ag (Qa (q := decide ((mAt G k).t.ve < (mAt E k).t.ve)) Z Z Z Z (Xo (v := vb (decide ((mAt G k).t.ve < (mAt E k).t.ve))) Z ag Z Z (Xc (Xu ⟨⟨av, ct, au, bp, am, (congrArg Value.bool (by first | (simp only [an, ao, ai, ap, O, bq, ac, cv, ag, dn, aj, al, ad, b0, b1, b2, b3, b4, b5, b6, b7, b8, b9]; done) | simp [an, ao, ai, ap, O, bq, ac, cv, ag, dn, aj, al, ad]))⟩, ea⟩))))
 rintro ic iz ⟨⟨ei, ej, ek, em, eo, ep⟩, bi⟩
 have df := low0 dw bi
 refine Xy ep (fun ce => ?_) (fun ce => ?_)
 refine Xa (Xe (v := vb false) Z Z (Xc (Xt (Qi (Yk (Yk (Qi (Yk (⟨vb false, Yp Z Z, ?_, df⟩)))))))))
 have hL := C1 ba ai k
 have hbad := ce
 simp [hL.1, hL.2.1, hL.2.2.1, Int.not_lt.2 hL.2.2.2] at hbad
 have dh := Kq ce
 have di := Kq dh
 have eu := Kq di
 have ew := Qx eu
 have ig := of_decide_eq_true ew
 have ex := Kr di
 have ey := Qx ex
 have ii := of_decide_eq_true ey
 have ez := Kr dh
 have e0 := Qx ez
 have ij := of_decide_eq_true e0
 have fa := Kr ce
 have ik := of_decide_eq_false fa
 exact Xw (Y7 (Xu (X2 (Xb (v := vi (k : Int)) eo Z (Yn (c := (k : Int) + 1) Z Z (by omega) (by omega) (by omega) Z (Xe (v := vi ((k : Int) + 1)) Z Z (Xc (Xu (⟨E.length - (k + 1), by omega, (k + 1), Z, (by omega), (TabG.low cw bi), (TabG.low gj bi), (TabG.low br bi), Z, ei, ej, ek, em, df, (eh.grown0 bi)⟩)))))))))
 have il := of_decide_eq_false ap
 refine Qe (Qb (Qb (Jm (Xu (X7 (fun f' w' => (f' 2 = vb ((((tableOk (callDo (tabT E) J).1 && (decide ((G.length : Int) = (E.length : Int)))) && (decide ((mj G J.run).t.num = (callDo (tabT E) J).2))) && (decide ((-4) ≤ (callDo (tabT E) J).2))) && (decide ((callDo (tabT E) J).2 ≤ 99)))) ∧ cd.grownBy w' none) ?_ ?_)))))
 refine Xb (v := .slice ah G.length ab) au Z (Xl Rq (Xg Z Xk) Z (U6  _ G _ _ (TabG.at br) az (by omega)) ?_)
 rintro _ i0 ⟨rfl, a9⟩
 refine Xb (v := vb (tableOk (callDo (tabT E) J).1)) (congrArg (fun T : List Th => Value.bool (tableOk T)) ba) Z ?_
 rcases Yf (tableOk (callDo (tabT E) J).1) with ak | ak
 refine Xf Z Z Z ak (Xb (v := .slice ah G.length ab) au Z (Xf Z Z Z ak (Yu (by kernel_rfl) Z Z (Xf Z Z Z ak (Xb (v := .slice (pa ae) E.length V) av Z (Xf Z Z Z ak (Yu (by kernel_rfl) Z Z (Xf Z Z Z ak (X3 (q := decide ((G.length : Int) = (E.length : Int))) Z Z Z Z (Xs (v := vb (decide ((G.length : Int) = (E.length : Int)))) Z ak Z Z (Xb (v := vb (decide ((G.length : Int) = (E.length : Int)))) Z Z ?_)))))))))))
 rcases Yf (decide ((G.length : Int) = (E.length : Int))) with af | af
 have im := of_decide_eq_true af
 refine Xf Z Z Z af (Xb (v := .slice ah G.length ab) au Z (Xf Z Z Z af (Xd (o' := 1) Qv ct Z Z (Xf Z Z Z af (Xh (v := vi J.run) X1 Z ((eh.grown0 a9).cell Z) Z (Xf Z Z Z af (Ys (c := J.run - 1) Z Z (by omega) (by omega) (by omega) Z (Xf Z Z Z af ?_))))))))
 have dp := (TabG.low br a9)
 obtain ⟨ib, ix, gi, d6, eb, ed⟩ := SlAt.at (TabG.at dp).1 (Yi (xg G (J.run - 1).toNat))
 have gk := TabLen.at az (xg G (J.run - 1).toNat)
 refine Xz Y2 Z Z d6 eb (by omega) (by omega) Z (Xf Z Z Z af (Xd (o' := gi + 4) Q6 Z Z Z (Xf Z Z Z af (Xh (v := vi (mj G J.run).t.num) X1 Z (ed 4 _ Z) Z (Xf Z Z Z af (Xb (v := vi (callDo (tabT E) J).2) bp Z (Xf Z Z Z af (X3 (q := decide ((mj G J.run).t.num = (callDo (tabT E) J).2)) Z Z Z Z (Xs (v := vb (decide ((mj G J.run).t.num = (callDo (tabT E) J).2))) Z af Z Z (Xb (v := vb (decide ((mj G J.run).t.num = (callDo (tabT E) J).2))) Z Z ?_))))))))))
 rcases Yf (decide ((mj G J.run).t.num = (callDo (tabT E) J).2)) with aq | aq
 have io := of_decide_eq_true aq
 refine Xf Z Z Z aq (Xb (v := vi (callDo (tabT E) J).2) bp Z (Xf Z Z Z aq (V5 (q := decide ((-4) ≤ (callDo (tabT E) J).2)) Z Z Z Z (Xs (v := vb (decide ((-4) ≤ (callDo (tabT E) J).2))) Z aq Z Z (Xb (v := vb (decide ((-4) ≤ (callDo (tabT E) J).2))) Z Z ?_)))))
 rcases Yf (decide ((-4) ≤ (callDo (tabT E) J).2)) with ar | ar
 have ip := of_decide_eq_true ar
 exact Xf Z Z Z ar (Xb (v := vi (callDo (tabT E) J).2) bp Z (Xf Z Z Z ar (Vo (q := decide ((callDo (tabT E) J).2 ≤ 99)) Z Z Z Z (Xs (v := vb (decide ((callDo (tabT E) J).2 ≤ 99))) Z ar Z Z (Xe (v := vb (decide ((callDo (tabT E) J).2 ≤ 99))) Z Z (Xc ⟨(congrArg Value.bool (by first | (simp only [an, ak, af, aq, ar, ao, ai, ap, aj, al, ad, b0, b1, b2, b3, b4, b5, b6, b7, b8, b9]; done) | simp [an, ak, af, aq, ar, ao, ai, ap, aj, al, ad])), a9⟩))))))
 have iq := of_decide_eq_false ar
 exact Xi Z Z Z ar Z (Xi Z Z Z ar Z (Xo (v := vb false) Z ar Z Z (Xe (v := vb false) Z Z (Xc ⟨(congrArg Value.bool (by first | (simp only [an, ak, af, aq, ar, ao, ai, ap, aj, al, ad, b0, b1, b2, b3, b4, b5, b6, b7, b8, b9]; done) | simp [an, ak, af, aq, ar, ao, ai, ap, aj, al, ad])), a9⟩))))
 have ir := of_decide_eq_false aq
 exact Xi Z Z Z aq Z (Xi Z Z Z aq Z (Xo (v := vb false) Z aq Z Z (Xb (v := vb false) Z Z (Xi Z Z Z Z Z (Xi Z Z Z Z Z (Xo (v := vb false) Z Z Z Z (Xe (v := vb false) Z Z (Xc ⟨(congrArg Value.bool (by first | (simp only [an, ak, af, aq, ao, ai, ap, aj, al, ad, b0, b1, b2, b3, b4, b5, b6, b7, b8, b9]; done) | simp [an, ak, af, aq, ao, ai, ap, aj, al, ad])), a9⟩))))))))
 have it := of_decide_eq_false af
 iterate 9 refine Xi rfl rfl rfl af rfl ?_
 exact Xo (v := vb false) Z af Z Z (Xb (v := vb false) Z Z (Xi Z Z Z Z Z (Xi Z Z Z Z Z (Xo (v := vb false) Z Z Z Z (Xb (v := vb false) Z Z (Xi Z Z Z Z Z (Xi Z Z Z Z Z (Xo (v := vb false) Z Z Z Z (Xe (v := vb false) Z Z (Xc ⟨(congrArg Value.bool (by first | (simp only [an, ak, af, ao, ai, ap, aj, al, ad, b0, b1, b2, b3, b4, b5, b6, b7, b8, b9]; done) | simp [an, ak, af, ao, ai, ap, aj, al, ad])), a9⟩))))))))))
 iterate 5 refine Xi rfl rfl rfl ak rfl ?_
 refine Xo (v := vb false) Z ak Z Z (Xb (v := vb false) Z Z ?_)
 iterate 9 refine Xi rfl rfl rfl rfl rfl ?_
 exact Xo (v := vb false) Z Z Z Z (Xb (v := vb false) Z Z (Xi Z Z Z Z Z (Xi Z Z Z Z Z (Xo (v := vb false) Z Z Z Z (Xb (v := vb false) Z Z (Xi Z Z Z Z Z (Xi Z Z Z Z Z (Xo (v := vb false) Z Z Z Z (Xe (v := vb false) Z Z (Xc ⟨(congrArg Value.bool (by first | (simp only [an, ak, ao, ai, ap, aj, al, ad, b0, b1, b2, b3, b4, b5, b6, b7, b8, b9]; done) | simp [an, ak, ao, ai, ap, aj, al, ad])), a9⟩))))))))))
 rintro ie i1 ⟨er, d7⟩
 refine Xt (⟨vb ((((tableOk (callDo (tabT E) J).1 && (decide ((G.length : Int) = (E.length : Int)))) && (decide ((mj G J.run).t.num = (callDo (tabT E) J).2))) && (decide ((-4) ≤ (callDo (tabT E) J).2))) && (decide ((callDo (tabT E) J).2 ≤ 99))), Yp Z er, ?_, (low0 dw d7)⟩)
 have e2 : G.length = E.length := Q1 ba ai
 have e4 := Ol ai
 rw [Z6 ai, e2, Od ba ai, decide_eq_true e4.1, decide_eq_true e4.2]
 simp
end Go.Proofs.YtjpgffmkcmcolaaGreatDoor
end
