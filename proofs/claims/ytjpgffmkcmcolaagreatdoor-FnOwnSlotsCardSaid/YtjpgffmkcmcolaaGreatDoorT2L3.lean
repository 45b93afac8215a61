/- Laws and walks: my templates, and what a program of mine (gen.py) printed out of the functions; only what the row reaches. -/
import Derived.Test.YtjpgffmkcmcolaaGreatDoorT25
section
namespace Go.Proofs.YtjpgffmkcmcolaaGreatDoor
open Go.RowKit Go.Dw
set_option maxRecDepth 100000
set_option maxHeartbeats 4000000
set_option linter.unusedSimpArgs false
set_option linter.unusedVariables false
theorem Va : goFn Tryz.prog 15 = true := by kernel_rfl
theorem Vb : goFn Tryz.prog 16 = true := by kernel_rfl
theorem K8 : goFn Tryz.prog 17 = true := by kernel_rfl
theorem Kc : goFn Tryz.prog 18 = true := by kernel_rfl
theorem Vc : goFn Tryz.prog 19 = true := by kernel_rfl
theorem law_FnOwnSlots (bs : List Int) (a : Option Addr) (c : Nat) (w : World) (d4 : SlAt w a 1 (bs.map bcell)) (hb : ∀ b ∈ bs, 0 ≤ b ∧ b ≤ 255) (hn : bs.length ≤ 9223372036854775807) (hc : bs.length ≤ c) (hE : ErrT w) : CallsR Tryz.prog 4 #[.slice a bs.length c] w (fun v w' => v = .bool true ∧ w.grownBy w' none) := by
 refine Xx (n := 89) Tryz.func4 Z Tryz.ntmps4 Z ?_
 have cz := World.grownBy.refl w none
 have hs := SlAt.lt Kl (by omega) d4
 refine Xa (Xe (v := vb false) Z Z (Xc (Xq (Xa (Xb (v := .slice a bs.length c) Z Z (Yu (by kernel_rfl) Z Z (Jd (q := decide (1048576 < (bs.length : Int))) Z Z Z Z (Xc (Xy Z (fun ar => ?_) (fun ar => ?_))))))))))
 have ey := of_decide_eq_true ar
 refine Xa (Xe (v := vb true) Z Z (Xc (Xt (Yk (⟨vb true, Yp Z Z, ?_, cz⟩)))))
 rfl
 have ez := of_decide_eq_false ar
 refine Xw (Xu (Xa (Xb (v := .slice a bs.length c) Z Z (Xl Va (Xg Z Xk) Z (J0 bs a c _ (SlAt.low d4 cz) hb (by omega) (by omega)) ?_))))
 rintro _ fo ⟨ad, ab, E, G, rfl, a8, co, d8, eu, c8⟩
 have bz := low0 cz c8
 have aw := co.len
 refine Xb (v := .tuple #[.slice (pa ad) E.length ab, .agg #[vi G.kind, vi G.run, vi G.a, vi G.b, vi G.n]]) Z Z (X4 (v := .slice (pa ad) E.length ab) Z Z Z (X4 (v := .agg #[vi G.kind, vi G.run, vi G.a, vi G.b, vi G.n]) Z Z Z (Ye (cs := #[vi 0, vi 0, vi 0, vi 0, vi 0]) Uh Z Z ?_)))
 intro bd fp ae
 have eb := Yj ae bz
 refine Xe (v := .slice (pa ad) E.length ab) Z Z (X0 (vs := [vi G.kind, vi G.run, vi G.a, vi G.b, vi G.n]) (cs' := #[vi G.kind, vi G.run, vi G.a, vi G.b, vi G.n]) Y1 Z Z Z (by simp [Value.oneCell']) ae.blk (Nat.le_of_ble_eq_true Z) Z ?_)
 intro d6 ai
 refine Xc (Xa (Xb (v := .slice (pa ad) E.length ab) Z Z (Xp (vs := [vi G.kind, vi G.run, vi G.a, vi G.b, vi G.n]) Y1 Z Z (ai.blk.rangeL 0 5 Z) Z ?_)))
 have eg := (ai.blk).lt
 refine Xl Vb (Xg Z (Xg Z Xk)) Z (Ku G _ E _ _ (TabG.at (TabG.low a8 (low1 ae.grw ai.grw (nt ((World.grownBy.refl _ none)).size (Nat.le_of_eq ae.eq.symm))))) aw (by omega)) ?_
 rintro _ d7 ⟨be, aq, al, rfl, cl, bc, a9⟩
 have ca := low0 (low1 (low0 bz ae.grw) ai.grw (by omega)) a9
 have bn := Q3 bc
 have ej := Qo bc
 refine Xb (v := .tuple #[.slice (pa be) al.length aq, vi (callDo (tabT E) G).2]) Z Z (X4 (v := .slice (pa be) al.length aq) Z Z Z (X4 (v := vi (callDo (tabT E) G).2) Z Z Z (Xe (v := .slice (pa be) al.length aq) Z Z (Xe (v := vi (callDo (tabT E) G).2) Z Z (Xc (Xa (Xb (v := .slice (pa ad) E.length ab) Z Z ?_)))))))
 have cj := (ai.blk.grown0 a9)
 refine Xp (vs := [vi G.kind, vi G.run, vi G.a, vi G.b, vi G.n]) Y1 Z Z (cj.rangeL 0 5 Z) Z ?_
 have eh := (cj).lt
 refine Xl K8 (Xg Z (Xg Z Xk)) Z (K2 G _ E _ _ (TabG.at (TabG.low a8 (low0 (low1 ae.grw ai.grw (nt ((World.grownBy.refl _ none)).size (Nat.le_of_eq ae.eq.symm))) a9))) aw (by omega) (ErrT.grown0 hE ca)) ?_
 rintro _ fq ⟨am, ac, J, rfl, bg, ap, ba⟩
 have bi := Q3 ap
 have ek := Qo ap
 refine Xb (v := .tuple #[.slice am J.length ac, vi (callDo (tabT E) G).2]) Z Z (X4 (v := .slice am J.length ac) Z Z Z (X4 (v := vi (callDo (tabT E) G).2) Z Z Z (Xe (v := .slice am J.length ac) Z Z (Xe (v := vi (callDo (tabT E) G).2) Z Z (Xc (Xq (Xa (Xb (v := vi (callDo (tabT E) G).2) Z Z (Xb (v := vi (callDo (tabT E) G).2) Z Z (Y8 (q := false) Z Z (by simp) Z (Xb (v := vb false) Z Z (Xf Z Z Z Z ?_))))))))))))
 refine Xb (v := .slice am J.length ac) Z Z (Xf Z Z Z Z (Xb (v := .slice (pa be) al.length aq) Z Z (Xf Z Z Z Z ?_)))
 have bh := (TabG.low cl ba)
 refine Xl Kc (Xg Z (Xg Z Xk)) Z (Q9 _ J al _ _ _ _ (TabG.at bg) (TabG.at bh) bi bn (by omega) (by omega)) ?_
 rintro _ fr ⟨rfl, ak⟩
 refine Xf Z Z Z Z (Yl (b' := false) (congrArg Value.bool (decide_eq_true (ap.trans bc.symm))) Z Z (Xo (v := vb false) Z Z Z Z (Xb (v := vb false) Z Z (Xf Z Z Z Z (Xb (v := .slice (pa ad) E.length ab) Z Z (Xf Z Z Z Z ?_))))))
 have cw := ((cj.grown0 ba).grown0 ak)
 refine Xp (vs := [vi G.kind, vi G.run, vi G.a, vi G.b, vi G.n]) Y1 Z Z (cw.rangeL 0 5 Z) Z (Xf Z Z Z Z (Xl Vc (Xg Z (Xg Z Xk)) Z (Vl G _ E _ _ (TabG.at (TabG.low a8 (low0 (low0 (low0 (low1 ae.grw ai.grw (nt ((World.grownBy.refl _ none)).size (Nat.le_of_eq ae.eq.symm))) a9) ba) ak))) aw (by omega)) ?_))
 rintro _ ft ⟨rfl, ao⟩
 have cc := low0 (low0 (low0 ca ba) ak) ao
 refine Xf Z Z Z Z (Yl (b' := !callPoss (tabT E) G) Z Z Z (Xo (v := vb (!callPoss (tabT E) G)) Z Z Z Z (Xc (Xy Z (fun au => ?_) (fun au => ?_)))))
 have e0 := Q2 au
 refine Xa (Xb (v := vi (callDo (tabT E) G).2) Z Z (Xb (v := vi (callDo (tabT E) G).2) Z Z (X3 (q := true) Z Z (by simp) Z (Xb (v := vb true) Z Z (Xf Z Z Z Z (Xb (v := .slice am J.length ac) Z Z (Xf Z Z Z Z (Xb (v := .slice (pa be) al.length aq) Z Z (Xf Z Z Z Z (Xl Kc (Xg Z (Xg Z Xk)) Z (Q9 _ J al _ _ _ _ (TabG.at (TabG.low (TabG.low bg ak) ao)) (TabG.at (TabG.low (TabG.low bh ak) ao)) bi bn (by omega) (by omega)) ?_))))))))))
 rintro _ fu ⟨rfl, c9⟩
 refine Xs (v := vb true) Z Z (congrArg Value.bool (decide_eq_true (ap.trans bc.symm))) Z (Xe (v := vb true) Z Z (Xc (Xt (Yk (⟨vb true, Yp Z Z, ?_, (low0 cc c9)⟩)))))
 rfl
 have ag := Qx au
 obtain ⟨aj, an, af⟩ := Yh ag
 have d9 := Yq an
 have ea := (Y3 af).1
 have ep := Qp aj af
 have ei := Jb aj
 have hde := Qs ag
 have hrk := Qn (Yh ag).2.2
 have em := Q1 bc ag
 have eo := Q1 ap ag
 refine Xw (Xu (Xq (Xa (Xe (v := vi 0) Z Z (Xc (Yc (Qm (fun mm f' w' => ∃ (k : Nat), mm = E.length - k ∧ k ≤ E.length ∧ TabG w.heap.size w' (pa ad) E ∧ TabG d6.heap.size w' (pa be) al ∧ TabG d7.heap.size w' (am) J ∧ f' 9 = vi (k : Int) ∧ f' 3 = .slice (pa ad) E.length ab ∧ f' 4 = pt bd 0 ∧ f' 7 = .slice am J.length ac ∧ w.grownBy w' none ∧ Blk w' bd 25 #[vi G.kind, vi G.run, vi G.a, vi G.b, vi G.n]) (E.length - 0) ⟨0, Z, (Nat.zero_le _), (TabG.low a8 (low0 (low0 (low0 (low0 (low1 ae.grw ai.grw (nt ((World.grownBy.refl _ none)).size (Nat.le_of_eq ae.eq.symm))) a9) ba) ak) ao)), (TabG.low (TabG.low bh ak) ao), (TabG.low (TabG.low bg ak) ao), Z, Z, Z, Z, cc, (cw.grown0 ao)⟩ ?_)))))))
 rintro mm ew br ⟨k, er, hk, bm, d3, bw, ah, az, bf, bj, cd, bp⟩
 refine Xq (Xa (Xb (v := vi (k : Int)) ah Z (Xb (v := .slice (pa ad) E.length ab) az Z (Yu (by kernel_rfl) Z Z (Qa (q := decide ((k : Int) < (E.length : Int))) Z Z Z Z (Xc (Xy Z (fun av => ?_) (fun av => ?_))))))))
 have fa := of_decide_eq_true av
 refine Xw (Xu (Xq (Yc (Kn (fun f' w' => (f' 3 = .slice (pa ad) E.length ab ∧ f' 4 = pt bd 0 ∧ f' 7 = .slice am J.length ac ∧ f' 9 = vi (k : Int) ∧ f' 83 = vb (((!(decide ((k : Int) + 1 = G.run))) && (decide ((mAt E k).t.kind = 3))) && (!(decide ((mAt J k).t = (mAt E k).t))))) ∧ br.grownBy w' none) ?_ ?_))))
 rcases Yf (!(decide ((k : Int) + 1 = G.run))) with O | O
 have bk := Q2 O
 have fb := of_decide_eq_false bk
 rcases Yf (decide ((mAt E k).t.kind = 3)) with V | V
 have fc := of_decide_eq_true V
 obtain ⟨bt, fj, bq, bx, cf, cg⟩ := SlAt.at (TabG.at bm).1 (Yi (xg E k))
 have ed := TabLen.at aw (xg E k)
 obtain ⟨dr, fk, d5, cx, dm, dp⟩ := SlAt.at (TabG.at bw).1 (Yi (xg J k))
 have ee := TabLen.at bi (xg J k)
 refine Yw (m := 22) (vals := [(59, vi (k : Int)), (60, vi ((k : Int) + 1)), (61, pt bd 1), (62, vi G.run), (63, vb (!(decide ((k : Int) + 1 = G.run)))), (64, vb (!(decide ((k : Int) + 1 = G.run)))), (65, .slice (pa ad) E.length ab), (66, vi (k : Int)), (67, pt bt bq), (68, pt bt bq), (69, vi (mAt E k).t.kind), (70, vb (decide ((mAt E k).t.kind = 3))), (71, vb (decide ((mAt E k).t.kind = 3))), (72, vb (decide ((mAt E k).t.kind = 3))), (73, .slice am J.length ac), (74, vi (k : Int)), (75, pt dr d5), (76, .agg #[vi (mAt J k).t.kind, vi (mAt J k).t.lab.s, vi (mAt J k).t.lab.v, vi (mAt J k).t.ve, vi (mAt J k).t.num, .slice (mAt J k).sa (mAt J k).t.slots.length (mAt J k).sc, .slice (mAt J k).qa (mAt J k).t.queue.length (mAt J k).qc, vi (mAt J k).t.to]), (77, .slice (pa ad) E.length ab), (78, vi (k : Int)), (79, pt bt bq), (80, .agg #[vi (mAt E k).t.kind, vi (mAt E k).t.lab.s, vi (mAt E k).t.lab.v, vi (mAt E k).t.ve, vi (mAt E k).t.num, .slice (mAt E k).sa (mAt E k).t.slots.length (mAt E k).sc, .slice (mAt E k).qa (mAt E k).t.queue.length (mAt E k).qc, vi (mAt E k).t.to])]) (fun w' => br.grownBy w' none) Yy (by kernel_rfl) (X6 _) ?_ ?_
 refine yl Z (fun _ _ kq => Xb (v := vi (k : Int)) ah Z kq) (yl Z (fun _ _ kq => Yn (c := (k : Int) + 1) Z Z (by omega) (by omega) (by omega) Z kq) (yl Z (fun _ _ k => Xd (o' := 1) Qv bf Z Z k) (yl Z (fun _ db k => Xh (v := vi G.run) X1 Z ((bp.grown0 db).cell Z) Z k) (yl Z (fun _ _ kq => Y8 (q := !(decide ((k : Int) + 1 = G.run))) Z Z Z Z kq) (yl Z (fun _ _ kq => Xb (v := vb (!(decide ((k : Int) + 1 = G.run)))) Z Z kq) (yl Z (fun _ _ k => Xf Z Z Z O (Xb (v := .slice (pa ad) E.length ab) az Z k)) (yl Z (fun _ _ kq => Xf Z Z Z O (Xb (v := vi (k : Int)) ah Z kq)) (yl Z (fun _ _ k => Xf Z Z Z O (Xz Y2 Z Z bx cf (by omega) (by omega) Z k)) (yl Z (fun _ _ k => Xf Z Z Z O (Xd (o' := bq) Y9 Z Z Z k)) (yl Z (fun _ dc kq => Xf Z Z Z O (Xh (v := vi (mAt E k).t.kind) X1 Z ((X9 cg dc) 0 _ Z) Z kq)) ?_))))))))))
 refine yl Z (fun _ _ kq => Xf Z Z Z O (X3 (q := decide ((mAt E k).t.kind = 3)) Z Z Z Z kq)) (yl Z (fun _ _ kq => Xs (v := vb (decide ((mAt E k).t.kind = 3))) Z O Z Z kq) (yl Z (fun _ _ kq => Xb (v := vb (decide ((mAt E k).t.kind = 3))) Z Z kq) (yl Z (fun _ _ k => Xf Z Z Z V (Xb (v := .slice am J.length ac) bj Z k)) (yl Z (fun _ _ kq => Xf Z Z Z V (Xb (v := vi (k : Int)) ah Z kq)) (yl Z (fun _ _ k => Xf Z Z Z V (Xz Y2 Z Z cx dm (by omega) (by omega) Z k)) (yl Z (fun _ de kq => Xf Z Z Z V (Xp (vs := [vi (mAt J k).t.kind, vi (mAt J k).t.lab.s, vi (mAt J k).t.lab.v, vi (mAt J k).t.ve, vi (mAt J k).t.num, .slice (mAt J k).sa (mAt J k).t.slots.length (mAt J k).sc, .slice (mAt J k).qa (mAt J k).t.queue.length (mAt J k).qc, vi (mAt J k).t.to]) Y0 Z Z (Yr (X9 dp de) 0 8 Z) Z kq)) (yl Z (fun _ _ k => Xf Z Z Z V (Xb (v := .slice (pa ad) E.length ab) az Z k)) (yl Z (fun _ _ kq => Xf Z Z Z V (Xb (v := vi (k : Int)) ah Z kq)) (yl Z (fun _ _ k => Xf Z Z Z V (Xz Y2 Z Z bx cf (by omega) (by omega) Z k)) (yl Z (fun _ df kq => Xf Z Z Z V (Xp (vs := [vi (mAt E k).t.kind, vi (mAt E k).t.lab.s, vi (mAt E k).t.lab.v, vi (mAt E k).t.ve, vi (mAt E k).t.num, .slice (mAt E k).sa (mAt E k).t.slots.length (mAt E k).sc, .slice (mAt E k).qa (mAt E k).t.queue.length (mAt E k).qc, vi (mAt E k).t.to]) Y0 Z Z (Yr (X9 cg df) 0 8 Z) Z kq)) ?_))))))))))
 exact Y5
 intro fv bl
 refine Xf Z Z Z V ?_
 have cm := (TabG.low bw bl)
 have cn := (TabG.low bm bl)
 refine Xl Hu (Xg Z (Xg Z Xk)) Z (Vv (mAt J k) (mAt E k) _ (TabAt.th (TabG.at cm) (xg J k)) (TabAt.th (TabG.at cn) (xg E k)) ⟨by first | omega | exact Nat.le_of_ble_eq_true Z | (simp only [List.length_nil, List.length_cons, List.length_append, List.length_replicate]; omega), by first | omega | exact Nat.le_of_ble_eq_true Z | (simp only [List.length_nil, List.length_cons, List.length_append, List.length_replicate]; omega)⟩ ⟨by first | omega | exact Nat.le_of_ble_eq_true Z | (simp only [List.length_nil, List.length_cons, List.length_append, List.length_replicate]; omega), by first | omega | exact Nat.le_of_ble_eq_true Z | (simp only [List.length_nil, List.length_cons, List.length_append, List.length_replicate]; omega)⟩) ?_
 rintro _ fw ⟨rfl, da⟩
 exact Xf Z Z Z V (Yl (b' := !(decide ((mAt J k).t = (mAt E k).t))) Z Z Z (Xs (v := vb (!(decide ((mAt J k).t = (mAt E k).t)))) Z V Z Z (Xc (Xu ⟨⟨az, bf, bj, ah, (congrArg Value.bool (by first | (simp only [ar, au, ag, av, O, bk, V, aj, an, af, b0, b1, b2, b3, b4, b5, b6, b7, b8, b9]; done) | simp [ar, au, ag, av, O, bk, V, aj, an, af]))⟩, (grown_trans bl da)⟩))))
 have fd := of_decide_eq_false V
 obtain ⟨ct, fm, ck, cy, dn, dq⟩ := SlAt.at (TabG.at bm).1 (Yi (xg E k))
 have ef := TabLen.at aw (xg E k)
 refine Yw (m := 22) (vals := [(59, vi (k : Int)), (60, vi ((k : Int) + 1)), (61, pt bd 1), (62, vi G.run), (63, vb (!(decide ((k : Int) + 1 = G.run)))), (64, vb (!(decide ((k : Int) + 1 = G.run)))), (65, .slice (pa ad) E.length ab), (66, vi (k : Int)), (67, pt ct ck), (68, pt ct ck), (69, vi (mAt E k).t.kind), (70, vb (decide ((mAt E k).t.kind = 3))), (71, vb (decide ((mAt E k).t.kind = 3))), (72, vb (decide ((mAt E k).t.kind = 3))), (73, undef), (74, undef), (75, undef), (76, undef), (77, undef), (78, undef), (79, undef), (80, undef)]) (fun w' => br.grownBy w' none) Yy (by kernel_rfl) (X6 _) ?_ ?_
 refine yl Z (fun _ _ kq => Xb (v := vi (k : Int)) ah Z kq) (yl Z (fun _ _ kq => Yn (c := (k : Int) + 1) Z Z (by omega) (by omega) (by omega) Z kq) (yl Z (fun _ _ k => Xd (o' := 1) Qv bf Z Z k) (yl Z (fun _ dg k => Xh (v := vi G.run) X1 Z ((bp.grown0 dg).cell Z) Z k) (yl Z (fun _ _ kq => Y8 (q := !(decide ((k : Int) + 1 = G.run))) Z Z Z Z kq) (yl Z (fun _ _ kq => Xb (v := vb (!(decide ((k : Int) + 1 = G.run)))) Z Z kq) (yl Z (fun _ _ k => Xf Z Z Z O (Xb (v := .slice (pa ad) E.length ab) az Z k)) (yl Z (fun _ _ kq => Xf Z Z Z O (Xb (v := vi (k : Int)) ah Z kq)) (yl Z (fun _ _ k => Xf Z Z Z O (Xz Y2 Z Z cy dn (by omega) (by omega) Z k)) (yl Z (fun _ _ k => Xf Z Z Z O (Xd (o' := ck) Y9 Z Z Z k)) (yl Z (fun _ dh kq => Xf Z Z Z O (Xh (v := vi (mAt E k).t.kind) X1 Z ((X9 dq dh) 0 _ Z) Z kq)) ?_))))))))))
 refine yl Z (fun _ _ kq => Xf Z Z Z O (X3 (q := decide ((mAt E k).t.kind = 3)) Z Z Z Z kq)) (yl Z (fun _ _ kq => Xs (v := vb (decide ((mAt E k).t.kind = 3))) Z O Z Z kq) (yl Z (fun _ _ kq => Xb (v := vb (decide ((mAt E k).t.kind = 3))) Z Z kq) (yl Z (fun _ _ k => Xi Z Z Z V Z k) (yl Z (fun _ _ k => Xi Z Z Z V Z k) (yl Z (fun _ _ k => Xi Z Z Z V Z k) (yl Z (fun _ _ k => Xi Z Z Z V Z k) (yl Z (fun _ _ k => Xi Z Z Z V Z k) (yl Z (fun _ _ k => Xi Z Z Z V Z k) (yl Z (fun _ _ k => Xi Z Z Z V Z k) (yl Z (fun _ _ k => Xi Z Z Z V Z k) ?_))))))))))
 exact Y5
 intro fx di
 exact Xi Z Z Z V Z (Xi Z Z Z V Z (Xo (v := vb false) Z V Z Z (Xc (Xu ⟨⟨az, bf, bj, ah, (congrArg Value.bool (by first | (simp only [ar, au, ag, av, O, bk, V, aj, an, af, b0, b1, b2, b3, b4, b5, b6, b7, b8, b9]; done) | simp [ar, au, ag, av, O, bk, V, aj, an, af]))⟩, di⟩))))
 have bu := Qx O
 have fe := of_decide_eq_true bu
 refine Yw (m := 22) (vals := [(59, vi (k : Int)), (60, vi ((k : Int) + 1)), (61, pt bd 1), (62, vi G.run), (63, vb (!(decide ((k : Int) + 1 = G.run)))), (64, vb (!(decide ((k : Int) + 1 = G.run)))), (65, undef), (66, undef), (67, undef), (68, undef), (69, undef), (70, undef), (71, vb false), (72, vb false), (73, undef), (74, undef), (75, undef), (76, undef), (77, undef), (78, undef), (79, undef), (80, undef)]) (fun w' => br.grownBy w' none) Yy (by kernel_rfl) (X6 _) ?_ ?_
 refine yl Z (fun _ _ kq => Xb (v := vi (k : Int)) ah Z kq) (yl Z (fun _ _ kq => Yn (c := (k : Int) + 1) Z Z (by omega) (by omega) (by omega) Z kq) (yl Z (fun _ _ k => Xd (o' := 1) Qv bf Z Z k) (yl Z (fun _ dk k => Xh (v := vi G.run) X1 Z ((bp.grown0 dk).cell Z) Z k) (yl Z (fun _ _ kq => Y8 (q := !(decide ((k : Int) + 1 = G.run))) Z Z Z Z kq) (yl Z (fun _ _ kq => Xb (v := vb (!(decide ((k : Int) + 1 = G.run)))) Z Z kq) (yl Z (fun _ _ k => Xi Z Z Z O Z k) (yl Z (fun _ _ k => Xi Z Z Z O Z k) (yl Z (fun _ _ k => Xi Z Z Z O Z k) (yl Z (fun _ _ k => Xi Z Z Z O Z k) (yl Z (fun _ _ k => Xi Z Z Z O Z k) ?_))))))))))
 refine yl Z (fun _ _ k => Xi Z Z Z O Z k) (yl Z (fun _ _ k => Xo (v := vb false) Z O Z Z k) (yl Z (fun _ _ k => Xb (v := vb false) Z Z k) (yl Z (fun _ _ k => Xi Z Z Z Z Z k) (yl Z (fun _ _ k => Xi Z Z Z Z Z k) (yl Z (fun _ _ k => Xi Z Z Z Z Z k) (yl Z (fun _ _ k => Xi Z Z Z Z Z k) (yl Z (fun _ _ k => Xi Z Z Z Z Z k) (yl Z (fun _ _ k => Xi Z Z Z Z Z k) (yl Z (fun _ _ k => Xi Z Z Z Z Z k) (yl Z (fun _ _ k => Xi Z Z Z Z Z k) ?_))))))))))
 exact Y5
 intro fy dl
 exact Xi Z Z Z Z Z (Xi Z Z Z Z Z (Xo (v := vb false) Z Z Z Z (Xc (Xu ⟨⟨az, bf, bj, ah, (congrArg Value.bool (by first | (simp only [ar, au, ag, av, O, bu, aj, an, af, b0, b1, b2, b3, b4, b5, b6, b7, b8, b9]; done) | simp [ar, au, ag, av, O, bu, aj, an, af]))⟩, dl⟩))))
 rintro ex fz ⟨⟨dt, du, dv, dw, dx⟩, bb⟩
 have ce := low0 cd bb
 refine Xy dx (fun bv => ?_) (fun bv => ?_)
 have cv := Uk bv
 have dy := Uk cv
 have dz := Q2 dy
 have ff := of_decide_eq_false dz
 have d0 := Ul cv
 have fg := of_decide_eq_true d0
 have d1 := Ul bv
 have d2 := Q2 d1
 have fh := of_decide_eq_false d2
 refine Xa (Xe (v := vb false) Z Z (Xc (Xt (Qi (Yk (Yk (Qi (Yk (⟨vb false, Yp Z Z, ?_, ce⟩)))))))))
 exact absurd (Z9 ap ag (k := k) (by omega) (by omega)) (by assumption)
 exact Xw (Y7 (Xu (X2 (Xb (v := vi (k : Int)) dw Z (Yn (c := (k : Int) + 1) Z Z (by omega) (by omega) (by omega) Z (Xe (v := vi ((k : Int) + 1)) Z Z (Xc (Xu (⟨E.length - (k + 1), by omega, (k + 1), Z, (by omega), (TabG.low bm bb), (TabG.low d3 bb), (TabG.low bw bb), Z, dt, du, dv, ce, (bp.grown0 bb)⟩)))))))))
 have fi := of_decide_eq_false av
 refine Qe (Qb (Qb (Jm (Xu (Xa (Xb (v := .slice am J.length ac) bj Z (Yu (by kernel_rfl) Z Z (Xb (v := .slice (pa ad) E.length ab) az Z (Yu (by kernel_rfl) Z Z (X3 (q := decide ((J.length : Int) = (E.length : Int))) Z Z Z Z (Xe (v := vb (decide ((J.length : Int) = (E.length : Int)))) Z Z (Xc ?_))))))))))))
 refine Xt (⟨vb (decide ((J.length : Int) = (E.length : Int))), Yp Z Z, ?_, cd⟩)
 rw [Q1 ap ag]; simp
end Go.Proofs.YtjpgffmkcmcolaaGreatDoor
end
