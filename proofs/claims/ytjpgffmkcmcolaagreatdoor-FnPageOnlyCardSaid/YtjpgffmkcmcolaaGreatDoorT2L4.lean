/- Laws and walks: my templates, and what a program of mine (gen.py) printed out of the functions; only what the row reaches. -/
import Derived.Test.YtjpgffmkcmcolaaGreatDoorT25
section
namespace Go.Proofs.YtjpgffmkcmcolaaGreatDoor
open Go.RowKit Go.Dw
set_option maxRecDepth 100000
set_option maxHeartbeats 4000000
set_option linter.unusedSimpArgs false
set_option linter.unusedVariables false
theorem Va : goFn Tryz.prog 15 = true := by kernel_rfl
theorem Vb : goFn Tryz.prog 16 = true := by kernel_rfl
theorem K8 : goFn Tryz.prog 17 = true := by kernel_rfl
theorem Kc : goFn Tryz.prog 18 = true := by kernel_rfl
theorem Vc : goFn Tryz.prog 19 = true := by kernel_rfl
theorem law_FnPageOnly (bs : List Int) (a : Option Addr) (c : Nat) (w : World) (ff : SlAt w a 1 (bs.map bcell)) (hb : ∀ b ∈ bs, 0 ≤ b ∧ b ≤ 255) (hn : bs.length ≤ 9223372036854775807) (hc : bs.length ≤ c) (hE : ErrT w) : CallsR Tryz.prog 5 #[.slice a bs.length c] w (fun v w' => v = .bool true ∧ w.grownBy w' none) := by
 refine Xx (n := 112) Tryz.func5 Z Tryz.ntmps5 Z ?_
 have dt := World.grownBy.refl w none
 have hs := SlAt.lt Kl (by omega) ff
 refine Xa (Xe (v := vb false) Z Z (Xc (Xq (Xa (Xb (v := .slice a bs.length c) Z Z (Yu (by kernel_rfl) Z Z (Jd (q := decide (1048576 < (bs.length : Int))) Z Z Z Z (Xc (Xy Z (fun ah => ?_) (fun ah => ?_))))))))))
 have gh := of_decide_eq_true ah
 refine Xa (Xe (v := vb true) Z Z (Xc (Xt (Yk (⟨vb true, Yp Z Z, ?_, dt⟩)))))
 rfl
 have gi := of_decide_eq_false ah
 refine Xw (Xu (Xa (Xb (v := .slice a bs.length c) Z Z (Xl Va (Xg Z Xk) Z (J0 bs a c _ (SlAt.low ff dt) hb (by omega) (by omega)) ?_))))
 rintro _ iq ⟨am, ad, E, G, rfl, bl, dh, fk, ga, du⟩
 have cz := low0 dt du
 have bm := dh.len
 refine Xb (v := .tuple #[.slice (pa am) E.length ad, .agg #[vi G.kind, vi G.run, vi G.a, vi G.b, vi G.n]]) Z Z (X4 (v := .slice (pa am) E.length ad) Z Z Z (X4 (v := .agg #[vi G.kind, vi G.run, vi G.a, vi G.b, vi G.n]) Z Z Z (Ye (cs := #[vi 0, vi 0, vi 0, vi 0, vi 0]) Uh Z Z ?_)))
 intro bz ir aq
 have fp := Yj aq cz
 refine Xe (v := .slice (pa am) E.length ad) Z Z (X0 (vs := [vi G.kind, vi G.run, vi G.a, vi G.b, vi G.n]) (cs' := #[vi G.kind, vi G.run, vi G.a, vi G.b, vi G.n]) Y1 Z Z Z (by simp [Value.oneCell']) aq.blk (Nat.le_of_ble_eq_true Z) Z ?_)
 intro fh bf
 refine Xc (Xa (Xb (v := .slice (pa am) E.length ad) Z Z (Xp (vs := [vi G.kind, vi G.run, vi G.a, vi G.b, vi G.n]) Y1 Z Z (bf.blk.rangeL 0 5 Z) Z ?_)))
 have ft := (bf.blk).lt
 refine Xl Vb (Xg Z (Xg Z Xk)) Z (Ku G _ E _ _ (TabG.at (TabG.low bl (low1 aq.grw bf.grw (nt ((World.grownBy.refl _ none)).size (Nat.le_of_eq aq.eq.symm))))) bm (by omega)) ?_
 rintro _ fi ⟨br, bj, bh, rfl, dg, bq, bn⟩
 have c8 := low0 (low1 (low0 cz aq.grw) bf.grw (by omega)) bn
 have cd := Q3 bq
 have fw := Qo bq
 refine Xb (v := .tuple #[.slice (pa br) bh.length bj, vi (callDo (tabT E) G).2]) Z Z (X4 (v := .slice (pa br) bh.length bj) Z Z Z (X4 (v := vi (callDo (tabT E) G).2) Z Z Z (Xe (v := .slice (pa br) bh.length bj) Z Z (Xe (v := vi (callDo (tabT E) G).2) Z Z (Xc (Xa (Xb (v := .slice (pa am) E.length ad) Z Z ?_)))))))
 have de := (bf.blk.grown0 bn)
 refine Xp (vs := [vi G.kind, vi G.run, vi G.a, vi G.b, vi G.n]) Y1 Z Z (de.rangeL 0 5 Z) Z ?_
 have fu := (de).lt
 refine Xl K8 (Xg Z (Xg Z Xk)) Z (K2 G _ E _ _ (TabG.at (TabG.low bl (low0 (low1 aq.grw bf.grw (nt ((World.grownBy.refl _ none)).size (Nat.le_of_eq aq.eq.symm))) bn))) bm (by omega) (ErrT.grown0 hE c8)) ?_
 rintro _ it ⟨be, ag, J, rfl, bv, bb, bp⟩
 have bx := Q3 bb
 have fx := Qo bb
 refine Xb (v := .tuple #[.slice be J.length ag, vi (callDo (tabT E) G).2]) Z Z (X4 (v := .slice be J.length ag) Z Z Z (X4 (v := vi (callDo (tabT E) G).2) Z Z Z (Xe (v := .slice be J.length ag) Z Z (Xe (v := vi (callDo (tabT E) G).2) Z Z (Xc (Xq (Xa (Xb (v := vi (callDo (tabT E) G).2) Z Z (Xb (v := vi (callDo (tabT E) G).2) Z Z (Y8 (q := false) Z Z (by simp) Z (Xb (v := vb false) Z Z (Xf Z Z Z Z ?_))))))))))))
 refine Xb (v := .slice be J.length ag) Z Z (Xf Z Z Z Z (Xb (v := .slice (pa br) bh.length bj) Z Z (Xf Z Z Z Z ?_)))
 have bw := (TabG.low dg bp)
 refine Xl Kc (Xg Z (Xg Z Xk)) Z (Q9 _ J bh _ _ _ _ (TabG.at bv) (TabG.at bw) bx cd (by omega) (by omega)) ?_
 rintro _ iu ⟨rfl, bg⟩
 refine Xf Z Z Z Z (Yl (b' := false) (congrArg Value.bool (decide_eq_true (bb.trans bq.symm))) Z Z (Xo (v := vb false) Z Z Z Z (Xb (v := vb false) Z Z (Xf Z Z Z Z (Xb (v := .slice (pa am) E.length ad) Z Z (Xf Z Z Z Z ?_))))))
 have dn := ((de.grown0 bp).grown0 bg)
 refine Xp (vs := [vi G.kind, vi G.run, vi G.a, vi G.b, vi G.n]) Y1 Z Z (dn.rangeL 0 5 Z) Z (Xf Z Z Z Z (Xl Vc (Xg Z (Xg Z Xk)) Z (Vl G _ E _ _ (TabG.at (TabG.low bl (low0 (low0 (low0 (low1 aq.grw bf.grw (nt ((World.grownBy.refl _ none)).size (Nat.le_of_eq aq.eq.symm))) bn) bp) bg))) bm (by omega)) ?_))
 rintro _ iv ⟨rfl, bi⟩
 have c9 := low0 (low0 (low0 c8 bp) bg) bi
 refine Xf Z Z Z Z (Yl (b' := !callPoss (tabT E) G) Z Z Z (Xo (v := vb (!callPoss (tabT E) G)) Z Z Z Z (Xc (Xy Z (fun ai => ?_) (fun ai => ?_)))))
 have gj := Q2 ai
 refine Xa (Xb (v := vi (callDo (tabT E) G).2) Z Z (Xb (v := vi (callDo (tabT E) G).2) Z Z (X3 (q := true) Z Z (by simp) Z (Xb (v := vb true) Z Z (Xf Z Z Z Z (Xb (v := .slice be J.length ag) Z Z (Xf Z Z Z Z (Xb (v := .slice (pa br) bh.length bj) Z Z (Xf Z Z Z Z (Xl Kc (Xg Z (Xg Z Xk)) Z (Q9 _ J bh _ _ _ _ (TabG.at (TabG.low (TabG.low bv bg) bi)) (TabG.at (TabG.low (TabG.low bw bg) bi)) bx cd (by omega) (by omega)) ?_))))))))))
 rintro _ iw ⟨rfl, dv⟩
 refine Xs (v := vb true) Z Z (congrArg Value.bool (decide_eq_true (bb.trans bq.symm))) Z (Xe (v := vb true) Z Z (Xc (Xt (Yk (⟨vb true, Yp Z Z, ?_, (low0 c9 dv)⟩)))))
 rfl
 have ab := Qx ai
 obtain ⟨ac, af, O⟩ := Yh ab
 have fm := Yq af
 have fo := (Y3 O).1
 have f8 := Qp ac O
 have fv := Jb ac
 have hde := Qs ab
 have hrk := Qn (Yh ab).2.2
 have fy := Q1 bq ab
 have fz := Q1 bb ab
 refine Xw (Xu (Xq (Xa (Xe (v := vi 0) Z Z (Xc (Yc (Qm (fun mm f' w' => ∃ (k : Nat), mm = E.length - k ∧ k ≤ E.length ∧ TabG w.heap.size w' (pa am) E ∧ TabG fh.heap.size w' (pa br) bh ∧ TabG fi.heap.size w' (be) J ∧ f' 9 = vi (k : Int) ∧ f' 3 = .slice (pa am) E.length ad ∧ f' 4 = pt bz 0 ∧ f' 7 = .slice be J.length ag ∧ w.grownBy w' none ∧ Blk w' bz 25 #[vi G.kind, vi G.run, vi G.a, vi G.b, vi G.n]) (E.length - 0) ⟨0, Z, (Nat.zero_le _), (TabG.low bl (low0 (low0 (low0 (low0 (low1 aq.grw bf.grw (nt ((World.grownBy.refl _ none)).size (Nat.le_of_eq aq.eq.symm))) bn) bp) bg) bi)), (TabG.low (TabG.low bw bg) bi), (TabG.low (TabG.low bv bg) bi), Z, Z, Z, Z, c9, (dn.grown0 bi)⟩ ?_)))))))
 rintro mm gb fj ⟨k, f9, hk, dl, bt, dm, an, ar, bc, bd, da, dp⟩
 refine Xq (Xa (Xb (v := vi (k : Int)) an Z (Xb (v := .slice (pa am) E.length ad) ar Z (Yu (by kernel_rfl) Z Z (Qa (q := decide ((k : Int) < (E.length : Int))) Z Z Z Z (Xc (Xy Z (fun aj => ?_) (fun aj => ?_))))))))
 have gk := of_decide_eq_true aj
 refine Xw (Xu (Xq (Yc (Xq (Xq ?_)))))
 obtain ⟨d0, io, fg, dr, dy, dz⟩ := SlAt.at (TabG.at dm).1 (Yi (xg J k))
 have fq := TabLen.at bx (xg J k)
 obtain ⟨d1, ip, dq, cy, db, dc⟩ := SlAt.at (TabG.at dl).1 (Yi (xg E k))
 have fr := TabLen.at bm (xg E k)
 refine Yw (m := 8) (vals := [(60, .slice be J.length ag), (61, vi (k : Int)), (62, pt d0 fg), (63, .agg #[vi (mAt J k).t.kind, vi (mAt J k).t.lab.s, vi (mAt J k).t.lab.v, vi (mAt J k).t.ve, vi (mAt J k).t.num, .slice (mAt J k).sa (mAt J k).t.slots.length (mAt J k).sc, .slice (mAt J k).qa (mAt J k).t.queue.length (mAt J k).qc, vi (mAt J k).t.to]), (64, .slice (pa am) E.length ad), (65, vi (k : Int)), (66, pt d1 dq), (67, .agg #[vi (mAt E k).t.kind, vi (mAt E k).t.lab.s, vi (mAt E k).t.lab.v, vi (mAt E k).t.ve, vi (mAt E k).t.num, .slice (mAt E k).sa (mAt E k).t.slots.length (mAt E k).sc, .slice (mAt E k).qa (mAt E k).t.queue.length (mAt E k).qc, vi (mAt E k).t.to])]) (fun w' => fj.grownBy w' none) Yy (by kernel_rfl) (X6 _) ?_ ?_
 exact yl Z (fun _ _ k => Xb (v := .slice be J.length ag) bd Z k) (yl Z (fun _ _ kq => Xb (v := vi (k : Int)) an Z kq) (yl Z (fun _ _ k => Xz Y2 Z Z dr dy (by omega) (by omega) Z k) (yl Z (fun _ dw kq => Xp (vs := [vi (mAt J k).t.kind, vi (mAt J k).t.lab.s, vi (mAt J k).t.lab.v, vi (mAt J k).t.ve, vi (mAt J k).t.num, .slice (mAt J k).sa (mAt J k).t.slots.length (mAt J k).sc, .slice (mAt J k).qa (mAt J k).t.queue.length (mAt J k).qc, vi (mAt J k).t.to]) Y0 Z Z (Yr (X9 dz dw) 0 8 Z) Z kq) (yl Z (fun _ _ k => Xb (v := .slice (pa am) E.length ad) ar Z k) (yl Z (fun _ _ kq => Xb (v := vi (k : Int)) an Z kq) (yl Z (fun _ _ k => Xz Y2 Z Z cy db (by omega) (by omega) Z k) (yl Z (fun _ dx kq => Xp (vs := [vi (mAt E k).t.kind, vi (mAt E k).t.lab.s, vi (mAt E k).t.lab.v, vi (mAt E k).t.ve, vi (mAt E k).t.num, .slice (mAt E k).sa (mAt E k).t.slots.length (mAt E k).sc, .slice (mAt E k).qa (mAt E k).t.queue.length (mAt E k).qc, vi (mAt E k).t.to]) Y0 Z Z (Yr (X9 dc dx) 0 8 Z) Z kq) Y5)))))))
 intro ix al
 have a9 := (TabG.low dm al)
 have ba := (TabG.low dl al)
 refine Xl Hu (Xg Z (Xg Z Xk)) Z (Vv (mAt J k) (mAt E k) _ (TabAt.th (TabG.at a9) (xg J k)) (TabAt.th (TabG.at ba) (xg E k)) ⟨by first | omega | exact Nat.le_of_ble_eq_true Z | (simp only [List.length_nil, List.length_cons, List.length_append, List.length_replicate]; omega), by first | omega | exact Nat.le_of_ble_eq_true Z | (simp only [List.length_nil, List.length_cons, List.length_append, List.length_replicate]; omega)⟩ ⟨by first | omega | exact Nat.le_of_ble_eq_true Z | (simp only [List.length_nil, List.length_cons, List.length_append, List.length_replicate]; omega), by first | omega | exact Nat.le_of_ble_eq_true Z | (simp only [List.length_nil, List.length_cons, List.length_append, List.length_replicate]; omega)⟩) ?_
 rintro _ df ⟨rfl, V⟩
 have au := low0 (low0 da al) V
 refine Xc (Xu (Xy Z (fun ae => ?_) (fun ae => ?_)))
 have gl := of_decide_eq_true ae
 exact Qe (Qb (Jm (Xu (X2 (Xb (v := vi (k : Int)) an Z (Yn (c := (k : Int) + 1) Z Z (by omega) (by omega) (by omega) Z (Xe (v := vi ((k : Int) + 1)) Z Z (Xc (Xu (⟨E.length - (k + 1), by omega, (k + 1), Z, (by omega), (TabG.low ba V), (TabG.low (TabG.low bt al) V), (TabG.low a9 V), Z, ar, bc, bd, au, ((dp.grown0 al).grown0 V)⟩))))))))))
 have gm := of_decide_eq_false ae
 refine Xw (Xu (Xa (Xd (o' := 0) Ja bc Z Z ?_)))
 have bu := ((dp.grown0 al).grown0 V)
 refine Xh (v := vi G.kind) X1 Z (bu.cell Z) Z (Xe (v := vi G.kind) Z Z (Xc (Xa (Xb (v := .slice (pa am) E.length ad) ar Z (Xb (v := vi (k : Int)) an Z (Xz Y2 Z Z cy db (by omega) (by omega) Z (Xd (o' := dq) Y9 Z Z Z (Xh (v := vi (mAt E k).t.kind) X1 Z ((X9 dc (grown_trans al V)) 0 _ Z) Z (Xc (Yc (Xa (X3 (q := decide ((mAt E k).t.kind = 1)) Z Z Z Z ?_))))))))))))
 refine Xe (v := vb (decide ((mAt E k).t.kind = 1))) Z Z (Xc (Xy Z (fun ak => ?_) (fun ak => ?_)))
 have gp := of_decide_eq_true ak
 refine X7 (fun f' w' => (f' 3 = .slice (pa am) E.length ad ∧ f' 4 = pt bz 0 ∧ f' 7 = .slice be J.length ag ∧ f' 9 = vi (k : Int) ∧ f' 87 = vb (((!(decide (G.kind = 2))) && (!(decide (G.kind = 8)))) && (!(decide (G.kind = 9))))) ∧ df = w') ?_ ?_
 refine Xb (v := vi G.kind) Z Z (Y8 (q := !(decide (G.kind = 2))) Z Z Z Z (Xb (v := vb (!(decide (G.kind = 2)))) Z Z ?_))
 rcases Yf (!(decide (G.kind = 2))) with ao | ao
 have ca := Q2 ao
 have gq := of_decide_eq_false ca
 refine Xf Z Z Z ao (Xb (v := vi G.kind) Z Z (Xf Z Z Z ao (Y8 (q := !(decide (G.kind = 8))) Z Z Z Z (Xs (v := vb (!(decide (G.kind = 8)))) Z ao Z Z (Xb (v := vb (!(decide (G.kind = 8)))) Z Z ?_)))))
 rcases Yf (!(decide (G.kind = 8))) with av | av
 have ce := Q2 av
 have gr := of_decide_eq_false ce
 exact Xf Z Z Z av (Xb (v := vi G.kind) Z Z (Xf Z Z Z av (Y8 (q := !(decide (G.kind = 9))) Z Z Z Z (Xs (v := vb (!(decide (G.kind = 9)))) Z av Z Z (Xc ⟨⟨ar, bc, bd, an, (congrArg Value.bool (by first | (simp only [ah, ai, ab, aj, ae, ak, ao, ca, av, ce, ac, af, O, b0, b1, b2, b3, b4, b5, b6, b7, b8, b9]; done) | simp [ah, ai, ab, aj, ae, ak, ao, ca, av, ce, ac, af, O]))⟩, Z⟩)))))
 have cf := Qx av
 have gt := of_decide_eq_true cf
 exact Xi Z Z Z av Z (Xi Z Z Z av Z (Xo (v := vb false) Z av Z Z (Xc ⟨⟨ar, bc, bd, an, (congrArg Value.bool (by first | (simp only [ah, ai, ab, aj, ae, ak, ao, ca, av, cf, ac, af, O, b0, b1, b2, b3, b4, b5, b6, b7, b8, b9]; done) | simp [ah, ai, ab, aj, ae, ak, ao, ca, av, cf, ac, af, O]))⟩, Z⟩)))
 have cg := Qx ao
 have gu := of_decide_eq_true cg
 exact Xi Z Z Z ao Z (Xi Z Z Z ao Z (Xo (v := vb false) Z ao Z Z (Xb (v := vb false) Z Z (Xi Z Z Z Z Z (Xi Z Z Z Z Z (Xo (v := vb false) Z Z Z Z (Xc ⟨⟨ar, bc, bd, an, (congrArg Value.bool (by first | (simp only [ah, ai, ab, aj, ae, ak, ao, cg, ac, af, O, b0, b1, b2, b3, b4, b5, b6, b7, b8, b9]; done) | simp [ah, ai, ab, aj, ae, ak, ao, cg, ac, af, O]))⟩, Z⟩)))))))
 rintro gc iy ⟨⟨d2, d3, d4, d5, d6⟩, rfl⟩
 refine Xy d6 (fun cj => ?_) (fun cj => ?_)
 have di := Uk cj
 have ei := Uk di
 have ej := Q2 ei
 have gv := of_decide_eq_false ej
 have ek := Ul di
 have em := Q2 ek
 have gw := of_decide_eq_false em
 have eo := Ul cj
 have ep := Q2 eo
 have gx := of_decide_eq_false ep
 refine Xa (Xe (v := vb false) Z Z (Xc (Xt (Qi (Qi (Yk (Yk (Qi (Yk (⟨vb false, Yp Z Z, ?_, au⟩))))))))))
 exfalso
 have hP := Pp bb ab (k := k) (of_decide_eq_false ae)
 omega
 exact Xw (Y7 (Y7 (Xu (X2 (Xb (v := vi (k : Int)) d5 Z (Yn (c := (k : Int) + 1) Z Z (by omega) (by omega) (by omega) Z (Xe (v := vi ((k : Int) + 1)) Z Z (Xc (Xu (⟨E.length - (k + 1), by omega, (k + 1), Z, (by omega), (TabG.low ba V), (TabG.low (TabG.low bt al) V), (TabG.low a9 V), Z, d2, d3, d4, au, bu⟩))))))))))
 have gy := of_decide_eq_false ak
 refine Xa (X3 (q := decide ((mAt E k).t.kind = 2)) Z Z Z Z (Xe (v := vb (decide ((mAt E k).t.kind = 2))) Z Z (Xc (Xy Z (fun aw => ?_) (fun aw => ?_)))))
 have gz := of_decide_eq_true aw
 refine X7 (fun f' w' => (f' 3 = .slice (pa am) E.length ad ∧ f' 4 = pt bz 0 ∧ f' 7 = .slice be J.length ag ∧ f' 9 = vi (k : Int) ∧ f' 95 = vb ((!(decide (G.kind = 5))) && (!(decide (G.kind = 8))))) ∧ df = w') ?_ ?_
 refine Xb (v := vi G.kind) Z Z (Y8 (q := !(decide (G.kind = 5))) Z Z Z Z (Xb (v := vb (!(decide (G.kind = 5)))) Z Z ?_))
 rcases Yf (!(decide (G.kind = 5))) with az | az
 have ck := Q2 az
 have g0 := of_decide_eq_false ck
 exact Xf Z Z Z az (Xb (v := vi G.kind) Z Z (Xf Z Z Z az (Y8 (q := !(decide (G.kind = 8))) Z Z Z Z (Xs (v := vb (!(decide (G.kind = 8)))) Z az Z Z (Xc ⟨⟨ar, bc, bd, an, (congrArg Value.bool (by first | (simp only [ah, ai, ab, aj, ae, ak, aw, az, ck, ac, af, O, b0, b1, b2, b3, b4, b5, b6, b7, b8, b9]; done) | simp [ah, ai, ab, aj, ae, ak, aw, az, ck, ac, af, O]))⟩, Z⟩)))))
 have cl := Qx az
 have g1 := of_decide_eq_true cl
 exact Xi Z Z Z az Z (Xi Z Z Z az Z (Xo (v := vb false) Z az Z Z (Xc ⟨⟨ar, bc, bd, an, (congrArg Value.bool (by first | (simp only [ah, ai, ab, aj, ae, ak, aw, az, cl, ac, af, O, b0, b1, b2, b3, b4, b5, b6, b7, b8, b9]; done) | simp [ah, ai, ab, aj, ae, ak, aw, az, cl, ac, af, O]))⟩, Z⟩)))
 rintro gf iz ⟨⟨d7, d8, d9, ea, eb⟩, rfl⟩
 refine Xy eb (fun cm => ?_) (fun cm => ?_)
 have er := Uk cm
 have eu := Q2 er
 have g2 := of_decide_eq_false eu
 have ew := Ul cm
 have ex := Q2 ew
 have g3 := of_decide_eq_false ex
 refine Xa (Xe (v := vb false) Z Z (Xc (Xt (Qi (Qi (Yk (Yk (Qi (Yk (⟨vb false, Yp Z Z, ?_, au⟩))))))))))
 exfalso
 have hP := Pp bb ab (k := k) (of_decide_eq_false ae)
 omega
 exact Xw (Y7 (Y7 (Xu (X2 (Xb (v := vi (k : Int)) ea Z (Yn (c := (k : Int) + 1) Z Z (by omega) (by omega) (by omega) Z (Xe (v := vi ((k : Int) + 1)) Z Z (Xc (Xu (⟨E.length - (k + 1), by omega, (k + 1), Z, (by omega), (TabG.low ba V), (TabG.low (TabG.low bt al) V), (TabG.low a9 V), Z, d7, d8, d9, au, bu⟩))))))))))
 have g5 := of_decide_eq_false aw
 refine Xa (X3 (q := decide ((mAt E k).t.kind = 4)) Z Z Z Z (Xe (v := vb (decide ((mAt E k).t.kind = 4))) Z Z (Xc (Xy Z (fun bk => ?_) (fun bk => ?_)))))
 have g6 := of_decide_eq_true bk
 refine X7 (fun f' w' => (f' 3 = .slice (pa am) E.length ad ∧ f' 4 = pt bz 0 ∧ f' 7 = .slice be J.length ag ∧ f' 9 = vi (k : Int) ∧ f' 107 = vb (((!(decide (G.kind = 6))) && (!(decide (G.kind = 7)))) && (!(decide (G.kind = 8))))) ∧ df = w') ?_ ?_
 refine Xb (v := vi G.kind) Z Z (Y8 (q := !(decide (G.kind = 6))) Z Z Z Z (Xb (v := vb (!(decide (G.kind = 6)))) Z Z ?_))
 rcases Yf (!(decide (G.kind = 6))) with ap | ap
 have cc := Q2 ap
 have g7 := of_decide_eq_false cc
 refine Xf Z Z Z ap (Xb (v := vi G.kind) Z Z (Xf Z Z Z ap (Y8 (q := !(decide (G.kind = 7))) Z Z Z Z (Xs (v := vb (!(decide (G.kind = 7)))) Z ap Z Z (Xb (v := vb (!(decide (G.kind = 7)))) Z Z ?_)))))
 rcases Yf (!(decide (G.kind = 7))) with a8 | a8
 have cn := Q2 a8
 have g8 := of_decide_eq_false cn
 exact Xf Z Z Z a8 (Xb (v := vi G.kind) Z Z (Xf Z Z Z a8 (Y8 (q := !(decide (G.kind = 8))) Z Z Z Z (Xs (v := vb (!(decide (G.kind = 8)))) Z a8 Z Z (Xc ⟨⟨ar, bc, bd, an, (congrArg Value.bool (by first | (simp only [ah, ai, ab, aj, ae, ak, aw, bk, ap, cc, a8, cn, ac, af, O, b0, b1, b2, b3, b4, b5, b6, b7, b8, b9]; done) | simp [ah, ai, ab, aj, ae, ak, aw, bk, ap, cc, a8, cn, ac, af, O]))⟩, Z⟩)))))
 have co := Qx a8
 have g9 := of_decide_eq_true co
 exact Xi Z Z Z a8 Z (Xi Z Z Z a8 Z (Xo (v := vb false) Z a8 Z Z (Xc ⟨⟨ar, bc, bd, an, (congrArg Value.bool (by first | (simp only [ah, ai, ab, aj, ae, ak, aw, bk, ap, cc, a8, co, ac, af, O, b0, b1, b2, b3, b4, b5, b6, b7, b8, b9]; done) | simp [ah, ai, ab, aj, ae, ak, aw, bk, ap, cc, a8, co, ac, af, O]))⟩, Z⟩)))
 have ct := Qx ap
 have ia := of_decide_eq_true ct
 exact Xi Z Z Z ap Z (Xi Z Z Z ap Z (Xo (v := vb false) Z ap Z Z (Xb (v := vb false) Z Z (Xi Z Z Z Z Z (Xi Z Z Z Z Z (Xo (v := vb false) Z Z Z Z (Xc ⟨⟨ar, bc, bd, an, (congrArg Value.bool (by first | (simp only [ah, ai, ab, aj, ae, ak, aw, bk, ap, ct, ac, af, O, b0, b1, b2, b3, b4, b5, b6, b7, b8, b9]; done) | simp [ah, ai, ab, aj, ae, ak, aw, bk, ap, ct, ac, af, O]))⟩, Z⟩)))))))
 rintro gg i0 ⟨⟨ed, ee, ef, eg, eh⟩, rfl⟩
 refine Xy eh (fun cv => ?_) (fun cv => ?_)
 have dk := Uk cv
 have ey := Uk dk
 have ez := Q2 ey
 have ib := of_decide_eq_false ez
 have e0 := Ul dk
 have fa := Q2 e0
 have ic := of_decide_eq_false fa
 have fb := Ul cv
 have fc := Q2 fb
 have ie := of_decide_eq_false fc
 refine Xa (Xe (v := vb false) Z Z (Xc (Xt (Qi (Qi (Yk (Yk (Qi (Yk (⟨vb false, Yp Z Z, ?_, au⟩))))))))))
 exfalso
 have hP := Pp bb ab (k := k) (of_decide_eq_false ae)
 omega
 exact Xw (Y7 (Y7 (Xu (X2 (Xb (v := vi (k : Int)) eg Z (Yn (c := (k : Int) + 1) Z Z (by omega) (by omega) (by omega) Z (Xe (v := vi ((k : Int) + 1)) Z Z (Xc (Xu (⟨E.length - (k + 1), by omega, (k + 1), Z, (by omega), (TabG.low ba V), (TabG.low (TabG.low bt al) V), (TabG.low a9 V), Z, ed, ee, ef, au, bu⟩))))))))))
 have ig := of_decide_eq_false bk
 refine Xa (X3 (q := decide ((mAt E k).t.kind = 5)) Z Z Z Z (Xe (v := vb (decide ((mAt E k).t.kind = 5))) Z Z (Xc (Xy Z (fun cw => ?_) (fun cw => ?_)))))
 have ii := of_decide_eq_true cw
 refine Xa (Xb (v := vi G.kind) Z Z (Y8 (q := !(decide (G.kind = 9))) Z Z Z Z (Xc (Xy Z (fun cx => ?_) (fun cx => ?_)))))
 have fd := Q2 cx
 have ij := of_decide_eq_false fd
 refine Xa (Xe (v := vb false) Z Z (Xc (Xt (Qi (Qi (Yk (Yk (Qi (Yk (⟨vb false, Yp Z Z, ?_, au⟩))))))))))
 exfalso
 have hP := Pp bb ab (k := k) (of_decide_eq_false ae)
 omega
 have fe := Qx cx
 have ik := of_decide_eq_true fe
 exact Xw (Y7 (Y7 (Xu (X2 (Xb (v := vi (k : Int)) an Z (Yn (c := (k : Int) + 1) Z Z (by omega) (by omega) (by omega) Z (Xe (v := vi ((k : Int) + 1)) Z Z (Xc (Xu (⟨E.length - (k + 1), by omega, (k + 1), Z, (by omega), (TabG.low ba V), (TabG.low (TabG.low bt al) V), (TabG.low a9 V), Z, ar, bc, bd, au, bu⟩))))))))))
 have il := of_decide_eq_false cw
 exact Xw (Y7 (Y7 (Xu (X2 (Xb (v := vi (k : Int)) an Z (Yn (c := (k : Int) + 1) Z Z (by omega) (by omega) (by omega) Z (Xe (v := vi ((k : Int) + 1)) Z Z (Xc (Xu (⟨E.length - (k + 1), by omega, (k + 1), Z, (by omega), (TabG.low ba V), (TabG.low (TabG.low bt al) V), (TabG.low a9 V), Z, ar, bc, bd, au, bu⟩))))))))))
 have im := of_decide_eq_false aj
 refine Qe (Qb (Qb (Jm (Xu (Xa (Xe (v := vb true) Z Z (Xc (Xt (⟨vb true, Yp Z Z, ?_, da⟩)))))))))
 rfl
end Go.Proofs.YtjpgffmkcmcolaaGreatDoor
end
