/- Laws and walks: my templates, and what a program of mine (gen.py) printed out of the functions; only what the row reaches. -/
import Derived.Test.YtldnkinaedgnpaaVA2
section
namespace Go.Dw.J
open Go.RowKit Go.Dw Go.Proofs
set_option linter.unusedSectionVars false
set_option maxRecDepth 100000
set_option maxHeartbeats 4000000
set_option linter.unusedSimpArgs false
set_option linter.unusedVariables false
theorem Ud [Comp] (m p : MTh) (w : World) (ha : ThAt w m) (hb : ThAt w p) (hla : m.t.slots.length ≤ 1048576 ∧ m.t.queue.length ≤ 1048576) (hlb : p.t.slots.length ≤ 1048576 ∧ p.t.queue.length ≤ 1048576) : CallsR Try.prog 19 #[.agg #[vi m.t.kind, vi m.t.lab.s, vi m.t.lab.v, vi m.t.ve, vi m.t.num, .slice m.sa m.t.slots.length m.sc, .slice m.qa m.t.queue.length m.qc, vi m.t.to], .agg #[vi p.t.kind, vi p.t.lab.s, vi p.t.lab.v, vi p.t.ve, vi p.t.num, .slice p.sa p.t.slots.length p.sc, .slice p.qa p.t.queue.length p.qc, vi p.t.to]] w (fun v w' => v = vb (decide (m.t = p.t)) ∧ w.grownBy w' none) := by
 refine Xq (n := 94) Try.func19 Z Try.ntmps19 Z ?_
 have fe := World.grownBy.refl w none
 refine Xa (wpo_box (v := .agg #[vi m.t.kind, vi m.t.lab.s, vi m.t.lab.v, vi m.t.ve, vi m.t.num, .slice m.sa m.t.slots.length m.sc, .slice m.qa m.t.queue.length m.qc, vi m.t.to]) (cs := #[vi m.t.kind, vi m.t.lab.s, vi m.t.lab.v, vi m.t.ve, vi m.t.num, .slice m.sa m.t.slots.length m.sc, .slice m.qa m.t.queue.length m.qc, vi m.t.to]) Z Z Z ?_)
 intro ai ii al
 have fq := Xy al fe
 have bm := low0 fe al.grw
 refine wpo_box (v := .agg #[vi p.t.kind, vi p.t.lab.s, vi p.t.lab.v, vi p.t.ve, vi p.t.num, .slice p.sa p.t.slots.length p.sc, .slice p.qa p.t.queue.length p.qc, vi p.t.to]) (cs := #[vi p.t.kind, vi p.t.lab.s, vi p.t.lab.v, vi p.t.ve, vi p.t.num, .slice p.sa p.t.slots.length p.sc, .slice p.qa p.t.queue.length p.qc, vi p.t.to]) Z Z Z ?_
 intro aj fk O
 have ft := Xy O bm
 have bw := Xn O (al.blk).lt
 have bn := low0 bm O.grw
 refine wpo_assign (v := vb false) Z Z (wpo_nil (Xi (Xt (fun f' w' => (f' 2 = pt ai 0 ∧ f' 3 = pt aj 0 ∧ f' 4 = vb false ∧ f' 57 = vb (((((((!(decide (m.t.kind = p.t.kind))) || (!(decide (m.t.lab = p.t.lab)))) || (!(decide (m.t.ve = p.t.ve)))) || (!(decide (m.t.num = p.t.num)))) || (!(decide (m.t.to = p.t.to)))) || (!(decide ((m.t.slots.length : Int) = (p.t.slots.length : Int))))) || (!(decide ((m.t.queue.length : Int) = (p.t.queue.length : Int)))))) ∧ fk = w') ?_ ?_)))
 refine wpo_fieldAddr (o' := 0) X8 Z Z Z ?_
 have am := (al.blk.grown0 O.grw)
 refine wpo_load1 (v := vi m.t.kind) X0 Z (am.cell Z) Z (wpo_fieldAddr (o' := 0) X8 Z Z Z (wpo_load1 (v := vi p.t.kind) X0 Z (O.blk.cell Z) Z (wpo_neq (q := !(decide (m.t.kind = p.t.kind))) Z Z Z Z (wpo_move (v := vb (!(decide (m.t.kind = p.t.kind)))) Z Z ?_))))
 rcases X1 (!(decide (m.t.kind = p.t.kind))) with E | E
 have ca := Jd E
 have f7 := of_decide_eq_false ca
 iterate 5 refine Xd rfl rfl rfl E rfl ?_
 refine wpo_pickt (v := vb true) Z E Z Z (wpo_move (v := vb true) Z Z ?_)
 iterate 5 refine Xd rfl rfl rfl rfl rfl ?_
 refine wpo_pickt (v := vb true) Z Z Z Z (wpo_move (v := vb true) Z Z ?_)
 iterate 5 refine Xd rfl rfl rfl rfl rfl ?_
 refine wpo_pickt (v := vb true) Z Z Z Z (wpo_move (v := vb true) Z Z ?_)
 iterate 5 refine Xd rfl rfl rfl rfl rfl ?_
 refine wpo_pickt (v := vb true) Z Z Z Z (wpo_move (v := vb true) Z Z ?_)
 iterate 7 refine Xd rfl rfl rfl rfl rfl ?_
 refine wpo_pickt (v := vb true) Z Z Z Z (wpo_move (v := vb true) Z Z ?_)
 iterate 7 refine Xd rfl rfl rfl rfl rfl ?_
 exact wpo_pickt (v := vb true) Z Z Z Z (wpo_nil ⟨⟨Z, Z, Z, (cB (by simp [E, ca]))⟩, Z⟩)
 have ak := Qn E
 have f8 := of_decide_eq_true ak
 refine Xc Z Z Z E (wpo_fieldAddr (o' := 1) Jl Z Z Z (Xc Z Z Z E (wpo_loadn (vs := [vi m.t.lab.s, vi m.t.lab.v]) Yu Z Z (am.rangeL 1 2 Z) Z (Xc Z Z Z E (wpo_fieldAddr (o' := 1) Jl Z Z Z (Xc Z Z Z E (wpo_loadn (vs := [vi p.t.lab.s, vi p.t.lab.v]) Yu Z Z (O.blk.rangeL 1 2 Z) Z (Xc Z Z Z E (wpo_eqs (q := !(decide (m.t.lab = p.t.lab))) Z Z Z Z (fun _ => Ep _ _ m.t.lab p.t.lab _) (fun _ => Es m.t.lab p.t.lab _) Z Z (wpo_pickf (v := vb (!(decide (m.t.lab = p.t.lab)))) Z E Z Z (wpo_move (v := vb (!(decide (m.t.lab = p.t.lab)))) Z Z ?_)))))))))))
 rcases X1 (!(decide (m.t.lab = p.t.lab))) with V | V
 have cc := Jd V
 have f9 := of_decide_eq_false cc
 iterate 5 refine Xd rfl rfl rfl V rfl ?_
 refine wpo_pickt (v := vb true) Z V Z Z (wpo_move (v := vb true) Z Z ?_)
 iterate 5 refine Xd rfl rfl rfl rfl rfl ?_
 refine wpo_pickt (v := vb true) Z Z Z Z (wpo_move (v := vb true) Z Z ?_)
 iterate 5 refine Xd rfl rfl rfl rfl rfl ?_
 refine wpo_pickt (v := vb true) Z Z Z Z (wpo_move (v := vb true) Z Z ?_)
 iterate 7 refine Xd rfl rfl rfl rfl rfl ?_
 refine wpo_pickt (v := vb true) Z Z Z Z (wpo_move (v := vb true) Z Z ?_)
 iterate 7 refine Xd rfl rfl rfl rfl rfl ?_
 exact wpo_pickt (v := vb true) Z Z Z Z (wpo_nil ⟨⟨Z, Z, Z, (cB (by simp [E, ak, V, cc]))⟩, Z⟩)
 have an := Qn V
 have gb := of_decide_eq_true an
 refine Xc Z Z Z V (wpo_fieldAddr (o' := 3) Q2 Z Z Z (Xc Z Z Z V (wpo_load1 (v := vi m.t.ve) X0 Z (am.cell Z) Z (Xc Z Z Z V (wpo_fieldAddr (o' := 3) Q2 Z Z Z (Xc Z Z Z V (wpo_load1 (v := vi p.t.ve) X0 Z (O.blk.cell Z) Z (Xc Z Z Z V (wpo_neq (q := !(decide (m.t.ve = p.t.ve))) Z Z Z Z (wpo_pickf (v := vb (!(decide (m.t.ve = p.t.ve)))) Z V Z Z (wpo_move (v := vb (!(decide (m.t.ve = p.t.ve)))) Z Z ?_)))))))))))
 rcases X1 (!(decide (m.t.ve = p.t.ve))) with ab | ab
 have cd := Jd ab
 have gc := of_decide_eq_false cd
 iterate 5 refine Xd rfl rfl rfl ab rfl ?_
 refine wpo_pickt (v := vb true) Z ab Z Z (wpo_move (v := vb true) Z Z ?_)
 iterate 5 refine Xd rfl rfl rfl rfl rfl ?_
 refine wpo_pickt (v := vb true) Z Z Z Z (wpo_move (v := vb true) Z Z ?_)
 iterate 7 refine Xd rfl rfl rfl rfl rfl ?_
 refine wpo_pickt (v := vb true) Z Z Z Z (wpo_move (v := vb true) Z Z ?_)
 iterate 7 refine Xd rfl rfl rfl rfl rfl ?_
 exact wpo_pickt (v := vb true) Z Z Z Z (wpo_nil ⟨⟨Z, Z, Z, (cB (by simp [E, ak, V, an, ab, cd]))⟩, Z⟩)
 have aq := Qn ab
 have gf := of_decide_eq_true aq
 refine Xc Z Z Z ab (wpo_fieldAddr (o' := 4) Jg Z Z Z (Xc Z Z Z ab (wpo_load1 (v := vi m.t.num) X0 Z (am.cell Z) Z (Xc Z Z Z ab (wpo_fieldAddr (o' := 4) Jg Z Z Z (Xc Z Z Z ab (wpo_load1 (v := vi p.t.num) X0 Z (O.blk.cell Z) Z (Xc Z Z Z ab (wpo_neq (q := !(decide (m.t.num = p.t.num))) Z Z Z Z (wpo_pickf (v := vb (!(decide (m.t.num = p.t.num)))) Z ab Z Z (wpo_move (v := vb (!(decide (m.t.num = p.t.num)))) Z Z ?_)))))))))))
 rcases X1 (!(decide (m.t.num = p.t.num))) with ae | ae
 have ce := Jd ae
 have gg := of_decide_eq_false ce
 iterate 5 refine Xd rfl rfl rfl ae rfl ?_
 refine wpo_pickt (v := vb true) Z ae Z Z (wpo_move (v := vb true) Z Z ?_)
 iterate 7 refine Xd rfl rfl rfl rfl rfl ?_
 refine wpo_pickt (v := vb true) Z Z Z Z (wpo_move (v := vb true) Z Z ?_)
 iterate 7 refine Xd rfl rfl rfl rfl rfl ?_
 exact wpo_pickt (v := vb true) Z Z Z Z (wpo_nil ⟨⟨Z, Z, Z, (cB (by simp [E, ak, V, an, ab, aq, ae, ce]))⟩, Z⟩)
 have bc := Qn ae
 have gh := of_decide_eq_true bc
 refine Xc Z Z Z ae (wpo_fieldAddr (o' := 7) Jm Z Z Z (Xc Z Z Z ae (wpo_load1 (v := vi m.t.to) X0 Z (am.cell Z) Z (Xc Z Z Z ae (wpo_fieldAddr (o' := 7) Jm Z Z Z (Xc Z Z Z ae (wpo_load1 (v := vi p.t.to) X0 Z (O.blk.cell Z) Z (Xc Z Z Z ae (wpo_neq (q := !(decide (m.t.to = p.t.to))) Z Z Z Z (wpo_pickf (v := vb (!(decide (m.t.to = p.t.to)))) Z ae Z Z (wpo_move (v := vb (!(decide (m.t.to = p.t.to)))) Z Z ?_)))))))))))
 rcases X1 (!(decide (m.t.to = p.t.to))) with ac | ac
 have cg := Jd ac
 have gi := of_decide_eq_false cg
 iterate 7 refine Xd rfl rfl rfl ac rfl ?_
 refine wpo_pickt (v := vb true) Z ac Z Z (wpo_move (v := vb true) Z Z ?_)
 iterate 7 refine Xd rfl rfl rfl rfl rfl ?_
 exact wpo_pickt (v := vb true) Z Z Z Z (wpo_nil ⟨⟨Z, Z, Z, (cB (by simp [E, ak, V, an, ab, aq, ae, bc, ac, cg]))⟩, Z⟩)
 have bh := Qn ac
 have gj := of_decide_eq_true bh
 refine Xc Z Z Z ac (wpo_fieldAddr (o' := 5) Y4 Z Z Z (Xc Z Z Z ac (wpo_load1 (v := .slice m.sa m.t.slots.length m.sc) Je Z (am.cell Z) Z (Xc Z Z Z ac (wpo_len (by kernel_rfl) Z Z (Xc Z Z Z ac (wpo_fieldAddr (o' := 5) Y4 Z Z Z (Xc Z Z Z ac (wpo_load1 (v := .slice p.sa p.t.slots.length p.sc) Je Z (O.blk.cell Z) Z (Xc Z Z Z ac (wpo_len (by kernel_rfl) Z Z (Xc Z Z Z ac ?_))))))))))))
 refine wpo_neq (q := !(decide ((m.t.slots.length : Int) = (p.t.slots.length : Int)))) Z Z Z Z (wpo_pickf (v := vb (!(decide ((m.t.slots.length : Int) = (p.t.slots.length : Int))))) Z ac Z Z (wpo_move (v := vb (!(decide ((m.t.slots.length : Int) = (p.t.slots.length : Int))))) Z Z ?_))
 rcases X1 (!(decide ((m.t.slots.length : Int) = (p.t.slots.length : Int)))) with af | af
 have cj := Jd af
 have gl := of_decide_eq_false cj
 iterate 7 refine Xd rfl rfl rfl af rfl ?_
 exact wpo_pickt (v := vb true) Z af Z Z (wpo_nil ⟨⟨Z, Z, Z, (cB (by simp [E, ak, V, an, ab, aq, ae, bc, ac, bh, af, cj]))⟩, Z⟩)
 have ck := Qn af
 have gm := of_decide_eq_true ck
 refine Xc Z Z Z af (wpo_fieldAddr (o' := 6) Qt Z Z Z (Xc Z Z Z af (wpo_load1 (v := .slice m.qa m.t.queue.length m.qc) J0 Z (am.cell Z) Z (Xc Z Z Z af (wpo_len (by kernel_rfl) Z Z (Xc Z Z Z af (wpo_fieldAddr (o' := 6) Qt Z Z Z (Xc Z Z Z af (wpo_load1 (v := .slice p.qa p.t.queue.length p.qc) J0 Z (O.blk.cell Z) Z (Xc Z Z Z af (wpo_len (by kernel_rfl) Z Z (Xc Z Z Z af ?_))))))))))))
 exact wpo_neq (q := !(decide ((m.t.queue.length : Int) = (p.t.queue.length : Int)))) Z Z Z Z (wpo_pickf (v := vb (!(decide ((m.t.queue.length : Int) = (p.t.queue.length : Int))))) Z af Z Z (wpo_nil ⟨⟨Z, Z, Z, (cB (by simp [E, ak, V, an, ab, aq, ae, bc, ac, bh, af, ck]))⟩, Z⟩))
 rintro fx ij ⟨⟨ei, ej, fw, ek⟩, rfl⟩
 refine Xs ek (fun bd => ?_) (fun bd => ?_)
 refine Xa (wpo_assign (v := vb false) Z Z (wpo_nil (Xk (X9 (⟨vb false, res1 Z Z, ?_, bn⟩)))))
 exact cB (decide_eq_false (fun e => by have h := bd; rw [e] at h; simp at h)).symm
 have cl := J6 bd
 have cm := J6 cl
 have cn := J6 cm
 have co := J6 cn
 have cw := J6 co
 have eu := J6 cw
 have cx := Qn eu
 have gp := of_decide_eq_true cx
 have ew := J7 cw
 have cy := Qn ew
 have gq := of_decide_eq_true cy
 have ex := J7 co
 have cz := Qn ex
 have gr := of_decide_eq_true cz
 have ey := J7 cn
 have da := Qn ey
 have gt := of_decide_eq_true da
 have ez := J7 cm
 have db := Qn ez
 have gu := of_decide_eq_true db
 have fa := J7 cl
 have fb := Qn fa
 have gv := of_decide_eq_true fb
 have fc := J7 bd
 have fd := Qn fc
 have gw := of_decide_eq_true fd
 refine Xl (Xr (Xi (Xa (wpo_assign (v := vi 0) Z Z (wpo_nil (Xu (Yf (fun mm f' w' => ∃ (k : Nat), mm = m.t.slots.length - k ∧ k ≤ m.t.slots.length ∧ m.t.slots.take k = p.t.slots.take k ∧ f' 5 = vi (k : Int) ∧ f' 2 = pt ai 0 ∧ f' 3 = pt aj 0 ∧ w.grownBy w' none ∧ Blk w' ai 35 #[vi m.t.kind, vi m.t.lab.s, vi m.t.lab.v, vi m.t.ve, vi m.t.num, .slice m.sa m.t.slots.length m.sc, .slice m.qa m.t.queue.length m.qc, vi m.t.to] ∧ Blk w' aj 35 #[vi p.t.kind, vi p.t.lab.s, vi p.t.lab.v, vi p.t.ve, vi p.t.num, .slice p.sa p.t.slots.length p.sc, .slice p.qa p.t.queue.length p.qc, vi p.t.to]) (m.t.slots.length - 0) ⟨0, Z, (Nat.zero_le _), Z, Z, ei, ej, bn, (al.blk.grown0 O.grw), O.blk⟩ ?_)))))))
 rintro mm fy fm ⟨k, fu, hk, hs5, a8, a9, bf, ao, be, br⟩
 refine Xi (Xa (wpo_move (v := vi (k : Int)) a8 Z (wpo_fieldAddr (o' := 5) Y4 a9 Z Z (wpo_load1 (v := .slice m.sa m.t.slots.length m.sc) Je Z (be.cell Z) Z (wpo_len (by kernel_rfl) Z Z (wpo_lss (q := decide ((k : Int) < (m.t.slots.length : Int))) Z Z Z Z (wpo_nil (Xs Z (fun bi => ?_) (fun bi => ?_)))))))))
 have gx := of_decide_eq_true bi
 refine Xl (Xr (Xi (Xu (Xi ?_))))
 obtain ⟨ag, au⟩ := Qo (l := m.t.slots) (i := k) (by omega)
 obtain ⟨ee, ib, fg, dl, d0, d8⟩ := SlAt.at ha.1 (Yk au)
 obtain ⟨ah, av⟩ := Qo (l := p.t.slots) (i := k) (by omega)
 obtain ⟨ef, ic, fh, dm, d5, d9⟩ := SlAt.at hb.1 (Yk av)
 refine Qx (m := 10) (vals := [(65, pt ai 5), (66, .slice m.sa m.t.slots.length m.sc), (67, vi (k : Int)), (68, pt ee fg), (69, .agg #[vi ag.th, vi ag.ve, vb ag.rd, vb ag.wr, vb ag.wk]), (70, pt aj 5), (71, .slice p.sa p.t.slots.length p.sc), (72, vi (k : Int)), (73, pt ef fh), (74, .agg #[vi ah.th, vi ah.ve, vb ah.rd, vb ah.wr, vb ah.wk])]) (fun w' => fm.grownBy w' none) Q4 (by kernel_rfl) (X5 _) ?_ ?_
 exact yl Z (fun _ _ k => wpo_fieldAddr (o' := 5) Y4 a9 Z Z k) (yl Z (fun _ dq k => wpo_load1 (v := .slice m.sa m.t.slots.length m.sc) Je Z ((be.grown0 dq).cell Z) Z k) (yl Z (fun _ _ kq => wpo_move (v := vi (k : Int)) a8 Z kq) (yl Z (fun _ _ k => Xx G7 Z Z dl d0 (by omega) (by omega) Z k) (yl Z (fun _ dr k => wpo_loadn (vs := [vi ag.th, vi ag.ve, vb ag.rd, vb ag.wr, vb ag.wk]) Yy Z Z (Yl (Yb d8 (low0 ao dr)) 0 5 Z) Z k) (yl Z (fun _ _ k => wpo_fieldAddr (o' := 5) Y4 bf Z Z k) (yl Z (fun _ dt k => wpo_load1 (v := .slice p.sa p.t.slots.length p.sc) Je Z ((br.grown0 dt).cell Z) Z k) (yl Z (fun _ _ kq => wpo_move (v := vi (k : Int)) a8 Z kq) (yl Z (fun _ _ k => Xx G7 Z Z dm d5 (by omega) (by omega) Z k) (yl Z (fun _ du k => wpo_loadn (vs := [vi ah.th, vi ah.ve, vb ah.rd, vb ah.wr, vb ah.wk]) Yy Z Z (Yl (Yb d9 (low0 ao du)) 0 5 Z) Z k) Ja)))))))))
 intro ik ar
 have bp := low0 ao ar
 refine wpo_eqs (q := !(decide (ag = ah))) Z Z Z Z (fun _ => Er _ _ ag ah _) (fun _ => Et ag ah _) Z Z (wpo_nil (Xr (Xs Z (fun bj => ?_) (fun bj => ?_))))
 have dc := Jd bj
 have gy := of_decide_eq_false dc
 refine Xa (wpo_assign (v := vb false) Z Z (wpo_nil (Xk (Qh (X9 (X9 (Qh (X9 (⟨vb false, res1 Z Z, ?_, bp⟩)))))))))
 exact cB (decide_eq_false (fun e => He au av (of_decide_eq_false dc) (congrArg Th.slots e))).symm
 have de := Qn bj
 have gz := of_decide_eq_true de
 exact Xl (Y1 (Xr (Xo (wpo_move (v := vi (k : Int)) a8 Z (wpo_add (c := (k : Int) + 1) Z Z (by omega) (by omega) (by omega) Z (wpo_assign (v := vi ((k : Int) + 1)) Z Z (wpo_nil (Xr (⟨m.t.slots.length - (k + 1), by omega, (k + 1), Z, (by omega), (Vk hs5 au av (of_decide_eq_true de)), Z, a9, bf, bp, (be.grown0 ar), (br.grown0 ar)⟩)))))))))
 have g4 := of_decide_eq_false bi
 refine Yn (Yx (Yx (Jk (Xr (Xi (Xa (wpo_assign (v := vi 0) Z Z (wpo_nil (Xu (Yf (fun mm f' w' => ∃ (j : Nat), mm = m.t.queue.length - j ∧ j ≤ m.t.queue.length ∧ m.t.queue.take j = p.t.queue.take j ∧ f' 6 = vi (j : Int) ∧ f' 2 = pt ai 0 ∧ f' 3 = pt aj 0 ∧ w.grownBy w' none ∧ Blk w' ai 35 #[vi m.t.kind, vi m.t.lab.s, vi m.t.lab.v, vi m.t.ve, vi m.t.num, .slice m.sa m.t.slots.length m.sc, .slice m.qa m.t.queue.length m.qc, vi m.t.to] ∧ Blk w' aj 35 #[vi p.t.kind, vi p.t.lab.s, vi p.t.lab.v, vi p.t.ve, vi p.t.num, .slice p.sa p.t.slots.length p.sc, .slice p.qa p.t.queue.length p.qc, vi p.t.to]) (m.t.queue.length - 0) ⟨0, Z, (Nat.zero_le _), Z, Z, a9, bf, ao, be, br⟩ ?_))))))))))
 rintro mm fz fp ⟨j, fv, hj, ff, ba, bg, bz, ap, bt, dk⟩
 refine Xi (Xa (wpo_move (v := vi (j : Int)) ba Z (wpo_fieldAddr (o' := 6) Qt bg Z Z (wpo_load1 (v := .slice m.qa m.t.queue.length m.qc) J0 Z (bt.cell Z) Z (wpo_len (by kernel_rfl) Z Z (wpo_lss (q := decide ((j : Int) < (m.t.queue.length : Int))) Z Z Z Z (wpo_nil (Xs Z (fun bk => ?_) (fun bk => ?_)))))))))
 have g7 := of_decide_eq_true bk
 refine Xl (Xr (Xi (Xu (Xi ?_))))
 obtain ⟨bu, aw⟩ := Qo (l := m.t.queue) (i := j) (by omega)
 obtain ⟨eg, ie, fi, dn, d6, ea⟩ := SlAt.at ha.2.1 (Yk aw)
 obtain ⟨bv, az⟩ := Qo (l := p.t.queue) (i := j) (by omega)
 obtain ⟨eh, ig, fj, dp, d7, ed⟩ := SlAt.at hb.2.1 (Yk az)
 refine Qx (m := 10) (vals := [(83, pt ai 6), (84, .slice m.qa m.t.queue.length m.qc), (85, vi (j : Int)), (86, pt eg fi), (87, vi bu), (88, pt aj 6), (89, .slice p.qa p.t.queue.length p.qc), (90, vi (j : Int)), (91, pt eh fj), (92, vi bv)]) (fun w' => fp.grownBy w' none) Q4 (by kernel_rfl) (X5 _) ?_ ?_
 exact yl Z (fun _ _ k => wpo_fieldAddr (o' := 6) Qt bg Z Z k) (yl Z (fun _ dv k => wpo_load1 (v := .slice m.qa m.t.queue.length m.qc) J0 Z ((bt.grown0 dv).cell Z) Z k) (yl Z (fun _ _ k => wpo_move (v := vi (j : Int)) ba Z k) (yl Z (fun _ _ k => Xx Kx Z Z dn d6 (by omega) (by omega) Z k) (yl Z (fun _ dw k => wpo_load1 (v := vi bu) X0 Z ((Yb ea (low0 ap dw)) 0 _ Z) Z k) (yl Z (fun _ _ k => wpo_fieldAddr (o' := 6) Qt bz Z Z k) (yl Z (fun _ dx k => wpo_load1 (v := .slice p.qa p.t.queue.length p.qc) J0 Z ((dk.grown0 dx).cell Z) Z k) (yl Z (fun _ _ k => wpo_move (v := vi (j : Int)) ba Z k) (yl Z (fun _ _ k => Xx Kx Z Z dp d7 (by omega) (by omega) Z k) (yl Z (fun _ dz k => wpo_load1 (v := vi bv) X0 Z ((Yb ed (low0 ap dz)) 0 _ Z) Z k) Ja)))))))))
 intro il as
 have bq := low0 ap as
 refine wpo_neq (q := !(decide (bu = bv))) Z Z Z Z (wpo_nil (Xr (Xs Z (fun bl => ?_) (fun bl => ?_))))
 have dh := Jd bl
 have g8 := of_decide_eq_false dh
 refine Xa (wpo_assign (v := vb false) Z Z (wpo_nil (Xk (Qh (X9 (X9 (Qh (X9 (⟨vb false, res1 Z Z, ?_, bq⟩)))))))))
 exact cB (decide_eq_false (fun e => He aw az (of_decide_eq_false dh) (congrArg Th.queue e))).symm
 have di := Qn bl
 have g9 := of_decide_eq_true di
 exact Xl (Y1 (Xr (Xo (wpo_move (v := vi (j : Int)) ba Z (wpo_add (c := (j : Int) + 1) Z Z (by omega) (by omega) (by omega) Z (wpo_assign (v := vi ((j : Int) + 1)) Z Z (wpo_nil (Xr (⟨m.t.queue.length - (j + 1), by omega, (j + 1), Z, (by omega), (Vk ff aw az (of_decide_eq_true di)), Z, bg, bz, bq, (bt.grown0 as), (dk.grown0 as)⟩)))))))))
 have ia := of_decide_eq_false bk
 refine Yn (Yx (Yx (Jk (Xr (Xa (wpo_assign (v := vb true) Z Z (wpo_nil (Xk (⟨vb true, res1 Z Z, ?_, ap⟩)))))))))
 exact cB (decide_eq_true (E0 (of_decide_eq_true cx) (of_decide_eq_true cy) (of_decide_eq_true cz) (of_decide_eq_true da) (Uu hs5 (by omega) (by omega)) (Uu ff (by omega) (by omega)) (of_decide_eq_true db))).symm
end Go.Dw.J
end
section
namespace Go.Dw.J
open Go.RowKit Go.Dw Go.Proofs
set_option linter.unusedSectionVars false
set_option maxRecDepth 100000
set_option maxHeartbeats 4000000
set_option linter.unusedSimpArgs false
set_option linter.unusedVariables false
theorem Qc : elemSz Try.prog 23 = some 8 := by kernel_rfl
theorem Mw : goFn Try.prog 56 = true := by kernel_rfl
theorem M7 : mkTy Try.prog 23 = some (35, 8, 96, some (.agg #[.int .i64 0, .int .i64 0, .int .i64 0, .int .i64 0, .int .i64 0, .slice none 0 0, .slice none 0 0, .int .i64 0])) := by kernel_rfl
theorem N6 : mkTy Try.prog 33 = some (3, 1, 8, some (.int .i64 0)) := by kernel_rfl
theorem K2 [Comp] (k : Int) (w : World) (a : Option Addr) (n c : Nat) : CallsR Try.prog 56 #[.slice a n c, vi k] w (fun v w' => v = vb (inR k 1 (n : Int)) ∧ w.grownBy w' none) := by
 refine Xq (n := 9) Try.func56 Z Try.ntmps56 Z (Xa (wpo_assign (v := vb false) Z Z (wpo_nil (Xa (wpo_move (v := vi k) Z Z (wpo_move (v := .slice a n c) Z Z (wpo_len (by kernel_rfl) Z Z (Xg Vv (Xb Z (Xb Z (Xb Z Xf))) Z (Jc k 1 (n : Int) _) ?_))))))))
 rintro _ O ⟨rfl, E⟩
 refine wpo_assign (v := vb (inR k 1 (n : Int))) Z Z (wpo_nil (Xk (⟨vb (inR k 1 (n : Int)), res1 Z Z, ?_, (low0 (World.grownBy.refl w none) E)⟩)))
 rfl
theorem Mz [Comp] (k kd : Int) (hk : -9223372036854775807 ≤ k) (w : World) (ms : List MTh) (a : Option Addr) (c : Nat) (ht : TabAt w a ms) (hlen : TabLen ms) (hn : ms.length ≤ 1048576) : CallsR Try.prog 71 #[.slice a ms.length c, vi k, vi kd] w (fun v w' => v = vb (kindAt (tabT ms) k kd) ∧ w.grownBy w' none) := by
 refine Xq (n := 20) Try.func71 Z Try.ntmps71 Z ?_
 have ah := World.grownBy.refl w none
 refine Xa (wpo_assign (v := vb false) Z Z (wpo_nil (Xt (fun f' w' => (f' 6 = vb (inR k 1 (ms.length : Int) && (decide ((mj ms k).t.kind = kd)))) ∧ w.grownBy w' none) ?_ ?_)))
 refine wpo_move (v := .slice a ms.length c) Z Z (wpo_move (v := vi k) Z Z (Xg Mw (Xb Z (Xb Z Xf)) Z (K2 k _ _ _ _) ?_))
 rintro _ ao ⟨rfl, O⟩
 have ab := low0 ah O
 refine wpo_move (v := vb (inR k 1 (ms.length : Int))) Z Z ?_
 rcases X1 (inR k 1 (ms.length : Int)) with E | E
 have ak := Uc.1 E
 refine Xc Z Z Z E (wpo_move (v := .slice a ms.length c) Z Z (Xc Z Z Z E (wpo_move (v := vi k) Z Z (Xc Z Z Z E (wpo_sub (c := k - 1) Z Z (by omega) (by omega) (by omega) Z (Xc Z Z Z E ?_))))))
 obtain ⟨al, an, ai, V, ae, af⟩ := SlAt.at (TabAt.low ht ab).1 (Yk (xg ms (k - 1).toNat))
 have aj := TabLen.at hlen (xg ms (k - 1).toNat)
 exact Xx Qc Z Z V ae (by omega) (by omega) Z (Xc Z Z Z E (wpo_fieldAddr (o' := ai) X8 Z Z Z (Xc Z Z Z E (wpo_load1 (v := vi (mj ms k).t.kind) X0 Z (af 0 _ Z) Z (Xc Z Z Z E (wpo_move (v := vi kd) Z Z (Xc Z Z Z E (wpo_eql (q := decide ((mj ms k).t.kind = kd)) Z Z Z Z (wpo_pickt (v := vb (decide ((mj ms k).t.kind = kd))) Z E Z Z (wpo_assign (v := vb (decide ((mj ms k).t.kind = kd))) Z Z (wpo_nil ⟨(cB (by simp [E])), O⟩)))))))))))
 iterate 8 refine Xd rfl rfl rfl E rfl ?_
 exact wpo_pickf (v := vb false) Z E Z Z (wpo_assign (v := vb false) Z Z (wpo_nil ⟨(cB (by simp [E])), O⟩))
 rintro am ap ⟨ag, ac⟩
 refine Xk (⟨vb (inR k 1 (ms.length : Int) && (decide ((mj ms k).t.kind = kd))), res1 Z ag, ?_, (low0 ah ac)⟩)
 exact cB M0
theorem Uz [Comp] (w : World) (ms : List MTh) (a : Option Addr) (c : Nat) (ht : TabAt w a ms) (hlen : TabLen ms) (hn : ms.length ≤ 1048576) : CallsR Try.prog 15 #[.slice a ms.length c] w (fun v w' => v = vb (tableOk (tabT ms)) ∧ w.grownBy w' none) := by
 refine Xq (n := 92) Try.func15 Z Try.ntmps15 Z (Xa (wpo_assign (v := vb false) Z Z (wpo_nil (Xi (Xa (wpo_assign (v := vi 0) Z Z (wpo_nil (Xu (Yf (fun mm f' w' => ∃ (k : Nat), mm = ms.length - k ∧ k ≤ ms.length ∧ (((tabT ms).take k).all (rowOk (tabT ms))) = true ∧ f' 3 = vi (k : Int) ∧ f' 0 = .slice a ms.length c ∧ w.grownBy w' none) (ms.length - 0) ⟨0, Z, (Nat.zero_le _), Z, Z, Z, (World.grownBy.refl w none)⟩ ?_)))))))))
 rintro mm d8 dp ⟨k, dx, hk, hall, ak, ae, al⟩
 refine Xi (Xa (wpo_move (v := vi (k : Int)) ak Z (wpo_move (v := .slice a ms.length c) ae Z (wpo_len (by kernel_rfl) Z Z (wpo_lss (q := decide ((k : Int) < (ms.length : Int))) Z Z Z Z (wpo_nil (Xs Z (fun aj => ?_) (fun aj => ?_))))))))
 have ee := of_decide_eq_true aj
 refine Xl (Xr (Xi (Xu (Xi (Xt (fun f' w' => (f' 0 = .slice a ms.length c ∧ f' 3 = vi (k : Int) ∧ f' 48 = vb ((!thingOk (mAt ms k).t) || ((decide ((mAt ms k).t.kind = 5)) && ((decide ((ms.length : Int) < (mAt ms k).t.to)) || (!(decide ((mj ms (mAt ms k).t.to).t.kind = 1))))))) ∧ dp.grownBy w' none) ?_ ?_)))))
 refine wpo_move (v := .slice a ms.length c) ae Z (wpo_move (v := vi (k : Int)) ak Z ?_)
 obtain ⟨d0, fd, bj, aq, ar, as⟩ := SlAt.at (TabAt.low ht al).1 (Yk (xg ms k))
 have dt := TabLen.at hlen (xg ms k)
 refine Xx Qc Z Z aq ar (by omega) (by omega) Z (wpo_loadn (vs := [vi (mAt ms k).t.kind, vi (mAt ms k).t.lab.s, vi (mAt ms k).t.lab.v, vi (mAt ms k).t.ve, vi (mAt ms k).t.num, .slice (mAt ms k).sa (mAt ms k).t.slots.length (mAt ms k).sc, .slice (mAt ms k).qa (mAt ms k).t.queue.length (mAt ms k).qc, vi (mAt ms k).t.to]) Xw Z Z (Yl as 0 8 Z) Z (Xg N2 (Xb Z Xf) Z (Ks (mAt ms k) _ (TabAt.th (TabAt.low ht al) (xg ms k)).1 (TabAt.th (TabAt.low ht al) (xg ms k)).2.1 (by first | omega | exact Nat.le_of_ble_eq_true rfl | (simp only [List.length_nil, List.length_cons, List.length_append, List.length_replicate]; omega)) (by first | omega | exact Nat.le_of_ble_eq_true rfl | (simp only [List.length_nil, List.length_cons, List.length_append, List.length_replicate]; omega))) ?_))
 rintro _ fi ⟨rfl, ah⟩
 have br := low0 al ah
 refine wpo_not (b' := !thingOk (mAt ms k).t) Z Z Z (wpo_move (v := vb (!thingOk (mAt ms k).t)) Z Z ?_)
 rcases X1 (!thingOk (mAt ms k).t) with V | V
 have dl := Jd V
 iterate 7 refine Xd rfl rfl rfl V rfl ?_
 iterate 21 refine Xz rfl rfl rfl rfl ?_
 exact Xd Z Z Z V Z (wpo_pickt (v := vb true) Z V Z Z (wpo_nil ⟨⟨ae, ak, (cB (by simp [aj, V, dl]))⟩, ah⟩))
 have az := Qn V
 refine Xc Z Z Z V (wpo_move (v := .slice a ms.length c) ae Z (Xc Z Z Z V (wpo_move (v := vi (k : Int)) ak Z (Xc Z Z Z V (Xx Qc Z Z aq ar (by omega) (by omega) Z (Xc Z Z Z V (wpo_fieldAddr (o' := bj) X8 Z Z Z (Xc Z Z Z V (wpo_load1 (v := vi (mAt ms k).t.kind) X0 Z ((Yb as ah) 0 _ Z) Z (Xc Z Z Z V (wpo_eql (q := decide ((mAt ms k).t.kind = 5)) Z Z Z Z (Xc Z Z Z V ?_))))))))))))
 refine wpo_move (v := vb (decide ((mAt ms k).t.kind = 5))) Z Z ?_
 rcases X1 (decide ((mAt ms k).t.kind = 5)) with ab | ab
 have dq := Gw az ab
 have ef := of_decide_eq_true ab
 refine Xc Z Z Z ab (wpo_move (v := .slice a ms.length c) ae Z (Xc Z Z Z ab (wpo_move (v := vi (k : Int)) ak Z (Xc Z Z Z ab (Xx Qc Z Z aq ar (by omega) (by omega) Z (Xc Z Z Z ab (wpo_fieldAddr (o' := bj + 7) Jm Z Z Z (Xc Z Z Z ab (wpo_load1 (v := vi (mAt ms k).t.to) X0 Z ((Yb as ah) 7 _ Z) Z (Xc Z Z Z ab (wpo_move (v := .slice a ms.length c) ae Z (Xc Z Z Z ab ?_))))))))))))
 refine wpo_len (by kernel_rfl) Z Z (Xc Z Z Z ab (wpo_gtr (q := decide ((ms.length : Int) < (mAt ms k).t.to)) Z Z Z Z (Xc Z Z Z ab (wpo_move (v := vb (decide ((ms.length : Int) < (mAt ms k).t.to))) Z Z ?_))))
 rcases X1 (decide ((ms.length : Int) < (mAt ms k).t.to)) with ac | ac
 have eg := of_decide_eq_true ac
 iterate 11 refine Xd rfl rfl rfl ac rfl ?_
 exact Xc Z Z Z ab (wpo_pickt (v := vb true) Z ac Z Z (Xc Z Z Z V (wpo_pickt (v := vb true) Z ab Z Z (wpo_pickf (v := vb true) Z V Z Z (wpo_nil ⟨⟨ae, ak, (cB (by simp [aj, V, az, ab, ac]))⟩, ah⟩)))))
 have eh := of_decide_eq_false ac
 refine Xc Z Z Z ac (wpo_move (v := .slice a ms.length c) ae Z (Xc Z Z Z ac (wpo_move (v := .slice a ms.length c) ae Z (Xc Z Z Z ac (wpo_move (v := vi (k : Int)) ak Z (Xc Z Z Z ac (Xx Qc Z Z aq ar (by omega) (by omega) Z (Xc Z Z Z ac (wpo_fieldAddr (o' := bj + 7) Jm Z Z Z (Xc Z Z Z ac (wpo_load1 (v := vi (mAt ms k).t.to) X0 Z ((Yb as ah) 7 _ Z) Z (Xc Z Z Z ac ?_))))))))))))
 refine wpo_sub (c := (mAt ms k).t.to - 1) Z Z (by omega) (by omega) (by omega) Z (Xc Z Z Z ac ?_)
 obtain ⟨d5, fe, dn, bn, cn, cx⟩ := SlAt.at (TabAt.low ht br).1 (Yk (xg ms ((mAt ms k).t.to - 1).toNat))
 have du := TabLen.at hlen (xg ms ((mAt ms k).t.to - 1).toNat)
 exact Xx Qc Z Z bn cn (by omega) (by omega) Z (Xc Z Z Z ac (wpo_fieldAddr (o' := dn) X8 Z Z Z (Xc Z Z Z ac (wpo_load1 (v := vi (mj ms (mAt ms k).t.to).t.kind) X0 Z (cx 0 _ Z) Z (Xc Z Z Z ac (wpo_neq (q := !(decide ((mj ms (mAt ms k).t.to).t.kind = 1))) Z Z Z Z (Xc Z Z Z ab (wpo_pickf (v := vb (!(decide ((mj ms (mAt ms k).t.to).t.kind = 1)))) Z ac Z Z (Xc Z Z Z V (wpo_pickt (v := vb (!(decide ((mj ms (mAt ms k).t.to).t.kind = 1)))) Z ab Z Z (wpo_pickf (v := vb (!(decide ((mj ms (mAt ms k).t.to).t.kind = 1)))) Z V Z Z (wpo_nil ⟨⟨ae, ak, (cB (by simp [aj, V, az, ab, ac]))⟩, ah⟩))))))))))))
 have ei := of_decide_eq_false ab
 iterate 9 refine Xd rfl rfl rfl ab rfl ?_
 iterate 11 refine Xz rfl rfl rfl rfl ?_
 exact Xd Z Z Z ab Z (Xc Z Z Z V (wpo_pickf (v := vb false) Z ab Z Z (wpo_pickf (v := vb false) Z V Z Z (wpo_nil ⟨⟨ae, ak, (cB (by simp [aj, V, az, ab]))⟩, ah⟩))))
 rintro d9 fj ⟨⟨da, db, dc⟩, bt⟩
 have be := low0 al bt
 refine Xs dc (fun af => ?_) (fun af => ?_)
 refine Xa (wpo_assign (v := vb false) Z Z (wpo_nil (Xk (X9 (Qh (X9 (X9 (Qh (X9 (⟨vb false, res1 Z Z, ?_, be⟩))))))))))
 exact cB (Bs (by omega) ((K6 Z).1 af))
 have a8 := J6 af
 have ba := Qn a8
 have bc := J7 af
 refine Xl (Xr (Xa (wpo_assign (v := vi 0) Z Z (wpo_nil (Xu (Yf (fun mm f' w' => ∃ (j : Nat), mm = (mAt ms k).t.slots.length - j ∧ j ≤ (mAt ms k).t.slots.length ∧ (((mAt ms k).t.slots.take j).all (rightTo (tabT ms))) = true ∧ f' 4 = vi (j : Int) ∧ f' 0 = .slice a ms.length c ∧ f' 3 = vi (k : Int) ∧ w.grownBy w' none) ((mAt ms k).t.slots.length - 0) ⟨0, Z, (Nat.zero_le _), Z, Z, da, db, be⟩ ?_))))))
 rintro mm ea fk ⟨j, dz, hj, hrs, au, ai, ao, an⟩
 have hR0 : ∀ j, j < (mAt ms k).t.slots.length → 0 ≤ (rAt (mAt ms k).t.slots j).th ∧ (rAt (mAt ms k).t.slots j).th ≤ 8 := fun j hj => Hq ((K6 rfl).2 af).1 (Vf hj)
 refine Xi (Xa (wpo_move (v := vi (j : Int)) au Z (wpo_move (v := .slice a ms.length c) ai Z (wpo_move (v := vi (k : Int)) ao Z ?_))))
 obtain ⟨d6, ff, bm, bd, bh, bi⟩ := SlAt.at (TabAt.low ht an).1 (Yk (xg ms k))
 have dv := TabLen.at hlen (xg ms k)
 refine Xx Qc Z Z bd bh (by omega) (by omega) Z (wpo_fieldAddr (o' := bm + 5) Y4 Z Z Z (wpo_load1 (v := .slice (mAt ms k).sa (mAt ms k).t.slots.length (mAt ms k).sc) Je Z (bi 5 _ Z) Z (wpo_len (by kernel_rfl) Z Z (wpo_lss (q := decide ((j : Int) < ((mAt ms k).t.slots.length : Int))) Z Z Z Z (wpo_nil (Xs Z (fun ap => ?_) (fun ap => ?_)))))))
 have ej := of_decide_eq_true ap
 refine Xl (Xr (Xi (Xu (Xa (wpo_move (v := .slice a ms.length c) ai Z (wpo_move (v := vi (k : Int)) ao Z (Xx Qc Z Z bd bh (by omega) (by omega) Z (wpo_fieldAddr (o' := bm + 5) Y4 Z Z Z (wpo_load1 (v := .slice (mAt ms k).sa (mAt ms k).t.slots.length (mAt ms k).sc) Je Z (bi 5 _ Z) Z (wpo_move (v := vi (j : Int)) au Z ?_))))))))))
 obtain ⟨d7, fg, fc, bp, co, cy⟩ := SlAt.at (TabAt.th (TabAt.low ht an) (xg ms k)).1 (Yk (xr (mAt ms k).t.slots j))
 refine Xx G7 Z Z bp co (by omega) (by omega) Z (wpo_loadn (vs := [vi (rAt (mAt ms k).t.slots j).th, vi (rAt (mAt ms k).t.slots j).ve, vb (rAt (mAt ms k).t.slots j).rd, vb (rAt (mAt ms k).t.slots j).wr, vb (rAt (mAt ms k).t.slots j).wk]) Yy Z Z (Yl cy 0 5 Z) Z (wpo_alloc (cs := #[vi 0, vi 0, vb false, vb false, vb false]) Hw Z Z ?_))
 intro am fm aw
 have dr := Xy aw an
 refine wpo_storen (vs := [vi (rAt (mAt ms k).t.slots j).th, vi (rAt (mAt ms k).t.slots j).ve, vb (rAt (mAt ms k).t.slots j).rd, vb (rAt (mAt ms k).t.slots j).wr, vb (rAt (mAt ms k).t.slots j).wk]) (cs' := #[vi (rAt (mAt ms k).t.slots j).th, vi (rAt (mAt ms k).t.slots j).ve, vb (rAt (mAt ms k).t.slots j).rd, vb (rAt (mAt ms k).t.slots j).wr, vb (rAt (mAt ms k).t.slots j).wk]) Yy Z Z Z (by simp [Value.oneCell']) aw.blk (Nat.le_of_ble_eq_true Z) Z ?_
 intro a9 ag
 have bf := low1 (low0 an aw.grw) ag.grw (by omega)
 refine wpo_nil (Kc (fun f' w' => (f' 0 = .slice a ms.length c ∧ f' 3 = vi (k : Int) ∧ f' 4 = vi (j : Int) ∧ f' 88 = vb ((decide ((ms.length : Int) < (rAt (mAt ms k).t.slots j).th)) || ((decide (0 < (rAt (mAt ms k).t.slots j).th)) && (decide ((mj ms (rAt (mAt ms k).t.slots j).th).t.ve < (rAt (mAt ms k).t.slots j).ve))))) ∧ a9.grownBy w' none) ?_ ?_)
 rcases X1 (decide ((ms.length : Int) < (rAt (mAt ms k).t.slots j).th)) with O | O
 have ek := of_decide_eq_true O
 refine Qx (m := 19) (vals := [(67, pt am 0), (68, vi (rAt (mAt ms k).t.slots j).th), (69, .slice a ms.length c), (70, vi (ms.length : Int)), (71, vb (decide ((ms.length : Int) < (rAt (mAt ms k).t.slots j).th))), (72, vb (decide ((ms.length : Int) < (rAt (mAt ms k).t.slots j).th))), (73, undef), (74, undef), (75, undef), (76, undef), (77, undef), (78, undef), (79, undef), (80, undef), (81, undef), (82, undef), (83, undef), (84, undef), (85, undef)]) (fun w' => a9.grownBy w' none) Q4 (by kernel_rfl) (X5 _) ?_ ?_
 refine yl Z (fun _ _ k => wpo_fieldAddr (o' := 0) Qu Z Z Z k) (yl Z (fun _ bw kq => wpo_load1 (v := vi (rAt (mAt ms k).t.slots j).th) X0 Z ((ag.blk.grown0 bw).cell Z) Z kq) (yl Z (fun _ _ k => wpo_move (v := .slice a ms.length c) ai Z k) (yl Z (fun _ _ k => wpo_len (by kernel_rfl) Z Z k) (yl Z (fun _ _ kq => wpo_gtr (q := decide ((ms.length : Int) < (rAt (mAt ms k).t.slots j).th)) Z Z Z Z kq) (yl Z (fun _ _ kq => wpo_move (v := vb (decide ((ms.length : Int) < (rAt (mAt ms k).t.slots j).th))) Z Z kq) (yl Z (fun _ _ k => Xd Z Z Z O Z k) (yl Z (fun _ _ k => Xd Z Z Z O Z k) (yl Z (fun _ _ k => Xd Z Z Z O Z k) (yl Z (fun _ _ k => Xd Z Z Z O Z k) (yl Z (fun _ _ k => Xz Z Z Z Z k) ?_))))))))))
 exact yl Z (fun _ _ k => Xz Z Z Z Z k) (yl Z (fun _ _ k => Xz Z Z Z Z k) (yl Z (fun _ _ k => Xz Z Z Z Z k) (yl Z (fun _ _ k => Xz Z Z Z Z k) (yl Z (fun _ _ k => Xz Z Z Z Z k) (yl Z (fun _ _ k => Xz Z Z Z Z k) (yl Z (fun _ _ k => Xz Z Z Z Z k) (yl Z (fun _ _ k => Xz Z Z Z Z k) Ja)))))))
 intro fp bz
 exact Xz Z Z Z Z (Xd Z Z Z O Z (wpo_pickt (v := vb true) Z O Z Z (wpo_nil (Xr ⟨⟨ai, ao, au, (cB (by simp [aj, af, a8, ba, bc, ap, O]))⟩, bz⟩))))
 have eu := of_decide_eq_false O
 rcases X1 (decide (0 < (rAt (mAt ms k).t.slots j).th)) with E | E
 have ew := of_decide_eq_true E
 obtain ⟨bl, fh, bk, bq, cw, cz⟩ := SlAt.at (TabAt.low ht bf).1 (Yk (xg ms ((rAt (mAt ms k).t.slots j).th - 1).toNat))
 have dw := TabLen.at hlen (xg ms ((rAt (mAt ms k).t.slots j).th - 1).toNat)
 refine Qx (m := 19) (vals := [(67, pt am 0), (68, vi (rAt (mAt ms k).t.slots j).th), (69, .slice a ms.length c), (70, vi (ms.length : Int)), (71, vb (decide ((ms.length : Int) < (rAt (mAt ms k).t.slots j).th))), (72, vb (decide ((ms.length : Int) < (rAt (mAt ms k).t.slots j).th))), (73, pt am 0), (74, vi (rAt (mAt ms k).t.slots j).th), (75, vb (decide (0 < (rAt (mAt ms k).t.slots j).th))), (76, vb (decide (0 < (rAt (mAt ms k).t.slots j).th))), (77, pt am 1), (78, vi (rAt (mAt ms k).t.slots j).ve), (79, .slice a ms.length c), (80, pt am 0), (81, vi (rAt (mAt ms k).t.slots j).th), (82, vi ((rAt (mAt ms k).t.slots j).th - 1)), (83, pt bl bk), (84, pt bl (bk + 3)), (85, vi (mj ms (rAt (mAt ms k).t.slots j).th).t.ve)]) (fun w' => a9.grownBy w' none) Q4 (by kernel_rfl) (X5 _) ?_ ?_
 refine yl Z (fun _ _ k => wpo_fieldAddr (o' := 0) Qu Z Z Z k) (yl Z (fun _ ca kq => wpo_load1 (v := vi (rAt (mAt ms k).t.slots j).th) X0 Z ((ag.blk.grown0 ca).cell Z) Z kq) (yl Z (fun _ _ k => wpo_move (v := .slice a ms.length c) ai Z k) (yl Z (fun _ _ k => wpo_len (by kernel_rfl) Z Z k) (yl Z (fun _ _ kq => wpo_gtr (q := decide ((ms.length : Int) < (rAt (mAt ms k).t.slots j).th)) Z Z Z Z kq) (yl Z (fun _ _ kq => wpo_move (v := vb (decide ((ms.length : Int) < (rAt (mAt ms k).t.slots j).th))) Z Z kq) (yl Z (fun _ _ k => Xc Z Z Z O (wpo_fieldAddr (o' := 0) Qu Z Z Z k)) (yl Z (fun _ cc kq => Xc Z Z Z O (wpo_load1 (v := vi (rAt (mAt ms k).t.slots j).th) X0 Z ((ag.blk.grown0 cc).cell Z) Z kq)) (yl Z (fun _ _ kq => Xc Z Z Z O (wpo_gtr (q := decide (0 < (rAt (mAt ms k).t.slots j).th)) Z Z Z Z kq)) (yl Z (fun _ _ kq => Xc Z Z Z O (wpo_move (v := vb (decide (0 < (rAt (mAt ms k).t.slots j).th))) Z Z kq)) (yl Z (fun _ _ k => Xc Z Z Z E (wpo_fieldAddr (o' := 1) J2 Z Z Z k)) ?_))))))))))
 exact yl Z (fun _ cd kq => Xc Z Z Z E (wpo_load1 (v := vi (rAt (mAt ms k).t.slots j).ve) X0 Z ((ag.blk.grown0 cd).cell Z) Z kq)) (yl Z (fun _ _ k => Xc Z Z Z E (wpo_move (v := .slice a ms.length c) ai Z k)) (yl Z (fun _ _ k => Xc Z Z Z E (wpo_fieldAddr (o' := 0) Qu Z Z Z k)) (yl Z (fun _ ce kq => Xc Z Z Z E (wpo_load1 (v := vi (rAt (mAt ms k).t.slots j).th) X0 Z ((ag.blk.grown0 ce).cell Z) Z kq)) (yl Z (fun _ _ kq => Xc Z Z Z E (wpo_sub (c := (rAt (mAt ms k).t.slots j).th - 1) Z Z (by omega) (by omega) (by omega) Z kq)) (yl Z (fun _ _ k => Xc Z Z Z E (Xx Qc Z Z bq cw (by omega) (by omega) Z k)) (yl Z (fun _ _ k => Xc Z Z Z E (wpo_fieldAddr (o' := bk + 3) Q2 Z Z Z k)) (yl Z (fun _ cg kq => Xc Z Z Z E (wpo_load1 (v := vi (mj ms (rAt (mAt ms k).t.slots j).th).t.ve) X0 Z ((Yb cz cg) 3 _ Z) Z kq)) Ja)))))))
 intro fq cj
 exact Xc Z Z Z E (wpo_gtr (q := decide ((mj ms (rAt (mAt ms k).t.slots j).th).t.ve < (rAt (mAt ms k).t.slots j).ve)) Z Z Z Z (Xc Z Z Z O (wpo_pickt (v := vb (decide ((mj ms (rAt (mAt ms k).t.slots j).th).t.ve < (rAt (mAt ms k).t.slots j).ve))) Z E Z Z (wpo_pickf (v := vb (decide ((mj ms (rAt (mAt ms k).t.slots j).th).t.ve < (rAt (mAt ms k).t.slots j).ve))) Z O Z Z (wpo_nil (Xr ⟨⟨ai, ao, au, (cB (by simp [aj, af, a8, ba, bc, ap, O, E]))⟩, cj⟩))))))
 have ex := of_decide_eq_false E
 refine Qx (m := 19) (vals := [(67, pt am 0), (68, vi (rAt (mAt ms k).t.slots j).th), (69, .slice a ms.length c), (70, vi (ms.length : Int)), (71, vb (decide ((ms.length : Int) < (rAt (mAt ms k).t.slots j).th))), (72, vb (decide ((ms.length : Int) < (rAt (mAt ms k).t.slots j).th))), (73, pt am 0), (74, vi (rAt (mAt ms k).t.slots j).th), (75, vb (decide (0 < (rAt (mAt ms k).t.slots j).th))), (76, vb (decide (0 < (rAt (mAt ms k).t.slots j).th))), (77, undef), (78, undef), (79, undef), (80, undef), (81, undef), (82, undef), (83, undef), (84, undef), (85, undef)]) (fun w' => a9.grownBy w' none) Q4 (by kernel_rfl) (X5 _) ?_ ?_
 refine yl Z (fun _ _ k => wpo_fieldAddr (o' := 0) Qu Z Z Z k) (yl Z (fun _ ck kq => wpo_load1 (v := vi (rAt (mAt ms k).t.slots j).th) X0 Z ((ag.blk.grown0 ck).cell Z) Z kq) (yl Z (fun _ _ k => wpo_move (v := .slice a ms.length c) ai Z k) (yl Z (fun _ _ k => wpo_len (by kernel_rfl) Z Z k) (yl Z (fun _ _ kq => wpo_gtr (q := decide ((ms.length : Int) < (rAt (mAt ms k).t.slots j).th)) Z Z Z Z kq) (yl Z (fun _ _ kq => wpo_move (v := vb (decide ((ms.length : Int) < (rAt (mAt ms k).t.slots j).th))) Z Z kq) (yl Z (fun _ _ k => Xc Z Z Z O (wpo_fieldAddr (o' := 0) Qu Z Z Z k)) (yl Z (fun _ cl kq => Xc Z Z Z O (wpo_load1 (v := vi (rAt (mAt ms k).t.slots j).th) X0 Z ((ag.blk.grown0 cl).cell Z) Z kq)) (yl Z (fun _ _ kq => Xc Z Z Z O (wpo_gtr (q := decide (0 < (rAt (mAt ms k).t.slots j).th)) Z Z Z Z kq)) (yl Z (fun _ _ kq => Xc Z Z Z O (wpo_move (v := vb (decide (0 < (rAt (mAt ms k).t.slots j).th))) Z Z kq)) (yl Z (fun _ _ k => Xd Z Z Z E Z k) ?_))))))))))
 exact yl Z (fun _ _ k => Xd Z Z Z E Z k) (yl Z (fun _ _ k => Xd Z Z Z E Z k) (yl Z (fun _ _ k => Xd Z Z Z E Z k) (yl Z (fun _ _ k => Xd Z Z Z E Z k) (yl Z (fun _ _ k => Xd Z Z Z E Z k) (yl Z (fun _ _ k => Xd Z Z Z E Z k) (yl Z (fun _ _ k => Xd Z Z Z E Z k) (yl Z (fun _ _ k => Xd Z Z Z E Z k) Ja)))))))
 intro ft cm
 exact Xd Z Z Z E Z (Xc Z Z Z O (wpo_pickf (v := vb false) Z E Z Z (wpo_pickf (v := vb false) Z O Z Z (wpo_nil (Xr ⟨⟨ai, ao, au, (cB (by simp [aj, af, a8, ba, bc, ap, O, E]))⟩, cm⟩)))))
 rintro ed fu ⟨⟨de, dh, di, dk⟩, bu⟩
 have bg := low0 bf bu
 refine Xs dk (fun av => ?_) (fun av => ?_)
 refine Xa (wpo_assign (v := vb false) Z Z (wpo_nil (Xk (Qh (X9 (X9 (Qh (Qh (X9 (X9 (Qh (X9 ?_))))))))))))
 refine ⟨vb false, res1 Z Z, ?_, bg⟩
 exact cB (Bs (by omega) (De (Vf (by omega)) (Jd ((Ld (Hq ((K6 Z).2 af).1 (Vf (by omega))).1).symm.trans av))))
 have dm := J6 av
 have ey := of_decide_eq_false dm
 have ez := J7 av
 exact Xl (Y1 (Xr (Xo (wpo_move (v := vi (j : Int)) di Z (wpo_add (c := (j : Int) + 1) Z Z (by omega) (by omega) (by omega) Z (wpo_assign (v := vi ((j : Int) + 1)) Z Z (wpo_nil (Xr (⟨(mAt ms k).t.slots.length - (j + 1), by omega, (j + 1), Z, (by omega), (Q7 hrs (Vf (by omega)) (Qn ((Ld (Hq ((K6 Z).2 af).1 (Vf (by omega))).1).symm.trans av))), Z, de, dh, bg⟩)))))))))
 have fa := of_decide_eq_false ap
 exact Yn (Yx (Yx (Jk (Y1 (Xr (Xo (wpo_move (v := vi (k : Int)) ao Z (wpo_add (c := (k : Int) + 1) Z Z (by omega) (by omega) (by omega) Z (wpo_assign (v := vi ((k : Int) + 1)) Z Z (wpo_nil (Xr (⟨ms.length - (k + 1), by omega, (k + 1), Z, (by omega), (Q7 hall (Vi (by omega)) (Df ((K6 Z).2 af).1 ((K6 Z).2 af).2 hrs (by omega))), Z, ai, an⟩))))))))))))
 have fb := of_decide_eq_false aj
 refine Yn (Yx (Yx (Jk (Xr (Xa (wpo_move (v := .slice a ms.length c) ae Z (wpo_len (by kernel_rfl) Z Z (Xg Vu (Xb Z (Xb Z (Xb Z Xf))) Z (Kn (ms.length : Int) 1 8 _) ?_))))))))
 rintro _ fv ⟨rfl, bv⟩
 refine wpo_assign (v := vb (inR (ms.length : Int) 1 8)) Z Z (wpo_nil (Xk (⟨vb (inR (ms.length : Int) 1 8), res1 Z Z, ?_, (low0 al bv)⟩)))
 exact cB (Dk hall (by omega))
end Go.Dw.J
end
section
namespace Go.Dw.J
open Go.Dw Go.RowKit
open Go.Conc (G)
set_option linter.unusedVariables false
set_option linter.unusedSimpArgs false
set_option linter.unusedSectionVars false
section
variable {P : Program}
theorem Ui (l : Nat) : Quiet P (Instr.getLoop l) := fun o h => by
  cases o <;> first
    | exact h.elim
    | exact Or.inl ⟨rfl, trivial⟩
    | exact Or.inr trivial
theorem Uj (l : Nat) (r : Loop) : Quiet P (setObj l (.loop r)) := ⟨⟨trivial, trivial, rfl⟩, trivial⟩
theorem To (r : Loop) : Quiet P (newObj (.loop r)) := ⟨trivial, fun _ => trivial⟩
theorem Bh (r : Option (List Deferred)) : Quiet P (newObj (.deferred r)) := ⟨trivial, fun _ => trivial⟩
theorem Dc (l : Nat) (args : Array Value) : Quiet P (Instr.yield l args) := by
  unfold Instr.yield
  refine qb (Ui l) fun r => ?_
  split
  · exact qb (Y5 _) fun _ => qp _
  · exact qp _
theorem L4 (l : Nat) : Quiet P (Instr.beginRound l) := by
  unfold Instr.beginRound
  refine qb (Ui l) fun r => qb (Uj l _) fun _ => ?_
  split <;> first | exact qp _ | exact X3 _
theorem Rq (l : Nat) (j : Option Code) : Quiet P (Instr.endRound l j) := by
  unfold Instr.endRound
  exact qb (Ui l) fun r => qb (Uj l _) fun _ => qp _
theorem H9 (l : Nat) : Quiet P (Instr.endLoop l) := by
  unfold Instr.endLoop
  refine qb (Ui l) fun r => ?_
  split
  · exact qb (X3 _) fun _ => qb (Uj l _) fun _ => qp _
  · exact qb (Uj l _) fun _ => qp _
theorem Pd (fn : FuncId) (tmps : Array Value) (ps : Array Tmp) (assign body : Code) : Quiet P (Instr.enterLoop fn tmps ps assign body none) := by
  unfold Instr.enterLoop
  dsimp only
  exact qb (Bh _) fun _ => qb (qp _) fun _ => qb (To _) fun _ => qp _
theorem Hj (D : Nat) : Quiet P (Instr.takeDeferred D) := fun o h => by
  cases o with
  | deferred r =>
    cases r with
    | none => exact Or.inl ⟨rfl, trivial⟩
    | some ds => exact Or.inl ⟨rfl, ⟨trivial, trivial, rfl⟩, trivial⟩
  | cells _ _ _ => exact h.elim
  | _ => exact Or.inr trivial
end
section
variable [Comp] {P : Program}
def YieldAt (P : Program) (l : Nat) (args : Array Value) (W : World) (R : Value → World → Prop) : Prop :=
  ∃ fn tmps assign body, (∀ A1, Ext W A1 → (Instr.yield l args).run P A1 = .ok (.round l fn tmps assign body) A1) ∧ FrameR P (Frame.round l fn tmps assign body .normal) W R
variable {n : Nat} {ops : Array Oper} {K : Fr → World → Prop} {l : List Oper} {f : Fr} {w : World} {o : Oper} {ty : TypeId} {pos : String} {aft : Array Edge} {d : Nat}
theorem Mb {x : Operand} {args : Array Operand} {ats : Array TypeId} {lr : Nat} {vs : List Value} {R : Value → World → Prop} (hx : ev f x = .func (.yield lr) #[] #[]) (ha : args.toList.map (ev f) = vs) (hd : Nat.blt d n = true) (hy : YieldAt P lr vs.toArray w R)
    (h : ∀ v w', R v w' → WpO P n ops K l (up f d v) w') : WpO P n ops K (⟨some d, .call ⟨.value x, args, ats⟩, ty, pos, aft, none⟩ :: l) f w := fun a hfa => by
  obtain ⟨fn, tmps, assign, body, hr, hR⟩ := hy
  have e1 : args.map (ev f) = vs.toArray := by rw [← ha]; apply Array.ext'; simp
  have e2 : execOp (ev f) ⟨some d, .call ⟨.value x, args, ats⟩, ty, pos, aft, none⟩ = (Deferred.ofValue (ev f x) (args.map (ev f)) >>= fun d => invoke d.target d.args) := rfl
  have e3 : execOp (ev f) ⟨some d, .call ⟨.value x, args, ats⟩, ty, pos, aft, none⟩ = Instr.yield lr (#[] ++ vs.toArray) := by
    rw [e2, hx, e1]
    rfl
  have e4 : #[] ++ vs.toArray = vs.toArray := by simp
  rw [e4] at e3
  refine Or.inl ⟨by simp [Region.wanted], Or.inr ⟨R, Uo (by rw [hfa.eval, e3]; exact Dc _ _) (fun A1 hE => ⟨_, by rw [hfa.eval, e3]; exact hr A1 hE, Or.inr ⟨lr, fn, tmps, assign, body, rfl, rfl⟩⟩) hR, fun v A' hRv => ⟨_, hfa.put hd v, h v A' hRv⟩⟩⟩
def SeqStops {α : Type} (P : Program) (g : Nat) (lb : Array Value) (encs : α → Array Value) (Kp : World → World → Prop) (S Sp : List α → Prop) (N : Nat) (w : World) : Prop :=
  ∀ (l : Nat) (J Jx : List α → World → Prop) (W : World), Below w.heap.size w W → AbidesFrom W.heap.size J → AbidesFrom W.heap.size Jx →
    (∀ pre x W1, J pre W1 → pre.length < N → YieldAt P l (encs x) W1 fun v W' => (v = .bool true ∧ J (pre ++ [x]) W' ∧ Kp W1 W') ∨ (v = .bool false ∧ Jx (pre ++ [x]) W')) →
    J [] W → CallsR P g (#[.func (.yield l) #[] #[]] ++ lb) W fun v W' => (∃ xs, S xs ∧ J xs W') ∨ (∃ pre, Sp pre ∧ Jx pre W')
end
def lp (st : LoopState) (pd : Option Code) (fn : FuncId) (tmps : Array Value) (ps : Array Tmp) (assign body : Code) (D : Nat) : Obj := .loop { state := st, pending := pd, fn, tmps, params := ps, assign, body, defers := D }
theorem Ko {W : World} {l j : Nat} {o : Obj} (h : l ≠ j) : (W.putObj l o).heap[j]? = W.heap[j]? := by simp [World.putObj, Array.getElem?_setIfInBounds_ne h]
theorem Vy {W : World} {l : Nat} {o o' : Obj} (h : W.heap[l]? = some o') : (W.putObj l o).heap[l]? = some o := by
  have := (Array.getElem?_eq_some_iff.1 h).1
  simp [World.putObj, this]
theorem Cs {A A1 : World} {l : Nat} {o : Obj} (hE : Ext A A1) (hl : l < A.heap.size) : Ext (A.putObj l o) (norm A (A1.putObj l o)) := by
  obtain ⟨m, h1, h2, h3⟩ := hE
  refine ⟨m, ?_, h2, h3⟩
  show A1.heap.setIfInBounds l o = A.heap.setIfInBounds l o ++ Array.replicate m pz
  rw [h1]
  apply Array.ext'
  simp [List.set_append, hl]
section
variable [Comp] {P : Program} {J : Goroutine → World → Prop}
theorem Closed.turn (hJ : Closed P J) {α : Type} {s : Sem α} {g : Goroutine} {next : α → Goroutine} {A : World} {l : Nat} {o o' : Obj} {x : α} (hr : g.status = .running) (hq : Quiet P s) (hl : A.heap[l]? = some o)
    (hst : ∀ w x w' es, s.runT P w #[] = (.ok x w', es) → ∃ es', stepG P Comp.main g w = .go (next x) w' es' ∧ ∀ e ∈ es', e ∈ es)
    (hrun : ∀ A1 : World, A1.heap[l]? = some o → s.run P A1 = .ok x (A1.putObj l o')) (h : J (next x) (A.putObj l o')) : J g A :=
  hJ.sem hr hq hst fun A1 hE => ⟨x, _, hrun A1 (by rw [hE.get (Array.getElem?_eq_some_iff.1 hl).1]; exact hl), hJ.ext _ _ _ (Cs hE (Array.getElem?_eq_some_iff.1 hl).1) rfl h⟩
theorem W4 {P : Program} {α : Type} {s : Sem α} {w w' : World} {x : α} {es : Array Event} (hh : s.runT P w #[] = (.ok x w', es)) : s.run P w = .ok x w' ∧ s.events P w #[] = es := by
  have e1 := Sem.runT_fst P s w #[]
  rw [hh] at e1
  exact ⟨e1.symm, by unfold Sem.events; rw [hh]⟩
def rb (l : Nat) (fn : FuncId) : Frame := { (default : Frame) with fn := fn, kind := .normal, roundOf := some l }
theorem Bj (l : Nat) (fn : FuncId) (tmps : Array Value) (assign body : Code) : Frame.round l fn tmps assign body .normal = ato (rb l fn) { tmps := tmps, defers := [] } [.code assign, .beginRound, .code body] := rfl
theorem Ry {l : Nat} {fn : FuncId} {tmps rt : Array Value} {ps : Array Tmp} {assign body : Code} {D : Nat} {n : Nat} {f0 : Fr} {W : World} {Mid : Fr → World → Prop} {R : Value → World → Prop}
    (hf0 : FEq n { tmps := tmps, defers := [] } f0)
    (ha : Wpf P n (fun e f' W' => e = .normal ∧ W'.heap[l]? = some (lp .ready none fn rt ps assign body D) ∧ Mid f' (W'.putObj l (lp .busy none fn rt ps assign body D))) assign f0 W)
    (hb : ∀ f1 W1, Mid f1 W1 → Wpf P n (fun e f' W' => (e = .normal ∧ W'.heap[l]? = some (lp .busy none fn rt ps assign body D) ∧ R (.bool true) (W'.putObj l (lp .ready none fn rt ps assign body D))) ∨
      (e = .ret ∧ W'.heap[l]? = some (lp .busy none fn rt ps assign body D) ∧ R (.bool false) (W'.putObj l (lp .done (some .ret) fn rt ps assign body D)))) body f1 W1) :
    FrameR P (Frame.round l fn tmps assign body .normal) W R := fun J hJ c cs hk => by
  have hend : ∀ (a' : Act) (todo : List Item) (jump : Option Code) (W' : World) (o' : Obj), (todo = [] ∧ jump = none ∨ (∃ k, todo = .code .ret :: k) ∧ jump = some .ret) → W'.heap[l]? = some (lp .busy none fn rt ps assign body D) →
      o' = lp (if jump.isNone then .ready else .done) jump fn rt ps assign body D → R (.bool jump.isNone) (W'.putObj l o') → J (G (ato (rb l fn) a' todo) (c :: cs)) W' := fun a' todo jump W' o' htodo hl ho' hR => by
    subst ho'
    refine hJ.turn (s := Instr.endRound l jump) (next := fun v => G (c.finish v) cs) (x := .bool jump.isNone) rfl (Rq l jump) hl (fun w x w' es hh => ⟨seen P fn es, ?_, fun e he => Go.Conc.mem_seen he⟩) (fun A1 h1 => run_endRound jump h1) (hk _ _ hR)
    obtain ⟨e1, e2⟩ := W4 hh
    rcases htodo with ⟨rfl, rfl⟩ | ⟨⟨k, rfl⟩, rfl⟩ <;> simp [G, stepG, stepG.exec, ato, rb, doReturn, e1, e2, GStep.after]
  rw [Bj]
  refine ha J hJ (rb l fn) (by simp [rb]) _ _ _ hf0 fun e a1 f1 W1 hf1 hQ => ?_
  obtain ⟨rfl, hl1, hm⟩ := hQ
  show J (G (ato (rb l fn) a1 [.beginRound, .code body]) (c :: cs)) W1
  refine hJ.turn (s := Instr.beginRound l) (next := fun _ => G (ato (rb l fn) a1 [.code body]) (c :: cs)) (x := ()) rfl (L4 l) hl1 (fun w x w' es hh => ⟨seen P fn es, ?_, fun e he => Go.Conc.mem_seen he⟩) (fun A1 h1 => run_beginRound h1 rfl) ?_
  · obtain ⟨e1, e2⟩ := W4 hh
    simp [G, stepG, stepG.exec, stepG.apply, ato, rb, Frame.finish, e1, e2, GStep.after]
  · refine hb f1 _ hm J hJ (rb l fn) (by simp [rb]) [] (c :: cs) a1 hf1 fun e a2 f2 W2 hf2 hQ => ?_
    rcases hQ with ⟨rfl, hl2, hR⟩ | ⟨rfl, hl2, hR⟩
    · exact hend a2 [] none W2 _ (Or.inl ⟨rfl, rfl⟩) hl2 rfl hR
    · exact fun k => hend a2 _ (some .ret) W2 _ (Or.inr ⟨⟨k, rfl⟩, rfl⟩) hl2 rfl hR
def AbidesN {β : Type} (B : Nat) (J : β → World → Prop) : Prop :=
  ∀ s A A' row, J s A → A.grownBy A' row → (∀ r, row = some r → B ≤ r ∧ ∃ o : Obj, A.heap[r]? = some o ∧ o.isCells = false) → J s A'
theorem R8 {o : Obj} (h : o.isWalk = true) : o.isCells = false := by cases o <;> first | rfl | cases h
def KeepH (lo : Nat) (W W' : World) : Prop := ∀ j, lo ≤ j → j < W.heap.size → W'.heap[j]? = W.heap[j]?
theorem Pk {P : Program} {k : FuncId} (h : goFn P k = true) (args : Array Value) (w : World) (es : Array Event) : (callFunc k args).runT P w es = (.ok (.enter k args) w, es) := by
  unfold goFn at h
  split at h
  · rename_i fn hf
    simp only [Bool.and_eq_true, Bool.not_eq_true'] at h
    obtain ⟨hb, hn⟩ := h
    have hb' : fn.body.isNone = false := by cases hh : fn.body <;> simp_all
    show Sem.runT P (match P.funcs[k]? with | none => _ | some fn => _) w es = _
    rw [hf]
    simp only [hn, hb', Bool.false_eq_true, if_false]
    rfl
  · cases h
theorem Tr (hJ : Closed P J) {α : Type} {b : Frame} (hbk : b.kind ≠ .early) (hro : b.roundOf = none) {k : List Item} {cs : List Frame} {tm : Array Value} {fo : Operand} {xslot : Nat} {assign body : Code} {g : FuncId} {lb : Array Value} {encs : α → Value} {S Sp : List α → Prop} {N n : Nat} {w0 w : World} {fT : Fr}
    (ha : FEq n { tmps := tm, defers := [] } fT) (hf : ev fT fo = .func (.func g) #[] lb) (hgo : goFn P g = true) (hxs : Nat.blt xslot n = true)
    (hseq : SeqStops P g lb (fun x => #[encs x]) (Below w0.heap.size) S Sp N w0) (h0 : Below w0.heap.size w0 w) (h0s : w0.heap.size ≤ w.heap.size)
    (I Ix : List α → World → Prop) (hI : AbidesN w.heap.size I) (hIx : AbidesN w.heap.size Ix) (hi0 : I [] w)
    (M : α → Fr → World → Prop) (hM : ∀ f, AbidesN w.heap.size (fun x => M x f))
    (hassign : ∀ pre x W, w.heap.size ≤ W.heap.size → I pre W → Wpf P n (fun e f' W' => e = .normal ∧ W.grownBy W' none ∧ M x f' W') assign (up fT xslot (encs x)) W)
    (hbody : ∀ pre x f' W, w.heap.size ≤ W.heap.size → I pre W → M x f' W → pre.length < N → Wpf P n (fun e f'' W' => (e = .normal ∧ KeepH w.heap.size W W' ∧ Below w0.heap.size W W' ∧ I (pre ++ [x]) W') ∨ (e = .ret ∧ KeepH w.heap.size W W' ∧ W.heap.size ≤ W'.heap.size ∧ Ix (pre ++ [x]) W')) body f' W)
    (hdone : ∀ D xs W, w.heap.size ≤ D → S xs → I xs W → W.heap[D]? = some (.deferred (some [])) → J (G (ato b { tmps := tm, defers := [{ target := .collected D, args := #[] }] } k) cs) W)
    (hstop : ∀ D pre W, w.heap.size ≤ D → Sp pre → Ix pre W → W.heap[D]? = some (.deferred (some [])) → J (G (ato b { tmps := tm, defers := [{ target := .collected D, args := #[] }] } (.code .ret :: k)) cs) W) :
    J (G (ato b { tmps := tm, defers := [] } (.code (.rangeFunc fo #[xslot] assign body) :: k)) cs) w := by
  refine hJ.sem (s := Instr.enterLoop b.fn tm #[xslot] assign body none) (next := fun x => G (Frame.enter P g (#[.func (.yield x.1) #[] #[]] ++ lb) .normal) (ato b { tmps := tm, defers := x.2 } (.inRangeFunc x.1 :: k) :: cs)) rfl (Pd _ _ _ _ _) (fun w1 x w' es hh => ?_) fun A1 hE => ?_
  · have hev : ∀ fr : Frame, fr.tmps = tm → fr.eval fo = .func (.func g) #[] lb := fun fr htm => by
      rw [← hf, ← ha.eval]
      cases fo <;> simp [Frame.eval, Act.eval, htm]
    have hres : ∀ (fr : Frame) (l : Nat), fr.tmps = tm → resolve fr.eval { callee := .value fo, args := #[.const (.func (.yield l) #[] #[])], argTypes := #[] } 0 = (pure { target := .fn (.func g) lb, args := #[.func (.yield l) #[] #[]] } : Sem Deferred) := fun fr l htm => by
      have e : resolve fr.eval { callee := .value fo, args := #[.const (.func (.yield l) #[] #[])], argTypes := #[] } 0 = Deferred.ofValue (fr.eval fo) (#[Operand.const (.func (.yield l) #[] #[])].map fr.eval) := rfl
      have e2 : #[Operand.const (.func (.yield l) #[] #[])].map fr.eval = #[.func (.yield l) #[] #[]] := by simp [Frame.eval]
      rw [e, e2, hev fr htm]
      rfl
    have hev2 : ∀ (args : Array Value) (w : World), (callFunc g args).events P w #[] = #[] := fun args w => by unfold Sem.events; rw [Pk hgo]
    obtain ⟨e1, e2⟩ := W4 hh
    refine ⟨seen P b.fn es ++ seen P b.fn #[], ?_, fun e he => ?_⟩
    · obtain ⟨l, mark⟩ := x
      have hk' : (b.kind == CallKind.early) = false := by simpa using hbk
      simp [G, stepG, stepG.exec, stepG.apply, ato, hro, e1, e2, hres, invoke, Uw hgo, hev2, GStep.after, hk']
    · rw [Go.Conc.seen_none, Array.append_empty] at he
      exact Go.Conc.mem_seen he
  · have key : ∀ (W0 : World) (D : Nat), w.heap.size ≤ D → w.grownBy W0 none → D + 1 < W0.heap.size → W0.heap[D + 1]? = some (lp .ready none b.fn tm #[xslot] assign body D) → W0.heap[D]? = some (.deferred (some [])) →
        J (G (Frame.enter P g (#[.func (.yield (D + 1)) #[] #[]] ++ lb) .normal) (ato b { tmps := tm, defers := [{ target := .collected D, args := #[] }] } (.inRangeFunc (D + 1) :: k) :: cs)) W0 := by
      intro W0 D hD hg0 hs0 hl0 hd0
      have hput : ∀ (W' : World) (o o' : Obj), W'.heap[D + 1]? = some o → o.isCells = false → W'.grownBy (W'.putObj (D + 1) o') (some (D + 1)) ∧ ∀ r, some (D + 1) = some r → w.heap.size ≤ r ∧ ∃ o : Obj, W'.heap[r]? = some o ∧ o.isCells = false := fun W' o o' ho hc =>
        ⟨grownBy_putObj' _ _ _, fun r e => by cases e; exact ⟨by omega, o, ho, hc⟩⟩
      have hab : ∀ {β : Type} (Q : β → World → Prop), AbidesN w.heap.size Q → ∀ st pd, AbidesFrom W0.heap.size (fun pre W => Q pre W ∧ w.heap.size ≤ W.heap.size ∧ W.heap[D + 1]? = some (lp st pd b.fn tm #[xslot] assign body D) ∧ W.heap[D]? = some (.deferred (some []))) := fun Q hQ st pd s A A' row ⟨h1, h2, h3, h4⟩ hg hr => by
        have hne : ∀ j, j ≤ D + 1 → some j ≠ row := fun j hj e => by have := (hr j e.symm).1; omega
        exact ⟨hQ _ _ _ _ h1 hg (fun r e => ⟨Nat.le_trans (by omega : w.heap.size ≤ W0.heap.size) (hr r e).1, let ⟨o, ho, hw⟩ := (hr r e).2; ⟨o, ho, R8 hw⟩⟩), Nat.le_trans h2 hg.size,
          (hg.block _ (Array.getElem?_eq_some_iff.1 h3).1 (hne _ (Nat.le_refl _))).trans h3, (hg.block _ (Array.getElem?_eq_some_iff.1 h4).1 (hne _ (by omega))).trans h4⟩
      refine hseq (D + 1) (fun pre W => I pre W ∧ w.heap.size ≤ W.heap.size ∧ W.heap[D + 1]? = some (lp .ready none b.fn tm #[xslot] assign body D) ∧ W.heap[D]? = some (.deferred (some [])))
        (fun pre W => Ix pre W ∧ w.heap.size ≤ W.heap.size ∧ W.heap[D + 1]? = some (lp .done (some .ret) b.fn tm #[xslot] assign body D) ∧ W.heap[D]? = some (.deferred (some []))) W0 (h0.grown hg0 h0s (by simp)) (hab I hI _ _) (hab Ix hIx _ _) ?_ ⟨hI _ _ _ none hi0 hg0 (by simp), hg0.size, hl0, hd0⟩ J hJ _ cs ?_
      · rintro pre x W1 ⟨h1, h2, h3, h4⟩ hlen
        have hl1 := (Array.getElem?_eq_some_iff.1 h3).1
        have hl2 := (Array.getElem?_eq_some_iff.1 h4).1
        refine ⟨b.fn, tm.setIfInBounds xslot (encs x), assign, body, fun A1 hE1 => ?_, ?_⟩
        · have := run_yield (P := P) (args := #[encs x]) (w := A1) (l := D + 1) (r := { state := .ready, pending := none, fn := b.fn, tmps := tm, params := #[xslot], assign, body, defers := D }) (by rw [hE1.get hl1]; exact h3) rfl
          simpa using this
        · refine Ry (n := n) (f0 := up fT xslot (encs x)) (D := D) (rt := tm) (ps := #[xslot])
            (Mid := fun f' W' => M x f' W' ∧ I pre W' ∧ w.heap.size ≤ W'.heap.size ∧ W'.heap[D + 1]? = some (lp .busy none b.fn tm #[xslot] assign body D) ∧ W'.heap[D]? = some (.deferred (some [])) ∧ Below w0.heap.size W1 W')
            (by have hp := ha.put (d := xslot) hxs (encs x); simpa [Act.put] using hp) ((hassign pre x W1 h2 h1).mono ?_) (fun f1 W2 hm => (hbody pre x f1 W2 hm.2.2.1 hm.2.1 hm.1 hlen).mono ?_)
          · rintro e f' W' ⟨rfl, hg, hm⟩
            have hl' := (hg.block _ hl1 (by simp)).trans h3
            obtain ⟨hp, hc⟩ := hput W' _ (lp .busy none b.fn tm #[xslot] assign body D) hl' rfl
            have hb1 : Below w0.heap.size W1 W' := (Below.refl _ _).grown hg (Nat.le_trans h0s h2) (by simp)
            exact ⟨rfl, hl', hM f' _ _ _ _ hm hp hc, hI _ _ _ _ (hI _ _ _ none h1 hg (by simp)) hp hc, by rw [World.putObj_size]; exact Nat.le_trans h2 hg.size, Vy hl', (Ko (by omega)).trans ((hg.block _ hl2 (by simp)).trans h4),
              hb1.grown hp (Nat.le_trans h0s (Nat.le_trans h2 hg.size)) (fun j e => by cases e; omega)⟩
          · obtain ⟨hm1, hm2, hm3, hm4, hm5, hm6⟩ := hm
            rintro e f' W3 (⟨rfl, hk, hb3, hi3⟩ | ⟨rfl, hk, hsz, hx3⟩)
            · have hl3 := (hk (D + 1) (by omega) (Array.getElem?_eq_some_iff.1 hm4).1).trans hm4
              obtain ⟨hp, hc⟩ := hput W3 _ (lp .ready none b.fn tm #[xslot] assign body D) hl3 rfl
              exact Or.inl ⟨rfl, hl3, Or.inl ⟨rfl, ⟨hI _ _ _ _ hi3 hp hc, by rw [World.putObj_size]; exact Nat.le_trans hm3 hb3.size, Vy hl3, (Ko (by omega)).trans ((hk D hD (Array.getElem?_eq_some_iff.1 hm5).1).trans hm5)⟩,
                (hm6.trans hb3).grown hp (Nat.le_trans h0s (Nat.le_trans hm3 hb3.size)) (fun j e => by cases e; omega)⟩⟩
            · have hl3 := (hk (D + 1) (by omega) (Array.getElem?_eq_some_iff.1 hm4).1).trans hm4
              obtain ⟨hp, hc⟩ := hput W3 _ (lp .done (some .ret) b.fn tm #[xslot] assign body D) hl3 rfl
              exact Or.inr ⟨rfl, hl3, Or.inr ⟨rfl, hIx _ _ _ _ hx3 hp hc, by rw [World.putObj_size]; exact Nat.le_trans hm3 hsz, Vy hl3, (Ko (by omega)).trans ((hk D hD (Array.getElem?_eq_some_iff.1 hm5).1).trans hm5)⟩⟩
      · intro v A' h
        show J (G (ato b { tmps := tm, defers := [{ target := .collected D, args := #[] }] } (.endRangeFunc (D + 1) :: k)) cs) A'
        have hst : ∀ (w1 : World) (x : Option Code) (w' : World) (es : Array Event), (Instr.endLoop (D + 1)).runT P w1 #[] = (.ok x w', es) → ∃ es', stepG P Comp.main (G (ato b { tmps := tm, defers := [{ target := .collected D, args := #[] }] } (.endRangeFunc (D + 1) :: k)) cs) w1 =
            .go (G (ato b { tmps := tm, defers := [{ target := .collected D, args := #[] }] } ((x.map Item.code).toList ++ k)) cs) w' es' ∧ ∀ e ∈ es', e ∈ es := fun w1 x w' es hh => ⟨seen P b.fn es, by
          obtain ⟨e1, e2⟩ := W4 hh
          simp [G, stepG, stepG.exec, ato, e1, e2, GStep.after], fun e he => Go.Conc.mem_seen he⟩
        rcases h with ⟨xs, hS, h1, h2, h3, h4⟩ | ⟨pre, hSp, h1, h2, h3, h4⟩
        · obtain ⟨hp, hc⟩ := hput A' _ (lp .exhausted none b.fn tm #[xslot] assign body D) h3 rfl
          exact hJ.turn (x := none) rfl (H9 _) h3 hst (fun A1 h => run_endLoop h (by simp)) (hdone D xs _ hD hS (hI _ _ _ _ h1 hp hc) ((Ko (by omega)).trans h4))
        · obtain ⟨hp, hc⟩ := hput A' _ (lp .exhausted (some .ret) b.fn tm #[xslot] assign body D) h3 rfl
          exact hJ.turn (x := some Code.ret) rfl (H9 _) h3 hst (fun A1 h => run_endLoop h (by simp)) (hstop D pre _ hD hSp (hIx _ _ _ _ h1 hp hc) ((Ko (by omega)).trans h4))
    refine ⟨_, _, run_enterLoop_outer _ _ _ _ _, ?_⟩
    have hg : A1.grownBy ((A1.alloc (.deferred (some []))).alloc (lp .ready none b.fn tm #[xslot] assign body A1.heap.size)) none := Xe (World.grownBy_alloc _ _ _) (World.grownBy_alloc _ _ _)
    refine key _ A1.heap.size hE.size (hE.grow hg) ?_ ?_ ?_
    · show A1.heap.size + 1 < ((A1.heap.push _).push _).size
      simp
    · have h := World.alloc_heap_new (A1.alloc (.deferred (some []))) (lp .ready none b.fn tm #[xslot] assign body A1.heap.size)
      rw [World.size_alloc] at h
      exact h
    · show ((A1.heap.push _).push _)[A1.heap.size]? = _
      rw [Array.getElem?_push_lt (by simp)]
      simp
theorem Rf {lo : Nat} {W W' : World} (hg : W.grownBy W' none) : KeepH lo W W' := fun j _ h2 => hg.block j h2 (by simp)
theorem Rg {lo B : Nat} {W W' : World} (hg : W.grownBy W' (some B)) (hB : B < lo) : KeepH lo W W' := fun j h1 h2 => hg.block j h2 (fun e => by cases e; omega)
structure EndJ (P : Program) (fn : Func) (R : Value → World → Prop) (J : Goroutine → World → Prop) (b : Frame) (cs : List Frame) : Prop where
  closed : Closed P J
  fnd : P.funcs[b.fn]? = some fn
  kind : b.kind = .normal
  ro : b.roundOf = none
  df : b.defers = []
  back : ∃ c cs0, cs = c :: cs0 ∧ ∀ v A', R v A' → J (G (c.finish v) cs0) A'
variable {fn : Func} {R : Value → World → Prop} {b : Frame} {cs : List Frame} {n : Nat}
theorem EndJ.early (h : EndJ P fn R J b cs) : b.kind ≠ .early := by rw [h.kind]; simp
theorem EndJ.fin (h : EndJ P fn R J b cs) {a : Act} {f : Fr} {A : World} (ha : FEq n a f) (hR : ∃ v, resV P fn f A v ∧ R v A) (k : List Item) : J (G (ato b a (.code .ret :: k)) cs) A := by
  obtain ⟨c, cs0, rfl, hk⟩ := h.back
  obtain ⟨v, hv, hR⟩ := hR
  exact h.closed.move rfl (fun w => K7 h.ro) (h.closed.leave h.kind h.df ha.defers h.fnd (fun A1 hE => hv A1 hE _ ha.at_) (hk v A hR) _)
theorem EndJ.finD (h : EndJ P fn R J b cs) {tm : Array Value} {f : Fr} {A : World} {D : Nat} (ha : FEq n { tmps := tm, defers := [] } f) (hD : A.heap[D]? = some (.deferred (some [])))
    (hR : ∃ v, resV P fn f (A.putObj D (.deferred none)) v ∧ R v (A.putObj D (.deferred none))) (k : List Item) : J (G (ato b { tmps := tm, defers := [{ target := .collected D, args := #[] }] } (.code .ret :: k)) cs) A := by
  obtain ⟨c, cs0, rfl, hk⟩ := h.back
  obtain ⟨v, hv, hR⟩ := hR
  refine h.closed.move rfl (fun w => K7 h.ro) (h.closed.turn (s := Instr.takeDeferred D) (next := fun calls => G { ato b { tmps := tm, defers := calls } (.code .ret :: k) with mode := .returning } (c :: cs0)) (x := []) rfl (Hj D) hD
    (fun w x w' es hh => ⟨seen P b.fn es, ?_, fun e he => Go.Conc.mem_seen he⟩) (fun A1 h1 => run_takeDeferred h1) (h.closed.leave h.kind h.df rfl h.fnd (fun A1 hE => hv A1 hE _ ha.at_) (hk v _ hR) _))
  obtain ⟨e1, e2⟩ := W4 hh
  simp [G, stepG, unwind, ato, h.df, e1, e2, GStep.after]
def WpA [Comp] (P : Program) (n : Nat) (J : Goroutine → World → Prop) (b : Frame) (cs : List Frame) (k : List Item) (c : Code) (f : Fr) (A : World) : Prop := ∀ a, FEq n a f → J (G (ato b a (.code c :: k)) cs) A
theorem Wu (hE : EndJ P fn R J b cs) {k : List Item} {x y : Code} {f : Fr} {A : World} (h : Wpf P n (thn (WpA P n J b cs k y) (endQ P fn R)) x f A) : WpA P n J b cs k (.seq x y) f A := fun a ha => by
  refine hE.closed.move rfl (fun w => stepG_seq) (h J hE.closed b hE.early (.code y :: k) cs a ha fun e a' f' A' hf hQ => ?_)
  cases e with
  | normal => exact hQ a' hf
  | ret => exact fun k2 => hE.fin hf hQ k2
  | exit i => exact hQ.elim
  | goto l => exact hQ.elim
  | panic c => exact hQ.elim
  | outgrown => exact hQ.elim
theorem Kv (hE : EndJ P fn R J b cs) {k : List Item} {id : Nat} {l : List Oper} {y : Code} {f : Fr} {A : World} (h : WpO P n l.toArray (WpA P n J b cs k y) l f A) : WpA P n J b cs k (.seq (.region id l.toArray false) y) f A := Wu hE (Xo h)
theorem Pz (hE : EndJ P fn R J b cs) {k : List Item} {x y : Code} {f : Fr} {A : World} (h : WpA P n J b cs (.code y :: k) x f A) : WpA P n J b cs k (.seq x y) f A := fun a ha => hE.closed.move rfl (fun w => stepG_seq) (h a ha)
theorem So {k : List Item} {c : Code} {f : Fr} {A : World} (M : Fr → Prop) (h : M f) (hM : ∀ f, M f → WpA P n J b cs k c f A) : WpA P n J b cs k c f A := hM f h
theorem Mi {k : FuncId} {c : Code} {args : Array Value} {A : World} (hf : P.funcs[k]? = some fn) (hb : fn.body = some c) (hn : fn.ntmps = n) (hs : Nat.ble args.size n = true)
    (h : ∀ J b cs, EndJ P fn R J b cs → WpA P n J b cs [] c (f0 args) A) : CallsR P k args A R := fun J hJ cf cs hk => by
  have hs' : args.size ≤ n := by simpa [Nat.ble_eq] using hs
  rw [Go.Conc.enter_at args hf hb, ← G1 (b := Go.Conc.base k) rfl rfl]
  refine h J (Go.Conc.base k) (cf :: cs) ⟨hJ, hf, rfl, rfl, rfl, cf, cs, rfl, hk⟩ _ ⟨rfl, by simp [hn]; omega, fun i => ?_⟩
  simp only [f0, Ue, Array.getD_eq_getD_getElem?, Array.getElem?_toList]
  by_cases hi : i < args.size
  · rw [Array.getElem?_append_left hi]
  · rw [Array.getElem?_append_right (by omega), Array.getElem?_eq_none (by omega : args.size ≤ i)]
    by_cases h2 : i - args.size < fn.ntmps - args.size
    · simp [h2]
    · rw [Array.getElem?_eq_none (by simp; omega)]
theorem Cr {f : Fr} {A : World} {v : Value} (hv : resV P fn f A v) (hR : R v A) : endQ P fn R .ret f A := ⟨v, hv, hR⟩
theorem Mm (hE : EndJ P fn R J b cs) {k : List Item} {id : Nat} {a : Act} {fT : Fr} {t B : Nat} {x y : Operand} {T : TypeId} {cs0 cs' : Array Value} {v : Value} {W : World} {ty : TypeId} {pos : String} {aft : Array Edge}
    (he : a.eval = ev fT) (ht : oneTy P t = true) (hx : ev fT x = .pointer (some ⟨B, 0, none⟩)) (hy : ev fT y = v) (h1 : v.oneCell' = true) (hb : Blk W B T cs0) (ho : 0 < cs0.size) (hcs : cs0.setIfInBounds 0 v = cs')
    (h : ∀ W', SetB W W' B T cs' → J (G (ato b a (.code .ret :: k)) cs) W') : J (G (ato b a (.code (.seq (.region id #[⟨none, .store t x y, ty, pos, aft, none⟩] false) .ret) :: k)) cs) W := by
  refine hE.closed.move rfl (fun w => stepG_seq) (hE.closed.move rfl (fun w => stepG_region) ?_)
  show J (G (ato b a (.inRegion #[⟨none, .store t x y, ty, pos, aft, none⟩] [0] :: .code .ret :: k)) cs) W
  refine OpG.run (o := ⟨none, .store t x y, ty, pos, aft, none⟩) (K := fun a' A' => a' = a ∧ SetB W A' B T cs') (Or.inl ⟨by simp [Region.wanted], Or.inl ⟨by rw [he]; exact qu (Ki _ _ _), fun A1 hX => ⟨.skip, undef, A1.setRow B cs', ?_, Or.inr ⟨rfl, rfl⟩, rfl, SetB.of hX (Qz (hX.blk hb) cs')⟩⟩⟩) hE.closed hE.early rfl fun a' A' ⟨e, hS⟩ => ?_
  · rw [he]
    simp [execOp, hx, hy, Ux ht h1 (hX.blk hb) ho, hcs]
  · subst e
    exact hE.closed.move rfl (fun w => stepG_region_end) (h A' hS)
end
end Go.Dw.J
end
section
namespace Go.Dw.J
open Go.RowKit Go.Dw Go.Proofs
set_option linter.unusedSectionVars false
set_option maxRecDepth 100000
set_option maxHeartbeats 4000000
set_option linter.unusedSimpArgs false
set_option linter.unusedVariables false
theorem En : goFn Try.prog 111 = true := by kernel_rfl
theorem F9 : goFn Try.prog 71 = true := by kernel_rfl
theorem Ia : goFn Try.prog 72 = true := by kernel_rfl
theorem Kd : oneTy Try.prog 23 = true := by kernel_rfl
theorem I4 : zeroTy Try.prog 4 = some (.bool false) := by kernel_rfl
theorem Nn [Comp] (w : World) (ms : List MTh) (a : Option Addr) (c : Nat) : CallsR Try.prog 72 #[.slice a ms.length c] w (fun v w' => ∃ B : Nat, v = .func (.func 111) #[] #[pt B 0] ∧ w.heap.size ≤ B ∧ Blk w' B 23 #[.slice a ms.length c] ∧ w.grownBy w' none) := by
 refine Xq (n := 4) Try.func72 Z Try.ntmps72 Z ?_
 have ab := World.grownBy.refl w none
 refine Xa (wpo_box (v := .slice a ms.length c) (cs := #[.slice a ms.length c]) Z Z Z ?_)
 intro O ac E
 have V := Xy E ab
 refine wpo_assign (v := .nilFunc) Z Z (wpo_nil (Xa (wpo_makeFunc (vs := [pt O 0]) (Xb Z Xf) Z (wpo_assign (v := .func (.func 111) #[] #[pt O 0]) Z Z (wpo_nil (Xk ?_))))))
 refine ⟨.func (.func 111) #[] #[pt O 0], res1 Z Z, O, Z, V, E.blk, (low0 ab E.grw)⟩
theorem Na [Comp] (w : World) (B : Nat) (ms : List MTh) (a : Option Addr) (c : Nat) (ht : TabAt w a ms) (hlen : TabLen ms) (hn : ms.length ≤ 1048576) (hB : Blk w B 23 #[.slice a ms.length c]) :
    SeqStops Try.prog 111 #[pt B 0] (fun x : Rt => #[.agg x.cells.toArray]) (Below w.heap.size) (fun xs => xs = allR ms) (fun pre => pre <+: allR ms) (allR ms).length w := by
 intro l J Jx W hW hJ hJx hY h0
 have bd := gob hW
 show CallsR Try.prog 111 #[.func (.yield l) #[] #[], pt B 0] W _
 refine Xq (n := 26) (R := fun v w' => (∃ xs, xs = allR ms ∧ J xs w') ∨ (∃ pre, pre <+: allR ms ∧ Jx pre w')) Try.func111 Z Try.ntmps111 Z (Xa (wpo_load1 (v := .slice a ms.length c) Kd Z ((hB.grown0 bd).cell Z) Z (wpo_len (by kernel_rfl) Z Z (wpo_move (v := vi 0) Z Z (wpo_nil (Xu (Yf (fun mm f' w' => ∃ (k : Nat), mm = ms.length - k ∧ k ≤ ms.length ∧ J (allR (ms.take k)) w' ∧ f' 9 = vi (k : Int) ∧ f' 0 = .func (.yield l) #[] #[] ∧ f' 7 = .slice a ms.length c ∧ f' 8 = vi (ms.length : Int) ∧ w.grownBy w' none) (ms.length - 0) ⟨0, Z, (Nat.zero_le _), h0, Z, Z, Z, Z, bd⟩ ?_)))))))
 rintro mm bn cc ⟨k, bh, hk, hJk, af, bc, al, am, ae⟩
 refine Xa (wpo_lss (q := decide ((k : Int) < (ms.length : Int))) af am Z Z (wpo_nil (Xi (Xs Z (fun ai => ?_) (fun ai => ?_)))))
 have bq := of_decide_eq_true ai
 refine Xl (Xr (Xi (Xu (Xa ?_))))
 obtain ⟨bl, bz, bv, au, az, a9⟩ := SlAt.at (TabAt.low ht ae).1 (Yk (xg ms k))
 have bg := TabLen.at hlen (xg ms k)
 refine Xx Qc al af au az (by omega) (by omega) Z (wpo_loadn (vs := [vi (mAt ms k).t.kind, vi (mAt ms k).t.lab.s, vi (mAt ms k).t.lab.v, vi (mAt ms k).t.ve, vi (mAt ms k).t.num, .slice (mAt ms k).sa (mAt ms k).t.slots.length (mAt ms k).sc, .slice (mAt ms k).qa (mAt ms k).t.queue.length (mAt ms k).qc, vi (mAt ms k).t.to]) Xw Z Z (Yl a9 0 8 Z) Z (wpo_alloc (cs := #[vi 0, vi 0, vi 0, vi 0, vi 0, .slice none 0 0, .slice none 0 0, vi 0]) Q1 Z Z ?_))
 intro bj cd E
 have be := Xy E ae
 refine wpo_storen (vs := [vi (mAt ms k).t.kind, vi (mAt ms k).t.lab.s, vi (mAt ms k).t.lab.v, vi (mAt ms k).t.ve, vi (mAt ms k).t.num, .slice (mAt ms k).sa (mAt ms k).t.slots.length (mAt ms k).sc, .slice (mAt ms k).qa (mAt ms k).t.queue.length (mAt ms k).qc, vi (mAt ms k).t.to]) (cs' := #[vi (mAt ms k).t.kind, vi (mAt ms k).t.lab.s, vi (mAt ms k).t.lab.v, vi (mAt ms k).t.ve, vi (mAt ms k).t.num, .slice (mAt ms k).sa (mAt ms k).t.slots.length (mAt ms k).sc, .slice (mAt ms k).qa (mAt ms k).t.queue.length (mAt ms k).qc, vi (mAt ms k).t.to]) Xw Z Z Z (by simp [Value.oneCell']) E.blk (Nat.le_of_ble_eq_true Z) Z ?_
 intro ce ab
 refine wpo_nil (Xa (wpo_fieldAddr (o' := 5) Y4 Z Z Z (wpo_load1 (v := .slice (mAt ms k).sa (mAt ms k).t.slots.length (mAt ms k).sc) Je Z (ab.blk.cell Z) Z (wpo_len (by kernel_rfl) Z Z (wpo_move (v := vi 0) Z Z (wpo_nil (Xu (Yf (fun mm f' w' => ∃ (j : Nat), mm = (mAt ms k).t.slots.length - j ∧ j ≤ (mAt ms k).t.slots.length ∧ J (preR ms k j) w' ∧ f' 16 = vi (j : Int) ∧ f' 0 = .func (.yield l) #[] #[] ∧ f' 7 = .slice a ms.length c ∧ f' 8 = vi (ms.length : Int) ∧ f' 9 = vi (k : Int) ∧ f' 14 = .slice (mAt ms k).sa (mAt ms k).t.slots.length (mAt ms k).sc ∧ f' 15 = vi ((mAt ms k).t.slots.length : Int) ∧ w.grownBy w' none) ((mAt ms k).t.slots.length - 0) ⟨0, Z, (Nat.zero_le _), (by rw [Tf]; exact (hJ _ _ _ none hJk (low1 E.grw ab.grw (nt ((World.grownBy.refl _ none)).size E.ge)) (fun r e => by cases e))), Z, bc, al, am, af, Z, Z, (low1 (low0 ae E.grw) ab.grw (by omega))⟩ ?_))))))))
 rintro mm bp cg ⟨j, bi, hj, hJj, ag, ah, an, ao, ap, aq, ar, V⟩
 refine Xa (wpo_lss (q := decide ((j : Int) < ((mAt ms k).t.slots.length : Int))) ag ar Z Z (wpo_nil (Xi (Xs Z (fun aj => ?_) (fun aj => ?_)))))
 have br := of_decide_eq_true aj
 refine Xl (Xr (Xi (Xu (Xa ?_))))
 obtain ⟨bm, ca, bw, av, a8, ba⟩ := SlAt.at (TabAt.th (TabAt.low ht V) (xg ms k)).1 (Yk (xr (mAt ms k).t.slots j))
 refine Xx G7 aq ag av a8 (by omega) (by omega) Z (wpo_loadn (vs := [vi (rAt (mAt ms k).t.slots j).th, vi (rAt (mAt ms k).t.slots j).ve, vb (rAt (mAt ms k).t.slots j).rd, vb (rAt (mAt ms k).t.slots j).wr, vb (rAt (mAt ms k).t.slots j).wk]) Yy Z Z (Yl ba 0 5 Z) Z (wpo_alloc (cs := #[vi 0, vi 0, vb false, vb false, vb false]) Hw Z Z ?_))
 intro bk cj O
 have bf := Xy O V
 refine wpo_storen (vs := [vi (rAt (mAt ms k).t.slots j).th, vi (rAt (mAt ms k).t.slots j).ve, vb (rAt (mAt ms k).t.slots j).rd, vb (rAt (mAt ms k).t.slots j).wr, vb (rAt (mAt ms k).t.slots j).wk]) (cs' := #[vi (rAt (mAt ms k).t.slots j).th, vi (rAt (mAt ms k).t.slots j).ve, vb (rAt (mAt ms k).t.slots j).rd, vb (rAt (mAt ms k).t.slots j).wr, vb (rAt (mAt ms k).t.slots j).wk]) Yy Z Z Z (by simp [Value.oneCell']) O.blk (Nat.le_of_ble_eq_true Z) Z ?_
 intro ck ac
 refine wpo_nil (Xa (wpo_move (v := .func (.yield l) #[] #[]) ah Z (wpo_loadn (vs := [vi (rAt (mAt ms k).t.slots j).th, vi (rAt (mAt ms k).t.slots j).ve, vb (rAt (mAt ms k).t.slots j).rd, vb (rAt (mAt ms k).t.slots j).wr, vb (rAt (mAt ms k).t.slots j).wk]) Yy Z Z (ac.blk.rangeL 0 5 Z) Z (Mb Z (vs := [.agg #[vi (rAt (mAt ms k).t.slots j).th, vi (rAt (mAt ms k).t.slots j).ve, vb (rAt (mAt ms k).t.slots j).rd, vb (rAt (mAt ms k).t.slots j).wr, vb (rAt (mAt ms k).t.slots j).wk]]) (Xb Z Xf) Z (hY (preR ms k j) _ _ (hJ _ _ _ none hJj (low1 O.grw ac.grw (nt ((World.grownBy.refl _ none)).size O.ge)) (fun r e => by cases e)) (C2 (by omega) (by omega))) ?_))))
 rintro _ cl (⟨rfl, as, aw⟩ | ⟨rfl, ak⟩)
 exact wpo_not (b' := false) Z Z Z (wpo_nil (X7 Z Z (Xl (Y1 (Xr (Xo (wpo_add (c := (j : Int) + 1) ag Z (by omega) (by omega) (by omega) Z (wpo_move (v := vi ((j : Int) + 1)) Z Z (wpo_nil (Xr (⟨(mAt ms k).t.slots.length - (j + 1), by omega, (j + 1), Z, (by omega), (by rw [← H8 (by omega)]; exact as), Z, ah, an, ao, ap, aq, ar, (N3 (low1 (low0 V O.grw) ac.grw (by omega)) aw)⟩)))))))))))
 refine wpo_not (b' := true) Z Z Z (wpo_nil (X4 Z Z (Xk (Qh (X9 (X9 (Qh (Qh (X9 (X9 (Qh (⟨.tuple #[], res0 Z, Or.inr ⟨_, N9 (k := k) (j := j + 1) (by omega), ?_⟩⟩))))))))))))
 rw [← H8 (k := k) (j := j) (by omega)]
 exact ak
 have bt := of_decide_eq_false aj
 exact Yn (Yx (Yx (Jk (Y1 (Xr (Xo (wpo_add (c := (k : Int) + 1) ap Z (by omega) (by omega) (by omega) Z (wpo_move (v := vi ((k : Int) + 1)) Z Z (wpo_nil (Xr (⟨ms.length - (k + 1), by omega, (k + 1), Z, (by omega), (by rw [← Te (j := j) (by omega) (by omega)]; exact hJj), Z, ah, an, ao, V⟩)))))))))))
 have bu := of_decide_eq_false ai
 refine Yn (Yx (Yx (Jk (⟨.tuple #[], res0 Z, Or.inl ⟨_, Z, ?_⟩⟩))))
 have kk := hJk
 rw [Su (by omega)] at kk
 exact kk
theorem Ss [Comp] (w : World) (ms : List MTh) (a : Option Addr) (c : Nat) (ht : TabAt w a ms) (hlen : TabLen ms) (hn : ms.length ≤ 1048576) : CallsR Try.prog 37 #[.slice a ms.length c] w (fun v w' => v = vb (tableOk (tabT ms)) ∧ w.grownBy w' none) := by
 refine Mi (n := 53) Try.func37 Z Try.ntmps37 Z ?_
 intro J b cs hEnd
 have eu := World.grownBy.refl w none
 refine Kv hEnd (wpo_box (v := .slice a ms.length c) (cs := #[.slice a ms.length c]) Z Z Z ?_)
 intro aj gi am
 have fb := Xy am eu
 have bq := low0 eu am.grw
 refine wpo_alloc (cs := #[vb false]) I4 Z Z ?_
 intro ab gj af
 have fc := Xy af bq
 have bw := Xn af (am.blk).lt
 refine wpo_nil (Wu hEnd (Xa ?_))
 have cm := (am.blk.grown0 af.grw)
 refine wpo_load1 (v := .slice a ms.length c) Kd Z (cm.cell Z) Z (wpo_len (by kernel_rfl) Z Z (Xg Vv (Xb Z (Xb Z (Xb Z Xf))) Z (Jc (ms.length : Int) 1 8 _) ?_))
 rintro _ gl ⟨rfl, ao⟩
 have br := low0 (low0 bq af.grw) ao
 refine wpo_not (b' := !inR (ms.length : Int) 1 8) Z Z Z (wpo_nil (Xs Z (fun av => ?_) (fun av => ?_)))
 have ee := Jd av
 refine Xa (wpo_store1 (v := vb false) (cs' := #[vb false]) Vp Z Z Z (af.blk.grown0 ao) (Nat.le_of_ble_eq_true Z) Z ?_)
 intro gm bl
 exact wpo_nil (Xk (X9 (Cr (resC Z (resCell_mk1 Vp Z (bl.blk.cell Z))) ⟨cB (Bu ee).symm, (low1 br bl.grw (by omega))⟩)))
 have aw := Qn av
 have fj := Uc.1 aw
 refine Xl (Xr (Wu hEnd (Xa ?_)))
 have cn := (cm.grown0 ao)
 refine wpo_load1 (v := .slice a ms.length c) Kd Z (cn.cell Z) Z (wpo_len (by kernel_rfl) Z Z (wpo_move (v := vi 0) Z Z (wpo_nil (Xu (Yf (fun mm f' w' => ∃ (k : Nat), mm = ms.length - k ∧ k ≤ ms.length ∧ (((tabT ms).take k).all (headOk (tabT ms))) = true ∧ f' 12 = vi (k : Int) ∧ f' 0 = .slice a ms.length c ∧ f' 1 = pt aj 0 ∧ f' 2 = pt ab 0 ∧ f' 10 = .slice a ms.length c ∧ f' 11 = vi (ms.length : Int) ∧ w.grownBy w' none ∧ Blk w' aj 23 #[.slice a ms.length c] ∧ Blk w' ab 4 #[vb false]) (ms.length - 0) ⟨0, Z, (Nat.zero_le _), Z, Z, Z, Z, Z, Z, Z, br, cn, (af.blk.grown0 ao)⟩ ?_)))))
 rintro mm ft gp ⟨k, fi, hk, hall, bh, cj, as, au, bi, bj, ai, ak, al⟩
 refine Xa (wpo_lss (q := decide ((k : Int) < (ms.length : Int))) bh bj Z Z (wpo_nil (Xi (Xs Z (fun az => ?_) (fun az => ?_)))))
 have fw := of_decide_eq_true az
 refine Xl (Xr (Xi (Xu (Xa ?_))))
 obtain ⟨fq, gg, gf, cx, du, dw⟩ := SlAt.at (TabAt.low ht ai).1 (Yk (xg ms k))
 have fg := TabLen.at hlen (xg ms k)
 refine Xx Qc bi bh cx du (by omega) (by omega) Z (wpo_loadn (vs := [vi (mAt ms k).t.kind, vi (mAt ms k).t.lab.s, vi (mAt ms k).t.lab.v, vi (mAt ms k).t.ve, vi (mAt ms k).t.num, .slice (mAt ms k).sa (mAt ms k).t.slots.length (mAt ms k).sc, .slice (mAt ms k).qa (mAt ms k).t.queue.length (mAt ms k).qc, vi (mAt ms k).t.to]) Xw Z Z (Yl dw 0 8 Z) Z (wpo_alloc (cs := #[vi 0, vi 0, vi 0, vi 0, vi 0, .slice none 0 0, .slice none 0 0, vi 0]) Q1 Z Z ?_))
 intro fp gq V
 have fd := Xy V ai
 have bz := Xn V (ak).lt
 have cc := Xn V (al).lt
 refine wpo_storen (vs := [vi (mAt ms k).t.kind, vi (mAt ms k).t.lab.s, vi (mAt ms k).t.lab.v, vi (mAt ms k).t.ve, vi (mAt ms k).t.num, .slice (mAt ms k).sa (mAt ms k).t.slots.length (mAt ms k).sc, .slice (mAt ms k).qa (mAt ms k).t.queue.length (mAt ms k).qc, vi (mAt ms k).t.to]) (cs' := #[vi (mAt ms k).t.kind, vi (mAt ms k).t.lab.s, vi (mAt ms k).t.lab.v, vi (mAt ms k).t.ve, vi (mAt ms k).t.num, .slice (mAt ms k).sa (mAt ms k).t.slots.length (mAt ms k).sc, .slice (mAt ms k).qa (mAt ms k).t.queue.length (mAt ms k).qc, vi (mAt ms k).t.to]) Xw Z Z Z (by simp [Value.oneCell']) V.blk (Nat.le_of_ble_eq_true Z) Z ?_
 intro gr ac
 have be := low1 (low0 ai V.grw) ac.grw (by omega)
 refine wpo_nil (Xi (Xa (wpo_loadn (vs := [vi (mAt ms k).t.kind, vi (mAt ms k).t.lab.s, vi (mAt ms k).t.lab.v, vi (mAt ms k).t.ve, vi (mAt ms k).t.num, .slice (mAt ms k).sa (mAt ms k).t.slots.length (mAt ms k).sc, .slice (mAt ms k).qa (mAt ms k).t.queue.length (mAt ms k).qc, vi (mAt ms k).t.to]) Xw Z Z (ac.blk.rangeL 0 8 Z) Z (Xg N1 (Xb Z Xf) Z (K4 (mAt ms k) _ (TabAt.th (TabAt.low ht be) (xg ms k)).1 (TabAt.th (TabAt.low ht be) (xg ms k)).2.1 (by first | omega | exact Nat.le_of_ble_eq_true rfl | (simp only [List.length_nil, List.length_cons, List.length_append, List.length_replicate]; omega)) (by first | omega | exact Nat.le_of_ble_eq_true rfl | (simp only [List.length_nil, List.length_cons, List.length_append, List.length_replicate]; omega))) ?_))))
 rintro _ ey ⟨rfl, ae⟩
 have bf := low0 be ae
 refine wpo_not (b' := !thingOk (mAt ms k).t) Z Z Z (wpo_nil (Xs Z (fun a8 => ?_) (fun a8 => ?_)))
 have ef := Jd a8
 refine Xa (wpo_store1 (v := vb false) (cs' := #[vb false]) Vp au Z Z (((al.grown0 V.grw).gn ac.grw).grown0 ae) (Nat.le_of_ble_eq_true Z) Z ?_)
 intro gt bm
 exact wpo_nil (Xk (X9 (Qh (X9 (X9 (Qh (X9 (Cr (resC Z (resCell_mk1 Vp au (bm.blk.cell Z))) ⟨cB (Sl (k := k) (by omega) (by unfold headOk; rw [ef]; rfl)).symm, (low1 bf bm.grw (by omega))⟩))))))))
 have a9 := Qn a8
 refine Xl (Xr (Xt (fun f' w' => (f' 0 = .slice a ms.length c ∧ f' 1 = pt aj 0 ∧ f' 2 = pt ab 0 ∧ f' 10 = .slice a ms.length c ∧ f' 11 = vi (ms.length : Int) ∧ f' 12 = vi (k : Int) ∧ f' 28 = vb ((decide ((mAt ms k).t.kind = 5)) && (!kindAt (tabT ms) (mAt ms k).t.to 1))) ∧ ey.grownBy w' none) ?_ ?_))
 refine wpo_fieldAddr (o' := 0) X8 Z Z Z ?_
 have co := (ac.blk.grown0 ae)
 refine wpo_load1 (v := vi (mAt ms k).t.kind) X0 Z (co.cell Z) Z (wpo_eql (q := decide ((mAt ms k).t.kind = 5)) Z Z Z Z (wpo_move (v := vb (decide ((mAt ms k).t.kind = 5))) Z Z ?_))
 rcases X1 (decide ((mAt ms k).t.kind = 5)) with O | O
 have ez := Gw a9 O
 have fx := of_decide_eq_true O
 refine Xc Z Z Z O (wpo_load1 (v := .slice a ms.length c) Kd as ((((ak.grown0 V.grw).gn ac.grw).grown0 ae).cell Z) Z (Xc Z Z Z O (wpo_fieldAddr (o' := 7) Jm Z Z Z (Xc Z Z Z O (wpo_load1 (v := vi (mAt ms k).t.to) X0 Z (co.cell Z) Z (Xc Z Z Z O (Xg F9 (Xb Z (Xb Z (Xb Z Xf))) Z (Mz (mAt ms k).t.to 1 (by omega) _ ms _ _ (TabAt.low ht bf) hlen (by omega)) ?_)))))))
 rintro _ gu ⟨rfl, cz⟩
 exact Xc Z Z Z O (wpo_not (b' := !kindAt (tabT ms) (mAt ms k).t.to 1) Z Z Z (wpo_pickt (v := vb (!kindAt (tabT ms) (mAt ms k).t.to 1)) Z O Z Z (wpo_nil ⟨⟨cj, as, au, bi, bj, bh, (cB (by simp [av, aw, az, a8, a9, O]))⟩, cz⟩)))
 have fy := of_decide_eq_false O
 iterate 5 refine Xd rfl rfl rfl O rfl ?_
 exact wpo_pickf (v := vb false) Z O Z Z (wpo_nil ⟨⟨cj, as, au, bi, bj, bh, (cB (by simp [av, aw, az, a8, a9, O]))⟩, (World.grownBy.refl _ _)⟩)
 rintro fu gv ⟨⟨d0, d5, bk, d6, d7, d8, d9⟩, ap⟩
 have bt := low0 bf ap
 refine Xs d9 (fun ba => ?_) (fun ba => ?_)
 have ck := Ds ba
 have fa := Gw a9 ck
 have fz := of_decide_eq_true ck
 have eg := Dt ba
 have f7 := Jd eg
 refine Xa (wpo_store1 (v := vb false) (cs' := #[vb false]) Vp bk Z Z ((((al.grown0 V.grw).gn ac.grw).grown0 ae).grown0 ap) (Nat.le_of_ble_eq_true Z) Z ?_)
 intro gw bn
 exact wpo_nil (Xk (Qh (X9 (X9 (Qh (X9 (Cr (resC Z (resCell_mk1 Vp bk (bn.blk.cell Z))) ⟨cB (Sl (k := k) (by omega) (by unfold headOk; rw [Jd (Mt.symm.trans ba), Bool.and_false])).symm, (low1 bt bn.grw (by omega))⟩)))))))
 exact Xl (Y1 (Xr (Xo (wpo_add (c := (k : Int) + 1) d8 Z (by omega) (by omega) (by omega) Z (wpo_move (v := vi ((k : Int) + 1)) Z Z (wpo_nil (Xr (⟨ms.length - (k + 1), by omega, (k + 1), Z, (by omega), (Q7 (p := headOk (tabT ms)) hall (Vi (by omega)) (by unfold headOk; rw [a9, Qn (Mt.symm.trans ba)]; rfl)), Z, d0, d5, bk, d6, d7, bt, ((((ak.grown0 V.grw).gn ac.grw).grown0 ae).grown0 ap), ((((al.grown0 V.grw).gn ac.grw).grown0 ae).grown0 ap)⟩))))))))
 have f8 := of_decide_eq_false az
 refine Yn (Yx (Yx (Jk (Xr (Pz hEnd (Kv hEnd (wpo_load1 (v := .slice a ms.length c) Kd as (ak.cell Z) Z (Xg Ia (Xb Z Xf) Z (Nn _ ms _ _) ?_))))))))
 rintro _ bv ⟨ce, rfl, ar, ex, bg⟩
 have ag := low0 ai bg
 have fe := nt ai.size ar
 have ca := nl (ak).lt ar
 have cd := nl (al).lt ar
 refine wpo_nil ?_
 have cw := (al.grown0 bg)
 refine So (fun f' => f' 1 = pt aj 0 ∧ f' 2 = pt ab 0 ∧ f' 31 = .func (.func 111) #[] #[pt ce 0]) ⟨as, au, Z⟩ ?_
 rintro fT ⟨e1, e2, e3⟩ a0 ha
 obtain ⟨tm, df⟩ := a0
 obtain rfl : df = [] := ha.defers
 have ew : ab < bv.heap.size := (cw).lt
 refine hEnd.closed.move Z (fun _ => Gk) (Tr hEnd.closed hEnd.early hEnd.ro (n := 53) (encs := fun x : Rt => .agg x.cells.toArray) ha e3 En Z (Na bv ce ms a c (TabAt.low ht ag) hlen hn ex) (Below.refl _ _) (Nat.le_refl _) (fun pre W => w.grownBy W none ∧ Blk W aj 23 #[.slice a ms.length c] ∧ Blk W ab 4 #[vb false] ∧ pre.all (rightTo (tabT ms)) = true ∧ bv.heap.size ≤ W.heap.size) (fun pre W => w.grownBy W none ∧ Blk W ab 4 #[vb false] ∧ pre.all (rightTo (tabT ms)) = false) (fun s A B row hs hg hr => ⟨H6 hs.1 hg ag.size hr, Gr hs.2.1 hg hr, Gr hs.2.2.1 hg hr, hs.2.2.2.1, nt hs.2.2.2.2 hg.size⟩) (fun s A B row hs hg hr => ⟨H6 hs.1 hg ag.size hr, Gr hs.2.1 hg hr, hs.2.2⟩) ⟨ag, (ak.grown0 bg), cw, Z, Nat.le_refl _⟩ (fun x f' W => ∃ Bx : Nat, Blk W Bx 74 x.cells.toArray ∧ f' 5 = pt Bx 0 ∧ f' 1 = pt aj 0 ∧ f' 2 = pt ab 0) (fun f' x A B row hs hg hr => by obtain ⟨Bx, h1, h2⟩ := hs; exact ⟨Bx, Gr h1 hg hr, h2⟩) ?_ ?_ ?_ ?_)
 intro pre x W hlW hi
 refine Xo (wpo_alloc (cs := #[vi 0, vi 0, vb false, vb false, vb false]) Hw Z Z ?_)
 intro dz gx an
 have ff := Xy an hi.1
 refine wpo_storen (vs := [vi x.th, vi x.ve, vb x.rd, vb x.wr, vb x.wk]) (cs' := #[vi x.th, vi x.ve, vb x.rd, vb x.wr, vb x.wk]) Yy Z Z Z (by simp [Value.oneCell']) an.blk (Nat.le_of_ble_eq_true Z) Z ?_
 intro gy bp
 exact wpo_nil (⟨Z, (low1 an.grw bp.grw (nt ((World.grownBy.refl _ none)).size an.ge)), dz, bp.blk, Z, e1, e2⟩)
 rintro pre x f' W hlW hi ⟨Bx, hbx, h5, h1, h2⟩ hlt
 refine Wpf.mono (Q := (fun e f'' w' => (e = .normal ∧ W.grownBy w' none ∧ rightTo (tabT ms) x = true) ∨ (e = .ret ∧ W.grownBy w' (some ab) ∧ w.grownBy w' none ∧ Blk w' ab 4 #[vb false] ∧ rightTo (tabT ms) x = false))) ?_ ?_
 refine Xu (Xi (Xa (wpo_fieldAddr (o' := 0) Qu h5 Z Z (wpo_load1 (v := vi x.th) X0 Z (hbx.cell Z) Z (wpo_eql (q := decide (x.th = 0)) Z Z Z Z (wpo_nil (Xs Z (fun ah => ?_) (fun ah => ?_))))))))
 have f9 := of_decide_eq_true ah
 exact Yn (Yx (Jk (Or.inl ⟨Z, (World.grownBy.refl _ _), Tu ah⟩)))
 have gb := of_decide_eq_false ah
 refine Xl (Xr (Kc (fun f' w' => (f' 2 = pt ab 0 ∧ f' 52 = vb ((!inR x.th 1 (ms.length : Int)) || (decide ((mj ms x.th).t.ve < x.ve)))) ∧ W.grownBy w' none) ?_ ?_))
 rcases X1 (!inR x.th 1 (ms.length : Int)) with E | E
 have eh := Jd E
 refine Qx (m := 15) (vals := [(36, .slice a ms.length c), (37, pt Bx 0), (38, vi x.th), (39, vb (inR x.th 1 (ms.length : Int))), (40, vb (!inR x.th 1 (ms.length : Int))), (41, vb (!inR x.th 1 (ms.length : Int))), (42, undef), (43, undef), (44, undef), (45, undef), (46, undef), (47, undef), (48, undef), (49, undef), (50, undef)]) (fun w' => W.grownBy w' none) Q4 (by kernel_rfl) (X5 _) ?_ ?_
 refine yl Z (fun _ dc k => wpo_load1 (v := .slice a ms.length c) Kd h1 ((hi.2.1.grown0 dc).cell Z) Z k) (yl Z (fun _ _ k => wpo_fieldAddr (o' := 0) Qu h5 Z Z k) (yl Z (fun _ de k => wpo_load1 (v := vi x.th) X0 Z ((hbx.grown0 de).cell Z) Z k) ?_))
 refine Qg Z (fun gz dh => ?_) ?_
 refine Xg Mw (Xb Z (Xb Z Xf)) Z (K2 x.th _ _ _ _) ?_
 rintro _ g4 ⟨rfl, da⟩
 exact wpo_nil ⟨Z, (Xe dh da)⟩
 refine yl Z (fun _ _ k => wpo_not (b' := !inR x.th 1 (ms.length : Int)) Z Z Z k) (yl Z (fun _ _ k => wpo_move (v := vb (!inR x.th 1 (ms.length : Int))) Z Z k) (yl Z (fun _ _ k => Xd Z Z Z E Z k) (yl Z (fun _ _ k => Xd Z Z Z E Z k) (yl Z (fun _ _ k => Xd Z Z Z E Z k) (yl Z (fun _ _ k => Xd Z Z Z E Z k) (yl Z (fun _ _ k => Xd Z Z Z E Z k) (yl Z (fun _ _ k => Xd Z Z Z E Z k) (yl Z (fun _ _ k => Xd Z Z Z E Z k) (yl Z (fun _ _ k => Xd Z Z Z E Z k) (yl Z (fun _ _ k => Xd Z Z Z E Z k) ?_))))))))))
 exact Ja
 intro g7 di
 exact Xd Z Z Z E Z (wpo_pickt (v := vb true) Z E Z Z (wpo_nil (Xr ⟨⟨h2, (cB (by simp [ah, E, eh]))⟩, di⟩)))
 have cl := Qn E
 have fk := Uc.1 cl
 obtain ⟨cg, gh, bu, cy, dv, dx⟩ := SlAt.at (TabAt.low ht hi.1).1 (Yk (xg ms (x.th - 1).toNat))
 have fh := TabLen.at hlen (xg ms (x.th - 1).toNat)
 refine Qx (m := 15) (vals := [(36, .slice a ms.length c), (37, pt Bx 0), (38, vi x.th), (39, vb (inR x.th 1 (ms.length : Int))), (40, vb (!inR x.th 1 (ms.length : Int))), (41, vb (!inR x.th 1 (ms.length : Int))), (42, pt Bx 1), (43, vi x.ve), (44, .slice a ms.length c), (45, pt Bx 0), (46, vi x.th), (47, vi (x.th - 1)), (48, pt cg bu), (49, pt cg (bu + 3)), (50, vi (mj ms x.th).t.ve)]) (fun w' => W.grownBy w' none) Q4 (by kernel_rfl) (X5 _) ?_ ?_
 refine yl Z (fun _ dk k => wpo_load1 (v := .slice a ms.length c) Kd h1 ((hi.2.1.grown0 dk).cell Z) Z k) (yl Z (fun _ _ k => wpo_fieldAddr (o' := 0) Qu h5 Z Z k) (yl Z (fun _ dl k => wpo_load1 (v := vi x.th) X0 Z ((hbx.grown0 dl).cell Z) Z k) ?_))
 refine Qg Z (fun g8 dm => ?_) ?_
 refine Xg Mw (Xb Z (Xb Z Xf)) Z (K2 x.th _ _ _ _) ?_
 rintro _ g9 ⟨rfl, db⟩
 exact wpo_nil ⟨Z, (Xe dm db)⟩
 refine yl Z (fun _ _ k => wpo_not (b' := !inR x.th 1 (ms.length : Int)) Z Z Z k) (yl Z (fun _ _ k => wpo_move (v := vb (!inR x.th 1 (ms.length : Int))) Z Z k) (yl Z (fun _ _ k => Xc Z Z Z E (wpo_fieldAddr (o' := 1) J2 h5 Z Z k)) (yl Z (fun _ dn k => Xc Z Z Z E (wpo_load1 (v := vi x.ve) X0 Z ((hbx.grown0 dn).cell Z) Z k)) (yl Z (fun _ dp k => Xc Z Z Z E (wpo_load1 (v := .slice a ms.length c) Kd h1 ((hi.2.1.grown0 dp).cell Z) Z k)) (yl Z (fun _ _ k => Xc Z Z Z E (wpo_fieldAddr (o' := 0) Qu h5 Z Z k)) (yl Z (fun _ dq k => Xc Z Z Z E (wpo_load1 (v := vi x.th) X0 Z ((hbx.grown0 dq).cell Z) Z k)) (yl Z (fun _ _ k => Xc Z Z Z E (wpo_sub (c := x.th - 1) Z Z (by omega) (by omega) (by omega) Z k)) (yl Z (fun _ _ k => Xc Z Z Z E (Xx Qc Z Z cy dv (by omega) (by omega) Z k)) (yl Z (fun _ _ k => Xc Z Z Z E (wpo_fieldAddr (o' := bu + 3) Q2 Z Z Z k)) (yl Z (fun _ dr k => Xc Z Z Z E (wpo_load1 (v := vi (mj ms x.th).t.ve) X0 Z ((Yb dx dr) 3 _ Z) Z k)) ?_))))))))))
 exact Ja
 intro ia dt
 exact Xc Z Z Z E (wpo_gtr (q := decide ((mj ms x.th).t.ve < x.ve)) Z Z Z Z (wpo_pickf (v := vb (decide ((mj ms x.th).t.ve < x.ve))) Z E Z Z (wpo_nil (Xr ⟨⟨h2, (cB (by simp [ah, E, cl]))⟩, dt⟩))))
 rintro fv ib ⟨⟨ea, ed⟩, aq⟩
 refine Xs ed (fun bc => ?_) (fun bc => ?_)
 refine Xa (wpo_store1 (v := vb false) (cs' := #[vb false]) Vp ea Z Z (hi.2.2.1.grown0 aq) (Nat.le_of_ble_eq_true Z) Z ?_)
 intro ic bd
 exact wpo_nil (Xk (Qh (Or.inr ⟨Z, (Xe (Rc aq) bd.grw), (low1 (low0 hi.1 aq) bd.grw (by omega)), bd.blk, Jd ((Lc ah).symm.trans bc)⟩)))
 have ei := J6 bc
 have ej := Qn ei
 have fm := Uc.1 ej
 have ek := J7 bc
 have gc := of_decide_eq_false ek
 exact Xl (Y1 (Or.inl ⟨Z, aq, Qn ((Lc ah).symm.trans bc)⟩))
 rintro e f2 w2 (⟨rfl, hg, hx⟩ | ⟨rfl, hg, hg0, hb, hx⟩)
 exact Or.inl ⟨Z, Rf hg, P3 hg hlW, low0 hi.1 hg, hi.2.1.grown0 hg, hi.2.2.1.grown0 hg, by rw [List.all_append, hi.2.2.2.1]; simp [hx], nt hi.2.2.2.2 hg.size⟩
 exact Or.inr ⟨Z, Rg hg ew, hg.size, hg0, hb, by rw [List.all_append]; simp [hx]⟩
 intro D xs W hD hS hi hK
 subst hS
 have hDB : D ≠ ab := by omega
 refine hEnd.closed.move Z (fun _ => Uq) (Mm hEnd (fT := fT) (v := vb true) (cs' := #[vb true]) ha.eval Vp e2 Z Z hi.2.2.1 (by simp) Z fun W2 hsb => ?_)
 have hK' : W2.heap[D]? = some (.deferred (some [])) := (hsb.grw.block D (Array.getElem?_eq_some_iff.1 hK).1 (fun e => hDB (Option.some.inj e))).trans hK
 have hgp := grownBy_putObj' W2 D (.deferred none)
 have hb2 := hsb.blk.grown hgp (Qf (Ne.symm hDB))
 refine hEnd.finD ha hK' ⟨vb true, resC Z (resCell_mk1 Vp e2 (hb2.cell Z)), ?_, ?_⟩ _
 rw [Pt aw hall (by omega), hi.2.2.2.1]
 exact low1 (low1 hi.1 hsb.grw (by omega)) hgp (nt ag.size hD)
 intro D pre W hD hSp hx hK
 obtain ⟨hg, hb, hf⟩ := hx
 have hDB : D ≠ ab := by omega
 have hgp := grownBy_putObj' W D (.deferred none)
 refine hEnd.finD ha hK ⟨vb false, resC Z (resCell_mk1 Vp e2 ((hb.grown hgp (Qf (Ne.symm hDB))).cell Z)), ?_, ?_⟩ _
 rw [Pt aw hall (by omega), P1 hSp hf]
 exact low1 hg hgp (nt ag.size hD)
end Go.Dw.J
end
section
namespace Go.Dw
set_option linter.unusedSimpArgs false
set_option linter.unusedVariables false
def viewTh (t : Th) (l : Lab) : Th := if labelFlow t.lab l = true then t else thingNew t.kind t.lab t.to
theorem Hv {t : Th} {l : Lab} (h : labelFlow t.lab l = true) : viewTh t l = t := if_pos h
theorem Pw {t : Th} {l : Lab} (h : labelFlow t.lab l = false) (h2 : newOk t.kind t.lab t.to = false) : viewTh t l = Th.zero := by
  unfold viewTh thingNew
  rw [if_neg (by rw [h]; simp), if_neg (by rw [h2]; simp)]
theorem T8 {t : Th} {l : Lab} (h : labelFlow t.lab l = false) (h2 : newOk t.kind t.lab t.to = true) (h3 : (decide (t.kind = 2) || decide (t.kind = 3)) = true) : viewTh t l = ⟨t.kind, t.lab, 0, 0, zeros4, [], t.to⟩ := by
  unfold viewTh thingNew newTh
  rw [if_neg (by rw [h]; simp), if_pos h2, if_pos (by unfold has4; exact h3)]
theorem T7 {t : Th} {l : Lab} (h : labelFlow t.lab l = false) (h2 : newOk t.kind t.lab t.to = true) (h3 : (decide (t.kind = 2) || decide (t.kind = 3)) = false) : viewTh t l = ⟨t.kind, t.lab, 0, 0, [], [], t.to⟩ := by
  unfold viewTh thingNew newTh
  rw [if_neg (by rw [h]; simp), if_pos h2, if_neg (by unfold has4; rw [h3]; simp)]
end Go.Dw
end
section
namespace Go.Dw.J
open Go.RowKit Go.Dw Go.Proofs
set_option linter.unusedSectionVars false
set_option maxRecDepth 100000
set_option maxHeartbeats 4000000
set_option linter.unusedSimpArgs false
set_option linter.unusedVariables false
theorem Eo : goFn Try.prog 116 = true := by kernel_rfl
theorem Nz : goFn Try.prog 17 = true := by kernel_rfl
theorem H2 : goFn Try.prog 18 = true := by kernel_rfl
theorem Ib : goFn Try.prog 86 = true := by kernel_rfl
theorem Co [Comp] (w : World) (xs : List Int) (a : Option Addr) (c : Nat) (hs : SlAt w a 1 (xs.map icell)) (hc : a = none → c = 0) (hn : xs.length ≤ 1048576) : CallsR Try.prog 116 #[.slice a xs.length c] w (fun v w' => ∃ (a' : Option Addr) (cap' : Nat), v = .slice a' xs.length cap' ∧ OwnN w.heap.size w' a' 3 1 cap' xs.length (xs.flatMap icell) ∧ w.grownBy w' none) := by
 refine Xq (n := 5) Try.func116 Z Try.ntmps116 Z ?_
 have ab := World.grownBy.refl w none
 refine Xa (wpo_assign (v := .slice none 0 0) Z Z (wpo_nil (Xa (wpo_move (v := .slice a xs.length c) Z Z (wpo_appendN (g := icell) (ys := []) (zs := xs) (lo := w.heap.size) N6 Z Yc (by omega) Vw Z Z OwnN.nil (SlAt.low hs ab) hc (by first | omega | exact Nat.le_of_ble_eq_true rfl | (simp only [List.length_nil, List.length_cons, List.length_append, List.length_replicate]; omega)) (by omega) ab.size Z ?_)))))
 intro O E af V ac ae
 refine wpo_assign (v := .slice O xs.length E) Z Z (wpo_nil (Xk ?_))
 refine ⟨.slice O xs.length E, res1 Z Z, O, E, Z, V, (low0 ab ac)⟩
theorem Ns [Comp] (w : World) (q : MTh) (hq : ThAt w q) (hn : q.t.slots.length ≤ 1048576 ∧ q.t.queue.length ≤ 1048576) : CallsR Try.prog 86 #[.agg #[vi q.t.kind, vi q.t.lab.s, vi q.t.lab.v, vi q.t.ve, vi q.t.num, .slice q.sa q.t.slots.length q.sc, .slice q.qa q.t.queue.length q.qc, vi q.t.to]] w (fun v w' => ∃ (sa : Option Addr) (sc : Nat) (qa : Option Addr) (qc : Nat), v = .agg #[vi q.t.kind, vi q.t.lab.s, vi q.t.lab.v, vi q.t.ve, vi q.t.num, .slice sa q.t.slots.length sc, .slice qa q.t.queue.length qc, vi q.t.to] ∧ OwnN w.heap.size w' sa 74 5 sc q.t.slots.length (q.t.slots.flatMap Rt.cells) ∧ OwnN w.heap.size w' qa 3 1 qc q.t.queue.length (q.t.queue.flatMap icell) ∧ w.grownBy w' none) := by
 refine Xq (n := 12) Try.func86 Z Try.ntmps86 Z ?_
 have av := World.grownBy.refl w none
 refine Xa (wpo_box (v := .agg #[vi q.t.kind, vi q.t.lab.s, vi q.t.lab.v, vi q.t.ve, vi q.t.num, .slice q.sa q.t.slots.length q.sc, .slice q.qa q.t.queue.length q.qc, vi q.t.to]) (cs := #[vi q.t.kind, vi q.t.lab.s, vi q.t.lab.v, vi q.t.ve, vi q.t.num, .slice q.sa q.t.slots.length q.sc, .slice q.qa q.t.queue.length q.qc, vi q.t.to]) Z Z Z ?_)
 intro a8 ba ag
 have aw := Xy ag av
 have am := low0 av ag.grw
 refine wpo_alloc (cs := #[vi 0, vi 0, vi 0, vi 0, vi 0, .slice none 0 0, .slice none 0 0, vi 0]) Q1 Z Z ?_
 intro a9 bc ac
 have az := Xy ac am
 have ap := Xn ac (ag.blk).lt
 have ai := low0 am ac.grw
 refine wpo_nil (Xa (wpo_fieldAddr (o' := 5) Y4 Z Z Z ?_))
 have aq := (ag.blk.grown0 ac.grw)
 refine wpo_load1 (v := .slice q.sa q.t.slots.length q.sc) Je Z (aq.cell Z) Z (Xg D6 (Xb Z Xf) Z (Sb _ q.t.slots _ _ (ThAt.low hq ai).1 (ThAt.low hq ai).2.2.1 (by first | omega | exact Nat.le_of_ble_eq_true rfl | (simp only [List.length_nil, List.length_cons, List.length_append, List.length_replicate]; omega))) ?_)
 rintro _ bd ⟨V, E, rfl, as, al⟩
 refine wpo_fieldAddr (o' := 5) Y4 Z Z Z ?_
 have ar := (aq.grown0 al)
 refine wpo_store1 (v := .slice V q.t.slots.length E) (cs' := #[vi q.t.kind, vi q.t.lab.s, vi q.t.lab.v, vi q.t.ve, vi q.t.num, .slice V q.t.slots.length E, .slice q.qa q.t.queue.length q.qc, vi q.t.to]) Je Z Z Z ar (Nat.le_of_ble_eq_true Z) Z ?_
 intro be ae
 have aj := low1 (low0 ai al) ae.grw (by omega)
 refine wpo_nil (Xa (wpo_fieldAddr (o' := 6) Qt Z Z Z (wpo_load1 (v := .slice q.qa q.t.queue.length q.qc) J0 Z (ae.blk.cell Z) Z (Xg Eo (Xb Z Xf) Z (Co _ q.t.queue _ _ (ThAt.low hq aj).2.1 (ThAt.low hq aj).2.2.2 (by first | omega | exact Nat.le_of_ble_eq_true rfl | (simp only [List.length_nil, List.length_cons, List.length_append, List.length_replicate]; omega))) ?_))))
 rintro _ bf ⟨ab, O, rfl, au, ak⟩
 refine wpo_fieldAddr (o' := 6) Qt Z Z Z ?_
 have an := (ae.blk.grown0 ak)
 refine wpo_store1 (v := .slice ab q.t.queue.length O) (cs' := #[vi q.t.kind, vi q.t.lab.s, vi q.t.lab.v, vi q.t.ve, vi q.t.num, .slice V q.t.slots.length E, .slice ab q.t.queue.length O, vi q.t.to]) J0 Z Z Z an (Nat.le_of_ble_eq_true Z) Z ?_
 intro bg af
 refine wpo_nil (Xa (wpo_loadn (vs := [vi q.t.kind, vi q.t.lab.s, vi q.t.lab.v, vi q.t.ve, vi q.t.num, .slice V q.t.slots.length E, .slice ab q.t.queue.length O, vi q.t.to]) Xw Z Z (af.blk.rangeL 0 8 Z) Z ?_))
 have ao := ((((ac.blk.grown0 al).gn ae.grw).grown0 ak).gn af.grw)
 refine wpo_storen (vs := [vi q.t.kind, vi q.t.lab.s, vi q.t.lab.v, vi q.t.ve, vi q.t.num, .slice V q.t.slots.length E, .slice ab q.t.queue.length O, vi q.t.to]) (cs' := #[vi q.t.kind, vi q.t.lab.s, vi q.t.lab.v, vi q.t.ve, vi q.t.num, .slice V q.t.slots.length E, .slice ab q.t.queue.length O, vi q.t.to]) Xw Z Z Z (by simp [Value.oneCell']) ao (Nat.le_of_ble_eq_true Z) Z ?_
 intro bh ah
 refine wpo_nil (Xk ?_)
 refine ⟨.agg #[vi q.t.kind, vi q.t.lab.s, vi q.t.lab.v, vi q.t.ve, vi q.t.num, .slice V q.t.slots.length E, .slice ab q.t.queue.length O, vi q.t.to], resC Z (resCell_mk (vs := [vi q.t.kind, vi q.t.lab.s, vi q.t.lab.v, vi q.t.ve, vi q.t.num, .slice V q.t.slots.length E, .slice ab q.t.queue.length O, vi q.t.to]) Xw Z Z (ah.blk.rangeL 0 8 Z)), V, E, ab, O, Z, (OwnN.typB (OwnN.typB ((OwnN.typB (OwnN.mono as ai.size) ae.grw ar (by decide)).grown0 ak) af.grw an (by decide)) ah.grw ao (by decide)), (OwnN.typB (OwnN.typB (OwnN.mono au aj.size) af.grw an (by decide)) ah.grw ao (by decide)), (low1 (low1 (low0 aj ak) af.grw (by omega)) ah.grw (by omega))⟩
theorem Px [Comp] (l : Lab) (w : World) (q : MTh) (hq : ThAt w q) (hn : q.t.slots.length ≤ 1048576 ∧ q.t.queue.length ≤ 1048576) : CallsR Try.prog 42 #[.agg #[vi q.t.kind, vi q.t.lab.s, vi q.t.lab.v, vi q.t.ve, vi q.t.num, .slice q.sa q.t.slots.length q.sc, .slice q.qa q.t.queue.length q.qc, vi q.t.to], .agg #[vi l.s, vi l.v]] w (fun v w' => ∃ (sa : Option Addr) (sc : Nat) (qa : Option Addr) (qc : Nat), v = .agg #[vi (viewTh q.t l).kind, vi (viewTh q.t l).lab.s, vi (viewTh q.t l).lab.v, vi (viewTh q.t l).ve, vi (viewTh q.t l).num, .slice sa (viewTh q.t l).slots.length sc, .slice qa (viewTh q.t l).queue.length qc, vi (viewTh q.t l).to] ∧ OwnN w.heap.size w' sa 74 5 sc (viewTh q.t l).slots.length ((viewTh q.t l).slots.flatMap Rt.cells) ∧ OwnN w.heap.size w' qa 3 1 qc (viewTh q.t l).queue.length ((viewTh q.t l).queue.flatMap icell) ∧ w.grownBy w' none) := by
 refine Xq (n := 24) Try.func42 Z Try.ntmps42 Z ?_
 have du := World.grownBy.refl w none
 refine Xa (wpo_box (v := .agg #[vi q.t.kind, vi q.t.lab.s, vi q.t.lab.v, vi q.t.ve, vi q.t.num, .slice q.sa q.t.slots.length q.sc, .slice q.qa q.t.queue.length q.qc, vi q.t.to]) (cs := #[vi q.t.kind, vi q.t.lab.s, vi q.t.lab.v, vi q.t.ve, vi q.t.num, .slice q.sa q.t.slots.length q.sc, .slice q.qa q.t.queue.length q.qc, vi q.t.to]) Z Z Z ?_)
 intro d7 ew ar
 have dv := Xy ar du
 have bl := low0 du ar.grw
 refine wpo_box (v := .agg #[vi l.s, vi l.v]) (cs := #[vi l.s, vi l.v]) Z Z Z ?_
 intro d8 ex al
 have dw := Xy al bl
 have bw := Xn al (ar.blk).lt
 have bm := low0 bl al.grw
 refine wpo_alloc (cs := #[vi 0, vi 0, vi 0, vi 0, vi 0, .slice none 0 0, .slice none 0 0, vi 0]) Q1 Z Z ?_
 intro d9 ey V
 have dx := Xy V bm
 have de := (ar.blk.grown0 al.grw)
 have bz := Xn V (de).lt
 have cj := Xn V (al.blk).lt
 refine wpo_nil (Xi (Xa (wpo_fieldAddr (o' := 1) Jl Z Z Z ?_)))
 have bu := (de.grown0 V.grw)
 refine wpo_loadn (vs := [vi q.t.lab.s, vi q.t.lab.v]) Yu Z Z (bu.rangeL 1 2 Z) Z ?_
 have bc := (al.blk.grown0 V.grw)
 refine wpo_loadn (vs := [vi l.s, vi l.v]) Yu Z Z (bc.rangeL 0 2 Z) Z (Xg H2 (Xb Z (Xb Z Xf)) Z (Jw q.t.lab l _) ?_)
 rintro _ ez ⟨rfl, O⟩
 have ae := low0 (low0 bm V.grw) O
 refine wpo_nil (Xs Z (fun aq => ?_) (fun aq => ?_))
 refine Xa (wpo_loadn (vs := [vi q.t.kind, vi q.t.lab.s, vi q.t.lab.v, vi q.t.ve, vi q.t.num, .slice q.sa q.t.slots.length q.sc, .slice q.qa q.t.queue.length q.qc, vi q.t.to]) Xw Z Z ((bu.grown0 O).rangeL 0 8 Z) Z (Xg Ib (Xb Z Xf) Z (Ns _ q (ThAt.low hq ae) (by omega)) ?_))
 rintro _ fa ⟨a9, aj, ba, ak, rfl, dp, dq, bt⟩
 have bv := ((V.blk.grown0 O).grown0 bt)
 refine wpo_storen (vs := [vi q.t.kind, vi q.t.lab.s, vi q.t.lab.v, vi q.t.ve, vi q.t.num, .slice a9 q.t.slots.length aj, .slice ba q.t.queue.length ak, vi q.t.to]) (cs' := #[vi q.t.kind, vi q.t.lab.s, vi q.t.lab.v, vi q.t.ve, vi q.t.num, .slice a9 q.t.slots.length aj, .slice ba q.t.queue.length ak, vi q.t.to]) Xw Z Z Z (by simp [Value.oneCell']) bv (Nat.le_of_ble_eq_true Z) Z ?_
 intro fb as
 refine wpo_nil (Xk (X9 ?_))
 have hv : viewTh q.t l = q.t := Hv aq
 rw [hv]
 refine ⟨.agg #[vi q.t.kind, vi q.t.lab.s, vi q.t.lab.v, vi q.t.ve, vi q.t.num, .slice a9 q.t.slots.length aj, .slice ba q.t.queue.length ak, vi q.t.to], resC Z (resCell_mk (vs := [vi q.t.kind, vi q.t.lab.s, vi q.t.lab.v, vi q.t.ve, vi q.t.num, .slice a9 q.t.slots.length aj, .slice ba q.t.queue.length ak, vi q.t.to]) Xw Z Z (as.blk.rangeL 0 8 Z)), a9, aj, ba, ak, Z, (OwnN.typB (OwnN.mono dp ae.size) as.grw bv (by decide)), (OwnN.typB (OwnN.mono dq ae.size) as.grw bv (by decide)), (low1 (low0 ae bt) as.grw (by omega))⟩
 refine Xl (Xr (Xa (wpo_fieldAddr (o' := 0) X8 Z Z Z ?_)))
 have am := (bu.grown0 O)
 refine wpo_load1 (v := vi q.t.kind) X0 Z (am.cell Z) Z (wpo_fieldAddr (o' := 1) Jl Z Z Z (wpo_loadn (vs := [vi q.t.lab.s, vi q.t.lab.v]) Yu Z Z (am.rangeL 1 2 Z) Z (wpo_fieldAddr (o' := 7) Jm Z Z Z (wpo_load1 (v := vi q.t.to) X0 Z (am.cell Z) Z ?_))))
 rcases X1 ((decide (q.t.kind = 2)) || (decide (q.t.kind = 3))) with ab | ab
 rcases X1 (newOk q.t.kind q.t.lab q.t.to) with ao | ao
 have dh := (bc.grown0 O)
 have di := (V.blk.grown0 O)
 have eg : thingOk (⟨q.t.kind, q.t.lab, 0, 0, zeros4, [], q.t.to⟩ : Th) = true := (Kz ab).symm.trans ao
 refine Xg Nz (Xb Z (Xb Z (Xb Z Xf))) Z (Gd q.t.kind q.t.to q.t.lab ab ao _) ?_
 rintro _ fc ⟨af, E, rfl, an, bh, av⟩
 have bn := low0 ae av
 have dc := nt ae.size an
 have ca := nl (am).lt an
 have ck := nl (dh).lt an
 have cw := nl (di).lt an
 refine wpo_move (v := .tuple #[.agg #[vi q.t.kind, vi q.t.lab.s, vi q.t.lab.v, vi 0, vi 0, .slice (pa af) 4 E, .slice none 0 0, vi q.t.to], vb true]) Z Z (wpo_extract (v := .agg #[vi q.t.kind, vi q.t.lab.s, vi q.t.lab.v, vi 0, vi 0, .slice (pa af) 4 E, .slice none 0 0, vi q.t.to]) Z Z Z (wpo_extract (v := vb true) Z Z Z (wpo_alloc (cs := #[vi 0, vi 0, vi 0, vi 0, vi 0, .slice none 0 0, .slice none 0 0, vi 0]) Q1 Z Z ?_)))
 intro ea fd ac
 have dz := Xy ac bn
 have cc := Xn ac ((am.grown0 av)).lt
 have cl := Xn ac ((dh.grown0 av)).lt
 have dk := (di.grown0 av)
 have cx := Xn ac (dk).lt
 have db := Xn ac (bh).lt
 refine wpo_storen (vs := [vi q.t.kind, vi q.t.lab.s, vi q.t.lab.v, vi 0, vi 0, .slice (pa af) 4 E, .slice none 0 0, vi q.t.to]) (cs' := #[vi q.t.kind, vi q.t.lab.s, vi q.t.lab.v, vi 0, vi 0, .slice (pa af) 4 E, .slice none 0 0, vi q.t.to]) Xw Z Z Z (by simp [Value.oneCell']) ac.blk (Nat.le_of_ble_eq_true Z) Z ?_
 intro fe au
 refine wpo_assign (v := vb true) Z Z (wpo_nil (Xa (wpo_loadn (vs := [vi q.t.kind, vi q.t.lab.s, vi q.t.lab.v, vi 0, vi 0, .slice (pa af) 4 E, .slice none 0 0, vi q.t.to]) Xw Z Z (au.blk.rangeL 0 8 Z) Z (wpo_storen (vs := [vi q.t.kind, vi q.t.lab.s, vi q.t.lab.v, vi 0, vi 0, .slice (pa af) 4 E, .slice none 0 0, vi q.t.to]) (cs' := #[vi q.t.kind, vi q.t.lab.s, vi q.t.lab.v, vi 0, vi 0, .slice (pa af) 4 E, .slice none 0 0, vi q.t.to]) Xw Z Z Z (by simp [Value.oneCell']) ((dk.grown0 ac.grw).gn au.grw) (Nat.le_of_ble_eq_true Z) Z ?_))))
 intro ff bd
 refine wpo_nil (Xk ?_)
 have hv : viewTh q.t l = ⟨q.t.kind, q.t.lab, 0, 0, zeros4, [], q.t.to⟩ := T8 aq ao ab
 rw [hv]
 refine ⟨.agg #[vi q.t.kind, vi q.t.lab.s, vi q.t.lab.v, vi 0, vi 0, .slice (pa af) 4 E, .slice none 0 0, vi q.t.to], resC Z (resCell_mk (vs := [vi q.t.kind, vi q.t.lab.s, vi q.t.lab.v, vi 0, vi 0, .slice (pa af) 4 E, .slice none 0 0, vi q.t.to]) Xw Z Z (bd.blk.rangeL 0 8 Z)), some ⟨af, 0, none⟩, E, none, 0, Z, (OwnN.of (((bh.grown0 ac.grw).gn au.grw).gn bd.grw) dc), OwnN.nil, (low1 (low1 (low0 bn ac.grw) au.grw (by omega)) bd.grw (by omega))⟩
 have eh : thingOk (⟨q.t.kind, q.t.lab, 0, 0, zeros4, [], q.t.to⟩ : Th) = false := (Kz ab).symm.trans ao
 refine Xg Nz (Xb Z (Xb Z (Xb Z Xf))) Z (Gc q.t.kind q.t.to q.t.lab ab ao _) ?_
 rintro _ fg ⟨rfl, aw⟩
 have bp := low0 ae aw
 refine wpo_move (v := .tuple #[.agg #[vi 0, vi 0, vi 0, vi 0, vi 0, .slice none 0 0, .slice none 0 0, vi 0], vb false]) Z Z (wpo_extract (v := .agg #[vi 0, vi 0, vi 0, vi 0, vi 0, .slice none 0 0, .slice none 0 0, vi 0]) Z Z Z (wpo_extract (v := vb false) Z Z Z (wpo_alloc (cs := #[vi 0, vi 0, vi 0, vi 0, vi 0, .slice none 0 0, .slice none 0 0, vi 0]) Q1 Z Z ?_)))
 intro ed fh ag
 have d0 := Xy ag bp
 have cd := Xn ag ((am.grown0 aw)).lt
 have cm := Xn ag (((bc.grown0 O).grown0 aw)).lt
 have dl := ((V.blk.grown0 O).grown0 aw)
 have cy := Xn ag (dl).lt
 refine wpo_storen (vs := [vi 0, vi 0, vi 0, vi 0, vi 0, .slice none 0 0, .slice none 0 0, vi 0]) (cs' := #[vi 0, vi 0, vi 0, vi 0, vi 0, .slice none 0 0, .slice none 0 0, vi 0]) Xw Z Z Z (by simp [Value.oneCell']) ag.blk (Nat.le_of_ble_eq_true Z) Z ?_
 intro fi be
 refine wpo_assign (v := vb false) Z Z (wpo_nil (Xa (wpo_loadn (vs := [vi 0, vi 0, vi 0, vi 0, vi 0, .slice none 0 0, .slice none 0 0, vi 0]) Xw Z Z (be.blk.rangeL 0 8 Z) Z (wpo_storen (vs := [vi 0, vi 0, vi 0, vi 0, vi 0, .slice none 0 0, .slice none 0 0, vi 0]) (cs' := #[vi 0, vi 0, vi 0, vi 0, vi 0, .slice none 0 0, .slice none 0 0, vi 0]) Xw Z Z Z (by simp [Value.oneCell']) ((dl.grown0 ag.grw).gn be.grw) (Nat.le_of_ble_eq_true Z) Z ?_))))
 intro fj bi
 refine wpo_nil (Xk ?_)
 have hv : viewTh q.t l = Th.zero := Pw aq ao
 rw [hv]
 refine ⟨.agg #[vi 0, vi 0, vi 0, vi 0, vi 0, .slice none 0 0, .slice none 0 0, vi 0], resC Z (resCell_mk (vs := [vi 0, vi 0, vi 0, vi 0, vi 0, .slice none 0 0, .slice none 0 0, vi 0]) Xw Z Z (bi.blk.rangeL 0 8 Z)), none, 0, none, 0, Z, OwnN.nil, OwnN.nil, (low1 (low1 (low0 bp ag.grw) be.grw (by omega)) bi.grw (by omega))⟩
 have dr := J6 ab
 have ei := of_decide_eq_false dr
 have dt := J7 ab
 have ej := of_decide_eq_false dt
 rcases X1 (newOk q.t.kind q.t.lab q.t.to) with ap | ap
 have ek : thingOk (⟨q.t.kind, q.t.lab, 0, 0, [], [], q.t.to⟩ : Th) = true := (Jr ab).symm.trans ap
 refine Xg Nz (Xb Z (Xb Z (Xb Z Xf))) Z (Gb q.t.kind q.t.to q.t.lab ab ap _) ?_
 rintro _ fk ⟨rfl, az⟩
 have bq := low0 ae az
 refine wpo_move (v := .tuple #[.agg #[vi q.t.kind, vi q.t.lab.s, vi q.t.lab.v, vi 0, vi 0, .slice none 0 0, .slice none 0 0, vi q.t.to], vb true]) Z Z (wpo_extract (v := .agg #[vi q.t.kind, vi q.t.lab.s, vi q.t.lab.v, vi 0, vi 0, .slice none 0 0, .slice none 0 0, vi q.t.to]) Z Z Z (wpo_extract (v := vb true) Z Z Z (wpo_alloc (cs := #[vi 0, vi 0, vi 0, vi 0, vi 0, .slice none 0 0, .slice none 0 0, vi 0]) Q1 Z Z ?_)))
 intro ee fm ah
 have d5 := Xy ah bq
 have ce := Xn ah ((am.grown0 az)).lt
 have cn := Xn ah (((bc.grown0 O).grown0 az)).lt
 have dm := ((V.blk.grown0 O).grown0 az)
 have cz := Xn ah (dm).lt
 refine wpo_storen (vs := [vi q.t.kind, vi q.t.lab.s, vi q.t.lab.v, vi 0, vi 0, .slice none 0 0, .slice none 0 0, vi q.t.to]) (cs' := #[vi q.t.kind, vi q.t.lab.s, vi q.t.lab.v, vi 0, vi 0, .slice none 0 0, .slice none 0 0, vi q.t.to]) Xw Z Z Z (by simp [Value.oneCell']) ah.blk (Nat.le_of_ble_eq_true Z) Z ?_
 intro fp bf
 refine wpo_assign (v := vb true) Z Z (wpo_nil (Xa (wpo_loadn (vs := [vi q.t.kind, vi q.t.lab.s, vi q.t.lab.v, vi 0, vi 0, .slice none 0 0, .slice none 0 0, vi q.t.to]) Xw Z Z (bf.blk.rangeL 0 8 Z) Z (wpo_storen (vs := [vi q.t.kind, vi q.t.lab.s, vi q.t.lab.v, vi 0, vi 0, .slice none 0 0, .slice none 0 0, vi q.t.to]) (cs' := #[vi q.t.kind, vi q.t.lab.s, vi q.t.lab.v, vi 0, vi 0, .slice none 0 0, .slice none 0 0, vi q.t.to]) Xw Z Z Z (by simp [Value.oneCell']) ((dm.grown0 ah.grw).gn bf.grw) (Nat.le_of_ble_eq_true Z) Z ?_))))
 intro fq bj
 refine wpo_nil (Xk ?_)
 have hv : viewTh q.t l = ⟨q.t.kind, q.t.lab, 0, 0, [], [], q.t.to⟩ := T7 aq ap ab
 rw [hv]
 refine ⟨.agg #[vi q.t.kind, vi q.t.lab.s, vi q.t.lab.v, vi 0, vi 0, .slice none 0 0, .slice none 0 0, vi q.t.to], resC Z (resCell_mk (vs := [vi q.t.kind, vi q.t.lab.s, vi q.t.lab.v, vi 0, vi 0, .slice none 0 0, .slice none 0 0, vi q.t.to]) Xw Z Z (bj.blk.rangeL 0 8 Z)), none, 0, none, 0, Z, OwnN.nil, OwnN.nil, (low1 (low1 (low0 bq ah.grw) bf.grw (by omega)) bj.grw (by omega))⟩
 have eu : thingOk (⟨q.t.kind, q.t.lab, 0, 0, [], [], q.t.to⟩ : Th) = false := (Jr ab).symm.trans ap
 refine Xg Nz (Xb Z (Xb Z (Xb Z Xf))) Z (Ga q.t.kind q.t.to q.t.lab ab ap _) ?_
 rintro _ ft ⟨rfl, a8⟩
 have br := low0 ae a8
 refine wpo_move (v := .tuple #[.agg #[vi 0, vi 0, vi 0, vi 0, vi 0, .slice none 0 0, .slice none 0 0, vi 0], vb false]) Z Z (wpo_extract (v := .agg #[vi 0, vi 0, vi 0, vi 0, vi 0, .slice none 0 0, .slice none 0 0, vi 0]) Z Z Z (wpo_extract (v := vb false) Z Z Z (wpo_alloc (cs := #[vi 0, vi 0, vi 0, vi 0, vi 0, .slice none 0 0, .slice none 0 0, vi 0]) Q1 Z Z ?_)))
 intro ef fu ai
 have d6 := Xy ai br
 have cg := Xn ai ((am.grown0 a8)).lt
 have co := Xn ai (((bc.grown0 O).grown0 a8)).lt
 have dn := ((V.blk.grown0 O).grown0 a8)
 have da := Xn ai (dn).lt
 refine wpo_storen (vs := [vi 0, vi 0, vi 0, vi 0, vi 0, .slice none 0 0, .slice none 0 0, vi 0]) (cs' := #[vi 0, vi 0, vi 0, vi 0, vi 0, .slice none 0 0, .slice none 0 0, vi 0]) Xw Z Z Z (by simp [Value.oneCell']) ai.blk (Nat.le_of_ble_eq_true Z) Z ?_
 intro fv bg
 refine wpo_assign (v := vb false) Z Z (wpo_nil (Xa (wpo_loadn (vs := [vi 0, vi 0, vi 0, vi 0, vi 0, .slice none 0 0, .slice none 0 0, vi 0]) Xw Z Z (bg.blk.rangeL 0 8 Z) Z (wpo_storen (vs := [vi 0, vi 0, vi 0, vi 0, vi 0, .slice none 0 0, .slice none 0 0, vi 0]) (cs' := #[vi 0, vi 0, vi 0, vi 0, vi 0, .slice none 0 0, .slice none 0 0, vi 0]) Xw Z Z Z (by simp [Value.oneCell']) ((dn.grown0 ai.grw).gn bg.grw) (Nat.le_of_ble_eq_true Z) Z ?_))))
 intro fw bk
 refine wpo_nil (Xk ?_)
 have hv : viewTh q.t l = Th.zero := Pw aq ap
 rw [hv]
 refine ⟨.agg #[vi 0, vi 0, vi 0, vi 0, vi 0, .slice none 0 0, .slice none 0 0, vi 0], resC Z (resCell_mk (vs := [vi 0, vi 0, vi 0, vi 0, vi 0, .slice none 0 0, .slice none 0 0, vi 0]) Xw Z Z (bk.blk.rangeL 0 8 Z)), none, 0, none, 0, Z, OwnN.nil, OwnN.nil, (low1 (low1 (low0 br ai.grw) bg.grw (by omega)) bk.grw (by omega))⟩
end Go.Dw.J
end
section
namespace Go.Dw.J
open Go.RowKit Go.Dw Go.Proofs
set_option linter.unusedSectionVars false
set_option maxRecDepth 100000
set_option maxHeartbeats 4000000
set_option linter.unusedSimpArgs false
set_option linter.unusedVariables false
theorem El : goFn Try.prog 109 = true := by kernel_rfl
theorem Em : goFn Try.prog 110 = true := by kernel_rfl
theorem Dy : goFn Try.prog 15 = true := by kernel_rfl
theorem D0 : goFn Try.prog 36 = true := by kernel_rfl
theorem D4 : goFn Try.prog 70 = true := by kernel_rfl
theorem Gg : goFn Try.prog 93 = true := by kernel_rfl
theorem Ri [Comp] (k to : Int) (p : Int) (hp : 0 ≤ p ∧ p ≤ 1000000000000) (lo R : Nat) (bs : List Int) (a : Option Addr) (c : Nat) (w : World) (hR : Blk w R 97 #[.slice a bs.length c, vi p]) (hlo : lo ≤ R) (hs : SlLt lo w a 1 (bs.map bcell)) (hb : ∀ b ∈ bs, 0 ≤ b ∧ b ≤ 255) (hn : bs.length ≤ 1048576) : CallsR Try.prog 109 #[pt R 0, vi k, vi to] w (fun v w' => ∃ (m : MTh) (p' : Int), v = .agg #[vi m.t.kind, vi m.t.lab.s, vi m.t.lab.v, vi m.t.ve, vi m.t.num, .slice m.sa m.t.slots.length m.sc, .slice m.qa m.t.queue.length m.qc, vi m.t.to] ∧ RowD 74 3 w.heap.size w' m ∧ p ≤ p' ∧ p' ≤ p + 12 ∧ Blk w' R 97 #[.slice a bs.length c, vi p'] ∧ w.grownBy w' (some R)) := by
 refine Xq (n := 59) Try.func109 Z Try.ntmps109 Z ?_
 have tn := World.grownBy.refl w (some R)
 have hRlt := hR.lt
 refine Xa (wpo_alloc (cs := #[vi 0, vi 0, vi 0, vi 0, vi 0, .slice none 0 0, .slice none 0 0, vi 0]) Q1 Z Z ?_)
 intro bg xh bt
 have ul := Xy bt tn
 have qo := Xn bt (hR).lt
 have jc := low0 tn bt.grw
 refine wpo_nil (Xa (wpo_move (v := vi k) Z Z (wpo_move (v := pt R 0) Z Z (Xg D0 (Xb Z Xf) Z (Hc p (by omega) _ R bs _ _ _ (hR.grown0 bt.grw) (by omega) (SlLt.low1 hs jc hlo) (by first | exact hb | exact fun b h => hb b (List.mem_of_mem_take h)) (by first | omega | (rw [List.length_take]; omega))) ?_))))
 rintro _ xi ⟨E, ak, rfl, v1, v2, v3, v4, vy, vz, cg, fp⟩
 have bu := Xe jc fp
 refine wpo_move (v := vi to) Z Z ?_
 rcases X1 ((decide (k = 2)) || (decide (k = 3))) with br | br
 rcases X1 (newOk k E to) with ik | ik
 have jz := (bt.blk.gn fp)
 have wb : thingOk (⟨k, E, 0, 0, zeros4, [], to⟩ : Th) = true := (Kz br).symm.trans ik
 refine Xg Gg (Xb Z (Xb Z (Xb Z Xf))) Z (Wo k to E br ik _) ?_
 rintro _ xj ⟨ae, O, al, ab, rfl, ib, dt, ic, du, mb, iv⟩
 have jd := low0 bu iv
 have eu := nt bu.size ib
 have qq := nl (cg).lt ib
 have kh := nl (jz).lt ib
 have ew := nt bu.size ic
 have qr := nl (cg).lt ic
 have ki := nl (jz).lt ic
 refine wpo_move (v := .tuple #[.agg #[vi k, vi E.s, vi E.v, vi 0, vi 0, .slice (pa ae) 4 O, .slice (pa al) 0 ab, vi to], vb true]) Z Z (wpo_extract (v := .agg #[vi k, vi E.s, vi E.v, vi 0, vi 0, .slice (pa ae) 4 O, .slice (pa al) 0 ab, vi to]) Z Z Z (wpo_extract (v := vb true) Z Z Z (wpo_alloc (cs := #[vi 0, vi 0, vi 0, vi 0, vi 0, .slice none 0 0, .slice none 0 0, vi 0]) Q1 Z Z ?_)))
 intro ex xk af
 have um := Xy af jd
 have gv := (cg.grown0 iv)
 have qw := Xn af (gv).lt
 have gw := (jz.grown0 iv)
 have kl := Xn af (gw).lt
 have lh := Xn af (du).lt
 have lc := Xn af (dt).lt
 refine wpo_storen (vs := [vi k, vi E.s, vi E.v, vi 0, vi 0, .slice (pa ae) 4 O, .slice (pa al) 0 ab, vi to]) (cs' := #[vi k, vi E.s, vi E.v, vi 0, vi 0, .slice (pa ae) 4 O, .slice (pa al) 0 ab, vi to]) Xw Z Z Z (by simp [Value.oneCell']) af.blk (Nat.le_of_ble_eq_true Z) Z ?_
 intro xl ac
 have be := low1 (low0 jd af.grw) ac.grw (by omega)
 refine wpo_assign (v := vb true) Z Z (wpo_nil (Xi (Xa (wpo_fieldAddr (o' := 0) X8 Z Z Z (wpo_load1 (v := vi k) X0 Z (ac.blk.cell Z) Z (wpo_eql (q := decide (k = 0)) Z Z Z Z (wpo_nil (Xs Z (fun i3 => ?_) (fun i3 => ?_)))))))))
 have wc := of_decide_eq_true i3
 refine Xo (wpo_build (ps := []) (v := .agg #[vi 0, vi 0]) Xv (fun _ => by kernel_rfl) Z ?_)
 have j1 := ((gv.grown0 af.grw).gn ac.grw)
 have j2 := ((gw.grown0 af.grw).gn ac.grw)
 have nu := ((du.grown0 af.grw).gn ac.grw)
 have nw := ((dt.grown0 af.grw).gn ac.grw)
 have wd : thingOk (⟨1, ⟨0, 0⟩, 0, 0, [], [], 0⟩ : Th) = true := (Jr (by decide)).symm.trans (by decide)
 refine Xg Gg (Xb Z (Xb Z (Xb Z Xf))) Z (Jp 1 0 ⟨0, 0⟩ (by decide) (by decide) _) ?_
 rintro _ xm ⟨bh, ao, bi, ap, rfl, cj, ox, ck, oy, mf, g7⟩
 have mt := nt be.size cj
 have qx := nl (j1).lt cj
 have km := nl (j2).lt cj
 have li := nl (nu).lt cj
 have ld := nl (nw).lt cj
 have lk := nl (ac.blk).lt cj
 have mu := nt be.size ck
 have qy := nl (j1).lt ck
 have ko := nl (j2).lt ck
 have lj := nl (nu).lt ck
 have lf := nl (nw).lt ck
 have ll := nl (ac.blk).lt ck
 refine wpo_move (v := .tuple #[.agg #[vi 1, vi 0, vi 0, vi 0, vi 0, .slice (pa bh) 0 ao, .slice (pa bi) 0 ap, vi 0], vb true]) Z Z (wpo_extract (v := .agg #[vi 1, vi 0, vi 0, vi 0, vi 0, .slice (pa bh) 0 ao, .slice (pa bi) 0 ap, vi 0]) Z Z Z (wpo_extract (v := vb true) Z Z Z (wpo_storen (vs := [vi 1, vi 0, vi 0, vi 0, vi 0, .slice (pa bh) 0 ao, .slice (pa bi) 0 ap, vi 0]) (cs' := #[vi 1, vi 0, vi 0, vi 0, vi 0, .slice (pa bh) 0 ao, .slice (pa bi) 0 ap, vi 0]) Xw Z Z Z (by simp [Value.oneCell']) (ac.blk.grown0 g7) (Nat.le_of_ble_eq_true Z) Z ?_)))
 intro xn cw
 have je := low1 (low0 be g7) cw.grw (by omega)
 refine wpo_nil (Xr (Xi (Xa (wpo_fieldAddr (o' := 0) X8 Z Z Z (wpo_load1 (v := vi 1) X0 Z (cw.blk.cell Z) Z (wpo_nil (Xu (Xa (wpo_eql (q := true) Z Z (by decide) Z (wpo_assign (v := vb true) Z Z (wpo_nil (X4 Z Z ?_))))))))))))
 refine Xa (wpo_move (v := pt R 0) Z Z (Xg Y7 (Xb Z (Xb Z Xf)) Z (Yi ak 20 (by omega) _ R bs _ _ _ ((j1.grown0 g7).gn cw.grw) (by omega) (SlLt.low1 hs je hlo) (by first | exact hb | exact fun b h => hb b (List.mem_of_mem_take h)) (by first | omega | (rw [List.length_take]; omega))) ?_))
 rintro _ xo ⟨dk, rfl, uw, ux, pp, fq⟩
 refine wpo_fieldAddr (o' := 4) Jg Z Z Z (wpo_store1 (v := vi dk) (cs' := #[vi 1, vi 0, vi 0, vi 0, vi dk, .slice (pa bh) 0 ao, .slice (pa bi) 0 ap, vi 0]) X0 Z Z Z (cw.blk.gn fq) (Nat.le_of_ble_eq_true Z) Z ?_)
 intro xp dv
 have jf := low1 (Xe je fq) dv.grw (by omega)
 refine wpo_nil (Xo (wpo_move (v := pt R 0) Z Z (Xg Y7 (Xb Z (Xb Z Xf)) Z (Yi (ak + 1) 3 (by omega) _ R bs _ _ _ (pp.gn dv.grw) (by omega) (SlLt.low1 hs jf hlo) (by first | exact hb | exact fun b h => hb b (List.mem_of_mem_take h)) (by first | omega | (rw [List.length_take]; omega))) ?_)))
 rintro _ xq ⟨bw, rfl, uy, uz, pq, ft⟩
 refine wpo_quo (c := bw / 2) Z Z (by omega) (by omega) (by omega) Z Z (wpo_fieldAddr (o' := 3) Q2 Z Z Z (wpo_store1 (v := vi (bw / 2)) (cs' := #[vi 1, vi 0, vi 0, vi (bw / 2), vi dk, .slice (pa bh) 0 ao, .slice (pa bi) 0 ap, vi 0]) X0 Z Z Z (dv.blk.gn ft) (Nat.le_of_ble_eq_true Z) Z ?_))
 intro xu dw
 refine wpo_nil (Y1 (Xr (Xa (wpo_loadn (vs := [vi 1, vi 0, vi 0, vi (bw / 2), vi dk, .slice (pa bh) 0 ao, .slice (pa bi) 0 ap, vi 0]) Xw Z Z (dw.blk.rangeL 0 8 Z) Z (wpo_storen (vs := [vi 1, vi 0, vi 0, vi (bw / 2), vi dk, .slice (pa bh) 0 ao, .slice (pa bi) 0 ap, vi 0]) (cs' := #[vi 1, vi 0, vi 0, vi (bw / 2), vi dk, .slice (pa bh) 0 ao, .slice (pa bi) 0 ap, vi 0]) Xw Z Z Z (by simp [Value.oneCell']) ((((((j2.grown0 g7).gn cw.grw).gn fq).gn dv.grw).gn ft).gn dw.grw) (Nat.le_of_ble_eq_true Z) Z ?_)))))
 intro xv fb
 refine wpo_nil (Xk (⟨.agg #[vi 1, vi 0, vi 0, vi (bw / 2), vi dk, .slice (pa bh) 0 ao, .slice (pa bi) 0 ap, vi 0], resC Z (resCell_mk (vs := [vi 1, vi 0, vi 0, vi (bw / 2), vi dk, .slice (pa bh) 0 ao, .slice (pa bi) 0 ap, vi 0]) Xw Z Z (fb.blk.rangeL 0 8 Z)), ⟨⟨1, ⟨0, 0⟩, bw / 2, dk, ([] : List Rt), ([] : List Int), 0⟩, some ⟨bh, 0, none⟩, ao, some ⟨bi, 0, none⟩, ap⟩, (ak + 1 + 1), Z, ⟨OwnN.of ((((((oy.gn cw.grw).gn fq).gn dv.grw).gn ft).gn dw.grw).gn fb.grw) mu, ⟨([] : List Rt), OwnN.of ((((((ox.gn cw.grw).gn fq).gn dv.grw).gn ft).gn dw.grw).gn fb.grw) mt, Z, ?_⟩, ?_, ?_, ⟨show (0 : Int) ≤ bw / 2 by omega, show bw / 2 ≤ (1 : Int) by omega⟩⟩, by omega, by omega, ((pq.gn dw.grw).gn fb.grw), (low1 (low1 (Xe jf ft) dw.grw (by omega)) fb.grw (by omega))⟩))
 intro x hx; first | (simp [zeros4] at hx; subst hx; exact ⟨by decide, by decide, by decide, by decide⟩) | simp at hx
 · first | exact Nat.le_of_ble_eq_true rfl | omega | (simp only [List.length_nil]; omega)
 exact Nat.le_of_ble_eq_true Z
 have we := of_decide_eq_false i3
 refine Xl (Xr (Xi (Xa (wpo_fieldAddr (o' := 0) X8 Z Z Z (wpo_load1 (v := vi k) X0 Z (ac.blk.cell Z) Z (wpo_nil (Xu (Xa (wpo_eql (q := decide (k = 1)) Z Z Z Z (wpo_assign (v := vb (decide (k = 1))) Z Z (wpo_nil (Xs Z (fun i4 => ?_) (fun i4 => ?_)))))))))))))
 have wg := of_decide_eq_true i4
 refine Xa (wpo_move (v := pt R 0) Z Z (Xg Y7 (Xb Z (Xb Z Xf)) Z (Yi ak 20 (by omega) _ R bs _ _ _ ((gv.grown0 af.grw).gn ac.grw) (by omega) (SlLt.low1 hs be hlo) (by first | exact hb | exact fun b h => hb b (List.mem_of_mem_take h)) (by first | omega | (rw [List.length_take]; omega))) ?_))
 rintro _ xw ⟨dl, rfl, u0, u1, pu, fu⟩
 refine wpo_fieldAddr (o' := 4) Jg Z Z Z (wpo_store1 (v := vi dl) (cs' := #[vi k, vi E.s, vi E.v, vi 0, vi dl, .slice (pa ae) 4 O, .slice (pa al) 0 ab, vi to]) X0 Z Z Z (ac.blk.gn fu) (Nat.le_of_ble_eq_true Z) Z ?_)
 intro xx dx
 have jg := low1 (Xe be fu) dx.grw (by omega)
 refine wpo_nil (Xo (wpo_move (v := pt R 0) Z Z (Xg Y7 (Xb Z (Xb Z Xf)) Z (Yi (ak + 1) 3 (by omega) _ R bs _ _ _ (pu.gn dx.grw) (by omega) (SlLt.low1 hs jg hlo) (by first | exact hb | exact fun b h => hb b (List.mem_of_mem_take h)) (by first | omega | (rw [List.length_take]; omega))) ?_)))
 rintro _ xy ⟨bz, rfl, u3, u4, pw, fv⟩
 refine wpo_quo (c := bz / 2) Z Z (by omega) (by omega) (by omega) Z Z (wpo_fieldAddr (o' := 3) Q2 Z Z Z (wpo_store1 (v := vi (bz / 2)) (cs' := #[vi k, vi E.s, vi E.v, vi (bz / 2), vi dl, .slice (pa ae) 4 O, .slice (pa al) 0 ab, vi to]) X0 Z Z Z (dx.blk.gn fv) (Nat.le_of_ble_eq_true Z) Z ?_))
 intro xz dz
 refine wpo_nil (Y1 (Xr (Xa (wpo_loadn (vs := [vi k, vi E.s, vi E.v, vi (bz / 2), vi dl, .slice (pa ae) 4 O, .slice (pa al) 0 ab, vi to]) Xw Z Z (dz.blk.rangeL 0 8 Z) Z (wpo_storen (vs := [vi k, vi E.s, vi E.v, vi (bz / 2), vi dl, .slice (pa ae) 4 O, .slice (pa al) 0 ab, vi to]) (cs' := #[vi k, vi E.s, vi E.v, vi (bz / 2), vi dl, .slice (pa ae) 4 O, .slice (pa al) 0 ab, vi to]) Xw Z Z Z (by simp [Value.oneCell']) ((((((gw.grown0 af.grw).gn ac.grw).gn fu).gn dx.grw).gn fv).gn dz.grw) (Nat.le_of_ble_eq_true Z) Z ?_)))))
 intro x0 fc
 refine wpo_nil (Xk (⟨.agg #[vi k, vi E.s, vi E.v, vi (bz / 2), vi dl, .slice (pa ae) 4 O, .slice (pa al) 0 ab, vi to], resC Z (resCell_mk (vs := [vi k, vi E.s, vi E.v, vi (bz / 2), vi dl, .slice (pa ae) 4 O, .slice (pa al) 0 ab, vi to]) Xw Z Z (fc.blk.rangeL 0 8 Z)), ⟨⟨k, E, bz / 2, dl, zeros4, ([] : List Int), to⟩, some ⟨ae, 0, none⟩, O, some ⟨al, 0, none⟩, ab⟩, (ak + 1 + 1), Z, ⟨OwnN.of (((((((du.grown0 af.grw).gn ac.grw).gn fu).gn dx.grw).gn fv).gn dz.grw).gn fc.grw) ew, ⟨zeros4, OwnN.of (((((((dt.grown0 af.grw).gn ac.grw).gn fu).gn dx.grw).gn fv).gn dz.grw).gn fc.grw) eu, Z, ?_⟩, ?_, ?_, ⟨show (0 : Int) ≤ bz / 2 by omega, show bz / 2 ≤ (1 : Int) by omega⟩⟩, by omega, by omega, ((pw.gn dz.grw).gn fc.grw), (low1 (low1 (Xe jg fv) dz.grw (by omega)) fc.grw (by omega))⟩))
 intro x hx; first | (simp [zeros4] at hx; subst hx; exact ⟨by decide, by decide, by decide, by decide⟩) | simp at hx
 · first | exact Nat.le_of_ble_eq_true rfl | omega | (simp only [List.length_nil]; omega)
 exact Nat.le_of_ble_eq_true Z
 have wh := of_decide_eq_false i4
 refine Xa (wpo_eql (q := decide (k = 4)) Z Z Z Z (wpo_assign (v := vb (decide (k = 4))) Z Z (wpo_nil (Xs Z (fun i5 => ?_) (fun i5 => ?_)))))
 have wi := of_decide_eq_true i5
 refine Xa (wpo_move (v := pt R 0) Z Z (Xg Y7 (Xb Z (Xb Z Xf)) Z (Yi ak 4 (by omega) _ R bs _ _ _ ((gv.grown0 af.grw).gn ac.grw) (by omega) (SlLt.low1 hs be hlo) (by first | exact hb | exact fun b h => hb b (List.mem_of_mem_take h)) (by first | omega | (rw [List.length_take]; omega))) ?_))
 rintro _ x3 ⟨j3, rfl, u5, u6, px, fw⟩
 refine wpo_assign (v := vi j3) Z Z (wpo_nil (Xu (Yf (fun mm f' w' => ∃ (n : Int) (p1 : Int) (Bq : Nat) (cq : Nat) (ys : List Int), mm = n.toNat ∧ (0 ≤ n ∧ n ≤ 3) ∧ (ak + 1 ≤ p1 ∧ p1 ≤ (ak + 1) + 3 - n) ∧ (ys.length : Int) ≤ 3 - n ∧ Dw.Own w' Bq 3 1 cq ys.length (ys.flatMap icell) ∧ w.heap.size ≤ Bq ∧ R ≠ Bq ∧ bg ≠ Bq ∧ ae ≠ Bq ∧ ex ≠ Bq ∧ f' 9 = vi n ∧ f' 0 = pt R 0 ∧ f' 6 = pt bg 0 ∧ f' 7 = pt ex 0 ∧ w.grownBy w' (some R) ∧ Blk w' bg 35 #[vi 0, vi 0, vi 0, vi 0, vi 0, .slice none 0 0, .slice none 0 0, vi 0] ∧ Dw.Own w' ae 74 5 O zeros4.length (zeros4.flatMap Rt.cells) ∧ Blk w' ex 35 #[vi k, vi E.s, vi E.v, vi 0, vi 0, .slice (pa ae) 4 O, .slice (pa Bq) ys.length cq, vi to] ∧ Blk w' R 97 #[.slice a bs.length c, vi p1]) (j3.toNat) ⟨j3, (ak + 1), al, ab, ([] : List Int), Z, (by omega), (by omega), (by simp only [List.length_nil]; omega), (((du.grown0 af.grw).gn ac.grw).gn fw), ew, (by omega), (by omega), (by omega), (by omega), Z, Z, Z, Z, (Xe be fw), (((gw.grown0 af.grw).gn ac.grw).gn fw), (((dt.grown0 af.grw).gn ac.grw).gn fw), (ac.blk.gn fw), px⟩ ?_)))
 rintro mm v9 ov ⟨n, p1, Bq, cq, ys, vw, hnn, hpp, hyl, hOwn, hlBq, tu, tv, tw, tx, nb, rn, i1, nc, gz, j4, j5, iz, nx⟩
 refine Xi (Xa (wpo_move (v := vi n) nb Z (wpo_gtr (q := decide (0 < n)) Z Z Z Z (wpo_nil (Xs Z (fun i6 => ?_) (fun i6 => ?_))))))
 have wj := of_decide_eq_true i6
 refine Xl (Xr (Xi (Xu (J1 (m := 5) [[], [0], [], [2], [2, 3], [0, 1, 2, 3, 4], [0, 1, 2, 3, 4, 5], [0, 1, 2, 3, 4, 5, 6]] (fun S F w' => ∃ (am : Int) (az : Nat), ov.grownBy w' (some R) ∧ F 0 = pt R 0 ∧ F 6 = pt bg 0 ∧ F 7 = pt ex 0 ∧ F 9 = vi n ∧ (S 3 = false → Blk w' R 97 #[.slice a bs.length c, vi p1]) ∧ (S 3 = true → F 48 = vi am ∧ 0 ≤ am ∧ (am < 20 ∨ am = 0) ∧ Blk w' R 97 #[.slice a bs.length c, vi (p1 + 1)]) ∧ (S 4 = true → F 49 = .slice (pa az) 1 1 ∧ w.heap.size ≤ az ∧ Blk w' az 3 (([am] : List Int).flatMap icell).toArray ∧ bg < az ∧ ae < az ∧ ex < az ∧ R < az ∧ Bq < az ∧ ov.heap.size ≤ az) ∧ Vals S F [(0, 45, pt ex 6), (1, 46, .slice (pa Bq) ys.length cq), (2, 47, pt R 0)]) Q4 (by kernel_rfl) ⟨0, 0, X5 _, rn, i1, nc, nb, fun _ => (nx).grown0 (X5 _), X6, X6, U2 _⟩ ?_ ?_))))
 refine Xp (fun S F x4 hS hbef hcl hI => ?_) ?_
 obtain ⟨am, az, pb, rp, rq, nd, rr, c_old_R, ba, bq, hvs⟩ := hI
 exact wpo_fieldAddr (o' := 6) Qt nd Z Z (wpo_nil ⟨am, az, pb, rp, rq, nd, rr, fun h => c_old_R h, ba, bq, Vals.up 0 hvs Z Z Z⟩)
 refine Xp (fun S F x5 hS hbef hcl hI => ?_) ?_
 obtain ⟨am, az, ju, ru, rx, ry, rz, c_old_R, ba, bq, hvs⟩ := hI
 exact wpo_load1 (v := .slice (pa Bq) ys.length cq) J0 (Vals.at 0 hvs Z (Xj 0 hbef Z)) ((iz.gn ju).cell Z) Z (wpo_nil ⟨am, az, ju, ru, rx, ry, rz, fun h => c_old_R h, ba, bq, Vals.up 1 hvs Z Z Z⟩)
 refine Xp (fun S F x6 hS hbef hcl hI => ?_) ?_
 obtain ⟨am, az, pc, nf, r1, r2, r3, c_old_R, ba, bq, hvs⟩ := hI
 exact wpo_move (v := pt R 0) nf Z (wpo_nil ⟨am, az, pc, nf, r1, r2, r3, fun h => c_old_R h, Xh 3 hS hcl Z, Xh 4 hS hcl Z, Vals.up 2 hvs Z Z Z⟩)
 refine Xp (fun S F x7 hS hbef hcl hI => ?_) ?_
 obtain ⟨am, az, jv, r4, r5, r6, r7, c_old_R, ba, bq, hvs⟩ := hI
 refine Xg Y7 (Xb (Vals.at 2 hvs Z (Xj 2 hbef Z)) (Xb Z Xf)) Z (Yi p1 20 (by omega) _ R bs _ _ _ (c_old_R hS) (by omega) (SlLt.low1 hs (Xe gz jv) hlo) (by first | exact hb | exact fun b h => hb b (List.mem_of_mem_take h)) (by first | omega | (rw [List.length_take]; omega))) ?_
 rintro _ x8 ⟨tz, rfl, pj, pk, py, o8⟩
 exact wpo_nil ⟨tz, az, (Xe jv o8), r4, r5, r6, r7, fun h => Q0 h, fun _ => ⟨Z, pj, pk, py⟩, Xh 4 hS hcl Z, Vals.keep hvs Z⟩
 refine Xp (fun S F x9 hS hbef hcl hI => ?_) ?_
 obtain ⟨am, az, dc, r8, r9, sb, sd, c_old_R, ba, bq, hvs⟩ := hI
 obtain ⟨se, pg, pi, bf⟩ := ba (Xj 3 hbef rfl)
 refine wpo_buildSlice (ps := [(0, vi am)]) (e := 3) (cs := (([am] : List Int).flatMap icell).toArray) (Xm se Xv) (fun _ => by kernel_rfl) Z ?_
 intro rl ya bc
 have mv := Xy bc (Xe gz dc)
 have gm := Xn bc ((j4.gn dc)).lt
 have gq := Xn bc ((j5.gn dc)).lt
 have gr := Xn bc ((iz.gn dc)).lt
 have ir := Xn bc ((hOwn.gn dc)).lt
 have q1 := Xn bc (bf).lt
 exact wpo_nil ⟨am, rl, (low0 dc bc.grw), r8, r9, sb, sd, fun hn => Q0 ((Xj 3 hbef Z).symm.trans hn), fun h => let ⟨uc, ud, ue, uf⟩ := ba h; ⟨uc, ud, ue, (uf).grown0 bc.grw⟩, fun _ => ⟨Z, mv, bc.blk, gm, gq, gr, (by omega), ir, (nt dc.size bc.ge)⟩, Vals.keep hvs Z⟩
 exact Ka
 intro S F yb hall hI
 obtain ⟨am, az, gj, sf, sg, ng, si, c_old_R, ba, bq, hvs⟩ := hI
 have jh := Xe gz gj
 obtain ⟨v7, pg, pi, bf⟩ := ba (hall 3 (by decide))
 obtain ⟨sk, un, ip, kp, lg, lm, qz, ot, tq⟩ := bq (hall 4 (by decide))
 have ny := (j4.gn gj)
 have nz := (j5.gn gj)
 have n5 := (iz.gn gj)
 refine wpo_append (g := icell) (ys := ys) (zs := ([am] : List Int)) N6 Z Yc (by omega) Vw (Vals.at 1 hvs Z (hall 1 (by decide))) sk (hOwn.gn gj) (Q9 Yc ip) (by simp only [List.length_cons, List.length_nil]; omega) (by omega) Z ?_
 intro dh gx yc oz fx m9
 have mw : w.heap.size ≤ dh := by rcases m9 with h | h; (rw [h]; exact hlBq); exact nt jh.size h
 have l9 : bg ≠ dh := by have h := (ny).lt; omega
 have mc : ae ≠ dh := by have h := (nz).lt; omega
 have me : ex ≠ dh := by have h := (n5).lt; omega
 have rj : R ≠ dh := by have h := (bf).lt; omega
 have mg : az ≠ dh := by have h := (ip).lt; omega
 refine wpo_fieldAddr (o' := 6) Qt ng Z Z (wpo_store1 (v := .slice (pa dh) (ys ++ ([am] : List Int)).length gx) (cs' := #[vi k, vi E.s, vi E.v, vi 0, vi 0, .slice (pa ae) 4 O, .slice (pa dh) (ys ++ ([am] : List Int)).length gx, vi to]) J0 Z Z Z (n5.gn fx) (Nat.le_of_ble_eq_true Z) Z ?_)
 intro yd d0
 exact wpo_nil (Y1 (Xr (Xo (wpo_move (v := vi n) si Z (wpo_sub (c := n - 1) Z Z (by omega) (by omega) (by omega) Z (wpo_assign (v := vi (n - 1)) Z Z (wpo_nil (Xr (⟨(n - 1).toNat, by omega, (n - 1), (p1 + 1), dh, gx, (ys ++ ([am] : List Int)), Z, (by omega), (by omega), (by simp only [List.length_append, List.length_cons, List.length_nil]; omega), (oz.gn d0.grw), mw, (by omega), (by omega), (by omega), (by omega), Z, sf, sg, ng, (low1 (low1 jh fx (by omega)) d0.grw (by omega)), ((ny.gn fx).gn d0.grw), ((nz.gn fx).gn d0.grw), d0.blk, ((bf.gn fx).gn d0.grw)⟩)))))))))
 have wl := of_decide_eq_false i6
 refine Yn (Yx (Yx (Jk (Y1 (Xr (Xa (wpo_loadn (vs := [vi k, vi E.s, vi E.v, vi 0, vi 0, .slice (pa ae) 4 O, .slice (pa Bq) ys.length cq, vi to]) Xw nc Z (iz.rangeL 0 8 Z) Z (wpo_storen (vs := [vi k, vi E.s, vi E.v, vi 0, vi 0, .slice (pa ae) 4 O, .slice (pa Bq) ys.length cq, vi to]) (cs' := #[vi k, vi E.s, vi E.v, vi 0, vi 0, .slice (pa ae) 4 O, .slice (pa Bq) ys.length cq, vi to]) Xw i1 Z Z (by simp [Value.oneCell']) j4 (Nat.le_of_ble_eq_true Z) Z ?_))))))))
 intro ye fd
 refine wpo_nil (Xk (⟨.agg #[vi k, vi E.s, vi E.v, vi 0, vi 0, .slice (pa ae) 4 O, .slice (pa Bq) ys.length cq, vi to], resC Z (resCell_mk (vs := [vi k, vi E.s, vi E.v, vi 0, vi 0, .slice (pa ae) 4 O, .slice (pa Bq) ys.length cq, vi to]) Xw i1 Z (fd.blk.rangeL 0 8 Z)), ⟨⟨k, E, 0, 0, zeros4, ys, to⟩, some ⟨ae, 0, none⟩, O, some ⟨Bq, 0, none⟩, cq⟩, p1, Z, ⟨OwnN.of (hOwn.gn fd.grw) hlBq, ⟨zeros4, OwnN.of (j5.gn fd.grw) eu, Z, ?_⟩, ?_, ?_, ⟨show (0 : Int) ≤ 0 by omega, show 0 ≤ (1 : Int) by omega⟩⟩, by omega, by omega, (nx.gn fd.grw), (low1 gz fd.grw (by omega))⟩))
 intro x hx; first | (simp [zeros4] at hx; subst hx; exact ⟨by decide, by decide, by decide, by decide⟩) | simp at hx
 · first | exact Nat.le_of_ble_eq_true rfl | omega | (simp only [List.length_nil]; omega)
 exact Nat.le_of_ble_eq_true Z
 have wm := of_decide_eq_false i5
 refine Xa (wpo_eql (q := decide (k = 3)) Z Z Z Z (wpo_assign (v := vb (decide (k = 3))) Z Z (wpo_nil (Xs Z (fun i7 => ?_) (fun i7 => ?_)))))
 have wn := of_decide_eq_true i7
 refine Xo (wpo_move (v := pt R 0) Z Z (Xg Y7 (Xb Z (Xb Z Xf)) Z (Yi ak 24 (by omega) _ R bs _ _ _ ((gv.grown0 af.grw).gn ac.grw) (by omega) (SlLt.low1 hs be hlo) (by first | exact hb | exact fun b h => hb b (List.mem_of_mem_take h)) (by first | omega | (rw [List.length_take]; omega))) ?_))
 rintro _ yf ⟨dm, rfl, u7, u9, p0, fy⟩
 refine wpo_sub (c := dm - 4) Z Z (by omega) (by omega) (by omega) Z (wpo_fieldAddr (o' := 4) Jg Z Z Z (wpo_store1 (v := vi (dm - 4)) (cs' := #[vi k, vi E.s, vi E.v, vi 0, vi (dm - 4), .slice (pa ae) 4 O, .slice (pa al) 0 ab, vi to]) X0 Z Z Z (ac.blk.gn fy) (Nat.le_of_ble_eq_true Z) Z ?_))
 intro yg d5
 refine wpo_nil (Y1 (Xr (Xa (wpo_loadn (vs := [vi k, vi E.s, vi E.v, vi 0, vi (dm - 4), .slice (pa ae) 4 O, .slice (pa al) 0 ab, vi to]) Xw Z Z (d5.blk.rangeL 0 8 Z) Z (wpo_storen (vs := [vi k, vi E.s, vi E.v, vi 0, vi (dm - 4), .slice (pa ae) 4 O, .slice (pa al) 0 ab, vi to]) (cs' := #[vi k, vi E.s, vi E.v, vi 0, vi (dm - 4), .slice (pa ae) 4 O, .slice (pa al) 0 ab, vi to]) Xw Z Z Z (by simp [Value.oneCell']) ((((gw.grown0 af.grw).gn ac.grw).gn fy).gn d5.grw) (Nat.le_of_ble_eq_true Z) Z ?_)))))
 intro yh fe
 refine wpo_nil (Xk (⟨.agg #[vi k, vi E.s, vi E.v, vi 0, vi (dm - 4), .slice (pa ae) 4 O, .slice (pa al) 0 ab, vi to], resC Z (resCell_mk (vs := [vi k, vi E.s, vi E.v, vi 0, vi (dm - 4), .slice (pa ae) 4 O, .slice (pa al) 0 ab, vi to]) Xw Z Z (fe.blk.rangeL 0 8 Z)), ⟨⟨k, E, 0, dm - 4, zeros4, ([] : List Int), to⟩, some ⟨ae, 0, none⟩, O, some ⟨al, 0, none⟩, ab⟩, (ak + 1), Z, ⟨OwnN.of (((((du.grown0 af.grw).gn ac.grw).gn fy).gn d5.grw).gn fe.grw) ew, ⟨zeros4, OwnN.of (((((dt.grown0 af.grw).gn ac.grw).gn fy).gn d5.grw).gn fe.grw) eu, Z, ?_⟩, ?_, ?_, ⟨show (0 : Int) ≤ 0 by omega, show 0 ≤ (1 : Int) by omega⟩⟩, by omega, by omega, ((p0.gn d5.grw).gn fe.grw), (low1 (low1 (Xe be fy) d5.grw (by omega)) fe.grw (by omega))⟩))
 intro x hx; first | (simp [zeros4] at hx; subst hx; exact ⟨by decide, by decide, by decide, by decide⟩) | simp at hx
 · first | exact Nat.le_of_ble_eq_true rfl | omega | (simp only [List.length_nil]; omega)
 exact Nat.le_of_ble_eq_true Z
 have wo := of_decide_eq_false i7
 refine Xl (Y1 (Xr (Xa (wpo_loadn (vs := [vi k, vi E.s, vi E.v, vi 0, vi 0, .slice (pa ae) 4 O, .slice (pa al) 0 ab, vi to]) Xw Z Z (ac.blk.rangeL 0 8 Z) Z (wpo_storen (vs := [vi k, vi E.s, vi E.v, vi 0, vi 0, .slice (pa ae) 4 O, .slice (pa al) 0 ab, vi to]) (cs' := #[vi k, vi E.s, vi E.v, vi 0, vi 0, .slice (pa ae) 4 O, .slice (pa al) 0 ab, vi to]) Xw Z Z Z (by simp [Value.oneCell']) ((gw.grown0 af.grw).gn ac.grw) (Nat.le_of_ble_eq_true Z) Z ?_)))))
 intro yi ff
 refine wpo_nil (Xk (⟨.agg #[vi k, vi E.s, vi E.v, vi 0, vi 0, .slice (pa ae) 4 O, .slice (pa al) 0 ab, vi to], resC Z (resCell_mk (vs := [vi k, vi E.s, vi E.v, vi 0, vi 0, .slice (pa ae) 4 O, .slice (pa al) 0 ab, vi to]) Xw Z Z (ff.blk.rangeL 0 8 Z)), ⟨⟨k, E, 0, 0, zeros4, ([] : List Int), to⟩, some ⟨ae, 0, none⟩, O, some ⟨al, 0, none⟩, ab⟩, ak, Z, ⟨OwnN.of (((du.grown0 af.grw).gn ac.grw).gn ff.grw) ew, ⟨zeros4, OwnN.of (((dt.grown0 af.grw).gn ac.grw).gn ff.grw) eu, Z, ?_⟩, ?_, ?_, ⟨show (0 : Int) ≤ 0 by omega, show 0 ≤ (1 : Int) by omega⟩⟩, by omega, by omega, (((gv.grown0 af.grw).gn ac.grw).gn ff.grw), (low1 be ff.grw (by omega))⟩))
 intro x hx; first | (simp [zeros4] at hx; subst hx; exact ⟨by decide, by decide, by decide, by decide⟩) | simp at hx
 · first | exact Nat.le_of_ble_eq_true rfl | omega | (simp only [List.length_nil]; omega)
 exact Nat.le_of_ble_eq_true Z
 have wq : thingOk (⟨k, E, 0, 0, zeros4, [], to⟩ : Th) = false := (Kz br).symm.trans ik
 refine Xg Gg (Xb Z (Xb Z (Xb Z Xf))) Z (Wn k to E br ik _) ?_
 rintro _ yj ⟨rfl, iw⟩
 have ji := low0 bu iw
 refine wpo_move (v := .tuple #[.agg #[vi 0, vi 0, vi 0, vi 0, vi 0, .slice none 0 0, .slice none 0 0, vi 0], vb false]) Z Z (wpo_extract (v := .agg #[vi 0, vi 0, vi 0, vi 0, vi 0, .slice none 0 0, .slice none 0 0, vi 0]) Z Z Z (wpo_extract (v := vb false) Z Z Z (wpo_alloc (cs := #[vi 0, vi 0, vi 0, vi 0, vi 0, .slice none 0 0, .slice none 0 0, vi 0]) Q1 Z Z ?_)))
 intro v5 ym cn
 have uo := Xy cn ji
 have n7 := (cg.grown0 iw)
 have q2 := Xn cn (n7).lt
 have n8 := ((bt.blk.gn fp).grown0 iw)
 have kq := Xn cn (n8).lt
 refine wpo_storen (vs := [vi 0, vi 0, vi 0, vi 0, vi 0, .slice none 0 0, .slice none 0 0, vi 0]) (cs' := #[vi 0, vi 0, vi 0, vi 0, vi 0, .slice none 0 0, .slice none 0 0, vi 0]) Xw Z Z Z (by simp [Value.oneCell']) cn.blk (Nat.le_of_ble_eq_true Z) Z ?_
 intro yn cx
 have it := low1 (low0 ji cn.grw) cx.grw (by omega)
 refine wpo_assign (v := vb false) Z Z (wpo_nil (Xi (Xa (wpo_fieldAddr (o' := 0) X8 Z Z Z (wpo_load1 (v := vi 0) X0 Z (cx.blk.cell Z) Z (wpo_eql (q := true) Z Z (by decide) Z (wpo_nil (X4 Z Z (Xo (wpo_build (ps := []) (v := .agg #[vi 0, vi 0]) Xv (fun _ => by kernel_rfl) Z ?_))))))))))
 have j6 := ((n7.grown0 cn.grw).gn cx.grw)
 have j7 := ((n8.grown0 cn.grw).gn cx.grw)
 have ws : thingOk (⟨1, ⟨0, 0⟩, 0, 0, [], [], 0⟩ : Th) = true := (Jr (by decide)).symm.trans (by decide)
 refine Xg Gg (Xb Z (Xb Z (Xb Z Xf))) Z (Jp 1 0 ⟨0, 0⟩ (by decide) (by decide) _) ?_
 rintro _ yo ⟨bj, aq, bk, ar, rfl, eh, o0, ei, o1, mh, g8⟩
 have my := nt it.size eh
 have q3 := nl (j6).lt eh
 have kr := nl (j7).lt eh
 have ln := nl (cx.blk).lt eh
 have mz := nt it.size ei
 have q4 := nl (j6).lt ei
 have ks := nl (j7).lt ei
 have lu := nl (cx.blk).lt ei
 refine wpo_move (v := .tuple #[.agg #[vi 1, vi 0, vi 0, vi 0, vi 0, .slice (pa bj) 0 aq, .slice (pa bk) 0 ar, vi 0], vb true]) Z Z (wpo_extract (v := .agg #[vi 1, vi 0, vi 0, vi 0, vi 0, .slice (pa bj) 0 aq, .slice (pa bk) 0 ar, vi 0]) Z Z Z (wpo_extract (v := vb true) Z Z Z (wpo_storen (vs := [vi 1, vi 0, vi 0, vi 0, vi 0, .slice (pa bj) 0 aq, .slice (pa bk) 0 ar, vi 0]) (cs' := #[vi 1, vi 0, vi 0, vi 0, vi 0, .slice (pa bj) 0 aq, .slice (pa bk) 0 ar, vi 0]) Xw Z Z Z (by simp [Value.oneCell']) (cx.blk.grown0 g8) (Nat.le_of_ble_eq_true Z) Z ?_)))
 intro yp cy
 have jj := low1 (low0 it g8) cy.grw (by omega)
 refine wpo_nil (Xr (Xi (Xa (wpo_fieldAddr (o' := 0) X8 Z Z Z (wpo_load1 (v := vi 1) X0 Z (cy.blk.cell Z) Z (wpo_nil (Xu (Xa (wpo_eql (q := true) Z Z (by decide) Z (wpo_assign (v := vb true) Z Z (wpo_nil (X4 Z Z ?_))))))))))))
 refine Xa (wpo_move (v := pt R 0) Z Z (Xg Y7 (Xb Z (Xb Z Xf)) Z (Yi ak 20 (by omega) _ R bs _ _ _ ((j6.grown0 g8).gn cy.grw) (by omega) (SlLt.low1 hs jj hlo) (by first | exact hb | exact fun b h => hb b (List.mem_of_mem_take h)) (by first | omega | (rw [List.length_take]; omega))) ?_))
 rintro _ yq ⟨dn, rfl, va, vc, p8, fz⟩
 refine wpo_fieldAddr (o' := 4) Jg Z Z Z (wpo_store1 (v := vi dn) (cs' := #[vi 1, vi 0, vi 0, vi 0, vi dn, .slice (pa bj) 0 aq, .slice (pa bk) 0 ar, vi 0]) X0 Z Z Z (cy.blk.gn fz) (Nat.le_of_ble_eq_true Z) Z ?_)
 intro yr d6
 have jk := low1 (Xe jj fz) d6.grw (by omega)
 refine wpo_nil (Xo (wpo_move (v := pt R 0) Z Z (Xg Y7 (Xb Z (Xb Z Xf)) Z (Yi (ak + 1) 3 (by omega) _ R bs _ _ _ (p8.gn d6.grw) (by omega) (SlLt.low1 hs jk hlo) (by first | exact hb | exact fun b h => hb b (List.mem_of_mem_take h)) (by first | omega | (rw [List.length_take]; omega))) ?_)))
 rintro _ yu ⟨ca, rfl, vd, vf, p9, f7⟩
 refine wpo_quo (c := ca / 2) Z Z (by omega) (by omega) (by omega) Z Z (wpo_fieldAddr (o' := 3) Q2 Z Z Z (wpo_store1 (v := vi (ca / 2)) (cs' := #[vi 1, vi 0, vi 0, vi (ca / 2), vi dn, .slice (pa bj) 0 aq, .slice (pa bk) 0 ar, vi 0]) X0 Z Z Z (d6.blk.gn f7) (Nat.le_of_ble_eq_true Z) Z ?_))
 intro yv d7
 refine wpo_nil (Y1 (Xr (Xa (wpo_loadn (vs := [vi 1, vi 0, vi 0, vi (ca / 2), vi dn, .slice (pa bj) 0 aq, .slice (pa bk) 0 ar, vi 0]) Xw Z Z (d7.blk.rangeL 0 8 Z) Z (wpo_storen (vs := [vi 1, vi 0, vi 0, vi (ca / 2), vi dn, .slice (pa bj) 0 aq, .slice (pa bk) 0 ar, vi 0]) (cs' := #[vi 1, vi 0, vi 0, vi (ca / 2), vi dn, .slice (pa bj) 0 aq, .slice (pa bk) 0 ar, vi 0]) Xw Z Z Z (by simp [Value.oneCell']) ((((((j7.grown0 g8).gn cy.grw).gn fz).gn d6.grw).gn f7).gn d7.grw) (Nat.le_of_ble_eq_true Z) Z ?_)))))
 intro yw fg
 refine wpo_nil (Xk (⟨.agg #[vi 1, vi 0, vi 0, vi (ca / 2), vi dn, .slice (pa bj) 0 aq, .slice (pa bk) 0 ar, vi 0], resC Z (resCell_mk (vs := [vi 1, vi 0, vi 0, vi (ca / 2), vi dn, .slice (pa bj) 0 aq, .slice (pa bk) 0 ar, vi 0]) Xw Z Z (fg.blk.rangeL 0 8 Z)), ⟨⟨1, ⟨0, 0⟩, ca / 2, dn, ([] : List Rt), ([] : List Int), 0⟩, some ⟨bj, 0, none⟩, aq, some ⟨bk, 0, none⟩, ar⟩, (ak + 1 + 1), Z, ⟨OwnN.of ((((((o1.gn cy.grw).gn fz).gn d6.grw).gn f7).gn d7.grw).gn fg.grw) mz, ⟨([] : List Rt), OwnN.of ((((((o0.gn cy.grw).gn fz).gn d6.grw).gn f7).gn d7.grw).gn fg.grw) my, Z, ?_⟩, ?_, ?_, ⟨show (0 : Int) ≤ ca / 2 by omega, show ca / 2 ≤ (1 : Int) by omega⟩⟩, by omega, by omega, ((p9.gn d7.grw).gn fg.grw), (low1 (low1 (Xe jk f7) d7.grw (by omega)) fg.grw (by omega))⟩))
 intro x hx; first | (simp [zeros4] at hx; subst hx; exact ⟨by decide, by decide, by decide, by decide⟩) | simp at hx
 · first | exact Nat.le_of_ble_eq_true rfl | omega | (simp only [List.length_nil]; omega)
 exact Nat.le_of_ble_eq_true Z
 have tl := J6 br
 have wu := of_decide_eq_false tl
 have nq := J7 br
 have wv := of_decide_eq_false nq
 rcases X1 (newOk k E to) with il | il
 have j8 := (bt.blk.gn fp)
 have ww : thingOk (⟨k, E, 0, 0, [], [], to⟩ : Th) = true := (Jr br).symm.trans il
 refine Xg Gg (Xb Z (Xb Z (Xb Z Xf))) Z (Jp k to E br il _) ?_
 rintro _ yx ⟨aj, V, a9, ah, rfl, ie, ez, ig, fa, ml, ix⟩
 have jl := low0 bu ix
 have ii := nt bu.size ie
 have q5 := nl (cg).lt ie
 have kt := nl (j8).lt ie
 have ij := nt bu.size ig
 have q6 := nl (cg).lt ig
 have ku := nl (j8).lt ig
 refine wpo_move (v := .tuple #[.agg #[vi k, vi E.s, vi E.v, vi 0, vi 0, .slice (pa aj) 0 V, .slice (pa a9) 0 ah, vi to], vb true]) Z Z (wpo_extract (v := .agg #[vi k, vi E.s, vi E.v, vi 0, vi 0, .slice (pa aj) 0 V, .slice (pa a9) 0 ah, vi to]) Z Z Z (wpo_extract (v := vb true) Z Z Z (wpo_alloc (cs := #[vi 0, vi 0, vi 0, vi 0, vi 0, .slice none 0 0, .slice none 0 0, vi 0]) Q1 Z Z ?_)))
 intro ey yy ai
 have ut := Xy ai jl
 have im := (cg.grown0 ix)
 have q7 := Xn ai (im).lt
 have io := (j8.grown0 ix)
 have kv := Xn ai (io).lt
 have lz := Xn ai (fa).lt
 have lv := Xn ai (ez).lt
 refine wpo_storen (vs := [vi k, vi E.s, vi E.v, vi 0, vi 0, .slice (pa aj) 0 V, .slice (pa a9) 0 ah, vi to]) (cs' := #[vi k, vi E.s, vi E.v, vi 0, vi 0, .slice (pa aj) 0 V, .slice (pa a9) 0 ah, vi to]) Xw Z Z Z (by simp [Value.oneCell']) ai.blk (Nat.le_of_ble_eq_true Z) Z ?_
 intro yz ag
 have bv := low1 (low0 jl ai.grw) ag.grw (by omega)
 refine wpo_assign (v := vb true) Z Z (wpo_nil (Xi (Xa (wpo_fieldAddr (o' := 0) X8 Z Z Z (wpo_load1 (v := vi k) X0 Z (ag.blk.cell Z) Z (wpo_eql (q := decide (k = 0)) Z Z Z Z (wpo_nil (Xs Z (fun i8 => ?_) (fun i8 => ?_)))))))))
 have wx := of_decide_eq_true i8
 refine Xo (wpo_build (ps := []) (v := .agg #[vi 0, vi 0]) Xv (fun _ => by kernel_rfl) Z ?_)
 have j9 := ((im.grown0 ai.grw).gn ag.grw)
 have ka := ((io.grown0 ai.grw).gn ag.grw)
 have n9 := ((fa.grown0 ai.grw).gn ag.grw)
 have oa := ((ez.grown0 ai.grw).gn ag.grw)
 have wy : thingOk (⟨1, ⟨0, 0⟩, 0, 0, [], [], 0⟩ : Th) = true := (Jr (by decide)).symm.trans (by decide)
 refine Xg Gg (Xb Z (Xb Z (Xb Z Xf))) Z (Jp 1 0 ⟨0, 0⟩ (by decide) (by decide) _) ?_
 rintro _ y3 ⟨bl, as, bm, au, rfl, cl, o3, cm, o4, mp, g9⟩
 have m3 := nt bv.size cl
 have q8 := nl (j9).lt cl
 have kw := nl (ka).lt cl
 have l0 := nl (n9).lt cl
 have lw := nl (oa).lt cl
 have l4 := nl (ag.blk).lt cl
 have m4 := nt bv.size cm
 have q9 := nl (j9).lt cm
 have kx := nl (ka).lt cm
 have l3 := nl (n9).lt cm
 have lx := nl (oa).lt cm
 have l5 := nl (ag.blk).lt cm
 refine wpo_move (v := .tuple #[.agg #[vi 1, vi 0, vi 0, vi 0, vi 0, .slice (pa bl) 0 as, .slice (pa bm) 0 au, vi 0], vb true]) Z Z (wpo_extract (v := .agg #[vi 1, vi 0, vi 0, vi 0, vi 0, .slice (pa bl) 0 as, .slice (pa bm) 0 au, vi 0]) Z Z Z (wpo_extract (v := vb true) Z Z Z (wpo_storen (vs := [vi 1, vi 0, vi 0, vi 0, vi 0, .slice (pa bl) 0 as, .slice (pa bm) 0 au, vi 0]) (cs' := #[vi 1, vi 0, vi 0, vi 0, vi 0, .slice (pa bl) 0 as, .slice (pa bm) 0 au, vi 0]) Xw Z Z Z (by simp [Value.oneCell']) (ag.blk.grown0 g9) (Nat.le_of_ble_eq_true Z) Z ?_)))
 intro y6 cz
 have jm := low1 (low0 bv g9) cz.grw (by omega)
 refine wpo_nil (Xr (Xi (Xa (wpo_fieldAddr (o' := 0) X8 Z Z Z (wpo_load1 (v := vi 1) X0 Z (cz.blk.cell Z) Z (wpo_nil (Xu (Xa (wpo_eql (q := true) Z Z (by decide) Z (wpo_assign (v := vb true) Z Z (wpo_nil (X4 Z Z ?_))))))))))))
 refine Xa (wpo_move (v := pt R 0) Z Z (Xg Y7 (Xb Z (Xb Z Xf)) Z (Yi ak 20 (by omega) _ R bs _ _ _ ((j9.grown0 g9).gn cz.grw) (by omega) (SlLt.low1 hs jm hlo) (by first | exact hb | exact fun b h => hb b (List.mem_of_mem_take h)) (by first | omega | (rw [List.length_take]; omega))) ?_))
 rintro _ y7 ⟨dp, rfl, vg, vh, qd, f8⟩
 refine wpo_fieldAddr (o' := 4) Jg Z Z Z (wpo_store1 (v := vi dp) (cs' := #[vi 1, vi 0, vi 0, vi 0, vi dp, .slice (pa bl) 0 as, .slice (pa bm) 0 au, vi 0]) X0 Z Z Z (cz.blk.gn f8) (Nat.le_of_ble_eq_true Z) Z ?_)
 intro y8 d8
 have jo := low1 (Xe jm f8) d8.grw (by omega)
 refine wpo_nil (Xo (wpo_move (v := pt R 0) Z Z (Xg Y7 (Xb Z (Xb Z Xf)) Z (Yi (ak + 1) 3 (by omega) _ R bs _ _ _ (qd.gn d8.grw) (by omega) (SlLt.low1 hs jo hlo) (by first | exact hb | exact fun b h => hb b (List.mem_of_mem_take h)) (by first | omega | (rw [List.length_take]; omega))) ?_)))
 rintro _ y9 ⟨cc, rfl, vj, vk, qe, f9⟩
 refine wpo_quo (c := cc / 2) Z Z (by omega) (by omega) (by omega) Z Z (wpo_fieldAddr (o' := 3) Q2 Z Z Z (wpo_store1 (v := vi (cc / 2)) (cs' := #[vi 1, vi 0, vi 0, vi (cc / 2), vi dp, .slice (pa bl) 0 as, .slice (pa bm) 0 au, vi 0]) X0 Z Z Z (d8.blk.gn f9) (Nat.le_of_ble_eq_true Z) Z ?_))
 intro za d9
 refine wpo_nil (Y1 (Xr (Xa (wpo_loadn (vs := [vi 1, vi 0, vi 0, vi (cc / 2), vi dp, .slice (pa bl) 0 as, .slice (pa bm) 0 au, vi 0]) Xw Z Z (d9.blk.rangeL 0 8 Z) Z (wpo_storen (vs := [vi 1, vi 0, vi 0, vi (cc / 2), vi dp, .slice (pa bl) 0 as, .slice (pa bm) 0 au, vi 0]) (cs' := #[vi 1, vi 0, vi 0, vi (cc / 2), vi dp, .slice (pa bl) 0 as, .slice (pa bm) 0 au, vi 0]) Xw Z Z Z (by simp [Value.oneCell']) ((((((ka.grown0 g9).gn cz.grw).gn f8).gn d8.grw).gn f9).gn d9.grw) (Nat.le_of_ble_eq_true Z) Z ?_)))))
 intro zb fh
 refine wpo_nil (Xk (⟨.agg #[vi 1, vi 0, vi 0, vi (cc / 2), vi dp, .slice (pa bl) 0 as, .slice (pa bm) 0 au, vi 0], resC Z (resCell_mk (vs := [vi 1, vi 0, vi 0, vi (cc / 2), vi dp, .slice (pa bl) 0 as, .slice (pa bm) 0 au, vi 0]) Xw Z Z (fh.blk.rangeL 0 8 Z)), ⟨⟨1, ⟨0, 0⟩, cc / 2, dp, ([] : List Rt), ([] : List Int), 0⟩, some ⟨bl, 0, none⟩, as, some ⟨bm, 0, none⟩, au⟩, (ak + 1 + 1), Z, ⟨OwnN.of ((((((o4.gn cz.grw).gn f8).gn d8.grw).gn f9).gn d9.grw).gn fh.grw) m4, ⟨([] : List Rt), OwnN.of ((((((o3.gn cz.grw).gn f8).gn d8.grw).gn f9).gn d9.grw).gn fh.grw) m3, Z, ?_⟩, ?_, ?_, ⟨show (0 : Int) ≤ cc / 2 by omega, show cc / 2 ≤ (1 : Int) by omega⟩⟩, by omega, by omega, ((qe.gn d9.grw).gn fh.grw), (low1 (low1 (Xe jo f9) d9.grw (by omega)) fh.grw (by omega))⟩))
 intro x hx; first | (simp [zeros4] at hx; subst hx; exact ⟨by decide, by decide, by decide, by decide⟩) | simp at hx
 · first | exact Nat.le_of_ble_eq_true rfl | omega | (simp only [List.length_nil]; omega)
 exact Nat.le_of_ble_eq_true Z
 have wz := of_decide_eq_false i8
 refine Xl (Xr (Xi (Xa (wpo_fieldAddr (o' := 0) X8 Z Z Z (wpo_load1 (v := vi k) X0 Z (ag.blk.cell Z) Z (wpo_nil (Xu (Xa (wpo_eql (q := decide (k = 1)) Z Z Z Z (wpo_assign (v := vb (decide (k = 1))) Z Z (wpo_nil (Xs Z (fun i9 => ?_) (fun i9 => ?_)))))))))))))
 have w8 := of_decide_eq_true i9
 refine Xa (wpo_move (v := pt R 0) Z Z (Xg Y7 (Xb Z (Xb Z Xf)) Z (Yi ak 20 (by omega) _ R bs _ _ _ ((im.grown0 ai.grw).gn ag.grw) (by omega) (SlLt.low1 hs bv hlo) (by first | exact hb | exact fun b h => hb b (List.mem_of_mem_take h)) (by first | omega | (rw [List.length_take]; omega))) ?_))
 rintro _ zc ⟨dq, rfl, vl, vm, qf, gb⟩
 refine wpo_fieldAddr (o' := 4) Jg Z Z Z (wpo_store1 (v := vi dq) (cs' := #[vi k, vi E.s, vi E.v, vi 0, vi dq, .slice (pa aj) 0 V, .slice (pa a9) 0 ah, vi to]) X0 Z Z Z (ag.blk.gn gb) (Nat.le_of_ble_eq_true Z) Z ?_)
 intro zd ea
 have jp := low1 (Xe bv gb) ea.grw (by omega)
 refine wpo_nil (Xo (wpo_move (v := pt R 0) Z Z (Xg Y7 (Xb Z (Xb Z Xf)) Z (Yi (ak + 1) 3 (by omega) _ R bs _ _ _ (qf.gn ea.grw) (by omega) (SlLt.low1 hs jp hlo) (by first | exact hb | exact fun b h => hb b (List.mem_of_mem_take h)) (by first | omega | (rw [List.length_take]; omega))) ?_)))
 rintro _ ze ⟨cd, rfl, vn, vo, qg, gc⟩
 refine wpo_quo (c := cd / 2) Z Z (by omega) (by omega) (by omega) Z Z (wpo_fieldAddr (o' := 3) Q2 Z Z Z (wpo_store1 (v := vi (cd / 2)) (cs' := #[vi k, vi E.s, vi E.v, vi (cd / 2), vi dq, .slice (pa aj) 0 V, .slice (pa a9) 0 ah, vi to]) X0 Z Z Z (ea.blk.gn gc) (Nat.le_of_ble_eq_true Z) Z ?_))
 intro zf ed
 refine wpo_nil (Y1 (Xr (Xa (wpo_loadn (vs := [vi k, vi E.s, vi E.v, vi (cd / 2), vi dq, .slice (pa aj) 0 V, .slice (pa a9) 0 ah, vi to]) Xw Z Z (ed.blk.rangeL 0 8 Z) Z (wpo_storen (vs := [vi k, vi E.s, vi E.v, vi (cd / 2), vi dq, .slice (pa aj) 0 V, .slice (pa a9) 0 ah, vi to]) (cs' := #[vi k, vi E.s, vi E.v, vi (cd / 2), vi dq, .slice (pa aj) 0 V, .slice (pa a9) 0 ah, vi to]) Xw Z Z Z (by simp [Value.oneCell']) ((((((io.grown0 ai.grw).gn ag.grw).gn gb).gn ea.grw).gn gc).gn ed.grw) (Nat.le_of_ble_eq_true Z) Z ?_)))))
 intro zg fi
 refine wpo_nil (Xk (⟨.agg #[vi k, vi E.s, vi E.v, vi (cd / 2), vi dq, .slice (pa aj) 0 V, .slice (pa a9) 0 ah, vi to], resC Z (resCell_mk (vs := [vi k, vi E.s, vi E.v, vi (cd / 2), vi dq, .slice (pa aj) 0 V, .slice (pa a9) 0 ah, vi to]) Xw Z Z (fi.blk.rangeL 0 8 Z)), ⟨⟨k, E, cd / 2, dq, ([] : List Rt), ([] : List Int), to⟩, some ⟨aj, 0, none⟩, V, some ⟨a9, 0, none⟩, ah⟩, (ak + 1 + 1), Z, ⟨OwnN.of (((((((fa.grown0 ai.grw).gn ag.grw).gn gb).gn ea.grw).gn gc).gn ed.grw).gn fi.grw) ij, ⟨([] : List Rt), OwnN.of (((((((ez.grown0 ai.grw).gn ag.grw).gn gb).gn ea.grw).gn gc).gn ed.grw).gn fi.grw) ii, Z, ?_⟩, ?_, ?_, ⟨show (0 : Int) ≤ cd / 2 by omega, show cd / 2 ≤ (1 : Int) by omega⟩⟩, by omega, by omega, ((qg.gn ed.grw).gn fi.grw), (low1 (low1 (Xe jp gc) ed.grw (by omega)) fi.grw (by omega))⟩))
 intro x hx; first | (simp [zeros4] at hx; subst hx; exact ⟨by decide, by decide, by decide, by decide⟩) | simp at hx
 · first | exact Nat.le_of_ble_eq_true rfl | omega | (simp only [List.length_nil]; omega)
 exact Nat.le_of_ble_eq_true Z
 have w9 := of_decide_eq_false i9
 refine Xa (wpo_eql (q := decide (k = 4)) Z Z Z Z (wpo_assign (v := vb (decide (k = 4))) Z Z (wpo_nil (Xs Z (fun ja => ?_) (fun ja => ?_)))))
 have xa := of_decide_eq_true ja
 refine Xa (wpo_move (v := pt R 0) Z Z (Xg Y7 (Xb Z (Xb Z Xf)) Z (Yi ak 4 (by omega) _ R bs _ _ _ ((im.grown0 ai.grw).gn ag.grw) (by omega) (SlLt.low1 hs bv hlo) (by first | exact hb | exact fun b h => hb b (List.mem_of_mem_take h)) (by first | omega | (rw [List.length_take]; omega))) ?_))
 rintro _ zh ⟨kb, rfl, vp, vq, qi, gf⟩
 refine wpo_assign (v := vi kb) Z Z (wpo_nil (Xu (Yf (fun mm f' w' => ∃ (n : Int) (p1 : Int) (Bq : Nat) (cq : Nat) (ys : List Int), mm = n.toNat ∧ (0 ≤ n ∧ n ≤ 3) ∧ (ak + 1 ≤ p1 ∧ p1 ≤ (ak + 1) + 3 - n) ∧ (ys.length : Int) ≤ 3 - n ∧ Dw.Own w' Bq 3 1 cq ys.length (ys.flatMap icell) ∧ w.heap.size ≤ Bq ∧ R ≠ Bq ∧ bg ≠ Bq ∧ aj ≠ Bq ∧ ey ≠ Bq ∧ f' 9 = vi n ∧ f' 0 = pt R 0 ∧ f' 6 = pt bg 0 ∧ f' 7 = pt ey 0 ∧ w.grownBy w' (some R) ∧ Blk w' bg 35 #[vi 0, vi 0, vi 0, vi 0, vi 0, .slice none 0 0, .slice none 0 0, vi 0] ∧ Dw.Own w' aj 74 5 V ([] : List Rt).length (([] : List Rt).flatMap Rt.cells) ∧ Blk w' ey 35 #[vi k, vi E.s, vi E.v, vi 0, vi 0, .slice (pa aj) 0 V, .slice (pa Bq) ys.length cq, vi to] ∧ Blk w' R 97 #[.slice a bs.length c, vi p1]) (kb.toNat) ⟨kb, (ak + 1), a9, ah, ([] : List Int), Z, (by omega), (by omega), (by simp only [List.length_nil]; omega), (((fa.grown0 ai.grw).gn ag.grw).gn gf), ij, (by omega), (by omega), (by omega), (by omega), Z, Z, Z, Z, (Xe bv gf), (((io.grown0 ai.grw).gn ag.grw).gn gf), (((ez.grown0 ai.grw).gn ag.grw).gn gf), (ag.blk.gn gf), qi⟩ ?_)))
 rintro mm wa ow ⟨n, p1, Bq, cq, ys, vx, hnn, hpp, hyl, hOwn, hlBq, tu, tv, tw, tx, nh, sn, i2, ni, g4, kc, ke, i0, oc⟩
 refine Xi (Xa (wpo_move (v := vi n) nh Z (wpo_gtr (q := decide (0 < n)) Z Z Z Z (wpo_nil (Xs Z (fun jb => ?_) (fun jb => ?_))))))
 have xb := of_decide_eq_true jb
 refine Xl (Xr (Xi (Xu (J1 (m := 5) [[], [0], [], [2], [2, 3], [0, 1, 2, 3, 4], [0, 1, 2, 3, 4, 5], [0, 1, 2, 3, 4, 5, 6]] (fun S F w' => ∃ (an : Int) (a8 : Nat), ow.grownBy w' (some R) ∧ F 0 = pt R 0 ∧ F 6 = pt bg 0 ∧ F 7 = pt ey 0 ∧ F 9 = vi n ∧ (S 3 = false → Blk w' R 97 #[.slice a bs.length c, vi p1]) ∧ (S 3 = true → F 48 = vi an ∧ 0 ≤ an ∧ (an < 20 ∨ an = 0) ∧ Blk w' R 97 #[.slice a bs.length c, vi (p1 + 1)]) ∧ (S 4 = true → F 49 = .slice (pa a8) 1 1 ∧ w.heap.size ≤ a8 ∧ Blk w' a8 3 (([an] : List Int).flatMap icell).toArray ∧ bg < a8 ∧ aj < a8 ∧ ey < a8 ∧ R < a8 ∧ Bq < a8 ∧ ow.heap.size ≤ a8) ∧ Vals S F [(0, 45, pt ey 6), (1, 46, .slice (pa Bq) ys.length cq), (2, 47, pt R 0)]) Q4 (by kernel_rfl) ⟨0, 0, X5 _, sn, i2, ni, nh, fun _ => (oc).grown0 (X5 _), X6, X6, U2 _⟩ ?_ ?_))))
 refine Xp (fun S F zi hS hbef hcl hI => ?_) ?_
 obtain ⟨an, a8, pe, so, sq, nj, sr, c_old_R, ba, bq, hvs⟩ := hI
 exact wpo_fieldAddr (o' := 6) Qt nj Z Z (wpo_nil ⟨an, a8, pe, so, sq, nj, sr, fun h => c_old_R h, ba, bq, Vals.up 0 hvs Z Z Z⟩)
 refine Xp (fun S F zj hS hbef hcl hI => ?_) ?_
 obtain ⟨an, a8, jw, su, sw, sx, sy, c_old_R, ba, bq, hvs⟩ := hI
 exact wpo_load1 (v := .slice (pa Bq) ys.length cq) J0 (Vals.at 0 hvs Z (Xj 0 hbef Z)) ((i0.gn jw).cell Z) Z (wpo_nil ⟨an, a8, jw, su, sw, sx, sy, fun h => c_old_R h, ba, bq, Vals.up 1 hvs Z Z Z⟩)
 refine Xp (fun S F zk hS hbef hcl hI => ?_) ?_
 obtain ⟨an, a8, pf, nk, s3, s4, s5, c_old_R, ba, bq, hvs⟩ := hI
 exact wpo_move (v := pt R 0) nk Z (wpo_nil ⟨an, a8, pf, nk, s3, s4, s5, fun h => c_old_R h, Xh 3 hS hcl Z, Xh 4 hS hcl Z, Vals.up 2 hvs Z Z Z⟩)
 refine Xp (fun S F zl hS hbef hcl hI => ?_) ?_
 obtain ⟨an, a8, jy, s6, s7, s8, s9, c_old_R, ba, bq, hvs⟩ := hI
 refine Xg Y7 (Xb (Vals.at 2 hvs Z (Xj 2 hbef Z)) (Xb Z Xf)) Z (Yi p1 20 (by omega) _ R bs _ _ _ (c_old_R hS) (by omega) (SlLt.low1 hs (Xe g4 jy) hlo) (by first | exact hb | exact fun b h => hb b (List.mem_of_mem_take h)) (by first | omega | (rw [List.length_take]; omega))) ?_
 rintro _ zm ⟨ua, rfl, pn, po, qj, o9⟩
 exact wpo_nil ⟨ua, a8, (Xe jy o9), s6, s7, s8, s9, fun h => Q0 h, fun _ => ⟨Z, pn, po, qj⟩, Xh 4 hS hcl Z, Vals.keep hvs Z⟩
 refine Xp (fun S F zn hS hbef hcl hI => ?_) ?_
 obtain ⟨an, a8, de, ta, tc, td, te, c_old_R, ba, bq, hvs⟩ := hI
 obtain ⟨tf, pl, pm, bf⟩ := ba (Xj 3 hbef rfl)
 refine wpo_buildSlice (ps := [(0, vi an)]) (e := 3) (cs := (([an] : List Int).flatMap icell).toArray) (Xm tf Xv) (fun _ => by kernel_rfl) Z ?_
 intro rm zo bd
 have m5 := Xy bd (Xe g4 de)
 have gp := Xn bd ((kc.gn de)).lt
 have gt := Xn bd ((ke.gn de)).lt
 have gu := Xn bd ((i0.gn de)).lt
 have is := Xn bd ((hOwn.gn de)).lt
 have rf := Xn bd (bf).lt
 exact wpo_nil ⟨an, rm, (low0 de bd.grw), ta, tc, td, te, fun hn => Q0 ((Xj 3 hbef Z).symm.trans hn), fun h => let ⟨ug, uh, uj, uk⟩ := ba h; ⟨ug, uh, uj, (uk).grown0 bd.grw⟩, fun _ => ⟨Z, m5, bd.blk, gp, gt, gu, (by omega), is, (nt de.size bd.ge)⟩, Vals.keep hvs Z⟩
 exact Ka
 intro S F zp hall hI
 obtain ⟨an, a8, gl, tg, ti, np, tj, c_old_R, ba, bq, hvs⟩ := hI
 have jq := Xe g4 gl
 obtain ⟨v8, pl, pm, bf⟩ := ba (hall 3 (by decide))
 obtain ⟨tk, uu, iq, ky, ly, l6, ra, ou, tt⟩ := bq (hall 4 (by decide))
 have oe := (kc.gn gl)
 have oh := (ke.gn gl)
 have ol := (i0.gn gl)
 refine wpo_append (g := icell) (ys := ys) (zs := ([an] : List Int)) N6 Z Yc (by omega) Vw (Vals.at 1 hvs Z (hall 1 (by decide))) tk (hOwn.gn gl) (Q9 Yc iq) (by simp only [List.length_cons, List.length_nil]; omega) (by omega) Z ?_
 intro di gy zq o5 gg na
 have m6 : w.heap.size ≤ di := by rcases na with h | h; (rw [h]; exact hlBq); exact nt jq.size h
 have ma : bg ≠ di := by have h := (oe).lt; omega
 have mn : aj ≠ di := by have h := (oh).lt; omega
 have mo : ey ≠ di := by have h := (ol).lt; omega
 have rk : R ≠ di := by have h := (bf).lt; omega
 have mq : a8 ≠ di := by have h := (iq).lt; omega
 refine wpo_fieldAddr (o' := 6) Qt np Z Z (wpo_store1 (v := .slice (pa di) (ys ++ ([an] : List Int)).length gy) (cs' := #[vi k, vi E.s, vi E.v, vi 0, vi 0, .slice (pa aj) 0 V, .slice (pa di) (ys ++ ([an] : List Int)).length gy, vi to]) J0 Z Z Z (ol.gn gg) (Nat.le_of_ble_eq_true Z) Z ?_)
 intro zr ee
 exact wpo_nil (Y1 (Xr (Xo (wpo_move (v := vi n) tj Z (wpo_sub (c := n - 1) Z Z (by omega) (by omega) (by omega) Z (wpo_assign (v := vi (n - 1)) Z Z (wpo_nil (Xr (⟨(n - 1).toNat, by omega, (n - 1), (p1 + 1), di, gy, (ys ++ ([an] : List Int)), Z, (by omega), (by omega), (by simp only [List.length_append, List.length_cons, List.length_nil]; omega), (o5.gn ee.grw), m6, (by omega), (by omega), (by omega), (by omega), Z, tg, ti, np, (low1 (low1 jq gg (by omega)) ee.grw (by omega)), ((oe.gn gg).gn ee.grw), ((oh.gn gg).gn ee.grw), ee.blk, ((bf.gn gg).gn ee.grw)⟩)))))))))
 have xc := of_decide_eq_false jb
 refine Yn (Yx (Yx (Jk (Y1 (Xr (Xa (wpo_loadn (vs := [vi k, vi E.s, vi E.v, vi 0, vi 0, .slice (pa aj) 0 V, .slice (pa Bq) ys.length cq, vi to]) Xw ni Z (i0.rangeL 0 8 Z) Z (wpo_storen (vs := [vi k, vi E.s, vi E.v, vi 0, vi 0, .slice (pa aj) 0 V, .slice (pa Bq) ys.length cq, vi to]) (cs' := #[vi k, vi E.s, vi E.v, vi 0, vi 0, .slice (pa aj) 0 V, .slice (pa Bq) ys.length cq, vi to]) Xw i2 Z Z (by simp [Value.oneCell']) kc (Nat.le_of_ble_eq_true Z) Z ?_))))))))
 intro zt fj
 refine wpo_nil (Xk (⟨.agg #[vi k, vi E.s, vi E.v, vi 0, vi 0, .slice (pa aj) 0 V, .slice (pa Bq) ys.length cq, vi to], resC Z (resCell_mk (vs := [vi k, vi E.s, vi E.v, vi 0, vi 0, .slice (pa aj) 0 V, .slice (pa Bq) ys.length cq, vi to]) Xw i2 Z (fj.blk.rangeL 0 8 Z)), ⟨⟨k, E, 0, 0, ([] : List Rt), ys, to⟩, some ⟨aj, 0, none⟩, V, some ⟨Bq, 0, none⟩, cq⟩, p1, Z, ⟨OwnN.of (hOwn.gn fj.grw) hlBq, ⟨([] : List Rt), OwnN.of (ke.gn fj.grw) ii, Z, ?_⟩, ?_, ?_, ⟨show (0 : Int) ≤ 0 by omega, show 0 ≤ (1 : Int) by omega⟩⟩, by omega, by omega, (oc.gn fj.grw), (low1 g4 fj.grw (by omega))⟩))
 intro x hx; first | (simp [zeros4] at hx; subst hx; exact ⟨by decide, by decide, by decide, by decide⟩) | simp at hx
 · first | exact Nat.le_of_ble_eq_true rfl | omega | (simp only [List.length_nil]; omega)
 exact Nat.le_of_ble_eq_true Z
 have xd := of_decide_eq_false ja
 refine Xa (wpo_eql (q := decide (k = 3)) Z Z Z Z (wpo_assign (v := vb (decide (k = 3))) Z Z (wpo_nil (X7 Z nq (Xl (Y1 (Xr (Xa (wpo_loadn (vs := [vi k, vi E.s, vi E.v, vi 0, vi 0, .slice (pa aj) 0 V, .slice (pa a9) 0 ah, vi to]) Xw Z Z (ag.blk.rangeL 0 8 Z) Z (wpo_storen (vs := [vi k, vi E.s, vi E.v, vi 0, vi 0, .slice (pa aj) 0 V, .slice (pa a9) 0 ah, vi to]) (cs' := #[vi k, vi E.s, vi E.v, vi 0, vi 0, .slice (pa aj) 0 V, .slice (pa a9) 0 ah, vi to]) Xw Z Z Z (by simp [Value.oneCell']) ((io.grown0 ai.grw).gn ag.grw) (Nat.le_of_ble_eq_true Z) Z ?_))))))))))
 intro zu fk
 refine wpo_nil (Xk (⟨.agg #[vi k, vi E.s, vi E.v, vi 0, vi 0, .slice (pa aj) 0 V, .slice (pa a9) 0 ah, vi to], resC Z (resCell_mk (vs := [vi k, vi E.s, vi E.v, vi 0, vi 0, .slice (pa aj) 0 V, .slice (pa a9) 0 ah, vi to]) Xw Z Z (fk.blk.rangeL 0 8 Z)), ⟨⟨k, E, 0, 0, ([] : List Rt), ([] : List Int), to⟩, some ⟨aj, 0, none⟩, V, some ⟨a9, 0, none⟩, ah⟩, ak, Z, ⟨OwnN.of (((fa.grown0 ai.grw).gn ag.grw).gn fk.grw) ij, ⟨([] : List Rt), OwnN.of (((ez.grown0 ai.grw).gn ag.grw).gn fk.grw) ii, Z, ?_⟩, ?_, ?_, ⟨show (0 : Int) ≤ 0 by omega, show 0 ≤ (1 : Int) by omega⟩⟩, by omega, by omega, (((im.grown0 ai.grw).gn ag.grw).gn fk.grw), (low1 bv fk.grw (by omega))⟩))
 intro x hx; first | (simp [zeros4] at hx; subst hx; exact ⟨by decide, by decide, by decide, by decide⟩) | simp at hx
 · first | exact Nat.le_of_ble_eq_true rfl | omega | (simp only [List.length_nil]; omega)
 exact Nat.le_of_ble_eq_true Z
 have xe : thingOk (⟨k, E, 0, 0, [], [], to⟩ : Th) = false := (Jr br).symm.trans il
 refine Xg Gg (Xb Z (Xb Z (Xb Z Xf))) Z (Wm k to E br il _) ?_
 rintro _ zv ⟨rfl, iy⟩
 have jr := low0 bu iy
 refine wpo_move (v := .tuple #[.agg #[vi 0, vi 0, vi 0, vi 0, vi 0, .slice none 0 0, .slice none 0 0, vi 0], vb false]) Z Z (wpo_extract (v := .agg #[vi 0, vi 0, vi 0, vi 0, vi 0, .slice none 0 0, .slice none 0 0, vi 0]) Z Z Z (wpo_extract (v := vb false) Z Z Z (wpo_alloc (cs := #[vi 0, vi 0, vi 0, vi 0, vi 0, .slice none 0 0, .slice none 0 0, vi 0]) Q1 Z Z ?_)))
 intro v6 zw co
 have uv := Xy co jr
 have om := (cg.grown0 iy)
 have rg := Xn co (om).lt
 have oq := ((bt.blk.gn fp).grown0 iy)
 have kz := Xn co (oq).lt
 refine wpo_storen (vs := [vi 0, vi 0, vi 0, vi 0, vi 0, .slice none 0 0, .slice none 0 0, vi 0]) (cs' := #[vi 0, vi 0, vi 0, vi 0, vi 0, .slice none 0 0, .slice none 0 0, vi 0]) Xw Z Z Z (by simp [Value.oneCell']) co.blk (Nat.le_of_ble_eq_true Z) Z ?_
 intro zx da
 have iu := low1 (low0 jr co.grw) da.grw (by omega)
 refine wpo_assign (v := vb false) Z Z (wpo_nil (Xi (Xa (wpo_fieldAddr (o' := 0) X8 Z Z Z (wpo_load1 (v := vi 0) X0 Z (da.blk.cell Z) Z (wpo_eql (q := true) Z Z (by decide) Z (wpo_nil (X4 Z Z (Xo (wpo_build (ps := []) (v := .agg #[vi 0, vi 0]) Xv (fun _ => by kernel_rfl) Z ?_))))))))))
 have kf := ((om.grown0 co.grw).gn da.grw)
 have kg := ((oq.grown0 co.grw).gn da.grw)
 have xf : thingOk (⟨1, ⟨0, 0⟩, 0, 0, [], [], 0⟩ : Th) = true := (Jr (by decide)).symm.trans (by decide)
 refine Xg Gg (Xb Z (Xb Z (Xb Z Xf))) Z (Jp 1 0 ⟨0, 0⟩ (by decide) (by decide) _) ?_
 rintro _ zy ⟨bn, av, bp, aw, rfl, ej, o6, ek, o7, mr, ia⟩
 have m7 := nt iu.size ej
 have rh := nl (kf).lt ej
 have k0 := nl (kg).lt ej
 have l7 := nl (da.blk).lt ej
 have m8 := nt iu.size ek
 have ri := nl (kf).lt ek
 have la := nl (kg).lt ek
 have l8 := nl (da.blk).lt ek
 refine wpo_move (v := .tuple #[.agg #[vi 1, vi 0, vi 0, vi 0, vi 0, .slice (pa bn) 0 av, .slice (pa bp) 0 aw, vi 0], vb true]) Z Z (wpo_extract (v := .agg #[vi 1, vi 0, vi 0, vi 0, vi 0, .slice (pa bn) 0 av, .slice (pa bp) 0 aw, vi 0]) Z Z Z (wpo_extract (v := vb true) Z Z Z (wpo_storen (vs := [vi 1, vi 0, vi 0, vi 0, vi 0, .slice (pa bn) 0 av, .slice (pa bp) 0 aw, vi 0]) (cs' := #[vi 1, vi 0, vi 0, vi 0, vi 0, .slice (pa bn) 0 av, .slice (pa bp) 0 aw, vi 0]) Xw Z Z Z (by simp [Value.oneCell']) (da.blk.grown0 ia) (Nat.le_of_ble_eq_true Z) Z ?_)))
 intro zz db
 have js := low1 (low0 iu ia) db.grw (by omega)
 refine wpo_nil (Xr (Xi (Xa (wpo_fieldAddr (o' := 0) X8 Z Z Z (wpo_load1 (v := vi 1) X0 Z (db.blk.cell Z) Z (wpo_nil (Xu (Xa (wpo_eql (q := true) Z Z (by decide) Z (wpo_assign (v := vb true) Z Z (wpo_nil (X4 Z Z ?_))))))))))))
 refine Xa (wpo_move (v := pt R 0) Z Z (Xg Y7 (Xb Z (Xb Z Xf)) Z (Yi ak 20 (by omega) _ R bs _ _ _ ((kf.grown0 ia).gn db.grw) (by omega) (SlLt.low1 hs js hlo) (by first | exact hb | exact fun b h => hb b (List.mem_of_mem_take h)) (by first | omega | (rw [List.length_take]; omega))) ?_))
 rintro _ z0 ⟨dr, rfl, vr, vt, qk, gh⟩
 refine wpo_fieldAddr (o' := 4) Jg Z Z Z (wpo_store1 (v := vi dr) (cs' := #[vi 1, vi 0, vi 0, vi 0, vi dr, .slice (pa bn) 0 av, .slice (pa bp) 0 aw, vi 0]) X0 Z Z Z (db.blk.gn gh) (Nat.le_of_ble_eq_true Z) Z ?_)
 intro z2 ef
 have jt := low1 (Xe js gh) ef.grw (by omega)
 refine wpo_nil (Xo (wpo_move (v := pt R 0) Z Z (Xg Y7 (Xb Z (Xb Z Xf)) Z (Yi (ak + 1) 3 (by omega) _ R bs _ _ _ (qk.gn ef.grw) (by omega) (SlLt.low1 hs jt hlo) (by first | exact hb | exact fun b h => hb b (List.mem_of_mem_take h)) (by first | omega | (rw [List.length_take]; omega))) ?_)))
 rintro _ z3 ⟨ce, rfl, vu, vv, qn, gi⟩
 refine wpo_quo (c := ce / 2) Z Z (by omega) (by omega) (by omega) Z Z (wpo_fieldAddr (o' := 3) Q2 Z Z Z (wpo_store1 (v := vi (ce / 2)) (cs' := #[vi 1, vi 0, vi 0, vi (ce / 2), vi dr, .slice (pa bn) 0 av, .slice (pa bp) 0 aw, vi 0]) X0 Z Z Z (ef.blk.gn gi) (Nat.le_of_ble_eq_true Z) Z ?_))
 intro z6 eg
 refine wpo_nil (Y1 (Xr (Xa (wpo_loadn (vs := [vi 1, vi 0, vi 0, vi (ce / 2), vi dr, .slice (pa bn) 0 av, .slice (pa bp) 0 aw, vi 0]) Xw Z Z (eg.blk.rangeL 0 8 Z) Z (wpo_storen (vs := [vi 1, vi 0, vi 0, vi (ce / 2), vi dr, .slice (pa bn) 0 av, .slice (pa bp) 0 aw, vi 0]) (cs' := #[vi 1, vi 0, vi 0, vi (ce / 2), vi dr, .slice (pa bn) 0 av, .slice (pa bp) 0 aw, vi 0]) Xw Z Z Z (by simp [Value.oneCell']) ((((((kg.grown0 ia).gn db.grw).gn gh).gn ef.grw).gn gi).gn eg.grw) (Nat.le_of_ble_eq_true Z) Z ?_)))))
 intro z7 fm
 refine wpo_nil (Xk (⟨.agg #[vi 1, vi 0, vi 0, vi (ce / 2), vi dr, .slice (pa bn) 0 av, .slice (pa bp) 0 aw, vi 0], resC Z (resCell_mk (vs := [vi 1, vi 0, vi 0, vi (ce / 2), vi dr, .slice (pa bn) 0 av, .slice (pa bp) 0 aw, vi 0]) Xw Z Z (fm.blk.rangeL 0 8 Z)), ⟨⟨1, ⟨0, 0⟩, ce / 2, dr, ([] : List Rt), ([] : List Int), 0⟩, some ⟨bn, 0, none⟩, av, some ⟨bp, 0, none⟩, aw⟩, (ak + 1 + 1), Z, ⟨OwnN.of ((((((o7.gn db.grw).gn gh).gn ef.grw).gn gi).gn eg.grw).gn fm.grw) m8, ⟨([] : List Rt), OwnN.of ((((((o6.gn db.grw).gn gh).gn ef.grw).gn gi).gn eg.grw).gn fm.grw) m7, Z, ?_⟩, ?_, ?_, ⟨show (0 : Int) ≤ ce / 2 by omega, show ce / 2 ≤ (1 : Int) by omega⟩⟩, by omega, by omega, ((qn.gn eg.grw).gn fm.grw), (low1 (low1 (Xe jt gi) eg.grw (by omega)) fm.grw (by omega))⟩))
 intro x hx; first | (simp [zeros4] at hx; subst hx; exact ⟨by decide, by decide, by decide, by decide⟩) | simp at hx
 · first | exact Nat.le_of_ble_eq_true rfl | omega | (simp only [List.length_nil]; omega)
 exact Nat.le_of_ble_eq_true Z
theorem Hd [Comp] (p : Int) (hp : 0 ≤ p ∧ p ≤ 999999990000) (lo R : Nat) (bs : List Int) (a : Option Addr) (c : Nat) (w : World) (hR : Blk w R 97 #[.slice a bs.length c, vi p]) (hlo : lo ≤ R) (hs : SlLt lo w a 1 (bs.map bcell)) (hb : ∀ b ∈ bs, 0 ≤ b ∧ b ≤ 255) (hn : bs.length ≤ 1048576) : CallsR Try.prog 70 #[pt R 0] w (fun v w' => ∃ (B cap : Nat) (ms : List MTh) (p' : Int), v = .slice (pa B) ms.length cap ∧ TabG w.heap.size w' (pa B) ms ∧ Small ms ∧ (3 ≤ ms.length ∧ ms.length ≤ 8) ∧ p ≤ p' ∧ p' ≤ p + 600 ∧ Blk w' R 97 #[.slice a bs.length c, vi p'] ∧ w.grownBy w' (some R)) := by
 refine Xq (n := 142) Try.func70 Z Try.ntmps70 Z ?_
 have nc := World.grownBy.refl w (some R)
 have hRlt := hR.lt
 refine Xa (wpo_assign (v := .slice none 0 0) Z Z (wpo_nil (Xa (wpo_buildSlice (ps := [(0, vi 1), (1, vi 3), (2, vi 3)]) (e := 3) (cs := (([1, 3, 3] : List Int).flatMap icell).toArray) (Xm Z (Xm Z (Xm Z Xv))) (fun _ => by kernel_rfl) Z ?_))))
 intro is r3 be
 have ik := Xy be nc
 have ky := Xn be (hR).lt
 have fd := low0 nc be.grw
 refine wpo_assign (v := .slice (pa is) 3 3) Z Z (wpo_nil (Xi (Xa (wpo_move (v := pt R 0) Z Z (Xg Y7 (Xb Z (Xb Z Xf)) Z (Yi p 6 (by omega) _ R bs _ _ _ (hR.grown0 be.grw) (by omega) (SlLt.low1 hs fd hlo) (by first | exact hb | exact fun b h => hb b (List.mem_of_mem_take h)) (by first | omega | (rw [List.length_take]; omega))) ?_)))))
 rintro _ r4 ⟨f7, rfl, oq, ot, ku, ft⟩
 refine wpo_assign (v := vi f7) Z Z (wpo_nil (Xu (Yf (fun mm f' w' => ∃ (n : Int) (p1 : Int) (Bk : Nat) (ck : Nat) (ks : List Int), mm = n.toNat ∧ (0 ≤ n ∧ n ≤ 5) ∧ (p ≤ p1 ∧ p1 ≤ p + 6 - n) ∧ (3 ≤ ks.length ∧ (ks.length : Int) ≤ 8 - n) ∧ (∀ y ∈ ks, 1 ≤ y ∧ y ≤ 5) ∧ Dw.Own w' Bk 3 1 ck ks.length (ks.flatMap icell) ∧ w.heap.size ≤ Bk ∧ R ≠ Bk ∧ f' 3 = .slice (pa Bk) ks.length ck ∧ f' 4 = vi n ∧ f' 0 = pt R 0 ∧ f' 2 = .slice none 0 0 ∧ w.grownBy w' (some R) ∧ Blk w' R 97 #[.slice a bs.length c, vi p1]) (f7.toNat) ⟨f7, (p + 1), is, 3, ([1, 3, 3] : List Int), Z, (by omega), (by omega), (by simp only [List.length_nil, List.length_cons]; omega), (by intro y hy; simp at hy; omega), (Own.rows Yc (be.blk.gn ft) (by simp)), ik, (by omega), Z, Z, Z, Z, (Xe fd ft), ku⟩ ?_)))
 rintro mm p0 r6 ⟨n, p1, Bk, ck, ks, o9, hnn, hpp, hkl, hks, hOk, hlBk, ri, iu, iv, ed, iw, bv, d6⟩
 refine Xi (Xa (wpo_move (v := vi n) iv Z (wpo_gtr (q := decide (0 < n)) Z Z Z Z (wpo_nil (Xs Z (fun eu => ?_) (fun eu => ?_))))))
 have qg := of_decide_eq_true eu
 refine Xl (Xr (Xi (Xu (Xo (wpo_move (v := .slice (pa Bk) ks.length ck) iu Z (wpo_buildSlice (ps := [(0, vi 1), (1, vi 2), (2, vi 2), (3, vi 3), (4, vi 4), (5, vi 5)]) (e := 3) (cs := (([1, 2, 2, 3, 4, 5] : List Int).flatMap icell).toArray) (Xm Z (Xm Z (Xm Z (Xm Z (Xm Z (Xm Z Xv)))))) (fun _ => by kernel_rfl) Z ?_))))))
 intro li r7 aq
 have nz := Xy aq bv
 have kz := Xn aq (d6).lt
 have jv := Xn aq (hOk).lt
 have fe := low0 bv aq.grw
 refine wpo_move (v := pt R 0) ed Z (Xg Y7 (Xb Z (Xb Z Xf)) Z (Yi p1 6 (by omega) _ R bs _ _ _ (d6.grown0 aq.grw) (by omega) (SlLt.low1 hs fe hlo) (by first | exact hb | exact fun b h => hb b (List.mem_of_mem_take h)) (by first | omega | (rw [List.length_take]; omega))) ?_)
 rintro _ r8 ⟨f8, rfl, ou, ov, gg, da⟩
 have ff := Xe fe da
 refine wpo_indexAddr (o' := (f8).toNat * 1) Kx Z Z (by omega) (by omega) (by omega) Z ?_
 have f9 := (aq.blk.gn da)
 obtain ⟨bp, fy⟩ := Qo (l := ([1, 2, 2, 3, 4, 5] : List Int)) (i := (f8).toNat) (lq (f8).toNat 6)
 have kp := List.mem_of_getElem? fy
 simp only [List.mem_cons, List.not_mem_nil, or_false] at kp
 refine wpo_load1 (v := vi bp) X0 Z ((Ji Yc f9 fy) 0 _ Z) Z (wpo_buildSlice (ps := [(0, vi bp)]) (e := 3) (cs := (([bp] : List Int).flatMap icell).toArray) (Xm Z Xv) (fun _ => by kernel_rfl) Z ?_)
 intro lj r9 al
 have n5 := Xy al ff
 have k0 := Xn al (gg).lt
 have i6 := ((hOk.grown0 aq.grw).gn da)
 have jw := Xn al (i6).lt
 have gp := Xn al (f9).lt
 have fg := low0 ff al.grw
 have i7 := (gg.grown0 al.grw)
 refine wpo_append (g := icell) (ys := ks) (zs := ([bp] : List Int)) N6 Z Yc (by omega) Vw Z Z (i6.grown0 al.grw) (Q9 Yc al.blk) (by simp only [List.length_cons, List.length_nil]; omega) (by omega) Z ?_
 intro bk dm sb j5 fu ip
 have il : w.heap.size ≤ bk := by rcases ip with h | h; (rw [h]; exact hlBk); exact nt fg.size h
 have lg : R ≠ bk := by have h := (i7).lt; omega
 have gq : li ≠ bk := by have h := ((f9.grown0 al.grw)).lt; omega
 have gr : lj ≠ bk := by have h := (al.blk).lt; omega
 exact wpo_assign (v := .slice (pa bk) (ks ++ ([bp] : List Int)).length dm) Z Z (wpo_nil (Y1 (Xr (Xo (wpo_move (v := vi n) iv Z (wpo_sub (c := n - 1) Z Z (by omega) (by omega) (by omega) Z (wpo_assign (v := vi (n - 1)) Z Z (wpo_nil (Xr (⟨(n - 1).toNat, by omega, (n - 1), (p1 + 1), bk, dm, (ks ++ ([bp] : List Int)), Z, (by omega), (by omega), (by simp only [List.length_append, List.length_cons, List.length_nil]; omega), (by intro y hy; rcases List.mem_append.1 hy with h | h; exact hks y h; (simp at h; omega)), j5, il, (by omega), Z, Z, ed, iw, (low1 fg fu (by omega)), (i7.gn fu)⟩))))))))))
 have qi := of_decide_eq_false eu
 refine Yn (Yx (Yx (Jk (Xr (Xa (wpo_buildSlice (ps := []) (e := 35) (cs := (([] : List MTh).flatMap MTh.cells).toArray) Xv (fun _ => by kernel_rfl) Z ?_))))))
 intro it sd ar
 have im := Xy ar bv
 have la := Xn ar (d6).lt
 have jy := Xn ar (hOk).lt
 refine wpo_assign (v := .slice (pa it) 0 0) Z Z (wpo_nil (Xi (Xa (wpo_assign (v := vi 0) Z Z (wpo_nil (Xu (Yf (fun mm f' w' => ∃ (i : Nat) (p2 : Int) (Bt : Nat) (ct : Nat) (ms : List MTh), mm = ks.length - i ∧ i ≤ ks.length ∧ (p ≤ p2 ∧ p2 ≤ p + 6 + 12 * (i : Int)) ∧ ms.length = i ∧ RowsD 74 3 w.heap.size w' ms ∧ Dw.Own w' Bt 35 8 ct ms.length (ms.flatMap MTh.cells) ∧ w.heap.size ≤ Bt ∧ R ≠ Bt ∧ Bk ≠ Bt ∧ f' 5 = .slice (pa Bt) ms.length ct ∧ f' 6 = vi (i : Int) ∧ f' 0 = pt R 0 ∧ f' 2 = .slice none 0 0 ∧ f' 3 = .slice (pa Bk) ks.length ck ∧ w.grownBy w' (some R) ∧ Dw.Own w' Bk 3 1 ck ks.length (ks.flatMap icell) ∧ Blk w' R 97 #[.slice a bs.length c, vi p2]) (ks.length - 0) ⟨0, p1, it, 0, ([] : List MTh), Z, (Nat.zero_le _), (by omega), Z, RowsD.nil, (Own.rows Y8 ar.blk (by simp)), im, (by omega), (by omega), Z, Z, ed, iw, iu, (low0 bv ar.grw), (hOk.grown0 ar.grw), (d6.grown0 ar.grw)⟩ ?_)))))))
 rintro mm p8 j4 ⟨i, p2, Bt, ct, ms, pb, hi, rl, hml, hRows, hOt, hlBt, rj, rk, ee, dp, ef, eg, dq, bw, gb, i8⟩
 have rh := hkl
 refine Xi (Xa (wpo_move (v := vi (i : Int)) dp Z (wpo_move (v := .slice (pa Bk) ks.length ck) dq Z (wpo_len (by kernel_rfl) Z Z (wpo_lss (q := decide ((i : Int) < (ks.length : Int))) Z Z Z Z (wpo_nil (Xs Z (fun ew => ?_) (fun ew => ?_))))))))
 have qj := of_decide_eq_true ew
 refine Xl (Xr (Xi (Xu (Xa (wpo_assign (v := vi 0) Z Z (wpo_nil (Xi (Xa (wpo_move (v := .slice (pa Bk) ks.length ck) dq Z (wpo_move (v := vi (i : Int)) dp Z (wpo_indexAddr (o' := i * 1) Kx Z Z (by omega) (by omega) (by omega) Z ?_)))))))))))
 obtain ⟨bi, fz⟩ := Qo (l := ks) (i := i) (by omega)
 refine wpo_load1 (v := vi bi) X0 Z ((Own.range Yc gb fz) 0 _ Z) Z (wpo_eql (q := decide (bi = 5)) Z Z Z Z (wpo_nil (Nm (fun f' w' => (f' 0 = pt R 0 ∧ f' 2 = .slice none 0 0 ∧ f' 3 = .slice (pa Bk) ks.length ck ∧ f' 5 = .slice (pa Bt) ms.length ct ∧ f' 6 = vi (i : Int) ∧ f' 7 = vi (if bi = 5 then 1 else 0)) ∧ j4 = w') ?_ ?_)))
 refine Xs Z (fun cl => ?_) (fun cl => ?_)
 have qk := of_decide_eq_true cl
 exact Xo (wpo_assign (v := vi 1) Z Z (wpo_nil (Xr (⟨⟨ef, eg, dq, ee, dp, (congrArg (Value.int .i64) (if_pos (of_decide_eq_true cl)).symm)⟩, Z⟩))))
 have qn := of_decide_eq_false cl
 exact Xl (Xr (⟨⟨ef, eg, dq, ee, dp, (congrArg (Value.int .i64) (if_neg (of_decide_eq_false cl)).symm)⟩, Z⟩))
 rintro p9 _ ⟨⟨ix, ll, iy, lm, iz, ln⟩, rfl⟩
 refine Xr (Xo (wpo_move (v := .slice (pa Bt) ms.length ct) lm Z (wpo_move (v := pt R 0) ix Z (wpo_move (v := .slice (pa Bk) ks.length ck) iy Z (wpo_move (v := vi (i : Int)) iz Z (wpo_indexAddr (o' := i * 1) Kx Z Z (by omega) (by omega) (by omega) Z (wpo_load1 (v := vi bi) X0 Z ((Own.range Yc gb fz) 0 _ Z) Z (wpo_move (v := vi (if bi = 5 then 1 else 0)) ln Z (Xg El (Xb Z (Xb Z (Xb Z Xf))) Z (Ri bi (if bi = 5 then 1 else 0) p2 (by omega) _ R bs _ _ _ i8 (by omega) (SlLt.low1 hs bw hlo) (by first | exact hb | exact fun b h => hb b (List.mem_of_mem_take h)) (by first | omega | (rw [List.length_take]; omega))) ?_)))))))))
 rintro _ se ⟨aj, ni, rfl, gv, pf, pg, gh, bz⟩
 have fh := Xe bw bz
 have gw := RowD.mono gv bw.size
 refine wpo_buildSlice (ps := [(0, .agg #[vi aj.t.kind, vi aj.t.lab.s, vi aj.t.lab.v, vi aj.t.ve, vi aj.t.num, .slice aj.sa aj.t.slots.length aj.sc, .slice aj.qa aj.t.queue.length aj.qc, vi aj.t.to])]) (e := 35) (cs := (([aj] : List MTh).flatMap MTh.cells).toArray) (Xm Z Xv) (fun _ => by kernel_rfl) Z ?_
 intro lk sf ag
 have n7 := Xy ag fh
 have i9 := (gb.gn bz)
 have jz := Xn ag (i9).lt
 have lc := Xn ag (gh).lt
 have ja := (hOt.gn bz)
 have j1 := Xn ag (ja).lt
 have fi := low0 fh ag.grw
 have gc := (ja.grown0 ag.grw)
 have jb := (i9.grown0 ag.grw)
 have jc := (gh.grown0 ag.grw)
 refine wpo_append (g := MTh.cells) (ys := ms) (zs := ([aj] : List MTh)) M7 Z Y8 (by omega) Wc Z Z gc (Q9 Y8 ag.blk) (by simp only [List.length_cons, List.length_nil]; omega) (by omega) Z ?_
 intro bl dn sg j6 bf iq
 have io : w.heap.size ≤ bl := by rcases iq with h | h; (rw [h]; exact hlBt); exact nt fi.size h
 have j3 : Bk ≠ bl := by have h := (jb).lt; omega
 have lh : R ≠ bl := by have h := (jc).lt; omega
 have gt : lk ≠ bl := by have h := (ag.blk).lt; omega
 refine wpo_assign (v := .slice (pa bl) (ms ++ ([aj] : List MTh)).length dn) Z Z (wpo_nil (Y1 (Xr (Xo (wpo_move (v := vi (i : Int)) iz Z (wpo_add (c := (i : Int) + 1) Z Z (by omega) (by omega) (by omega) Z (wpo_assign (v := vi ((i : Int) + 1)) Z Z (wpo_nil (Xr ?_)))))))))
 have gx := (RowsD.typ (RowsD.low (RowsD.lt hRows bz (by omega)) ag.grw) bf gc (by decide) (by decide))
 exact ⟨ks.length - (i + 1), by omega, (i + 1), ni, bl, dn, (ms ++ ([aj] : List MTh)), Z, (by omega), (by omega), (by rw [List.length_append, hml]; rfl), (RowsD.snoc gx (RowD.typ (RowD.low gw ag.grw) bf gc (by decide) (by decide))), j6, io, (by omega), (by omega), Z, Z, ix, ll, iy, (low1 fi bf (by omega)), (jb.gn bf), (jc.gn bf)⟩
 have qo := of_decide_eq_false ew
 refine Yn (Yx (Yx (Jk (Xr (Xi (Xa (wpo_assign (v := vi 0) Z Z (wpo_nil (Xu ?_)))))))))
 obtain ⟨hi, hhi⟩ : ∃ n, n = j4.heap.size := ⟨_, rfl⟩
 have hH := RowsD.hi hRows
 rw [← hhi] at hH
 have hbt := (hOt).lt
 refine Yf (fun mm f' w' => ∃ (i3 : Nat) (p3 : Int), mm = ms.length - i3 ∧ i3 ≤ ms.length ∧ (p ≤ p3 ∧ p3 ≤ p + 102 + 56 * (i3 : Int)) ∧ RowsD 74 3 w.heap.size w' ms ∧ Dw.Own w' Bt 35 8 ct ms.length (ms.flatMap MTh.cells) ∧ hi ≤ w'.heap.size ∧ f' 8 = vi (i3 : Int) ∧ f' 0 = pt R 0 ∧ f' 2 = .slice none 0 0 ∧ f' 5 = .slice (pa Bt) ms.length ct ∧ w.grownBy w' (some R) ∧ Dw.Own w' Bt 35 8 ct ms.length (ms.flatMap MTh.cells) ∧ Blk w' R 97 #[.slice a bs.length c, vi p3]) (ms.length - 0) ⟨0, p2, Z, (Nat.zero_le _), (by omega), hRows, hOt, (Nat.le_of_eq hhi), Z, ef, eg, ee, bw, hOt, i8⟩ ?_
 rintro mm qd si ⟨i3, p3, pc, hi3, rm, hRows, hOt, hhs, i0, dr, lu, bm, cm, rz, jd⟩
 refine Xi (Xa (wpo_move (v := vi (i3 : Int)) i0 Z (wpo_move (v := .slice (pa Bt) ms.length ct) bm Z (wpo_len (by kernel_rfl) Z Z (wpo_lss (q := decide ((i3 : Int) < (ms.length : Int))) Z Z Z Z (wpo_nil (Xs Z (fun ex => ?_) (fun ex => ?_))))))))
 have qq := of_decide_eq_true ex
 refine Xl (Xr (Xi (Xu (Xa (wpo_assign (v := vi 0) Z Z (wpo_nil (Xu (Yf (fun mm f' w' => ∃ (j : Nat) (p4 : Int), mm = (mAt ms i3).t.slots.length - j ∧ j ≤ (mAt ms i3).t.slots.length ∧ (p3 ≤ p4 ∧ p4 ≤ p3 + 14 * (j : Int)) ∧ RowsD 74 3 w.heap.size w' ms ∧ Dw.Own w' Bt 35 8 ct ms.length (ms.flatMap MTh.cells) ∧ hi ≤ w'.heap.size ∧ f' 9 = vi (j : Int) ∧ f' 0 = pt R 0 ∧ f' 2 = .slice none 0 0 ∧ f' 5 = .slice (pa Bt) ms.length ct ∧ f' 8 = vi (i3 : Int) ∧ w.grownBy w' (some R) ∧ Dw.Own w' Bt 35 8 ct ms.length (ms.flatMap MTh.cells) ∧ Blk w' R 97 #[.slice a bs.length c, vi p4]) ((mAt ms i3).t.slots.length - 0) ⟨0, p3, Z, (Nat.zero_le _), (by omega), hRows, hOt, hhs, Z, dr, lu, bm, i0, cm, hOt, jd⟩ ?_))))))))
 rintro mm qe sk ⟨j, p4, pe, hj, rn, hRows, hOt, hhs, dt, bn, du, cc, cd, cn, r1, je⟩
 have ry := (RowsD.at hRows (lq i3 ms.length)).sl
 refine Xi (Xa (wpo_move (v := vi (j : Int)) dt Z (wpo_move (v := .slice (pa Bt) ms.length ct) cc Z (wpo_move (v := vi (i3 : Int)) cd Z (wpo_indexAddr (o' := i3 * 8) Qc Z Z (by omega) (by omega) (by omega) Z (wpo_fieldAddr (o' := i3 * 8 + 5) Y4 Z Z Z ?_))))))
 have oc := (RowsD.at hRows (lq i3 ms.length)).ve
 refine wpo_load1 (v := .slice (mAt ms i3).sa (mAt ms i3).t.slots.length (mAt ms i3).sc) Je Z ((Own.range Y8 hOt (xg ms i3)) 5 _ Z) Z (wpo_len (by kernel_rfl) Z Z (wpo_lss (q := decide ((j : Int) < ((mAt ms i3).t.slots.length : Int))) Z Z Z Z (wpo_nil (Xs Z (fun ey => ?_) (fun ey => ?_)))))
 have qr := of_decide_eq_true ey
 refine Xl (Xr (Xi (Xu (Xa (wpo_move (v := pt R 0) bn Z (Xg Em (Xb Z Xf) Z (Rh p4 (by omega) _ R bs _ _ _ je (by omega) (SlLt.low1 hs cn hlo) (by first | exact hb | exact fun b h => hb b (List.mem_of_mem_take h)) (by first | omega | (rw [List.length_take]; omega))) ?_))))))
 rintro _ sn ⟨E, ap, rfl, pk, pl, pm, pn, pi, pj, dk, ak⟩
 have fj := Xe cn ak
 refine wpo_alloc (cs := #[vi 0, vi 0, vb false, vb false, vb false]) Hw Z Z ?_
 intro ca so ab
 have n8 := Xy ab fj
 have nd : hi ≤ ca := nt (nt hhs ak.size) ab.ge
 have d7 := (hOt.gn ak)
 have j2 := Xn ab (d7).lt
 have ld := Xn ab (dk).lt
 refine wpo_storen (vs := [vi E.th, vi E.ve, vb E.rd, vb E.wr, vb E.wk]) (cs' := #[vi E.th, vi E.ve, vb E.rd, vb E.wr, vb E.wk]) Yy Z Z Z (by simp [Value.oneCell']) ab.blk (Nat.le_of_ble_eq_true Z) Z ?_
 intro sq ac
 have co := low1 (low0 fj ab.grw) ac.grw (by omega)
 refine wpo_nil (Kc (fun f' w' => ∃ (p5 : Int) (r5 : Rt), (p4 ≤ p5 ∧ p5 ≤ p4 + 12) ∧ RB r5 ∧ RowsD 74 3 w.heap.size w' ms ∧ Dw.Own w' Bt 35 8 ct ms.length (ms.flatMap MTh.cells) ∧ hi ≤ w'.heap.size ∧ f' 0 = pt R 0 ∧ f' 2 = .slice none 0 0 ∧ f' 5 = .slice (pa Bt) ms.length ct ∧ f' 8 = vi (i3 : Int) ∧ f' 9 = vi (j : Int) ∧ f' 10 = pt ca 0 ∧ w.grownBy w' (some R) ∧ Blk w' ca 74 #[vi r5.th, vi r5.ve, vb r5.rd, vb r5.wr, vb r5.wk] ∧ Dw.Own w' Bt 35 8 ct ms.length (ms.flatMap MTh.cells) ∧ Blk w' R 97 #[.slice a bs.length c, vi p5]) ?_ ?_)
 refine Xa (wpo_fieldAddr (o' := 0) Qu Z Z Z (wpo_load1 (v := vi E.th) X0 Z (ac.blk.cell Z) Z (wpo_gtr (q := decide (0 < E.th)) Z Z Z Z (wpo_move (v := vb (decide (0 < E.th))) Z Z ?_))))
 rcases X1 (decide (0 < E.th)) with az | az
 have qw := of_decide_eq_true az
 refine Xc Z Z Z az (wpo_move (v := pt R 0) bn Z (Xc Z Z Z az (Xg Y7 (Xb Z (Xb Z Xf)) Z (Yi ap 40 (by omega) _ R bs _ _ _ ((dk.grown0 ab.grw).gn ac.grw) (by omega) (SlLt.low1 hs co hlo) (by first | exact hb | exact fun b h => hb b (List.mem_of_mem_take h)) (by first | omega | (rw [List.length_take]; omega))) ?_)))
 rintro _ nj ⟨jf, rfl, ow, ox, gi, ah⟩
 have cw := Xe co ah
 refine Xc Z Z Z az (wpo_gtr (q := decide (0 < jf)) Z Z Z Z (wpo_pickt (v := vb (decide (0 < jf))) Z az Z Z (wpo_nil (Xs Z (fun ez => ?_) (fun ez => ?_)))))
 have qx := of_decide_eq_true ez
 refine Xi (J1 (m := 7) [[], [0], [], [2], [0, 1, 2, 3], [], [5], [0, 1, 2, 3, 4, 5, 6], [0, 1, 2, 3, 4, 5, 6, 7], [0, 1, 2, 3, 4, 5, 6, 7, 8], [0, 1, 2, 3, 4, 5, 6, 7, 8, 9]] (fun S F w' => ∃ (O : Int), nj.grownBy w' (some R) ∧ F 0 = pt R 0 ∧ F 2 = .slice none 0 0 ∧ F 5 = .slice (pa Bt) ms.length ct ∧ F 8 = vi (i3 : Int) ∧ F 9 = vi (j : Int) ∧ F 10 = pt ca 0 ∧ (S 3 = false → Blk w' R 97 #[.slice a bs.length c, vi (ap + 1)]) ∧ (S 3 = true → F 77 = vi O ∧ 0 ≤ O ∧ (O < 8 ∨ O = 0) ∧ Blk w' R 97 #[.slice a bs.length c, vi (ap + 1 + 1)]) ∧ (S 4 = true → F 78 = vi (E.th + O)) ∧ Vals S F [(0, 74, pt ca 0), (1, 75, vi E.th), (2, 76, pt R 0), (5, 79, .slice (pa Bt) ms.length ct), (6, 80, vi (ms.length : Int))]) Q4 (by kernel_rfl) ⟨0, X5 _, bn, du, cc, cd, dt, Z, fun _ => (gi).grown0 (X5 _), X6, X6, U2 _⟩ ?_ ?_)
 refine Xp (fun S F sr hS hbef hcl hI => ?_) ?_
 obtain ⟨O, ka, lv, lw, lx, ly, lz, i1, c_old_R, av, bj, hvs⟩ := hI
 exact wpo_fieldAddr (o' := 0) Qu i1 Z Z (wpo_nil ⟨O, ka, lv, lw, lx, ly, lz, i1, fun h => c_old_R h, av, Xh 4 hS hcl Z, Vals.up 0 hvs Z Z Z⟩)
 refine Xp (fun S F su hS hbef hcl hI => ?_) ?_
 obtain ⟨O, fv, l0, l3, l4, l5, l6, l7, c_old_R, av, bj, hvs⟩ := hI
 exact wpo_load1 (v := vi E.th) X0 (Vals.at 0 hvs Z (Xj 0 hbef Z)) (((ac.blk.gn ah).gn fv).cell Z) Z (wpo_nil ⟨O, fv, l0, l3, l4, l5, l6, l7, fun h => c_old_R h, av, Xh 4 hS hcl Z, Vals.up 1 hvs Z Z Z⟩)
 refine Xp (fun S F sw hS hbef hcl hI => ?_) ?_
 obtain ⟨O, kb, i2, l8, l9, ma, mb, mc, c_old_R, av, bj, hvs⟩ := hI
 exact wpo_move (v := pt R 0) i2 Z (wpo_nil ⟨O, kb, i2, l8, l9, ma, mb, mc, fun h => c_old_R h, Xh 3 hS hcl Z, Xh 4 hS hcl Z, Vals.up 2 hvs Z Z Z⟩)
 refine Xp (fun S F sx hS hbef hcl hI => ?_) ?_
 obtain ⟨O, fw, me, mf, mg, mh, ml, mn, c_old_R, av, bj, hvs⟩ := hI
 refine Xg Y7 (Xb (Vals.at 2 hvs Z (Xj 2 hbef Z)) (Xb Z Xf)) Z (Yi (ap + 1) 8 (by omega) _ R bs _ _ _ (c_old_R hS) (by omega) (SlLt.low1 hs (Xe cw fw) hlo) (by first | exact hb | exact fun b h => hb b (List.mem_of_mem_take h)) (by first | omega | (rw [List.length_take]; omega))) ?_
 rintro _ sy ⟨nf, rfl, kl, km, kv, j9⟩
 exact wpo_nil ⟨nf, (Xe fw j9), me, mf, mg, mh, ml, mn, fun h => Q0 h, fun _ => ⟨Z, kl, km, kv⟩, Xh 4 hS hcl Z, Vals.keep hvs Z⟩
 refine Xp (fun S F s3 hS hbef hcl hI => ?_) ?_
 obtain ⟨O, kc, mo, mp, mq, mr, mt, mu, c_old_R, av, bj, hvs⟩ := hI
 obtain ⟨mv, kh, ki, dl⟩ := av (Xj 3 hbef rfl)
 exact wpo_add (c := E.th + O) (Vals.at 1 hvs Z (Xj 1 hbef Z)) mv (by omega) (by omega) (by omega) Z (wpo_nil ⟨O, kc, mo, mp, mq, mr, mt, mu, fun hn => Q0 ((Xj 3 hbef Z).symm.trans hn), av, fun _ => Z, Vals.keep hvs Z⟩)
 refine Xp (fun S F s4 hS hbef hcl hI => ?_) ?_
 obtain ⟨O, ke, mw, my, i4, mz, m3, m4, c_old_R, av, bj, hvs⟩ := hI
 exact wpo_move (v := .slice (pa Bt) ms.length ct) i4 Z (wpo_nil ⟨O, ke, mw, my, i4, mz, m3, m4, fun h => c_old_R h, av, bj, Vals.up 3 hvs Z Z Z⟩)
 refine Xp (fun S F s5 hS hbef hcl hI => ?_) ?_
 obtain ⟨O, kf, m5, m6, m7, m8, m9, na, c_old_R, av, bj, hvs⟩ := hI
 exact wpo_len (by kernel_rfl) (Vals.at 3 hvs Z (Xj 5 hbef Z)) Z (wpo_nil ⟨O, kf, m5, m6, m7, m8, m9, na, fun h => c_old_R h, av, bj, Vals.up 4 hvs Z Z Z⟩)
 exact Ka
 intro S F s6 hall hI
 obtain ⟨O, au, dv, eh, dw, ei, ej, aw, c_old_R, av, bj, hvs⟩ := hI
 obtain ⟨py, kh, ki, dl⟩ := av (hall 3 (by decide))
 obtain nb := bj (hall 4 (by decide))
 have po := Int.emod_nonneg (E.th + O) (show (ms.length : Int) ≠ 0 by omega)
 have pp := Int.emod_lt_of_pos (E.th + O) (show 0 < (ms.length : Int) by omega)
 refine wpo_rem (c := (E.th + O) % (ms.length : Int)) nb (Vals.at 4 hvs Z (hall 6 (by decide))) (by omega) (by omega) (by omega) Z Z (wpo_add (c := 1 + ((E.th + O) % (ms.length : Int))) Z Z (by omega) (by omega) (by omega) Z (wpo_fieldAddr (o' := 0) Qu aw Z Z (wpo_store1 (v := vi (1 + ((E.th + O) % (ms.length : Int)))) (cs' := #[vi (1 + ((E.th + O) % (ms.length : Int))), vi E.ve, vb E.rd, vb E.wr, vb E.wk]) X0 Z Z Z ((ac.blk.gn ah).gn au) (Nat.le_of_ble_eq_true Z) Z ?_)))
 intro s7 am
 refine wpo_nil (Xr (Xa (wpo_move (v := .slice (pa Bt) ms.length ct) dw Z (wpo_fieldAddr (o' := 0) Qu aw Z Z (wpo_load1 (v := vi (1 + ((E.th + O) % (ms.length : Int)))) X0 Z (am.blk.cell Z) Z (wpo_sub (c := (1 + ((E.th + O) % (ms.length : Int))) - 1) Z Z (by omega) (by omega) (by omega) Z (wpo_indexAddr (o' := ((1 + ((E.th + O) % (ms.length : Int))) - 1).toNat * 8) Qc Z Z (by omega) (by omega) (by omega) Z (wpo_fieldAddr (o' := ((1 + ((E.th + O) % (ms.length : Int))) - 1).toNat * 8 + 3) Q2 Z Z Z ?_))))))))
 have d8 := (((((d7.grown0 ab.grw).gn ac.grw).gn ah).gn au).gn am.grw)
 have bd := (RowsD.ge (RowsD.lt (RowsD.lt (RowsD.ge (RowsD.low (RowsD.lt hRows ak (by omega)) ab.grw) ac.grw hH (by omega)) ah (by omega)) au (by omega)) am.grw hH (by omega))
 have oe := (RowsD.at bd (show ((1 + ((E.th + O) % (ms.length : Int))) - 1).toNat < ms.length by omega)).ve
 refine wpo_load1 (v := vi (mAt ms ((1 + ((E.th + O) % (ms.length : Int))) - 1).toNat).t.ve) X0 Z ((Own.range Y8 d8 (xg ms ((1 + ((E.th + O) % (ms.length : Int))) - 1).toNat)) 3 _ Z) Z (wpo_fieldAddr (o' := 1) J2 aw Z Z (wpo_store1 (v := vi (mAt ms ((1 + ((E.th + O) % (ms.length : Int))) - 1).toNat).t.ve) (cs' := #[vi (1 + ((E.th + O) % (ms.length : Int))), vi (mAt ms ((1 + ((E.th + O) % (ms.length : Int))) - 1).toNat).t.ve, vb E.rd, vb E.wr, vb E.wk]) X0 Z Z Z am.blk (Nat.le_of_ble_eq_true Z) Z ?_))
 intro s8 ae
 have cx := low1 (low1 (Xe cw au) am.grw (by omega)) ae.grw (by omega)
 refine wpo_nil (Xa (wpo_fieldAddr (o' := 1) J2 aw Z Z (wpo_load1 (v := vi (mAt ms ((1 + ((E.th + O) % (ms.length : Int))) - 1).toNat).t.ve) X0 Z (ae.blk.cell Z) Z (wpo_gtr (q := decide (0 < (mAt ms ((1 + ((E.th + O) % (ms.length : Int))) - 1).toNat).t.ve)) Z Z Z Z (wpo_move (v := vb (decide (0 < (mAt ms ((1 + ((E.th + O) % (ms.length : Int))) - 1).toNat).t.ve))) Z Z ?_)))))
 rcases X1 (decide (0 < (mAt ms ((1 + ((E.th + O) % (ms.length : Int))) - 1).toNat).t.ve)) with a8 | a8
 have qy := of_decide_eq_true a8
 refine Xc Z Z Z a8 (wpo_move (v := pt R 0) dv Z (Xc Z Z Z a8 (Xg Y7 (Xb Z (Xb Z Xf)) Z (Yi (ap + 1 + 1) 5 (by omega) _ R bs _ _ _ ((dl.gn am.grw).gn ae.grw) (by omega) (SlLt.low1 hs cx hlo) (by first | exact hb | exact fun b h => hb b (List.mem_of_mem_take h)) (by first | omega | (rw [List.length_take]; omega))) ?_)))
 rintro _ s9 ⟨jg, rfl, oy, oz, gj, an⟩
 have fk := Xe cx an
 refine Xc Z Z Z a8 (wpo_eql (q := decide (jg = 0)) Z Z Z Z (wpo_pickt (v := vb (decide (jg = 0))) Z a8 Z Z (wpo_nil (Xs Z (fun fa => ?_) (fun fa => ?_)))))
 have qz := of_decide_eq_true fa
 refine Xo (wpo_fieldAddr (o' := 1) J2 aw Z Z ?_)
 have jh := (ae.blk.gn an)
 refine wpo_load1 (v := vi (mAt ms ((1 + ((E.th + O) % (ms.length : Int))) - 1).toNat).t.ve) X0 Z (jh.cell Z) Z (wpo_sub (c := (mAt ms ((1 + ((E.th + O) % (ms.length : Int))) - 1).toNat).t.ve - 1) Z Z (by omega) (by omega) (by omega) Z (wpo_fieldAddr (o' := 1) J2 aw Z Z (wpo_store1 (v := vi ((mAt ms ((1 + ((E.th + O) % (ms.length : Int))) - 1).toNat).t.ve - 1)) (cs' := #[vi (1 + ((E.th + O) % (ms.length : Int))), vi ((mAt ms ((1 + ((E.th + O) % (ms.length : Int))) - 1).toNat).t.ve - 1), vb E.rd, vb E.wr, vb E.wk]) X0 Z Z Z jh (Nat.le_of_ble_eq_true Z) Z ?_)))
 intro ta bc
 refine wpo_nil (Xr ?_)
 have gy := (RowsD.ge (RowsD.lt (RowsD.ge bd ae.grw hH (by omega)) an (by omega)) bc.grw hH (by omega))
 have ji := (((d8.gn ae.grw).gn an).gn bc.grw)
 exact ⟨(ap + 1 + 1 + 1), (⟨1 + ((E.th + O) % (ms.length : Int)), (mAt ms ((1 + ((E.th + O) % (ms.length : Int))) - 1).toNat).t.ve - 1, E.rd, E.wr, E.wk⟩ : Rt), (by omega), (rbo (1 + ((E.th + O) % (ms.length : Int))) ((mAt ms ((1 + ((E.th + O) % (ms.length : Int))) - 1).toNat).t.ve - 1) Z Z), gy, ji, (nt (nt (nt (nt (nt (nt (nt (nt (nt hhs ak.size) ab.grw.size) ac.grw.size) ah.size) au.size) am.grw.size) ae.grw.size) an.size) bc.grw.size), dv, eh, dw, ei, ej, aw, (low1 fk bc.grw (by omega)), bc.blk, ji, (gj.gn bc.grw)⟩
 have q1 := of_decide_eq_false fa
 refine Xl (Xr ?_)
 have gz := (RowsD.lt (RowsD.ge bd ae.grw hH (by omega)) an (by omega))
 have jj := ((d8.gn ae.grw).gn an)
 exact ⟨(ap + 1 + 1 + 1), (⟨1 + ((E.th + O) % (ms.length : Int)), (mAt ms ((1 + ((E.th + O) % (ms.length : Int))) - 1).toNat).t.ve, E.rd, E.wr, E.wk⟩ : Rt), (by omega), (rbo (1 + ((E.th + O) % (ms.length : Int))) ((mAt ms ((1 + ((E.th + O) % (ms.length : Int))) - 1).toNat).t.ve) Z Z), gz, jj, (nt (nt (nt (nt (nt (nt (nt (nt hhs ak.size) ab.grw.size) ac.grw.size) ah.size) au.size) am.grw.size) ae.grw.size) an.size), dv, eh, dw, ei, ej, aw, fk, (ae.blk.gn an), jj, gj⟩
 have q2 := of_decide_eq_false a8
 iterate 3 refine Xd rfl rfl rfl a8 rfl ?_
 refine wpo_pickf (v := vb false) Z a8 Z Z (wpo_nil (X7 Z Z (Xl (Xr ?_))))
 have g4 := (RowsD.ge bd ae.grw hH (by omega))
 have jk := (d8.gn ae.grw)
 exact ⟨(ap + 1 + 1), (⟨1 + ((E.th + O) % (ms.length : Int)), (mAt ms ((1 + ((E.th + O) % (ms.length : Int))) - 1).toNat).t.ve, E.rd, E.wr, E.wk⟩ : Rt), (by omega), (rbo (1 + ((E.th + O) % (ms.length : Int))) ((mAt ms ((1 + ((E.th + O) % (ms.length : Int))) - 1).toNat).t.ve) Z Z), g4, jk, (nt (nt (nt (nt (nt (nt (nt hhs ak.size) ab.grw.size) ac.grw.size) ah.size) au.size) am.grw.size) ae.grw.size), dv, eh, dw, ei, ej, aw, cx, ae.blk, jk, ((dl.gn am.grw).gn ae.grw)⟩
 have q3 := of_decide_eq_false ez
 refine Xl (Xr ?_)
 have g7 := (RowsD.lt (RowsD.ge (RowsD.low (RowsD.lt hRows ak (by omega)) ab.grw) ac.grw hH (by omega)) ah (by omega))
 have jl := (((d7.grown0 ab.grw).gn ac.grw).gn ah)
 exact ⟨(ap + 1), E, (by omega), (rbo (E.th) (E.ve) Z Z), g7, jl, (nt (nt (nt (nt hhs ak.size) ab.grw.size) ac.grw.size) ah.size), bn, du, cc, cd, dt, Z, cw, (ac.blk.gn ah), jl, gi⟩
 have q4 := of_decide_eq_false az
 iterate 3 refine Xd rfl rfl rfl az rfl ?_
 refine wpo_pickf (v := vb false) Z az Z Z (wpo_nil (X7 Z Z (Xl (Xr ?_))))
 have g8 := (RowsD.ge (RowsD.low (RowsD.lt hRows ak (by omega)) ab.grw) ac.grw hH (by omega))
 have jm := ((d7.grown0 ab.grw).gn ac.grw)
 exact ⟨ap, E, (by omega), (rbo (E.th) (E.ve) Z Z), g8, jm, (nt (nt (nt hhs ak.size) ab.grw.size) ac.grw.size), bn, du, cc, cd, dt, Z, co, ac.blk, jm, ((dk.grown0 ab.grw).gn ac.grw)⟩
 rintro qf nk ⟨p5, r5, rp, ir, hRows, hOt, hhs, dx, ek, ce, cg, cj, i5, j8, jo, r2, ng⟩
 have rq := ir.1; have rr := ir.2.1; have ru := ir.2.2.1; have rx := ir.2.2.2
 refine Xi ?_
 obtain ⟨pw, pq, d0, nu, ii, nx⟩ := RowD.slot (RowsD.at hRows (lq i3 ms.length)) (by omega)
 have np := hH _ (List.mem_of_getElem? (xg ms i3)) _ (Or.inl d0)
 refine Qx (m := 7) (vals := [(104, .slice (pa Bt) ms.length ct), (105, vi (i3 : Int)), (106, pt Bt (i3 * 8)), (107, pt Bt (i3 * 8 + 5)), (108, .slice (mAt ms i3).sa (mAt ms i3).t.slots.length (mAt ms i3).sc), (109, vi (j : Int)), (110, .agg #[vi r5.th, vi r5.ve, vb r5.rd, vb r5.wr, vb r5.wk])]) (fun w' => nk.grownBy w' none) Q4 (by kernel_rfl) (X5 _) ?_ ?_
 refine yl Z (fun _ _ k => wpo_move (v := .slice (pa Bt) ms.length ct) ce Z k) (yl Z (fun _ _ k => wpo_move (v := vi (i3 : Int)) cg Z k) (yl Z (fun _ _ k => wpo_indexAddr (o' := i3 * 8) Qc Z Z (by omega) (by omega) (by omega) Z k) (yl Z (fun _ _ k => wpo_fieldAddr (o' := i3 * 8 + 5) Y4 Z Z Z k) ?_)))
 refine Qg Z (fun tc dh => ?_) ?_
 have g9 := (RowsD.low hRows dh)
 have oh := (RowsD.at g9 (lq i3 ms.length)).ve
 exact wpo_load1 (v := .slice (mAt ms i3).sa (mAt ms i3).t.slots.length (mAt ms i3).sc) Je Z ((Own.range Y8 (hOt.grown0 dh) (xg ms i3)) 5 _ Z) Z (wpo_nil ⟨Z, dh⟩)
 exact yl Z (fun _ _ k => wpo_move (v := vi (j : Int)) cj Z k) (yl Z (fun _ kg k => wpo_loadn (vs := [vi r5.th, vi r5.ve, vb r5.rd, vb r5.wr, vb r5.wk]) Yy i5 Z ((jo.grown0 kg).rangeL 0 5 Z) Z k) Ja)
 intro td ao
 refine Xx G7 Z Z d0 (Nat.zero_add _) (by omega) (by omega) Z ?_
 have ba := (ii.grown0 ao)
 have bq : RB r5 := (rbo (r5.th) (r5.ve) Z Z)
 have d9 := (hOt.grown0 ao)
 have n9 := Rm d9 ba (by decide)
 have jp := (ng.grown0 ao)
 have br := (RowsD.low hRows ao)
 refine wpo_storeD (z' := r5) Yy Z Z ba (by omega) Z ?_
 intro te di af
 refine wpo_nil (Xr (Xa (wpo_loadn (vs := [vi r5.th, vi r5.ve, vb r5.rd, vb r5.wr, vb r5.wk]) Yy i5 Z (((jo.grown0 ao).gn af).rangeL 0 5 Z) Z (Xg D5 (Xb Z Xf) Z (Hn r5 _) ?_))))
 rintro _ tf ⟨rfl, ai⟩
 have cy := low0 (low1 (low0 j8 ao) af (by omega)) ai
 refine wpo_not (b' := !rightOk r5) Z Z Z (wpo_move (v := vb (!rightOk r5)) Z Z ?_)
 rcases X1 (!rightOk r5) with a9 | a9
 have q5 := Jd a9
 refine Xc Z Z Z a9 (wpo_move (v := pt R 0) dx Z (Xc Z Z Z a9 (Xg Y7 (Xb Z (Xb Z Xf)) Z (Yi p5 3 (by omega) _ R bs _ _ _ ((jp.gn af).grown0 ai) (by omega) (SlLt.low1 hs cy hlo) (by first | exact hb | exact fun b h => hb b (List.mem_of_mem_take h)) (by first | omega | (rw [List.length_take]; omega))) ?_)))
 rintro _ tg ⟨jq, rfl, o0, o1, gl, as⟩
 have fm := Xe cy as
 refine Xc Z Z Z a9 (wpo_gtr (q := decide (0 < jq)) Z Z Z Z (wpo_pickt (v := vb (decide (0 < jq))) Z a9 Z Z (wpo_nil (Xs Z (fun fb => ?_) (fun fb => ?_)))))
 have q6 := of_decide_eq_true fb
 refine Xo (wpo_move (v := .slice (pa Bt) ms.length ct) ce Z (wpo_move (v := vi (i3 : Int)) cg Z (wpo_indexAddr (o' := i3 * 8) Qc Z Z (by omega) (by omega) (by omega) Z (wpo_fieldAddr (o' := i3 * 8 + 5) Y4 Z Z Z ?_))))
 have gf := (((d9.gn af).grown0 ai).gn as)
 have bt := (RowsD.lt (RowsD.low (RowsD.put br di af bq ba (by decide)) ai) as (by omega))
 have ol := (RowsD.at bt (lq i3 ms.length)).ve
 refine wpo_load1 (v := .slice (mAt ms i3).sa (mAt ms i3).t.slots.length (mAt ms i3).sc) Je Z ((Own.range Y8 gf (xg ms i3)) 5 _ Z) Z (wpo_move (v := vi (j : Int)) cj Z (wpo_build (ps := []) (v := .agg #[vi 0, vi 0, vb false, vb false, vb false]) Xv (fun _ => by kernel_rfl) Z ?_))
 obtain ⟨px, pu, d5, nw, ij, ny⟩ := RowD.slot (RowsD.at bt (lq i3 ms.length)) (by omega)
 have nq := hH _ (List.mem_of_getElem? (xg ms i3)) _ (Or.inl d5)
 refine Xx G7 Z Z d5 (Nat.zero_add _) (by omega) (by omega) Z ?_
 have bu := ij
 have gu : RB (⟨0, 0, false, false, false⟩ : Rt) := (rbo (0) (0) Z Z)
 have oa := Rm gf bu (by decide)
 refine wpo_storeD (z' := (⟨0, 0, false, false, false⟩ : Rt)) Yy Z Z bu (by omega) Z ?_
 intro ti kq bg
 refine wpo_nil (Y1 (Xr (Xo (wpo_move (v := vi (j : Int)) cj Z (wpo_add (c := (j : Int) + 1) Z Z (by omega) (by omega) (by omega) Z (wpo_assign (v := vi ((j : Int) + 1)) Z Z (wpo_nil (Xr ?_))))))))
 have ia := (RowsD.put bt kq bg gu bu (by decide))
 have jr := (gf.gn bg)
 exact ⟨(mAt ms i3).t.slots.length - (j + 1), by omega, (j + 1), (p5 + 1), Z, (by omega), (by omega), ia, jr, (nt (nt (nt (nt (nt hhs ao.size) af.size) ai.size) as.size) bg.size), Z, dx, ek, ce, cg, (low1 fm bg (by omega)), jr, (gl.gn bg)⟩
 have q7 := of_decide_eq_false fb
 refine Xl (Y1 (Xr (Xo (wpo_move (v := vi (j : Int)) cj Z (wpo_add (c := (j : Int) + 1) Z Z (by omega) (by omega) (by omega) Z (wpo_assign (v := vi ((j : Int) + 1)) Z Z (wpo_nil (Xr ?_))))))))
 have ib := (RowsD.lt (RowsD.low (RowsD.put br di af bq ba (by decide)) ai) as (by omega))
 have js := (((d9.gn af).grown0 ai).gn as)
 exact ⟨(mAt ms i3).t.slots.length - (j + 1), by omega, (j + 1), (p5 + 1), Z, (by omega), (by omega), ib, js, (nt (nt (nt (nt hhs ao.size) af.size) ai.size) as.size), Z, dx, ek, ce, cg, fm, js, gl⟩
 have q8 := Qn a9
 iterate 3 refine Xd rfl rfl rfl a9 rfl ?_
 refine wpo_pickf (v := vb false) Z a9 Z Z (wpo_nil (X7 Z Z (Xl (Y1 (Xr (Xo (wpo_move (v := vi (j : Int)) cj Z (wpo_add (c := (j : Int) + 1) Z Z (by omega) (by omega) (by omega) Z (wpo_assign (v := vi ((j : Int) + 1)) Z Z (wpo_nil (Xr ?_)))))))))))
 have ic := (RowsD.low (RowsD.put br di af bq ba (by decide)) ai)
 have jt := ((d9.gn af).grown0 ai)
 exact ⟨(mAt ms i3).t.slots.length - (j + 1), by omega, (j + 1), p5, Z, (by omega), (by omega), ic, jt, (nt (nt (nt hhs ao.size) af.size) ai.size), Z, dx, ek, ce, cg, cy, jt, ((jp.gn af).grown0 ai)⟩
 have q9 := of_decide_eq_false ey
 exact Yn (Yx (Yx (Jk (Y1 (Xr (Xo (wpo_move (v := vi (i3 : Int)) cd Z (wpo_add (c := (i3 : Int) + 1) Z Z (by omega) (by omega) (by omega) Z (wpo_assign (v := vi ((i3 : Int) + 1)) Z Z (wpo_nil (Xr (⟨ms.length - (i3 + 1), by omega, (i3 + 1), p4, Z, (by omega), (by omega), hRows, hOt, hhs, Z, bn, du, cc, cn, hOt, je⟩))))))))))))
 have ra := of_decide_eq_false ex
 refine Yn (Yx (Yx (Jk (Xr (Xi (Xa (wpo_move (v := pt R 0) dr Z (Xg Y7 (Xb Z (Xb Z Xf)) Z (Yi p3 30 (by omega) _ R bs _ _ _ jd (by omega) (SlLt.low1 hs cm hlo) (by first | exact hb | exact fun b h => hb b (List.mem_of_mem_take h)) (by first | omega | (rw [List.length_take]; omega))) ?_))))))))
 rintro _ tj ⟨nh, rfl, o3, o4, gm, bh⟩
 have cz := Xe cm bh
 refine wpo_eql (q := decide (nh = 0)) Z Z Z Z (wpo_nil (Xs Z (fun fc => ?_) (fun fc => ?_)))
 have rf := of_decide_eq_true fc
 refine Xo (wpo_move (v := .slice (pa Bt) ms.length ct) bm Z (wpo_move (v := pt R 0) dr Z (wpo_move (v := .slice (pa Bt) ms.length ct) bm Z (wpo_len (by kernel_rfl) Z Z (Xg Y7 (Xb Z (Xb Z Xf)) Z (Yi (p3 + 1) (ms.length : Int) (by omega) _ R bs _ _ _ gm (by omega) (SlLt.low1 hs cz hlo) (by first | exact hb | exact fun b h => hb b (List.mem_of_mem_take h)) (by first | omega | (rw [List.length_take]; omega))) ?_)))))
 rintro _ tk ⟨V, rfl, o5, o6, kw, db⟩
 have fp := Xe cz db
 refine wpo_move (v := pt R 0) dr Z (Xg Y7 (Xb Z (Xb Z Xf)) Z (Yi (p3 + 1 + 1) 5 (by omega) _ R bs _ _ _ kw (by omega) (SlLt.low1 hs fp hlo) (by first | exact hb | exact fun b h => hb b (List.mem_of_mem_take h)) (by first | omega | (rw [List.length_take]; omega))) ?_)
 rintro _ tl ⟨ea, rfl, o7, o8, kx, dc⟩
 refine wpo_add (c := 1 + ea) Z Z (by omega) (by omega) (by omega) Z (wpo_indexAddr (o' := (V).toNat * 8) Qc Z Z (by omega) (by omega) (by omega) Z (wpo_fieldAddr (o' := (V).toNat * 8) X8 Z Z Z ?_))
 have ju := (((hOt.gn bh).gn db).gn dc)
 have dz := (RowsD.lt (RowsD.lt (RowsD.lt hRows bh (by omega)) db (by omega)) dc (by omega))
 have om := (RowsD.at dz (lq (V).toNat ms.length)).ve
 refine wpo_store1O (g := MTh.cells) (j := 0) (z := (mAt ms (V).toNat)) (z' := (⟨⟨1 + ea, (mAt ms (V).toNat).t.lab, (mAt ms (V).toNat).t.ve, (mAt ms (V).toNat).t.num, (mAt ms (V).toNat).t.slots, (mAt ms (V).toNat).t.queue, (mAt ms (V).toNat).t.to⟩, (mAt ms (V).toNat).sa, (mAt ms (V).toNat).sc, (mAt ms (V).toNat).qa, (mAt ms (V).toNat).qc⟩ : MTh)) (v := vi (1 + ea)) X0 Z Z Z Y8 ju (xg ms (V).toNat) (by omega) Z Z ?_
 intro tn j7 de
 refine wpo_nil (Xr (Xa (wpo_move (v := .slice (pa Bt) ms.length ct) bm Z (wpo_assign (v := .slice (pa Bt) ms.length ct) Z Z (wpo_nil (Xk ?_))))))
 have ie := (RowsD.typ dz de ju (by decide) (by decide))
 obtain ⟨lf, fq, kt, kr⟩ := RowsD.tab _ (RowsD.setk (i := (V).toNat) (m' := (⟨⟨1 + ea, (mAt ms (V).toNat).t.lab, (mAt ms (V).toNat).t.ve, (mAt ms (V).toNat).t.num, (mAt ms (V).toNat).t.slots, (mAt ms (V).toNat).t.queue, (mAt ms (V).toNat).t.to⟩, (mAt ms (V).toNat).sa, (mAt ms (V).toNat).sc, (mAt ms (V).toNat).qa, (mAt ms (V).toNat).qc⟩ : MTh)) ie (by omega) ⟨rfl, rfl, rfl⟩ ⟨rfl, rfl, rfl⟩ rfl)
 have ko := congrArg List.length fq
 simp only [List.length_map, List.length_set] at ko
 have fx := j7
 rw [← Ps fq] at fx
 refine ⟨.slice (pa Bt) ms.length ct, res1 Z Z, Bt, ct, lf, (p3 + 1 + 1 + 1), ?_, ⟨SlG.own Y8 fx hlBt, kt⟩, kr, by omega, by omega, by omega, (kx.gn de), (low1 (Xe fp dc) de (by omega))⟩
 show Value.slice _ _ _ = Value.slice _ _ _
 congr 1; first | omega | (simp only [List.length_set]; omega)
 have rg := of_decide_eq_false fc
 refine Xl (Xr (Xa (wpo_move (v := .slice (pa Bt) ms.length ct) bm Z (wpo_assign (v := .slice (pa Bt) ms.length ct) Z Z (wpo_nil (Xk ?_))))))
 have ig := (RowsD.lt hRows bh (by omega))
 obtain ⟨lf, fq, kt, kr⟩ := RowsD.tab _ ig
 have ko := congrArg List.length fq
 simp only [List.length_map, List.length_set] at ko
 have fx := (hOt.gn bh)
 rw [← Ps fq] at fx
 refine ⟨.slice (pa Bt) ms.length ct, res1 Z Z, Bt, ct, lf, (p3 + 1), ?_, ⟨SlG.own Y8 fx hlBt, kt⟩, kr, by omega, by omega, by omega, gm, cz⟩
 show Value.slice _ _ _ = Value.slice _ _ _
 congr 1; first | omega | (simp only [List.length_set]; omega)
theorem S8 [Comp] (p : Int) (hp : 0 ≤ p ∧ p ≤ 999999980000) (lo R : Nat) (bs : List Int) (a : Option Addr) (c : Nat) (w : World) (hR : Blk w R 97 #[.slice a bs.length c, vi p]) (hlo : lo ≤ R) (hs : SlLt lo w a 1 (bs.map bcell)) (hb : ∀ b ∈ bs, 0 ≤ b ∧ b ≤ 255) (hn : bs.length ≤ 1048576) : CallsR Try.prog 35 #[pt R 0] w (fun v w' => ∃ (B cap : Nat) (ms : List MTh) (p' : Int), v = .slice (pa B) ms.length cap ∧ TabG w.heap.size w' (pa B) ms ∧ Small ms ∧ (3 ≤ ms.length ∧ ms.length ≤ 8) ∧ p ≤ p' ∧ p' ≤ p + 4000 ∧ Blk w' R 97 #[.slice a bs.length c, vi p'] ∧ w.grownBy w' (some R)) := by
 refine Xq (n := 24) Try.func35 Z Try.ntmps35 Z ?_
 have bd := World.grownBy.refl w (some R)
 have hRlt := hR.lt
 refine Xa (wpo_assign (v := .slice none 0 0) Z Z (wpo_nil (Xa (wpo_move (v := pt R 0) Z Z (Xg D4 (Xb Z Xf) Z (Hd p (by omega) _ R bs _ _ _ hR (by omega) (SlLt.low1 hs bd hlo) (by first | exact hb | exact fun b h => hb b (List.mem_of_mem_take h)) (by first | omega | (rw [List.length_take]; omega))) ?_)))))
 rintro _ cj ⟨a8, ag, aq, bj, rfl, as, ak, aw, br, bt, bg, be⟩
 have bl := ak.len
 refine wpo_assign (v := .slice (pa a8) aq.length ag) Z Z (wpo_nil (Xi (Xa (wpo_assign (v := vi 0) Z Z (wpo_nil (Xu (Yf (fun mm f' w' => ∃ (i : Nat) (p1 : Int) (B : Nat) (cap : Nat) (ms : List MTh), mm = 4 - i ∧ i ≤ 4 ∧ (p ≤ p1 ∧ p1 ≤ p + 600 + 601 * (i : Int)) ∧ TabG w.heap.size w' (pa B) ms ∧ Small ms ∧ (3 ≤ ms.length ∧ ms.length ≤ 8) ∧ f' 3 = .slice (pa B) ms.length cap ∧ f' 4 = vi (i : Int) ∧ f' 0 = pt R 0 ∧ f' 2 = .slice none 0 0 ∧ w.grownBy w' (some R) ∧ Blk w' R 97 #[.slice a bs.length c, vi p1]) (4 - 0) ⟨0, bj, a8, ag, aq, Z, (Nat.zero_le _), (by omega), (TabG.mono as bd.size), ak, aw, Z, Z, Z, Z, (Xe bd be), bg⟩ ?_)))))))
 rintro mm bw ck ⟨i, p1, B, cap, ms, bq, hi, hpp, hTG, hTS, hTn, ai, ba, an, bi, ac, bc⟩
 have av := hTS.len
 refine Xi (Xa (wpo_move (v := vi (i : Int)) ba Z (wpo_lss (q := decide ((i : Int) < 4)) Z Z Z Z (wpo_move (v := vb (decide ((i : Int) < 4))) Z Z ?_))))
 rcases X1 (decide ((i : Int) < 4)) with E | E
 have bz := of_decide_eq_true E
 refine Xc Z Z Z E (wpo_move (v := pt R 0) an Z (Xc Z Z Z E (Xg Y7 (Xb Z (Xb Z Xf)) Z (Yi p1 16 (by omega) _ R bs _ _ _ bc (by omega) (SlLt.low1 hs ac hlo) (by first | exact hb | exact fun b h => hb b (List.mem_of_mem_take h)) (by first | omega | (rw [List.length_take]; omega))) ?_)))
 rintro _ cl ⟨am, rfl, bn, bp, af, ae⟩
 have ap := Xe ac ae
 refine Xc Z Z Z E (wpo_gtr (q := decide (0 < am)) Z Z Z Z (wpo_pickt (v := vb (decide (0 < am))) Z E Z Z (wpo_move (v := vb (decide (0 < am))) Z Z ?_)))
 rcases X1 (decide (0 < am)) with O | O
 have ca := of_decide_eq_true O
 refine Xc Z Z Z O (wpo_move (v := .slice (pa B) ms.length cap) ai Z (Xc Z Z Z O ?_))
 have aj := (TabG.lt hTG ae (by omega))
 refine Xg Dy (Xb Z Xf) Z (Uz  _ ms _ _ (TabG.at aj) av (by omega)) ?_
 rintro _ cm ⟨rfl, ab⟩
 have V := low0 ap ab
 refine Xc Z Z Z O (wpo_not (b' := !tableOk (tabT ms)) Z Z Z (wpo_pickt (v := vb (!tableOk (tabT ms))) Z O Z Z (wpo_nil (Xs Z (fun ao => ?_) (fun ao => ?_)))))
 have cc := Jd ao
 refine Xl (Xr (Xi (Xu (Xo (wpo_move (v := pt R 0) an Z (Xg D4 (Xb Z Xf) Z (Hd (p1 + 1) (by omega) _ R bs _ _ _ (af.grown0 ab) (by omega) (SlLt.low1 hs V hlo) (by first | exact hb | exact fun b h => hb b (List.mem_of_mem_take h)) (by first | omega | (rw [List.length_take]; omega))) ?_))))))
 rintro _ cn ⟨a9, ah, ar, bk, rfl, au, al, az, bu, bv, bh, bf⟩
 have bm := al.len
 exact wpo_assign (v := .slice (pa a9) ar.length ah) Z Z (wpo_nil (Y1 (Xr (Xo (wpo_move (v := vi (i : Int)) ba Z (wpo_add (c := (i : Int) + 1) Z Z (by omega) (by omega) (by omega) Z (wpo_assign (v := vi ((i : Int) + 1)) Z Z (wpo_nil (Xr (⟨4 - (i + 1), by omega, (i + 1), bk, a9, ah, ar, Z, (by omega), (by omega), (TabG.mono au V.size), al, az, Z, Z, an, bi, (Xe V bf), bh⟩))))))))))
 have cd := Qn ao
 exact Yn (Yx (Yx (Jk (Xr (Xa (wpo_move (v := .slice (pa B) ms.length cap) ai Z (wpo_assign (v := .slice (pa B) ms.length cap) Z Z (wpo_nil (Xk (⟨.slice (pa B) ms.length cap, res1 Z Z, B, cap, ms, (p1 + 1), Z, (TabG.low aj ab), hTS, hTn, by omega, by omega, (af.grown0 ab), V⟩))))))))))
 have ce := of_decide_eq_false O
 iterate 3 refine Xd rfl rfl rfl O rfl ?_
 refine wpo_pickf (v := vb false) Z O Z Z (wpo_nil (X7 Z Z (Yn (Yx (Yx (Jk (Xr (Xa (wpo_move (v := .slice (pa B) ms.length cap) ai Z (wpo_assign (v := .slice (pa B) ms.length cap) Z Z (wpo_nil (Xk ?_))))))))))))
 exact ⟨.slice (pa B) ms.length cap, res1 Z Z, B, cap, ms, (p1 + 1), Z, (TabG.lt hTG ae (by omega)), hTS, hTn, by omega, by omega, af, ap⟩
 have cg := of_decide_eq_false E
 iterate 3 refine Xd rfl rfl rfl E rfl ?_
 refine wpo_pickf (v := vb false) Z E Z Z (wpo_move (v := vb false) Z Z ?_)
 iterate 3 refine Xd rfl rfl rfl rfl rfl ?_
 refine wpo_pickf (v := vb false) Z Z Z Z (wpo_nil (X7 Z Z (Yn (Yx (Yx (Jk (Xr (Xa (wpo_move (v := .slice (pa B) ms.length cap) ai Z (wpo_assign (v := .slice (pa B) ms.length cap) Z Z (wpo_nil (Xk ?_))))))))))))
 exact ⟨.slice (pa B) ms.length cap, res1 Z Z, B, cap, ms, p1, Z, hTG, hTS, hTn, by omega, by omega, bc, ac⟩
end Go.Dw.J
end
section
namespace Go.Dw.J
open Go.RowKit Go.Dw Go.Proofs
set_option linter.unusedSectionVars false
set_option maxRecDepth 100000
set_option maxHeartbeats 4000000
set_option linter.unusedSimpArgs false
set_option linter.unusedVariables false
theorem Sc : goFn Try.prog 19 = true := by kernel_rfl
theorem F2 : goFn Try.prog 34 = true := by kernel_rfl
theorem F3 : goFn Try.prog 35 = true := by kernel_rfl
theorem M3 [Comp] (w : World) (ms : List MTh) (a : Option Addr) (c : Nat) (ht : TabAt w a ms) (hlen : TabLen ms) (hn : ms.length ≤ 1048576) : CallsR Try.prog 59 #[.slice a ms.length c] w (fun v w' => ∃ (B cap : Nat) (ys : List MTh), v = .slice (pa B) ys.length cap ∧ tabT ys = tabT ms ∧ w.heap.size ≤ B ∧ Dw.Own w' B 35 8 cap ys.length (ys.flatMap MTh.cells) ∧ RowsO 74 3 w.heap.size w' ys ∧ w.grownBy w' none) := by
 refine Xq (n := 32) Try.func59 Z Try.ntmps59 Z ?_
 have dh := World.grownBy.refl w none
 refine Xa (wpo_assign (v := .slice none 0 0) Z Z (wpo_nil (Xa (wpo_buildSlice (ps := []) (e := 35) (cs := (([] : List MTh).flatMap MTh.cells).toArray) Xv (fun _ => by kernel_rfl) Z ?_))))
 intro bt ee ar
 have bp := Xy ar dh
 refine wpo_assign (v := .slice (pa bt) 0 0) Z Z (wpo_nil (Xi (Xa (wpo_assign (v := vi 0) Z Z (wpo_nil (Xu (Yf (fun mm f' w' => ∃ (k : Nat) (Bt : Nat) (ct : Nat) (ys : List MTh), mm = ms.length - k ∧ k ≤ ms.length ∧ ys.length = k ∧ tabT ys = (tabT ms).take k ∧ RowsO 74 3 w.heap.size w' ys ∧ Dw.Own w' Bt 35 8 ct ys.length (ys.flatMap MTh.cells) ∧ w.heap.size ≤ Bt ∧ f' 3 = .slice (pa Bt) ys.length ct ∧ f' 4 = vi (k : Int) ∧ f' 0 = .slice a ms.length c ∧ f' 2 = .slice none 0 0 ∧ w.grownBy w' none) (ms.length - 0) ⟨0, bt, 0, ([] : List MTh), Z, (Nat.zero_le _), Z, Z, RowsO.nil, (Own.rows Y8 ar.blk (by simp)), bp, Z, Z, Z, Z, (low0 dh ar.grw)⟩ ?_)))))))
 rintro mm d6 dl ⟨k, Bt, ct, ys, d0, hk, hyk, hyt, hRO, hOt, hlBt, ca, az, a8, de, am⟩
 obtain ⟨hi, hhi⟩ : ∃ n, n = dl.heap.size := ⟨_, rfl⟩
 have aq := RowsO.hi hRO
 rw [← hhi] at aq
 have hhw : w.heap.size ≤ hi := by rw [hhi]; exact am.size
 have d9 := hOt.lt
 refine Xi (Xa (wpo_move (v := vi (k : Int)) az Z (wpo_move (v := .slice a ms.length c) a8 Z (wpo_len (by kernel_rfl) Z Z (wpo_lss (q := decide ((k : Int) < (ms.length : Int))) Z Z Z Z (wpo_nil (Xs Z (fun a9 => ?_) (fun a9 => ?_))))))))
 have d7 := of_decide_eq_true a9
 refine Xl (Xr (Xi (Xu (Xa (wpo_move (v := .slice a ms.length c) a8 Z (wpo_move (v := vi (k : Int)) az Z ?_))))))
 obtain ⟨d5, ed, ea, cy, db, dc⟩ := SlAt.at (TabAt.low ht am).1 (Yk (xg ms k))
 have dw := TabLen.at hlen (xg ms k)
 refine Xx Qc Z Z cy db (by omega) (by omega) Z (wpo_loadn (vs := [vi (mAt ms k).t.kind, vi (mAt ms k).t.lab.s, vi (mAt ms k).t.lab.v, vi (mAt ms k).t.ve, vi (mAt ms k).t.num, .slice (mAt ms k).sa (mAt ms k).t.slots.length (mAt ms k).sc, .slice (mAt ms k).qa (mAt ms k).t.queue.length (mAt ms k).qc, vi (mAt ms k).t.to]) Xw Z Z (Yl dc 0 8 Z) Z (wpo_alloc (cs := #[vi 0, vi 0, vi 0, vi 0, vi 0, .slice none 0 0, .slice none 0 0, vi 0]) Q1 Z Z ?_))
 intro bu ef ab
 have dr := Xy ab am
 have di : hi ≤ bu := nt (Nat.le_of_eq hhi) ab.ge
 have ck := Xn ab (hOt).lt
 refine wpo_storen (vs := [vi (mAt ms k).t.kind, vi (mAt ms k).t.lab.s, vi (mAt ms k).t.lab.v, vi (mAt ms k).t.ve, vi (mAt ms k).t.num, .slice (mAt ms k).sa (mAt ms k).t.slots.length (mAt ms k).sc, .slice (mAt ms k).qa (mAt ms k).t.queue.length (mAt ms k).qc, vi (mAt ms k).t.to]) (cs' := #[vi (mAt ms k).t.kind, vi (mAt ms k).t.lab.s, vi (mAt ms k).t.lab.v, vi (mAt ms k).t.ve, vi (mAt ms k).t.num, .slice (mAt ms k).sa (mAt ms k).t.slots.length (mAt ms k).sc, .slice (mAt ms k).qa (mAt ms k).t.queue.length (mAt ms k).qc, vi (mAt ms k).t.to]) Xw Z Z Z (by simp [Value.oneCell']) ab.blk (Nat.le_of_ble_eq_true Z) Z ?_
 intro eg af
 have bc := low1 (low0 am ab.grw) af.grw (by omega)
 refine wpo_nil (Xa (wpo_buildSlice (ps := []) (e := 74) (cs := (([] : List Rt).flatMap Rt.cells).toArray) Xv (fun _ => by kernel_rfl) Z ?_))
 intro bv dm O
 have dt := Xy O bc
 have bg : hi ≤ bv := nt (nt (nt (Nat.le_of_eq hhi) ab.grw.size) af.grw.size) O.ge
 have cc := ((hOt.grown0 ab.grw).gn af.grw)
 have cl := Xn O (cc).lt
 have bj := Xn O (af.blk).lt
 have as := low0 bc O.grw
 refine wpo_fieldAddr (o' := 5) Y4 Z Z Z ?_
 have cd := (af.blk.grown0 O.grw)
 refine wpo_load1 (v := .slice (mAt ms k).sa (mAt ms k).t.slots.length (mAt ms k).sc) Je Z (cd.cell Z) Z (wpo_appendN (g := Rt.cells) (ys := ([])) (zs := (mAt ms k).t.slots) (lo := hi) Sg Z Y6 (by omega) Lz Z Z (OwnN.of (Own.rows Y6 O.blk (by simp)) bg) (TabAt.th (TabAt.low ht as) (xg ms k)).1 (TabAt.th (TabAt.low ht as) (xg ms k)).2.2.1 (by first | omega | exact Nat.le_of_ble_eq_true rfl | (simp only [List.length_nil, List.length_cons, List.length_append, List.length_replicate]; omega) | (simp only [List.length_drop, List.length_nil]; omega)) (by omega) (nt (nt (nt (Nat.le_of_eq hhi) ab.grw.size) af.grw.size) O.grw.size) Z ?_)
 intro ak ac dn ba cz dx
 have ai : World.grownBy dm dn (some bv) := cz
 refine wpo_fieldAddr (o' := 5) Y4 Z Z Z ?_
 have bi := (cd.gn ai)
 refine wpo_store1 (v := .slice ak (mAt ms k).t.slots.length ac) (cs' := #[vi (mAt ms k).t.kind, vi (mAt ms k).t.lab.s, vi (mAt ms k).t.lab.v, vi (mAt ms k).t.ve, vi (mAt ms k).t.num, .slice ak (mAt ms k).t.slots.length ac, .slice (mAt ms k).qa (mAt ms k).t.queue.length (mAt ms k).qc, vi (mAt ms k).t.to]) Je Z Z Z bi (Nat.le_of_ble_eq_true Z) Z ?_
 intro eh ag
 have bd := low1 (low1 as ai (by omega)) ag.grw (by omega)
 refine wpo_nil (Xa (wpo_buildSlice (ps := []) (e := 3) (cs := (([] : List Int).flatMap icell).toArray) Xv (fun _ => by kernel_rfl) Z ?_))
 intro bw dp E
 have du := Xy E bd
 have bh : hi ≤ bw := nt (nt (nt (nt (nt (nt (Nat.le_of_eq hhi) ab.grw.size) af.grw.size) O.grw.size) ai.size) ag.grw.size) E.ge
 have ce := (((cc.grown0 O.grw).gn ai).gn ag.grw)
 have cm := Xn E (ce).lt
 have bk := Xn E (ag.blk).lt
 have au := low0 bd E.grw
 refine wpo_fieldAddr (o' := 6) Qt Z Z Z ?_
 have cg := (ag.blk.grown0 E.grw)
 refine wpo_load1 (v := .slice (mAt ms k).qa (mAt ms k).t.queue.length (mAt ms k).qc) J0 Z (cg.cell Z) Z (wpo_appendN (g := icell) (ys := ([])) (zs := (mAt ms k).t.queue) (lo := hi) N6 Z Yc (by omega) Vw Z Z (OwnN.of (Own.rows Yc E.blk (by simp)) bh) (TabAt.th (TabAt.low ht au) (xg ms k)).2.1 (TabAt.th (TabAt.low ht au) (xg ms k)).2.2.2 (by first | omega | exact Nat.le_of_ble_eq_true rfl | (simp only [List.length_nil, List.length_cons, List.length_append, List.length_replicate]; omega) | (simp only [List.length_drop, List.length_nil]; omega)) (by omega) (nt (nt (nt (nt (nt (nt (Nat.le_of_eq hhi) ab.grw.size) af.grw.size) O.grw.size) ai.size) ag.grw.size) E.grw.size) Z ?_)
 intro al ae dq co da dz
 have aj : World.grownBy dp dq (some bw) := da
 refine wpo_fieldAddr (o' := 6) Qt Z Z Z ?_
 have aw := (cg.gn aj)
 refine wpo_store1 (v := .slice al (mAt ms k).t.queue.length ae) (cs' := #[vi (mAt ms k).t.kind, vi (mAt ms k).t.lab.s, vi (mAt ms k).t.lab.v, vi (mAt ms k).t.ve, vi (mAt ms k).t.num, .slice ak (mAt ms k).t.slots.length ac, .slice al (mAt ms k).t.queue.length ae, vi (mAt ms k).t.to]) J0 Z Z Z aw (Nat.le_of_ble_eq_true Z) Z ?_
 intro ei ah
 have be := low1 (low1 au aj (by omega)) ah.grw (by omega)
 refine wpo_nil (Xo (wpo_move (v := .slice (pa Bt) ys.length ct) ca Z (wpo_loadn (vs := [vi (mAt ms k).t.kind, vi (mAt ms k).t.lab.s, vi (mAt ms k).t.lab.v, vi (mAt ms k).t.ve, vi (mAt ms k).t.num, .slice ak (mAt ms k).t.slots.length ac, .slice al (mAt ms k).t.queue.length ae, vi (mAt ms k).t.to]) Xw Z Z (ah.blk.rangeL 0 8 Z) Z (wpo_buildSlice (ps := [(0, .agg #[vi (mAt ms k).t.kind, vi (mAt ms k).t.lab.s, vi (mAt ms k).t.lab.v, vi (mAt ms k).t.ve, vi (mAt ms k).t.num, .slice ak (mAt ms k).t.slots.length ac, .slice al (mAt ms k).t.queue.length ae, vi (mAt ms k).t.to])]) (e := 35) (cs := (([(⟨⟨(mAt ms k).t.kind, (mAt ms k).t.lab, (mAt ms k).t.ve, (mAt ms k).t.num, (mAt ms k).t.slots, (mAt ms k).t.queue, (mAt ms k).t.to⟩, ak, ac, al, ae⟩ : MTh)] : List MTh).flatMap MTh.cells).toArray) (Xm Z Xv) (fun _ => by kernel_rfl) Z ?_))))
 intro bz ej V
 have dv := Xy V be
 have dk : hi ≤ bz := nt (nt (nt (nt (nt (nt (nt (nt (nt (Nat.le_of_eq hhi) ab.grw.size) af.grw.size) O.grw.size) ai.size) ag.grw.size) E.grw.size) aj.size) ah.grw.size) V.ge
 have cj := (((ce.grown0 E.grw).gn aj).gn ah.grw)
 have cn := Xn V (cj).lt
 have bl := Xn V (ah.blk).lt
 have bf := low0 be V.grw
 have ap := (cj.grown0 V.grw)
 refine wpo_append (g := MTh.cells) (ys := ys) (zs := ([(⟨⟨(mAt ms k).t.kind, (mAt ms k).t.lab, (mAt ms k).t.ve, (mAt ms k).t.num, (mAt ms k).t.slots, (mAt ms k).t.queue, (mAt ms k).t.to⟩, ak, ac, al, ae⟩ : MTh)] : List MTh)) M7 Z Y8 (by omega) Wc Z Z ap (Q9 Y8 V.blk) (by simp only [List.length_cons, List.length_nil]; omega) (by omega) Z ?_
 intro ao av ek cw an br
 have bq : w.heap.size ≤ ao := by rcases br with h | h; (rw [h]; exact hlBt); exact nt bf.size h
 have bm : bu ≠ ao := by have h := ((ah.blk.grown0 V.grw)).lt; omega
 have bn : bz ≠ ao := by have h := (V.blk).lt; omega
 refine wpo_assign (v := .slice (pa ao) (ys ++ ([(⟨⟨(mAt ms k).t.kind, (mAt ms k).t.lab, (mAt ms k).t.ve, (mAt ms k).t.num, (mAt ms k).t.slots, (mAt ms k).t.queue, (mAt ms k).t.to⟩, ak, ac, al, ae⟩ : MTh)] : List MTh)).length av) Z Z (wpo_nil (Y1 (Xr (Xo (wpo_move (v := vi (k : Int)) az Z (wpo_add (c := (k : Int) + 1) Z Z (by omega) (by omega) (by omega) Z (wpo_assign (v := vi ((k : Int) + 1)) Z Z (wpo_nil (Xr ?_)))))))))
 have cx := (OwnN.typ ((OwnN.typB (OwnN.typ ((OwnN.typB ba ag.grw bi (by decide)).grown0 E.grw) aj (Own.rows Yc E.blk (by simp)) (by decide)) ah.grw aw (by decide)).grown0 V.grw) an ap (by decide))
 exact ⟨ms.length - (k + 1), by omega, (k + 1), ao, av, (ys ++ ([(⟨⟨(mAt ms k).t.kind, (mAt ms k).t.lab, (mAt ms k).t.ve, (mAt ms k).t.num, (mAt ms k).t.slots, (mAt ms k).t.queue, (mAt ms k).t.to⟩, ak, ac, al, ae⟩ : MTh)] : List MTh)), Z, (by omega), (by rw [List.length_append, hyk]; rfl), (T3 hyt (xg ms k) Z), (RowsO.snoc (RowsO.own (RowsO.low (RowsO.ge (RowsO.ge (RowsO.low (RowsO.ge (RowsO.ge (RowsO.low (RowsO.ge (RowsO.low hRO ab.grw) af.grw aq (by omega)) O.grw) ai aq (by omega)) ag.grw aq (by omega)) E.grw) aj aq (by omega)) ah.grw aq (by omega)) V.grw) an ap (by decide) (by decide)) ⟨OwnN.mono (OwnN.typ ((OwnN.typB (OwnN.typ ((OwnN.typB ba ag.grw bi (by decide)).grown0 E.grw) aj (Own.rows Yc E.blk (by simp)) (by decide)) ah.grw aw (by decide)).grown0 V.grw) an ap (by decide)) hhw, OwnN.mono (OwnN.typ ((OwnN.typB co ah.grw aw (by decide)).grown0 V.grw) an ap (by decide)) hhw⟩ aq (fun S e => (L0 cx e).2)), cw, bq, Z, Z, a8, de, (low1 bf an (by omega))⟩
 have d8 := of_decide_eq_false a9
 exact Yn (Yx (Yx (Jk (Xr (Xa (wpo_move (v := .slice (pa Bt) ys.length ct) ca Z (wpo_assign (v := .slice (pa Bt) ys.length ct) Z Z (wpo_nil (Xk (⟨.slice (pa Bt) ys.length ct, res1 Z Z, Bt, ct, ys, Z, Bp hyt (by omega), hlBt, hOt, hRO, am⟩))))))))))
theorem H4 [Comp] (w : World) (ms ps : List MTh) (a b : Option Addr) (c e : Nat) (ht : TabAt w a ms) (hp : TabAt w b ps) (hlen : TabLen ms) (hlep : TabLen ps) (hn : ms.length ≤ 1048576) (hm : ps.length ≤ 1048576) : CallsR Try.prog 13 #[.slice a ms.length c, .slice b ps.length e] w (fun v w' => v = vb (decide (tabT ms = tabT ps)) ∧ w.grownBy w' none) := by
 refine Xq (n := 27) Try.func13 Z Try.ntmps13 Z ?_
 have a9 := World.grownBy.refl w none
 refine Xa (wpo_assign (v := vb false) Z Z (wpo_nil (Xi (Xa (wpo_move (v := .slice a ms.length c) Z Z (wpo_len (by kernel_rfl) Z Z (wpo_move (v := .slice b ps.length e) Z Z (wpo_len (by kernel_rfl) Z Z (wpo_neq (q := !(decide ((ms.length : Int) = (ps.length : Int)))) Z Z Z Z (wpo_nil (Xs Z (fun ac => ?_) (fun ac => ?_))))))))))))
 have az := Jd ac
 have bi := of_decide_eq_false az
 refine Xa (wpo_assign (v := vb false) Z Z (wpo_nil (Xk (X9 (⟨vb false, res1 Z Z, ?_, a9⟩)))))
 exact cB (decide_eq_false (fun h => by have := V4 h; omega)).symm
 have a8 := Qn ac
 have bj := of_decide_eq_true a8
 refine Xl (Xr (Xi (Xa (wpo_assign (v := vi 0) Z Z (wpo_nil (Xu (Yf (fun mm f' w' => ∃ (k : Nat), mm = ms.length - k ∧ k ≤ ms.length ∧ (tabT ms).take k = (tabT ps).take k ∧ f' 5 = vi (k : Int) ∧ f' 0 = .slice a ms.length c ∧ f' 1 = .slice b ps.length e ∧ w.grownBy w' none) (ms.length - 0) ⟨0, Z, (Nat.zero_le _), Z, Z, Z, Z, a9⟩ ?_)))))))
 rintro mm bh bd ⟨k, bg, hk, ha, V, ab, ah, E⟩
 refine Xi (Xa (wpo_move (v := vi (k : Int)) V Z (wpo_move (v := .slice a ms.length c) ab Z (wpo_len (by kernel_rfl) Z Z (wpo_lss (q := decide ((k : Int) < (ms.length : Int))) Z Z Z Z (wpo_nil (Xs Z (fun ae => ?_) (fun ae => ?_))))))))
 have bk := of_decide_eq_true ae
 refine Xl (Xr (Xi (Xu (Xi ?_))))
 obtain ⟨av, bp, ba, ak, aq, as⟩ := SlAt.at (TabAt.low ht E).1 (Yk (xg ms k))
 have be := TabLen.at hlen (xg ms k)
 obtain ⟨aw, bq, bc, al, ar, au⟩ := SlAt.at (TabAt.low hp E).1 (Yk (xg ps k))
 have bf := TabLen.at hlep (xg ps k)
 refine Qx (m := 8) (vals := [(17, .slice a ms.length c), (18, vi (k : Int)), (19, pt av ba), (20, .agg #[vi (mAt ms k).t.kind, vi (mAt ms k).t.lab.s, vi (mAt ms k).t.lab.v, vi (mAt ms k).t.ve, vi (mAt ms k).t.num, .slice (mAt ms k).sa (mAt ms k).t.slots.length (mAt ms k).sc, .slice (mAt ms k).qa (mAt ms k).t.queue.length (mAt ms k).qc, vi (mAt ms k).t.to]), (21, .slice b ps.length e), (22, vi (k : Int)), (23, pt aw bc), (24, .agg #[vi (mAt ps k).t.kind, vi (mAt ps k).t.lab.s, vi (mAt ps k).t.lab.v, vi (mAt ps k).t.ve, vi (mAt ps k).t.num, .slice (mAt ps k).sa (mAt ps k).t.slots.length (mAt ps k).sc, .slice (mAt ps k).qa (mAt ps k).t.queue.length (mAt ps k).qc, vi (mAt ps k).t.to])]) (fun w' => bd.grownBy w' none) Q4 (by kernel_rfl) (X5 _) ?_ ?_
 exact yl Z (fun _ _ k => wpo_move (v := .slice a ms.length c) ab Z k) (yl Z (fun _ _ kq => wpo_move (v := vi (k : Int)) V Z kq) (yl Z (fun _ _ k => Xx Qc Z Z ak aq (by omega) (by omega) Z k) (yl Z (fun _ an kq => wpo_loadn (vs := [vi (mAt ms k).t.kind, vi (mAt ms k).t.lab.s, vi (mAt ms k).t.lab.v, vi (mAt ms k).t.ve, vi (mAt ms k).t.num, .slice (mAt ms k).sa (mAt ms k).t.slots.length (mAt ms k).sc, .slice (mAt ms k).qa (mAt ms k).t.queue.length (mAt ms k).qc, vi (mAt ms k).t.to]) Xw Z Z (Yl (Yb as an) 0 8 Z) Z kq) (yl Z (fun _ _ k => wpo_move (v := .slice b ps.length e) ah Z k) (yl Z (fun _ _ kq => wpo_move (v := vi (k : Int)) V Z kq) (yl Z (fun _ _ k => Xx Qc Z Z al ar (by omega) (by omega) Z k) (yl Z (fun _ ao kq => wpo_loadn (vs := [vi (mAt ps k).t.kind, vi (mAt ps k).t.lab.s, vi (mAt ps k).t.lab.v, vi (mAt ps k).t.ve, vi (mAt ps k).t.num, .slice (mAt ps k).sa (mAt ps k).t.slots.length (mAt ps k).sc, .slice (mAt ps k).qa (mAt ps k).t.queue.length (mAt ps k).qc, vi (mAt ps k).t.to]) Xw Z Z (Yl (Yb au ao) 0 8 Z) Z kq) Ja)))))))
 intro br ap
 have O := low0 E ap
 refine Xg Sc (Xb Z (Xb Z Xf)) Z (Ud (mAt ms k) (mAt ps k) _ (TabAt.th (TabAt.low ht O) (xg ms k)) (TabAt.th (TabAt.low hp O) (xg ps k)) ⟨by first | omega | exact Nat.le_of_ble_eq_true Z | (simp only [List.length_nil, List.length_cons, List.length_append, List.length_replicate]; omega), by first | omega | exact Nat.le_of_ble_eq_true Z | (simp only [List.length_nil, List.length_cons, List.length_append, List.length_replicate]; omega)⟩ ⟨by first | omega | exact Nat.le_of_ble_eq_true Z | (simp only [List.length_nil, List.length_cons, List.length_append, List.length_replicate]; omega), by first | omega | exact Nat.le_of_ble_eq_true Z | (simp only [List.length_nil, List.length_cons, List.length_append, List.length_replicate]; omega)⟩) ?_
 rintro _ bt ⟨rfl, am⟩
 have ag := low0 O am
 refine wpo_not (b' := !(decide ((mAt ms k).t = (mAt ps k).t))) Z Z Z (wpo_nil (Xr (Xs Z (fun af => ?_) (fun af => ?_))))
 have ai := Jd af
 have bl := of_decide_eq_false ai
 refine Xa (wpo_assign (v := vb false) Z Z (wpo_nil (Xk (Qh (X9 (X9 (Qh (X9 (⟨vb false, res1 Z Z, ?_, ag⟩)))))))))
 exact cB (decide_eq_false (He (Vi (by omega)) (Vi (by omega)) (of_decide_eq_false ai))).symm
 have aj := Qn af
 have bm := of_decide_eq_true aj
 exact Xl (Y1 (Xr (Xo (wpo_move (v := vi (k : Int)) V Z (wpo_add (c := (k : Int) + 1) Z Z (by omega) (by omega) (by omega) Z (wpo_assign (v := vi ((k : Int) + 1)) Z Z (wpo_nil (Xr (⟨ms.length - (k + 1), by omega, (k + 1), Z, (by omega), (Vk ha (Vi (by omega)) (Vi (by omega)) (of_decide_eq_true aj)), Z, ab, ah, ag⟩)))))))))
 have bn := of_decide_eq_false ae
 refine Yn (Yx (Yx (Jk (Xr (Xa (wpo_assign (v := vb true) Z Z (wpo_nil (Xk (⟨vb true, res1 Z Z, ?_, E⟩)))))))))
 exact cB (decide_eq_true (Uu ha (by rw [Y2]; omega) (by rw [Y2]; omega))).symm
theorem Lq [Comp] (bs : List Int) (a : Option Addr) (c : Nat) (w : World) (hs0 : SlAt w a 1 (bs.map bcell)) (hb : ∀ b ∈ bs, 0 ≤ b ∧ b ≤ 255) (hn : bs.length ≤ 1048576) (hc : bs.length ≤ c) : CallsR Try.prog 11 #[.slice a bs.length c] w (fun v w' => ∃ (B cap : Nat) (ms : List MTh) (l : Lab), v = .tuple #[.slice (pa B) ms.length cap, .agg #[vi l.s, vi l.v]] ∧ TabG w.heap.size w' (pa B) ms ∧ Small ms ∧ (3 ≤ ms.length ∧ ms.length ≤ 8) ∧ (-1 ≤ l.s ∧ l.s ≤ 4 ∧ 0 ≤ l.v ∧ l.v ≤ 3) ∧ w.grownBy w' none) := by
 refine Xq (n := 13) Try.func11 Z Try.ntmps11 Z ?_
 have av := World.grownBy.refl w none
 have hs := SlAt.lt R9 (by omega) hs0
 refine Xa (wpo_assign (v := .slice none 0 0) Z Z (wpo_alloc (cs := #[vi 0, vi 0]) Sq Z Z ?_))
 intro bm bp ab
 have a8 := Xy ab av
 have ak := low0 av ab.grw
 refine wpo_nil (Xa (wpo_move (v := .slice a bs.length c) Z Z (Xg F2 (Xb Z Xf) Z (M4 bs a c _ (by omega) (by omega)) ?_)))
 rintro _ bq ⟨ae, rfl, aj, ao, am⟩
 have ag := low0 ak am
 have a9 := nt ak.size aj
 have ap := nl (ab.blk).lt aj
 refine wpo_assign (v := pt ae 0) Z Z (wpo_nil (Xa (wpo_move (v := pt ae 0) Z Z ?_)))
 have as := (ab.blk.grown0 am)
 have ba := (as).lt
 have bc := (ao).lt
 refine Xg F3 (Xb Z Xf) Z (S8 0 (by omega) _ ae (bs.take 2000) _ _ _ ao (by omega) (SlLt.low0 (SlLt.take hs 2000) ag) (by first | exact hb | exact fun b h => hb b (List.mem_of_mem_take h)) (by first | omega | (rw [List.length_take]; omega))) ?_
 rintro _ br ⟨ac, E, V, aw, rfl, aq, ai, ar, bd, be, au, an⟩
 have al := low1 ag an (by omega)
 have az := ai.len
 refine wpo_assign (v := .slice (pa ac) V.length E) Z Z (wpo_nil (Xa (wpo_move (v := .slice (pa ac) V.length E) Z Z (wpo_move (v := pt ae 0) Z Z (Xg D0 (Xb Z Xf) Z (Hc aw (by omega) _ ae (bs.take 2000) _ _ _ au (by omega) (SlLt.low0 (SlLt.take hs 2000) al) (by first | exact hb | exact fun b h => hb b (List.mem_of_mem_take h)) (by first | omega | (rw [List.length_take]; omega))) ?_)))))
 rintro _ bt ⟨O, bn, rfl, bh, bi, bj, bk, bf, bg, bl, ah⟩
 refine wpo_assign (v := .slice (pa ac) V.length E) Z Z (wpo_storen (vs := [vi O.s, vi O.v]) (cs' := #[vi O.s, vi O.v]) Yu Z Z Z (by simp [Value.oneCell']) ((as.gn an).gn ah) (Nat.le_of_ble_eq_true Z) Z ?_)
 intro bu af
 refine wpo_nil (Xk ?_)
 refine ⟨.tuple #[.slice (pa ac) V.length E, .agg #[vi O.s, vi O.v]], resTC Z Z (resCell_mk (vs := [vi O.s, vi O.v]) Yu Z Z (af.blk.rangeL 0 2 Z)), ac, E, V, O, Z, (TabG.mono (TabG.lt (TabG.lt aq ah (by omega)) af.grw (by omega)) ag.size), ai, ar, by omega, (low1 (low1 al ah (by omega)) af.grw (by omega))⟩
end Go.Dw.J
end
section
namespace Go.Dw.J
open Go.Dw Go.RowKit
open Go.Conc (G)
set_option linter.unusedVariables false
set_option linter.unusedSimpArgs false
set_option linter.unusedSectionVars false
inductive Tree
  | stop
  | node (kids : World → Tree)
def Tree.Kid (t' t : Tree) : Prop := ∃ k w, t = .node k ∧ t' = k w
theorem Pv : ∀ t : Tree, Acc Tree.Kid t
  | .stop => ⟨_, fun _ ⟨_, _, h, _⟩ => by cases h⟩
  | .node k => ⟨_, fun _ ⟨k', w, h, h'⟩ => by cases h; subst h'; exact Pv (k w)⟩
def chain : Nat → Tree
  | 0 => .stop
  | n + 1 => .node fun _ => chain n
theorem Wx (n : Nat) : Tree.Kid (chain n) (chain (n + 1)) := ⟨fun _ => chain n, default, rfl, rfl⟩
section
variable [Comp] {P : Program}
def Let (A w A' w' : World) (es : Array Event) : Prop := (A'.tape = A.tape ∧ Turns A w A' w' ∧ ∀ e ∈ es, EvOk A' e) ∨ Comp.sp A w A' w' es
def Fits (P : Program) (Stop : Goroutine → World → Prop) : Tree → Goroutine → World → Prop
  | .stop, g, A => Stop g A
  | .node k, g, A => g.status = .running ∧ ∀ w, Sees A w → Comp.inv A w → ∃ g' A' w' es, stepG P Comp.main g w = .go g' w' es ∧ Sees A' w' ∧ Let A w A' w' es ∧ ∃ A0, Ext A0 A' ∧ A'.tape = A0.tape ∧ Fits P Stop (k w) g' A0
def GoJ (P : Program) (Stop : Goroutine → World → Prop) (g : Goroutine) (A : World) : Prop := ∃ T A0, Ext A0 A ∧ A.tape = A0.tape ∧ Fits P Stop T g A0
theorem Mx {Stop : Goroutine → World → Prop} {g : Goroutine} {A : World} (h : Stop g A) : GoJ P Stop g A := ⟨.stop, A, Ext.refl A, rfl, h⟩
theorem Ra {Stop : Goroutine → World → Prop} (hok : Comp.ok (GoJ P Stop)) : Closed P (GoJ P Stop) := by
  refine ⟨fun g A h => ?_, fun g A A1 he ht ⟨T, A0, h1, h2, h3⟩ => ⟨T, A0, h1.trans he, ht.trans h2, h3⟩, hok⟩
  obtain ⟨hr, h⟩ := h
  have hch : ∀ w, ∃ T : Tree, Sees A w → Comp.inv A w → ∃ g' A' w' es, stepG P Comp.main g w = .go g' w' es ∧ Sees A' w' ∧ Let A w A' w' es ∧ ∃ A0, Ext A0 A' ∧ A'.tape = A0.tape ∧ Fits P Stop T g' A0 := fun w => by
    by_cases hs : Sees A w
    · by_cases hi : Comp.inv A w
      · obtain ⟨g', A', w', es, h1, h2, h3, T, A0, h4, h5, h6⟩ := h w hs hi
        exact ⟨T, fun _ _ => ⟨g', A', w', es, h1, h2, h3, A0, h4, h5, h6⟩⟩
      · exact ⟨.stop, fun _ h => absurd h hi⟩
    · exact ⟨.stop, fun h => absurd h hs⟩
  exact ⟨.node fun w => (hch w).choose, A, Ext.refl A, rfl, hr, fun w hs hi => (hch w).choose_spec hs hi⟩
end
def mkT (l : List Nat) : Tape := fun i _ => l.getD i 0
end Go.Dw.J
end
section
namespace Go.Dw.J
open Go.Dw Go.RowKit
open Go.Conc (G)
set_option linter.unusedVariables false
set_option linter.unusedSimpArgs false
set_option linter.unusedSectionVars false
section
variable [Comp] {P : Program}
def EntryR (P : Program) (k : FuncId) (args : Array Value) (A : World) (R : Value → World → Prop) : Prop := ∀ (ops : Array Oper) (o : Oper), Special P ops o (callFunc k args) A R
theorem Js {k : FuncId} {fn : Func} {args : Array Value} {A : World} {R : Value → World → Prop} {e : Array Value → Sem Value} (hf : P.funcs[k]? = some fn) (hname : (fn.name == "runtime.NumGoroutine") = false) (hb : fn.body.isNone = true) (hn : Extern.findNext fn = none) (he : Extern.find fn = some e)
    (h : ∀ w, Sees A w → Comp.inv A w → ∃ v A' w' evs, (e args).run P w = .ok v w' ∧ (e args).events P w #[⟨.mark (.extern k), false, true⟩] = #[⟨.mark (.extern k), false, true⟩] ++ evs ∧ (∀ x ∈ evs, x.sync = true ∧ ∀ g, x.loc ≠ .mark (.extern g)) ∧ Sees A' w' ∧ Let A w A' w' evs ∧ R v A') :
    EntryR P k args A R := fun ops o J hJ b hbk i rest kk cs a o' ho hd hw hs hk => by
  refine hJ.step _ _ ⟨rfl, fun w h1 h2 => ?_⟩
  obtain ⟨v, A', w', evs, h3, h4, h5, h6, h7, h8⟩ := h w h1 h2
  have hr : (execOp a.eval o').run P w = .ok (.value v) w' := by rw [hs, Go.run_callFunc_extern hf hname hb hn he, h3]; rfl
  refine ⟨_, A', w', evs, ?_, h6, h7, hk v A' h8⟩
  rw [Kb ho hw hbk hr, hd]
  unfold Go.Conc.listed
  rw [hs, Go.Conc.events_callFunc_extern hf hname hb hn he]
  simp only [List.push_toArray, List.nil_append]
  rw [h4, Go.Conc.seen_entry _ _ _ h5]
variable {n : Nat} {ops : Array Oper} {K : Fr → World → Prop} {l : List Oper} {f : Fr} {w : World} {ty : TypeId} {pos : String} {aft : Array Edge} {d : Nat}
theorem Qw {k : FuncId} {args : Array Operand} {tys : Array TypeId} {vs : List Value} {R : Value → World → Prop} (ha : args.toList.map (ev f) = vs) (hd : Nat.blt d n = true) (hc : EntryR P k vs.toArray w R)
    (h : ∀ v w', R v w' → WpO P n ops K l (up f d v) w') : WpO P n ops K (⟨some d, .call ⟨.value (.func k), args, tys⟩, ty, pos, aft, none⟩ :: l) f w := fun a hfa => by
  have e1 : args.map (ev f) = vs.toArray := by rw [← ha]; apply Array.ext'; simp
  have e2 : execOp a.eval ⟨some d, .call ⟨.value (.func k), args, tys⟩, ty, pos, aft, none⟩ = callFunc k vs.toArray := by
    rw [Go.Conc.execOp_call_func (a := a) rfl, hfa.eval, e1]
  exact Or.inl ⟨by simp [Region.wanted], Or.inr ⟨R, by rw [e2]; exact hc ops _, fun v A' hR => ⟨_, hfa.put hd v, h v A' hR⟩⟩⟩
end
end Go.Dw.J
end
section
namespace Go.Dw.J
open Go.Dw Go.RowKit
open Go.Conc (G crowd Past Leavers EvL Deaf_other mem_ofEvents crowd_pick awake_of woken_quitsD woken_run runT_crowd_go runT_many_ended Deaf_own)
open Go.ConcN (sumTo upd sumTo_upd upd_ne upd_same)
set_option linter.unusedVariables false
set_option linter.unusedSimpArgs false
set_option linter.unusedSectionVars false
def Runs (P : Program) (Post : Value → World → Prop) (m : Machine) (t : Trace) : Prop :=
  ∃ N last o w' t', runNT P (N + 1) m t = (.ended o w', t') ∧ runN P N m = .next last ∧ step P last = .ended o w' ∧ Go.Conc.Good P Post last o w' t'
theorem Runs.step {P : Program} {Post : Value → World → Prop} {m m' : Machine} {t : Trace} {ops : Array MemOp} (hs : stepT P m = (.next m', ops)) (h : Runs P Post m' (t ++ ops)) : Runs P Post m t := by
  obtain ⟨N, last, o, w', t', h1, h2, h3, h4⟩ := h
  exact ⟨N + 1, last, o, w', t', by rw [runNT_succ_next hs]; exact h1, by rw [runN_succ_next hs]; exact h2, h3, h4⟩
theorem Gv {A w : World} (h : Sees A w) (d : Nat) : Sees A (w.at d) := ⟨h.os, h.output, h.size, h.vis, h.nv⟩
class KeepD where
  B0 : Nat
  Wi : World
def Keep [KeepD] (A w : World) : Prop := KeepD.B0 ≤ w.heap.size ∧ ∀ b, b < KeepD.B0 → (Seen A b ∧ A.heap[b]? = w.heap[b]?) ∨ (¬ Seen A b ∧ w.heap[b]? = KeepD.Wi.heap[b]?)
theorem Keep.turns [KeepD] {A w A' w' : World} (h : Keep A w) (hT : Turns A w A' w') : Keep A' w' :=
  ⟨Nat.le_trans h.1 hT.le, fun b hb => (h.2 b hb).elim (fun ⟨h1, h2⟩ => .inl ⟨hT.see b h1, hT.eq b h1 h2⟩) fun ⟨h1, h2⟩ => .inr ⟨(hT.hid b (Nat.lt_of_lt_of_le hb h.1) h1).2, (hT.hid b (Nat.lt_of_lt_of_le hb h.1) h1).1.trans h2⟩⟩
def inBlk (b : Nat) : Loc → Prop
  | .cell a => a.block = b
  | .obj r => r = b
  | _ => False
structure BesInv [KeepD] (P : Program) (g : Goroutine) (A : World) (gs : Array Goroutine) (w : World) (t : Trace) (q : Nat → Nat) (Shun : Loc → Prop) : Prop where
  at0 : gs[0]? = some g
  tape : A.tape = mkT []
  gsz : ∀ op ∈ t, op.g < gs.size
  sees : Sees A w
  old : Leavers P t gs q
  past : Past Shun w.heap.size t
  quiet : Go.Conc.Quiet Shun t
  hid : ∀ l b, Shun l → inBlk b l → b < w.heap.size ∧ ¬ Seen A b
  lies : ∀ l, Shun l → ∃ b, inBlk b l
  keep : Keep A w
def Bes [KeepD] (P : Program) (Post : Value → World → Prop) (g : Goroutine) (A : World) : Prop :=
  ∀ gs w sl t q Shun, BesInv P g A gs w t q Shun → Runs P Post (crowd gs w sl) t
theorem U9 {t : Trace} {n g : Nat} {fn : FuncId} {pos : String} {es : Array Event} (h : ∀ op ∈ t, op.g < n) (hg : g < n) : ∀ op ∈ t ++ MemOp.ofEvents g fn pos es, op.g < n := fun op hop => by
  rcases Array.mem_append.1 hop with h1 | h1
  · exact h op h1
  · obtain ⟨e, _, rfl⟩ := Go.Conc.mem_ofEvents h1
    exact hg
theorem U7 {A w : World} {e : Event} {Shun : Loc → Prop} (h : EvOk A e) (hA : A.heap.size ≤ w.heap.size) (hS : ∀ l b, Shun l → inBlk b l → ¬ Seen A b) : EvL Shun w.heap.size e ∧ ∀ x, (MemAct.ofEvent e).touch? = some x → ¬ Shun x.loc := by
  cases h with
  | read h =>
    rename_i a
    have hn : ¬ Shun (.cell a) := fun hs => hS _ a.block hs rfl h
    refine ⟨⟨fun x hx hs => ?_, by simp, by simp, Nat.lt_of_lt_of_le h.1 hA⟩, fun x hx => ?_⟩ <;> (simp [MemAct.ofEvent, MemAct.touch?] at hx; subst hx)
    · exact absurd hs hn
    · exact hn
  | write h h2 =>
    rename_i a
    have hn : ¬ Shun (.cell a) := fun hs => hS _ a.block hs rfl h
    refine ⟨⟨fun x hx hs => ?_, by simp, by simp, Nat.lt_of_lt_of_le h.1 hA⟩, fun x hx => ?_⟩ <;> (simp [MemAct.ofEvent, MemAct.touch?] at hx; subst hx)
    · exact absurd hs hn
    · exact hn
  | obj h h2 =>
    rename_i r wr
    have hn : ¬ Shun (.obj r) := fun hs => hS _ r hs rfl h
    have e : MemAct.ofEvent ⟨.obj r, wr, false⟩ = .access ⟨.obj r, wr, false⟩ := by cases wr <;> rfl
    refine ⟨⟨fun x hx hs => ?_, by simp, by simp, by rw [e]; exact Nat.lt_of_lt_of_le h.1 hA⟩, fun x hx => ?_⟩ <;> (rw [e] at hx; simp [MemAct.touch?] at hx; subst hx)
    · exact absurd hs hn
    · exact hn
  | room => exact ⟨⟨fun x hx => by simp [MemAct.ofEvent, MemAct.touch?] at hx, by simp, by simp, trivial⟩, fun x hx => by simp [MemAct.ofEvent, MemAct.touch?] at hx⟩
end Go.Dw.J
end
section
namespace Go.Dw.J
open Go.Dw Go.RowKit
open Go.Conc (G crowd Past Leavers EvL Deaf Deaf_other mem_ofEvents crowd_pick awake awake_of woken woken_quitsD woken_run runT_crowd_go runT_many_ended Deaf_own)
open Go.ConcN (sumTo upd sumTo_upd upd_ne upd_same)
set_option linter.unusedVariables false
set_option linter.unusedSimpArgs false
set_option linter.unusedSectionVars false
@[instance_reducible] def comp0 (OK : (Goroutine → World → Prop) → Prop) : Comp := { main := true, inv := fun _ _ => True, sp := fun _ _ _ _ _ => False, ok := OK }
section
variable {P : Program} {Post : Value → World → Prop}
theorem Keep.ext [KeepD] {A A1 w : World} (h : Keep A1 w) (he : Ext A A1) : Keep A w := ⟨h.1, fun b hb => (h.2 b hb).elim (fun ⟨h1, h2⟩ => by
    have h3 : Seen A b := by
 obtain ⟨h4, h5⟩ := h1
 rcases Nat.lt_or_ge b A.heap.size with h6 | h6
 exact ⟨h6, by rw [← he.get h6]; exact h5⟩
 exact absurd (he.new h6 h4) h5
 exact .inl ⟨h3, (he.get h3.1).symm.trans h2⟩) fun ⟨h1, h2⟩ => .inr ⟨fun h3 => h1 ⟨nl h3.1 he.size, by rw [he.get h3.1]; exact h3.2⟩, h2⟩⟩
theorem T5 {A w A' w' : World} (h : Turns A w A' w') {Shun : Loc → Prop} (hS : ∀ l b, Shun l → inBlk b l → b < w.heap.size ∧ ¬ Seen A b) : ∀ l b, Shun l → inBlk b l → b < w'.heap.size ∧ ¬ Seen A' b := fun l b h1 h2 =>
  ⟨Nat.lt_of_lt_of_le (hS l b h1 h2).1 h.le, (h.hid b (hS l b h1 h2).1 (hS l b h1 h2).2).2⟩
theorem V0 {Shun : Loc → Prop} {t : Trace} {g : Nat} {fn : FuncId} {pos : String} {es : Array Event} (h : Go.Conc.Quiet Shun t) (hes : ∀ e ∈ es, ∀ x, (MemAct.ofEvent e).touch? = some x → ¬ Shun x.loc) : Go.Conc.Quiet Shun (t ++ MemOp.ofEvents g fn pos es) :=
  h.app fun op hop x hx hs => by
    obtain ⟨e, he, rfl⟩ := Go.Conc.mem_ofEvents hop
    exact absurd hs (hes e he x hx)
theorem Rj {e : Event} (h : e.mute = true) : (MemAct.ofEvent e).touch? = none := Go.Conc.touch_mute h
def Next0 (P : Program) (Post : Value → World → Prop) (gs : Array Goroutine) (w : World) (sl : Option (Nat × Nat)) (t : Trace) : Prop :=
  (∃ m ops, runT P (crowd gs w sl) 0 = (.next m, ops) ∧ Runs P Post m (t ++ ops)) ∨ (∃ o w' ops, runT P (crowd gs w sl) 0 = (.ended o w', ops) ∧ ∀ w0 sl0, Go.Conc.Good P Post (crowd gs w0 sl0) o w' (t ++ ops))
theorem K0 {gs : Array Goroutine} {w w1 : World} {sl E : Option (Nat × Nat)} {t : Trace} (hst : stepT P (crowd gs w sl) = runT P (crowd gs w1 E) 0) (h : Next0 P Post gs w1 E t) : Runs P Post (crowd gs w sl) t := by
 rcases h with ⟨m, ops, h1, h2⟩ | ⟨o, w', ops, h1, h2⟩
 exact Runs.step (hst.trans h1) h2
 have hs := hst.trans h1
 exact ⟨0, _, o, w', t ++ ops, by simp [runNT, hs], Z, by simp [step, hs], h2 w sl⟩
variable [KeepD]
theorem G3 {g : Goroutine} {A : World} (hr : g.status = .running) (h : ∀ gs w sl t q Shun, BesInv P g A gs w t q Shun → Next0 P Post gs w sl t) : Bes P Post g A := by
  have key : ∀ (M : Nat) (gs : Array Goroutine) (w : World) (sl : Option (Nat × Nat)) (t : Trace) (q : Nat → Nat) (Shun : Loc → Prop), sumTo gs.size q ≤ M → BesInv P g A gs w t q Shun → Runs P Post (crowd gs w sl) t := by
    intro M
    induction M with
    | zero =>
      intro gs w sl t q Shun hM I
      have haw : ∀ x ∈ gs, awake x := by
        intro x hx
        obtain ⟨i, hi, rfl⟩ := Array.mem_iff_getElem.1 hx
        rcases Nat.eq_zero_or_pos i with rfl | hpos
        · have : gs[0] = g := by simpa [Array.getElem?_eq_getElem hi] using I.at0
          rw [this]; exact awake_of (.inl hr)
        · exact awake_of ((I.old.old i _ hpos (Array.getElem?_eq_getElem hi)).status.elim .inl fun x => .inr (.inr x))
      obtain ⟨i, x, d, sl', hi, hg, hst⟩ := crowd_pick (P := P) (w := w) (sl := sl) haw ⟨0, g, I.at0, hr⟩
      rcases Nat.eq_zero_or_pos i with rfl | hpos
      · exact K0 hst (h gs (w.at d) sl' t q Shun ⟨I.at0, I.tape, I.gsz, Gv I.sees d, I.old, I.past, I.quiet, I.hid, I.lies, I.keep⟩)
      · have hq := I.old.old i x hpos hi
        have hlt : i < gs.size := (Array.getElem?_eq_some_iff.1 hi).1
        have hle := Go.ConcN.le_sumTo (f := q) hlt
        have h0 : q i = 0 := by omega
        rw [h0] at hq
        rw [hq.1] at hg; cases hg
    | succ M ih =>
      intro gs w sl t q Shun hM I
      have haw : ∀ x ∈ gs, awake x := by
        intro x hx
        obtain ⟨i, hi, rfl⟩ := Array.mem_iff_getElem.1 hx
        rcases Nat.eq_zero_or_pos i with rfl | hpos
        · have : gs[0] = g := by simpa [Array.getElem?_eq_getElem hi] using I.at0
          rw [this]; exact awake_of (.inl hr)
        · exact awake_of ((I.old.old i _ hpos (Array.getElem?_eq_getElem hi)).status.elim .inl fun x => .inr (.inr x))
      obtain ⟨i, x, d, sl', hi, hg, hst⟩ := crowd_pick (P := P) (w := w) (sl := sl) haw ⟨0, g, I.at0, hr⟩
      rcases Nat.eq_zero_or_pos i with rfl | hpos
      · exact K0 hst (h gs (w.at d) sl' t q Shun ⟨I.at0, I.tape, I.gsz, Gv I.sees d, I.old, I.past, I.quiet, I.hid, I.lies, I.keep⟩)
      · have hq := I.old.old i x hpos hi
        have hi0 : (i == 0) = false := by simp; omega
        have hlt : i < gs.size := (Array.getElem?_eq_some_iff.1 hi).1
        cases hqi : q i with
        | zero => rw [hqi] at hq; rw [hq.1] at hg; cases hg
        | succ k =>
          rw [hqi] at hq
          rcases hq with ⟨hf, _⟩ | ⟨_, g', es, hm, hstp, hq'⟩
          · rw [hf] at hg; cases hg
          have hrunT := runT_crowd_go (P := P) (sl := sl') (i := i) hi (by rw [hi0]; exact hstp (w.at d))
          have hsz : ((gs.map (woken P x g' (w.at d))).setIfInBounds i g').size = gs.size := by simp
          have hsum : sumTo gs.size (upd q i k) + (k + 1) = sumTo gs.size q + k := by
            have := sumTo_upd q k id hlt
            simpa [hqi] using this
          refine Runs.step (hst.trans hrunT) (ih _ _ _ _ (upd q i k) Shun (by rw [hsz]; omega) ⟨?_, I.tape, U9 (by rw [hsz]; exact I.gsz) (by rw [hsz]; exact hlt), Gv I.sees d, ⟨fun j y hj hy => ?_, fun j hj => ?_⟩, I.past.mute (by omega) hm, V0 I.quiet (fun e he x hx => by rw [Rj (hm e he)] at hx; cases hx), I.hid, I.lies, I.keep⟩)
          · have hne : i ≠ 0 := by omega
            rw [Array.getElem?_setIfInBounds_ne hne, Array.getElem?_map, I.at0]
            simp [woken_run hr]
          · by_cases hji : i = j
            · subst hji
              rw [Array.getElem?_setIfInBounds_self_of_lt (by simpa using hlt)] at hy
              obtain rfl := Option.some.inj hy
              rw [upd_same, Deaf_own]
              exact hq'
            · rw [Array.getElem?_setIfInBounds_ne hji, Array.getElem?_map] at hy
              obtain ⟨z, hz, rfl⟩ := Option.map_eq_some_iff.1 hy
              have hqj := I.old.old j z hj hz
              rw [woken_quitsD hqj, upd_ne q k (Ne.symm hji), Deaf_other t hji _ (fun op hop => by obtain ⟨e, _, rfl⟩ := Go.Conc.mem_ofEvents hop; rfl)]
              exact hqj
          · rw [Deaf_other t (g' := i) (by simp at hj; omega) _ (fun op hop => by obtain ⟨e, _, rfl⟩ := Go.Conc.mem_ofEvents hop; rfl)]
            exact I.old.above j (by simpa using hj)
  exact fun gs w sl t q Shun I => key _ gs w sl t q Shun (Nat.le_refl _) I
theorem Kj (OK : (Goroutine → World → Prop) → Prop) (hok : OK (Bes P Post)) : @Closed (comp0 OK) P (Bes P Post) := by
 letI := comp0 OK
 refine ⟨fun g A ⟨hr, h⟩ => G3 hr fun gs w sl t q Shun I => ?_, fun g A A1 he ht hJ gs w sl t q Shun I => hJ gs w sl t q Shun ⟨I.at0, ht.symm.trans I.tape, I.gsz, I.sees.ext he, I.old, I.past, I.quiet, fun l b h1 h2 => ⟨(I.hid l b h1 h2).1, fun hs => (I.hid l b h1 h2).2 ⟨nl hs.1 he.size, by rw [he.get hs.1]; exact hs.2⟩⟩, I.lies, I.keep.ext he⟩, hok⟩
 obtain ⟨g', A', w', es, h1, h2, h3, h4⟩ := h w I.sees trivial
 rcases h3 with ⟨hta, hT, hE⟩ | h3
 have hrunT := runT_crowd_go (P := P) (sl := sl) (i := 0) I.at0 (show stepG P (0 == 0) g w = _ from h1)
 have hlt : 0 < gs.size := (Array.getElem?_eq_some_iff.1 I.at0).1
 have hid' := T5 hT I.hid
 have hev := fun e he => U7 (hE e he) h2.size (Shun := Shun) fun l b x y => (hid' l b x y).2
 refine Or.inl ⟨_, _, hrunT, h4 _ _ _ _ q Shun ⟨by simp [hlt], hta.trans I.tape, U9 (by simpa using I.gsz) (by simpa using hlt), h2, ⟨fun j x hj hx => ?_, fun j hj => ?_⟩, (I.past.mono hT.le).own fun e he => (hev e he).1, V0 I.quiet fun e he => (hev e he).2, hid', I.lies, I.keep.turns hT⟩⟩
 have hne : 0 ≠ j := by omega
 rw [Array.getElem?_setIfInBounds_ne hne, Array.getElem?_map] at hx
 obtain ⟨y, hy, rfl⟩ := Option.map_eq_some_iff.1 hx
 have hq := I.old.old j y hj hy
 rw [woken_quitsD hq, Deaf_other t (by omega) _ (fun op hop => by obtain ⟨e, _, rfl⟩ := Go.Conc.mem_ofEvents hop; rfl)]
 exact hq
 rw [Deaf_other t (g' := 0) (by simp at hj; omega) _ (fun op hop => by obtain ⟨e, _, rfl⟩ := Go.Conc.mem_ofEvents hop; rfl)]
 exact I.old.above j (by simpa using hj)
 exact h3.elim
theorem Ck {g : Goroutine} {A : World} {v : Value} (hr : g.status = .running) (h : ∀ w, Sees A w → Keep A w → ∃ w' es, stepG P true g w = .ended (.done v) w' es ∧ (∀ e ∈ es, EvOk A e) ∧ Post v w') : Bes P Post g A :=
  G3 hr fun gs w sl t q Shun I => by
    obtain ⟨w', es, h1, h2, h3⟩ := h w I.sees I.keep
    have hrunT := runT_many_ended (P := P) (sl := sl) (i := 0) I.at0 (show stepG P (0 == 0) g w = _ from h1)
    have hev := fun e he => U7 (h2 e he) I.sees.size (Shun := Shun) fun l b x y => (I.hid l b x y).2
    have hP' := I.past.own (fn := g.frame.fn) (pos := g.frame.place) (es := es) fun e he => (hev e he).1
    refine Or.inr ⟨_, _, _, hrunT, fun w0 E => ⟨v, rfl, h3, hP'.clean, hP'.over, ⟨fun x hx => ?_, rfl⟩, fun j x hx hj => ?_⟩⟩
    · obtain ⟨j, hj⟩ := List.mem_iff_getElem?.1 hx
      rw [List.getElem?_drop] at hj
      exact ⟨_, (I.old.old (1 + j) x (by omega) (by simpa [crowd] using hj)).leaves⟩
    · have hq := I.old.old j x (by omega) hx
      refine ⟨q j, ?_⟩
      have e : (t ++ MemOp.ofEvents 0 g.frame.fn g.frame.place es).deaf j (t ++ MemOp.ofEvents 0 g.frame.fn g.frame.place es).size = Deaf t j :=
        Deaf_other t (g := j) (g' := 0) (by omega) _ (fun op hop => by obtain ⟨e, _, rfl⟩ := Go.Conc.mem_ofEvents hop; rfl)
      rw [e]
      exact hq.hears _
end
end Go.Dw.J
end
section
namespace Go.Dw.J
open Go.Dw Go.RowKit
open Go.Conc (G crowd solo Past Leavers)
set_option linter.unusedVariables false
set_option linter.unusedSimpArgs false
set_option linter.unusedSectionVars false
def seeO : Obj → Obj
  | .view _ _ => pz
  | o => o
def seeAll (W : World) : World := { W with heap := W.heap.map seeO, tape := mkT [] }
theorem Ju (W : World) (b : Nat) : (seeAll W).heap[b]? = (W.heap[b]?).map seeO := by simp [seeAll]
theorem Pq (W : World) : Sees (seeAll W) W := by
  refine ⟨rfl, rfl, by simp [seeAll], fun b hb => ?_, fun b at_ u e => ?_⟩
  · rw [Ju]
    cases h : W.heap[b]? with
    | none => exact Or.inl rfl
    | some o => cases o <;> first | exact Or.inl rfl | exact Or.inr (Or.inl rfl)
  · rw [Ju] at e
    cases h : W.heap[b]? with
    | none => rw [h] at e; cases e
    | some o => rw [h] at e; cases o <;> cases e
theorem Nc {W : World} {b : Nat} {c : Array Value} {T : TypeId} {fr : Nat × Nat} (h : W.heap[b]? = some (.cells c T fr)) : (seeAll W).heap[b]? = some (.cells c T fr) := by
  rw [Ju, h]; rfl
theorem Po {W : World} {a : Addr} {v : Value} (h : W.cell? a = some v) : (seeAll W).cell? a = some v := by
  obtain ⟨c, T, fr, h1, h2, h3⟩ := Kk h
  exact V9 (Nc h1) h2 h3
section
variable [KeepD] {P : Program} {Post : Value → World → Prop}
theorem Rz {g : Goroutine} {W : World} (hk : Keep (seeAll W) W) (h : Bes P Post g (seeAll W)) : Runs P Post (solo g W) #[] := by
  rw [Go.Conc.solo_eq_crowd]
  exact h #[g] W none #[] (fun _ => 0) (fun _ => False) ⟨rfl, rfl, by simp, Pq W, Go.Conc.leavers_one P g, Go.Conc.past_nil.mono (Nat.zero_le _), fun i op x hi => by simp at hi, fun l b h => h.elim, fun l h => h.elim, hk⟩
theorem Cn (OK : (Goroutine → World → Prop) → Prop) (hok : OK (Bes P Post)) {k : FuncId} {fn : Func} {c : Code} {args : Array Value} {A : World} {R : Value → World → Prop} {n : Nat}
    (hf : P.funcs[k]? = some fn) (hb : fn.body = some c) (hn : fn.ntmps = n) (hs : Nat.ble args.size n = true) (hin : P.inits.idxOf? k = none) (hpost : ∀ v A' w, R v A' → Sees A' w → Keep A' w → Post v w)
    (h : @Wpf (comp0 OK) P n (endQ P fn R) c (f0 args) A) : Bes P Post (G (Frame.enter P k args .normal) []) A := by
  letI := comp0 OK
  have hJ : Closed P (Bes P Post) := Kj OK hok
  have hs' : args.size ≤ n := by simpa [Nat.ble_eq] using hs
  rw [Go.Conc.enter_at args hf hb, ← G1 (b := Go.Conc.base k) rfl rfl]
  have leave : ∀ (a' : Act) (f' : Fr) (A' : World) (todo : List Item), FEq n a' f' → (∃ v, resV P fn f' A' v ∧ R v A') → Bes P Post (G { ato (Go.Conc.base k) a' todo with mode := .returning } []) A' := fun a' f' A' todo hf' ⟨v, hv, hR⟩ => by
    refine Ck (v := v) rfl fun w hsee hkeep => ?_
    have hr := hv (runW A' w) (Qb A' w) _ hf'.at_
    have h1 := Sem.runT_fst P (results fn a'.tmps) (runW A' w) #[]
    rw [hr] at h1
    obtain ⟨w', k1, k2, k3, k4⟩ := frame (results fn a'.tmps) (La fn a'.tmps) hsee.hid (x := v) (A' := runW A' w) (es' := ((results fn a'.tmps).runT P (runW A' w) #[]).2) (Prod.ext h1 rfl)
    obtain ⟨e1, e2⟩ := W4 k1
    refine ⟨w', seen P k ((results fn a'.tmps).runT P (runW A' w) #[]).2, ?_, fun e he => ?_, hpost v A' w' hR (Sees.ext k2.sees (Qb A' w)) ((hkeep.turns (V5 hsee k3 k2)).ext (Qb A' w).norm)⟩
    · have hd : a'.defers = [] := hf'.defers
      have hd0 : (default : Frame).defers = [] := rfl
      simp [G, stepG, unwind, doReturn, ato, Go.Conc.base, hd, hd0, hf, e1, e2, GStep.after, hin]
    · have h5 := Go.Conc.mem_seen he
      obtain ⟨r, h6, h7⟩ := k4
      rw [h6] at h5
      have h8 := h7 e (by simpa using h5)
      cases h8 with
      | read h => exact .read ((V2 _).1 h)
      | write h h2 => exact .write ((V2 _).1 h) (fun x => h2 (Rx x))
      | obj h h2 => exact .obj ((V2 _).1 h) (fun x => h2 (Rx x))
      | room => exact .room
  refine h (Bes P Post) hJ (Go.Conc.base k) (by simp [Go.Conc.base]) [] [] _ ⟨rfl, by simp [hn]; omega, fun i => ?_⟩ fun e a' f' A' hf' hQ => ?_
  · simp only [f0, Ue, Array.getD_eq_getD_getElem?, Array.getElem?_toList]
    by_cases hi : i < args.size
    · rw [Array.getElem?_append_left hi]
    · rw [Array.getElem?_append_right (by omega), Array.getElem?_eq_none (by omega : args.size ≤ i)]
      by_cases h2 : i - args.size < fn.ntmps - args.size
      · simp [h2]
      · rw [Array.getElem?_eq_none (by simp; omega)]
  · cases e with
    | normal => exact hJ.move rfl (fun w => W7 rfl) (leave a' f' A' _ hf' hQ)
    | ret => exact fun k2 => hJ.move rfl (fun w => K7 rfl) (leave a' f' A' _ hf' hQ)
    | exit i => exact hQ.elim
    | goto l => exact hQ.elim
    | panic c => exact hQ.elim
    | outgrown => exact hQ.elim
end
end Go.Dw.J
end
section
namespace Go.Dw.J
open Go.Dw Go.RowKit
open Go.Conc (G)
set_option linter.unusedVariables false
set_option linter.unusedSimpArgs false
set_option linter.unusedSectionVars false
def RBlk (w : World) (b : Nat) (T : TypeId) (cs : Array Value) : Prop := ∃ fr, w.heap[b]? = some (.cells cs T fr)
section
variable {w w' : World} {b : Nat} {T : TypeId} {cs : Array Value}
theorem RBlk.lt (h : RBlk w b T cs) : b < w.heap.size := let ⟨_, e⟩ := h; (Array.getElem?_eq_some_iff.1 e).1
theorem RBlk.cell (h : RBlk w b T cs) {i : Nat} {v : Value} (hv : cs[i]? = some v) : w.cell? ⟨b, i, none⟩ = some v := let ⟨_, e⟩ := h; V9 e rfl hv
theorem RBlk.range (h : RBlk w b T cs) {o : Nat} {vs : List Value} (hv : ∀ j v, vs[j]? = some v → cs[o + j]? = some v) : w.rangeAt b o vs := fun j v hj => h.cell (hv j v hj)
theorem RBlk.grown (h : RBlk w b T cs) {r : Option Nat} (hg : w.grownBy w' r) (hne : some b ≠ r) : RBlk w' b T cs := let ⟨fr, e⟩ := h; ⟨fr, (hg.block b h.lt hne).trans e⟩
theorem RBlk.grown0 (h : RBlk w b T cs) (hg : w.grownBy w' none) : RBlk w' b T cs := h.grown hg (by simp)
theorem RBlk.rangeL (h : RBlk w b T cs) (o k : Nat) {vs : List Value} (e : (cs.toList.drop o).take k = vs) : w.rangeAt b o vs :=
  h.range fun j v hj => by
    rw [← e, List.getElem?_take] at hj
    split at hj
    · rw [List.getElem?_drop] at hj; simpa using hj
    · cases hj
end
def g0 (A : World) : Nat := A.tape 0 .zeroSizeEq
def putRow (cs : Array Value) (sz k : Nat) (vs : List Value) : Array Value := (cs.toList.take (k * sz) ++ vs ++ cs.toList.drop (k * sz + sz)).toArray
def blind (A : World) : World := { A with heap := Array.replicate A.heap.size pz, tape := mkT [1] }
theorem P5 {A w w' : World} (h : Sees A w) (ho : w'.os = w.os) (hp : w'.output = w.output) (hs : w.heap.size ≤ w'.heap.size) : Sees (blind A) w' := by
  refine ⟨h.os.trans ho.symm, h.output.trans hp.symm, ?_, fun b hb => Or.inr (Or.inl ?_), fun b at_ u e => ?_⟩
  · simpa [blind] using Nat.le_trans h.size hs
  · have : b < A.heap.size := by simpa [blind] using hb
    simp [blind, this]
  · by_cases hb : b < A.heap.size
    · simp [blind, hb, pz] at e
    · simp [blind, hb] at e
theorem P4 {A : World} {b : Nat} : ¬ Seen (blind A) b := by
  rintro ⟨h1, h2⟩
  have : b < A.heap.size := by simpa [blind] using h1
  exact h2 (by simp [blind, this])
def hideB (A : World) (b : Nat) : World := { A with heap := A.heap.setIfInBounds b pz }
theorem J4 {A : World} {b c : Nat} (h : c ≠ b) : (hideB A b).heap[c]? = A.heap[c]? := by simp [hideB, Array.getElem?_setIfInBounds_ne (Ne.symm h)]
theorem Hb {A w : World} (h : Sees A w) (b : Nat) : Sees (hideB A b) w := by
  refine ⟨h.os, h.output, by simpa [hideB] using h.size, fun c hc => ?_, fun c at_ u e => ?_⟩
  · by_cases e : c = b
    · subst e
      exact Or.inr (Or.inl (by simp [hideB] at hc; simp [hideB, hc]))
    · rw [J4 e]; exact h.vis c (by simpa [hideB] using hc)
  · by_cases e2 : c = b
    · subst e2
      by_cases hc : c < A.heap.size
      · simp [hideB, hc, pz] at e
      · simp [hideB, hc] at e
    · rw [J4 e2] at e; exact h.nv _ _ _ e
theorem Jt {A : World} {b c : Nat} (h : Seen (hideB A b) c) : Seen A c ∧ c ≠ b := by
  obtain ⟨h1, h2⟩ := h
  have h3 : c < A.heap.size := by simpa [hideB] using h1
  by_cases e : c = b
  · subst e; exact absurd (by simp [hideB, h3]) h2
  · rw [J4 e] at h2; exact ⟨⟨h3, h2⟩, e⟩
structure RowStep (C n sz k : Nat) (TT : TypeId) (Out : List Value → World → Prop) (bx : Nat) (val : Value) (ety : TypeId) (A w A' w' : World) (es : Array Event) : Prop where
  g0 : g0 A = 0
  new : A' = blind A
  box : A.heap[bx]? = some (.cells #[val] ety (0, 0))
  row : ∃ cs vs, w.heap[C]? = some (.cells cs TT (0, 0)) ∧ cs.size = n * sz ∧ vs.length = sz ∧ Out vs (hideB A bx) ∧ w' = w.setRow C (putRow cs sz k vs)
  evs : ∀ e ∈ es, ∃ j, j < sz ∧ e = ⟨.cell ⟨C, k * sz + j, none⟩, true, false⟩
@[instance_reducible] def compW (C n sz k : Nat) (TT : TypeId) (Out : List Value → World → Prop) (bx : Nat) (val : Value) (ety : TypeId) : Comp where
  main := false
  inv A w := g0 A = 0 → n ≠ 0 → ∃ cs, w.heap[C]? = some (.cells cs TT (0, 0)) ∧ cs.size = n * sz
  sp := RowStep C n sz k TT Out bx val ety
  ok _ := True
theorem Hk {P : Program} {C o : Nat} {T : TypeId} : ∀ (vs : List Value) (i : Nat) (cur : Array Value) (w : World) (es : Array Event), w.heap[C]? = some (.cells cur T (0, 0)) → o + i + vs.length ≤ cur.size → (∀ v ∈ vs, v.oneCell' = true) →
    ∀ e ∈ (storeCells ⟨C, o, none⟩ vs i).events P w es, e ∈ es ∨ ∃ j, j < i + vs.length ∧ e = ⟨.cell ⟨C, o + j, none⟩, true, false⟩
  | [], i, cur, w, es, _, _, _, e, he => Or.inl (by simpa [storeCells] using he)
  | v :: vs, i, cur, w, es, hb, hl, h1, e, he => by
    have hlt : o + i < cur.size := by simp at hl; omega
    have hB : Blk w C T cur := hb
    have hc := hB.cell (i := o + i) (v := cur[o + i]) (by simp [hlt])
    have ha : (⟨C, o, none⟩ : Addr).add i = ⟨C, o + i, none⟩ := Addr.add_mid _ _ _
    have hr : (store ((⟨C, o, none⟩ : Addr).add i) v).run P w = .ok () (w.setRow C (cur.setIfInBounds (o + i) v)) := by
      rw [ha, run_store P w _ v _ (h1 v (by simp)), hc]
      simp [hB.froz (o + i), setCell_eq_setRow w C (o + i) cur T (0, 0) v hb]
    have hev : (store ((⟨C, o, none⟩ : Addr).add i) v).events P w es = es.push ⟨.cell ⟨C, o + i, none⟩, true, false⟩ := by
      rw [ha, Go.events_store P w es _ v _ (h1 v (by simp)), hc]
      simp only [hB.froz (o + i), Bool.false_eq_true, if_false]
      rfl
    unfold storeCells at he
    simp only [Sem.events_bind, hr, Result.evThen_ok, hev] at he
    rcases Hk vs (i + 1) _ _ _ (Qz hB (cur.setIfInBounds (o + i) v)).blk (by simp at hl ⊢; omega) (fun u hu => h1 u (by simp [hu])) e he with h | ⟨j, hj, h⟩
    · rcases Array.mem_push.1 h with h | h
      · exact Or.inl h
      · exact Or.inr ⟨i, by simp, h⟩
    · exact Or.inr ⟨j, by simp; omega, h⟩
theorem Gm {P : Program} {t k C o : Nat} {T : TypeId} {cs : Array Value} {vs : List Value} {w : World} (h : rowTy P t = some k) (hl : vs.length = k) (h1 : ∀ v ∈ vs, v.oneCell' = true) (hb : w.heap[C]? = some (.cells cs T (0, 0))) (ho : o + k ≤ cs.size) {e : Event}
    (he : e ∈ (Instr.storeAt t (.pointer (some ⟨C, o, none⟩)) (.agg vs.toArray)).events P w #[]) : ∃ j, j < k ∧ e = ⟨.cell ⟨C, o + j, none⟩, true, false⟩ := by
  obtain ⟨d, _, _, hs⟩ := Kq h
  cases hq : P.info? t with
  | none => simp [hq] at hs
  | some i =>
    have hi : i.size = k := by simpa [hq] using hs
    have e2 : (Instr.storeAt t (.pointer (some ⟨C, o, none⟩)) (.agg vs.toArray)).events P w #[] = (storeCells ⟨C, o, none⟩ vs 0).events P w #[] := by
      simp [Instr.storeAt, Instr.sureAddr, storeVar, sizeOf, typeInfo, hq, hi, Value.cells, hl]
    rw [e2] at he
    rcases Hk vs 0 cs w #[] hb (by omega) h1 e he with h | ⟨j, hj, h⟩
    · simp at h
    · exact ⟨j, by omega, h⟩
section
variable {P : Program} {C n sz k : Nat} {TT : TypeId} {Out : List Value → World → Prop} {bx : Nat} {val : Value} {ety : TypeId}
theorem Dp {nn : Nat} {ops : Array Oper} {K : Fr → World → Prop} {l : List Oper} {f : Fr} {w : World} {ty : TypeId} {pos : String} {aft : Array Edge} {t : TypeId} {x y : Operand} {vs : List Value} (ht : rowTy P t = some sz) (hx : ev f x = .pointer (some ⟨C, k * sz, none⟩)) (hy : ev f y = .agg vs.toArray) (hl : vs.length = sz)
    (h1 : ∀ v ∈ vs, v.oneCell' = true) (hk : k < n) (hg : g0 w = 0) (hbx : w.heap[bx]? = some (.cells #[val] ety (0, 0))) (hO : Out vs (hideB w bx)) (h : @WpO (compW C n sz k TT Out bx val ety) P nn ops K l f (blind w)) : @WpO (compW C n sz k TT Out bx val ety) P nn ops K (⟨none, .store t x y, ty, pos, aft, none⟩ :: l) f w := by
  letI := compW C n sz k TT Out bx val ety
  intro a ha
  refine Or.inl ⟨by simp [Region.wanted], Or.inr ⟨fun v A' => A' = blind w, ?_, fun v A' hR => ⟨f, ha, by rw [hR]; exact h⟩⟩⟩
  intro J hJ b hb i rest kk cs a2 o' ho hd hw hs hk'
  refine hJ.step _ _ ⟨rfl, fun w1 hsee hinv => ?_⟩
  obtain ⟨cur, hC, hsz⟩ := hinv hg (by omega)
  have hB : Blk w1 C TT cur := hC
  have hle : k * sz + sz ≤ cur.size := by
    rw [hsz]
    have : (k + 1) * sz ≤ n * sz := Nat.mul_le_mul_right _ hk
    rwa [Nat.add_mul, Nat.one_mul] at this
  have he : execOp a.eval ⟨none, .store t x y, ty, pos, aft, none⟩ = (do Instr.storeAt t (.pointer (some ⟨C, k * sz, none⟩)) (.agg vs.toArray); pure .skip : Sem Next) := by
    rw [ha.eval]
    show (do Instr.storeAt t (ev f x) (ev f y); pure .skip : Sem Next) = _
    rw [hx, hy]
  have hr : (execOp a2.eval o').run P w1 = .ok .skip (w1.setRow C (putRow cur sz k vs)) := by
    rw [hs, he, Sem.run_bind, Kr ht hl h1 hB hle]
    rfl
  refine ⟨_, blind w, w1.setRow C (putRow cur sz k vs), _, Ho ho hw hb hr, P5 hsee rfl rfl (Nat.le_of_eq (size_setRow _ _ _).symm), Or.inr ⟨hg, rfl, hbx, ⟨cur, vs, hC, hsz, hl, hO, rfl⟩, fun e hev => ?_⟩, ?_⟩
  · have h5 := Go.Conc.mem_seen hev
    rw [hs, he] at h5
    refine Gm ht hl h1 hC hle (e := e) ?_
    rw [Sem.events_bind, Kr ht hl h1 hB hle] at h5
    exact h5
  · rw [hd]; exact hk' undef _ rfl
end
end Go.Dw.J
end
section
namespace Go.Dw.J
open Go.Dw Go.RowKit
open Go.Conc (G)
set_option linter.unusedVariables false
set_option linter.unusedSimpArgs false
set_option linter.unusedSectionVars false
section
variable {α : Type} (r : α → α → Prop)
def FamR (N : Nat) (F' F : Nat → α) : Prop := ∃ i, i < N ∧ r (F' i) (F i) ∧ ∀ j, j ≠ i → F' j = F j
theorem G9 (hr : ∀ x, Acc r x) : ∀ (N : Nat) (F : Nat → α), Acc (FamR r N) F
  | 0, F => ⟨_, fun _ ⟨i, h, _⟩ => by omega⟩
  | N + 1, F => by
    have key : ∀ t, Acc r t → ∀ F : Nat → α, F N = t → Acc (FamR r (N + 1)) F := by
      intro t ht
      induction ht with
      | intro t _ ih =>
        intro F hF
        have inner : ∀ F, Acc (FamR r N) F → F N = t → Acc (FamR r (N + 1)) F := by
          intro F hF
          induction hF with
          | intro F _ ih2 =>
            intro hN
            refine ⟨_, fun F' ⟨i, hi, hk, ho⟩ => ?_⟩
            rcases Nat.lt_or_ge i N with h | h
            · exact ih2 F' ⟨i, h, hk, ho⟩ ((ho N (by omega)).trans hN)
            · have : i = N := by omega
              subst this
              exact ih (F' i) (hN ▸ hk) F' rfl
        exact inner F (G9 hr N F) hF
    exact key (F N) (hr _) F rfl
end
abbrev Sz := Nat × Tree
def Lo : Sz → Sz → Prop := Prod.Lex (· < ·) Tree.Kid
theorem M5 : ∀ x, Acc Lo x := (Prod.lex ⟨_, Nat.lt_wfRel.wf⟩ ⟨Tree.Kid, ⟨Pv⟩⟩).wf.apply
theorem Lo.stage {s s' : Nat} {t t' : Tree} (h : s' < s) : Lo (s', t') (s, t) := Prod.Lex.left _ _ h
theorem Lo.kid {s : Nat} {t t' : Tree} (h : Tree.Kid t' t) : Lo (s, t') (s, t) := Prod.Lex.right _ h
section
variable {A B w A' w' : World} {N0 : Nat}
theorem Sees.still (h : Sees B w) (ho : w'.os = w.os) (hp : w'.output = w.output) (hs : w.heap.size ≤ w'.heap.size) (hb : ∀ b, Seen B b → w'.heap[b]? = w.heap[b]?) : Sees B w' := by
  refine ⟨h.os.trans ho.symm, h.output.trans hp.symm, Nat.le_trans h.size hs, fun b hlt => ?_, h.nv⟩
  by_cases hse : B.heap[b]? = some pz
  · exact Or.inr (Or.inl hse)
  · rw [hb b ⟨hlt, hse⟩]; exact h.vis b hlt
def Rds (N0 : Nat) (A : World) : Prop := ∀ b, b < N0 → Ro A b ∨ ¬ Seen A b
theorem Rds.turns (h : Rds N0 A) (hN : N0 ≤ w.heap.size) (hT : Turns A w A' w') : Rds N0 A' := fun b hb => by
  rcases h b hb with hr | hn
  · obtain ⟨c, T, e, h2⟩ := hr
    exact Or.inl ⟨c, T, ((hT.read b ⟨c, T, e, h2⟩).2).trans e, h2⟩
  · exact Or.inr (hT.hid b (Nat.lt_of_lt_of_le hb hN) hn).2
theorem Rds.still (h : Rds N0 A) (hT : Turns A w A' w') (hN : N0 ≤ w.heap.size) {b : Nat} (hb : b < N0) : w'.heap[b]? = w.heap[b]? := by
  rcases h b hb with hr | hn
  · exact (hT.read b hr).1
  · exact (hT.hid b (Nat.lt_of_lt_of_le hb hN) hn).1
theorem Sees.other (hB : Sees B w) (hT : Turns A w A' w') (hlo : Rds N0 A) (hN : N0 ≤ w.heap.size) (hap : ∀ b, N0 ≤ b → Seen B b → ¬ Seen A b) : Sees B w' :=
  hB.still hT.os hT.output hT.le fun b hse => by
    rcases Nat.lt_or_ge b N0 with h | h
    · exact hlo.still hT hN h
    · exact (hT.hid b (Nat.lt_of_lt_of_le hse.1 hB.size) (hap b h hse)).1
theorem Turns.grow (hT : Turns A w A' w') {b : Nat} (h : Seen A' b) : Seen A b ∨ w.heap.size ≤ b := by
  rcases Nat.lt_or_ge b w.heap.size with h1 | h1
  · exact Or.inl (Classical.byContradiction fun hn => (hT.hid b h1 hn).2 h)
  · exact Or.inr h1
theorem Seen.ext {A A1 : World} (he : Ext A A1) {b : Nat} : Seen A1 b ↔ Seen A b := by
  constructor
  · rintro ⟨h1, h2⟩
    rcases Nat.lt_or_ge b A.heap.size with h3 | h3
    · exact ⟨h3, by rw [← he.get h3]; exact h2⟩
    · exact absurd (he.new h3 h1) h2
  · rintro ⟨h1, h2⟩
    exact ⟨Nat.lt_of_lt_of_le h1 he.size, by rw [he.get h1]; exact h2⟩
theorem Ro.ext {A A1 : World} (he : Ext A A1) {b : Nat} : Ro A b → Ro A1 b := fun h => let ⟨c, T, e, h2⟩ := h; ⟨c, T, by rw [he.get (Sj h)]; exact e, h2⟩
theorem Ro.ext' {A A1 : World} (he : Ext A A1) {b : Nat} (h : Ro A1 b) : Ro A b := by
  have hs := (Seen.ext he).1 (Dd h)
  obtain ⟨c, T, e, h2⟩ := h
  exact ⟨c, T, by rw [← he.get hs.1]; exact e, h2⟩
theorem Rds.ext {A1 : World} (he : Ext A A1) (h : Rds N0 A) : Rds N0 A1 := fun b hb => (h b hb).imp (Ro.ext he) fun hn hs => hn ((Seen.ext he).1 hs)
theorem Rds.ext' {A1 : World} (he : Ext A A1) (h : Rds N0 A1) : Rds N0 A := fun b hb => (h b hb).imp (Ro.ext' he) fun hn hs => hn ((Seen.ext he).2 hs)
end
end Go.Dw.J
end
section
namespace Go.CJ
open Go.Conc Go.ConcN
set_option linter.unusedVariables false
set_option linter.unusedSimpArgs false
set_option linter.unusedSectionVars false
structure Apart (s0 : Nat) (Sh : Loc → Prop) (Own Rd : Nat → Loc → Prop) : Prop where
  own : ∀ k k' l, s0 ≤ k → s0 ≤ k' → Own k l → Own k' l → k = k'
  ownRd : ∀ k k' l, s0 ≤ k → s0 ≤ k' → Own k l → ¬ Rd k' l
  ownSh : ∀ k l, s0 ≤ k → Own k l → ¬ Sh l
  rdSh : ∀ k l, s0 ≤ k → Rd k l → ¬ Sh l
structure CJ (s0 : Nat) (Sh : Loc → Prop) (Own Rd : Nat → Loc → Prop) (a : Addr) (t : Trace) (N : Nat) : Prop where
  quiet : Quiet Sh t
  own : ∀ k, s0 ≤ k → k < N → ∀ l, l.isMemory = true → Own k l → Perm t k l
  rd : ∀ k, s0 ≤ k → k < N → ∀ l, l.isMemory = true → Rd k l → PermW t k l
  free : ∀ l, l.isMemory = true → ¬ Sh l → (∀ k, s0 ≤ k → k < N → ¬ Own k l ∧ ¬ Rd k l) → Perm t 0 l
  mine : ∀ l, l.isMemory = true → ¬ Sh l → (∀ k, s0 ≤ k → k < N → ¬ Own k l) → PermW t 0 l
  nr : ∀ said, ¬ Race said t
  gs : ∀ op ∈ t, op.g < N
  old : ∀ (i : Nat) (x : Touch) (g : Nat), touchAt t i = some x → x.loc.isMemory = true → t.g? i = some g → g < s0 → Knows t 0 i ∨ (Sh x.loc ∧ x.kind = .atomic)
  new : ∀ (i : Nat) (x : Touch) (g : Nat), touchAt t i = some x → t.g? i = some g → s0 ≤ g → x.kind = .atomic → Sh x.loc
  over : ∀ i g, t.g? i = some g → g ≠ 0 → g < s0 → t.counts i → ∃ j, t.g? j = some 0 ∧ HappensBefore t i j
  norel : NoRelease a t
def Ok0 (s0 : Nat) (Sh : Loc → Prop) (Own Rd : Nat → Loc → Prop) (N : Nat) (op : MemOp) : Prop :=
  op.g = 0 ∧ ∀ x, op.act.touch? = some x → (Sh x.loc ∧ x.kind ≠ .plain) ∨ (¬ Sh x.loc ∧ (∀ k, s0 ≤ k → k < N → ¬ Own k x.loc) ∧ (x.write = true → ∀ k, s0 ≤ k → k < N → ¬ Rd k x.loc))
def OkW (Sh : Loc → Prop) (Own Rd : Nat → Loc → Prop) (k : Nat) (op : MemOp) : Prop :=
  op.g = k ∧ ∀ x, op.act.touch? = some x → (Sh x.loc ∧ x.kind ≠ .plain ∧ x.kind ≠ .said) ∨ (Own k x.loc ∧ x.kind ≠ .atomic) ∨ (Rd k x.loc ∧ x.write = false ∧ x.kind ≠ .atomic)
section
variable {s0 N : Nat} {Sh : Loc → Prop} {Own Rd : Nat → Loc → Prop} {a : Addr} {t u : Trace}
theorem Gq (h : CJ s0 Sh Own Rd a t N) (hu : ∀ op ∈ u, ∀ x, op.act.touch? = some x → op.g = 0 ∨ s0 ≤ op.g) : ∀ (i : Nat) (x : Touch) (g : Nat), touchAt (t ++ u) i = some x → x.loc.isMemory = true → (t ++ u).g? i = some g → g < s0 → Knows (t ++ u) 0 i ∨ (Sh x.loc ∧ x.kind = .atomic) := by
  intro i x g hx hm hg hs
  obtain ⟨op, ho, hox⟩ := touch_of hx
  rcases getElem?_append_cases ho with ⟨hlt, ho'⟩ | ⟨hge, hou⟩
  · exact (h.old i x g (by rw [touchAt_of ho']; exact hox) hm (by unfold Trace.g? at hg ⊢; rw [ho] at hg; rw [ho']; exact hg) hs).imp (·.app u) id
  · have e : op.g = g := by unfold Trace.g? at hg; rw [ho] at hg; simpa using hg
    rcases hu op hou x hox with h0 | h0
    · have := knows_own ho
      rw [h0] at this
      exact Or.inl this
    · omega
theorem Gp (h : CJ s0 Sh Own Rd a t N) (hu : ∀ op ∈ u, s0 ≤ op.g → ∀ x, op.act.touch? = some x → x.kind = .atomic → Sh x.loc) : ∀ (i : Nat) (x : Touch) (g : Nat), touchAt (t ++ u) i = some x → (t ++ u).g? i = some g → s0 ≤ g → x.kind = .atomic → Sh x.loc := by
  intro i x g hx hg hs hk
  obtain ⟨op, ho, hox⟩ := touch_of hx
  rcases getElem?_append_cases ho with ⟨hlt, ho'⟩ | ⟨hge, hou⟩
  · exact h.new i x g (by rw [touchAt_of ho']; exact hox) (by unfold Trace.g? at hg ⊢; rw [ho] at hg; rw [ho']; exact hg) hs hk
  · have e : op.g = g := by unfold Trace.g? at hg; rw [ho] at hg; simpa using hg
    exact hu op hou (by omega) x hox hk
theorem We (h : CJ s0 Sh Own Rd a t N) (hu : ∀ op ∈ u, ∀ x, op.act.touch? = some x → op.g = 0 ∨ s0 ≤ op.g) : ∀ i g, (t ++ u).g? i = some g → g ≠ 0 → g < s0 → (t ++ u).counts i → ∃ j, (t ++ u).g? j = some 0 ∧ HappensBefore (t ++ u) i j := by
  intro i g hg hne hs hc
  obtain ⟨x, hx, hc'⟩ := hc
  obtain ⟨op, hop, hox⟩ := touch_of hx
  rcases getElem?_append_cases hop with ⟨hi, hop'⟩ | ⟨_, hopu⟩
  · obtain ⟨j, hj, hb⟩ := h.over i g (by simpa [Trace.g?, getElem?_append_old hi] using hg) hne hs ((counts_old hi).1 ⟨x, hx, hc'⟩)
    have hjl : j < t.size := by
      unfold Trace.g? at hj
      obtain ⟨z, hz, _⟩ := Option.map_eq_some_iff.1 hj
      exact lt_size_of_getElem? hz
    exact ⟨j, by simpa [Trace.g?, getElem?_append_old hjl] using hj, hb_app u hb⟩
  · have e : op.g = g := by unfold Trace.g? at hg; rw [hop] at hg; simpa using hg
    rcases hu op hopu x hox with h0 | h0 <;> omega
theorem Uf (h : NoRelease a t) (hu : ∀ op ∈ u, op.act ≠ .mark (.release a)) : NoRelease a (t ++ u) := by
  intro i e
  unfold Trace.act? at e
  obtain ⟨op, ho, ha⟩ := Option.map_eq_some_iff.1 e
  rcases getElem?_append_cases ho with ⟨_, ho'⟩ | ⟨_, hou⟩
  · exact h i (by unfold Trace.act?; rw [ho']; simp [ha])
  · exact hu op hou ha
theorem CJ.app0 (A : Apart s0 Sh Own Rd) (hs : 1 ≤ s0) (hN : s0 ≤ N) (h : CJ s0 Sh Own Rd a t N) (hu : ∀ op ∈ u, Ok0 s0 Sh Own Rd N op) (hr : ∀ op ∈ u, op.act ≠ .mark (.release a)) : CJ s0 Sh Own Rd a (t ++ u) N := by
  refine ⟨h.quiet.app fun op hop x hx hs => ?_, fun k k1 kj l hm hl => (h.own k k1 kj l hm hl).app fun op hop b hb e => ?_, fun k k1 kj l hm hl => (h.rd k k1 kj l hm hl).app fun op hop b hb e hw => ?_,
    fun l hm hs hl => (h.free l hm hs hl).app fun op hop _ _ _ => (hu op hop).1, fun l hm hs hl => (h.mine l hm hs hl).app fun op hop _ _ _ _ => (hu op hop).1, fun said => ?_, fun op hop => ?_,
    Gq h fun op hop _ _ => Or.inl (hu op hop).1, Gp h fun op hop hs' => by have := (hu op hop).1; omega, We h fun op hop _ _ => Or.inl (hu op hop).1, Uf h.norel hr⟩
  · rcases (hu op hop).2 x hx with ⟨_, hk⟩ | ⟨hn, _⟩
    · exact ⟨hk, fun _ => (hu op hop).1⟩
    · exact absurd hs hn
  · rcases (hu op hop).2 b hb with ⟨hs, _⟩ | ⟨_, hn, _⟩
    · exact absurd (e ▸ hs) (A.ownSh k l k1 hl)
    · exact absurd (e ▸ hl) (hn k k1 kj)
  · rcases (hu op hop).2 b hb with ⟨hs, _⟩ | ⟨_, _, hn⟩
    · exact absurd (e ▸ hs) (A.rdSh k l k1 hl)
    · exact absurd (e ▸ hl) (hn hw k k1 kj)
  · refine noRace_append (h.nr said) (fun op hop => (hu op hop).1) (fun i x ha op hop b hb hc => ?_)
    rcases (hu op hop).2 b hb with ⟨hs, hk⟩ | ⟨hs, hno, hnr⟩
    · exact h.quiet.known hs hk (fun _ => rfl) i x ha hc
    · have hm : b.loc.isMemory = true := by rw [← hc.1]; exact hc.2.1
      cases hbw : b.write with
      | true => exact h.free b.loc hm hs (fun k k1 kj => ⟨hno k k1 kj, hnr hbw k k1 kj⟩) i x ha hc.1
      | false => exact h.mine b.loc hm hs hno i x ha hc.1 (hc.2.2.1.resolve_right (by simp [hbw]))
  · rcases Array.mem_append.1 hop with h1 | h1
    · exact h.gs op h1
    · rw [(hu op h1).1]; omega
theorem CJ.appW (A : Apart s0 Sh Own Rd) (h : CJ s0 Sh Own Rd a t N) {k : Nat} (k1 : s0 ≤ k) (kj : k < N) (hu : ∀ op ∈ u, OkW Sh Own Rd k op) (hr : ∀ op ∈ u, op.act ≠ .mark (.release a)) : CJ s0 Sh Own Rd a (t ++ u) N := by
  refine ⟨h.quiet.app fun op hop x hx hs => ?_, fun k' k1' kj' l hm hl => (h.own k' k1' kj' l hm hl).app fun op hop b hb e => ?_, fun k' k1' kj' l hm hl => (h.rd k' k1' kj' l hm hl).app fun op hop b hb e hw => ?_,
    fun l hm hs hl => (h.free l hm hs hl).app fun op hop b hb e => ?_, fun l hm hs hl => (h.mine l hm hs hl).app fun op hop b hb e hw => ?_, fun said => ?_, fun op hop => ?_,
    Gq h fun op hop _ _ => Or.inr (by rw [(hu op hop).1]; exact k1), Gp h fun op hop _ x hx hk => ?_, We h fun op hop _ _ => Or.inr (by rw [(hu op hop).1]; exact k1), Uf h.norel hr⟩
  · rcases (hu op hop).2 x hx with ⟨_, hk, hn⟩ | ⟨ho, _⟩ | ⟨hr, _⟩
    · exact ⟨hk, fun e => absurd e hn⟩
    · exact absurd hs (A.ownSh k _ k1 ho)
    · exact absurd hs (A.rdSh k _ k1 hr)
  · rcases (hu op hop).2 b hb with ⟨hs, _⟩ | ⟨ho, _⟩ | ⟨hr, _⟩
    · exact absurd (e ▸ hs) (A.ownSh k' l k1' hl)
    · rw [(hu op hop).1]; exact A.own k k' l k1 k1' (e ▸ ho) hl
    · exact absurd (e ▸ hr) (A.ownRd k' k l k1' k1 hl)
  · rcases (hu op hop).2 b hb with ⟨hs, _⟩ | ⟨ho, _⟩ | ⟨_, hr, _⟩
    · exact absurd (e ▸ hs) (A.rdSh k' l k1' hl)
    · exact absurd hl (A.ownRd k k' l k1 k1' (e ▸ ho))
    · rw [hr] at hw; cases hw
  · rcases (hu op hop).2 b hb with ⟨hs', _⟩ | ⟨ho, _⟩ | ⟨hr, _⟩
    · exact absurd (e ▸ hs') hs
    · exact absurd (e ▸ ho) (hl k k1 kj).1
    · exact absurd (e ▸ hr) (hl k k1 kj).2
  · rcases (hu op hop).2 b hb with ⟨hs', _⟩ | ⟨ho, _⟩ | ⟨_, hr, _⟩
    · exact absurd (e ▸ hs') hs
    · exact absurd (e ▸ ho) (hl k k1 kj)
    · rw [hr] at hw; cases hw
  · refine noRace_append (h.nr said) (fun op hop => (hu op hop).1) (fun i x ha op hop b hb hc => ?_)
    have hm : b.loc.isMemory = true := by rw [← hc.1]; exact hc.2.1
    rcases (hu op hop).2 b hb with ⟨hs, hk, hn⟩ | ⟨ho, _⟩ | ⟨hr, hbw, _⟩
    · exact h.quiet.known hs hk (fun e => absurd e hn) i x ha hc
    · exact h.own k k1 kj b.loc hm ho i x ha hc.1
    · exact h.rd k k1 kj b.loc hm hr i x ha hc.1 (hc.2.2.1.resolve_right (by simp [hbw]))
  · rcases Array.mem_append.1 hop with h1 | h1
    · exact h.gs op h1
    · rw [(hu op h1).1]; exact kj
  · rcases (hu op hop).2 x hx with ⟨hs, _⟩ | ⟨_, hn⟩ | ⟨_, _, hn⟩
    · exact hs
    · exact absurd hk hn
    · exact absurd hk hn
theorem CJ.appMute (h : CJ s0 Sh Own Rd a t N) {k : Nat} (hk : k < N) (hu : ∀ op ∈ u, op.g = k) (hn : ∀ op ∈ u, op.act.touch? = none) (hr : ∀ op ∈ u, op.act ≠ .mark (.release a)) : CJ s0 Sh Own Rd a (t ++ u) N := by
  have no : ∀ op ∈ u, ∀ b, op.act.touch? = some b → False := fun op hop b hb => by rw [hn op hop] at hb; cases hb
  exact ⟨h.quiet.app fun op hop x hx _ => (no op hop x hx).elim, fun k' k1' kj' l hm hl => (h.own k' k1' kj' l hm hl).app fun op hop b hb e => (no op hop b hb).elim, fun k' k1' kj' l hm hl => (h.rd k' k1' kj' l hm hl).app fun op hop b hb e hw => (no op hop b hb).elim,
    fun l hm hs hl => (h.free l hm hs hl).app fun op hop b hb e => (no op hop b hb).elim, fun l hm hs hl => (h.mine l hm hs hl).app fun op hop b hb e hw => (no op hop b hb).elim, fun said => noRace_append (h.nr said) hu fun i x ha op hop b hb hc => (no op hop b hb).elim, fun op hop => (Array.mem_append.1 hop).elim (h.gs op) fun h1 => by rw [hu op h1]; exact hk,
    Gq h fun op hop b hb => (no op hop b hb).elim, Gp h fun op hop _ x hx hk => (no op hop x hx).elim, We h fun op hop b hb => (no op hop b hb).elim, Uf h.norel hr⟩
theorem CJ.grow {Own' : Nat → Loc → Prop} (h : CJ s0 Sh Own Rd a t N) (hm : ∀ k l, Own k l → Own' k l) (hn : ∀ k l, Own' k l → Own k l ∨ ∀ i x, touchAt t i = some x → x.loc ≠ l) : CJ s0 Sh Own' Rd a t N := by
  refine ⟨h.quiet, fun k k1 kj l hmem hl => ?_, h.rd, fun l hmem hs hl => ?_, fun l hmem hs hl => ?_, h.nr, h.gs, h.old, h.new, h.over, h.norel⟩
  · rcases hn k l hl with h1 | h1
    · exact h.own k k1 kj l hmem h1
    · exact fun i x hx e => absurd e (h1 i x hx)
  · exact h.free l hmem hs fun k k1 kj => ⟨fun ho => (hl k k1 kj).1 (hm k l ho), (hl k k1 kj).2⟩
  · exact h.mine l hmem hs fun k k1 kj ho => hl k k1 kj (hm k l ho)
theorem CJ.fork (A : Apart s0 Sh Own Rd) (hs : s0 ≤ N) (h : CJ s0 Sh Own Rd a t N) {x y : MemOp} (hx : x.g = 0 ∧ x.act = .go N) (hy : y.g = N ∧ y.act = .start) (h0 : Deaf t 0 = 0) (hp : 1 ≤ N) : CJ s0 Sh Own Rd a (t ++ #[x, y]) (N + 1) := by
  have hk : Deaf t N = 0 := Deaf_absent fun i op hi e => by have := h.gs op (Array.mem_of_getElem? hi); omega
  have hnt : ∀ op ∈ #[x, y], ∀ b, op.act.touch? = some b → False := by
    intro op hop b hb
    simp only [List.mem_toArray, List.mem_cons, List.not_mem_nil, or_false] at hop
    rcases hop with rfl | rfl
    · rw [hx.2] at hb; cases hb
    · rw [hy.2] at hb; cases hb
  have old : ∀ {i : Nat} {b : Touch}, touchAt (t ++ #[x, y]) i = some b → touchAt t i = some b := by
    intro i b hb
    obtain ⟨z, hz, hza⟩ := touch_of hb
    rcases getElem?_append_cases hz with ⟨_, hz'⟩ | ⟨_, hzu⟩
    · rw [touchAt_of hz']; exact hza
    · exact (hnt z hzu b hza).elim
  refine ⟨h.quiet.app fun op hop b hb _ => (hnt op hop b hb).elim, fun k k1 kj l hm hl => ?_, fun k k1 kj l hm hl => ?_,
    fun l hm hs' hl => (h.free l hm hs' fun k k1 kj => hl k k1 (by omega)).app fun op hop b hb _ => (hnt op hop b hb).elim, fun l hm hs' hl => (h.mine l hm hs' fun k k1 kj => hl k k1 (by omega)).app fun op hop b hb _ _ => (hnt op hop b hb).elim, fun said => ?_, fun op hop => ?_,
    Gq h fun op hop b hb => (hnt op hop b hb).elim, Gp h fun op hop _ b hb _ => (hnt op hop b hb).elim, We h fun op hop b hb => (hnt op hop b hb).elim, Uf h.norel fun op hop e => ?_⟩
  · rcases Nat.lt_or_ge k N with hlt | hge
    · exact (h.own k k1 hlt l hm hl).app fun op hop b hb _ => (hnt op hop b hb).elim
    · obtain rfl : k = N := by omega
      exact fun i b ha e => fork_knows hx hy h0 hk (h.free l hm (A.ownSh _ l k1 hl) (fun k' k1' k'j => ⟨fun ho => by have := A.own _ _ l k1' k1 ho hl; omega, A.ownRd _ _ l k1 k1' hl⟩) i b (old ha) e)
  · rcases Nat.lt_or_ge k N with hlt | hge
    · exact (h.rd k k1 hlt l hm hl).app fun op hop b hb _ _ => (hnt op hop b hb).elim
    · obtain rfl : k = N := by omega
      exact fun i b ha e hw => fork_knows hx hy h0 hk (h.mine l hm (A.rdSh _ l k1 hl) (fun k' k1' _ ho => A.ownRd _ _ l k1' k1 ho hl) i b (old ha) e hw)
  · have e : t ++ #[x, y] = (t ++ #[x]) ++ #[y] := by apply Array.ext'; simp
    rw [e]
    refine noRace_append (g := N) (noRace_append (g := 0) (h.nr said) (fun op hop => by simp at hop; rw [hop]; exact hx.1) (fun i b _ op hop c hc _ => (hnt op (by simp at hop ⊢; exact .inl hop) c hc).elim))
      (fun op hop => by simp at hop; rw [hop]; exact hy.1) (fun i b _ op hop c hc _ => (hnt op (by simp at hop ⊢; exact .inr hop) c hc).elim)
  · rcases Array.mem_append.1 hop with h1 | h1
    · exact Nat.lt_succ_of_lt (h.gs op h1)
    · simp only [List.mem_toArray, List.mem_cons, List.not_mem_nil, or_false] at h1
      rcases h1 with rfl | rfl
      · rw [hx.1]; omega
      · rw [hy.1]; omega
  · simp only [List.mem_toArray, List.mem_cons, List.not_mem_nil, or_false] at hop
    rcases hop with rfl | rfl
    · rw [hx.2] at e; cases e
    · rw [hy.2] at e; cases e
end
end Go.CJ
end
section
namespace Go.CJ
open Go.Conc Go.ConcN
set_option linter.unusedVariables false
set_option linter.unusedSimpArgs false
set_option linter.unusedSectionVars false
section
variable {s0 N B : Nat} {Sh Shun : Loc → Prop} {Own Rd : Nat → Loc → Prop} {a : Addr} {t u : Trace}
theorem Ll {x : MemAct} {y : Touch} (h : x.touch? = some y) (hl : x.low B) : y.loc.low B := by
  cases x with
  | access e => simp only [MemAct.touch?, Option.some.injEq] at h; subst h; exact hl
  | mark m => cases m <;> simp only [MemAct.touch?, Option.some.injEq, reduceCtorEq] at h <;> (subst h; exact hl)
  | _ => cases h
theorem touchAt_low (hl : ∀ op ∈ t, op.act.low B) {i : Nat} {x : Touch} (h : touchAt t i = some x) : x.loc.low B := by
  obtain ⟨op, ho, hx⟩ := touch_of h
  exact Ll hx (hl op (Array.mem_of_getElem? ho))
theorem Ek (hg : ∀ op ∈ t, op.g < N) {i g : Nat} (h : t.g? i = some g) : g < N := by
  obtain ⟨op, ho, rfl⟩ := Option.map_eq_some_iff.1 h
  exact hg op (Array.mem_of_getElem? ho)
theorem CJ.start (hP : Past Shun B t) (hq : Quiet Shun t) (hg : ∀ op ∈ t, op.g < s0) (h1 : ∀ l, Sh l → Shun l ∨ ¬ l.low B) (h2 : ∀ l, Shun l → Sh l) (ha : B ≤ a.block) : CJ s0 Sh Own Rd a t s0 := by
  have kn : ∀ l, l.isMemory = true → ¬ Sh l → Perm t 0 l := fun l hm hs i x hx e => by
    subst e
    exact (hP.known i x hx hm).resolve_right fun h => hs (h2 _ h.1)
  refine ⟨fun i op x hi hx hs => ?_, fun k k1 kj => by omega, fun k k1 kj => by omega, fun l hm hs _ => kn l hm hs, fun l hm hs _ => PermW.of (kn l hm hs), hP.clean, hg, fun i x g hx hm hgi _ => (hP.known i x hx hm).imp id fun h => ⟨h2 _ h.1, h.2⟩, fun i x g hx hgi hs => ?_, fun i g hgi hne _ hc => hP.over i g hgi hne hc, fun i e => ?_⟩
  · rcases h1 _ hs with h | h
    · exact hq i op x hi hx h
    · exact absurd (Ll hx (hP.seen op (Array.mem_of_getElem? hi))) h
  · have := Ek hg hgi; omega
  · unfold Trace.act? at e
    obtain ⟨op, ho, ha'⟩ := Option.map_eq_some_iff.1 e
    have := hP.seen op (Array.mem_of_getElem? ho)
    rw [ha'] at this
    have : a.block < B := this
    omega
theorem CJ.past (h : CJ s0 Sh Own Rd a t N) (hl : ∀ op ∈ t, op.act.low B) (hd : Deaf t 0 = 0) {q : Nat} (hall : ∀ k, s0 ≤ k → k < N → ∃ r, RelBy a t k r ∧ r < q)
    (hq : t.act? q = some (.mark (.acquire a))) (hg : t.g? q = some 0) (hh : t.heard q) (hs0 : 1 ≤ s0) : Past Sh B t := by
  have edge : ∀ {k r : Nat}, RelBy a t k r → r < q → HappensBefore t r q := fun hr hrq => .single (.inr ⟨.marked hrq (.inr hr.act) hq (fun k _ _ => h.norel k), hr.heard, hh⟩)
  have before : ∀ {k r i : Nat}, RelBy a t k r → r < q → t.g? i = some k → i ≤ r → HappensBefore t i q := fun {k r i} hr hrq hi hle => by
    rcases Nat.lt_or_ge i r with hlt | hge
    · exact .trans (.single (.inl ⟨hlt, k, hi, hr.g⟩)) (edge hr hrq)
    · obtain rfl : i = r := by omega
      exact edge hr hrq
  obtain ⟨z, hz, hzg⟩ := Option.map_eq_some_iff.1 hg
  refine ⟨h.nr, fun i x hx hm => ?_, fun i g hgi hne hc => ?_, hd, hl⟩
  · obtain ⟨op, ho, hox⟩ := touch_of hx
    have hgi : t.g? i = some op.g := by unfold Trace.g?; rw [ho]; rfl
    rcases Nat.lt_or_ge op.g s0 with hlt | hge
    · exact h.old i x op.g hx hm hgi hlt
    · obtain ⟨r, hr, hrq⟩ := hall op.g hge (Ek h.gs hgi)
      by_cases hc : t.counts i
      · have hle : i ≤ r := Nat.le_of_not_lt fun hlt => hr.after i hlt hgi hc
        exact Or.inl ⟨q, z, hz, hzg, .inr (before hr hrq hgi hle)⟩
      · have hk : x.kind = .atomic := Classical.byContradiction fun hk => hc ⟨x, hx, hm, .inl hk⟩
        exact Or.inr ⟨h.new i x op.g hx hgi hge hk, hk⟩
  · rcases Nat.lt_or_ge g s0 with hlt | hge
    · exact h.over i g hgi hne hlt hc
    · obtain ⟨r, hr, hrq⟩ := hall g hge (Ek h.gs hgi)
      exact ⟨q, hg, before hr hrq hgi (Nat.le_of_not_lt fun hlt => hr.after i hlt hgi hc)⟩
end
end Go.CJ
end
section
namespace Go.Dw.J
open Go.Dw Go.RowKit
open Go.Conc (G crowd Goes Deaf QuitsD woken awake woken_run woken_quitsD Aside)
open Go.ConcR (KK WgAt stA smA Payload DC0)
open Go.ConcN (RW DWs AtR0 AtK1 AtD1 AtD2 AtD3 AtD4 WgLive Has RelBy PayAt AsideCell upd upd_same upd_ne)
set_option linter.unusedVariables false
set_option linter.unusedSimpArgs false
set_option linter.unusedSectionVars false
theorem Fits.status [Comp] {P : Program} {Stop : Goroutine → World → Prop} (hs : ∀ g A, Stop g A → g.status = .running) {T : Tree} {g : Goroutine} {A : World} (h : Fits P Stop T g A) : g.status = .running := by
  cases T with
  | stop => exact hs _ _ h
  | node k => exact h.1
theorem Jy {P : Program} {main : Bool} {R : World → World → Prop} {D : World → World → Array Event → Prop} {Stop : Goroutine → World → Prop} (hR : ∀ w, R w w) (hs : ∀ g w, Stop g w → g.status = .running) {m : Nat} {g : Goroutine} {w : World} (h : Goes P main R D Stop m g w) : g.status = .running := by
  cases m with
  | zero => exact hs _ _ (h w (hR w))
  | succ m => exact h.elim (fun h => hs _ _ (h w (hR w))) (fun h => h.1)
structure Ph where
  P : Program
  Post : Value → World → Prop
  ty : TypeId
  n : Nat
  C : Nat
  sz : Nat
  TT : TypeId
  Out : Nat → List Value → World → Prop
  Wg : Nat
  s0 : Nat
  Shun : Loc → Prop
  A0 : World
  W0 : World
structure WS where
  stage : Nat
  tr : Tree
  A : World
  AR : World
  row : List Value
  ob : Nat → Prop
  bx : Nat
  val : Value
section
variable [Payload] (ph : Ph)
def Ph.N0 : Nat := ph.Wg + 1
def ShP (l : Loc) : Prop := ph.Shun l ∨ inBlk ph.Wg l
def OwnP (D : Nat → WS) (k : Nat) (l : Loc) : Prop := (∃ b, inBlk b l ∧ (D k).ob b) ∨ ∃ j, j < ph.sz ∧ l = .cell ⟨ph.C, (k - ph.s0) * ph.sz + j, none⟩
def RdP (_ : Nat) (l : Loc) : Prop := ∃ b, inBlk b l ∧ b < ph.Wg ∧ b ≠ ph.C ∧ Seen ph.A0 b
def StopW (bx : Nat) (val : Value) (g : Goroutine) (A : World) : Prop :=
  g0 A = 1 ∧ g.status = .running ∧ ∀ w, WgLive ph.ty ph.Wg w ∧ Has bx 0 val w → ∃ m, Goes ph.P false (RW ph.ty ph.Wg bx 1 0 0) DC0 (AtR0 ph.P ph.ty ph.Wg bx 1 0 1 val) m g w
def FitsW (k : Nat) (x : WS) (g : Goroutine) (A : World) : Prop :=
  @Fits (compW ph.C ph.n ph.sz (k - ph.s0) ph.TT (ph.Out (k - ph.s0)) x.bx x.val Payload.ety) ph.P (StopW ph x.bx x.val) x.tr g A
inductive Sit (k : Nat) (x : WS) : Nat → Goroutine → World → Nat → Prop
  | go {g : Goroutine} {w : World} : FitsW ph k x g x.A → Sees x.A w → Rds ph.N0 x.A → ¬ Seen x.A ph.C → ¬ Seen x.A ph.Wg → (g0 x.A = 0 ∨ g0 x.A = 1) → (∀ b, ph.N0 ≤ b → Seen x.A b → x.ob b) → (∀ b, b < ph.N0 → Seen x.A b → Seen ph.A0 b) → Sit k x 8 g w 0
  | r0 {g : Goroutine} {w : World} {m : Nat} : x.tr = chain m → Goes ph.P false (RW ph.ty ph.Wg x.bx 1 0 0) DC0 (AtR0 ph.P ph.ty ph.Wg x.bx 1 0 1 x.val) m g w → Sit k x 7 g w 0
  | k1 {g : Goroutine} {w : World} {m : Nat} : x.tr = chain m → Goes ph.P false (RW ph.ty ph.Wg x.bx 1 0 0) DC0 (AtK1 ph.P ph.ty ph.Wg x.bx 1 0 1) m g w → Sit k x 6 g w 0
  | d1 {g : Goroutine} {w : World} {m : Nat} : x.tr = chain m → Goes ph.P false (RW ph.ty ph.Wg x.bx 1 0 0) DC0 (AtD1 ph.P ph.ty ph.Wg x.bx 1 0 1) m g w → Sit k x 5 g w 1
  | d2 {g : Goroutine} {w : World} {m : Nat} : x.tr = chain m → Goes ph.P false (RW ph.ty ph.Wg x.bx 1 0 0) DC0 (AtD2 ph.P ph.ty ph.Wg x.bx 1 0 1) m g w → Sit k x 4 g w 1
  | d3 {g : Goroutine} {w : World} {m : Nat} : x.tr = chain m → Goes ph.P false (RW ph.ty ph.Wg x.bx 1 0 0) DC0 (AtD3 ph.P ph.ty ph.Wg x.bx 1 0 1) m g w → Sit k x 3 g w 1
  | d4 {g : Goroutine} {w : World} {m : Nat} : x.tr = chain m → Goes ph.P false (RW ph.ty ph.Wg x.bx 1 0 0) DC0 (AtD4 ph.P ph.ty ph.Wg) m g w → Sit k x 2 g w 1
  | quit {g : Goroutine} {w : World} {m d : Nat} : x.tr = chain m → QuitsD ph.P m d g → Sit k x 1 g w d
structure Rec (k : Nat) (x : WS) (w : World) : Prop where
  sees : Sees x.AR w
  rds : Rds ph.N0 x.AR
  noC : ¬ Seen x.AR ph.C
  noWg : ¬ Seen x.AR ph.Wg
  out : ph.Out (k - ph.s0) x.row x.AR
  len : x.row.length = ph.sz
  laid : ∀ j v, x.row[j]? = some v → w.cell? ⟨ph.C, (k - ph.s0) * ph.sz + j, none⟩ = some v
  ob : ∀ b, ph.N0 ≤ b → Seen x.AR b → x.ob b
  fresh : x.stage = 8 → ∀ b, Seen x.A b → x.AR.heap.size ≤ b
  box : x.stage = 8 → w.heap[x.bx]? = some (.cells #[x.val] Payload.ety (0, 0)) ∧ ¬ Seen x.A x.bx
  nobx : ¬ Seen x.AR x.bx
  low0 : ∀ b, b < ph.N0 → Seen x.AR b → Seen ph.A0 b
end
section
variable [Payload] {ph : Ph} {k : Nat} {x : WS} {s d : Nat} {g : Goroutine} {w w' : World}
end
end Go.Dw.J
end
