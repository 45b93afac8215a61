/- Laws and walks: my templates, and what a program of mine (gen.py) printed out of the functions; only what the row reaches. -/
import Derived.Test.YtjpgffmkcmcolaaGreatDoorT21
section
namespace Go.Proofs.YtjpgffmkcmcolaaGreatDoor
open Go.RowKit Go.Dw
set_option maxRecDepth 100000
set_option maxHeartbeats 4000000
set_option linter.unusedSimpArgs false
set_option linter.unusedVariables false
theorem Ra (k to : Int) (l : Lab) (hk : ((decide (k = 2)) || (decide (k = 3))) = false) (hok : newOk k l to = true) (w : World) : CallsR Tryz.prog 111 #[vi k, .agg #[vi l.s, vi l.v], vi to] w (fun v w' => v = .tuple #[.agg #[vi k, vi l.s, vi l.v, vi 0, vi 0, .slice none 0 0, .slice none 0 0, vi to], vb true] ∧ w.grownBy w' none) := by
 refine Xx (n := 27) Tryz.func111 Z Tryz.ntmps111 Z ?_
 have ak := World.grownBy.refl w none
 have hlit : thingOk (⟨k, l, 0, 0, [], [], to⟩ : Th) = true := (Vx hk).symm.trans hok
 have ab : decide (k = 2) = false := Kq hk
 have aj : decide (k = 3) = false := Kr hk
 refine Xa (Qf (v := .agg #[vi l.s, vi l.v]) (cs := #[vi l.s, vi l.v]) Z Z Z ?_)
 intro ao ar J
 have al := Yj J ak
 have ad := low0 ak J.grw
 refine Ye (cs := #[vi 0, vi 0, vi 0, vi 0, vi 0, .slice none 0 0, .slice none 0 0, vi 0]) Kw Z Z ?_
 intro ap au E
 have am := Yj E ad
 have af := Xr E (J.blk).lt
 have ae := low0 ad E.grw
 refine Xe (v := vb false) Z Z (Xc (Xa (Xb (v := vi k) Z Z ?_)))
 have ai := (J.blk.grown0 E.grw)
 refine Xp (vs := [vi l.s, vi l.v]) Kb Z Z (ai.rangeL 0 2 Z) Z (Xb (v := vi to) Z Z (Y6 (ps := [(0, vi k), (1, .agg #[vi l.s, vi l.v]), (6, vi to)]) (v := .agg #[vi k, vi l.s, vi l.v, vi 0, vi 0, .slice none 0 0, .slice none 0 0, vi to]) (Xn Z (Xn Z (Xn Z X8))) (by kernel_rfl) Z (Ye (cs := #[vi 0, vi 0, vi 0, vi 0, vi 0, .slice none 0 0, .slice none 0 0, vi 0]) Kw Z Z ?_)))
 intro aq av G
 have an := Yj G ae
 have ag := Xr G (ai).lt
 have ah := Xr G (E.blk).lt
 refine X0 (vs := [vi k, vi l.s, vi l.v, vi 0, vi 0, .slice none 0 0, .slice none 0 0, vi to]) (cs' := #[vi k, vi l.s, vi l.v, vi 0, vi 0, .slice none 0 0, .slice none 0 0, vi to]) Y0 Z Z Z (by simp [Value.oneCell']) G.blk (Nat.le_of_ble_eq_true Z) Z ?_
 intro aw O
 refine Xc (Xq (Xa (Xb (v := vi k) Z Z (X3 (q := decide (k = 2)) Z Z Z Z (Xb (v := vb (decide (k = 2))) Z Z (Xf Z Z Z ab (Xb (v := vi k) Z Z (Xf Z Z Z ab (X3 (q := decide (k = 3)) Z Z Z Z (Xo (v := vb (decide (k = 3))) Z ab Z Z (Xc (Qc Z aj ?_))))))))))))
 refine Xw (Xu (Xq (Xa (Xp (vs := [vi k, vi l.s, vi l.v, vi 0, vi 0, .slice none 0 0, .slice none 0 0, vi to]) Y0 Z Z (O.blk.rangeL 0 8 Z) Z (Xl Cm (Xg Z Xk) Z (Hg (⟨⟨k, l, 0, 0, [], [], to⟩, none, 0, none, 0⟩ : MTh) _ SlAt.nil SlAt.nil (by first | omega | exact Nat.le_of_ble_eq_true rfl | (simp only [List.length_nil, List.length_cons, List.length_append, List.length_replicate]; omega)) (by first | omega | exact Nat.le_of_ble_eq_true rfl | (simp only [List.length_nil, List.length_cons, List.length_append, List.length_replicate]; omega))) ?_)))))
 rintro _ az ⟨rfl, V⟩
 refine Yl (b' := !thingOk (⟨k, l, 0, 0, [], [], to⟩ : Th)) Z Z Z (Xc (Qc Z (Qk hlit) (Xw (Xu (Xa (Xp (vs := [vi k, vi l.s, vi l.v, vi 0, vi 0, .slice none 0 0, .slice none 0 0, vi to]) Y0 Z Z ((O.blk.grown0 V).rangeL 0 8 Z) Z (X0 (vs := [vi k, vi l.s, vi l.v, vi 0, vi 0, .slice none 0 0, .slice none 0 0, vi to]) (cs' := #[vi k, vi l.s, vi l.v, vi 0, vi 0, .slice none 0 0, .slice none 0 0, vi to]) Y0 Z Z Z (by simp [Value.oneCell']) (((E.blk.grown0 G.grw).gn O.grw).grown0 V) (Nat.le_of_ble_eq_true Z) Z ?_)))))))
 intro a8 ac
 refine Xe (v := vb true) Z Z (Xc (Xt ?_))
 refine ⟨.tuple #[.agg #[vi k, vi l.s, vi l.v, vi 0, vi 0, .slice none 0 0, .slice none 0 0, vi to], vb true], Nw Z (Ym (vs := [vi k, vi l.s, vi l.v, vi 0, vi 0, .slice none 0 0, .slice none 0 0, vi to]) Y0 Z Z (ac.blk.rangeL 0 8 Z)) Z, Z, (low1 (low0 (low1 (low0 ae G.grw) O.grw (by omega)) V) ac.grw (by omega))⟩
theorem Ha (k to : Int) (l : Lab) (hk : ((decide (k = 2)) || (decide (k = 3))) = true) (hok : newOk k l to = true) (w : World) : CallsR Tryz.prog 86 #[vi k, .agg #[vi l.s, vi l.v], vi to] w (fun v w' => ∃ (S sc Q qc : Nat), v = .tuple #[.agg #[vi k, vi l.s, vi l.v, vi 0, vi 0, .slice (pa S) 4 sc, .slice (pa Q) 0 qc, vi to], vb true] ∧ w.heap.size ≤ S ∧ Dw.Own w' S 42 5 sc 4 (zeros4.flatMap Rt.cells) ∧ w.heap.size ≤ Q ∧ Dw.Own w' Q 3 1 qc 0 (([] : List Int).flatMap icell) ∧ S ≠ Q ∧ w.grownBy w' none) := by
 refine Xx (n := 24) Tryz.func86 Z Tryz.ntmps86 Z ?_
 have bv := World.grownBy.refl w none
 have hlit : thingOk (⟨k, l, 0, 0, zeros4, [], to⟩ : Th) = true := (Wt hk).symm.trans hok
 refine Xa (Qf (v := .agg #[vi l.s, vi l.v]) (cs := #[vi l.s, vi l.v]) Z Z Z ?_)
 intro cc cf ai
 have bw := Yj ai bv
 have al := low0 bv ai.grw
 refine Ye (cs := #[vi 0, vi 0, vi 0, vi 0, vi 0, .slice none 0 0, .slice none 0 0, vi 0]) Kw Z Z ?_
 intro cd cg ac
 have bx := Yj ac al
 have ar := Xr ac (ai.blk).lt
 have am := low0 al ac.grw
 refine Xe (v := vb false) Z Z (Xc (Xa (Xb (v := vi k) Z Z ?_)))
 have aq := (ai.blk.grown0 ac.grw)
 refine Xp (vs := [vi l.s, vi l.v]) Kb Z Z (aq.rangeL 0 2 Z) Z (Ya (ps := []) (e := 42) (cs := (([] : List Rt).flatMap Rt.cells).toArray) X8 (fun _ => by kernel_rfl) Z ?_)
 intro ak cj V
 have bz := Yj V am
 have au := Xr V (aq).lt
 have a8 := Xr V (ac.blk).lt
 have an := low0 am V.grw
 refine Ya (ps := []) (e := 3) (cs := (([] : List Int).flatMap icell).toArray) X8 (fun _ => by kernel_rfl) Z ?_
 intro O ck J
 have bh := Yj J an
 have bj := (aq.grown0 V.grw)
 have av := Xr J (bj).lt
 have bk := (ac.blk.grown0 V.grw)
 have a9 := Xr J (bk).lt
 have bc := Xr J (V.blk).lt
 have ao := low0 an J.grw
 refine Xb (v := vi to) Z Z (Y6 (ps := [(0, vi k), (1, .agg #[vi l.s, vi l.v]), (4, .slice (pa ak) 0 0), (5, .slice (pa O) 0 0), (6, vi to)]) (v := .agg #[vi k, vi l.s, vi l.v, vi 0, vi 0, .slice (pa ak) 0 0, .slice (pa O) 0 0, vi to]) (Xn Z (Xn Z (Xn Z (Xn Z (Xn Z X8))))) (by kernel_rfl) Z (Ye (cs := #[vi 0, vi 0, vi 0, vi 0, vi 0, .slice none 0 0, .slice none 0 0, vi 0]) Kw Z Z ?_))
 intro ce cl E
 have ca := Yj E ao
 have bl := (bj.grown0 J.grw)
 have aw := Xr E (bl).lt
 have bm := (bk.grown0 J.grw)
 have ba := Xr E (bm).lt
 have bn := (V.blk.grown0 J.grw)
 have bd := Xr E (bn).lt
 have bf := Xr E (J.blk).lt
 refine X0 (vs := [vi k, vi l.s, vi l.v, vi 0, vi 0, .slice (pa ak) 0 0, .slice (pa O) 0 0, vi to]) (cs' := #[vi k, vi l.s, vi l.v, vi 0, vi 0, .slice (pa ak) 0 0, .slice (pa O) 0 0, vi to]) Y0 Z Z Z (by simp [Value.oneCell']) E.blk (Nat.le_of_ble_eq_true Z) Z ?_
 intro cm ad
 refine Xc (Xq (Xa (Xb (v := vi k) Z Z (Xl Lo (Xg Z Xk) Z (V3 k _) ?_))))
 rintro _ cn ⟨rfl, af⟩
 have ap := low0 (low1 (low0 ao E.grw) ad.grw (by omega)) af
 refine Xc (Qg Z hk (X2 (L7 (g := Rt.cells) (z := Rt.zero) (c := 4) T6 Z Q7 (by omega) Z Z (by omega) (by omega) Z ?_)))
 intro ab co G
 have bi := Yj G ap
 have az := Xr G ((((bl.grown0 E.grw).gn ad.grw).grown0 af)).lt
 have bp := (((bm.grown0 E.grw).gn ad.grw).grown0 af)
 have bb := Xr G (bp).lt
 have be := Xr G ((((bn.grown0 E.grw).gn ad.grw).grown0 af)).lt
 have bq := (((J.blk.grown0 E.grw).gn ad.grw).grown0 af)
 have ah := Xr G (bq).lt
 have br := (ad.blk.grown0 af)
 have bg := Xr G (br).lt
 refine Xd (o' := 5) Qj Z Z Z (Yg (v := .slice (pa ab) 4 4) (cs' := #[vi k, vi l.s, vi l.v, vi 0, vi 0, .slice (pa ab) 4 4, .slice (pa O) 0 0, vi to]) Jh Z Z Z (br.grown0 G.grw) (Nat.le_of_ble_eq_true Z) Z ?_)
 intro ct ae
 refine Xc (Xu (Xq (Xa (Xp (vs := [vi k, vi l.s, vi l.v, vi 0, vi 0, .slice (pa ab) 4 4, .slice (pa O) 0 0, vi to]) Y0 Z Z (ae.blk.rangeL 0 8 Z) Z ?_))))
 have bt := (G.blk.gn ae.grw)
 have bu := ((bq.grown0 G.grw).gn ae.grw)
 refine Xl Rs (Xg Z Xk) Z (Us (⟨⟨k, l, 0, 0, zeros4, [], to⟩, some ⟨ab, 0, none⟩, 4, some ⟨O, 0, none⟩, 0⟩ : MTh) _ (Jw Q7 bt) (Jw Yv bu) (by first | omega | exact Nat.le_of_ble_eq_true rfl | (simp only [List.length_nil, List.length_cons, List.length_append, List.length_replicate]; omega)) (by first | omega | exact Nat.le_of_ble_eq_true rfl | (simp only [List.length_nil, List.length_cons, List.length_append, List.length_replicate]; omega))) ?_
 rintro _ cv ⟨rfl, ag⟩
 refine Yl (b' := !thingOk (⟨k, l, 0, 0, zeros4, [], to⟩ : Th)) Z Z Z (Xc (Qc Z (Qk hlit) (Xw (Xu (Xa (Xp (vs := [vi k, vi l.s, vi l.v, vi 0, vi 0, .slice (pa ab) 4 4, .slice (pa O) 0 0, vi to]) Y0 Z Z ((ae.blk.grown0 ag).rangeL 0 8 Z) Z (X0 (vs := [vi k, vi l.s, vi l.v, vi 0, vi 0, .slice (pa ab) 4 4, .slice (pa O) 0 0, vi to]) (cs' := #[vi k, vi l.s, vi l.v, vi 0, vi 0, .slice (pa ab) 4 4, .slice (pa O) 0 0, vi to]) Y0 Z Z Z (by simp [Value.oneCell']) (((bp.grown0 G.grw).gn ae.grw).grown0 ag) (Nat.le_of_ble_eq_true Z) Z ?_)))))))
 intro cw aj
 refine Xe (v := vb true) Z Z (Xc (Xt ?_))
 refine ⟨.tuple #[.agg #[vi k, vi l.s, vi l.v, vi 0, vi 0, .slice (pa ab) 4 4, .slice (pa O) 0 0, vi to], vb true], Nw Z (Ym (vs := [vi k, vi l.s, vi l.v, vi 0, vi 0, .slice (pa ab) 4 4, .slice (pa O) 0 0, vi to]) Y0 Z Z (aj.blk.rangeL 0 8 Z)) Z, ab, 4, O, 0, Z, bi, (Own.rows Q7 ((bt.grown0 ag).gn aj.grw) (by decide)), bh, (Own.rows Yv ((bu.grown0 ag).gn aj.grw) (by decide)), (Nat.ne_of_gt ah), (low1 (low0 (low1 (low0 ap G.grw) ae.grw (by omega)) ag) aj.grw (by omega))⟩
theorem Pu (k to : Int) (l : Lab) (hk : ((decide (k = 2)) || (decide (k = 3))) = true) (hok : newOk k l to = false) (w : World) : CallsR Tryz.prog 86 #[vi k, .agg #[vi l.s, vi l.v], vi to] w (fun v w' => v = .tuple #[.agg #[vi 0, vi 0, vi 0, vi 0, vi 0, .slice none 0 0, .slice none 0 0, vi 0], vb false] ∧ w.grownBy w' none) := by
 refine Xx (n := 24) Tryz.func86 Z Tryz.ntmps86 Z ?_
 have bq := World.grownBy.refl w none
 have hlit : thingOk (⟨k, l, 0, 0, zeros4, [], to⟩ : Th) = false := (Wt hk).symm.trans hok
 refine Xa (Qf (v := .agg #[vi l.s, vi l.v]) (cs := #[vi l.s, vi l.v]) Z Z Z ?_)
 intro bz cd af
 have br := Yj af bq
 have aj := low0 bq af.grw
 refine Ye (cs := #[vi 0, vi 0, vi 0, vi 0, vi 0, .slice none 0 0, .slice none 0 0, vi 0]) Kw Z Z ?_
 intro ca ce V
 have bt := Yj V aj
 have aq := Xr V (af.blk).lt
 have ak := low0 aj V.grw
 refine Xe (v := vb false) Z Z (Xc (Xa (Xb (v := vi k) Z Z ?_)))
 have ap := (af.blk.grown0 V.grw)
 refine Xp (vs := [vi l.s, vi l.v]) Kb Z Z (ap.rangeL 0 2 Z) Z (Ya (ps := []) (e := 42) (cs := (([] : List Rt).flatMap Rt.cells).toArray) X8 (fun _ => by kernel_rfl) Z ?_)
 intro ag cf O
 have bu := Yj O ak
 have ar := Xr O (ap).lt
 have az := Xr O (V.blk).lt
 have al := low0 ak O.grw
 refine Ya (ps := []) (e := 3) (cs := (([] : List Int).flatMap icell).toArray) X8 (fun _ => by kernel_rfl) Z ?_
 intro ad cg J
 have bv := Yj J al
 have bh := (ap.grown0 O.grw)
 have au := Xr J (bh).lt
 have bi := (V.blk.grown0 O.grw)
 have a8 := Xr J (bi).lt
 have bb := Xr J (O.blk).lt
 have am := low0 al J.grw
 refine Xb (v := vi to) Z Z (Y6 (ps := [(0, vi k), (1, .agg #[vi l.s, vi l.v]), (4, .slice (pa ag) 0 0), (5, .slice (pa ad) 0 0), (6, vi to)]) (v := .agg #[vi k, vi l.s, vi l.v, vi 0, vi 0, .slice (pa ag) 0 0, .slice (pa ad) 0 0, vi to]) (Xn Z (Xn Z (Xn Z (Xn Z (Xn Z X8))))) (by kernel_rfl) Z (Ye (cs := #[vi 0, vi 0, vi 0, vi 0, vi 0, .slice none 0 0, .slice none 0 0, vi 0]) Kw Z Z ?_))
 intro cc cj E
 have bw := Yj E am
 have bj := (bh.grown0 J.grw)
 have av := Xr E (bj).lt
 have bk := (bi.grown0 J.grw)
 have a9 := Xr E (bk).lt
 have bl := (O.blk.grown0 J.grw)
 have bc := Xr E (bl).lt
 have be := Xr E (J.blk).lt
 refine X0 (vs := [vi k, vi l.s, vi l.v, vi 0, vi 0, .slice (pa ag) 0 0, .slice (pa ad) 0 0, vi to]) (cs' := #[vi k, vi l.s, vi l.v, vi 0, vi 0, .slice (pa ag) 0 0, .slice (pa ad) 0 0, vi to]) Y0 Z Z Z (by simp [Value.oneCell']) E.blk (Nat.le_of_ble_eq_true Z) Z ?_
 intro ck ab
 refine Xc (Xq (Xa (Xb (v := vi k) Z Z (Xl Lo (Xg Z Xk) Z (V3 k _) ?_))))
 rintro _ cl ⟨rfl, ac⟩
 have an := low0 (low1 (low0 am E.grw) ab.grw (by omega)) ac
 refine Xc (Qg Z hk (X2 (L7 (g := Rt.cells) (z := Rt.zero) (c := 4) T6 Z Q7 (by omega) Z Z (by omega) (by omega) Z ?_)))
 intro ah cm G
 have bx := Yj G an
 have aw := Xr G ((((bj.grown0 E.grw).gn ab.grw).grown0 ac)).lt
 have bm := (((bk.grown0 E.grw).gn ab.grw).grown0 ac)
 have ba := Xr G (bm).lt
 have bd := Xr G ((((bl.grown0 E.grw).gn ab.grw).grown0 ac)).lt
 have bn := (((J.blk.grown0 E.grw).gn ab.grw).grown0 ac)
 have bf := Xr G (bn).lt
 have bp := (ab.blk.grown0 ac)
 have bg := Xr G (bp).lt
 refine Xd (o' := 5) Qj Z Z Z (Yg (v := .slice (pa ah) 4 4) (cs' := #[vi k, vi l.s, vi l.v, vi 0, vi 0, .slice (pa ah) 4 4, .slice (pa ad) 0 0, vi to]) Jh Z Z Z (bp.grown0 G.grw) (Nat.le_of_ble_eq_true Z) Z ?_)
 intro cn ae
 refine Xc (Xu (Xq (Xa (Xp (vs := [vi k, vi l.s, vi l.v, vi 0, vi 0, .slice (pa ah) 4 4, .slice (pa ad) 0 0, vi to]) Y0 Z Z (ae.blk.rangeL 0 8 Z) Z (Xl Rs (Xg Z Xk) Z (Us (⟨⟨k, l, 0, 0, zeros4, [], to⟩, some ⟨ah, 0, none⟩, 4, some ⟨ad, 0, none⟩, 0⟩ : MTh) _ (Jw Q7 (G.blk.gn ae.grw)) (Jw Yv ((bn.grown0 G.grw).gn ae.grw)) (by first | omega | exact Nat.le_of_ble_eq_true rfl | (simp only [List.length_nil, List.length_cons, List.length_append, List.length_replicate]; omega)) (by first | omega | exact Nat.le_of_ble_eq_true rfl | (simp only [List.length_nil, List.length_cons, List.length_append, List.length_replicate]; omega))) ?_)))))
 rintro _ co ⟨rfl, ao⟩
 refine Yl (b' := !thingOk (⟨k, l, 0, 0, zeros4, [], to⟩ : Th)) Z Z Z (Xc (Qg Z (Qq hlit) (Xa (Y6 (ps := []) (v := .agg #[vi 0, vi 0, vi 0, vi 0, vi 0, .slice none 0 0, .slice none 0 0, vi 0]) X8 (by kernel_rfl) Z (X0 (vs := [vi 0, vi 0, vi 0, vi 0, vi 0, .slice none 0 0, .slice none 0 0, vi 0]) (cs' := #[vi 0, vi 0, vi 0, vi 0, vi 0, .slice none 0 0, .slice none 0 0, vi 0]) Y0 Z Z Z (by simp [Value.oneCell']) (((bm.grown0 G.grw).gn ae.grw).grown0 ao) (Nat.le_of_ble_eq_true Z) Z ?_)))))
 intro ct ai
 refine Xe (v := vb false) Z Z (Xc (Xt (Yk ?_)))
 refine ⟨.tuple #[.agg #[vi 0, vi 0, vi 0, vi 0, vi 0, .slice none 0 0, .slice none 0 0, vi 0], vb false], Nw Z (Ym (vs := [vi 0, vi 0, vi 0, vi 0, vi 0, .slice none 0 0, .slice none 0 0, vi 0]) Y0 Z Z (ai.blk.rangeL 0 8 Z)) Z, Z, (low1 (low0 (low1 (low0 an G.grw) ae.grw (by omega)) ao) ai.grw (by omega))⟩
theorem Vf (k to : Int) (l : Lab) (hk : ((decide (k = 2)) || (decide (k = 3))) = false) (hok : newOk k l to = true) (w : World) : CallsR Tryz.prog 86 #[vi k, .agg #[vi l.s, vi l.v], vi to] w (fun v w' => ∃ (S sc Q qc : Nat), v = .tuple #[.agg #[vi k, vi l.s, vi l.v, vi 0, vi 0, .slice (pa S) 0 sc, .slice (pa Q) 0 qc, vi to], vb true] ∧ w.heap.size ≤ S ∧ Dw.Own w' S 42 5 sc 0 (([] : List Rt).flatMap Rt.cells) ∧ w.heap.size ≤ Q ∧ Dw.Own w' Q 3 1 qc 0 (([] : List Int).flatMap icell) ∧ S ≠ Q ∧ w.grownBy w' none) := by
 refine Xx (n := 24) Tryz.func86 Z Tryz.ntmps86 Z ?_
 have bh := World.grownBy.refl w none
 have hlit : thingOk (⟨k, l, 0, 0, [], [], to⟩ : Th) = true := (Vx hk).symm.trans hok
 have bp : decide (k = 2) = false := Kq hk
 have bq : decide (k = 3) = false := Kr hk
 refine Xa (Qf (v := .agg #[vi l.s, vi l.v]) (cs := #[vi l.s, vi l.v]) Z Z Z ?_)
 intro bl br ag
 have bi := Yj ag bh
 have ai := low0 bh ag.grw
 refine Ye (cs := #[vi 0, vi 0, vi 0, vi 0, vi 0, .slice none 0 0, .slice none 0 0, vi 0]) Kw Z Z ?_
 intro bm bt ab
 have bj := Yj ab ai
 have an := Xr ab (ag.blk).lt
 have aj := low0 ai ab.grw
 refine Xe (v := vb false) Z Z (Xc (Xa (Xb (v := vi k) Z Z ?_)))
 have am := (ag.blk.grown0 ab.grw)
 refine Xp (vs := [vi l.s, vi l.v]) Kb Z Z (am.rangeL 0 2 Z) Z (Ya (ps := []) (e := 42) (cs := (([] : List Rt).flatMap Rt.cells).toArray) X8 (fun _ => by kernel_rfl) Z ?_)
 intro J bu V
 have a8 := Yj V aj
 have ao := Xr V (am).lt
 have ar := Xr V (ab.blk).lt
 have ak := low0 aj V.grw
 refine Ya (ps := []) (e := 3) (cs := (([] : List Int).flatMap icell).toArray) X8 (fun _ => by kernel_rfl) Z ?_
 intro O bv E
 have a9 := Yj E ak
 have ba := (am.grown0 V.grw)
 have ap := Xr E (ba).lt
 have bb := (ab.blk.grown0 V.grw)
 have au := Xr E (bb).lt
 have af := Xr E (V.blk).lt
 have al := low0 ak E.grw
 refine Xb (v := vi to) Z Z (Y6 (ps := [(0, vi k), (1, .agg #[vi l.s, vi l.v]), (4, .slice (pa J) 0 0), (5, .slice (pa O) 0 0), (6, vi to)]) (v := .agg #[vi k, vi l.s, vi l.v, vi 0, vi 0, .slice (pa J) 0 0, .slice (pa O) 0 0, vi to]) (Xn Z (Xn Z (Xn Z (Xn Z (Xn Z X8))))) (by kernel_rfl) Z (Ye (cs := #[vi 0, vi 0, vi 0, vi 0, vi 0, .slice none 0 0, .slice none 0 0, vi 0]) Kw Z Z ?_))
 intro bn bw G
 have bk := Yj G al
 have aq := Xr G ((ba.grown0 E.grw)).lt
 have bc := (bb.grown0 E.grw)
 have av := Xr G (bc).lt
 have bd := (V.blk.grown0 E.grw)
 have aw := Xr G (bd).lt
 have az := Xr G (E.blk).lt
 refine X0 (vs := [vi k, vi l.s, vi l.v, vi 0, vi 0, .slice (pa J) 0 0, .slice (pa O) 0 0, vi to]) (cs' := #[vi k, vi l.s, vi l.v, vi 0, vi 0, .slice (pa J) 0 0, .slice (pa O) 0 0, vi to]) Y0 Z Z Z (by simp [Value.oneCell']) G.blk (Nat.le_of_ble_eq_true Z) Z ?_
 intro bx ac
 refine Xc (Xq (Xa (Xb (v := vi k) Z Z (Xl Lo (Xg Z Xk) Z (V3 k _) ?_))))
 rintro _ bz ⟨rfl, ad⟩
 refine Xc (Qc Z hk (Xw (Xu (Xq (Xa ?_)))))
 have be := (ac.blk.grown0 ad)
 refine Xp (vs := [vi k, vi l.s, vi l.v, vi 0, vi 0, .slice (pa J) 0 0, .slice (pa O) 0 0, vi to]) Y0 Z Z (be.rangeL 0 8 Z) Z ?_
 have bf := (((bd.grown0 G.grw).gn ac.grw).grown0 ad)
 have bg := (((E.blk.grown0 G.grw).gn ac.grw).grown0 ad)
 refine Xl Rs (Xg Z Xk) Z (Us (⟨⟨k, l, 0, 0, [], [], to⟩, some ⟨J, 0, none⟩, 0, some ⟨O, 0, none⟩, 0⟩ : MTh) _ (Jw Q7 bf) (Jw Yv bg) (by first | omega | exact Nat.le_of_ble_eq_true rfl | (simp only [List.length_nil, List.length_cons, List.length_append, List.length_replicate]; omega)) (by first | omega | exact Nat.le_of_ble_eq_true rfl | (simp only [List.length_nil, List.length_cons, List.length_append, List.length_replicate]; omega))) ?_
 rintro _ ca ⟨rfl, ae⟩
 refine Yl (b' := !thingOk (⟨k, l, 0, 0, [], [], to⟩ : Th)) Z Z Z (Xc (Qc Z (Qk hlit) (Xw (Xu (Xa (Xp (vs := [vi k, vi l.s, vi l.v, vi 0, vi 0, .slice (pa J) 0 0, .slice (pa O) 0 0, vi to]) Y0 Z Z ((be.grown0 ae).rangeL 0 8 Z) Z (X0 (vs := [vi k, vi l.s, vi l.v, vi 0, vi 0, .slice (pa J) 0 0, .slice (pa O) 0 0, vi to]) (cs' := #[vi k, vi l.s, vi l.v, vi 0, vi 0, .slice (pa J) 0 0, .slice (pa O) 0 0, vi to]) Y0 Z Z Z (by simp [Value.oneCell']) ((((bc.grown0 G.grw).gn ac.grw).grown0 ad).grown0 ae) (Nat.le_of_ble_eq_true Z) Z ?_)))))))
 intro cc ah
 refine Xe (v := vb true) Z Z (Xc (Xt ?_))
 refine ⟨.tuple #[.agg #[vi k, vi l.s, vi l.v, vi 0, vi 0, .slice (pa J) 0 0, .slice (pa O) 0 0, vi to], vb true], Nw Z (Ym (vs := [vi k, vi l.s, vi l.v, vi 0, vi 0, .slice (pa J) 0 0, .slice (pa O) 0 0, vi to]) Y0 Z Z (ah.blk.rangeL 0 8 Z)) Z, J, 0, O, 0, Z, a8, (Own.rows Q7 ((bf.grown0 ae).gn ah.grw) (by decide)), a9, (Own.rows Yv ((bg.grown0 ae).gn ah.grw) (by decide)), (Nat.ne_of_lt af), (low1 (low0 (low0 (low1 (low0 al G.grw) ac.grw (by omega)) ad) ae) ah.grw (by omega))⟩
theorem Pt (k to : Int) (l : Lab) (hk : ((decide (k = 2)) || (decide (k = 3))) = false) (hok : newOk k l to = false) (w : World) : CallsR Tryz.prog 86 #[vi k, .agg #[vi l.s, vi l.v], vi to] w (fun v w' => v = .tuple #[.agg #[vi 0, vi 0, vi 0, vi 0, vi 0, .slice none 0 0, .slice none 0 0, vi 0], vb false] ∧ w.grownBy w' none) := by
 refine Xx (n := 24) Tryz.func86 Z Tryz.ntmps86 Z ?_
 have bc := World.grownBy.refl w none
 have hlit : thingOk (⟨k, l, 0, 0, [], [], to⟩ : Th) = false := (Vx hk).symm.trans hok
 have bl : decide (k = 2) = false := Kq hk
 have bm : decide (k = 3) = false := Kr hk
 refine Xa (Qf (v := .agg #[vi l.s, vi l.v]) (cs := #[vi l.s, vi l.v]) Z Z Z ?_)
 intro bi bn ae
 have bd := Yj ae bc
 have ag := low0 bc ae.grw
 refine Ye (cs := #[vi 0, vi 0, vi 0, vi 0, vi 0, .slice none 0 0, .slice none 0 0, vi 0]) Kw Z Z ?_
 intro bj bp O
 have be := Yj O ag
 have am := Xr O (ae.blk).lt
 have ah := low0 ag O.grw
 refine Xe (v := vb false) Z Z (Xc (Xa (Xb (v := vi k) Z Z ?_)))
 have al := (ae.blk.grown0 O.grw)
 refine Xp (vs := [vi l.s, vi l.v]) Kb Z Z (al.rangeL 0 2 Z) Z (Ya (ps := []) (e := 42) (cs := (([] : List Rt).flatMap Rt.cells).toArray) X8 (fun _ => by kernel_rfl) Z ?_)
 intro ac bq J
 have bf := Yj J ah
 have an := Xr J (al).lt
 have aq := Xr J (O.blk).lt
 have ai := low0 ah J.grw
 refine Ya (ps := []) (e := 3) (cs := (([] : List Int).flatMap icell).toArray) X8 (fun _ => by kernel_rfl) Z ?_
 intro ad br E
 have bg := Yj E ai
 have a8 := (al.grown0 J.grw)
 have ao := Xr E (a8).lt
 have a9 := (O.blk.grown0 J.grw)
 have ar := Xr E (a9).lt
 have av := Xr E (J.blk).lt
 have aj := low0 ai E.grw
 refine Xb (v := vi to) Z Z (Y6 (ps := [(0, vi k), (1, .agg #[vi l.s, vi l.v]), (4, .slice (pa ac) 0 0), (5, .slice (pa ad) 0 0), (6, vi to)]) (v := .agg #[vi k, vi l.s, vi l.v, vi 0, vi 0, .slice (pa ac) 0 0, .slice (pa ad) 0 0, vi to]) (Xn Z (Xn Z (Xn Z (Xn Z (Xn Z X8))))) (by kernel_rfl) Z (Ye (cs := #[vi 0, vi 0, vi 0, vi 0, vi 0, .slice none 0 0, .slice none 0 0, vi 0]) Kw Z Z ?_))
 intro bk bt G
 have bh := Yj G aj
 have ap := Xr G ((a8.grown0 E.grw)).lt
 have ba := (a9.grown0 E.grw)
 have au := Xr G (ba).lt
 have bb := (J.blk.grown0 E.grw)
 have aw := Xr G (bb).lt
 have az := Xr G (E.blk).lt
 refine X0 (vs := [vi k, vi l.s, vi l.v, vi 0, vi 0, .slice (pa ac) 0 0, .slice (pa ad) 0 0, vi to]) (cs' := #[vi k, vi l.s, vi l.v, vi 0, vi 0, .slice (pa ac) 0 0, .slice (pa ad) 0 0, vi to]) Y0 Z Z Z (by simp [Value.oneCell']) G.blk (Nat.le_of_ble_eq_true Z) Z ?_
 intro bu V
 refine Xc (Xq (Xa (Xb (v := vi k) Z Z (Xl Lo (Xg Z Xk) Z (V3 k _) ?_))))
 rintro _ bv ⟨rfl, ab⟩
 refine Xc (Qc Z hk (Xw (Xu (Xq (Xa (Xp (vs := [vi k, vi l.s, vi l.v, vi 0, vi 0, .slice (pa ac) 0 0, .slice (pa ad) 0 0, vi to]) Y0 Z Z ((V.blk.grown0 ab).rangeL 0 8 Z) Z (Xl Rs (Xg Z Xk) Z (Us (⟨⟨k, l, 0, 0, [], [], to⟩, some ⟨ac, 0, none⟩, 0, some ⟨ad, 0, none⟩, 0⟩ : MTh) _ (Jw Q7 (((bb.grown0 G.grw).gn V.grw).grown0 ab)) (Jw Yv (((E.blk.grown0 G.grw).gn V.grw).grown0 ab)) (by first | omega | exact Nat.le_of_ble_eq_true rfl | (simp only [List.length_nil, List.length_cons, List.length_append, List.length_replicate]; omega)) (by first | omega | exact Nat.le_of_ble_eq_true rfl | (simp only [List.length_nil, List.length_cons, List.length_append, List.length_replicate]; omega))) ?_)))))))
 rintro _ bw ⟨rfl, ak⟩
 refine Yl (b' := !thingOk (⟨k, l, 0, 0, [], [], to⟩ : Th)) Z Z Z (Xc (Qg Z (Qq hlit) (Xa (Y6 (ps := []) (v := .agg #[vi 0, vi 0, vi 0, vi 0, vi 0, .slice none 0 0, .slice none 0 0, vi 0]) X8 (by kernel_rfl) Z (X0 (vs := [vi 0, vi 0, vi 0, vi 0, vi 0, .slice none 0 0, .slice none 0 0, vi 0]) (cs' := #[vi 0, vi 0, vi 0, vi 0, vi 0, .slice none 0 0, .slice none 0 0, vi 0]) Y0 Z Z Z (by simp [Value.oneCell']) ((((ba.grown0 G.grw).gn V.grw).grown0 ab).grown0 ak) (Nat.le_of_ble_eq_true Z) Z ?_)))))
 intro bx af
 refine Xe (v := vb false) Z Z (Xc (Xt (Yk ?_)))
 refine ⟨.tuple #[.agg #[vi 0, vi 0, vi 0, vi 0, vi 0, .slice none 0 0, .slice none 0 0, vi 0], vb false], Nw Z (Ym (vs := [vi 0, vi 0, vi 0, vi 0, vi 0, .slice none 0 0, .slice none 0 0, vi 0]) Y0 Z Z (af.blk.rangeL 0 8 Z)) Z, Z, (low1 (low0 (low0 (low1 (low0 aj G.grw) V.grw (by omega)) ab) ak) af.grw (by omega))⟩
end Go.Proofs.YtjpgffmkcmcolaaGreatDoor
end
section
namespace Go.Proofs.YtjpgffmkcmcolaaGreatDoor
open Go.RowKit Go.Dw
set_option maxRecDepth 100000
set_option maxHeartbeats 4000000
set_option linter.unusedSimpArgs false
set_option linter.unusedVariables false
theorem F8 : zeroTy Tryz.prog 34 = some (.agg #[.int .i64 0, .int .i64 0]) := by kernel_rfl
theorem S9 (p : Int) (hp : 0 ≤ p ∧ p ≤ 1000000000000) (lo R : Nat) (bs : List Int) (a : Option Addr) (c : Nat) (w : World) (hR : Blk w R 79 #[.slice a bs.length c, vi p]) (hlo : lo ≤ R) (hs : SlLt lo w a 1 (bs.map bcell)) (hb : ∀ b ∈ bs, 0 ≤ b ∧ b ≤ 255) (hn : bs.length ≤ 1048576) : CallsR Tryz.prog 104 #[pt R 0] w (fun v w' => ∃ (l : Lab) (p' : Int), v = .agg #[vi l.s, vi l.v] ∧ -1 ≤ l.s ∧ l.s ≤ 4 ∧ 0 ≤ l.v ∧ l.v ≤ 3 ∧ p ≤ p' ∧ p' ≤ p + 4 ∧ Blk w' R 79 #[.slice a bs.length c, vi p'] ∧ w.grownBy w' (some R)) := by
 refine Xx (n := 25) Tryz.func104 Z Tryz.ntmps104 Z ?_
 have gi := World.grownBy.refl w (some R)
 have hRlt := hR.lt
 refine Xa (Ye (cs := #[vi 0, vi 0]) F8 Z Z ?_)
 intro cw cz ba
 have kx := Yj ba gi
 have ep := Xr ba (hR).lt
 have bj := low0 gi ba.grw
 refine Xc (Xq ?_)
 have gk := (hR.grown0 ba.grw)
 refine Qy (m := 12) [[], [], [1], [0, 1, 2], [0, 1, 2, 3], [], [], [1, 2, 6], [1, 2, 5, 6, 7], [1, 2, 5, 6, 7, 8], [0, 1, 2, 3, 4, 5, 6, 7, 8, 9], [], [0, 1, 2, 3, 4, 5, 6, 7, 8, 9, 10, 11]] (fun S F w' => ∃ (ab : Nat) (ad : Int) (V : Int) (ac : Nat) (ae : Int) (O : Int) (af : Nat), cz.grownBy w' (some R) ∧ F 0 = pt R 0 ∧ F 2 = pt cw 0 ∧ (S 2 = false → Blk w' R 79 #[.slice a bs.length c, vi p]) ∧ (S 0 = true → F 4 = .slice (pa ab) 5 5 ∧ w.heap.size ≤ ab ∧ Blk w' ab 3 (([0, 0, 1, 2, 3] : List Int).flatMap icell).toArray ∧ R < ab ∧ cw < ab ∧ cz.heap.size ≤ ab) ∧ (S 1 = true → F 5 = pt R 0) ∧ (S 2 = true → F 6 = vi ad ∧ 0 ≤ ad ∧ (ad < 5 ∨ ad = 0) ∧ (S 7 = false → Blk w' R 79 #[.slice a bs.length c, vi (p + 1)])) ∧ (S 3 = true → F 7 = pt ab ((ad).toNat * 1)) ∧ (S 4 = true → F 8 = vi V ∧ ([0, 0, 1, 2, 3] : List Int)[(ad).toNat]? = some V ∧ (V = 0 ∨ V = 0 ∨ V = 1 ∨ V = 2 ∨ V = 3)) ∧ (S 5 = true → F 9 = .slice (pa ac) 4 4 ∧ w.heap.size ≤ ac ∧ Blk w' ac 3 (([0, 0, 3, 1] : List Int).flatMap icell).toArray ∧ R < ac ∧ cw < ac ∧ cz.heap.size ≤ ac) ∧ (S 6 = true → F 10 = pt R 0) ∧ (S 7 = true → F 11 = vi ae ∧ 0 ≤ ae ∧ (ae < 4 ∨ ae = 0) ∧ Blk w' R 79 #[.slice a bs.length c, vi (p + 1 + 1)]) ∧ (S 8 = true → F 12 = pt ac ((ae).toNat * 1)) ∧ (S 9 = true → F 13 = vi O ∧ ([0, 0, 3, 1] : List Int)[(ae).toNat]? = some O ∧ (O = 0 ∨ O = 0 ∨ O = 3 ∨ O = 1)) ∧ (S 10 = true → F 14 = .agg #[vi V, vi O]) ∧ (S 11 = true → F 3 = pt af 0 ∧ w.heap.size ≤ af ∧ Blk w' af 34 #[vi 0, vi 0] ∧ R < af ∧ cw < af ∧ cz.heap.size ≤ af) ∧ (S 0 = true → S 5 = true → ab ≠ ac) ∧ (S 0 = true → S 11 = true → ab ≠ af) ∧ (S 5 = true → S 11 = true → ac ≠ af)) Yy (by kernel_rfl) ⟨0, 0, 0, 0, 0, 0, 0, X6 _, Z, Z, fun _ => (gk).grown0 (X6 _), Yt, Yt, Yt, Yt, Yt, Yt, Yt, Yt, Yt, Yt, Yt, Yt, Yt, Yt, Yt⟩ ?_ ?_
 refine Xj (fun S F me hS hbef hcl hI => ?_) ?_
 obtain ⟨ab, ad, V, ac, ae, O, af, bz, ez, e0, c_old_R, ai, ah, aj, aq, av, ak, al, ap, aw, a9, au, ag, E, G, J⟩ := hI
 refine Ya (ps := [(0, vi 0), (1, vi 0), (2, vi 1), (3, vi 2), (4, vi 3)]) (e := 3) (cs := (([0, 0, 1, 2, 3] : List Int).flatMap icell).toArray) (Xn Z (Xn Z (Xn Z (Xn Z (Xn Z X8))))) (fun _ => by kernel_rfl) Z ?_
 intro ew mf am
 have dt := Yj am (grown_trans bj bz)
 have bp := Xr am ((ba.blk.gn bz)).lt
 exact Xc ⟨ew, ad, V, ac, ae, O, af, (low0 bz am.grw), ez, e0, fun h => (c_old_R h).grown0 am.grw, fun _ => ⟨Z, dt, am.blk, (by omega), bp, (nt bz.size (Nat.le_of_eq am.eq.symm))⟩, ah, fun h => let ⟨gq, gr, gt, gu⟩ := aj h; ⟨gq, gr, gt, fun hn => (gu hn).grown0 am.grw⟩, X5 3 hS hcl Z, X5 4 hS hcl Z, fun h => let ⟨gv, gw, gx, gy, gz, g0⟩ := ak h; ⟨gv, gw, (gx).grown0 am.grw, gy, gz, g0⟩, al, fun h => let ⟨g1, g2, g3, g5⟩ := ap h; ⟨g1, g2, g3, (g5).grown0 am.grw⟩, aw, a9, X5 10 hS hcl Z, fun h => let ⟨g6, g7, g8, g9, ia, ib⟩ := ag h; ⟨g6, g7, (g8).grown0 am.grw, g9, ia, ib⟩, fun _ h => let ⟨nb, nc, ic, nd, ne, nf⟩ := ak h; Nat.ne_of_gt (nl (ic).lt (Nat.le_of_eq am.eq.symm)), fun _ h => let ⟨ng, nh, ie, ni, nj, nk⟩ := ag h; Nat.ne_of_gt (nl (ie).lt (Nat.le_of_eq am.eq.symm)), J⟩
 refine Xj (fun S F mg hS hbef hcl hI => ?_) ?_
 obtain ⟨ab, ad, V, ac, ae, O, af, d3, dw, fa, c_old_R, ai, ah, aj, aq, av, ak, al, ap, aw, a9, au, ag, E, G, J⟩ := hI
 exact Xb (v := pt R 0) dw Z (Xc ⟨ab, ad, V, ac, ae, O, af, d3, dw, fa, fun h => c_old_R h, ai, fun _ => Z, X5 2 hS hcl Z, X5 3 hS hcl Z, X5 4 hS hcl Z, ak, al, X5 7 hS hcl Z, X5 8 hS hcl Z, X5 9 hS hcl Z, X5 10 hS hcl Z, ag, E, G, J⟩)
 refine Xj (fun S F mh hS hbef hcl hI => ?_) ?_
 obtain ⟨ab, ad, V, ac, ae, O, af, db, fb, fc, c_old_R, ai, ah, aj, aq, av, ak, al, ap, aw, a9, au, ag, E, G, J⟩ := hI
 obtain fd := ah (Xm 1 hbef rfl)
 refine Xl Qz (Xg fd (Xg Z Xk)) Z (Qh p 5 (by omega) _ R bs _ _ _ (c_old_R hS) (by omega) (SlLt.low1 hs (grown_trans bj db) hlo) (by first | exact hb | exact fun b h => hb b (List.mem_of_mem_take h)) (by first | omega | (rw [List.length_take]; omega))) ?_
 rintro _ ml ⟨gl, rfl, ea, eb, ek, bv⟩
 exact Xc ⟨ab, gl, V, ac, ae, O, af, (grown_trans db bv), fb, fc, fun h => J8 h, fun h => let ⟨ig, ii, ij, ik, il, im⟩ := ai h; ⟨ig, ii, (ij).gn bv, ik, il, im⟩, ah, fun _ => ⟨Z, ea, eb, fun _ => ek⟩, X5 3 hS hcl Z, X5 4 hS hcl Z, fun h => let ⟨io, ip, iq, ir, it, iu⟩ := ak h; ⟨io, ip, (iq).gn bv, ir, it, iu⟩, al, X5 7 hS hcl Z, X5 8 hS hcl Z, X5 9 hS hcl Z, X5 10 hS hcl Z, fun h => let ⟨iv, iw, ix, iy, iz, i0⟩ := ag h; ⟨iv, iw, (ix).gn bv, iy, iz, i0⟩, E, G, J⟩
 refine Xj (fun S F mm hS hbef hcl hI => ?_) ?_
 obtain ⟨ab, ad, V, ac, ae, O, af, d4, fe, ff, c_old_R, ai, ah, aj, aq, av, ak, al, ap, aw, a9, au, ag, E, G, J⟩ := hI
 obtain ⟨fg, cd, bc, bh, az, bm⟩ := ai (Xm 0 hbef rfl)
 obtain k7 := ah (Xm 1 hbef rfl)
 obtain ⟨fh, bk, bl, bg⟩ := aj (Xm 2 hbef rfl)
 exact Yb (o' := (ad).toNat * 1) J6 fg fh (by omega) (by omega) (by omega) Z (Xc ⟨ab, ad, V, ac, ae, O, af, d4, fe, ff, fun hn => J8 ((Xm 2 hbef Z).symm.trans hn), ai, ah, aj, fun _ => Z, X5 4 hS hcl Z, ak, al, ap, aw, a9, X5 10 hS hcl Z, ag, E, G, J⟩)
 refine Xj (fun S F mn hS hbef hcl hI => ?_) ?_
 obtain ⟨ab, ad, V, ac, ae, O, af, d5, fi, fj, c_old_R, ai, ah, aj, aq, av, ak, al, ap, aw, a9, au, ag, E, G, J⟩ := hI
 obtain ⟨k8, cd, bc, bh, az, bm⟩ := ai (Xm 0 hbef rfl)
 obtain k9 := ah (Xm 1 hbef rfl)
 obtain ⟨la, bk, bl, bg⟩ := aj (Xm 2 hbef rfl)
 obtain fk := aq (Xm 3 hbef rfl)
 obtain ⟨d1, co⟩ := Jn (l := ([0, 0, 1, 2, 3] : List Int)) (i := (ad).toNat) (lq (ad).toNat 5)
 have de := List.mem_of_getElem? co
 simp only [List.mem_cons, List.not_mem_nil, or_false] at de
 exact Xh (v := vi d1) X1 fk ((Q4 Yv bc co) 0 _ Z) Z (Xc ⟨ab, ad, d1, ac, ae, O, af, d5, fi, fj, fun hn => J8 ((Xm 2 hbef Z).symm.trans hn), ai, ah, aj, aq, fun _ => ⟨Z, co, de⟩, ak, al, ap, aw, a9, X5 10 hS hcl Z, ag, E, G, J⟩)
 refine Xj (fun S F mo hS hbef hcl hI => ?_) ?_
 obtain ⟨ab, ad, V, ac, ae, O, af, ca, fm, fo, c_old_R, ai, ah, aj, aq, av, ak, al, ap, aw, a9, au, ag, E, G, J⟩ := hI
 refine Ya (ps := [(0, vi 0), (1, vi 0), (2, vi 3), (3, vi 1)]) (e := 3) (cs := (([0, 0, 3, 1] : List Int).flatMap icell).toArray) (Xn Z (Xn Z (Xn Z (Xn Z X8)))) (fun _ => by kernel_rfl) Z ?_
 intro ex mp an
 have du := Yj an (grown_trans bj ca)
 have bq := Xr an ((ba.blk.gn ca)).lt
 exact Xc ⟨ab, ad, V, ex, ae, O, af, (low0 ca an.grw), fm, fo, fun h => (c_old_R h).grown0 an.grw, fun h => let ⟨i1, i2, i3, i4, i5, i6⟩ := ai h; ⟨i1, i2, (i3).grown0 an.grw, i4, i5, i6⟩, ah, fun h => let ⟨i7, i8, i9, ja⟩ := aj h; ⟨i7, i8, i9, fun hn => (ja hn).grown0 an.grw⟩, aq, av, fun _ => ⟨Z, du, an.blk, (by omega), bq, (nt ca.size (Nat.le_of_eq an.eq.symm))⟩, al, fun h => let ⟨jb, jc, jd, je⟩ := ap h; ⟨jb, jc, jd, (je).grown0 an.grw⟩, X5 8 hS hcl Z, X5 9 hS hcl Z, X5 10 hS hcl Z, fun h => let ⟨jf, jg, jh, ji, jj, jk⟩ := ag h; ⟨jf, jg, (jh).grown0 an.grw, ji, jj, jk⟩, fun h _ => let ⟨nn, no, jl, np, nq, nr⟩ := ai h; Nat.ne_of_lt (nl (jl).lt (Nat.le_of_eq an.eq.symm)), G, fun _ h => let ⟨nu, nv, jm, nw, nx, ny⟩ := ag h; Nat.ne_of_gt (nl (jm).lt (Nat.le_of_eq an.eq.symm))⟩
 refine Xj (fun S F mq hS hbef hcl hI => ?_) ?_
 obtain ⟨ab, ad, V, ac, ae, O, af, d6, dx, fp, c_old_R, ai, ah, aj, aq, av, ak, al, ap, aw, a9, au, ag, E, G, J⟩ := hI
 exact Xb (v := pt R 0) dx Z (Xc ⟨ab, ad, V, ac, ae, O, af, d6, dx, fp, fun h => c_old_R h, ai, ah, aj, aq, av, ak, fun _ => Z, X5 7 hS hcl Z, X5 8 hS hcl Z, X5 9 hS hcl Z, X5 10 hS hcl Z, ag, E, G, J⟩)
 refine Xj (fun S F mr hS hbef hcl hI => ?_) ?_
 obtain ⟨ab, ad, V, ac, ae, O, af, dc, fq, fr, c_old_R, ai, ah, aj, aq, av, ak, al, ap, aw, a9, au, ag, E, G, J⟩ := hI
 obtain lc := ah (Xm 1 hbef rfl)
 obtain ⟨ld, bk, bl, bg⟩ := aj (Xm 2 hbef rfl)
 obtain ft := al (Xm 6 hbef rfl)
 refine Xl Qz (Xg ft (Xg Z Xk)) Z (Qh (p + 1) 4 (by omega) _ R bs _ _ _ (bg hS) (by omega) (SlLt.low1 hs (grown_trans bj dc) hlo) (by first | exact hb | exact fun b h => hb b (List.mem_of_mem_take h)) (by first | omega | (rw [List.length_take]; omega))) ?_
 rintro _ mt ⟨gm, rfl, ed, ee, em, bw⟩
 exact Xc ⟨ab, ad, V, ac, gm, O, af, (grown_trans dc bw), fq, fr, fun hn => J8 ((Xm 2 hbef Z).symm.trans hn), fun h => let ⟨jo, jp, jq, jr, js, jt⟩ := ai h; ⟨jo, jp, (jq).gn bw, jr, js, jt⟩, ah, fun h => let ⟨ju, jv, jw, nz⟩ := aj h; ⟨ju, jv, jw, fun h => J8 h⟩, aq, av, fun h => let ⟨jx, jy, jz, j1, j2, j3⟩ := ak h; ⟨jx, jy, (jz).gn bw, j1, j2, j3⟩, al, fun _ => ⟨Z, ed, ee, em⟩, X5 8 hS hcl Z, X5 9 hS hcl Z, X5 10 hS hcl Z, fun h => let ⟨j4, j5, j6, j7, j8, j9⟩ := ag h; ⟨j4, j5, (j6).gn bw, j7, j8, j9⟩, E, G, J⟩
 refine Xj (fun S F mu hS hbef hcl hI => ?_) ?_
 obtain ⟨ab, ad, V, ac, ae, O, af, d7, fu, fv, c_old_R, ai, ah, aj, aq, av, ak, al, ap, aw, a9, au, ag, E, G, J⟩ := hI
 obtain le := ah (Xm 1 hbef rfl)
 obtain ⟨lf, bk, bl, bg⟩ := aj (Xm 2 hbef rfl)
 obtain ⟨fw, ce, bd, bi, a8, bn⟩ := ak (Xm 5 hbef rfl)
 obtain lg := al (Xm 6 hbef rfl)
 obtain ⟨fx, cm, cn, cf⟩ := ap (Xm 7 hbef rfl)
 exact Yb (o' := (ae).toNat * 1) J6 fw fx (by omega) (by omega) (by omega) Z (Xc ⟨ab, ad, V, ac, ae, O, af, d7, fu, fv, fun hn => J8 ((Xm 2 hbef Z).symm.trans hn), ai, ah, aj, aq, av, ak, al, ap, fun _ => Z, X5 9 hS hcl Z, X5 10 hS hcl Z, ag, E, G, J⟩)
 refine Xj (fun S F mv hS hbef hcl hI => ?_) ?_
 obtain ⟨ab, ad, V, ac, ae, O, af, d8, fy, fz, c_old_R, ai, ah, aj, aq, av, ak, al, ap, aw, a9, au, ag, E, G, J⟩ := hI
 obtain lh := ah (Xm 1 hbef rfl)
 obtain ⟨li, bk, bl, bg⟩ := aj (Xm 2 hbef rfl)
 obtain ⟨lj, ce, bd, bi, a8, bn⟩ := ak (Xm 5 hbef rfl)
 obtain lk := al (Xm 6 hbef rfl)
 obtain ⟨ll, cm, cn, cf⟩ := ap (Xm 7 hbef rfl)
 obtain f8 := aw (Xm 8 hbef rfl)
 obtain ⟨d2, ct⟩ := Jn (l := ([0, 0, 3, 1] : List Int)) (i := (ae).toNat) (lq (ae).toNat 4)
 have df := List.mem_of_getElem? ct
 simp only [List.mem_cons, List.not_mem_nil, or_false] at df
 exact Xh (v := vi d2) X1 f8 ((Q4 Yv bd ct) 0 _ Z) Z (Xc ⟨ab, ad, V, ac, ae, d2, af, d8, fy, fz, fun hn => J8 ((Xm 2 hbef Z).symm.trans hn), ai, ah, aj, aq, av, ak, al, ap, aw, fun _ => ⟨Z, ct, df⟩, X5 10 hS hcl Z, ag, E, G, J⟩)
 refine Xj (fun S F mw hS hbef hcl hI => ?_) ?_
 obtain ⟨ab, ad, V, ac, ae, O, af, d9, f9, ga, c_old_R, ai, ah, aj, aq, av, ak, al, ap, aw, a9, au, ag, E, G, J⟩ := hI
 obtain ⟨lm, cd, bc, bh, az, bm⟩ := ai (Xm 0 hbef rfl)
 obtain ln := ah (Xm 1 hbef rfl)
 obtain ⟨lp, bk, bl, bg⟩ := aj (Xm 2 hbef rfl)
 obtain lu := aq (Xm 3 hbef rfl)
 obtain ⟨gb, ei, ef⟩ := av (Xm 4 hbef rfl)
 obtain ⟨lv, ce, bd, bi, a8, bn⟩ := ak (Xm 5 hbef rfl)
 obtain lw := al (Xm 6 hbef rfl)
 obtain ⟨lx, cm, cn, cf⟩ := ap (Xm 7 hbef rfl)
 obtain ly := aw (Xm 8 hbef rfl)
 obtain ⟨gc, ej, eg⟩ := a9 (Xm 9 hbef rfl)
 have bt := E (Xm 0 hbef rfl) (Xm 5 hbef rfl)
 exact Y6 (ps := [(0, vi V), (1, vi O)]) (v := .agg #[vi V, vi O]) (Xn gb (Xn gc X8)) (by kernel_rfl) Z (Xc ⟨ab, ad, V, ac, ae, O, af, d9, f9, ga, fun hn => J8 ((Xm 2 hbef Z).symm.trans hn), ai, ah, aj, aq, av, ak, al, ap, aw, a9, fun _ => Z, ag, E, G, J⟩)
 refine Xj (fun S F my hS hbef hcl hI => ?_) ?_
 obtain ⟨ab, ad, V, ac, ae, O, af, cc, gf, gg, c_old_R, ai, ah, aj, aq, av, ak, al, ap, aw, a9, au, ag, E, G, J⟩ := hI
 refine Ye (cs := #[vi 0, vi 0]) F8 Z Z ?_
 intro ey mz ao
 have dv := Yj ao (grown_trans bj cc)
 have br := Xr ao ((ba.blk.gn cc)).lt
 exact Xc ⟨ab, ad, V, ac, ae, O, ey, (low0 cc ao.grw), gf, gg, fun h => (c_old_R h).grown0 ao.grw, fun h => let ⟨ka, kb, kc, ke, kf, kg⟩ := ai h; ⟨ka, kb, (kc).grown0 ao.grw, ke, kf, kg⟩, ah, fun h => let ⟨kh, ki, kj, kk⟩ := aj h; ⟨kh, ki, kj, fun hn => (kk hn).grown0 ao.grw⟩, aq, av, fun h => let ⟨kl, km, kn, ko, kp, kq⟩ := ak h; ⟨kl, km, (kn).grown0 ao.grw, ko, kp, kq⟩, al, fun h => let ⟨kr, ks, kt, ku⟩ := ap h; ⟨kr, ks, kt, (ku).grown0 ao.grw⟩, aw, a9, au, fun _ => ⟨Z, dv, ao.blk, (by omega), br, (nt cc.size (Nat.le_of_eq ao.eq.symm))⟩, E, fun h _ => let ⟨n5, n7, kv, n9, oa, ob⟩ := ai h; Nat.ne_of_lt (nl (kv).lt (Nat.le_of_eq ao.eq.symm)), fun h _ => let ⟨oc, od, kw, oe, og, oh⟩ := ak h; Nat.ne_of_lt (nl (kw).lt (Nat.le_of_eq ao.eq.symm))⟩
 exact Q5
 intro S F m3 hall hI
 obtain ⟨ab, ad, V, ac, ae, O, af, cl, dy, cx, c_old_R, ai, ah, aj, aq, av, ak, al, ap, aw, a9, au, ag, E, G, J⟩ := hI
 obtain ⟨lz, cd, bc, bh, az, bm⟩ := ai (hall 0 (by decide))
 obtain l0 := ah (hall 1 (by decide))
 obtain ⟨l3, bk, bl, bg⟩ := aj (hall 2 (by decide))
 obtain l4 := aq (hall 3 (by decide))
 obtain ⟨l5, ei, ef⟩ := av (hall 4 (by decide))
 obtain ⟨l6, ce, bd, bi, a8, bn⟩ := ak (hall 5 (by decide))
 obtain l7 := al (hall 6 (by decide))
 obtain ⟨l8, cm, cn, cf⟩ := ap (hall 7 (by decide))
 obtain l9 := aw (hall 8 (by decide))
 obtain ⟨ma, ej, eg⟩ := a9 (hall 9 (by decide))
 obtain gh := au (hall 10 (by decide))
 obtain ⟨cy, ky, di, er, dk, gj⟩ := ag (hall 11 (by decide))
 have bt := E (hall 0 (by decide)) (hall 5 (by decide))
 have dq := G (hall 0 (by decide)) (hall 11 (by decide))
 have dr := J (hall 5 (by decide)) (hall 11 (by decide))
 refine X0 (vs := [vi V, vi O]) (cs' := #[vi V, vi O]) Kb cy gh Z (by simp [Value.oneCell']) di (Nat.le_of_ble_eq_true Z) Z ?_
 intro m4 bb
 have c9 := low1 (grown_trans bj cl) bb.grw (by omega)
 refine Xc (Xu (Xq (Xa (Xb (v := pt R 0) dy Z (Xl Qz (Xg Z (Xg Z Xk)) Z (Qh (p + 1 + 1) 60 (by omega) _ R bs _ _ _ (cf.gn bb.grw) (by omega) (SlLt.low1 hs c9 hlo) (by first | exact hb | exact fun b h => hb b (List.mem_of_mem_take h)) (by first | omega | (rw [List.length_take]; omega))) ?_)))))
 rintro _ m5 ⟨gp, rfl, k0, k3, cv, bf⟩
 have ck := grown_trans c9 bf
 refine X3 (q := decide (gp = 0)) Z Z Z Z (Xc (Xy Z (fun c8 => ?_) (fun c8 => ?_)))
 have mb := of_decide_eq_true c8
 refine X2 (Ya (ps := [(0, vi (-1)), (1, vi 4)]) (e := 3) (cs := (([(-1), 4] : List Int).flatMap icell).toArray) (Xn Z (Xn Z X8)) (fun _ => by kernel_rfl) Z ?_)
 intro k6 m6 ar
 have kz := Yj ar ck
 have dz := (((ba.blk.gn cl).gn bb.grw).gn bf)
 have dl := Xr ar (dz).lt
 have dm := Xr ar (((bc.gn bb.grw).gn bf)).lt
 have dn := Xr ar (((bd.gn bb.grw).gn bf)).lt
 have eu := Xr ar (cv).lt
 have d0 := (bb.blk.gn bf)
 have dp := Xr ar (d0).lt
 have da := low0 ck ar.grw
 refine Xb (v := pt R 0) dy Z (Xl Qz (Xg Z (Xg Z Xk)) Z (Qh (p + 1 + 1 + 1) 2 (by omega) _ R bs _ _ _ (cv.grown0 ar.grw) (by omega) (SlLt.low1 hs da hlo) (by first | exact hb | exact fun b h => hb b (List.mem_of_mem_take h)) (by first | omega | (rw [List.length_take]; omega))) ?_)
 rintro _ m7 ⟨dh, rfl, k4, k5, eo, bx⟩
 refine Yb (o' := (dh).toNat * 1) J6 Z Z (by omega) (by omega) (by omega) Z ?_
 obtain ⟨be, dg⟩ := Jn (l := ([(-1), 4] : List Int)) (i := (dh).toNat) (lq (dh).toNat 2)
 have eh := List.mem_of_getElem? dg
 simp only [List.mem_cons, List.not_mem_nil, or_false] at eh
 refine Xh (v := vi be) X1 Z ((Q4 Yv (ar.blk.gn bx) dg) 0 _ Z) Z (Xd (o' := 0) Wo cy Z Z (Yg (v := vi be) (cs' := #[vi be, vi O]) X1 Z Z Z ((d0.grown0 ar.grw).gn bx) (Nat.le_of_ble_eq_true Z) Z ?_))
 intro m8 bu
 refine Xc (Xu (Xa (Xp (vs := [vi be, vi O]) Kb cy Z (bu.blk.rangeL 0 2 Z) Z (X0 (vs := [vi be, vi O]) (cs' := #[vi be, vi O]) Kb cx Z Z (by simp [Value.oneCell']) (((dz.grown0 ar.grw).gn bx).gn bu.grw) (Nat.le_of_ble_eq_true Z) Z ?_))))
 intro m9 cg
 refine Xc (Xt ?_)
 refine ⟨.agg #[vi be, vi O], J2 Z (Ym (vs := [vi be, vi O]) Kb cx Z (cg.blk.rangeL 0 2 Z)), ⟨be, O⟩, (p + 1 + 1 + 1 + 1), Z, show (-1 : Int) ≤ be by omega, show be ≤ (4 : Int) by omega, show (0 : Int) ≤ O by omega, show O ≤ (3 : Int) by omega, by omega, by omega, ((eo.gn bu.grw).gn cg.grw), (low1 (low1 (grown_trans da bx) bu.grw (by omega)) cg.grw (by omega))⟩
 have mc := of_decide_eq_false c8
 refine Xw (Xu (Xa (Xp (vs := [vi V, vi O]) Kb cy Z ((bb.blk.gn bf).rangeL 0 2 Z) Z (X0 (vs := [vi V, vi O]) (cs' := #[vi V, vi O]) Kb cx Z Z (by simp [Value.oneCell']) (((ba.blk.gn cl).gn bb.grw).gn bf) (Nat.le_of_ble_eq_true Z) Z ?_))))
 intro na cj
 refine Xc (Xt ?_)
 refine ⟨.agg #[vi V, vi O], J2 Z (Ym (vs := [vi V, vi O]) Kb cx Z (cj.blk.rangeL 0 2 Z)), ⟨V, O⟩, (p + 1 + 1 + 1), Z, show (-1 : Int) ≤ V by omega, show V ≤ (4 : Int) by omega, show (0 : Int) ≤ O by omega, show O ≤ (3 : Int) by omega, by omega, by omega, (cv.gn cj.grw), (low1 ck cj.grw (by omega))⟩
theorem Vv (m p : MTh) (w : World) (ha : ThAt w m) (hb : ThAt w p) (hla : m.t.slots.length ≤ 1048576 ∧ m.t.queue.length ≤ 1048576) (hlb : p.t.slots.length ≤ 1048576 ∧ p.t.queue.length ≤ 1048576) : CallsR Tryz.prog 20 #[.agg #[vi m.t.kind, vi m.t.lab.s, vi m.t.lab.v, vi m.t.ve, vi m.t.num, .slice m.sa m.t.slots.length m.sc, .slice m.qa m.t.queue.length m.qc, vi m.t.to], .agg #[vi p.t.kind, vi p.t.lab.s, vi p.t.lab.v, vi p.t.ve, vi p.t.num, .slice p.sa p.t.slots.length p.sc, .slice p.qa p.t.queue.length p.qc, vi p.t.to]] w (fun v w' => v = vb (decide (m.t = p.t)) ∧ w.grownBy w' none) := by
 refine Xx (n := 94) Tryz.func20 Z Tryz.ntmps20 Z ?_
 have ed := World.grownBy.refl w none
 refine Xa (Qf (v := .agg #[vi m.t.kind, vi m.t.lab.s, vi m.t.lab.v, vi m.t.ve, vi m.t.num, .slice m.sa m.t.slots.length m.sc, .slice m.qa m.t.queue.length m.qc, vi m.t.to]) (cs := #[vi m.t.kind, vi m.t.lab.s, vi m.t.lab.v, vi m.t.ve, vi m.t.num, .slice m.sa m.t.slots.length m.sc, .slice m.qa m.t.queue.length m.qc, vi m.t.to]) Z Z Z ?_)
 intro af gh ai
 have eo := Yj ai ed
 have bj := low0 ed ai.grw
 refine Qf (v := .agg #[vi p.t.kind, vi p.t.lab.s, vi p.t.lab.v, vi p.t.ve, vi p.t.num, .slice p.sa p.t.slots.length p.sc, .slice p.qa p.t.queue.length p.qc, vi p.t.to]) (cs := #[vi p.t.kind, vi p.t.lab.s, vi p.t.lab.v, vi p.t.ve, vi p.t.num, .slice p.sa p.t.slots.length p.sc, .slice p.qa p.t.queue.length p.qc, vi p.t.to]) Z Z Z ?_
 intro ag ej G
 have ep := Yj G bj
 have bt := Xr G (ai.blk).lt
 have bk := low0 bj G.grw
 refine Xe (v := vb false) Z Z (Xc (Xq (X7 (fun f' w' => (f' 2 = pt af 0 ∧ f' 3 = pt ag 0 ∧ f' 4 = vb false ∧ f' 57 = vb (((((((!(decide (m.t.kind = p.t.kind))) || (!(decide (m.t.lab = p.t.lab)))) || (!(decide (m.t.ve = p.t.ve)))) || (!(decide (m.t.num = p.t.num)))) || (!(decide (m.t.to = p.t.to)))) || (!(decide ((m.t.slots.length : Int) = (p.t.slots.length : Int))))) || (!(decide ((m.t.queue.length : Int) = (p.t.queue.length : Int)))))) ∧ ej = w') ?_ ?_)))
 refine Xd (o' := 0) Y9 Z Z Z ?_
 have aj := (ai.blk.grown0 G.grw)
 refine Xh (v := vi m.t.kind) X1 Z (aj.cell Z) Z (Xd (o' := 0) Y9 Z Z Z (Xh (v := vi p.t.kind) X1 Z (G.blk.cell Z) Z (Y8 (q := !(decide (m.t.kind = p.t.kind))) Z Z Z Z (Xb (v := vb (!(decide (m.t.kind = p.t.kind)))) Z Z ?_))))
 rcases Yf (!(decide (m.t.kind = p.t.kind))) with E | E
 have bv := Q2 E
 have e0 := of_decide_eq_false bv
 iterate 5 refine Xi rfl rfl rfl E rfl ?_
 refine Xs (v := vb true) Z E Z Z (Xb (v := vb true) Z Z ?_)
 iterate 5 refine Xi rfl rfl rfl rfl rfl ?_
 refine Xs (v := vb true) Z Z Z Z (Xb (v := vb true) Z Z ?_)
 iterate 5 refine Xi rfl rfl rfl rfl rfl ?_
 refine Xs (v := vb true) Z Z Z Z (Xb (v := vb true) Z Z ?_)
 iterate 5 refine Xi rfl rfl rfl rfl rfl ?_
 refine Xs (v := vb true) Z Z Z Z (Xb (v := vb true) Z Z ?_)
 iterate 7 refine Xi rfl rfl rfl rfl rfl ?_
 refine Xs (v := vb true) Z Z Z Z (Xb (v := vb true) Z Z ?_)
 iterate 7 refine Xi rfl rfl rfl rfl rfl ?_
 exact Xs (v := vb true) Z Z Z Z (Xc ⟨⟨Z, Z, Z, (cB (by simp [E, bv]))⟩, Z⟩)
 have ah := Qx E
 have fa := of_decide_eq_true ah
 refine Xf Z Z Z E (Xd (o' := 1) Kd Z Z Z (Xf Z Z Z E (Xp (vs := [vi m.t.lab.s, vi m.t.lab.v]) Kb Z Z (aj.rangeL 1 2 Z) Z (Xf Z Z Z E (Xd (o' := 1) Kd Z Z Z (Xf Z Z Z E (Xp (vs := [vi p.t.lab.s, vi p.t.lab.v]) Kb Z Z (G.blk.rangeL 1 2 Z) Z (Xf Z Z Z E (Vn (q := !(decide (m.t.lab = p.t.lab))) Z Z (Pn _ _ m.t.lab p.t.lab _) (Po m.t.lab p.t.lab _) Z Z (Xo (v := vb (!(decide (m.t.lab = p.t.lab)))) Z E Z Z (Xb (v := vb (!(decide (m.t.lab = p.t.lab)))) Z Z ?_)))))))))))
 rcases Yf (!(decide (m.t.lab = p.t.lab))) with J | J
 have bw := Q2 J
 have fb := of_decide_eq_false bw
 iterate 5 refine Xi rfl rfl rfl J rfl ?_
 refine Xs (v := vb true) Z J Z Z (Xb (v := vb true) Z Z ?_)
 iterate 5 refine Xi rfl rfl rfl rfl rfl ?_
 refine Xs (v := vb true) Z Z Z Z (Xb (v := vb true) Z Z ?_)
 iterate 5 refine Xi rfl rfl rfl rfl rfl ?_
 refine Xs (v := vb true) Z Z Z Z (Xb (v := vb true) Z Z ?_)
 iterate 7 refine Xi rfl rfl rfl rfl rfl ?_
 refine Xs (v := vb true) Z Z Z Z (Xb (v := vb true) Z Z ?_)
 iterate 7 refine Xi rfl rfl rfl rfl rfl ?_
 exact Xs (v := vb true) Z Z Z Z (Xc ⟨⟨Z, Z, Z, (cB (by simp [E, ah, J, bw]))⟩, Z⟩)
 have ak := Qx J
 have fc := of_decide_eq_true ak
 refine Xf Z Z Z J (Xd (o' := 3) Jl Z Z Z (Xf Z Z Z J (Xh (v := vi m.t.ve) X1 Z (aj.cell Z) Z (Xf Z Z Z J (Xd (o' := 3) Jl Z Z Z (Xf Z Z Z J (Xh (v := vi p.t.ve) X1 Z (G.blk.cell Z) Z (Xf Z Z Z J (Y8 (q := !(decide (m.t.ve = p.t.ve))) Z Z Z Z (Xo (v := vb (!(decide (m.t.ve = p.t.ve)))) Z J Z Z (Xb (v := vb (!(decide (m.t.ve = p.t.ve)))) Z Z ?_)))))))))))
 rcases Yf (!(decide (m.t.ve = p.t.ve))) with O | O
 have bx := Q2 O
 have fd := of_decide_eq_false bx
 iterate 5 refine Xi rfl rfl rfl O rfl ?_
 refine Xs (v := vb true) Z O Z Z (Xb (v := vb true) Z Z ?_)
 iterate 5 refine Xi rfl rfl rfl rfl rfl ?_
 refine Xs (v := vb true) Z Z Z Z (Xb (v := vb true) Z Z ?_)
 iterate 7 refine Xi rfl rfl rfl rfl rfl ?_
 refine Xs (v := vb true) Z Z Z Z (Xb (v := vb true) Z Z ?_)
 iterate 7 refine Xi rfl rfl rfl rfl rfl ?_
 exact Xs (v := vb true) Z Z Z Z (Xc ⟨⟨Z, Z, Z, (cB (by simp [E, ah, J, ak, O, bx]))⟩, Z⟩)
 have an := Qx O
 have fe := of_decide_eq_true an
 refine Xf Z Z Z O (Xd (o' := 4) Q6 Z Z Z (Xf Z Z Z O (Xh (v := vi m.t.num) X1 Z (aj.cell Z) Z (Xf Z Z Z O (Xd (o' := 4) Q6 Z Z Z (Xf Z Z Z O (Xh (v := vi p.t.num) X1 Z (G.blk.cell Z) Z (Xf Z Z Z O (Y8 (q := !(decide (m.t.num = p.t.num))) Z Z Z Z (Xo (v := vb (!(decide (m.t.num = p.t.num)))) Z O Z Z (Xb (v := vb (!(decide (m.t.num = p.t.num)))) Z Z ?_)))))))))))
 rcases Yf (!(decide (m.t.num = p.t.num))) with ab | ab
 have bz := Q2 ab
 have ff := of_decide_eq_false bz
 iterate 5 refine Xi rfl rfl rfl ab rfl ?_
 refine Xs (v := vb true) Z ab Z Z (Xb (v := vb true) Z Z ?_)
 iterate 7 refine Xi rfl rfl rfl rfl rfl ?_
 refine Xs (v := vb true) Z Z Z Z (Xb (v := vb true) Z Z ?_)
 iterate 7 refine Xi rfl rfl rfl rfl rfl ?_
 exact Xs (v := vb true) Z Z Z Z (Xc ⟨⟨Z, Z, Z, (cB (by simp [E, ah, J, ak, O, an, ab, bz]))⟩, Z⟩)
 have a9 := Qx ab
 have fg := of_decide_eq_true a9
 refine Xf Z Z Z ab (Xd (o' := 7) Kk Z Z Z (Xf Z Z Z ab (Xh (v := vi m.t.to) X1 Z (aj.cell Z) Z (Xf Z Z Z ab (Xd (o' := 7) Kk Z Z Z (Xf Z Z Z ab (Xh (v := vi p.t.to) X1 Z (G.blk.cell Z) Z (Xf Z Z Z ab (Y8 (q := !(decide (m.t.to = p.t.to))) Z Z Z Z (Xo (v := vb (!(decide (m.t.to = p.t.to)))) Z ab Z Z (Xb (v := vb (!(decide (m.t.to = p.t.to)))) Z Z ?_)))))))))))
 rcases Yf (!(decide (m.t.to = p.t.to))) with V | V
 have ca := Q2 V
 have fh := of_decide_eq_false ca
 iterate 7 refine Xi rfl rfl rfl V rfl ?_
 refine Xs (v := vb true) Z V Z Z (Xb (v := vb true) Z Z ?_)
 iterate 7 refine Xi rfl rfl rfl rfl rfl ?_
 exact Xs (v := vb true) Z Z Z Z (Xc ⟨⟨Z, Z, Z, (cB (by simp [E, ah, J, ak, O, an, ab, a9, V, ca]))⟩, Z⟩)
 have be := Qx V
 have fi := of_decide_eq_true be
 refine Xf Z Z Z V (Xd (o' := 5) Qj Z Z Z (Xf Z Z Z V (Xh (v := .slice m.sa m.t.slots.length m.sc) Jh Z (aj.cell Z) Z (Xf Z Z Z V (Yu (by kernel_rfl) Z Z (Xf Z Z Z V (Xd (o' := 5) Qj Z Z Z (Xf Z Z Z V (Xh (v := .slice p.sa p.t.slots.length p.sc) Jh Z (G.blk.cell Z) Z (Xf Z Z Z V (Yu (by kernel_rfl) Z Z (Xf Z Z Z V ?_))))))))))))
 refine Y8 (q := !(decide ((m.t.slots.length : Int) = (p.t.slots.length : Int)))) Z Z Z Z (Xo (v := vb (!(decide ((m.t.slots.length : Int) = (p.t.slots.length : Int))))) Z V Z Z (Xb (v := vb (!(decide ((m.t.slots.length : Int) = (p.t.slots.length : Int))))) Z Z ?_))
 rcases Yf (!(decide ((m.t.slots.length : Int) = (p.t.slots.length : Int)))) with ac | ac
 have cc := Q2 ac
 have fj := of_decide_eq_false cc
 iterate 7 refine Xi rfl rfl rfl ac rfl ?_
 exact Xs (v := vb true) Z ac Z Z (Xc ⟨⟨Z, Z, Z, (cB (by simp [E, ah, J, ak, O, an, ab, a9, V, be, ac, cc]))⟩, Z⟩)
 have cd := Qx ac
 have fk := of_decide_eq_true cd
 refine Xf Z Z Z ac (Xd (o' := 6) Qt Z Z Z (Xf Z Z Z ac (Xh (v := .slice m.qa m.t.queue.length m.qc) Js Z (aj.cell Z) Z (Xf Z Z Z ac (Yu (by kernel_rfl) Z Z (Xf Z Z Z ac (Xd (o' := 6) Qt Z Z Z (Xf Z Z Z ac (Xh (v := .slice p.qa p.t.queue.length p.qc) Js Z (G.blk.cell Z) Z (Xf Z Z Z ac (Yu (by kernel_rfl) Z Z (Xf Z Z Z ac ?_))))))))))))
 exact Y8 (q := !(decide ((m.t.queue.length : Int) = (p.t.queue.length : Int)))) Z Z Z Z (Xo (v := vb (!(decide ((m.t.queue.length : Int) = (p.t.queue.length : Int))))) Z ac Z Z (Xc ⟨⟨Z, Z, Z, (cB (by simp [E, ah, J, ak, O, an, ab, a9, V, be, ac, cd]))⟩, Z⟩))
 rintro ex gi ⟨⟨d0, d1, ew, d2⟩, rfl⟩
 refine Xy d2 (fun ba => ?_) (fun ba => ?_)
 refine Xa (Xe (v := vb false) Z Z (Xc (Xt (Yk (⟨vb false, Yp Z Z, ?_, bk⟩)))))
 exact cB (decide_eq_false (fun e => by have h := ba; rw [e] at h; simp at h)).symm
 have ce := Kq ba
 have cf := Kq ce
 have cg := Kq cf
 have cj := Kq cg
 have ck := Kq cj
 have d3 := Kq ck
 have cl := Qx d3
 have fm := of_decide_eq_true cl
 have d4 := Kr ck
 have cm := Qx d4
 have fo := of_decide_eq_true cm
 have d5 := Kr cj
 have cn := Qx d5
 have fp := of_decide_eq_true cn
 have d6 := Kr cg
 have co := Qx d6
 have fq := of_decide_eq_true co
 have d7 := Kr cf
 have ct := Qx d7
 have fr := of_decide_eq_true ct
 have d8 := Kr ce
 have d9 := Qx d8
 have ft := of_decide_eq_true d9
 have ea := Kr ba
 have eb := Qx ea
 have fu := of_decide_eq_true eb
 refine Xw (Xu (Xq (Xa (Xe (v := vi 0) Z Z (Xc (Yc (Qm (fun mm f' w' => ∃ (k : Nat), mm = m.t.slots.length - k ∧ k ≤ m.t.slots.length ∧ m.t.slots.take k = p.t.slots.take k ∧ f' 5 = vi (k : Int) ∧ f' 2 = pt af 0 ∧ f' 3 = pt ag 0 ∧ w.grownBy w' none ∧ Blk w' af 38 #[vi m.t.kind, vi m.t.lab.s, vi m.t.lab.v, vi m.t.ve, vi m.t.num, .slice m.sa m.t.slots.length m.sc, .slice m.qa m.t.queue.length m.qc, vi m.t.to] ∧ Blk w' ag 38 #[vi p.t.kind, vi p.t.lab.s, vi p.t.lab.v, vi p.t.ve, vi p.t.num, .slice p.sa p.t.slots.length p.sc, .slice p.qa p.t.queue.length p.qc, vi p.t.to]) (m.t.slots.length - 0) ⟨0, Z, (Nat.zero_le _), Z, Z, d0, d1, bk, (ai.blk.grown0 G.grw), G.blk⟩ ?_)))))))
 rintro mm ey ek ⟨k, er, hk, hs5, aw, az, bc, al, bb, bn⟩
 refine Xq (Xa (Xb (v := vi (k : Int)) aw Z (Xd (o' := 5) Qj az Z Z (Xh (v := .slice m.sa m.t.slots.length m.sc) Jh Z (bb.cell Z) Z (Yu (by kernel_rfl) Z Z (Qa (q := decide ((k : Int) < (m.t.slots.length : Int))) Z Z Z Z (Xc (Xy Z (fun bf => ?_) (fun bf => ?_)))))))))
 have fv := of_decide_eq_true bf
 refine Xw (Xu (Xq (Yc (Xq ?_))))
 obtain ⟨ad, aq⟩ := Jn (l := m.t.slots) (i := k) (by omega)
 obtain ⟨dw, gb, ef, c8, dm, dr⟩ := SlAt.at ha.1 (Yi aq)
 obtain ⟨ae, ar⟩ := Jn (l := p.t.slots) (i := k) (by omega)
 obtain ⟨dx, gc, eg, c9, dn, dt⟩ := SlAt.at hb.1 (Yi ar)
 refine Yw (m := 10) (vals := [(65, pt af 5), (66, .slice m.sa m.t.slots.length m.sc), (67, vi (k : Int)), (68, pt dw ef), (69, .agg #[vi ad.th, vi ad.ve, vb ad.rd, vb ad.wr, vb ad.wk]), (70, pt ag 5), (71, .slice p.sa p.t.slots.length p.sc), (72, vi (k : Int)), (73, pt dx eg), (74, .agg #[vi ae.th, vi ae.ve, vb ae.rd, vb ae.wr, vb ae.wk])]) (fun w' => ek.grownBy w' none) Yy (by kernel_rfl) (X6 _) ?_ ?_
 exact yl Z (fun _ _ k => Xd (o' := 5) Qj az Z Z k) (yl Z (fun _ dc k => Xh (v := .slice m.sa m.t.slots.length m.sc) Jh Z ((bb.grown0 dc).cell Z) Z k) (yl Z (fun _ _ kq => Xb (v := vi (k : Int)) aw Z kq) (yl Z (fun _ _ k => Xz Ka Z Z c8 dm (by omega) (by omega) Z k) (yl Z (fun _ de k => Xp (vs := [vi ad.th, vi ad.ve, vb ad.rd, vb ad.wr, vb ad.wk]) Yx Z Z (Yr (X9 dr (low0 al de)) 0 5 Z) Z k) (yl Z (fun _ _ k => Xd (o' := 5) Qj bc Z Z k) (yl Z (fun _ df k => Xh (v := .slice p.sa p.t.slots.length p.sc) Jh Z ((bn.grown0 df).cell Z) Z k) (yl Z (fun _ _ kq => Xb (v := vi (k : Int)) aw Z kq) (yl Z (fun _ _ k => Xz Ka Z Z c9 dn (by omega) (by omega) Z k) (yl Z (fun _ dg k => Xp (vs := [vi ae.th, vi ae.ve, vb ae.rd, vb ae.wr, vb ae.wk]) Yx Z Z (Yr (X9 dt (low0 al dg)) 0 5 Z) Z k) Y5)))))))))
 intro gj ao
 have bl := low0 al ao
 refine Vn (q := !(decide (ad = ae))) Z Z (Tc _ _ ad ae _) (Td ad ae _) Z Z (Xc (Xu (Xy Z (fun bg => ?_) (fun bg => ?_))))
 have cv := Q2 bg
 have fw := of_decide_eq_false cv
 refine Xa (Xe (v := vb false) Z Z (Xc (Xt (Qi (Yk (Yk (Qi (Yk (⟨vb false, Yp Z Z, ?_, bl⟩)))))))))
 exact cB (decide_eq_false (fun e => Lu aq ar (of_decide_eq_false cv) (congrArg Th.slots e))).symm
 have cw := Qx bg
 have fx := of_decide_eq_true cw
 exact Xw (Y7 (Xu (X2 (Xb (v := vi (k : Int)) aw Z (Yn (c := (k : Int) + 1) Z Z (by omega) (by omega) (by omega) Z (Xe (v := vi ((k : Int) + 1)) Z Z (Xc (Xu (⟨m.t.slots.length - (k + 1), by omega, (k + 1), Z, (by omega), (Wx hs5 aq ar (of_decide_eq_true cw)), Z, az, bc, bl, (bb.grown0 ao), (bn.grown0 ao)⟩)))))))))
 have fy := of_decide_eq_false bf
 refine Qe (Qb (Qb (Jm (Xu (Xq (Xa (Xe (v := vi 0) Z Z (Xc (Yc (Qm (fun mm f' w' => ∃ (j : Nat), mm = m.t.queue.length - j ∧ j ≤ m.t.queue.length ∧ m.t.queue.take j = p.t.queue.take j ∧ f' 6 = vi (j : Int) ∧ f' 2 = pt af 0 ∧ f' 3 = pt ag 0 ∧ w.grownBy w' none ∧ Blk w' af 38 #[vi m.t.kind, vi m.t.lab.s, vi m.t.lab.v, vi m.t.ve, vi m.t.num, .slice m.sa m.t.slots.length m.sc, .slice m.qa m.t.queue.length m.qc, vi m.t.to] ∧ Blk w' ag 38 #[vi p.t.kind, vi p.t.lab.s, vi p.t.lab.v, vi p.t.ve, vi p.t.num, .slice p.sa p.t.slots.length p.sc, .slice p.qa p.t.queue.length p.qc, vi p.t.to]) (m.t.queue.length - 0) ⟨0, Z, (Nat.zero_le _), Z, Z, az, bc, al, bb, bn⟩ ?_))))))))))
 rintro mm ez em ⟨j, eu, hj, ee, a8, bd, bu, am, bp, cz⟩
 refine Xq (Xa (Xb (v := vi (j : Int)) a8 Z (Xd (o' := 6) Qt bd Z Z (Xh (v := .slice m.qa m.t.queue.length m.qc) Js Z (bp.cell Z) Z (Yu (by kernel_rfl) Z Z (Qa (q := decide ((j : Int) < (m.t.queue.length : Int))) Z Z Z Z (Xc (Xy Z (fun bh => ?_) (fun bh => ?_)))))))))
 have fz := of_decide_eq_true bh
 refine Xw (Xu (Xq (Yc (Xq ?_))))
 obtain ⟨bq, au⟩ := Jn (l := m.t.queue) (i := j) (by omega)
 obtain ⟨dy, gf, eh, da, dp, du⟩ := SlAt.at ha.2.1 (Yi au)
 obtain ⟨br, av⟩ := Jn (l := p.t.queue) (i := j) (by omega)
 obtain ⟨dz, gg, ei, db, dq, dv⟩ := SlAt.at hb.2.1 (Yi av)
 refine Yw (m := 10) (vals := [(83, pt af 6), (84, .slice m.qa m.t.queue.length m.qc), (85, vi (j : Int)), (86, pt dy eh), (87, vi bq), (88, pt ag 6), (89, .slice p.qa p.t.queue.length p.qc), (90, vi (j : Int)), (91, pt dz ei), (92, vi br)]) (fun w' => em.grownBy w' none) Yy (by kernel_rfl) (X6 _) ?_ ?_
 exact yl Z (fun _ _ k => Xd (o' := 6) Qt bd Z Z k) (yl Z (fun _ dh k => Xh (v := .slice m.qa m.t.queue.length m.qc) Js Z ((bp.grown0 dh).cell Z) Z k) (yl Z (fun _ _ k => Xb (v := vi (j : Int)) a8 Z k) (yl Z (fun _ _ k => Xz J6 Z Z da dp (by omega) (by omega) Z k) (yl Z (fun _ di k => Xh (v := vi bq) X1 Z ((X9 du (low0 am di)) 0 _ Z) Z k) (yl Z (fun _ _ k => Xd (o' := 6) Qt bu Z Z k) (yl Z (fun _ dk k => Xh (v := .slice p.qa p.t.queue.length p.qc) Js Z ((cz.grown0 dk).cell Z) Z k) (yl Z (fun _ _ k => Xb (v := vi (j : Int)) a8 Z k) (yl Z (fun _ _ k => Xz J6 Z Z db dq (by omega) (by omega) Z k) (yl Z (fun _ dl k => Xh (v := vi br) X1 Z ((X9 dv (low0 am dl)) 0 _ Z) Z k) Y5)))))))))
 intro gk ap
 have bm := low0 am ap
 refine Y8 (q := !(decide (bq = br))) Z Z Z Z (Xc (Xu (Xy Z (fun bi => ?_) (fun bi => ?_))))
 have cx := Q2 bi
 have f8 := of_decide_eq_false cx
 refine Xa (Xe (v := vb false) Z Z (Xc (Xt (Qi (Yk (Yk (Qi (Yk (⟨vb false, Yp Z Z, ?_, bm⟩)))))))))
 exact cB (decide_eq_false (fun e => Lu au av (of_decide_eq_false cx) (congrArg Th.queue e))).symm
 have cy := Qx bi
 have f9 := of_decide_eq_true cy
 exact Xw (Y7 (Xu (X2 (Xb (v := vi (j : Int)) a8 Z (Yn (c := (j : Int) + 1) Z Z (by omega) (by omega) (by omega) Z (Xe (v := vi ((j : Int) + 1)) Z Z (Xc (Xu (⟨m.t.queue.length - (j + 1), by omega, (j + 1), Z, (by omega), (Wx ee au av (of_decide_eq_true cy)), Z, bd, bu, bm, (bp.grown0 ap), (cz.grown0 ap)⟩)))))))))
 have ga := of_decide_eq_false bh
 refine Qe (Qb (Qb (Jm (Xu (Xa (Xe (v := vb true) Z Z (Xc (Xt (⟨vb true, Yp Z Z, ?_, am⟩)))))))))
 exact cB (decide_eq_true (O1 (of_decide_eq_true cl) (of_decide_eq_true cm) (of_decide_eq_true cn) (of_decide_eq_true co) (Gu hs5 (by omega) (by omega)) (Gu ee (by omega) (by omega)) (of_decide_eq_true ct))).symm
end Go.Proofs.YtjpgffmkcmcolaaGreatDoor
end
section
namespace Go.Dw
def MTh.zero : MTh := ⟨Th.zero, none, 0, none, 0⟩
def mAt (ms : List MTh) (i : Nat) : MTh := ms.getD i MTh.zero
theorem J5 {ms : List MTh} {i : Nat} (h : i < ms.length) : ms[i]? = some (mAt ms i) := by
  unfold mAt
  rw [List.getD_eq_getElem?_getD, List.getElem?_eq_getElem h]
  rfl
def rAt (xs : List Rt) (i : Nat) : Rt := xs.getD i Rt.zero
theorem V4 {xs : List Rt} {i : Nat} (h : i < xs.length) : xs[i]? = some (rAt xs i) := by
  unfold rAt
  rw [List.getD_eq_getElem?_getD, List.getElem?_eq_getElem h]
  rfl
def iAt (xs : List Int) (i : Nat) : Int := xs.getD i 0
theorem Ve {xs : List Int} {i : Nat} (h : i < xs.length) : xs[i]? = some (iAt xs i) := by
  unfold iAt
  rw [List.getD_eq_getElem?_getD, List.getElem?_eq_getElem h]
  rfl
def thAt (ts : List Th) (k : Int) : Th := ts.getD (k - 1).toNat Th.zero
def tabT (ms : List MTh) : List Th := ms.map (·.t)
theorem Qd (ms : List MTh) : (tabT ms).length = ms.length := List.length_map _
theorem Z5 (ms : List MTh) (i : Nat) : (mAt ms i).t = (tabT ms).getD i Th.zero := by
  unfold mAt tabT
  rw [List.getD_eq_getElem?_getD, List.getD_eq_getElem?_getD, List.getElem?_map]
  cases ms[i]? <;> rfl
theorem Qw (ms : List MTh) (k : Int) : (mAt ms (k - 1).toNat).t = thAt (tabT ms) k := Z5 ms _
def kindAt (ts : List Th) (k kd : Int) : Bool := inR k 1 (ts.length : Int) && decide ((thAt ts k).kind = kd)
def gateOk (ts : List Th) (t : Th) : Bool := !(decide (t.kind = 5)) || kindAt ts t.to 1
def rightTo (ts : List Th) (r : Rt) : Bool := decide (r.th = 0) || (inR r.th 1 (ts.length : Int) && decide (r.ve ≤ (thAt ts r.th).ve))
def tableOk (ts : List Th) : Bool := inR (ts.length : Int) 1 8 && (ts.all (fun t => thingOk t && gateOk ts t) && ts.all (fun t => t.slots.all (rightTo ts)))
theorem Jg {t : Th} (h : thingOk t = true) : inR t.kind 1 5 = true ∧ labelOk t.lab = true ∧ versOk t = true ∧ numOk t = true ∧ slotsOk t = true ∧ queueOk t = true ∧ targetOk t = true := by
  unfold thingOk at h
  simp only [Bool.and_eq_true] at h
  obtain ⟨⟨⟨⟨⟨⟨h1, h2⟩, h3⟩, h4⟩, h5⟩, h6⟩, h7⟩ := h
  exact ⟨h1, h2, h3, h4, h5, h6, h7⟩
theorem Qu {n lo hi : Int} : inR n lo hi = true ↔ lo ≤ n ∧ n ≤ hi := by simp [inR]
theorem H5 {t : Th} (h : thingOk t = true) (hk : decide (t.kind = 5) = true) : 1 ≤ t.to ∧ t.to ≤ 8 := by
  have h7 := (Jg h).2.2.2.2.2.2
  unfold targetOk at h7
  rw [if_pos (of_decide_eq_true hk)] at h7
  exact Qu.1 h7
theorem L3 {t : Th} (h : thingOk t = true) : t.slots.all rightOk = true := by
  rw [Vu] at h
  simp only [Bool.and_eq_true] at h
  exact h.1.1.2
theorem Uq {r : Rt} (h : rightOk r = true) : 0 ≤ r.th ∧ r.th ≤ 8 := by
  unfold rightOk at h
  simp only [Bool.or_eq_true, Bool.and_eq_true, decide_eq_true_eq] at h
  rcases h with rfl | ⟨⟨h1, _⟩, _⟩
  · exact ⟨by decide, by decide⟩
  · have := Qu.1 h1
    omega
theorem L2 {t : Th} {k : Nat} {r : Rt} (h : thingOk t = true) (hk : t.slots[k]? = some r) : 0 ≤ r.th ∧ r.th ≤ 8 :=
  Uq (List.all_eq_true.1 (L3 h) r (List.mem_of_getElem? hk))
def rowOk (ts : List Th) (t : Th) : Bool := (thingOk t && gateOk ts t) && t.slots.all (rightTo ts)
theorem V1 (ts : List Th) : tableOk ts = (inR (ts.length : Int) 1 8 && ts.all (rowOk ts)) := by
  unfold tableOk rowOk
  congr 1
  generalize rightTo ts = p
  rw [Bool.eq_iff_iff]
  simp only [Bool.and_eq_true, List.all_eq_true]
  exact ⟨fun h x hx => ⟨h.1 x hx, h.2 x hx⟩, fun h => ⟨fun x hx => (h x hx).1, fun x hx => (h x hx).2⟩⟩
theorem Ww {ms : List MTh} {k : Nat} (h : k < ms.length) : (tabT ms)[k]? = some (mAt ms k).t := by
  unfold tabT
  rw [List.getElem?_map, J5 h]
  rfl
theorem Dq {ms : List MTh} {k : Nat} (h : k < ms.length) (hr : rowOk (tabT ms) (mAt ms k).t = false) : false = tableOk (tabT ms) := by
  rw [V1, K3 (p := rowOk (tabT ms)) (Ww h) hr, Bool.and_false]
theorem E7 {ms : List MTh} {k : Nat} (h : (((tabT ms).take k).all (rowOk (tabT ms))) = true) (hk : ms.length ≤ k) : inR (ms.length : Int) 1 8 = tableOk (tabT ms) := by
  rw [V1, K9 h (by rw [Qd]; exact hk), Bool.and_true, Qd]
theorem We {ms : List MTh} {t : Th} {z : Bool} (hz : z = ((!thingOk t) || ((decide (t.kind = 5)) && ((decide ((ms.length : Int) < t.to)) || (!(decide ((mAt ms (t.to - 1).toNat).t.kind = 1))))))) :
    (z = true → rowOk (tabT ms) t = false) ∧ (z = false → thingOk t = true ∧ gateOk (tabT ms) t = true) := by
  subst hz
  cases ht : thingOk t with
  | false => simp [rowOk, ht]
  | true =>
    by_cases h5 : t.kind = 5
    · have hb := H5 ht (decide_eq_true h5)
      simp only [rowOk, gateOk, kindAt, ht, h5, Qw, Qd, inR]
      by_cases hl : t.to ≤ (ms.length : Int)
      · have h1 : ¬ (ms.length : Int) < t.to := by omega
        by_cases hk : (thAt (tabT ms) t.to).kind = 1 <;> simp [h1, hl, hb.1, hk]
      · have h1 : (ms.length : Int) < t.to := by omega
        simp [h1, hl]
    · simp [gateOk, h5]
theorem N0 {ms : List MTh} {r : Rt} (h0 : 0 ≤ r.th) : ((decide ((ms.length : Int) < r.th)) || ((decide (0 < r.th)) && (decide ((mAt ms (r.th - 1).toNat).t.ve < r.ve)))) = !rightTo (tabT ms) r := by
  unfold rightTo inR
  rw [Qw, Qd, Bool.eq_iff_iff]
  simp
  omega
theorem E1 {ms : List MTh} {t : Th} {k : Nat} {r : Rt} (hr : t.slots[k]? = some r) (h : rightTo (tabT ms) r = false) : rowOk (tabT ms) t = false := by
  unfold rowOk
  rw [K3 hr h, Bool.and_false]
theorem E2 {ms : List MTh} {t : Th} {j : Nat} (ht : thingOk t = true) (hg : gateOk (tabT ms) t = true) (h : ((t.slots.take j).all (rightTo (tabT ms))) = true) (hj : t.slots.length ≤ j) : rowOk (tabT ms) t = true := by
  unfold rowOk
  rw [ht, hg, K9 h hj]
  rfl
def TabLen (ms : List MTh) : Prop := ∀ m ∈ ms, m.t.slots.length ≤ 1048576 ∧ m.t.queue.length ≤ 1048576
theorem TabLen.at {ms : List MTh} (h : TabLen ms) {k : Nat} {m : MTh} (hk : ms[k]? = some m) : m.t.slots.length ≤ 1048576 ∧ m.t.queue.length ≤ 1048576 := h m (List.mem_of_getElem? hk)
end Go.Dw
end
section
namespace Go.Dw
abbrev mj (ms : List MTh) (k : Int) : MTh := mAt ms (k - 1).toNat
abbrev sj (ms : List MTh) (q : Cl) : Rt := rAt (mAt ms (q.run - 1).toNat).t.slots q.a.toNat
theorem xg (ms : List MTh) (i : Nat) (h : i < ms.length := by omega) : ms[i]? = some (mAt ms i) := J5 h
theorem xr (xs : List Rt) (i : Nat) (h : i < xs.length := by omega) : xs[i]? = some (rAt xs i) := V4 h
end Go.Dw
end
section
namespace Go.Dw
def SlX (X : Option Nat) (w : World) (a : Option Addr) (sz : Nat) (xs : List (List Value)) : Prop := ∀ k x, xs[k]? = some x → ∃ b o, a = some ⟨b, o, none⟩ ∧ some b ≠ X ∧ w.rangeAt b (o + k * sz) x
section
variable {X : Option Nat} {w w' : World} {a : Option Addr} {sz : Nat} {xs : List (List Value)}
theorem SlX.sl (h : SlX X w a sz xs) : SlAt w a sz xs := fun k x hk => by
  obtain ⟨b, o, ha, _, hr⟩ := h k x hk
  exact ⟨b, o, ha, hr⟩
theorem SlX.low (h : SlX X w a sz xs) (hg : w.grownBy w' none) : SlX X w' a sz xs := fun k x hk => by
  obtain ⟨b, o, ha, hb, hr⟩ := h k x hk
  exact ⟨b, o, ha, hb, Kg hr hg (by simp)⟩
theorem SlX.grown (h : SlX X w a sz xs) (hg : w.grownBy w' X) : SlX X w' a sz xs := fun k x hk => by
  obtain ⟨b, o, ha, hb, hr⟩ := h k x hk
  exact ⟨b, o, ha, hb, Kg hr hg hb⟩
theorem SlX.nil : SlX X w a sz [] := fun k x hk => by simp at hk
theorem SlX.rows {α : Type} {g : α → List Value} (hg : Wide g sz) {ys : List α} {B : Nat} {T : TypeId} (h : Blk w B T (ys.flatMap g).toArray) (hB : some B ≠ X) : SlX X w (some ⟨B, 0, none⟩) sz (ys.map g) := fun k x hk => by
  obtain ⟨b, o, ha, hr⟩ := Jw hg h k x hk
  simp only [Option.some.injEq, Addr.mk.injEq] at ha
  obtain ⟨rfl, rfl, _⟩ := ha
  exact ⟨_, _, rfl, hB, hr⟩
theorem SlX.own {α : Type} {g : α → List Value} (hg : Wide g sz) {ys : List α} {B cap n : Nat} {T : TypeId} (h : Own w B T sz cap n (ys.flatMap g)) (hB : some B ≠ X) : SlX X w (some ⟨B, 0, none⟩) sz (ys.map g) := fun k x hk => by
  obtain ⟨b, o, ha, hr⟩ := Own.sl hg h k x hk
  simp only [Option.some.injEq, Addr.mk.injEq] at ha
  obtain ⟨rfl, rfl, _⟩ := ha
  exact ⟨_, _, rfl, hB, hr⟩
theorem SlX.ownN {α : Type} {g : α → List Value} (hg : Wide g sz) (h0 : 0 < sz) {ys : List α} {cap n lo : Nat} {T : TypeId} (h : OwnN lo w a T sz cap n (ys.flatMap g)) (hB : ∀ b, X = some b → b < lo) : SlX X w a sz (ys.map g) := fun k x hk => by
  obtain ⟨b, o, ha, hr⟩ := OwnN.sl hg h0 h k x hk
  refine ⟨b, o, ha, fun e => ?_, hr⟩
  have h1 := hB b e.symm
  rcases h.form with ⟨h2, _⟩ | ⟨B, h2, h3, _⟩
  · rw [h2] at ha; cases ha
  · rw [h2] at ha
    simp only [Option.some.injEq, Addr.mk.injEq] at ha
    omega
end
def ThX (X : Option Nat) (w : World) (m : MTh) : Prop := SlX X w m.sa 5 (m.t.slots.map Rt.cells) ∧ SlX X w m.qa 1 (m.t.queue.map icell) ∧ (m.sa = none → m.sc = 0) ∧ (m.qa = none → m.qc = 0)
def TabX (X : Option Nat) (w : World) (a : Option Addr) (ms : List MTh) : Prop := SlX X w a 8 (ms.map MTh.cells) ∧ ∀ m ∈ ms, ThX X w m
section
variable {X : Option Nat} {w w' : World} {a : Option Addr} {m : MTh} {ms : List MTh}
theorem ThX.at (h : ThX X w m) : ThAt w m := ⟨h.1.sl, h.2.1.sl, h.2.2⟩
theorem ThX.low (h : ThX X w m) (hg : w.grownBy w' none) : ThX X w' m := ⟨h.1.low hg, h.2.1.low hg, h.2.2⟩
theorem ThX.grown (h : ThX X w m) (hg : w.grownBy w' X) : ThX X w' m := ⟨h.1.grown hg, h.2.1.grown hg, h.2.2⟩
theorem TabX.at (h : TabX X w a ms) : TabAt w a ms := ⟨h.1.sl, fun m hm => (h.2 m hm).at⟩
theorem TabX.low (h : TabX X w a ms) (hg : w.grownBy w' none) : TabX X w' a ms := ⟨h.1.low hg, fun m hm => (h.2 m hm).low hg⟩
theorem TabX.grown (h : TabX X w a ms) (hg : w.grownBy w' X) : TabX X w' a ms := ⟨h.1.grown hg, fun m hm => (h.2 m hm).grown hg⟩
theorem TabX.th (h : TabX X w a ms) {k : Nat} (hk : ms[k]? = some m) : ThX X w m := h.2 m (List.mem_of_getElem? hk)
end
theorem Bg {ys ms : List MTh} {k : Nat} {m m' : MTh} (h : tabT ys = (tabT ms).take k) (hx : ms[k]? = some m) (he : m'.t = m.t) : tabT (ys ++ [m']) = (tabT ms).take (k + 1) := by
  have h1 : (tabT ms)[k]? = some m.t := by unfold tabT; rw [List.getElem?_map, hx]; rfl
  rw [List.take_add_one, h1, ← h]
  simp [tabT, he]
theorem Dp {ys ms : List MTh} {k : Nat} (h : tabT ys = (tabT ms).take k) (hk : ms.length ≤ k) : tabT ys = tabT ms := by
  rwa [List.take_of_length_le (by rw [Qd]; exact hk)] at h
theorem TabLen.of {ys ms : List MTh} (h : tabT ys = tabT ms) (hl : TabLen ms) : TabLen ys := fun m hm => by
  have h1 : m.t ∈ tabT ms := by rw [← h]; exact List.mem_map.2 ⟨m, hm, rfl⟩
  obtain ⟨m', hm', e⟩ := List.mem_map.1 h1
  have := hl m' hm'
  rwa [e] at this
theorem Hy {ys ms : List MTh} (h : tabT ys = tabT ms) : ys.length = ms.length := by
  have := congrArg List.length h
  rwa [Qd, Qd] at this
def TabBig (ms : List MTh) : Prop := ∀ m ∈ ms, m.t.slots.length ≤ 9223372036854775807 ∧ m.t.queue.length ≤ 9223372036854775807
theorem TabBig.at {ms : List MTh} (h : TabBig ms) {k : Nat} {m : MTh} (hk : ms[k]? = some m) : m.t.slots.length ≤ 9223372036854775807 ∧ m.t.queue.length ≤ 9223372036854775807 := h m (List.mem_of_getElem? hk)
theorem Mb {ms : List MTh} (h : tableOk (tabT ms) = true) {i : Nat} (hi : i < ms.length) : rowOk (tabT ms) (mAt ms i).t = true := by
  rw [V1] at h
  exact List.all_eq_true.1 (Bool.and_eq_true_iff.1 h).2 _ (List.mem_of_getElem? (Ww hi))
theorem Ju {ms : List MTh} (h : tableOk (tabT ms) = true) {i : Nat} (hi : i < ms.length) : thingOk (mAt ms i).t = true := by
  have h1 := Mb h hi
  unfold rowOk at h1
  simp only [Bool.and_eq_true] at h1
  exact h1.1.1
theorem U2 {ms : List MTh} (h : tableOk (tabT ms) = true) {i : Nat} (hi : i < ms.length) : labelOk (mAt ms i).t.lab = true := (Jg (Ju h hi)).2.1
theorem Jb {ms : List MTh} (h : tableOk (tabT ms) = true) : 1 ≤ ms.length ∧ ms.length ≤ 8 := by
  unfold tableOk at h
  have h1 := Qu.1 (Bool.and_eq_true_iff.1 h).1
  rw [Qd] at h1
  omega
theorem G5 {ms : List MTh} {k kd : Int} : (inR k 1 (ms.length : Int) && decide ((mAt ms (k - 1).toNat).t.kind = kd)) = kindAt (tabT ms) k kd := by
  unfold kindAt
  rw [Qw, Qd]
end Go.Dw
end
section
namespace Go.Proofs.YtjpgffmkcmcolaaGreatDoor
open Go.RowKit Go.Dw
set_option maxRecDepth 100000
set_option maxHeartbeats 4000000
set_option linter.unusedSimpArgs false
set_option linter.unusedVariables false
theorem Y2 : elemSz Tryz.prog 23 = some 8 := by kernel_rfl
theorem Nl : goFn Tryz.prog 45 = true := by kernel_rfl
theorem K5 (k : Int) (w : World) (a : Option Addr) (n c : Nat) : CallsR Tryz.prog 45 #[.slice a n c, vi k] w (fun v w' => v = vb (inR k 1 (n : Int)) ∧ w.grownBy w' none) := by
 refine Xx (n := 9) Tryz.func45 Z Tryz.ntmps45 Z (Xa (Xe (v := vb false) Z Z (Xc (Xa (Xb (v := vi k) Z Z (Xb (v := .slice a n c) Z Z (Yu (by kernel_rfl) Z Z (Xl Ug (Xg Z (Xg Z (Xg Z Xk))) Z (J9 k 1 (n : Int) _) ?_))))))))
 rintro _ G ⟨rfl, E⟩
 refine Xe (v := vb (inR k 1 (n : Int))) Z Z (Xc (Xt (⟨vb (inR k 1 (n : Int)), Yp Z Z, ?_, (low0 (World.grownBy.refl w none) E)⟩)))
 rfl
theorem Lp (k kd : Int) (hk : -9223372036854775807 ≤ k) (w : World) (ms : List MTh) (a : Option Addr) (c : Nat) (ht : TabAt w a ms) (hlen : TabLen ms) (hn : ms.length ≤ 1048576) : CallsR Tryz.prog 43 #[.slice a ms.length c, vi k, vi kd] w (fun v w' => v = vb (kindAt (tabT ms) k kd) ∧ w.grownBy w' none) := by
 refine Xx (n := 20) Tryz.func43 Z Tryz.ntmps43 Z ?_
 have ae := World.grownBy.refl w none
 refine Xa (Xe (v := vb false) Z Z (Xc (X7 (fun f' w' => (f' 6 = vb (inR k 1 (ms.length : Int) && (decide ((mj ms k).t.kind = kd)))) ∧ w.grownBy w' none) ?_ ?_)))
 refine Xb (v := .slice a ms.length c) Z Z (Xb (v := vi k) Z Z (Xl Nl (Xg Z (Xg Z Xk)) Z (K5 k _ _ _ _) ?_))
 rintro _ al ⟨rfl, G⟩
 have O := low0 ae G
 refine Xb (v := vb (inR k 1 (ms.length : Int))) Z Z ?_
 rcases Yf (inR k 1 (ms.length : Int)) with E | E
 have ah := Qu.1 E
 refine Xf Z Z Z E (Xb (v := .slice a ms.length c) Z Z (Xf Z Z Z E (Xb (v := vi k) Z Z (Xf Z Z Z E (Ys (c := k - 1) Z Z (by omega) (by omega) (by omega) Z (Xf Z Z Z E ?_))))))
 obtain ⟨ai, ak, af, J, ab, ac⟩ := SlAt.at (TabAt.low ht O).1 (Yi (xg ms (k - 1).toNat))
 have ag := TabLen.at hlen (xg ms (k - 1).toNat)
 exact Xz Y2 Z Z J ab (by omega) (by omega) Z (Xf Z Z Z E (Xd (o' := af) Y9 Z Z Z (Xf Z Z Z E (Xh (v := vi (mj ms k).t.kind) X1 Z (ac 0 _ Z) Z (Xf Z Z Z E (Xb (v := vi kd) Z Z (Xf Z Z Z E (X3 (q := decide ((mj ms k).t.kind = kd)) Z Z Z Z (Xs (v := vb (decide ((mj ms k).t.kind = kd))) Z E Z Z (Xe (v := vb (decide ((mj ms k).t.kind = kd))) Z Z (Xc ⟨(cB (by simp [E])), G⟩)))))))))))
 iterate 8 refine Xi rfl rfl rfl E rfl ?_
 exact Xo (v := vb false) Z E Z Z (Xe (v := vb false) Z Z (Xc ⟨(cB (by simp [E])), G⟩))
 rintro aj am ⟨ad, V⟩
 refine Xt (⟨vb (inR k 1 (ms.length : Int) && (decide ((mj ms k).t.kind = kd))), Yp Z ad, ?_, (low0 ae V)⟩)
 exact cB G5
theorem G0 (w : World) (ms : List MTh) (a : Option Addr) (c : Nat) (ht : TabAt w a ms) (hlen : TabLen ms) (hn : ms.length ≤ 1048576) : CallsR Tryz.prog 31 #[.slice a ms.length c] w (fun v w' => v = vb (tableOk (tabT ms)) ∧ w.grownBy w' none) := by
 refine Xx (n := 92) Tryz.func31 Z Tryz.ntmps31 Z (Xa (Xe (v := vb false) Z Z (Xc (Xq (Xa (Xe (v := vi 0) Z Z (Xc (Yc (Qm (fun mm f' w' => ∃ (k : Nat), mm = ms.length - k ∧ k ≤ ms.length ∧ (((tabT ms).take k).all (rowOk (tabT ms))) = true ∧ f' 3 = vi (k : Int) ∧ f' 0 = .slice a ms.length c ∧ w.grownBy w' none) (ms.length - 0) ⟨0, Z, (Nat.zero_le _), Z, Z, Z, (World.grownBy.refl w none)⟩ ?_)))))))))
 rintro mm dr db ⟨k, dk, hk, hall, ah, ab, ai⟩
 refine Xq (Xa (Xb (v := vi (k : Int)) ah Z (Xb (v := .slice a ms.length c) ab Z (Yu (by kernel_rfl) Z Z (Qa (q := decide ((k : Int) < (ms.length : Int))) Z Z Z Z (Xc (Xy Z (fun ag => ?_) (fun ag => ?_))))))))
 have dw := of_decide_eq_true ag
 refine Xw (Xu (Xq (Yc (Xq (X7 (fun f' w' => (f' 0 = .slice a ms.length c ∧ f' 3 = vi (k : Int) ∧ f' 48 = vb ((!thingOk (mAt ms k).t) || ((decide ((mAt ms k).t.kind = 5)) && ((decide ((ms.length : Int) < (mAt ms k).t.to)) || (!(decide ((mj ms (mAt ms k).t.to).t.kind = 1))))))) ∧ db.grownBy w' none) ?_ ?_)))))
 refine Xb (v := .slice a ms.length c) ab Z (Xb (v := vi (k : Int)) ah Z ?_)
 obtain ⟨dm, eb, bg, an, ao, ap⟩ := SlAt.at (TabAt.low ht ai).1 (Yi (xg ms k))
 have df := TabLen.at hlen (xg ms k)
 refine Xz Y2 Z Z an ao (by omega) (by omega) Z (Xp (vs := [vi (mAt ms k).t.kind, vi (mAt ms k).t.lab.s, vi (mAt ms k).t.lab.v, vi (mAt ms k).t.ve, vi (mAt ms k).t.num, .slice (mAt ms k).sa (mAt ms k).t.slots.length (mAt ms k).sc, .slice (mAt ms k).qa (mAt ms k).t.queue.length (mAt ms k).qc, vi (mAt ms k).t.to]) Y0 Z Z (Yr ap 0 8 Z) Z (Xl Rs (Xg Z Xk) Z (Us (mAt ms k) _ (TabAt.th (TabAt.low ht ai) (xg ms k)).1 (TabAt.th (TabAt.low ht ai) (xg ms k)).2.1 (by first | omega | exact Nat.le_of_ble_eq_true rfl | (simp only [List.length_nil, List.length_cons, List.length_append, List.length_replicate]; omega)) (by first | omega | exact Nat.le_of_ble_eq_true rfl | (simp only [List.length_nil, List.length_cons, List.length_append, List.length_replicate]; omega))) ?_))
 rintro _ eh ⟨rfl, ae⟩
 have bn := low0 ai ae
 refine Yl (b' := !thingOk (mAt ms k).t) Z Z Z (Xb (v := vb (!thingOk (mAt ms k).t)) Z Z ?_)
 rcases Yf (!thingOk (mAt ms k).t) with J | J
 have c8 := Q2 J
 iterate 7 refine Xi rfl rfl rfl J rfl ?_
 iterate 21 refine Y4 rfl rfl rfl rfl ?_
 exact Xi Z Z Z J Z (Xs (v := vb true) Z J Z Z (Xc ⟨⟨ab, ah, (cB (by simp [ag, J, c8]))⟩, ae⟩))
 have av := Qx J
 refine Xf Z Z Z J (Xb (v := .slice a ms.length c) ab Z (Xf Z Z Z J (Xb (v := vi (k : Int)) ah Z (Xf Z Z Z J (Xz Y2 Z Z an ao (by omega) (by omega) Z (Xf Z Z Z J (Xd (o' := bg) Y9 Z Z Z (Xf Z Z Z J (Xh (v := vi (mAt ms k).t.kind) X1 Z ((X9 ap ae) 0 _ Z) Z (Xf Z Z Z J (X3 (q := decide ((mAt ms k).t.kind = 5)) Z Z Z Z (Xf Z Z Z J ?_))))))))))))
 refine Xb (v := vb (decide ((mAt ms k).t.kind = 5))) Z Z ?_
 rcases Yf (decide ((mAt ms k).t.kind = 5)) with O | O
 have dc := H5 av O
 have dx := of_decide_eq_true O
 refine Xf Z Z Z O (Xb (v := .slice a ms.length c) ab Z (Xf Z Z Z O (Xb (v := vi (k : Int)) ah Z (Xf Z Z Z O (Xz Y2 Z Z an ao (by omega) (by omega) Z (Xf Z Z Z O (Xd (o' := bg + 7) Kk Z Z Z (Xf Z Z Z O (Xh (v := vi (mAt ms k).t.to) X1 Z ((X9 ap ae) 7 _ Z) Z (Xf Z Z Z O (Xb (v := .slice a ms.length c) ab Z (Xf Z Z Z O ?_))))))))))))
 refine Yu (by kernel_rfl) Z Z (Xf Z Z Z O (Jd (q := decide ((ms.length : Int) < (mAt ms k).t.to)) Z Z Z Z (Xf Z Z Z O (Xb (v := vb (decide ((ms.length : Int) < (mAt ms k).t.to))) Z Z ?_))))
 rcases Yf (decide ((ms.length : Int) < (mAt ms k).t.to)) with V | V
 have dy := of_decide_eq_true V
 iterate 11 refine Xi rfl rfl rfl V rfl ?_
 exact Xf Z Z Z O (Xs (v := vb true) Z V Z Z (Xf Z Z Z J (Xs (v := vb true) Z O Z Z (Xo (v := vb true) Z J Z Z (Xc ⟨⟨ab, ah, (cB (by simp [ag, J, av, O, V]))⟩, ae⟩)))))
 have dz := of_decide_eq_false V
 refine Xf Z Z Z V (Xb (v := .slice a ms.length c) ab Z (Xf Z Z Z V (Xb (v := .slice a ms.length c) ab Z (Xf Z Z Z V (Xb (v := vi (k : Int)) ah Z (Xf Z Z Z V (Xz Y2 Z Z an ao (by omega) (by omega) Z (Xf Z Z Z V (Xd (o' := bg + 7) Kk Z Z Z (Xf Z Z Z V (Xh (v := vi (mAt ms k).t.to) X1 Z ((X9 ap ae) 7 _ Z) Z (Xf Z Z Z V ?_))))))))))))
 refine Ys (c := (mAt ms k).t.to - 1) Z Z (by omega) (by omega) (by omega) Z (Xf Z Z Z V ?_)
 obtain ⟨dn, ed, da, bk, cg, cl⟩ := SlAt.at (TabAt.low ht bn).1 (Yi (xg ms ((mAt ms k).t.to - 1).toNat))
 have dg := TabLen.at hlen (xg ms ((mAt ms k).t.to - 1).toNat)
 exact Xz Y2 Z Z bk cg (by omega) (by omega) Z (Xf Z Z Z V (Xd (o' := da) Y9 Z Z Z (Xf Z Z Z V (Xh (v := vi (mj ms (mAt ms k).t.to).t.kind) X1 Z (cl 0 _ Z) Z (Xf Z Z Z V (Y8 (q := !(decide ((mj ms (mAt ms k).t.to).t.kind = 1))) Z Z Z Z (Xf Z Z Z O (Xo (v := vb (!(decide ((mj ms (mAt ms k).t.to).t.kind = 1)))) Z V Z Z (Xf Z Z Z J (Xs (v := vb (!(decide ((mj ms (mAt ms k).t.to).t.kind = 1)))) Z O Z Z (Xo (v := vb (!(decide ((mj ms (mAt ms k).t.to).t.kind = 1)))) Z J Z Z (Xc ⟨⟨ab, ah, (cB (by simp [ag, J, av, O, V]))⟩, ae⟩))))))))))))
 have d0 := of_decide_eq_false O
 iterate 9 refine Xi rfl rfl rfl O rfl ?_
 iterate 11 refine Y4 rfl rfl rfl rfl ?_
 exact Xi Z Z Z O Z (Xf Z Z Z J (Xo (v := vb false) Z O Z Z (Xo (v := vb false) Z J Z Z (Xc ⟨⟨ab, ah, (cB (by simp [ag, J, av, O]))⟩, ae⟩))))
 rintro dt ei ⟨⟨co, ct, cv⟩, bp⟩
 have bb := low0 ai bp
 refine Xy cv (fun ac => ?_) (fun ac => ?_)
 refine Xa (Xe (v := vb false) Z Z (Xc (Xt (Yk (Qi (Yk (Yk (Qi (Yk (⟨vb false, Yp Z Z, ?_, bb⟩))))))))))
 exact cB (Dq (by omega) ((We Z).1 ac))
 have aw := Kq ac
 have a8 := Qx aw
 have a9 := Kr ac
 refine Xw (Xu (Xa (Xe (v := vi 0) Z Z (Xc (Yc (Qm (fun mm f' w' => ∃ (j : Nat), mm = (mAt ms k).t.slots.length - j ∧ j ≤ (mAt ms k).t.slots.length ∧ (((mAt ms k).t.slots.take j).all (rightTo (tabT ms))) = true ∧ f' 4 = vi (j : Int) ∧ f' 0 = .slice a ms.length c ∧ f' 3 = vi (k : Int) ∧ w.grownBy w' none) ((mAt ms k).t.slots.length - 0) ⟨0, Z, (Nat.zero_le _), Z, Z, co, ct, bb⟩ ?_))))))
 rintro mm du ej ⟨j, dl, hj, hrs, aq, af, al, ak⟩
 have ew : ∀ j, j < (mAt ms k).t.slots.length → 0 ≤ (rAt (mAt ms k).t.slots j).th ∧ (rAt (mAt ms k).t.slots j).th ≤ 8 := fun j hj => L2 ((We rfl).2 ac).1 (V4 hj)
 refine Xq (Xa (Xb (v := vi (j : Int)) aq Z (Xb (v := .slice a ms.length c) af Z (Xb (v := vi (k : Int)) al Z ?_))))
 obtain ⟨dp, ee, bj, ba, be, bf⟩ := SlAt.at (TabAt.low ht ak).1 (Yi (xg ms k))
 have dh := TabLen.at hlen (xg ms k)
 refine Xz Y2 Z Z ba be (by omega) (by omega) Z (Xd (o' := bj + 5) Qj Z Z Z (Xh (v := .slice (mAt ms k).sa (mAt ms k).t.slots.length (mAt ms k).sc) Jh Z (bf 5 _ Z) Z (Yu (by kernel_rfl) Z Z (Qa (q := decide ((j : Int) < ((mAt ms k).t.slots.length : Int))) Z Z Z Z (Xc (Xy Z (fun am => ?_) (fun am => ?_)))))))
 have d1 := of_decide_eq_true am
 refine Xw (Xu (Xq (Yc (Xa (Xb (v := .slice a ms.length c) af Z (Xb (v := vi (k : Int)) al Z (Xz Y2 Z Z ba be (by omega) (by omega) Z (Xd (o' := bj + 5) Qj Z Z Z (Xh (v := .slice (mAt ms k).sa (mAt ms k).t.slots.length (mAt ms k).sc) Jh Z (bf 5 _ Z) Z (Xb (v := vi (j : Int)) aq Z ?_))))))))))
 obtain ⟨dq, ef, ea, bl, cj, cm⟩ := SlAt.at (TabAt.th (TabAt.low ht ak) (xg ms k)).1 (Yi (xr (mAt ms k).t.slots j))
 refine Xz Ka Z Z bl cj (by omega) (by omega) Z (Xp (vs := [vi (rAt (mAt ms k).t.slots j).th, vi (rAt (mAt ms k).t.slots j).ve, vb (rAt (mAt ms k).t.slots j).rd, vb (rAt (mAt ms k).t.slots j).wr, vb (rAt (mAt ms k).t.slots j).wk]) Yx Z Z (Yr cm 0 5 Z) Z (Ye (cs := #[vi 0, vi 0, vb false, vb false, vb false]) Kz Z Z ?_))
 intro aj ek au
 have de := Yj au ak
 refine X0 (vs := [vi (rAt (mAt ms k).t.slots j).th, vi (rAt (mAt ms k).t.slots j).ve, vb (rAt (mAt ms k).t.slots j).rd, vb (rAt (mAt ms k).t.slots j).wr, vb (rAt (mAt ms k).t.slots j).wk]) (cs' := #[vi (rAt (mAt ms k).t.slots j).th, vi (rAt (mAt ms k).t.slots j).ve, vb (rAt (mAt ms k).t.slots j).rd, vb (rAt (mAt ms k).t.slots j).wr, vb (rAt (mAt ms k).t.slots j).wk]) Yx Z Z Z (by simp [Value.oneCell']) au.blk (Nat.le_of_ble_eq_true Z) Z ?_
 intro az ad
 have bc := low1 (low0 ak au.grw) ad.grw (by omega)
 refine Xc (Kn (fun f' w' => (f' 0 = .slice a ms.length c ∧ f' 3 = vi (k : Int) ∧ f' 4 = vi (j : Int) ∧ f' 88 = vb ((decide ((ms.length : Int) < (rAt (mAt ms k).t.slots j).th)) || ((decide (0 < (rAt (mAt ms k).t.slots j).th)) && (decide ((mj ms (rAt (mAt ms k).t.slots j).th).t.ve < (rAt (mAt ms k).t.slots j).ve))))) ∧ az.grownBy w' none) ?_ ?_)
 rcases Yf (decide ((ms.length : Int) < (rAt (mAt ms k).t.slots j).th)) with G | G
 have d2 := of_decide_eq_true G
 refine Yw (m := 19) (vals := [(67, pt aj 0), (68, vi (rAt (mAt ms k).t.slots j).th), (69, .slice a ms.length c), (70, vi (ms.length : Int)), (71, vb (decide ((ms.length : Int) < (rAt (mAt ms k).t.slots j).th))), (72, vb (decide ((ms.length : Int) < (rAt (mAt ms k).t.slots j).th))), (73, undef), (74, undef), (75, undef), (76, undef), (77, undef), (78, undef), (79, undef), (80, undef), (81, undef), (82, undef), (83, undef), (84, undef), (85, undef)]) (fun w' => az.grownBy w' none) Yy (by kernel_rfl) (X6 _) ?_ ?_
 refine yl Z (fun _ _ k => Xd (o' := 0) Yz Z Z Z k) (yl Z (fun _ bt kq => Xh (v := vi (rAt (mAt ms k).t.slots j).th) X1 Z ((ad.blk.grown0 bt).cell Z) Z kq) (yl Z (fun _ _ k => Xb (v := .slice a ms.length c) af Z k) (yl Z (fun _ _ k => Yu (by kernel_rfl) Z Z k) (yl Z (fun _ _ kq => Jd (q := decide ((ms.length : Int) < (rAt (mAt ms k).t.slots j).th)) Z Z Z Z kq) (yl Z (fun _ _ kq => Xb (v := vb (decide ((ms.length : Int) < (rAt (mAt ms k).t.slots j).th))) Z Z kq) (yl Z (fun _ _ k => Xi Z Z Z G Z k) (yl Z (fun _ _ k => Xi Z Z Z G Z k) (yl Z (fun _ _ k => Xi Z Z Z G Z k) (yl Z (fun _ _ k => Xi Z Z Z G Z k) (yl Z (fun _ _ k => Y4 Z Z Z Z k) ?_))))))))))
 exact yl Z (fun _ _ k => Y4 Z Z Z Z k) (yl Z (fun _ _ k => Y4 Z Z Z Z k) (yl Z (fun _ _ k => Y4 Z Z Z Z k) (yl Z (fun _ _ k => Y4 Z Z Z Z k) (yl Z (fun _ _ k => Y4 Z Z Z Z k) (yl Z (fun _ _ k => Y4 Z Z Z Z k) (yl Z (fun _ _ k => Y4 Z Z Z Z k) (yl Z (fun _ _ k => Y4 Z Z Z Z k) Y5)))))))
 intro em bu
 exact Y4 Z Z Z Z (Xi Z Z Z G Z (Xs (v := vb true) Z G Z Z (Xc (Xu ⟨⟨af, al, aq, (cB (by simp [ag, ac, aw, a8, a9, am, G]))⟩, bu⟩))))
 have d3 := of_decide_eq_false G
 rcases Yf (decide (0 < (rAt (mAt ms k).t.slots j).th)) with E | E
 have d4 := of_decide_eq_true E
 obtain ⟨bi, eg, bh, bm, ck, cn⟩ := SlAt.at (TabAt.low ht bc).1 (Yi (xg ms ((rAt (mAt ms k).t.slots j).th - 1).toNat))
 have di := TabLen.at hlen (xg ms ((rAt (mAt ms k).t.slots j).th - 1).toNat)
 refine Yw (m := 19) (vals := [(67, pt aj 0), (68, vi (rAt (mAt ms k).t.slots j).th), (69, .slice a ms.length c), (70, vi (ms.length : Int)), (71, vb (decide ((ms.length : Int) < (rAt (mAt ms k).t.slots j).th))), (72, vb (decide ((ms.length : Int) < (rAt (mAt ms k).t.slots j).th))), (73, pt aj 0), (74, vi (rAt (mAt ms k).t.slots j).th), (75, vb (decide (0 < (rAt (mAt ms k).t.slots j).th))), (76, vb (decide (0 < (rAt (mAt ms k).t.slots j).th))), (77, pt aj 1), (78, vi (rAt (mAt ms k).t.slots j).ve), (79, .slice a ms.length c), (80, pt aj 0), (81, vi (rAt (mAt ms k).t.slots j).th), (82, vi ((rAt (mAt ms k).t.slots j).th - 1)), (83, pt bi bh), (84, pt bi (bh + 3)), (85, vi (mj ms (rAt (mAt ms k).t.slots j).th).t.ve)]) (fun w' => az.grownBy w' none) Yy (by kernel_rfl) (X6 _) ?_ ?_
 refine yl Z (fun _ _ k => Xd (o' := 0) Yz Z Z Z k) (yl Z (fun _ bv kq => Xh (v := vi (rAt (mAt ms k).t.slots j).th) X1 Z ((ad.blk.grown0 bv).cell Z) Z kq) (yl Z (fun _ _ k => Xb (v := .slice a ms.length c) af Z k) (yl Z (fun _ _ k => Yu (by kernel_rfl) Z Z k) (yl Z (fun _ _ kq => Jd (q := decide ((ms.length : Int) < (rAt (mAt ms k).t.slots j).th)) Z Z Z Z kq) (yl Z (fun _ _ kq => Xb (v := vb (decide ((ms.length : Int) < (rAt (mAt ms k).t.slots j).th))) Z Z kq) (yl Z (fun _ _ k => Xf Z Z Z G (Xd (o' := 0) Yz Z Z Z k)) (yl Z (fun _ bw kq => Xf Z Z Z G (Xh (v := vi (rAt (mAt ms k).t.slots j).th) X1 Z ((ad.blk.grown0 bw).cell Z) Z kq)) (yl Z (fun _ _ kq => Xf Z Z Z G (Jd (q := decide (0 < (rAt (mAt ms k).t.slots j).th)) Z Z Z Z kq)) (yl Z (fun _ _ kq => Xf Z Z Z G (Xb (v := vb (decide (0 < (rAt (mAt ms k).t.slots j).th))) Z Z kq)) (yl Z (fun _ _ k => Xf Z Z Z E (Xd (o' := 1) Vd Z Z Z k)) ?_))))))))))
 exact yl Z (fun _ bx kq => Xf Z Z Z E (Xh (v := vi (rAt (mAt ms k).t.slots j).ve) X1 Z ((ad.blk.grown0 bx).cell Z) Z kq)) (yl Z (fun _ _ k => Xf Z Z Z E (Xb (v := .slice a ms.length c) af Z k)) (yl Z (fun _ _ k => Xf Z Z Z E (Xd (o' := 0) Yz Z Z Z k)) (yl Z (fun _ bz kq => Xf Z Z Z E (Xh (v := vi (rAt (mAt ms k).t.slots j).th) X1 Z ((ad.blk.grown0 bz).cell Z) Z kq)) (yl Z (fun _ _ kq => Xf Z Z Z E (Ys (c := (rAt (mAt ms k).t.slots j).th - 1) Z Z (by omega) (by omega) (by omega) Z kq)) (yl Z (fun _ _ k => Xf Z Z Z E (Xz Y2 Z Z bm ck (by omega) (by omega) Z k)) (yl Z (fun _ _ k => Xf Z Z Z E (Xd (o' := bh + 3) Jl Z Z Z k)) (yl Z (fun _ ca kq => Xf Z Z Z E (Xh (v := vi (mj ms (rAt (mAt ms k).t.slots j).th).t.ve) X1 Z ((X9 cn ca) 3 _ Z) Z kq)) Y5)))))))
 intro eo cc
 exact Xf Z Z Z E (Jd (q := decide ((mj ms (rAt (mAt ms k).t.slots j).th).t.ve < (rAt (mAt ms k).t.slots j).ve)) Z Z Z Z (Xf Z Z Z G (Xs (v := vb (decide ((mj ms (rAt (mAt ms k).t.slots j).th).t.ve < (rAt (mAt ms k).t.slots j).ve))) Z E Z Z (Xo (v := vb (decide ((mj ms (rAt (mAt ms k).t.slots j).th).t.ve < (rAt (mAt ms k).t.slots j).ve))) Z G Z Z (Xc (Xu ⟨⟨af, al, aq, (cB (by simp [ag, ac, aw, a8, a9, am, G, E]))⟩, cc⟩))))))
 have d5 := of_decide_eq_false E
 refine Yw (m := 19) (vals := [(67, pt aj 0), (68, vi (rAt (mAt ms k).t.slots j).th), (69, .slice a ms.length c), (70, vi (ms.length : Int)), (71, vb (decide ((ms.length : Int) < (rAt (mAt ms k).t.slots j).th))), (72, vb (decide ((ms.length : Int) < (rAt (mAt ms k).t.slots j).th))), (73, pt aj 0), (74, vi (rAt (mAt ms k).t.slots j).th), (75, vb (decide (0 < (rAt (mAt ms k).t.slots j).th))), (76, vb (decide (0 < (rAt (mAt ms k).t.slots j).th))), (77, undef), (78, undef), (79, undef), (80, undef), (81, undef), (82, undef), (83, undef), (84, undef), (85, undef)]) (fun w' => az.grownBy w' none) Yy (by kernel_rfl) (X6 _) ?_ ?_
 refine yl Z (fun _ _ k => Xd (o' := 0) Yz Z Z Z k) (yl Z (fun _ cd kq => Xh (v := vi (rAt (mAt ms k).t.slots j).th) X1 Z ((ad.blk.grown0 cd).cell Z) Z kq) (yl Z (fun _ _ k => Xb (v := .slice a ms.length c) af Z k) (yl Z (fun _ _ k => Yu (by kernel_rfl) Z Z k) (yl Z (fun _ _ kq => Jd (q := decide ((ms.length : Int) < (rAt (mAt ms k).t.slots j).th)) Z Z Z Z kq) (yl Z (fun _ _ kq => Xb (v := vb (decide ((ms.length : Int) < (rAt (mAt ms k).t.slots j).th))) Z Z kq) (yl Z (fun _ _ k => Xf Z Z Z G (Xd (o' := 0) Yz Z Z Z k)) (yl Z (fun _ ce kq => Xf Z Z Z G (Xh (v := vi (rAt (mAt ms k).t.slots j).th) X1 Z ((ad.blk.grown0 ce).cell Z) Z kq)) (yl Z (fun _ _ kq => Xf Z Z Z G (Jd (q := decide (0 < (rAt (mAt ms k).t.slots j).th)) Z Z Z Z kq)) (yl Z (fun _ _ kq => Xf Z Z Z G (Xb (v := vb (decide (0 < (rAt (mAt ms k).t.slots j).th))) Z Z kq)) (yl Z (fun _ _ k => Xi Z Z Z E Z k) ?_))))))))))
 exact yl Z (fun _ _ k => Xi Z Z Z E Z k) (yl Z (fun _ _ k => Xi Z Z Z E Z k) (yl Z (fun _ _ k => Xi Z Z Z E Z k) (yl Z (fun _ _ k => Xi Z Z Z E Z k) (yl Z (fun _ _ k => Xi Z Z Z E Z k) (yl Z (fun _ _ k => Xi Z Z Z E Z k) (yl Z (fun _ _ k => Xi Z Z Z E Z k) (yl Z (fun _ _ k => Xi Z Z Z E Z k) Y5)))))))
 intro ep cf
 exact Xi Z Z Z E Z (Xf Z Z Z G (Xo (v := vb false) Z E Z Z (Xo (v := vb false) Z G Z Z (Xc (Xu ⟨⟨af, al, aq, (cB (by simp [ag, ac, aw, a8, a9, am, G, E]))⟩, cf⟩)))))
 rintro dv er ⟨⟨cw, cx, cy, cz⟩, bq⟩
 have bd := low0 bc bq
 refine Xy cz (fun ar => ?_) (fun ar => ?_)
 refine Xa (Xe (v := vb false) Z Z (Xc (Xt (Qi (Yk (Yk (Qi (Qi (Yk (Yk (Qi (Yk ?_))))))))))))
 refine ⟨vb false, Yp Z Z, ?_, bd⟩
 exact cB (Dq (by omega) (E1 (V4 (by omega)) (Q2 ((N0 (L2 ((We Z).2 ac).1 (V4 (by omega))).1).symm.trans ar))))
 have c9 := Kq ar
 have d6 := of_decide_eq_false c9
 have d7 := Kr ar
 exact Xw (Y7 (Xu (X2 (Xb (v := vi (j : Int)) cy Z (Yn (c := (j : Int) + 1) Z Z (by omega) (by omega) (by omega) Z (Xe (v := vi ((j : Int) + 1)) Z Z (Xc (Xu (⟨(mAt ms k).t.slots.length - (j + 1), by omega, (j + 1), Z, (by omega), (Ky hrs (V4 (by omega)) (Qx ((N0 (L2 ((We Z).2 ac).1 (V4 (by omega))).1).symm.trans ar))), Z, cw, cx, bd⟩)))))))))
 have d8 := of_decide_eq_false am
 exact Qe (Qb (Qb (Jm (Y7 (Xu (X2 (Xb (v := vi (k : Int)) al Z (Yn (c := (k : Int) + 1) Z Z (by omega) (by omega) (by omega) Z (Xe (v := vi ((k : Int) + 1)) Z Z (Xc (Xu (⟨ms.length - (k + 1), by omega, (k + 1), Z, (by omega), (Ky hall (Ww (by omega)) (E2 ((We Z).2 ac).1 ((We Z).2 ac).2 hrs (by omega))), Z, af, ak⟩))))))))))))
 have d9 := of_decide_eq_false ag
 refine Qe (Qb (Qb (Jm (Xu (Xa (Xb (v := .slice a ms.length c) ab Z (Yu (by kernel_rfl) Z Z (Xl Vj (Xg Z (Xg Z (Xg Z Xk))) Z (Kx (ms.length : Int) 1 8 _) ?_))))))))
 rintro _ eu ⟨rfl, br⟩
 refine Xe (v := vb (inR (ms.length : Int) 1 8)) Z Z (Xc (Xt (⟨vb (inR (ms.length : Int) 1 8), Yp Z Z, ?_, (low0 ai br)⟩)))
 exact cB (E7 hall (by omega))
end Go.Proofs.YtjpgffmkcmcolaaGreatDoor
end
section
namespace Go.Dw
set_option linter.unusedSimpArgs false
set_option linter.unusedVariables false
open Go.RowKit Go.Shelf
structure Wd (F : Fence) : Prop where
  fn : ∀ k, F.fn k
  calls : ∀ {n : Nat} {P : Program} {k : FuncId} {args : Array Value} {w : World} {R : Ending → World → Prop}, Calls P k args w R → CallsIn F n P k args w R
  rows : ∀ {n : Nat} {P : Program} {row : String} {args : Array Value} {w : World} {R : Value → World → Prop}, Rows P row args w R → RowsIn F n P row args w R
  depth : F.depth = none
theorem Vg : Wd Fence.wide :=
  ⟨fun _ => trivial, fun h => callsIn_wide.2 h, fun h => fun c cs _ => let ⟨v, w', r, s⟩ := h c cs; ⟨v, w', r, stepsIn_wide.2 s⟩, rfl⟩
theorem Gb (l : Nat) : Wd (Fence.wide.inRound l) :=
  ⟨fun _ => trivial, fun h => CallsIn.inRound l (callsIn_wide.2 h), fun h => fun c cs _ => let ⟨v, w', r, s⟩ := h c cs; ⟨v, w', r, stepsIn_wide.2 s⟩, rfl⟩
def noDefer : List Oper → Bool
  | [] => true
  | o :: l => (match o.op with | .defer _ => false | _ => true) && noDefer l
theorem Ui {o : Oper} {l : List Oper} (h : noDefer (o :: l) = true) : (∀ c, o.op ≠ .defer c) ∧ noDefer l = true := by
  unfold noDefer at h
  rw [Bool.and_eq_true] at h
  refine ⟨fun c hc => ?_, h.2⟩
  rw [hc] at h
  exact absurd h.1 (by simp)
theorem Lv : ∀ {l : List Oper}, noDefer l = true → ∀ (i : Nat) (o : Oper), l[i]? = some o → ∀ c, o.op ≠ .defer c
  | [], _, i, o, hi => by simp at hi
  | p :: l, h, i, o, hi => by
    obtain ⟨h1, h2⟩ := Ui h
    cases i with
    | zero => simp at hi; subst hi; exact h1
    | succ i => exact Lv h2 i o (by simpa using hi)
section
variable {F : Fence} {m : Nat} {P : Program}
theorem Z7 (hF : Wd F) {o : Oper} {a : Act} {w : World} {next next' : Act → World → Prop} {Q Q' : Exit → Act → World → Prop} (hd : ∀ c, o.op ≠ .defer c) (hQ : ∀ e a w, e ≠ .normal → ¬ Q e a w) (hn : ∀ a w, next a w → next' a w) (h : o.wp P a w next Q) : o.wpIn F m P a w next' Q' := by
  refine ⟨fun f _ => hF.fn f, ?_⟩
  rw [Oper.semAt_eq _ _ _ hd]
  unfold Oper.wp at h
  generalize (execOp a.eval o).run P w = r at h ⊢
  cases r with
  | ok x w' =>
    cases x <;> simp only [Oper.upon, Oper.uponIn] at h ⊢
    case value v => exact hn _ _ h
    case skip => exact hn _ _ h
    case defer dd => exact hn _ _ h
    case enter k args =>
      refine ⟨(fun e => by (rw [hF.depth] at e; cases e)), hF.calls (h.mono fun e w'' he => ?_)⟩
      cases e with
      | returned v => exact hn _ _ he
      | panicked c => exact absurd he (hQ _ _ _ (by simp))
      | outgrown => obtain ⟨_, _, h0⟩ := he; exact absurd h0 (hQ _ _ _ (by simp))
    case row rw args => exact ⟨(fun e => by (rw [hF.depth] at e; cases e)), hF.rows (h.mono fun v w'' he => hn _ _ he)⟩
  | halt x w' => cases x <;> simp only [Oper.upon, Oper.uponIn] at h ⊢; exact absurd h (hQ _ _ _ (by simp))
def onlyN (K : Act → World → Prop) : Exit → Act → World → Prop
  | .normal, a, w => K a w
  | _, _, _ => False
theorem R7 {K : Act → World → Prop} : ∀ e a w, e ≠ .normal → ¬ onlyN K e a w := fun e a w he h => by cases e <;> first | exact he rfl | exact h
theorem Pk (hF : Wd F) {ops : Array Oper} {Q : Exit → Act → World → Prop} {K : Act → World → Prop} (hK : ∀ a w, K a w → Q .normal a w) : ∀ (l : List Oper) (a : Act) (w : World), noDefer l = true → wpList P ops (onlyN K) l a w → wpListIn F m P ops Q l a w
  | [], a, w, _, h => hK _ _ h
  | o :: l, a, w, hd, h => by
    obtain ⟨h1, h2⟩ := Ui hd
    unfold wpList at h
    unfold wpListIn
    split
    · rename_i hw
      rw [if_pos hw] at h
      rcases h with h | ⟨_, _, _, h0⟩
      · exact Z7 hF h1 R7 (fun a w ha => Pk hF hK l a w h2 ha) h
      · exact h0.elim
    · rename_i hw
      rw [if_neg hw] at h
      exact ⟨fun f _ => hF.fn f, Pk hF hK l _ _ h2 h⟩
theorem Tr (hF : Wd F) {md : Region.Mode} {ops : Array Oper} {Q : Exit → Act → World → Prop} {K : Act → World → Prop} (hd : noDefer ops.toList = true) (hK : ∀ a w, K a w → Q .normal a w) : ∀ (fuel : Nat) (listed : Array Bool) (a : Act) (w : World),
    wpAny P md ops (onlyN K) fuel listed a w → wpAnyIn F m P md ops Q fuel listed a w
  | 0, _, _, _, h => ⟨h.1, hK _ _ h.2⟩
  | fuel + 1, listed, a, w, h => by
    refine ⟨fun hr => hK _ _ (h.1 hr), fun i hi => ?_⟩
    have h1 := h.2 i hi
    unfold wpOp at h1
    unfold wpOpIn
    cases ho : ops[i]? with
    | none => rw [ho] at h1; exact Tr hF hd hK fuel _ _ _ h1
    | some o =>
      rw [ho] at h1
      simp only at h1 ⊢
      have hdo := Lv hd i o (by simpa using ho)
      split
      · rename_i hw
        rw [if_pos hw] at h1
        rcases h1 with h1 | ⟨_, _, _, h0⟩
        · exact Z7 hF hdo R7 (fun a w ha => Tr hF hd hK fuel _ a w ha) h1
        · exact h0.elim
      · rename_i hw
        rw [if_neg hw] at h1
        exact ⟨fun f _ => hF.fn f, Tr hF hd hK fuel _ _ _ h1⟩
end
def Wpg (F : Fence) (m : Nat) (P : Program) (n : Nat) (Q : Exit → Fr → World → Prop) (c : Code) (f : Fr) (w : World) : Prop :=
  ∀ a, FEq n a f → c.wpIn F m P (fun e a' w' => ∃ f', FEq n a' f' ∧ Q e f' w') a w
def WpOG (F : Fence) (m : Nat) (P : Program) (n : Nat) (ops : Array Oper) (K : Fr → World → Prop) (l : List Oper) (f : Fr) (w : World) : Prop :=
  ∀ a, FEq n a f → ∀ Q : Exit → Act → World → Prop, (∀ a' w' f', FEq n a' f' → K f' w' → Q .normal a' w') → wpListIn F m P ops Q l a w
section
variable {F : Fence} {m : Nat} {P : Program} {n : Nat} {Q : Exit → Fr → World → Prop} {f : Fr} {w : World}
theorem Wpg.mono {Q' : Exit → Fr → World → Prop} {c : Code} (h : Wpg F m P n Q c f w) (hq : ∀ e f w, Q e f w → Q' e f w) : Wpg F m P n Q' c f w :=
  fun a ha => wpIn_mono (h a ha) fun _ _ _ ⟨f', hf, hQ⟩ => ⟨f', hf, hq _ _ _ hQ⟩
theorem Gd (h : Q .normal f w) : Wpg F m P n Q .skip f w := fun _ ha => wpIn_skip ⟨f, ha, h⟩
theorem Mf (h : Q .ret f w) : Wpg F m P n Q .ret f w := fun _ ha => wpIn_ret ⟨f, ha, h⟩
theorem L5 {id : Nat} (h : Q (.exit id) f w) : Wpg F m P n Q (.exit id) f w := fun _ ha => wpIn_exit ⟨f, ha, h⟩
theorem U4 {x y : Code} (h : Wpg F m P n (thn (Wpg F m P n Q y) Q) x f w) : Wpg F m P n Q (.seq x y) f w := fun a ha =>
  wpIn_seq (wpIn_mono (h a ha) fun e a' w' ⟨f', hf, hQ⟩ => by
    cases e with
    | normal => exact hQ a' hf
    | exit i => exact ⟨f', hf, hQ⟩
    | goto l => exact ⟨f', hf, hQ⟩
    | ret => exact ⟨f', hf, hQ⟩
    | panic c => exact ⟨f', hf, hQ⟩
    | outgrown => exact ⟨f', hf, hQ⟩)
theorem Sl {x y : Code} (M : Fr → World → Prop) (h : Wpg F m P n (thn M Q) x f w) (hM : ∀ f w, M f w → Wpg F m P n Q y f w) : Wpg F m P n Q (.seq x y) f w :=
  U4 (h.mono fun e f w hq => by cases e <;> first | exact hM _ _ hq | exact hq)
theorem Wf {id : Nat} {c : Code} (h : Wpg F m P n (blk id Q) c f w) : Wpg F m P n Q (.block id c) f w := fun a ha =>
  wpIn_block (wpIn_mono (h a ha) fun e a' w' ⟨f', hf, hQ⟩ => by
    cases e with
    | exit i =>
      simp only [blk] at hQ
      simp only [Exit.inBlock]
      by_cases hi : i = id
      · rw [if_pos hi] at hQ ⊢; exact ⟨f', hf, hQ⟩
      · rw [if_neg hi] at hQ ⊢; exact ⟨f', hf, hQ⟩
    | normal => exact ⟨f', hf, hQ⟩
    | goto l => exact ⟨f', hf, hQ⟩
    | ret => exact ⟨f', hf, hQ⟩
    | panic c => exact ⟨f', hf, hQ⟩
    | outgrown => exact ⟨f', hf, hQ⟩)
theorem Wg {c : Operand} {x y : Code} {b : Bool} (hc : ev f c = .bool b) (ht : b = true → Wpg F m P n Q x f w) (hf : b = false → Wpg F m P n Q y f w) : Wpg F m P n Q (.cond c x y) f w := fun a ha =>
  wpIn_cond_split (t := b) (by rw [ha.eval]; exact hc) (fun h => ht h a ha) (fun h => hf h a ha)
theorem Bj {c : Operand} {x y : Code} {b : Bool} (hc : ev f c = .bool b) (hb : b = true) (h : Wpg F m P n Q x f w) : Wpg F m P n Q (.cond c x y) f w :=
  Wg hc (fun _ => h) (fun e => by rw [hb] at e; cases e)
theorem Bi {c : Operand} {x y : Code} {b : Bool} (hc : ev f c = .bool b) (hb : b = false) (h : Wpg F m P n Q y f w) : Wpg F m P n Q (.cond c x y) f w :=
  Wg hc (fun e => by rw [hb] at e; cases e) (fun _ => h)
theorem N8 {c : Code} (I : Nat → Fr → World → Prop) (m₀ : Nat) (h₀ : I m₀ f w)
    (round : ∀ k f w, I k f w → Wpg F m P n (thn (fun f' w' => ∃ k', k' < k ∧ I k' f' w') Q) c f w) : Wpg F m P n Q (.loop c) f w := by
  intro a ha
  refine wpIn_loop_rounds (m₀ + 1) ?_
  have key : ∀ N k f a w, k ≤ N → I k f w → FEq n a f → Code.roundsIn F m P c (fun e a' w' => ∃ f', FEq n a' f' ∧ Q e f' w') (N + 1) a w := by
    intro N
    induction N with
    | zero =>
      intro k f a w hk hI ha
      refine wpIn_mono (round k f w hI a ha) fun e a' w' ⟨f', hf, hQ⟩ => ?_
      cases e with
      | normal => obtain ⟨k', hlt, _⟩ := hQ; omega
      | exit i => exact ⟨f', hf, hQ⟩
      | goto l => exact ⟨f', hf, hQ⟩
      | ret => exact ⟨f', hf, hQ⟩
      | panic c => exact ⟨f', hf, hQ⟩
      | outgrown => exact ⟨f', hf, hQ⟩
    | succ N ih =>
      intro k f a w hk hI ha
      refine wpIn_mono (round k f w hI a ha) fun e a' w' ⟨f', hf, hQ⟩ => ?_
      cases e with
      | normal => obtain ⟨k', hlt, hI'⟩ := hQ; exact ih k' f' a' w' (by omega) hI' hf
      | exit i => exact ⟨f', hf, hQ⟩
      | goto l => exact ⟨f', hf, hQ⟩
      | ret => exact ⟨f', hf, hQ⟩
      | panic c => exact ⟨f', hf, hQ⟩
      | outgrown => exact ⟨f', hf, hQ⟩
  exact key m₀ m₀ f a w (Nat.le_refl _) h₀ ha
end
section
variable {F : Fence} {m : Nat} {P : Program} {n : Nat} {ops : Array Oper} {K : Fr → World → Prop} {l : List Oper} {f : Fr} {w w' : World} {o : Oper} {v : Value} {Q : Exit → Fr → World → Prop}
theorem WpOG.mono {K' : Fr → World → Prop} (h : WpOG F m P n ops K l f w) (hk : ∀ f w, K f w → K' f w) : WpOG F m P n ops K' l f w :=
  fun a ha Q hQ => h a ha Q fun a' w' f' hf hK => hQ a' w' f' hf (hk _ _ hK)
theorem P4 (hF : Wd F) (hd : noDefer l = true) (h : WpO P n ops K l f w) : WpOG F m P n ops K l f w := fun a ha Q hQ =>
  Pk hF (K := fun a' w' => ∃ f', FEq n a' f' ∧ K f' w') (fun a' w' ⟨f', hf, hK⟩ => hQ a' w' f' hf hK) l a w hd (h a ha _ fun a' w' f' hf hK => ⟨f', hf, hK⟩)
theorem Hz {id : Nat} (h : WpOG F m P n l.toArray (Q .normal) l f w) : Wpg F m P n Q (.region id l.toArray false) f w := fun a ha =>
  wpIn_region_lit (h a ha _ fun _ _ f' hf hK => ⟨f', hf, hK⟩)
theorem Wz {id : Nat} (hF : Wd F) (h : WpO P n l.toArray (Q .normal) l f w) (hd : noDefer l = true := by kernel_rfl) : Wpg F m P n Q (.region id l.toArray false) f w := Hz (P4 hF hd h)
theorem Ki {id : Nat} {y : Code} (hF : Wd F) (h : WpO P n l.toArray (Wpg F m P n Q y) l f w) (hd : noDefer l = true := by kernel_rfl) : Wpg F m P n Q (.seq (.region id l.toArray false) y) f w :=
  U4 (Wz hF h hd)
theorem Dz (hF : Wd F) {l' : List Oper} (hd : noDefer l = true) (h : WpO P n ops (WpOG F m P n ops K l') l f w) : WpOG F m P n ops K (l ++ l') f w := by
  intro a ha Q hQ
  have h1 : wpListIn F m P ops (onlyN (wpListIn F m P ops Q l')) l a w := Pk hF (K := wpListIn F m P ops Q l') (fun a' w' h => h) l a w hd (h a ha _ fun a' w' f' hf hK => hK a' hf Q hQ)
  clear h ha
  induction l generalizing a w with
  | nil => exact h1
  | cons o l ih =>
    simp only [List.cons_append, wpListIn] at h1 ⊢
    split
    · rename_i hw
      rw [if_pos hw] at h1
      refine ⟨h1.1, ?_⟩
      have h2 := h1.2
      have hl := (Ui hd).2
      generalize (o.semAt F.round a.eval).run P w = r at h2 ⊢
      cases r with
      | ok x w' =>
        cases x <;> simp only [Oper.uponIn] at h2 ⊢
        case value v => exact ih hl _ h2
        case skip => exact ih hl _ h2
        case defer dd => exact ih hl _ h2
        case enter k args =>
          refine ⟨h2.1, h2.2.mono fun e w'' he => ?_⟩
          cases e with
          | returned v => exact ih hl _ he
          | panicked c => exact he.elim
          | outgrown => obtain ⟨_, _, h0⟩ := he; exact h0.elim
        case row rw args => exact ⟨h2.1, h2.2.mono fun v w'' he => ih hl _ he⟩
        case round l f tmps assign body =>
          refine ⟨h2.1, h2.2.mono fun e w'' he => ?_⟩
          cases e with
          | returned v => exact ih hl _ he
          | panicked c => exact he.elim
          | outgrown => obtain ⟨_, _, h0⟩ := he; exact h0.elim
      | halt x w' => cases x <;> simp only [Oper.uponIn] at h2 ⊢; exact h2.elim
    · rename_i hw
      rw [if_neg hw] at h1
      exact ⟨h1.1, ih (Ui hd).2 _ h1.2⟩
theorem Tq (hF : Wd F) (hro : F.round = none) {d : Nat} {x : Operand} {args : Array Operand} {ats : Array TypeId} {ty : TypeId} {pos : String} {aft : Array Edge} {lr : Nat} {vs : List Value} {R : Ending → World → Prop}
    (hx : ev f x = .func (.yield lr) #[] #[]) (ha : args.toList.map (ev f) = vs) (hd : Nat.blt d n = true) (hy : YieldAt F (m - 1) P lr vs.toArray w R)
    (h : ∀ e w', R e w' → ∃ b : Bool, e = .returned (.bool b) ∧ WpOG F m P n ops K l (up f d (.bool b)) w') :
    WpOG F m P n ops K (⟨some d, .call ⟨.value x, args, ats⟩, ty, pos, aft, none⟩ :: l) f w := fun a hfa Q hQ => by
  obtain ⟨fn, tmps, assign, body, hr, hR⟩ := hy
  unfold wpListIn
  rw [if_pos (by simp [Region.wanted])]
  refine ⟨fun k _ => hF.fn k, ?_⟩
  have he : ((⟨some d, .call ⟨.value x, args, ats⟩, ty, pos, aft, none⟩ : Oper).semAt F.round a.eval).run P w = .ok (.round lr fn tmps assign body) w := by
    rw [hro, Oper.semAt_none, hfa.eval]
    have e1 : args.map (ev f) = vs.toArray := by rw [← ha]; apply Array.ext'; simp
    simp [execOp, resolve, Deferred.ofValue, invoke, hx, e1, hr]
  rw [he]
  refine ⟨(fun e => by (rw [hF.depth] at e; cases e)), hR.mono fun e w' hw => ?_⟩
  obtain ⟨b, rfl, hk⟩ := h e w' hw
  exact hk _ (hfa.put hd _) Q hQ
end
theorem Ld {P : Program} {k : FuncId} {fn : Func} {c : Code} {args : Array Value} {w : World} {R : Value → World → Prop} {n m : Nat}
    (hf : P.funcs[k]? = some fn) (hb : fn.body = some c) (hn : fn.ntmps = n) (hs : Nat.ble args.size n = true)
    (h : Wpg Fence.wide m P n (endQ P fn R) c (f0 args) w) : CallsIn Fence.wide m P k args w fun e w' => ∃ v, e = .returned v ∧ R v w' := by
  have hs' : args.size ≤ n := by simpa [Nat.ble_eq] using hs
  refine callsIn_of_wp hf hb trivial ?_
  refine wpIn_mono (h _ ⟨rfl, by simp [hn]; omega, fun i => ?_⟩) fun e a w ⟨f', hf', hQ⟩ => ?_
  · simp only [f0, H0, Array.getD_eq_getD_getElem?, Array.getElem?_toList]
    by_cases hi : i < args.size
    · rw [Array.getElem?_append_left hi]
    · rw [Array.getElem?_append_right (by omega), Array.getElem?_eq_none (by omega : args.size ≤ i)]
      by_cases h2 : i - args.size < fn.ntmps - args.size
      · simp [h2]
      · rw [Array.getElem?_eq_none (by simp; omega)]
  · cases e with
    | normal => obtain ⟨v, hv, hR⟩ := hQ; exact ⟨hf'.defers, v, hv _ hf'.at_, v, rfl, hR⟩
    | ret => obtain ⟨v, hv, hR⟩ := hQ; exact ⟨hf'.defers, v, hv _ hf'.at_, v, rfl, hR⟩
    | exit i => exact hQ.elim
    | goto l => exact hQ.elim
    | panic c => exact hQ.elim
    | outgrown => exact hQ.elim
section
variable {P : Program} {n : Nat} {ops : List Oper} {f : Fr}
theorem Sk {F : Fence} {m0 : Nat} {id : Nat} {w : World} {Q : Exit → Fr → World → Prop} (hF : Wd F) (m : Nat) (vals : List (Nat × Value)) (Inv : World → Prop) (hmx : P.follows .mixedOrders = true) (hck : drawOk n m ops (befores ops) = true) (h0 : Inv w.drew)
    (hpre : YlL P n ops.toArray Inv (ups f vals) (ops.take m) vals) (htail : ∀ w', Inv w' → WpO P n ops.toArray (Q .normal) (ops.drop m) (ups f vals) w') (hdf : noDefer ops = true := by kernel_rfl) : Wpg F m0 P n Q (.region id ops.toArray true) f w := fun a ha => by
  obtain ⟨hm, _, hone⟩ := W3 hck
  obtain ⟨hlen, hget⟩ := H6 _ _ hpre
  obtain ⟨aF, haF⟩ := Px vals a f ha fun p hp => by
    obtain ⟨j, hj⟩ := List.getElem?_of_mem hp
    have hjm : j < m := by
      have := (List.getElem?_eq_some_iff.1 hj).1
      rw [← hlen] at this
      simp at this
      omega
    obtain ⟨oj, hoj⟩ : ∃ oj, ops[j]? = some oj := ⟨_, List.getElem?_eq_getElem (by omega)⟩
    obtain ⟨d, v, hv, hd, _⟩ := hget j oj (by rw [List.getElem?_take, if_pos hjm]; exact hoj)
    rw [hj] at hv
    have := Option.some.inj hv
    subst this
    have h1 := hone j oj hoj
    unfold drawOne at h1
    simp only [Bool.and_eq_true, if_pos hjm, hd] at h1
    simpa using h1.2.1.2
  refine wpIn_region_any hmx (Tr hF (K := fun a' w' => ∃ f', FEq n a' f' ∧ Q .normal f' w') (by simpa using hdf) (fun _ _ h => h) _ _ _ _ ?_)
  have hrep : ∀ j, (Array.replicate ops.toArray.size false).getD j false = false := fun j => by
    rw [Array.getD_eq_getD_getElem?]
    cases h : (Array.replicate ops.toArray.size false)[j]? with
    | none => rfl
    | some b => rw [Array.getElem?_replicate] at h; split at h <;> simp_all
  refine L4 (K := Q .normal) hck rfl haF hpre htail (fun a' w' f' hf hK => ⟨f', hf, hK⟩) _ _ a _ ha.defers ha.size (by simp) h0 (fun j _ => hrep j) (fun j hj => by rw [hrep j] at hj; cases hj) (fun t _ => ha.at_ t) (fun j o t _ hj => by rw [hrep j] at hj; cases hj) ?_
  rw [show ops.toArray.size = ops.length by simp, G2]
  exact Nat.le_refl _
end
theorem Ua {P : Program} {f : Fr} {w : World} {t T b o : Nat} {v : Value} (ht : oneTy P T = true) (hf : f t = .pointer (some ⟨b, o, none⟩)) (hc : w.cell? ⟨b, o, none⟩ = some v) : resCell P f w t T v :=
  ⟨_, hf, by simp [loadVar, Lx ht, hc]⟩
def WpA (m : Nat) (P : Program) (n : Nat) (QA : Exit → Act → World → Prop) (c : Code) (f : Fr) (w : World) : Prop := ∀ a, FEq n a f → c.wpIn Fence.wide m P QA a w
def toQ (n : Nat) (QA : Exit → Act → World → Prop) : Exit → Fr → World → Prop := fun e f w => ∀ a, FEq n a f → QA e a w
section
variable {m : Nat} {P : Program} {n : Nat} {QA : Exit → Act → World → Prop} {f : Fr} {w : World}
theorem Pz {x y : Code} (h : Wpf P n (thn (WpA m P n QA y) (toQ n QA)) x f w) : WpA m P n QA (.seq x y) f w := fun a ha =>
  wpIn_seq (wpIn_wide.2 (wp_mono (h a ha) fun e a' w' ⟨f', hf, hQ⟩ => by
    cases e with
    | normal => exact hQ a' hf
    | exit i => exact hQ a' hf
    | goto l => exact hQ a' hf
    | ret => exact hQ a' hf
    | panic c => exact hQ a' hf
    | outgrown => exact hQ a' hf))
theorem Gc {id : Nat} {l : List Oper} {y : Code} (h : WpO P n l.toArray (WpA m P n QA y) l f w) : WpA m P n QA (.seq (.region id l.toArray false) y) f w := Pz (X2 h)
theorem Dx {x y : Code} (h : WpA m P n (Exit.then (y.wpIn Fence.wide m P QA) QA) x f w) : WpA m P n QA (.seq x y) f w := fun a ha => wpIn_seq (h a ha)
end
theorem E9 {m : Nat} {P : Program} {n : Nat} {QA : Exit → Act → World → Prop} {c : Code} {f : Fr} {w : World} (M : Fr → Prop) (h : M f) (hM : ∀ f, M f → WpA m P n QA c f w) : WpA m P n QA c f w := hM f h
section
end
theorem I2 {P : Program} {k : FuncId} {fn : Func} {c : Code} {args : Array Value} {w : World} {R : Value → World → Prop} {n m : Nat}
    (hf : P.funcs[k]? = some fn) (hb : fn.body = some c) (hn : fn.ntmps = n) (hs : Nat.ble args.size n = true)
    (h : WpA m P n (bodyPostM Fence.wide m P fn (fun e w' => ∃ v, e = .returned v ∧ R v w')) c (f0 args) w) : Calls P k args w fun e w' => ∃ v, e = .returned v ∧ R v w' := by
  have hs' : args.size ≤ n := by simpa [Nat.ble_eq] using hs
  refine callsIn_wide.1 (callsIn_of_wp_marks hf hb trivial (h _ ⟨rfl, by simp [hn]; omega, fun i => ?_⟩))
  simp only [f0, H0, Array.getD_eq_getD_getElem?, Array.getElem?_toList]
  by_cases hi : i < args.size
  · rw [Array.getElem?_append_left hi]
  · rw [Array.getElem?_append_right (by omega), Array.getElem?_eq_none (by omega : args.size ≤ i)]
    by_cases h2 : i - args.size < fn.ntmps - args.size
    · simp [h2]
    · rw [Array.getElem?_eq_none (by simp; omega)]
theorem I4 {m n : Nat} {P : Program} {fn : Func} {R : Value → World → Prop} {f : Fr} {w : World} {v : Value} (hv : resV P fn f w v) (hR : R v w) : toQ n (bodyPostM Fence.wide m P fn (fun e w' => ∃ v, e = .returned v ∧ R v w')) .ret f w := fun a ha => by
  show LeavesInM Fence.wide m P fn a.tmps _ a.defers .returning w
  rw [ha.defers]
  exact ⟨v, hv _ ha.at_, v, rfl, hR⟩
theorem O7 {m n D : Nat} {P : Program} {fn : Func} {R : Value → World → Prop} {a : Act} {f : Fr} {w : World} {v : Value} (ha : FEq n a f) (hK : w.heap[D]? = some (.deferred (some []))) (hv : resV P fn f (w.putObj D (.deferred none)) v) (hR : R v (w.putObj D (.deferred none))) :
    bodyPostM Fence.wide m P fn (fun e w' => ∃ v, e = .returned v ∧ R v w') .ret { a with defers := { target := .collected D, args := #[] } :: a.defers } w := by
  show LeavesInM Fence.wide m P fn a.tmps _ ({ target := .collected D, args := #[] } :: a.defers) .returning w
  rw [ha.defers]
  exact ⟨by simp, .inl ⟨D, _, rfl, run_takeDeferred hK, v, hv _ ha.at_, v, rfl, hR⟩⟩
theorem Pq {F : Fence} {m : Nat} {P : Program} {id : Nat} {o : Oper} {Q : Exit → Act → World → Prop} {a : Act} {w w' : World} (hF : Wd F) (hd : ∀ c, o.op ≠ .defer c) (hg : o.guard = none) (hr : (execOp a.eval o).run P w = .ok .skip w') (hdst : o.dst = none) (hQ : Q .normal a w') : (Code.region id #[o] false).wpIn F m P Q a w := by
  refine wpIn_region_lit (l := [o]) ?_
  unfold wpListIn
  rw [if_pos (by simp [Region.wanted, hg])]
  refine ⟨fun k _ => hF.fn k, ?_⟩
  rw [Oper.semAt_eq _ _ _ hd, hr]
  show wpListIn F m P #[o] Q [] (a.put o.dst undef) w'
  rw [hdst]
  exact hQ
theorem Nr {w A B : World} {row : Option Nat} {n0 : Nat} (h : w.grownBy A none) (hg : A.grownBy B row) (hn : w.heap.size ≤ n0) (hr : ∀ r, row = some r → n0 ≤ r ∧ ∃ o : Obj, A.heap[r]? = some o ∧ o.isCells = false) : w.grownBy B none :=
  ⟨hg.os.trans h.os, hg.tape.trans h.tape, hg.output.trans h.output, Nat.le_trans h.size hg.size, fun i hi _ => (hg.block i (Nat.lt_of_lt_of_le hi h.size) (fun e => by have := (hr i e.symm).1; omega)).trans (h.block i hi (by simp))⟩
theorem H4 {A B : World} {row : Option Nat} {b n0 : Nat} {T : TypeId} {cs : Array Value} (h : Blk A b T cs) (hg : A.grownBy B row) (hr : ∀ r, row = some r → n0 ≤ r ∧ ∃ o : Obj, A.heap[r]? = some o ∧ o.isCells = false) : Blk B b T cs :=
  h.grown hg (fun e => by
    obtain ⟨o, ho, hc⟩ := (hr b e.symm).2
    rw [show A.heap[b]? = _ from h] at ho
    cases ho
    cases hc)
theorem gob {w w' : World} (h : Below w.heap.size w w') : w.grownBy w' none := ⟨h.os, h.tape, h.output, h.size, fun k hk _ => h.block k hk⟩
theorem Ru {w A B : World} (h : w.grownBy A none) (k : Below w.heap.size A B) : w.grownBy B none :=
  ⟨k.os.trans h.os, k.tape.trans h.tape, k.output.trans h.output, Nat.le_trans h.size k.size, fun i hi _ => (k.block i hi).trans (h.block i hi (by simp))⟩
theorem S6 {w w' : World} {r : Option Nat} (h : w.grownBy w' none) : w.grownBy w' r := ⟨h.os, h.tape, h.output, h.size, fun i hi _ => h.block i hi (by simp)⟩
theorem Fe {F : Fence} {m : Nat} {P : Program} {n : Nat} {ops : Array Oper} {K : Fr → World → Prop} {l : List Oper} {f : Fr} {w : World} (k : Nat) (hF : Wd F) (hd : noDefer (l.take k) = true) (h : WpO P n ops (WpOG F m P n ops K (l.drop k)) (l.take k) f w) : WpOG F m P n ops K l f w := by
  have := Dz (K := K) hF hd h
  rwa [List.take_append_drop] at this
def allR (ms : List MTh) : List Rt := ms.flatMap (fun m => m.t.slots)
def preR (ms : List MTh) (k j : Nat) : List Rt := allR (ms.take k) ++ (mAt ms k).t.slots.take j
theorem M4 (ms : List MTh) (k : Nat) : preR ms k 0 = allR (ms.take k) := by simp [preR]
theorem Ns {ms : List MTh} {k j : Nat} (hj : j < (mAt ms k).t.slots.length) : preR ms k j ++ [rAt (mAt ms k).t.slots j] = preR ms k (j + 1) := by
  unfold preR
  rw [List.take_add_one, V4 hj, List.append_assoc]
  rfl
theorem M3 {ms : List MTh} {k j : Nat} (hk : k < ms.length) (hj : (mAt ms k).t.slots.length ≤ j) : preR ms k j = allR (ms.take (k + 1)) := by
  unfold preR allR
  rw [List.take_add_one, J5 hk, List.take_of_length_le hj, List.flatMap_append]
  simp
theorem H7 {ms : List MTh} {k : Nat} (hk : k < ms.length) : allR ms = allR (ms.take k) ++ ((mAt ms k).t.slots ++ allR (ms.drop (k + 1))) := by
  unfold allR
  conv => lhs; rw [← List.take_append_drop k ms, List.flatMap_append, Wm (J5 hk), List.flatMap_cons]
theorem R9 {ms : List MTh} {k j : Nat} (hk : k < ms.length) : preR ms k j <+: allR ms := by
  rw [H7 hk]
  unfold preR
  refine List.prefix_append_right_inj _ |>.2 ?_
  exact (List.take_prefix _ _).trans (List.prefix_append _ _)
theorem Ey {ms : List MTh} {k j : Nat} (hk : k < ms.length) (hj : j < (mAt ms k).t.slots.length) : (preR ms k j).length < (allR ms).length := by
  rw [H7 hk]
  unfold preR
  simp only [List.length_append, List.length_take]
  omega
theorem Mh {ms : List MTh} {k : Nat} (hk : ms.length ≤ k) : allR (ms.take k) = allR ms := by rw [List.take_of_length_le hk]
theorem Cd {ms : List MTh} {t : Th} : (decide (t.kind = 5) && !kindAt (tabT ms) t.to 1) = !gateOk (tabT ms) t := by
  unfold gateOk
  cases decide (t.kind = 5) <;> simp
def headOk (ts : List Th) (t : Th) : Bool := thingOk t && gateOk ts t
theorem Ds {ms : List MTh} (h : inR (ms.length : Int) 1 8 = false) : tableOk (tabT ms) = false := by
  unfold tableOk
  rw [Qd, h]
  rfl
theorem Mc {ms : List MTh} {k : Nat} (hk : k < ms.length) (h : headOk (tabT ms) (mAt ms k).t = false) : tableOk (tabT ms) = false := by
  have h1 : (tabT ms).all (fun t => thingOk t && gateOk (tabT ms) t) = false := K3 (p := headOk (tabT ms)) (Ww hk) h
  unfold tableOk
  rw [h1, Bool.false_and, Bool.and_false]
theorem Sf {ms : List MTh} {k : Nat} (hl : inR (ms.length : Int) 1 8 = true) (h : ((tabT ms).take k).all (headOk (tabT ms)) = true) (hk : ms.length ≤ k) : tableOk (tabT ms) = (allR ms).all (rightTo (tabT ms)) := by
  have h1 : (tabT ms).all (fun t => thingOk t && gateOk (tabT ms) t) = true := K9 (p := headOk (tabT ms)) h (by rw [Qd]; exact hk)
  unfold tableOk
  rw [h1, Qd, hl, Bool.true_and, Bool.true_and]
  generalize rightTo (tabT ms) = p
  unfold tabT allR
  rw [List.all_map, List.all_flatMap]
  rfl
theorem M7 {ts : List Th} {r : Rt} (h : decide (r.th = 0) = true) : rightTo ts r = true := by unfold rightTo; rw [h]; rfl
theorem Ny {ms : List MTh} {r : Rt} (h : decide (r.th = 0) = false) : ((!inR r.th 1 (ms.length : Int)) || (decide ((mAt ms (r.th - 1).toNat).t.ve < r.ve))) = !rightTo (tabT ms) r := by
  unfold rightTo
  rw [h, Bool.false_or, Qw, Qd]
  cases inR r.th 1 (ms.length : Int)
  · rfl
  · have e : decide ((thAt (tabT ms) r.th).ve < r.ve) = !decide (r.ve ≤ (thAt (tabT ms) r.th).ve) := by
      rw [Bool.eq_iff_iff]; simp
    simp only [e, Bool.not_true, Bool.false_or, Bool.true_and]
theorem Sm {p : Rt → Bool} {a b : List Rt} (h : a <+: b) (ha : a.all p = false) : b.all p = false := by
  obtain ⟨c, rfl⟩ := h
  rw [List.all_append, ha, Bool.false_and]
end Go.Dw
end
section
namespace Go.Proofs.YtjpgffmkcmcolaaGreatDoor
open Go.RowKit Go.Dw
set_option maxRecDepth 100000
set_option maxHeartbeats 4000000
set_option linter.unusedSimpArgs false
set_option linter.unusedVariables false
theorem Cn : goFn Tryz.prog 43 = true := by kernel_rfl
theorem Zg : goFn Tryz.prog 44 = true := by kernel_rfl
theorem U0 : oneTy Tryz.prog 23 = true := by kernel_rfl
theorem Xam : zeroTy Tryz.prog 4 = some (.bool false) := by kernel_rfl
theorem Rc (w : World) (ms : List MTh) (a : Option Addr) (c : Nat) : CallsR Tryz.prog 44 #[.slice a ms.length c] w (fun v w' => ∃ B : Nat, v = .func (.func 70) #[] #[pt B 0] ∧ w.heap.size ≤ B ∧ Blk w' B 23 #[.slice a ms.length c] ∧ w.grownBy w' none) := by
 refine Xx (n := 4) Tryz.func44 Z Tryz.ntmps44 Z ?_
 have O := World.grownBy.refl w none
 refine Xa (Qf (v := .slice a ms.length c) (cs := #[.slice a ms.length c]) Z Z Z ?_)
 intro G V E
 have J := Yj E O
 refine Xe (v := .nilFunc) Z Z (Xc (Xa (P2 (vs := [pt G 0]) (Xg Z Xk) Z (Xe (v := .func (.func 70) #[] #[pt G 0]) Z Z (Xc (Xt ?_))))))
 refine ⟨.func (.func 70) #[] #[pt G 0], Yp Z Z, G, Z, J, E.blk, (low0 O E.grw)⟩
theorem Pr (m : Nat) (w : World) (B : Nat) (ms : List MTh) (a : Option Addr) (c : Nat) (ht : TabAt w a ms) (hlen : TabLen ms) (hn : ms.length ≤ 1048576) (hB : Blk w B 23 #[.slice a ms.length c]) :
    SeqStopsK Fence.wide m Tryz.prog 70 #[pt B 0] (fun x : Rt => #[.agg x.cells.toArray]) (Below w.heap.size) (fun xs => xs = allR ms) (fun pre => pre <+: allR ms) (allR ms).length w := by
 intro l J Jx W hW hJ hJx hY h0
 have bb := gob hW
 show CallsIn Fence.wide m Tryz.prog 70 #[.func (.yield l) #[] #[], pt B 0] W _
 refine (Ld (n := 26) (m := m) (R := fun v w' => (∃ xs, xs = allR ms ∧ J xs w') ∨ (∃ pre, pre <+: allR ms ∧ Jx pre w')) Tryz.func70 Z Tryz.ntmps70 Z ?_).mono (fun e w' ⟨v, he, h⟩ => ⟨⟨v, he⟩, h⟩)
 refine Ki Vg (Xh (v := .slice a ms.length c) U0 Z ((hB.grown0 bb).cell Z) Z (Yu (by kernel_rfl) Z Z (Xb (v := vi 0) Z Z (Xc (Wf (N8 (fun mm f' w' => ∃ (k : Nat), mm = ms.length - k ∧ k ≤ ms.length ∧ J (allR (ms.take k)) w' ∧ f' 9 = vi (k : Int) ∧ f' 0 = .func (.yield l) #[] #[] ∧ f' 7 = .slice a ms.length c ∧ f' 8 = vi (ms.length : Int) ∧ w.grownBy w' none) (ms.length - 0) ⟨0, Z, (Nat.zero_le _), h0, Z, Z, Z, Z, bb⟩ ?_))))))
 rintro mm bl bx ⟨k, bf, hk, hJk, ad, ba, aj, ak, ac⟩
 refine Ki Vg (Qa (q := decide ((k : Int) < (ms.length : Int))) ad ak Z Z (Xc (U4 (Wg Z (fun ag => ?_) (fun ag => ?_)))))
 have bn := of_decide_eq_true ag
 refine Gd (Xu (U4 (Wf (Ki Vg ?_))))
 obtain ⟨bj, bv, bt, ar, aw, a8⟩ := SlAt.at (TabAt.low ht ac).1 (Yi (xg ms k))
 have be := TabLen.at hlen (xg ms k)
 refine Xz Y2 aj ad ar aw (by omega) (by omega) Z (Xp (vs := [vi (mAt ms k).t.kind, vi (mAt ms k).t.lab.s, vi (mAt ms k).t.lab.v, vi (mAt ms k).t.ve, vi (mAt ms k).t.num, .slice (mAt ms k).sa (mAt ms k).t.slots.length (mAt ms k).sc, .slice (mAt ms k).qa (mAt ms k).t.queue.length (mAt ms k).qc, vi (mAt ms k).t.to]) Y0 Z Z (Yr a8 0 8 Z) Z (Ye (cs := #[vi 0, vi 0, vi 0, vi 0, vi 0, .slice none 0 0, .slice none 0 0, vi 0]) Kw Z Z ?_))
 intro bh bz E
 have bc := Yj E ac
 refine X0 (vs := [vi (mAt ms k).t.kind, vi (mAt ms k).t.lab.s, vi (mAt ms k).t.lab.v, vi (mAt ms k).t.ve, vi (mAt ms k).t.num, .slice (mAt ms k).sa (mAt ms k).t.slots.length (mAt ms k).sc, .slice (mAt ms k).qa (mAt ms k).t.queue.length (mAt ms k).qc, vi (mAt ms k).t.to]) (cs' := #[vi (mAt ms k).t.kind, vi (mAt ms k).t.lab.s, vi (mAt ms k).t.lab.v, vi (mAt ms k).t.ve, vi (mAt ms k).t.num, .slice (mAt ms k).sa (mAt ms k).t.slots.length (mAt ms k).sc, .slice (mAt ms k).qa (mAt ms k).t.queue.length (mAt ms k).qc, vi (mAt ms k).t.to]) Y0 Z Z Z (by simp [Value.oneCell']) E.blk (Nat.le_of_ble_eq_true Z) Z ?_
 intro ca V
 refine Xc (Ki Vg (Xd (o' := 5) Qj Z Z Z (Xh (v := .slice (mAt ms k).sa (mAt ms k).t.slots.length (mAt ms k).sc) Jh Z (V.blk.cell Z) Z (Yu (by kernel_rfl) Z Z (Xb (v := vi 0) Z Z (Xc (Wf (N8 (fun mm f' w' => ∃ (j : Nat), mm = (mAt ms k).t.slots.length - j ∧ j ≤ (mAt ms k).t.slots.length ∧ J (preR ms k j) w' ∧ f' 16 = vi (j : Int) ∧ f' 0 = .func (.yield l) #[] #[] ∧ f' 7 = .slice a ms.length c ∧ f' 8 = vi (ms.length : Int) ∧ f' 9 = vi (k : Int) ∧ f' 14 = .slice (mAt ms k).sa (mAt ms k).t.slots.length (mAt ms k).sc ∧ f' 15 = vi ((mAt ms k).t.slots.length : Int) ∧ w.grownBy w' none) ((mAt ms k).t.slots.length - 0) ⟨0, Z, (Nat.zero_le _), (by rw [M4]; exact (hJ _ _ _ none hJk (low1 E.grw V.grw (nt ((World.grownBy.refl _ none)).size (Nat.le_of_eq E.eq.symm))) (fun r e => by cases e))), Z, ba, aj, ak, ad, Z, Z, (low1 (low0 ac E.grw) V.grw (by omega))⟩ ?_))))))))
 rintro mm bm cc ⟨j, bg, hj, hJj, ae, af, al, am, an, ao, ap, O⟩
 refine Ki Vg (Qa (q := decide ((j : Int) < ((mAt ms k).t.slots.length : Int))) ae ap Z Z (Xc (U4 (Wg Z (fun ah => ?_) (fun ah => ?_)))))
 have bp := of_decide_eq_true ah
 refine Gd (Xu (U4 (Wf (Ki Vg ?_))))
 obtain ⟨bk, bw, bu, au, az, a9⟩ := SlAt.at (TabAt.th (TabAt.low ht O) (xg ms k)).1 (Yi (xr (mAt ms k).t.slots j))
 refine Xz Ka ao ae au az (by omega) (by omega) Z (Xp (vs := [vi (rAt (mAt ms k).t.slots j).th, vi (rAt (mAt ms k).t.slots j).ve, vb (rAt (mAt ms k).t.slots j).rd, vb (rAt (mAt ms k).t.slots j).wr, vb (rAt (mAt ms k).t.slots j).wk]) Yx Z Z (Yr a9 0 5 Z) Z (Ye (cs := #[vi 0, vi 0, vb false, vb false, vb false]) Kz Z Z ?_))
 intro bi cd G
 have bd := Yj G O
 refine X0 (vs := [vi (rAt (mAt ms k).t.slots j).th, vi (rAt (mAt ms k).t.slots j).ve, vb (rAt (mAt ms k).t.slots j).rd, vb (rAt (mAt ms k).t.slots j).wr, vb (rAt (mAt ms k).t.slots j).wk]) (cs' := #[vi (rAt (mAt ms k).t.slots j).th, vi (rAt (mAt ms k).t.slots j).ve, vb (rAt (mAt ms k).t.slots j).rd, vb (rAt (mAt ms k).t.slots j).wr, vb (rAt (mAt ms k).t.slots j).wk]) Yx Z Z Z (by simp [Value.oneCell']) G.blk (Nat.le_of_ble_eq_true Z) Z ?_
 intro ce ab
 refine Xc (U4 (Hz (Fe 2 Vg (by kernel_rfl) ?_)))
 simp only [List.take_succ_cons, List.take_zero]
 refine Xb (v := .func (.yield l) #[] #[]) af Z (Xp (vs := [vi (rAt (mAt ms k).t.slots j).th, vi (rAt (mAt ms k).t.slots j).ve, vb (rAt (mAt ms k).t.slots j).rd, vb (rAt (mAt ms k).t.slots j).wr, vb (rAt (mAt ms k).t.slots j).wk]) Yx Z Z (ab.blk.rangeL 0 5 Z) Z (Xc ?_))
 simp only [List.drop_succ_cons, List.drop_zero]
 refine Tq Vg Z Z (vs := [.agg #[vi (rAt (mAt ms k).t.slots j).th, vi (rAt (mAt ms k).t.slots j).ve, vb (rAt (mAt ms k).t.slots j).rd, vb (rAt (mAt ms k).t.slots j).wr, vb (rAt (mAt ms k).t.slots j).wk]]) (Xg Z Xk) Z (hY (preR ms k j) _ _ (hJ _ _ _ none hJj (low1 G.grw ab.grw (nt ((World.grownBy.refl _ none)).size (Nat.le_of_eq G.eq.symm))) (fun r e => by cases e)) (Ey (by omega) (by omega))) ?_
 rintro _ cf (⟨rfl, aq, av⟩ | ⟨rfl, ai⟩)
 refine ⟨true, Z, ?_⟩
 refine P4 Vg (by kernel_rfl) (Yl (b' := false) Z Z Z (Xc (Xu (Bi Z Z (Gd (Y7 (Xu (Wz Vg (Yn (c := (j : Int) + 1) ae Z (by omega) (by omega) (by omega) Z (Xb (v := vi ((j : Int) + 1)) Z Z (Xc (Xu ?_))))))))))))
 exact ⟨(mAt ms k).t.slots.length - (j + 1), by omega, (j + 1), Z, (by omega), (by rw [← Ns (by omega)]; exact aq), Z, af, al, am, an, ao, ap, (Ru (low1 (low0 O G.grw) ab.grw (by omega)) av)⟩
 refine ⟨false, Z, ?_⟩
 refine P4 Vg (by kernel_rfl) (Yl (b' := true) Z Z Z (Xc (Xu (Bj Z Z (Mf (Qi (Yk (Yk (Qi (Qi (Yk (Yk ?_))))))))))))
 refine Qi (⟨.tuple #[], Xae Z, Or.inr ⟨_, R9 (k := k) (j := j + 1) (by omega), ?_⟩⟩)
 rw [← Ns (k := k) (j := j) (by omega)]
 exact ai
 have bq := of_decide_eq_false ah
 exact L5 (Qb (Qb (Jm (Y7 (Xu (Wz Vg (Yn (c := (k : Int) + 1) an Z (by omega) (by omega) (by omega) Z (Xb (v := vi ((k : Int) + 1)) Z Z (Xc (Xu (⟨ms.length - (k + 1), by omega, (k + 1), Z, (by omega), (by rw [← M3 (j := j) (by omega) (by omega)]; exact hJj), Z, af, al, am, O⟩)))))))))))
 have br := of_decide_eq_false ag
 refine L5 (Qb (Qb (Jm (⟨.tuple #[], Xae Z, Or.inl ⟨_, Z, ?_⟩⟩))))
 have kk := hJk
 rw [Mh (by omega)] at kk
 exact kk
theorem U6 (w : World) (ms : List MTh) (a : Option Addr) (c : Nat) (ht : TabAt w a ms) (hlen : TabLen ms) (hn : ms.length ≤ 1048576) : CallsR Tryz.prog 21 #[.slice a ms.length c] w (fun v w' => v = .bool (tableOk (tabT ms)) ∧ w.grownBy w' none) := by
 refine I2 (n := 53) (m := 9) Tryz.func21 rfl Tryz.ntmps21 rfl ?_
 have ff := World.grownBy.refl w none
 refine Gc ?_
 refine Qf (v := .slice a ms.length c) (cs := #[.slice a ms.length c]) rfl rfl rfl ?_
 intro af jf ap
 have gc := Yj ap ff
 have bz := low0 ff ap.grw
 refine Ye (cs := #[.bool false]) Xam rfl rfl ?_
 intro G jg ad
 have gg := Yj ad bz
 have dp := Xr ad (ap.blk).lt
 have d5 := low0 bz ad.grw
 refine Xc ?_
 refine Pz ?_
 refine Xa ?_
 have dz := (ap.blk.grown0 ad.grw)
 refine Xh (v := .slice a ms.length c) U0 rfl (dz.cell rfl) rfl ?_
 refine Yu (by kernel_rfl) rfl rfl ?_
 refine Xl (vs := [.int .i64 (ms.length : Int), .int .i64 1, .int .i64 8]) Ug (Xg rfl (Xg rfl (Xg rfl Xk))) rfl (J9 (ms.length : Int) 1 8 _) ?_
 rintro _ jh ⟨rfl, ar⟩
 have ca := low0 d5 ar
 refine Yl (b' := !inR (ms.length : Int) 1 8) rfl rfl rfl ?_
 refine Xc ?_
 refine Xy rfl (fun ag => ?_) (fun ag => ?_)
 ·
  have e0 := Q2 ag
  refine Xa ?_
  have fh := (ad.blk.grown0 ar)
  refine Yg (v := .bool false) (cs' := #[.bool false]) J4 rfl rfl rfl fh (Nat.le_of_ble_eq_true rfl) rfl ?_
  intro ji bv
  have d6 := low1 ca bv.grw (by omega)
  refine Xc ?_
  refine Xt ?_
  refine Yk ?_
  exact I4 (J2 rfl (Ua J4 rfl (bv.blk.cell rfl))) ⟨congrArg Value.bool (Ds e0).symm, d6⟩
 ·
  have ah := Qx ag
  have iv := Qu.1 ah
  refine Xw ?_
  refine Xu ?_
  refine Pz ?_
  refine Xa ?_
  have d0 := (dz.grown0 ar)
  refine Xh (v := .slice a ms.length c) U0 rfl (d0.cell rfl) rfl ?_
  refine Yu (by kernel_rfl) rfl rfl ?_
  refine Xb (v := .int .i64 0) rfl rfl ?_
  refine Xc ?_
  refine Yc ?_
  have fi := (ad.blk.grown0 ar)
  refine Qm (fun mm f' w' => ∃ (k : Nat), mm = ms.length - k ∧ k ≤ ms.length ∧ (((tabT ms).take k).all (headOk (tabT ms))) = true ∧ f' 12 = .int .i64 (k : Int) ∧ f' 0 = .slice a ms.length c ∧ f' 1 = .pointer (some ⟨af, 0, none⟩) ∧ f' 2 = .pointer (some ⟨G, 0, none⟩) ∧ f' 10 = .slice a ms.length c ∧ f' 11 = .int .i64 (ms.length : Int) ∧ w.grownBy w' none ∧ Blk w' af 23 #[.slice a ms.length c] ∧ Blk w' G 4 #[.bool false]) (ms.length - 0) ⟨0, rfl, (Nat.zero_le _), rfl, rfl, rfl, rfl, rfl, rfl, rfl, ca, d0, fi⟩ ?_
  rintro mm i0 jj ⟨k, iu, hk, hall, bn, dw, az, a8, bq, br, am, an, ao⟩
  refine Xa ?_
  refine Qa (q := decide ((k : Int) < (ms.length : Int))) bn br rfl rfl ?_
  refine Xc ?_
  refine Xq ?_
  refine Xy rfl (fun ai => ?_) (fun ai => ?_)
  ·
   have i3 := of_decide_eq_true ai
   refine Xw ?_
   refine Xu ?_
   refine Xq ?_
   refine Yc ?_
   refine Xa ?_
   obtain ⟨iz, jd, jc, d3, eh, ej⟩ := SlAt.at (TabAt.low ht am).1 (Yi (J5 (show k < ms.length by omega)))
   have gk := TabLen.at hlen (J5 (show k < ms.length by omega))
   refine Xz Y2 bq bn d3 eh (by omega) (by omega) rfl ?_
   refine Xp (vs := [.int .i64 (mAt ms k).t.kind, .int .i64 (mAt ms k).t.lab.s, .int .i64 (mAt ms k).t.lab.v, .int .i64 (mAt ms k).t.ve, .int .i64 (mAt ms k).t.num, .slice (mAt ms k).sa (mAt ms k).t.slots.length (mAt ms k).sc, .slice (mAt ms k).qa (mAt ms k).t.queue.length (mAt ms k).qc, .int .i64 (mAt ms k).t.to]) Y0 rfl rfl (Yr ej 0 8 rfl) rfl ?_
   refine Ye (cs := #[.int .i64 0, .int .i64 0, .int .i64 0, .int .i64 0, .int .i64 0, .slice none 0 0, .slice none 0 0, .int .i64 0]) Kw rfl rfl ?_
   intro iy jk O
   have gh := Yj O am
   have dq := Xr O (an).lt
   have dt := Xr O (ao).lt
   have d7 := low0 am O.grw
   refine X0 (vs := [.int .i64 (mAt ms k).t.kind, .int .i64 (mAt ms k).t.lab.s, .int .i64 (mAt ms k).t.lab.v, .int .i64 (mAt ms k).t.ve, .int .i64 (mAt ms k).t.num, .slice (mAt ms k).sa (mAt ms k).t.slots.length (mAt ms k).sc, .slice (mAt ms k).qa (mAt ms k).t.queue.length (mAt ms k).qc, .int .i64 (mAt ms k).t.to]) (cs' := #[.int .i64 (mAt ms k).t.kind, .int .i64 (mAt ms k).t.lab.s, .int .i64 (mAt ms k).t.lab.v, .int .i64 (mAt ms k).t.ve, .int .i64 (mAt ms k).t.num, .slice (mAt ms k).sa (mAt ms k).t.slots.length (mAt ms k).sc, .slice (mAt ms k).qa (mAt ms k).t.queue.length (mAt ms k).qc, .int .i64 (mAt ms k).t.to]) Y0 rfl rfl rfl (by simp [Value.oneCell']) O.blk (Nat.le_of_ble_eq_true rfl) rfl ?_
   intro jl V
   have bd := low1 d7 V.grw (by omega)
   refine Xc ?_
   refine Xq ?_
   refine Xa ?_
   refine Xp (vs := [.int .i64 (mAt ms k).t.kind, .int .i64 (mAt ms k).t.lab.s, .int .i64 (mAt ms k).t.lab.v, .int .i64 (mAt ms k).t.ve, .int .i64 (mAt ms k).t.num, .slice (mAt ms k).sa (mAt ms k).t.slots.length (mAt ms k).sc, .slice (mAt ms k).qa (mAt ms k).t.queue.length (mAt ms k).qc, .int .i64 (mAt ms k).t.to]) Y0 rfl rfl (V.blk.rangeL 0 8 rfl) rfl ?_
   refine Xl (vs := [.agg #[.int .i64 (mAt ms k).t.kind, .int .i64 (mAt ms k).t.lab.s, .int .i64 (mAt ms k).t.lab.v, .int .i64 (mAt ms k).t.ve, .int .i64 (mAt ms k).t.num, .slice (mAt ms k).sa (mAt ms k).t.slots.length (mAt ms k).sc, .slice (mAt ms k).qa (mAt ms k).t.queue.length (mAt ms k).qc, .int .i64 (mAt ms k).t.to]]) Cm (Xg rfl Xk) rfl (Hg (mAt ms k) _ (TabAt.th (TabAt.low ht bd) (J5 (show k < ms.length by omega))).1 (TabAt.th (TabAt.low ht bd) (J5 (show k < ms.length by omega))).2.1 (by first | omega | exact Nat.le_of_ble_eq_true rfl | (simp only [List.length_nil, List.length_cons, List.length_append, List.length_replicate]; omega)) (by first | omega | exact Nat.le_of_ble_eq_true rfl | (simp only [List.length_nil, List.length_cons, List.length_append, List.length_replicate]; omega))) ?_
   rintro _ f9 ⟨rfl, ac⟩
   have aq := low0 bd ac
   refine Yl (b' := !thingOk (mAt ms k).t) rfl rfl rfl ?_
   refine Xc ?_
   refine Xy rfl (fun aj => ?_) (fun aj => ?_)
   ·
    have fa := Q2 aj
    refine Xa ?_
    have fj := (((ao.grown0 O.grw).gn V.grw).grown0 ac)
    refine Yg (v := .bool false) (cs' := #[.bool false]) J4 a8 rfl rfl fj (Nat.le_of_ble_eq_true rfl) rfl ?_
    intro jm bw
    have d8 := low1 aq bw.grw (by omega)
    refine Xc ?_
    refine Xt ?_
    refine Yk ?_
    refine Qi ?_
    refine Yk ?_
    refine Yk ?_
    refine Qi ?_
    refine Yk ?_
    exact I4 (J2 rfl (Ua J4 a8 (bw.blk.cell rfl))) ⟨congrArg Value.bool (Mc (k := k) (by omega) (by unfold headOk; rw [fa]; rfl)).symm, d8⟩
   ·
    have ak := Qx aj
    refine Xw ?_
    refine Xu ?_
    refine X7 (fun f' w' => (f' 0 = .slice a ms.length c ∧ f' 1 = .pointer (some ⟨af, 0, none⟩) ∧ f' 2 = .pointer (some ⟨G, 0, none⟩) ∧ f' 10 = .slice a ms.length c ∧ f' 11 = .int .i64 (ms.length : Int) ∧ f' 12 = .int .i64 (k : Int) ∧ f' 28 = .bool ((decide ((mAt ms k).t.kind = 5)) && (!kindAt (tabT ms) (mAt ms k).t.to 1))) ∧ f9.grownBy w' none) ?_ ?_
    ·
     refine Xd (o' := 0) Y9 rfl rfl rfl ?_
     have d1 := (V.blk.grown0 ac)
     refine Xh (v := .int .i64 (mAt ms k).t.kind) X1 rfl (d1.cell rfl) rfl ?_
     refine X3 (q := decide ((mAt ms k).t.kind = 5)) rfl rfl rfl rfl ?_
     refine Xb (v := .bool (decide ((mAt ms k).t.kind = 5))) rfl rfl ?_
     rcases Yf (decide ((mAt ms k).t.kind = 5)) with J | J
     ·
      have ga := H5 ak J
      have i4 := of_decide_eq_true J
      refine Xf rfl rfl rfl J ?_
      have fk := (((an.grown0 O.grw).gn V.grw).grown0 ac)
      refine Xh (v := .slice a ms.length c) U0 az (fk.cell rfl) rfl ?_
      refine Xf rfl rfl rfl J ?_
      refine Xd (o' := 7) Kk rfl rfl rfl ?_
      refine Xf rfl rfl rfl J ?_
      refine Xh (v := .int .i64 (mAt ms k).t.to) X1 rfl (d1.cell rfl) rfl ?_
      refine Xf rfl rfl rfl J ?_
      refine Xl (vs := [.slice a ms.length c, .int .i64 (mAt ms k).t.to, .int .i64 1]) Cn (Xg rfl (Xg rfl (Xg rfl Xk))) rfl (Lp (mAt ms k).t.to 1 (by omega) _ ms _ _ (TabAt.low ht aq) hlen (by omega)) ?_
      rintro _ jo ⟨rfl, cd⟩
      have gm := low0 aq cd
      refine Xf rfl rfl rfl J ?_
      refine Yl (b' := !kindAt (tabT ms) (mAt ms k).t.to 1) rfl rfl rfl ?_
      refine Xs (v := .bool (!kindAt (tabT ms) (mAt ms k).t.to 1)) rfl J rfl rfl ?_
      exact Xc ⟨⟨dw, az, a8, bq, br, bn, (congrArg Value.bool (by first | (simp only [ag, ah, ai, aj, ak, J, b0, b1, b2, b3, b4, b5, b6, b7, b8, b9]; done) | simp [ag, ah, ai, aj, ak, J]))⟩, cd⟩
     ·
      have i5 := of_decide_eq_false J
      iterate 5 refine Xi rfl rfl rfl J rfl ?_
      refine Xo (v := .bool false) rfl J rfl rfl ?_
      exact Xc ⟨⟨dw, az, a8, bq, br, bn, (congrArg Value.bool (by first | (simp only [ag, ah, ai, aj, ak, J, b0, b1, b2, b3, b4, b5, b6, b7, b8, b9]; done) | simp [ag, ah, ai, aj, ak, J]))⟩, (World.grownBy.refl _ _)⟩
    ·
     rintro i1 jp ⟨⟨eo, ep, bt, er, eu, ew, ex⟩, au⟩
     have cc := low0 aq au
     refine Xy ex (fun a9 => ?_) (fun a9 => ?_)
     ·
      have dx := Uk a9
      have gb := H5 ak dx
      have i6 := of_decide_eq_true dx
      have fb := Ul a9
      have i7 := Q2 fb
      refine Xa ?_
      have fm := ((((ao.grown0 O.grw).gn V.grw).grown0 ac).grown0 au)
      refine Yg (v := .bool false) (cs' := #[.bool false]) J4 bt rfl rfl fm (Nat.le_of_ble_eq_true rfl) rfl ?_
      intro jq bx
      have d9 := low1 cc bx.grw (by omega)
      refine Xc ?_
      refine Xt ?_
      refine Qi ?_
      refine Yk ?_
      refine Yk ?_
      refine Qi ?_
      refine Yk ?_
      exact I4 (J2 rfl (Ua J4 bt (bx.blk.cell rfl))) ⟨congrArg Value.bool (Mc (k := k) (by omega) (by unfold headOk; rw [Q2 (Cd.symm.trans a9), Bool.and_false])).symm, d9⟩
     ·
      refine Xw ?_
      refine Y7 ?_
      refine Xu ?_
      refine X2 ?_
      refine Yn (c := (k : Int) + 1) ew rfl (by omega) (by omega) (by omega) rfl ?_
      refine Xb (v := .int .i64 ((k : Int) + 1)) rfl rfl ?_
      refine Xc ?_
      refine Xu ?_
      have fo := ((((an.grown0 O.grw).gn V.grw).grown0 ac).grown0 au)
      have fp := ((((ao.grown0 O.grw).gn V.grw).grown0 ac).grown0 au)
      exact ⟨ms.length - (k + 1), by omega, (k + 1), rfl, (by omega), (Ky (p := headOk (tabT ms)) hall (Ww (by omega)) (by unfold headOk; rw [ak, Qx (Cd.symm.trans a9)]; rfl)), rfl, eo, ep, bt, er, eu, cc, fo, fp⟩
  ·
   have i8 := of_decide_eq_false ai
   refine Qe ?_
   refine Qb ?_
   refine Qb ?_
   refine Jm ?_
   refine Xu ?_
   refine Dx ?_
   refine Gc ?_
   refine Xh (v := .slice a ms.length c) U0 az (an.cell rfl) rfl ?_
   refine Xl (vs := [.slice a ms.length c]) Zg (Xg rfl Xk) rfl (Rc _ ms _ _) ?_
   rintro _ dn ⟨bp, rfl, aw, fq, be⟩
   have ae := low0 am be
   have gi := Nat.le_trans am.size aw
   have dr := Nat.lt_of_lt_of_le (an).lt aw
   have du := Nat.lt_of_lt_of_le (ao).lt aw
   refine Xc ?_
   have fr := (an.grown0 be)
   have d2 := (ao.grown0 be)
   refine E9 (fun f' => f' 1 = .pointer (some ⟨af, 0, none⟩) ∧ f' 2 = .pointer (some ⟨G, 0, none⟩) ∧ f' 31 = .func (.func 70) #[] #[.pointer (some ⟨bp, 0, none⟩)]) ⟨az, a8, rfl⟩ ?_
   rintro fT ⟨e1, e2, e3⟩ a0 ha
   obtain ⟨tm, df⟩ := a0
   obtain rfl : df = [] := ha.defers
   have fg : G < dn.heap.size := (d2).lt
   refine wpIn_block ?_
   refine wpIn_rangeFunc_ownH (F := Fence.wide) (n := 9) rfl (by omega) (gf := 70) (lb := #[.pointer (some ⟨bp, 0, none⟩)]) (by rw [ha.eval]; exact e3) trivial (enters_of Tryz.func70 (by kernel_rfl) rfl) (Pr 8 dn bp ms a c (TabAt.low ht ae) hlen hn fq) belowK_t (belowK_b (Nat.le_refl _)) (Below.refl _ _) (fun _ => rfl) (fun pre W => w.grownBy W none ∧ Blk W af 23 #[.slice a ms.length c] ∧ Blk W G 4 #[.bool false] ∧ pre.all (rightTo (tabT ms)) = true ∧ dn.heap.size ≤ W.heap.size) (fun c pre W => c = .ret ∧ w.grownBy W none ∧ Blk W G 4 #[.bool false] ∧ pre.all (rightTo (tabT ms)) = false) (fun s A B row hs hg hr => ⟨Nr hs.1 hg ae.size hr, H4 hs.2.1 hg hr, H4 hs.2.2.1 hg hr, hs.2.2.2.1, Nat.le_trans hs.2.2.2.2 hg.size⟩) (fun c s A B row hs hg hr => ⟨hs.1, Nr hs.2.1 hg ae.size hr, H4 hs.2.2.1 hg hr, hs.2.2.2⟩) ⟨ae, fr, d2, rfl, Nat.le_refl _⟩ (fun x a' W => ∃ (Bx : Nat) (f' : Fr), Blk W Bx 42 x.cells.toArray ∧ FEq 53 a' f' ∧ f' 5 = .pointer (some ⟨Bx, 0, none⟩) ∧ f' 1 = .pointer (some ⟨af, 0, none⟩) ∧ f' 2 = .pointer (some ⟨G, 0, none⟩)) (fun x a' _ A B row hs hg hr => by obtain ⟨Bx, f', h1, h2⟩ := hs; exact ⟨Bx, f', H4 h1 hg hr, h2⟩) ?assign ?body ?done ?stop
   case assign =>
    intro l pre x W K hi hK
    refine wpIn_mono ((?_ : Wpg (Fence.wide.inRound l) (9 - 1 - 1) Tryz.prog 53 (fun e f' w' => e = .normal ∧ ∃ Bx : Nat, W.grownBy w' none ∧ Blk w' Bx 42 x.cells.toArray ∧ f' 5 = .pointer (some ⟨Bx, 0, none⟩) ∧ f' 1 = .pointer (some ⟨af, 0, none⟩) ∧ f' 2 = .pointer (some ⟨G, 0, none⟩)) _ (up fT 32 (.agg x.cells.toArray)) W) _ (by have hp := ha.put (d := 32) rfl (.agg x.cells.toArray); simpa [Act.put] using hp)) ?_
    ·
     have hlW := hi.2.2.2.2
     refine Wz (Gb l) ?_
     refine Ye (cs := #[.int .i64 0, .int .i64 0, .bool false, .bool false, .bool false]) Kz rfl rfl ?_
     intro em jr al
     have gj := Yj al hi.1
     have eb := low0 hi.1 al.grw
     refine X0 (vs := [.int .i64 x.th, .int .i64 x.ve, .bool x.rd, .bool x.wr, .bool x.wk]) (cs' := #[.int .i64 x.th, .int .i64 x.ve, .bool x.rd, .bool x.wr, .bool x.wk]) Yx rfl rfl rfl (by simp [Value.oneCell']) al.blk (Nat.le_of_ble_eq_true rfl) rfl ?_
     intro js bb
     have gp := low1 eb bb.grw (by omega)
     refine Xc ?_
     exact ⟨rfl, em, (low1 al.grw bb.grw (Nat.le_trans ((World.grownBy.refl _ none)).size (Nat.le_of_eq al.eq.symm))), bb.blk, rfl, e1, e2⟩
    ·
     rintro e a' w' ⟨f', hf', rfl, Bx, hg, hb, h5, h1, h2⟩
     exact hK a' w' (KeepsFrom.of_grownBy hg (fun j e => by cases e)) (J7 hg hi.2.2.2.2) ⟨low0 hi.1 hg, hi.2.1.grown0 hg, hi.2.2.1.grown0 hg, hi.2.2.2.1, Nat.le_trans hi.2.2.2.2 hg.size⟩ ⟨Bx, f', hb, hf', h5, h1, h2⟩
   case body =>
    rintro l pre x a' W hl hr hi ⟨Bx, f', hbx, hf', h5, h1, h2⟩ hlt
    refine wpIn_mono ((?_ : Wpg (Fence.wide.inRound l) (9 - 1 - 1) Tryz.prog 53 (fun e f'' w' => (e = .normal ∧ W.grownBy w' none ∧ rightTo (tabT ms) x = true) ∨ (e = .ret ∧ W.grownBy w' (some G) ∧ w.grownBy w' none ∧ Blk w' G 4 #[.bool false] ∧ rightTo (tabT ms) x = false)) _ f' W) a' hf') ?_
    ·
     refine Wf ?_
     refine U4 ?_
     refine Ki (Gb l) ?_
     refine Xd (o' := 0) Yz h5 rfl rfl ?_
     refine Xh (v := .int .i64 x.th) X1 rfl (hbx.cell rfl) rfl ?_
     refine X3 (q := decide (x.th = 0)) rfl rfl rfl rfl ?_
     refine Xc ?_
     refine Wg rfl (fun ab => ?_) (fun ab => ?_)
     ·
      have i9 := of_decide_eq_true ab
      refine L5 ?_
      refine Qb ?_
      refine Jm ?_
      exact Or.inl ⟨rfl, (World.grownBy.refl _ _), M7 ab⟩
     ·
      have ja := of_decide_eq_false ab
      refine Gd ?_
      refine Xu ?_
      refine Sl (fun f' w' => (f' 2 = .pointer (some ⟨G, 0, none⟩) ∧ f' 52 = .bool ((!inR x.th 1 (ms.length : Int)) || (decide ((mAt ms (x.th - 1).toNat).t.ve < x.ve)))) ∧ W.grownBy w' none) ?_ ?_
      ·
       rcases Yf (!inR x.th 1 (ms.length : Int)) with E | E
       ·
        have dy := Q2 E
        refine Sk (Gb l) (m := 15) (vals := [(36, .slice a ms.length c), (37, .pointer (some ⟨Bx, 0, none⟩)), (38, .int .i64 x.th), (39, .bool (inR x.th 1 (ms.length : Int))), (40, .bool (!inR x.th 1 (ms.length : Int))), (41, .bool (!inR x.th 1 (ms.length : Int))), (42, undef), (43, undef), (44, undef), (45, undef), (46, undef), (47, undef), (48, undef), (49, undef), (50, undef)]) (fun w' => W.grownBy w' none) Yy (by kernel_rfl) (X6 _) ?_ ?_
        ·
         refine Ql rfl (fun jt bf => ?_) ?_
         ·
          have gq := low0 hi.1 bf
          have ft := (hi.2.1.grown0 bf)
          refine Xh (v := .slice a ms.length c) U0 h1 (ft.cell rfl) rfl ?_
          exact Xc ⟨rfl, bf⟩
         refine Ql rfl (fun ju cg => ?_) ?_
         ·
          have gr := low0 hi.1 cg
          refine Xd (o' := 0) Yz h5 rfl rfl ?_
          exact Xc ⟨rfl, cg⟩
         refine Ql rfl (fun jv bg => ?_) ?_
         ·
          have gt := low0 hi.1 bg
          have fu := (hbx.grown0 bg)
          refine Xh (v := .int .i64 x.th) X1 rfl (fu.cell rfl) rfl ?_
          exact Xc ⟨rfl, bg⟩
         refine Ql rfl (fun jw cj => ?_) ?_
         ·
          have ed := low0 hi.1 cj
          refine Xl (vs := [.slice a ms.length c, .int .i64 x.th]) Nl (Xg rfl (Xg rfl Xk)) rfl (K5 x.th _ _ _ _) ?_
          rintro _ jx ⟨rfl, ce⟩
          have gu := low0 ed ce
          exact Xc ⟨rfl, (grown_trans cj ce)⟩
         refine Ql rfl (fun jy ck => ?_) ?_
         ·
          have gv := low0 hi.1 ck
          refine Yl (b' := !inR x.th 1 (ms.length : Int)) rfl rfl rfl ?_
          exact Xc ⟨rfl, ck⟩
         refine Ql rfl (fun jz cl => ?_) ?_
         ·
          have gw := low0 hi.1 cl
          refine Xb (v := .bool (!inR x.th 1 (ms.length : Int))) rfl rfl ?_
          exact Xc ⟨rfl, cl⟩
         refine Ql rfl (fun j1 cm => ?_) ?_
         ·
          have gx := low0 hi.1 cm
          refine Xi rfl rfl rfl E rfl ?_
          exact Xc ⟨rfl, cm⟩
         refine Ql rfl (fun j2 cn => ?_) ?_
         ·
          have gy := low0 hi.1 cn
          refine Xi rfl rfl rfl E rfl ?_
          exact Xc ⟨rfl, cn⟩
         refine Ql rfl (fun j3 co => ?_) ?_
         ·
          have gz := low0 hi.1 co
          refine Xi rfl rfl rfl E rfl ?_
          exact Xc ⟨rfl, co⟩
         refine Ql rfl (fun j4 ct => ?_) ?_
         ·
          have g0 := low0 hi.1 ct
          refine Xi rfl rfl rfl E rfl ?_
          exact Xc ⟨rfl, ct⟩
         refine Ql rfl (fun j5 cv => ?_) ?_
         ·
          have g1 := low0 hi.1 cv
          refine Xi rfl rfl rfl E rfl ?_
          exact Xc ⟨rfl, cv⟩
         refine Ql rfl (fun j6 cw => ?_) ?_
         ·
          have g2 := low0 hi.1 cw
          refine Xi rfl rfl rfl E rfl ?_
          exact Xc ⟨rfl, cw⟩
         refine Ql rfl (fun j7 cx => ?_) ?_
         ·
          have g3 := low0 hi.1 cx
          refine Xi rfl rfl rfl E rfl ?_
          exact Xc ⟨rfl, cx⟩
         refine Ql rfl (fun j8 cy => ?_) ?_
         ·
          have g5 := low0 hi.1 cy
          refine Xi rfl rfl rfl E rfl ?_
          exact Xc ⟨rfl, cy⟩
         refine Ql rfl (fun j9 cz => ?_) ?_
         ·
          have g6 := low0 hi.1 cz
          refine Xi rfl rfl rfl E rfl ?_
          exact Xc ⟨rfl, cz⟩
         exact Y5
        ·
         intro ka c8
         have g7 := low0 hi.1 c8
         refine Xi rfl rfl rfl E rfl ?_
         refine Xs (v := .bool true) rfl E rfl rfl ?_
         exact Xc (Xu ⟨⟨h2, (congrArg Value.bool (by first | (simp only [ab, E, dy, b0, b1, b2, b3, b4, b5, b6, b7, b8, b9]; done) | simp [ab, E, dy]))⟩, c8⟩)
       ·
        have bu := Qx E
        have iw := Qu.1 bu
        obtain ⟨dv, je, dm, d4, ei, ek⟩ := SlAt.at (TabAt.low ht hi.1).1 (Yi (J5 (show (x.th - 1).toNat < ms.length by omega)))
        have gl := TabLen.at hlen (J5 (show (x.th - 1).toNat < ms.length by omega))
        refine Sk (Gb l) (m := 15) (vals := [(36, .slice a ms.length c), (37, .pointer (some ⟨Bx, 0, none⟩)), (38, .int .i64 x.th), (39, .bool (inR x.th 1 (ms.length : Int))), (40, .bool (!inR x.th 1 (ms.length : Int))), (41, .bool (!inR x.th 1 (ms.length : Int))), (42, .pointer (some ⟨Bx, 1, none⟩)), (43, .int .i64 x.ve), (44, .slice a ms.length c), (45, .pointer (some ⟨Bx, 0, none⟩)), (46, .int .i64 x.th), (47, .int .i64 (x.th - 1)), (48, .pointer (some ⟨dv, dm, none⟩)), (49, .pointer (some ⟨dv, dm + 3, none⟩)), (50, .int .i64 (mAt ms (x.th - 1).toNat).t.ve)]) (fun w' => W.grownBy w' none) Yy (by kernel_rfl) (X6 _) ?_ ?_
        ·
         refine Ql rfl (fun kb bh => ?_) ?_
         ·
          have g8 := low0 hi.1 bh
          have fv := (hi.2.1.grown0 bh)
          refine Xh (v := .slice a ms.length c) U0 h1 (fv.cell rfl) rfl ?_
          exact Xc ⟨rfl, bh⟩
         refine Ql rfl (fun kc c9 => ?_) ?_
         ·
          have g9 := low0 hi.1 c9
          refine Xd (o' := 0) Yz h5 rfl rfl ?_
          exact Xc ⟨rfl, c9⟩
         refine Ql rfl (fun ke bi => ?_) ?_
         ·
          have ia := low0 hi.1 bi
          have fw := (hbx.grown0 bi)
          refine Xh (v := .int .i64 x.th) X1 rfl (fw.cell rfl) rfl ?_
          exact Xc ⟨rfl, bi⟩
         refine Ql rfl (fun kf da => ?_) ?_
         ·
          have ee := low0 hi.1 da
          refine Xl (vs := [.slice a ms.length c, .int .i64 x.th]) Nl (Xg rfl (Xg rfl Xk)) rfl (K5 x.th _ _ _ _) ?_
          rintro _ kg ⟨rfl, cf⟩
          have ib := low0 ee cf
          exact Xc ⟨rfl, (grown_trans da cf)⟩
         refine Ql rfl (fun kh db => ?_) ?_
         ·
          have ic := low0 hi.1 db
          refine Yl (b' := !inR x.th 1 (ms.length : Int)) rfl rfl rfl ?_
          exact Xc ⟨rfl, db⟩
         refine Ql rfl (fun ki dc => ?_) ?_
         ·
          have ie := low0 hi.1 dc
          refine Xb (v := .bool (!inR x.th 1 (ms.length : Int))) rfl rfl ?_
          exact Xc ⟨rfl, dc⟩
         refine Ql rfl (fun kj de => ?_) ?_
         ·
          have ig := low0 hi.1 de
          refine Xf rfl rfl rfl E ?_
          refine Xd (o' := 1) Vd h5 rfl rfl ?_
          exact Xc ⟨rfl, de⟩
         refine Ql rfl (fun kk bj => ?_) ?_
         ·
          have ii := low0 hi.1 bj
          refine Xf rfl rfl rfl E ?_
          have fx := (hbx.grown0 bj)
          refine Xh (v := .int .i64 x.ve) X1 rfl (fx.cell rfl) rfl ?_
          exact Xc ⟨rfl, bj⟩
         refine Ql rfl (fun kl bk => ?_) ?_
         ·
          have ij := low0 hi.1 bk
          refine Xf rfl rfl rfl E ?_
          have fy := (hi.2.1.grown0 bk)
          refine Xh (v := .slice a ms.length c) U0 h1 (fy.cell rfl) rfl ?_
          exact Xc ⟨rfl, bk⟩
         refine Ql rfl (fun km dg => ?_) ?_
         ·
          have ik := low0 hi.1 dg
          refine Xf rfl rfl rfl E ?_
          refine Xd (o' := 0) Yz h5 rfl rfl ?_
          exact Xc ⟨rfl, dg⟩
         refine Ql rfl (fun kn bl => ?_) ?_
         ·
          have il := low0 hi.1 bl
          refine Xf rfl rfl rfl E ?_
          have fz := (hbx.grown0 bl)
          refine Xh (v := .int .i64 x.th) X1 rfl (fz.cell rfl) rfl ?_
          exact Xc ⟨rfl, bl⟩
         refine Ql rfl (fun ko dh => ?_) ?_
         ·
          have im := low0 hi.1 dh
          refine Xf rfl rfl rfl E ?_
          refine Ys (c := x.th - 1) rfl rfl (by omega) (by omega) (by omega) rfl ?_
          exact Xc ⟨rfl, dh⟩
         refine Ql rfl (fun kp di => ?_) ?_
         ·
          have io := low0 hi.1 di
          refine Xf rfl rfl rfl E ?_
          refine Xz Y2 rfl rfl d4 ei (by omega) (by omega) rfl ?_
          exact Xc ⟨rfl, di⟩
         refine Ql rfl (fun kq dk => ?_) ?_
         ·
          have ip := low0 hi.1 dk
          refine Xf rfl rfl rfl E ?_
          refine Xd (o' := dm + 3) Jl rfl rfl rfl ?_
          exact Xc ⟨rfl, dk⟩
         refine Ql rfl (fun kr bm => ?_) ?_
         ·
          have iq := low0 hi.1 bm
          refine Xf rfl rfl rfl E ?_
          refine Xh (v := .int .i64 (mAt ms (x.th - 1).toNat).t.ve) X1 rfl ((X9 ek bm) 3 _ rfl) rfl ?_
          exact Xc ⟨rfl, bm⟩
         exact Y5
        ·
         intro ks dl
         have ir := low0 hi.1 dl
         refine Xf rfl rfl rfl E ?_
         refine Jd (q := decide ((mAt ms (x.th - 1).toNat).t.ve < x.ve)) rfl rfl rfl rfl ?_
         refine Xo (v := .bool (decide ((mAt ms (x.th - 1).toNat).t.ve < x.ve))) rfl E rfl rfl ?_
         exact Xc (Xu ⟨⟨h2, (congrArg Value.bool (by first | (simp only [ab, E, bu, b0, b1, b2, b3, b4, b5, b6, b7, b8, b9]; done) | simp [ab, E, bu]))⟩, dl⟩)
      ·
       rintro i2 kt ⟨⟨ey, ez⟩, av⟩
       have ef := low0 hi.1 av
       refine Wg ez (fun ba => ?_) (fun ba => ?_)
       ·
        refine Ki (Gb l) ?_
        have f8 := (hi.2.2.1.grown0 av)
        refine Yg (v := .bool false) (cs' := #[.bool false]) J4 ey rfl rfl f8 (Nat.le_of_ble_eq_true rfl) rfl ?_
        intro ku bc
        have eg := low1 ef bc.grw (by omega)
        refine Xc ?_
        refine Mf ?_
        refine Qi ?_
        exact Or.inr ⟨rfl, (grown_trans (S6 av) bc.grw), eg, bc.blk, Q2 ((Ny ab).symm.trans ba)⟩
       ·
        have fc := Kq ba
        have fd := Qx fc
        have ix := Qu.1 fd
        have fe := Kr ba
        have jb := of_decide_eq_false fe
        refine Gd ?_
        refine Y7 ?_
        exact Or.inl ⟨rfl, av, Qx ((Ny ab).symm.trans ba)⟩
    ·
     rintro e a2 w2 ⟨f2, kv, (⟨rfl, hg, hx⟩ | ⟨rfl, hg, it, hb, hx⟩)⟩
     ·
      exact ⟨KeepsFrom.of_grownBy hg (fun j e => by cases e), J7 hg hi.2.2.2.2, low0 hi.1 hg, hi.2.1.grown0 hg, hi.2.2.1.grown0 hg, by rw [List.all_append, hi.2.2.2.1]; simp [hx], Nat.le_trans hi.2.2.2.2 hg.size⟩
     ·
      exact ⟨KeepsFrom.of_grownBy hg (fun j e => by cases e; exact fg), rfl, it, hb, by rw [List.all_append]; simp [hx]⟩
   case done =>
    intro D xs W hD hS hi hK
    subst hS
    have hDB : D ≠ G := by omega
    have hDl : D < W.heap.size := (Array.getElem?_eq_some_iff.1 hK).1
    have hsb := setB_setRow hi.2.2.1 #[.bool true]
    refine wpIn_seq ?_
    refine Pq Vg (fun c h => by cases h) rfl (w' := W.setRow G #[.bool true]) ?_ rfl ?_
    ·
     have he : Act.eval { tmps := tm, defers := [{ target := .collected D, args := #[] }] } = ev fT := ha.eval
     rw [he]
     have hst := Gy (w := W) (v := .bool true) (o := 0) J4 rfl hi.2.2.1 (by simp)
     simp [execOp, show ev fT (.tmp 2) = _ from e2, show ev fT (.const (.bool true)) = .bool true from rfl, hst]
    ·
     refine wpIn_ret ?_
     have hK' : (W.setRow G #[.bool true]).heap[D]? = some (.deferred (some [])) := (hsb.grw.block D hDl (fun e => hDB (Option.some.inj e))).trans hK
     have hgp := grownBy_putObj' (W.setRow G #[.bool true]) D (.deferred none)
     have ea := hsb.blk.grown hgp (Jy (Ne.symm hDB))
     refine O7 (v := .bool true) (a := { tmps := tm, defers := [] }) ha hK' (J2 rfl (Ua J4 e2 (ea.cell rfl))) ⟨?_, ?_⟩
     ·
      rw [Sf ah hall (by omega), hi.2.2.2.1]
     ·
      exact low1 (low1 hi.1 hsb.grw (by omega)) hgp (Nat.le_trans ae.size hD)
   case stop =>
    intro D c pre W hD hSp hx hK
    obtain ⟨rfl, hg, hb, hf⟩ := hx
    have hDB : D ≠ G := by omega
    have hgp := grownBy_putObj' W D (.deferred none)
    have ea := hb.grown hgp (Jy (Ne.symm hDB))
    refine wpIn_ret ?_
    refine O7 (v := .bool false) (a := { tmps := tm, defers := [] }) ha hK (J2 rfl (Ua J4 e2 (ea.cell rfl))) ⟨?_, ?_⟩
    ·
     rw [Sf ah hall (by omega), Sm hSp hf]
    ·
     exact low1 hg hgp (Nat.le_trans ae.size hD)
end Go.Proofs.YtjpgffmkcmcolaaGreatDoor
end
section
namespace Go.Dw
def Cl.zero : Cl := ⟨0, 0, 0, 0, 0⟩
def callOk (c : Cl) : Bool := (((inR c.kind 1 9 && inR c.run 1 8) && inR c.a 0 3) && inR c.b 0 3) && inR c.n 0 99
theorem Yq {c : Cl} (h : callOk c = true) : (1 ≤ c.kind ∧ c.kind ≤ 9) ∧ (1 ≤ c.run ∧ c.run ≤ 8) ∧ (0 ≤ c.a ∧ c.a ≤ 3) ∧ (0 ≤ c.b ∧ c.b ≤ 3) ∧ 0 ≤ c.n ∧ c.n ≤ 99 := by
  unfold callOk at h
  simp only [Bool.and_eq_true] at h
  exact ⟨Qu.1 h.1.1.1.1, Qu.1 h.1.1.1.2, Qu.1 h.1.1.2, Qu.1 h.1.2, Qu.1 h.2⟩
def callPoss (ts : List Th) (c : Cl) : Bool := (tableOk ts && callOk c) && kindAt ts c.run 3
end Go.Dw
end
section
namespace Go.Proofs.YtjpgffmkcmcolaaGreatDoor
open Go.RowKit Go.Dw
set_option maxRecDepth 100000
set_option maxHeartbeats 4000000
set_option linter.unusedSimpArgs false
set_option linter.unusedVariables false
theorem Ja : fieldOff Tryz.prog 25 0 = some 0 := by kernel_rfl
theorem Qv : fieldOff Tryz.prog 25 1 = some 1 := by kernel_rfl
theorem Km : fieldOff Tryz.prog 25 2 = some 2 := by kernel_rfl
theorem K6 : fieldOff Tryz.prog 25 3 = some 3 := by kernel_rfl
theorem Jk : fieldOff Tryz.prog 25 4 = some 4 := by kernel_rfl
theorem Rq : goFn Tryz.prog 21 = true := by kernel_rfl
theorem Fq : goFn Tryz.prog 40 = true := by kernel_rfl
theorem Y1 : rowTy Tryz.prog 25 = some 5 := by kernel_rfl
theorem P6 (c : Cl) (w : World) : CallsR Tryz.prog 40 #[.agg #[vi c.kind, vi c.run, vi c.a, vi c.b, vi c.n]] w (fun v w' => v = vb (callOk c) ∧ w.grownBy w' none) := by
 refine Xx (n := 26) Tryz.func40 Z Tryz.ntmps40 Z ?_
 have al := World.grownBy.refl w none
 refine Xa (Qf (v := .agg #[vi c.kind, vi c.run, vi c.a, vi c.b, vi c.n]) (cs := #[vi c.kind, vi c.run, vi c.a, vi c.b, vi c.n]) Z Z Z ?_)
 intro au am ac
 have an := Yj ac al
 refine Xe (v := vb false) Z Z (Xc (X7 (fun f' w' => (f' 2 = vb ((((inR c.kind 1 9 && inR c.run 1 8) && inR c.a 0 3) && inR c.b 0 3) && inR c.n 0 99)) ∧ am.grownBy w' none) ?_ ?_))
 refine Xd (o' := 0) Ja Z Z Z (Xh (v := vi c.kind) X1 Z (ac.blk.cell Z) Z (Xl Ug (Xg Z (Xg Z (Xg Z Xk))) Z (J9 c.kind 1 9 _) ?_))
 rintro _ aw ⟨rfl, V⟩
 refine Xb (v := vb (inR c.kind 1 9)) Z Z ?_
 rcases Yf (inR c.kind 1 9) with E | E
 have ao := Qu.1 E
 refine Xf Z Z Z E (Xd (o' := 1) Qv Z Z Z (Xf Z Z Z E ?_))
 have af := (ac.blk.grown0 V)
 refine Xh (v := vi c.run) X1 Z (af.cell Z) Z (Xf Z Z Z E (Xl Ug (Xg Z (Xg Z (Xg Z Xk))) Z (J9 c.run 1 8 _) ?_))
 rintro _ az ⟨rfl, ab⟩
 refine Xs (v := vb (inR c.run 1 8)) Z E Z Z (Xb (v := vb (inR c.run 1 8)) Z Z ?_)
 rcases Yf (inR c.run 1 8) with G | G
 have ap := Qu.1 G
 refine Xf Z Z Z G (Xd (o' := 2) Km Z Z Z (Xf Z Z Z G ?_))
 have ag := (af.grown0 ab)
 refine Xh (v := vi c.a) X1 Z (ag.cell Z) Z (Xf Z Z Z G (Xl Ug (Xg Z (Xg Z (Xg Z Xk))) Z (J9 c.a 0 3 _) ?_))
 rintro _ a8 ⟨rfl, ad⟩
 refine Xs (v := vb (inR c.a 0 3)) Z G Z Z (Xb (v := vb (inR c.a 0 3)) Z Z ?_)
 rcases Yf (inR c.a 0 3) with J | J
 have aq := Qu.1 J
 refine Xf Z Z Z J (Xd (o' := 3) K6 Z Z Z (Xf Z Z Z J ?_))
 have ah := (ag.grown0 ad)
 refine Xh (v := vi c.b) X1 Z (ah.cell Z) Z (Xf Z Z Z J (Xl Ug (Xg Z (Xg Z (Xg Z Xk))) Z (J9 c.b 0 3 _) ?_))
 rintro _ a9 ⟨rfl, ae⟩
 refine Xs (v := vb (inR c.b 0 3)) Z J Z Z (Xb (v := vb (inR c.b 0 3)) Z Z ?_)
 rcases Yf (inR c.b 0 3) with O | O
 have ar := Qu.1 O
 refine Xf Z Z Z O (Xd (o' := 4) Jk Z Z Z (Xf Z Z Z O (Xh (v := vi c.n) X1 Z ((ah.grown0 ae).cell Z) Z (Xf Z Z Z O (Xl Ug (Xg Z (Xg Z (Xg Z Xk))) Z (J9 c.n 0 99 _) ?_)))))
 rintro _ ba ⟨rfl, ai⟩
 exact Xs (v := vb (inR c.n 0 99)) Z O Z Z (Xe (v := vb (inR c.n 0 99)) Z Z (Xc ⟨(cB (by simp [E, G, J, O])), (grown_trans (grown_trans (grown_trans (grown_trans V ab) ad) ae) ai)⟩))
 iterate 3 refine Xi rfl rfl rfl O rfl ?_
 exact Xo (v := vb false) Z O Z Z (Xe (v := vb false) Z Z (Xc ⟨(cB (by simp [E, G, J, O])), (grown_trans (grown_trans (grown_trans V ab) ad) ae)⟩))
 iterate 3 refine Xi rfl rfl rfl J rfl ?_
 refine Xo (v := vb false) Z J Z Z (Xb (v := vb false) Z Z ?_)
 iterate 3 refine Xi rfl rfl rfl rfl rfl ?_
 exact Xo (v := vb false) Z Z Z Z (Xe (v := vb false) Z Z (Xc ⟨(cB (by simp [E, G, J])), (grown_trans (grown_trans V ab) ad)⟩))
 iterate 3 refine Xi rfl rfl rfl G rfl ?_
 refine Xo (v := vb false) Z G Z Z (Xb (v := vb false) Z Z ?_)
 iterate 3 refine Xi rfl rfl rfl rfl rfl ?_
 refine Xo (v := vb false) Z Z Z Z (Xb (v := vb false) Z Z ?_)
 iterate 3 refine Xi rfl rfl rfl rfl rfl ?_
 exact Xo (v := vb false) Z Z Z Z (Xe (v := vb false) Z Z (Xc ⟨(cB (by simp [E, G])), (grown_trans V ab)⟩))
 iterate 3 refine Xi rfl rfl rfl E rfl ?_
 refine Xo (v := vb false) Z E Z Z (Xb (v := vb false) Z Z ?_)
 iterate 3 refine Xi rfl rfl rfl rfl rfl ?_
 refine Xo (v := vb false) Z Z Z Z (Xb (v := vb false) Z Z ?_)
 iterate 3 refine Xi rfl rfl rfl rfl rfl ?_
 refine Xo (v := vb false) Z Z Z Z (Xb (v := vb false) Z Z ?_)
 iterate 3 refine Xi rfl rfl rfl rfl rfl ?_
 exact Xo (v := vb false) Z Z Z Z (Xe (v := vb false) Z Z (Xc ⟨(cB (by simp [E])), V⟩))
 rintro av bb ⟨ak, aj⟩
 refine Xt (⟨vb ((((inR c.kind 1 9 && inR c.run 1 8) && inR c.a 0 3) && inR c.b 0 3) && inR c.n 0 99), Yp Z ak, ?_, (low0 (low0 al ac.grw) aj)⟩)
 rfl
theorem N3 (c : Cl) (w : World) : CallsR Tryz.prog 32 #[.agg #[vi c.kind, vi c.run, vi c.a, vi c.b, vi c.n]] w (fun v w' => v = vb (callOk c) ∧ w.grownBy w' none) := by
 refine Xx (n := 26) Tryz.func32 Z Tryz.ntmps32 Z ?_
 have al := World.grownBy.refl w none
 refine Xa (Qf (v := .agg #[vi c.kind, vi c.run, vi c.a, vi c.b, vi c.n]) (cs := #[vi c.kind, vi c.run, vi c.a, vi c.b, vi c.n]) Z Z Z ?_)
 intro au am ac
 have an := Yj ac al
 refine Xe (v := vb false) Z Z (Xc (X7 (fun f' w' => (f' 2 = vb ((((inR c.kind 1 9 && inR c.run 1 8) && inR c.a 0 3) && inR c.b 0 3) && inR c.n 0 99)) ∧ am.grownBy w' none) ?_ ?_))
 refine Xd (o' := 0) Ja Z Z Z (Xh (v := vi c.kind) X1 Z (ac.blk.cell Z) Z (Xl Vj (Xg Z (Xg Z (Xg Z Xk))) Z (Kx c.kind 1 9 _) ?_))
 rintro _ aw ⟨rfl, V⟩
 refine Xb (v := vb (inR c.kind 1 9)) Z Z ?_
 rcases Yf (inR c.kind 1 9) with E | E
 have ao := Qu.1 E
 refine Xf Z Z Z E (Xd (o' := 1) Qv Z Z Z (Xf Z Z Z E ?_))
 have af := (ac.blk.grown0 V)
 refine Xh (v := vi c.run) X1 Z (af.cell Z) Z (Xf Z Z Z E (Xl Vj (Xg Z (Xg Z (Xg Z Xk))) Z (Kx c.run 1 8 _) ?_))
 rintro _ az ⟨rfl, ab⟩
 refine Xs (v := vb (inR c.run 1 8)) Z E Z Z (Xb (v := vb (inR c.run 1 8)) Z Z ?_)
 rcases Yf (inR c.run 1 8) with G | G
 have ap := Qu.1 G
 refine Xf Z Z Z G (Xd (o' := 2) Km Z Z Z (Xf Z Z Z G ?_))
 have ag := (af.grown0 ab)
 refine Xh (v := vi c.a) X1 Z (ag.cell Z) Z (Xf Z Z Z G (Xl Vj (Xg Z (Xg Z (Xg Z Xk))) Z (Kx c.a 0 3 _) ?_))
 rintro _ a8 ⟨rfl, ad⟩
 refine Xs (v := vb (inR c.a 0 3)) Z G Z Z (Xb (v := vb (inR c.a 0 3)) Z Z ?_)
 rcases Yf (inR c.a 0 3) with J | J
 have aq := Qu.1 J
 refine Xf Z Z Z J (Xd (o' := 3) K6 Z Z Z (Xf Z Z Z J ?_))
 have ah := (ag.grown0 ad)
 refine Xh (v := vi c.b) X1 Z (ah.cell Z) Z (Xf Z Z Z J (Xl Vj (Xg Z (Xg Z (Xg Z Xk))) Z (Kx c.b 0 3 _) ?_))
 rintro _ a9 ⟨rfl, ae⟩
 refine Xs (v := vb (inR c.b 0 3)) Z J Z Z (Xb (v := vb (inR c.b 0 3)) Z Z ?_)
 rcases Yf (inR c.b 0 3) with O | O
 have ar := Qu.1 O
 refine Xf Z Z Z O (Xd (o' := 4) Jk Z Z Z (Xf Z Z Z O (Xh (v := vi c.n) X1 Z ((ah.grown0 ae).cell Z) Z (Xf Z Z Z O (Xl Vj (Xg Z (Xg Z (Xg Z Xk))) Z (Kx c.n 0 99 _) ?_)))))
 rintro _ ba ⟨rfl, ai⟩
 exact Xs (v := vb (inR c.n 0 99)) Z O Z Z (Xe (v := vb (inR c.n 0 99)) Z Z (Xc ⟨(cB (by simp [E, G, J, O])), (grown_trans (grown_trans (grown_trans (grown_trans V ab) ad) ae) ai)⟩))
 iterate 3 refine Xi rfl rfl rfl O rfl ?_
 exact Xo (v := vb false) Z O Z Z (Xe (v := vb false) Z Z (Xc ⟨(cB (by simp [E, G, J, O])), (grown_trans (grown_trans (grown_trans V ab) ad) ae)⟩))
 iterate 3 refine Xi rfl rfl rfl J rfl ?_
 refine Xo (v := vb false) Z J Z Z (Xb (v := vb false) Z Z ?_)
 iterate 3 refine Xi rfl rfl rfl rfl rfl ?_
 exact Xo (v := vb false) Z Z Z Z (Xe (v := vb false) Z Z (Xc ⟨(cB (by simp [E, G, J])), (grown_trans (grown_trans V ab) ad)⟩))
 iterate 3 refine Xi rfl rfl rfl G rfl ?_
 refine Xo (v := vb false) Z G Z Z (Xb (v := vb false) Z Z ?_)
 iterate 3 refine Xi rfl rfl rfl rfl rfl ?_
 refine Xo (v := vb false) Z Z Z Z (Xb (v := vb false) Z Z ?_)
 iterate 3 refine Xi rfl rfl rfl rfl rfl ?_
 exact Xo (v := vb false) Z Z Z Z (Xe (v := vb false) Z Z (Xc ⟨(cB (by simp [E, G])), (grown_trans V ab)⟩))
 iterate 3 refine Xi rfl rfl rfl E rfl ?_
 refine Xo (v := vb false) Z E Z Z (Xb (v := vb false) Z Z ?_)
 iterate 3 refine Xi rfl rfl rfl rfl rfl ?_
 refine Xo (v := vb false) Z Z Z Z (Xb (v := vb false) Z Z ?_)
 iterate 3 refine Xi rfl rfl rfl rfl rfl ?_
 refine Xo (v := vb false) Z Z Z Z (Xb (v := vb false) Z Z ?_)
 iterate 3 refine Xi rfl rfl rfl rfl rfl ?_
 exact Xo (v := vb false) Z Z Z Z (Xe (v := vb false) Z Z (Xc ⟨(cB (by simp [E])), V⟩))
 rintro av bb ⟨ak, aj⟩
 refine Xt (⟨vb ((((inR c.kind 1 9 && inR c.run 1 8) && inR c.a 0 3) && inR c.b 0 3) && inR c.n 0 99), Yp Z ak, ?_, (low0 (low0 al ac.grw) aj)⟩)
 rfl
theorem Lr (k : Int) (hk : -9223372036854775807 ≤ k) (w : World) (ms : List MTh) (a : Option Addr) (c : Nat) (ht : TabAt w a ms) (hlen : TabLen ms) (hn : ms.length ≤ 1048576) : CallsR Tryz.prog 33 #[.slice a ms.length c, vi k] w (fun v w' => v = vb (kindAt (tabT ms) k 3) ∧ w.grownBy w' none) := by
 refine Xx (n := 18) Tryz.func33 Z Tryz.ntmps33 Z ?_
 have ae := World.grownBy.refl w none
 refine Xa (Xe (v := vb false) Z Z (Xc (X7 (fun f' w' => (f' 4 = vb (inR k 1 (ms.length : Int) && (decide ((mj ms k).t.kind = 3)))) ∧ w.grownBy w' none) ?_ ?_)))
 refine Xb (v := vi k) Z Z (Xb (v := .slice a ms.length c) Z Z (Yu (by kernel_rfl) Z Z (Xl Vj (Xg Z (Xg Z (Xg Z Xk))) Z (Kx k 1 (ms.length : Int) _) ?_)))
 rintro _ al ⟨rfl, G⟩
 have O := low0 ae G
 refine Xb (v := vb (inR k 1 (ms.length : Int))) Z Z ?_
 rcases Yf (inR k 1 (ms.length : Int)) with E | E
 have ah := Qu.1 E
 refine Xf Z Z Z E (Xb (v := .slice a ms.length c) Z Z (Xf Z Z Z E (Xb (v := vi k) Z Z (Xf Z Z Z E (Ys (c := k - 1) Z Z (by omega) (by omega) (by omega) Z (Xf Z Z Z E ?_))))))
 obtain ⟨ai, ak, af, J, ab, ac⟩ := SlAt.at (TabAt.low ht O).1 (Yi (xg ms (k - 1).toNat))
 have ag := TabLen.at hlen (xg ms (k - 1).toNat)
 exact Xz Y2 Z Z J ab (by omega) (by omega) Z (Xf Z Z Z E (Xd (o' := af) Y9 Z Z Z (Xf Z Z Z E (Xh (v := vi (mj ms k).t.kind) X1 Z (ac 0 _ Z) Z (Xf Z Z Z E (X3 (q := decide ((mj ms k).t.kind = 3)) Z Z Z Z (Xs (v := vb (decide ((mj ms k).t.kind = 3))) Z E Z Z (Xe (v := vb (decide ((mj ms k).t.kind = 3))) Z Z (Xc ⟨(cB (by simp [E])), G⟩)))))))))
 iterate 7 refine Xi rfl rfl rfl E rfl ?_
 exact Xo (v := vb false) Z E Z Z (Xe (v := vb false) Z Z (Xc ⟨(cB (by simp [E])), G⟩))
 rintro aj am ⟨ad, V⟩
 refine Xt (⟨vb (inR k 1 (ms.length : Int) && (decide ((mj ms k).t.kind = 3))), Yp Z ad, ?_, (low0 ae V)⟩)
 exact cB G5
theorem Lc (q : Cl) (w : World) (ms : List MTh) (a : Option Addr) (c : Nat) (ht : TabAt w a ms) (hlen : TabLen ms) (hn : ms.length ≤ 1048576) : CallsR Tryz.prog 36 #[.slice a ms.length c, .agg #[vi q.kind, vi q.run, vi q.a, vi q.b, vi q.n]] w (fun v w' => v = vb (callPoss (tabT ms) q) ∧ w.grownBy w' none) := by
 refine Xx (n := 17) Tryz.func36 Z Tryz.ntmps36 Z ?_
 have ag := World.grownBy.refl w none
 refine Xa (Qf (v := .agg #[vi q.kind, vi q.run, vi q.a, vi q.b, vi q.n]) (cs := #[vi q.kind, vi q.run, vi q.a, vi q.b, vi q.n]) Z Z Z ?_)
 intro ak ah V
 have aj := Yj V ag
 have ab := low0 ag V.grw
 refine Xe (v := vb false) Z Z (Xc (X7 (fun f' w' => (f' 4 = vb ((tableOk (tabT ms) && callOk q) && kindAt (tabT ms) q.run 3)) ∧ ah.grownBy w' none) ?_ ?_))
 refine Xb (v := .slice a ms.length c) Z Z (Xl Rq (Xg Z Xk) Z (U6  _ ms _ _ (TabAt.low ht ab) hlen (by omega)) ?_)
 rintro _ am ⟨rfl, J⟩
 refine Xb (v := vb (tableOk (tabT ms))) Z Z ?_
 rcases Yf (tableOk (tabT ms)) with G | G
 refine Xf Z Z Z G ?_
 have ac := (V.blk.grown0 J)
 refine Xp (vs := [vi q.kind, vi q.run, vi q.a, vi q.b, vi q.n]) Y1 Z Z (ac.rangeL 0 5 Z) Z (Xf Z Z Z G (Xl Fq (Xg Z Xk) Z (P6 q _) ?_))
 rintro _ an ⟨rfl, O⟩
 refine Xs (v := vb (callOk q)) Z G Z Z (Xb (v := vb (callOk q)) Z Z ?_)
 rcases Yf (callOk q) with E | E
 have ai := Yq E
 refine Xf Z Z Z E (Xb (v := .slice a ms.length c) Z Z (Xf Z Z Z E (Xd (o' := 1) Qv Z Z Z (Xf Z Z Z E (Xh (v := vi q.run) X1 Z ((ac.grown0 O).cell Z) Z (Xf Z Z Z E (Xl Cn (Xg Z (Xg Z (Xg Z Xk))) Z (Lp q.run 3 (by omega) _ ms _ _ (TabAt.low ht (low0 (low0 ab J) O)) hlen (by omega)) ?_)))))))
 rintro _ ao ⟨rfl, ad⟩
 exact Xs (v := vb (kindAt (tabT ms) q.run 3)) Z E Z Z (Xe (v := vb (kindAt (tabT ms) q.run 3)) Z Z (Xc ⟨(cB (by simp [G, E])), (grown_trans (grown_trans J O) ad)⟩))
 iterate 4 refine Xi rfl rfl rfl E rfl ?_
 exact Xo (v := vb false) Z E Z Z (Xe (v := vb false) Z Z (Xc ⟨(cB (by simp [G, E])), (grown_trans J O)⟩))
 refine Xi Z Z Z G Z (Xi Z Z Z G Z (Xo (v := vb false) Z G Z Z (Xb (v := vb false) Z Z ?_)))
 iterate 4 refine Xi rfl rfl rfl rfl rfl ?_
 exact Xo (v := vb false) Z Z Z Z (Xe (v := vb false) Z Z (Xc ⟨(cB (by simp [G])), J⟩))
 rintro al ap ⟨af, ae⟩
 refine Xt (⟨vb ((tableOk (tabT ms) && callOk q) && kindAt (tabT ms) q.run 3), Yp Z af, ?_, (low0 ab ae)⟩)
 rfl
end Go.Proofs.YtjpgffmkcmcolaaGreatDoor
end
section
namespace Go.Dw
def RB (r : Rt) : Prop := -1 ≤ r.th ∧ r.th ≤ 9 ∧ -1 ≤ r.ve ∧ r.ve ≤ 9
structure RowD (TR TI lo : Nat) (w : World) (m : MTh) : Prop where
  q : OwnN lo w m.qa TI 1 m.qc m.t.queue.length (m.t.queue.flatMap icell)
  s : ∃ xs : List Rt, OwnN lo w m.sa TR 5 m.sc m.t.slots.length (xs.flatMap Rt.cells) ∧ xs.length = m.t.slots.length ∧ ∀ x ∈ xs, RB x
  ql : m.t.queue.length ≤ 3
  sl : m.t.slots.length ≤ 4
  ve : 0 ≤ m.t.ve ∧ m.t.ve ≤ 1
def RowsD (TR TI lo : Nat) (w : World) (ms : List MTh) : Prop := ∀ m ∈ ms, RowD TR TI lo w m
theorem Vt {w : World} {B C : Nat} {T U : TypeId} {sz sz' cap cap' n n' : Nat} {vs us : List Value} (h : Own w B T sz cap n vs) (k : Own w C U sz' cap' n' us) (hT : T ≠ U) : B ≠ C := fun e => by
  subst e
  obtain ⟨_, c1, h1, _⟩ := h.blk
  obtain ⟨_, c2, h2, _⟩ := k.blk
  have : some (Obj.cells c1 T (0, 0)) = some (Obj.cells c2 U (0, 0)) := h1.symm.trans h2
  simp only [Option.some.injEq, Obj.cells.injEq] at this
  exact hT this.2.1
theorem OwnN.typ {lo : Nat} {w w' : World} {a : Option Addr} {T U : TypeId} {sz sz' cap cap' n n' B : Nat} {vs us : List Value} (h : OwnN lo w a T sz cap n vs) (hg : w.grownBy w' (some B)) (k : Own w B U sz' cap' n' us) (hT : T ≠ U) : OwnN lo w' a T sz cap n vs := by
  rcases h.form with ⟨rfl, rfl, rfl, rfl⟩ | ⟨C, rfl, h2, _, h3⟩
  · exact OwnN.nil
  · exact OwnN.of (h3.grown hg (Jy (Vt h3 k hT))) h2
section
variable {TR TI lo : Nat} {w w' : World} {m : MTh} {ms : List MTh}
theorem RowD.low (h : RowD TR TI lo w m) (hg : w.grownBy w' none) : RowD TR TI lo w' m :=
  ⟨h.q.grown0 hg, let ⟨xs, h1, h2⟩ := h.s; ⟨xs, h1.grown0 hg, h2⟩, h.ql, h.sl, h.ve⟩
theorem RowD.lt {R : Nat} (h : RowD TR TI lo w m) (hg : w.grownBy w' (some R)) (hR : R < lo) : RowD TR TI lo w' m :=
  ⟨h.q.grown_lt hg hR, let ⟨xs, h1, h2⟩ := h.s; ⟨xs, h1.grown_lt hg hR, h2⟩, h.ql, h.sl, h.ve⟩
theorem RowD.typ {B U sz cap n : Nat} {us : List Value} (h : RowD TR TI lo w m) (hg : w.grownBy w' (some B)) (k : Own w B U sz cap n us) (h1 : TR ≠ U) (h2 : TI ≠ U) : RowD TR TI lo w' m :=
  ⟨h.q.typ hg k h2, let ⟨xs, h3, h4⟩ := h.s; ⟨xs, h3.typ hg k h1, h4⟩, h.ql, h.sl, h.ve⟩
theorem RowD.mono {lo' : Nat} (h : RowD TR TI lo w m) (hl : lo' ≤ lo) : RowD TR TI lo' w m :=
  ⟨h.q.mono hl, let ⟨xs, h1, h2⟩ := h.s; ⟨xs, h1.mono hl, h2⟩, h.ql, h.sl, h.ve⟩
theorem RowsD.low (h : RowsD TR TI lo w ms) (hg : w.grownBy w' none) : RowsD TR TI lo w' ms := fun m hm => (h m hm).low hg
theorem RowsD.lt {R : Nat} (h : RowsD TR TI lo w ms) (hg : w.grownBy w' (some R)) (hR : R < lo) : RowsD TR TI lo w' ms := fun m hm => (h m hm).lt hg hR
theorem RowsD.typ {B U sz cap n : Nat} {us : List Value} (h : RowsD TR TI lo w ms) (hg : w.grownBy w' (some B)) (k : Own w B U sz cap n us) (h1 : TR ≠ U) (h2 : TI ≠ U) : RowsD TR TI lo w' ms := fun m hm => (h m hm).typ hg k h1 h2
theorem RowsD.ge {b hi : Nat} (h : RowsD TR TI lo w ms) (hg : w.grownBy w' (some b)) (hH : ∀ m ∈ ms, ∀ c, (m.sa = some ⟨c, 0, none⟩ ∨ m.qa = some ⟨c, 0, none⟩) → c < hi) (hb : hi ≤ b) : RowsD TR TI lo w' ms := fun m hm =>
  ⟨(h m hm).q.grown hg (fun B e => Jy (by have := hH m hm B (Or.inr e); omega)), let ⟨xs, h1, h2⟩ := (h m hm).s; ⟨xs, h1.grown hg (fun B e => Jy (by have := hH m hm B (Or.inl e); omega)), h2⟩, (h m hm).ql, (h m hm).sl, (h m hm).ve⟩
theorem RowsD.hi (h : RowsD TR TI lo w ms) : ∀ m ∈ ms, ∀ c, (m.sa = some ⟨c, 0, none⟩ ∨ m.qa = some ⟨c, 0, none⟩) → c < w.heap.size := fun m hm c hc => by
  rcases hc with e | e
  · obtain ⟨xs, h1, _⟩ := (h m hm).s
    rcases h1.form with ⟨e2, _⟩ | ⟨B, e2, _, h3, _⟩
    · rw [e2] at e; cases e
    · rw [e2] at e
      simp only [Option.some.injEq, Addr.mk.injEq, and_true] at e
      omega
  · rcases (h m hm).q.form with ⟨e2, _⟩ | ⟨B, e2, _, h3, _⟩
    · rw [e2] at e; cases e
    · rw [e2] at e
      simp only [Option.some.injEq, Addr.mk.injEq, and_true] at e
      omega
theorem RowsD.snoc (h : RowsD TR TI lo w ms) (hm : RowD TR TI lo w m) : RowsD TR TI lo w (ms ++ [m]) := fun x hx => by
  rcases List.mem_append.1 hx with h1 | h1
  · exact h x h1
  · simp at h1; subst h1; exact hm
theorem RowsD.nil : RowsD TR TI lo w [] := fun x hx => by simp at hx
theorem RowsD.at (h : RowsD TR TI lo w ms) {i : Nat} (hi : i < ms.length) : RowD TR TI lo w (mAt ms i) := h _ (List.mem_of_getElem? (J5 hi))
theorem RowsD.setk (h : RowsD TR TI lo w ms) {i : Nat} (hi : i < ms.length) {m' : MTh} (hq : m'.qa = (mAt ms i).qa ∧ m'.qc = (mAt ms i).qc ∧ m'.t.queue = (mAt ms i).t.queue) (hs : m'.sa = (mAt ms i).sa ∧ m'.sc = (mAt ms i).sc ∧ m'.t.slots = (mAt ms i).t.slots) (hv : m'.t.ve = (mAt ms i).t.ve) : RowsD TR TI lo w (ms.set i m') := fun x hx => by
  rcases List.mem_or_eq_of_mem_set hx with h1 | rfl
  · exact h x h1
  · have h0 := h.at hi
    obtain ⟨h1, h2, h3⟩ := hq
    obtain ⟨h4, h5, h6⟩ := hs
    refine ⟨?_, ?_, ?_, ?_, ?_⟩
    · rw [h1, h2, h3]; exact h0.q
    · rw [h4, h5, h6]; exact h0.s
    · rw [h3]; exact h0.ql
    · rw [h6]; exact h0.sl
    · rw [hv]; exact h0.ve
theorem RowD.slot (h : RowD TR TI lo w m) (hs : 0 < m.t.slots.length) : ∃ (S : Nat) (xs : List Rt), m.sa = some ⟨S, 0, none⟩ ∧ lo ≤ S ∧ Own w S TR 5 m.sc xs.length (xs.flatMap Rt.cells) ∧ xs.length = m.t.slots.length := by
  obtain ⟨xs, h1, h2, h3⟩ := h.s
  obtain ⟨S, ha, hl, ho⟩ := h1.some_ hs
  exact ⟨S, xs, ha, hl, by rw [h2]; exact ho, h2⟩
def PutR (T : TypeId) (S k : Nat) (x : Rt) (w w' : World) : Prop := ∀ cap n (ys : List Rt), Own w S T 5 cap n (ys.flatMap Rt.cells) → Own w' S T 5 cap n ((ys.set k x).flatMap Rt.cells)
theorem RowD.put {S k : Nat} {x : Rt} (h : RowD TR TI lo w m) (hp : PutR TR S k x w w') (hg : w.grownBy w' (some S)) (hx : RB x) {cap n : Nat} {us : List Value} (ho : Own w S TR 5 cap n us) (hT : TI ≠ TR) : RowD TR TI lo w' m := by
  refine ⟨h.q.typ hg ho hT, ?_, h.ql, h.sl, h.ve⟩
  obtain ⟨xs, h1, h2, h3⟩ := h.s
  rcases h1.form with ⟨e1, e2, e3, e4⟩ | ⟨C, e1, e2, e3, e4⟩
  · refine ⟨xs, ?_, h2, h3⟩
    rw [e1, e2, e3, e4]
    exact OwnN.nil
  · by_cases hC : C = S
    · subst hC
      refine ⟨xs.set k x, ?_, by rw [List.length_set, h2], fun y hy => ?_⟩
      · rw [e1]; exact OwnN.of (hp _ _ _ e4) e2
      · rcases List.mem_or_eq_of_mem_set hy with h4 | rfl
        · exact h3 y h4
        · exact hx
    · refine ⟨xs, ?_, h2, h3⟩
      rw [e1]
      exact OwnN.of (e4.grown hg (Jy hC)) e2
theorem RowsD.put {S k : Nat} {x : Rt} (h : RowsD TR TI lo w ms) (hp : PutR TR S k x w w') (hg : w.grownBy w' (some S)) (hx : RB x) {cap n : Nat} {us : List Value} (ho : Own w S TR 5 cap n us) (hT : TI ≠ TR) : RowsD TR TI lo w' ms :=
  fun m hm => (h m hm).put hp hg hx ho hT
end
theorem Ez {cur : List Value} {o m : Nat} {us : List Value} (ho : m ≤ o) (hc : o + us.length ≤ cur.length) : (cur.take o ++ us ++ cur.drop (o + us.length)).take m = cur.take m := by
  rw [List.append_assoc, List.take_append, List.take_take, Nat.min_eq_left ho, List.length_take, Nat.min_eq_left (by omega), show m - o = 0 by omega, List.take_zero, List.append_nil]
section
variable {P : Program} {n : Nat} {ops : Array Oper} {K : Fr → World → Prop} {l : List Oper} {f : Fr} {w : World} {ty : TypeId} {pos : String} {aft : Array Edge} {d : Nat}
theorem L8 {t b o cap k : Nat} {T : TypeId} {x y : Operand} {ys : List Rt} {z' : Rt} (ht : rowTy P t = some 5) (hx : ev f x = .pointer (some ⟨b, o, none⟩)) (hy : ev f y = .agg z'.cells.toArray)
    (ho : Own w b T 5 cap ys.length (ys.flatMap Rt.cells)) (hk : k < ys.length) (e : o = k * 5)
    (h : ∀ w', PutR T b k z' w w' → w.grownBy w' (some b) → WpO P n ops K l f w') : WpO P n ops K (⟨none, .store t x y, ty, pos, aft, none⟩ :: l) f w := by
  obtain ⟨hl, cur, hb, h2, h3, h4, h5⟩ := ho.blk
  have hlt : k * 5 + 5 ≤ ys.length * 5 := by omega
  have hin : k * 5 + 5 ≤ cur.size := by rw [h4]; omega
  have hsz : cur.toList.length = cap * 5 := by rw [Array.length_toList]; exact h4
  have hz : (Rt.cells z').length = 5 := rfl
  subst e
  refine Gg (w' := w.setRow b (cur.toList.take (k * 5) ++ Rt.cells z' ++ cur.toList.drop (k * 5 + 5)).toArray) rfl rfl (by simp only [execOp, hx, hy, Sem.run_bind, Gz ht (Q7 z') (Vy z') hb hin, Result.andThen_ok]; rfl) (h _ ?_ (setB_setRow hb _).grw)
  intro cap' n' ys' ho'
  obtain ⟨hl', cur', hb', h2', h3', h4', h5'⟩ := ho'.blk
  have ec : cur' = cur := by
    have : some (Obj.cells cur' T (0, 0)) = some (Obj.cells cur T (0, 0)) := hb'.symm.trans hb
    simpa using this
  subst ec
  have hn' : ys'.length = n' := by
    rw [Kh Q7] at hl'
    omega
  refine Own.ofBlk ?_ (setB_setRow hb _).blk h2' h3' ?_ ?_
  · rw [Kh Q7, List.length_set, hn']
  · rw [List.size_toArray, List.length_append, List.length_append, List.length_take, List.length_drop, hz, hsz, Nat.min_eq_left (by omega)]
    omega
  · have ecap : cap' * 5 = cap * 5 := h4'.symm.trans h4
    by_cases hkn : k < n'
    · have hset := congrArg Array.toList (N1 Q7 (ys := ys') (k := k) (by omega) z')
      have hq := Sg (cur := cur'.toList) (us := Rt.cells z') (o := k * 5) h5' (by omega) (by rw [hz]; omega)
      rw [hz] at hq
      rw [hq]
      simpa using hset
    · have hq := Ez (cur := cur'.toList) (us := Rt.cells z') (o := k * 5) (m := n' * 5) (by omega) (by rw [hz]; omega)
      rw [hz] at hq
      rw [List.toList_toArray, hq, h5', List.set_eq_of_length_le (by omega)]
end
def SlG (lo : Nat) (w : World) (a : Option Addr) (sz : Nat) (xs : List (List Value)) : Prop := ∀ k x, xs[k]? = some x → ∃ b o, a = some ⟨b, o, none⟩ ∧ lo ≤ b ∧ w.rangeAt b (o + k * sz) x
section
variable {lo : Nat} {w w' : World} {a : Option Addr} {sz : Nat} {xs : List (List Value)}
theorem SlG.sl (h : SlG lo w a sz xs) : SlAt w a sz xs := fun k x hk => by
  obtain ⟨b, o, ha, _, hr⟩ := h k x hk
  exact ⟨b, o, ha, hr⟩
theorem SlG.low (h : SlG lo w a sz xs) (hg : w.grownBy w' none) : SlG lo w' a sz xs := fun k x hk => by
  obtain ⟨b, o, ha, hb, hr⟩ := h k x hk
  exact ⟨b, o, ha, hb, Kg hr hg (by simp)⟩
theorem SlG.lt {R : Nat} (h : SlG lo w a sz xs) (hg : w.grownBy w' (some R)) (hR : R < lo) : SlG lo w' a sz xs := fun k x hk => by
  obtain ⟨b, o, ha, hb, hr⟩ := h k x hk
  exact ⟨b, o, ha, hb, Kg hr hg (Jy (by omega))⟩
theorem SlG.mono {lo' : Nat} (h : SlG lo w a sz xs) (hl : lo' ≤ lo) : SlG lo' w a sz xs := fun k x hk => by
  obtain ⟨b, o, ha, hb, hr⟩ := h k x hk
  exact ⟨b, o, ha, Nat.le_trans hl hb, hr⟩
theorem SlG.own {α : Type} {g : α → List Value} (hg : Wide g sz) {ys : List α} {B cap n : Nat} {T : TypeId} (h : Own w B T sz cap n (ys.flatMap g)) (hB : lo ≤ B) : SlG lo w (some ⟨B, 0, none⟩) sz (ys.map g) := fun k x hk => by
  obtain ⟨b, o, ha, hr⟩ := Own.sl hg h k x hk
  simp only [Option.some.injEq, Addr.mk.injEq] at ha
  obtain ⟨rfl, rfl, _⟩ := ha
  exact ⟨_, _, rfl, hB, hr⟩
theorem SlG.ownN {α : Type} {g : α → List Value} (hg : Wide g sz) (h0 : 0 < sz) {ys : List α} {cap n : Nat} {T : TypeId} (h : OwnN lo w a T sz cap n (ys.flatMap g)) : SlG lo w a sz (ys.map g) := fun k x hk => by
  obtain ⟨b, o, ha, hr⟩ := OwnN.sl hg h0 h k x hk
  refine ⟨b, o, ha, ?_, hr⟩
  rcases h.form with ⟨h2, _⟩ | ⟨B, h2, h3, _⟩
  · rw [h2] at ha; cases ha
  · rw [h2] at ha
    simp only [Option.some.injEq, Addr.mk.injEq] at ha
    omega
end
def ThG (lo : Nat) (w : World) (m : MTh) : Prop := SlG lo w m.sa 5 (m.t.slots.map Rt.cells) ∧ SlG lo w m.qa 1 (m.t.queue.map icell) ∧ (m.sa = none → m.sc = 0) ∧ (m.qa = none → m.qc = 0)
def TabG (lo : Nat) (w : World) (a : Option Addr) (ms : List MTh) : Prop := SlG lo w a 8 (ms.map MTh.cells) ∧ ∀ m ∈ ms, ThG lo w m
section
variable {lo : Nat} {w w' : World} {a : Option Addr} {m : MTh} {ms : List MTh}
theorem TabG.at (h : TabG lo w a ms) : TabAt w a ms := ⟨h.1.sl, fun m hm => ⟨(h.2 m hm).1.sl, (h.2 m hm).2.1.sl, (h.2 m hm).2.2⟩⟩
theorem TabG.low (h : TabG lo w a ms) (hg : w.grownBy w' none) : TabG lo w' a ms := ⟨h.1.low hg, fun m hm => ⟨(h.2 m hm).1.low hg, (h.2 m hm).2.1.low hg, (h.2 m hm).2.2⟩⟩
theorem TabG.lt {R : Nat} (h : TabG lo w a ms) (hg : w.grownBy w' (some R)) (hR : R < lo) : TabG lo w' a ms := ⟨h.1.lt hg hR, fun m hm => ⟨(h.2 m hm).1.lt hg hR, (h.2 m hm).2.1.lt hg hR, (h.2 m hm).2.2⟩⟩
theorem TabG.mono {lo' : Nat} (h : TabG lo w a ms) (hl : lo' ≤ lo) : TabG lo' w a ms := ⟨h.1.mono hl, fun m hm => ⟨(h.2 m hm).1.mono hl, (h.2 m hm).2.1.mono hl, (h.2 m hm).2.2⟩⟩
end
def TabHi (hi : Nat) (a : Option Addr) (ms : List MTh) : Prop := (∀ b o, a = some ⟨b, o, none⟩ → 0 < ms.length → b < hi) ∧ ∀ m ∈ ms, (∀ b o, m.sa = some ⟨b, o, none⟩ → 0 < m.t.slots.length → b < hi) ∧ ∀ b o, m.qa = some ⟨b, o, none⟩ → 0 < m.t.queue.length → b < hi
theorem Df {α : Type} {g : α → List Value} {sz lo : Nat} (hg : Wide g sz) (h0 : 0 < sz) {w : World} {a : Option Addr} {ys : List α} (h : SlG lo w a sz (ys.map g)) : ∀ b o, a = some ⟨b, o, none⟩ → 0 < ys.length → b < w.heap.size := fun b o ha hn => by
  obtain ⟨y, hy⟩ := Jn hn
  obtain ⟨b', o', ha', _, hr⟩ := h 0 (g y) (Yi hy)
  rw [ha] at ha'
  simp only [Option.some.injEq, Addr.mk.injEq] at ha'
  obtain ⟨rfl, rfl, _⟩ := ha'
  obtain ⟨v, hv⟩ : ∃ v, (g y)[0]? = some v := ⟨_, List.getElem?_eq_getElem (by rw [hg y]; exact h0)⟩
  exact World.block_lt_of_cell? w _ (hr 0 v hv)
theorem TabG.hi {lo : Nat} {w : World} {a : Option Addr} {ms : List MTh} (h : TabG lo w a ms) : TabHi w.heap.size a ms :=
  ⟨Df Yo (by omega) h.1, fun m hm => ⟨Df Q7 (by omega) (h.2 m hm).1, Df Yv (by omega) (h.2 m hm).2.1⟩⟩
theorem SlG.ge {α : Type} {g : α → List Value} {sz lo hi b : Nat} {w w' : World} {a : Option Addr} {ys : List α} (h : SlG lo w a sz (ys.map g)) (hg : w.grownBy w' (some b)) (hH : ∀ c o, a = some ⟨c, o, none⟩ → 0 < ys.length → c < hi) (hb : hi ≤ b) : SlG lo w' a sz (ys.map g) := fun k x hk => by
  obtain ⟨c, o, ha, hc, hr⟩ := h k x hk
  have hn : 0 < ys.length := by
    have := (List.getElem?_eq_some_iff.1 hk).1
    rw [List.length_map] at this
    omega
  have := hH c o ha hn
  exact ⟨c, o, ha, hc, Kg hr hg (Jy (by omega))⟩
theorem TabG.ge {lo hi b : Nat} {w w' : World} {a : Option Addr} {ms : List MTh} (h : TabG lo w a ms) (hg : w.grownBy w' (some b)) (hH : TabHi hi a ms) (hb : hi ≤ b) : TabG lo w' a ms :=
  ⟨h.1.ge hg hH.1 hb, fun m hm => ⟨(h.2 m hm).1.ge hg (hH.2 m hm).1 hb, (h.2 m hm).2.1.ge hg (hH.2 m hm).2 hb, (h.2 m hm).2.2⟩⟩
def Small (ms : List MTh) : Prop := ∀ m ∈ ms, m.t.slots.length ≤ 4 ∧ m.t.queue.length ≤ 3
theorem Small.len {ms : List MTh} (h : Small ms) : TabLen ms := fun m hm => ⟨by have := h m hm; omega, by have := h m hm; omega⟩
theorem RowsD.tab {TR TI lo : Nat} {w : World} : ∀ (ms : List MTh), RowsD TR TI lo w ms → ∃ ms' : List MTh, ms'.map MTh.cells = ms.map MTh.cells ∧ (∀ m ∈ ms', ThG lo w m) ∧ Small ms'
  | [], _ => ⟨[], rfl, fun m hm => by simp at hm, fun m hm => by simp at hm⟩
  | m :: ms, h => by
    obtain ⟨ms', h1, h2, h5⟩ := RowsD.tab ms fun x hx => h x (List.mem_cons_of_mem _ hx)
    have hm := h m (List.mem_cons_self ..)
    obtain ⟨xs, h3, h4, _⟩ := hm.s
    refine ⟨⟨{ m.t with slots := xs }, m.sa, m.sc, m.qa, m.qc⟩ :: ms', ?_, ?_, ?_⟩
    · rw [List.map_cons, List.map_cons, h1]
      simp only [MTh.cells, h4]
    · intro x hx
      rcases List.mem_cons.1 hx with rfl | hx
      · exact ⟨SlG.ownN Q7 (by omega) h3, SlG.ownN Yv (by omega) hm.q, fun e => h3.cap0 e, fun e => hm.q.cap0 e⟩
      · exact h2 x hx
    · intro x hx
      rcases List.mem_cons.1 hx with rfl | hx
      · refine ⟨?_, hm.ql⟩
        show xs.length ≤ 4
        rw [h4]; exact hm.sl
      · exact h5 x hx
theorem Se {ms ms' : List MTh} (h : ms'.map MTh.cells = ms.map MTh.cells) : ms'.flatMap MTh.cells = ms.flatMap MTh.cells := by
  rw [List.flatMap_def, List.flatMap_def, h]
end Go.Dw
end
section
namespace Go.Dw
theorem rbo {r : Rt} (a b : Int) (e1 : r.th = a) (e2 : r.ve = b) (h1 : (-1 : Int) ≤ a := by omega) (h2 : a ≤ (9 : Int) := by omega) (h3 : (-1 : Int) ≤ b := by omega) (h4 : b ≤ (9 : Int) := by omega) : RB r := by subst e1; subst e2; exact ⟨h1, h2, h3, h4⟩
end Go.Dw
end
section
namespace Go.Proofs.YtjpgffmkcmcolaaGreatDoor
open Go.RowKit Go.Dw
set_option maxRecDepth 100000
set_option maxHeartbeats 4000000
set_option linter.unusedSimpArgs false
set_option linter.unusedVariables false
theorem I8 : goFn Tryz.prog 104 = true := by kernel_rfl
theorem Cj : goFn Tryz.prog 31 = true := by kernel_rfl
theorem Fv : goFn Tryz.prog 52 = true := by kernel_rfl
theorem Zr : goFn Tryz.prog 79 = true := by kernel_rfl
theorem Zs : goFn Tryz.prog 80 = true := by kernel_rfl
theorem Gq : goFn Tryz.prog 86 = true := by kernel_rfl
theorem T5 : mkTy Tryz.prog 23 = some (38, 8, 96, some (.agg #[.int .i64 0, .int .i64 0, .int .i64 0, .int .i64 0, .int .i64 0, .slice none 0 0, .slice none 0 0, .int .i64 0])) := by kernel_rfl
theorem V8 : mkTy Tryz.prog 36 = some (3, 1, 8, some (.int .i64 0)) := by kernel_rfl
theorem Tb (k to : Int) (p : Int) (hp : 0 ≤ p ∧ p ≤ 1000000000000) (lo R : Nat) (bs : List Int) (a : Option Addr) (c : Nat) (w : World) (hR : Blk w R 79 #[.slice a bs.length c, vi p]) (hlo : lo ≤ R) (hs : SlLt lo w a 1 (bs.map bcell)) (hb : ∀ b ∈ bs, 0 ≤ b ∧ b ≤ 255) (hn : bs.length ≤ 1048576) : CallsR Tryz.prog 79 #[pt R 0, vi k, vi to] w (fun v w' => ∃ (m : MTh) (p' : Int), v = .agg #[vi m.t.kind, vi m.t.lab.s, vi m.t.lab.v, vi m.t.ve, vi m.t.num, .slice m.sa m.t.slots.length m.sc, .slice m.qa m.t.queue.length m.qc, vi m.t.to] ∧ RowD 42 3 w.heap.size w' m ∧ p ≤ p' ∧ p' ≤ p + 12 ∧ Blk w' R 79 #[.slice a bs.length c, vi p'] ∧ w.grownBy w' (some R)) := by
 refine Xx (n := 59) Tryz.func79 Z Tryz.ntmps79 Z ?_
 have q5 := World.grownBy.refl w (some R)
 have hRlt := hR.lt
 refine Xa (Ye (cs := #[vi 0, vi 0, vi 0, vi 0, vi 0, .slice none 0 0, .slice none 0 0, vi 0]) Kw Z Z ?_)
 intro bd ug bp
 have rp := Yj bp q5
 have oh := Xr bp (hR).lt
 have ig := low0 q5 bp.grw
 refine Xc (Xa (Xb (v := vi k) Z Z (Xb (v := pt R 0) Z Z (Xl I8 (Xg Z Xk) Z (S9 p (by omega) _ R bs _ _ _ (hR.grown0 bp.grw) (by omega) (SlLt.low1 hs ig hlo) (by first | exact hb | exact fun b h => hb b (List.mem_of_mem_take h)) (by first | omega | (rw [List.length_take]; omega))) ?_))))
 rintro _ uh ⟨E, ah, rfl, s6, s7, s8, s9, s4, s5, ca, em⟩
 have bq := grown_trans ig em
 refine Xb (v := vi to) Z Z ?_
 rcases Yf ((decide (k = 2)) || (decide (k = 3))) with bn | bn
 rcases Yf (newOk k E to) with gj | gj
 have i4 := (bp.blk.gn em)
 have tj : thingOk (⟨k, E, 0, 0, zeros4, [], to⟩ : Th) = true := (Wt bn).symm.trans gj
 refine Xl Gq (Xg Z (Xg Z (Xg Z Xk))) Z (Ha k to E bn gj _) ?_
 rintro _ uj ⟨ab, G, ai, O, rfl, gb, df, gc, dg, kv, gw⟩
 have ii := low0 bq gw
 have d3 := nt bq.size gb
 have ol := nl (ca).lt gb
 have jk := nl (i4).lt gb
 have d4 := nt bq.size gc
 have om := nl (ca).lt gc
 have jl := nl (i4).lt gc
 refine Xb (v := .tuple #[.agg #[vi k, vi E.s, vi E.v, vi 0, vi 0, .slice (pa ab) 4 G, .slice (pa ai) 0 O, vi to], vb true]) Z Z (X4 (v := .agg #[vi k, vi E.s, vi E.v, vi 0, vi 0, .slice (pa ab) 4 G, .slice (pa ai) 0 O, vi to]) Z Z Z (X4 (v := vb true) Z Z Z (Ye (cs := #[vi 0, vi 0, vi 0, vi 0, vi 0, .slice none 0 0, .slice none 0 0, vi 0]) Kw Z Z ?_)))
 intro d5 uk ac
 have rq := Yj ac ii
 have ft := (ca.grown0 gw)
 have oo := Xr ac (ft).lt
 have fu := (i4.grown0 gw)
 have jm := Xr ac (fu).lt
 have j8 := Xr ac (dg).lt
 have j4 := Xr ac (df).lt
 refine X0 (vs := [vi k, vi E.s, vi E.v, vi 0, vi 0, .slice (pa ab) 4 G, .slice (pa ai) 0 O, vi to]) (cs' := #[vi k, vi E.s, vi E.v, vi 0, vi 0, .slice (pa ab) 4 G, .slice (pa ai) 0 O, vi to]) Y0 Z Z Z (by simp [Value.oneCell']) ac.blk (Nat.le_of_ble_eq_true Z) Z ?_
 intro ul V
 have bb := low1 (low0 ii ac.grw) V.grw (by omega)
 refine Xe (v := vb true) Z Z (Xc (Xq (Xa (Xd (o' := 0) Y9 Z Z Z (Xh (v := vi k) X1 Z (V.blk.cell Z) Z (X3 (q := decide (k = 0)) Z Z Z Z (Xc (Xy Z (fun g5 => ?_) (fun g5 => ?_)))))))))
 have tk := of_decide_eq_true g5
 refine X2 (Y6 (ps := []) (v := .agg #[vi 0, vi 0]) X8 (by kernel_rfl) Z ?_)
 have i5 := ((ft.grown0 ac.grw).gn V.grw)
 have i6 := ((fu.grown0 ac.grw).gn V.grw)
 have l6 := ((dg.grown0 ac.grw).gn V.grw)
 have l7 := ((df.grown0 ac.grw).gn V.grw)
 have tl : thingOk (⟨1, ⟨0, 0⟩, 0, 0, [], [], 0⟩ : Th) = true := (Vx (by decide)).symm.trans (by decide)
 refine Xl Gq (Xg Z (Xg Z (Xg Z Xk))) Z (Vf 1 0 ⟨0, 0⟩ (by decide) (by decide) _) ?_
 rintro _ um ⟨be, al, bf, am, rfl, cc, mw, cd, my, ky, fz⟩
 have k9 := nt bb.size cc
 have oq := nl (i5).lt cc
 have jo := nl (i6).lt cc
 have j9 := nl (l6).lt cc
 have j5 := nl (l7).lt cc
 have kb := nl (V.blk).lt cc
 have la := nt bb.size cd
 have ot := nl (i5).lt cd
 have jp := nl (i6).lt cd
 have ka := nl (l6).lt cd
 have j6 := nl (l7).lt cd
 have kc := nl (V.blk).lt cd
 refine Xb (v := .tuple #[.agg #[vi 1, vi 0, vi 0, vi 0, vi 0, .slice (pa be) 0 al, .slice (pa bf) 0 am, vi 0], vb true]) Z Z (X4 (v := .agg #[vi 1, vi 0, vi 0, vi 0, vi 0, .slice (pa be) 0 al, .slice (pa bf) 0 am, vi 0]) Z Z Z (X4 (v := vb true) Z Z Z (X0 (vs := [vi 1, vi 0, vi 0, vi 0, vi 0, .slice (pa be) 0 al, .slice (pa bf) 0 am, vi 0]) (cs' := #[vi 1, vi 0, vi 0, vi 0, vi 0, .slice (pa be) 0 al, .slice (pa bf) 0 am, vi 0]) Y0 Z Z Z (by simp [Value.oneCell']) (V.blk.grown0 fz) (Nat.le_of_ble_eq_true Z) Z ?_)))
 intro un ck
 have ij := low1 (low0 bb fz) ck.grw (by omega)
 refine Xc (Xu (Xq (Xa (Xd (o' := 0) Y9 Z Z Z (Xh (v := vi 1) X1 Z (ck.blk.cell Z) Z (Xc (Yc (Xa (X3 (q := true) Z Z (by decide) Z (Xe (v := vb true) Z Z (Xc (Qg Z Z ?_))))))))))))
 refine Xa (Xb (v := pt R 0) Z Z (Xl Qz (Xg Z (Xg Z Xk)) Z (Qh ah 20 (by omega) _ R bs _ _ _ ((i5.grown0 fz).gn ck.grw) (by omega) (SlLt.low1 hs ij hlo) (by first | exact hb | exact fun b h => hb b (List.mem_of_mem_take h)) (by first | omega | (rw [List.length_take]; omega))) ?_))
 rintro _ uo ⟨cz, rfl, r0, r1, nq, eo⟩
 refine Xd (o' := 4) Q6 Z Z Z (Yg (v := vi cz) (cs' := #[vi 1, vi 0, vi 0, vi 0, vi cz, .slice (pa be) 0 al, .slice (pa bf) 0 am, vi 0]) X1 Z Z Z (ck.blk.gn eo) (Nat.le_of_ble_eq_true Z) Z ?_)
 intro ut dh
 have ik := low1 (grown_trans ij eo) dh.grw (by omega)
 refine Xc (X2 (Xb (v := pt R 0) Z Z (Xl Qz (Xg Z (Xg Z Xk)) Z (Qh (ah + 1) 3 (by omega) _ R bs _ _ _ (nq.gn dh.grw) (by omega) (SlLt.low1 hs ik hlo) (by first | exact hb | exact fun b h => hb b (List.mem_of_mem_take h)) (by first | omega | (rw [List.length_take]; omega))) ?_)))
 rintro _ uu ⟨bt, rfl, r2, r3, nr, ep⟩
 refine Vp (c := bt / 2) Z Z (by omega) (by omega) (by omega) Z Z (Xd (o' := 3) Jl Z Z Z (Yg (v := vi (bt / 2)) (cs' := #[vi 1, vi 0, vi 0, vi (bt / 2), vi cz, .slice (pa be) 0 al, .slice (pa bf) 0 am, vi 0]) X1 Z Z Z (dh.blk.gn ep) (Nat.le_of_ble_eq_true Z) Z ?_))
 intro uv di
 refine Xc (Y7 (Xu (Xa (Xp (vs := [vi 1, vi 0, vi 0, vi (bt / 2), vi cz, .slice (pa be) 0 al, .slice (pa bf) 0 am, vi 0]) Y0 Z Z (di.blk.rangeL 0 8 Z) Z (X0 (vs := [vi 1, vi 0, vi 0, vi (bt / 2), vi cz, .slice (pa be) 0 al, .slice (pa bf) 0 am, vi 0]) (cs' := #[vi 1, vi 0, vi 0, vi (bt / 2), vi cz, .slice (pa be) 0 al, .slice (pa bf) 0 am, vi 0]) Y0 Z Z Z (by simp [Value.oneCell']) ((((((i6.grown0 fz).gn ck.grw).gn eo).gn dh.grw).gn ep).gn di.grw) (Nat.le_of_ble_eq_true Z) Z ?_)))))
 intro uw d9
 refine Xc (Xt (⟨.agg #[vi 1, vi 0, vi 0, vi (bt / 2), vi cz, .slice (pa be) 0 al, .slice (pa bf) 0 am, vi 0], J2 Z (Ym (vs := [vi 1, vi 0, vi 0, vi (bt / 2), vi cz, .slice (pa be) 0 al, .slice (pa bf) 0 am, vi 0]) Y0 Z Z (d9.blk.rangeL 0 8 Z)), ⟨⟨1, ⟨0, 0⟩, bt / 2, cz, ([] : List Rt), ([] : List Int), 0⟩, some ⟨be, 0, none⟩, al, some ⟨bf, 0, none⟩, am⟩, (ah + 1 + 1), Z, ⟨OwnN.of ((((((my.gn ck.grw).gn eo).gn dh.grw).gn ep).gn di.grw).gn d9.grw) la, ⟨([] : List Rt), OwnN.of ((((((mw.gn ck.grw).gn eo).gn dh.grw).gn ep).gn di.grw).gn d9.grw) k9, Z, ?_⟩, ?_, ?_, ⟨show (0 : Int) ≤ bt / 2 by omega, show bt / 2 ≤ (1 : Int) by omega⟩⟩, by omega, by omega, ((nr.gn di.grw).gn d9.grw), (low1 (low1 (grown_trans ik ep) di.grw (by omega)) d9.grw (by omega))⟩))
 intro x hx; first | (simp [zeros4] at hx; subst hx; exact ⟨by decide, by decide, by decide, by decide⟩) | simp at hx
 · first | exact Nat.le_of_ble_eq_true rfl | omega | (simp only [List.length_nil]; omega)
 exact Nat.le_of_ble_eq_true Z
 have tn := of_decide_eq_false g5
 refine Xw (Xu (Xq (Xa (Xd (o' := 0) Y9 Z Z Z (Xh (v := vi k) X1 Z (V.blk.cell Z) Z (Xc (Yc (Xa (X3 (q := decide (k = 1)) Z Z Z Z (Xe (v := vb (decide (k = 1))) Z Z (Xc (Xy Z (fun g6 => ?_) (fun g6 => ?_)))))))))))))
 have tp := of_decide_eq_true g6
 refine Xa (Xb (v := pt R 0) Z Z (Xl Qz (Xg Z (Xg Z Xk)) Z (Qh ah 20 (by omega) _ R bs _ _ _ ((ft.grown0 ac.grw).gn V.grw) (by omega) (SlLt.low1 hs bb hlo) (by first | exact hb | exact fun b h => hb b (List.mem_of_mem_take h)) (by first | omega | (rw [List.length_take]; omega))) ?_))
 rintro _ ux ⟨c8, rfl, r4, r5, nu, er⟩
 refine Xd (o' := 4) Q6 Z Z Z (Yg (v := vi c8) (cs' := #[vi k, vi E.s, vi E.v, vi 0, vi c8, .slice (pa ab) 4 G, .slice (pa ai) 0 O, vi to]) X1 Z Z Z (V.blk.gn er) (Nat.le_of_ble_eq_true Z) Z ?_)
 intro uy dk
 have il := low1 (grown_trans bb er) dk.grw (by omega)
 refine Xc (X2 (Xb (v := pt R 0) Z Z (Xl Qz (Xg Z (Xg Z Xk)) Z (Qh (ah + 1) 3 (by omega) _ R bs _ _ _ (nu.gn dk.grw) (by omega) (SlLt.low1 hs il hlo) (by first | exact hb | exact fun b h => hb b (List.mem_of_mem_take h)) (by first | omega | (rw [List.length_take]; omega))) ?_)))
 rintro _ uz ⟨bu, rfl, r6, r7, nv, eu⟩
 refine Vp (c := bu / 2) Z Z (by omega) (by omega) (by omega) Z Z (Xd (o' := 3) Jl Z Z Z (Yg (v := vi (bu / 2)) (cs' := #[vi k, vi E.s, vi E.v, vi (bu / 2), vi c8, .slice (pa ab) 4 G, .slice (pa ai) 0 O, vi to]) X1 Z Z Z (dk.blk.gn eu) (Nat.le_of_ble_eq_true Z) Z ?_))
 intro u0 dl
 refine Xc (Y7 (Xu (Xa (Xp (vs := [vi k, vi E.s, vi E.v, vi (bu / 2), vi c8, .slice (pa ab) 4 G, .slice (pa ai) 0 O, vi to]) Y0 Z Z (dl.blk.rangeL 0 8 Z) Z (X0 (vs := [vi k, vi E.s, vi E.v, vi (bu / 2), vi c8, .slice (pa ab) 4 G, .slice (pa ai) 0 O, vi to]) (cs' := #[vi k, vi E.s, vi E.v, vi (bu / 2), vi c8, .slice (pa ab) 4 G, .slice (pa ai) 0 O, vi to]) Y0 Z Z Z (by simp [Value.oneCell']) ((((((fu.grown0 ac.grw).gn V.grw).gn er).gn dk.grw).gn eu).gn dl.grw) (Nat.le_of_ble_eq_true Z) Z ?_)))))
 intro u1 ea
 refine Xc (Xt (⟨.agg #[vi k, vi E.s, vi E.v, vi (bu / 2), vi c8, .slice (pa ab) 4 G, .slice (pa ai) 0 O, vi to], J2 Z (Ym (vs := [vi k, vi E.s, vi E.v, vi (bu / 2), vi c8, .slice (pa ab) 4 G, .slice (pa ai) 0 O, vi to]) Y0 Z Z (ea.blk.rangeL 0 8 Z)), ⟨⟨k, E, bu / 2, c8, zeros4, ([] : List Int), to⟩, some ⟨ab, 0, none⟩, G, some ⟨ai, 0, none⟩, O⟩, (ah + 1 + 1), Z, ⟨OwnN.of (((((((dg.grown0 ac.grw).gn V.grw).gn er).gn dk.grw).gn eu).gn dl.grw).gn ea.grw) d4, ⟨zeros4, OwnN.of (((((((df.grown0 ac.grw).gn V.grw).gn er).gn dk.grw).gn eu).gn dl.grw).gn ea.grw) d3, Z, ?_⟩, ?_, ?_, ⟨show (0 : Int) ≤ bu / 2 by omega, show bu / 2 ≤ (1 : Int) by omega⟩⟩, by omega, by omega, ((nv.gn dl.grw).gn ea.grw), (low1 (low1 (grown_trans il eu) dl.grw (by omega)) ea.grw (by omega))⟩))
 intro x hx; first | (simp [zeros4] at hx; subst hx; exact ⟨by decide, by decide, by decide, by decide⟩) | simp at hx
 · first | exact Nat.le_of_ble_eq_true rfl | omega | (simp only [List.length_nil]; omega)
 exact Nat.le_of_ble_eq_true Z
 have tq := of_decide_eq_false g6
 refine Xa (X3 (q := decide (k = 4)) Z Z Z Z (Xe (v := vb (decide (k = 4))) Z Z (Xc (Xy Z (fun g7 => ?_) (fun g7 => ?_)))))
 have tr := of_decide_eq_true g7
 refine Xa (Xb (v := pt R 0) Z Z (Xl Qz (Xg Z (Xg Z Xk)) Z (Qh ah 4 (by omega) _ R bs _ _ _ ((ft.grown0 ac.grw).gn V.grw) (by omega) (SlLt.low1 hs bb hlo) (by first | exact hb | exact fun b h => hb b (List.mem_of_mem_take h)) (by first | omega | (rw [List.length_take]; omega))) ?_))
 rintro _ u2 ⟨i7, rfl, r8, r9, nw, ew⟩
 refine Xe (v := vi i7) Z Z (Xc (Yc (Qm (fun mm f' w' => ∃ (n : Int) (p1 : Int) (Bq : Nat) (cq : Nat) (ys : List Int), mm = n.toNat ∧ (0 ≤ n ∧ n ≤ 3) ∧ (ah + 1 ≤ p1 ∧ p1 ≤ (ah + 1) + 3 - n) ∧ (ys.length : Int) ≤ 3 - n ∧ Dw.Own w' Bq 3 1 cq ys.length (ys.flatMap icell) ∧ w.heap.size ≤ Bq ∧ R ≠ Bq ∧ bd ≠ Bq ∧ ab ≠ Bq ∧ d5 ≠ Bq ∧ f' 9 = vi n ∧ f' 0 = pt R 0 ∧ f' 6 = pt bd 0 ∧ f' 7 = pt d5 0 ∧ w.grownBy w' (some R) ∧ Blk w' bd 38 #[vi 0, vi 0, vi 0, vi 0, vi 0, .slice none 0 0, .slice none 0 0, vi 0] ∧ Dw.Own w' ab 42 5 G zeros4.length (zeros4.flatMap Rt.cells) ∧ Blk w' d5 38 #[vi k, vi E.s, vi E.v, vi 0, vi 0, .slice (pa ab) 4 G, .slice (pa Bq) ys.length cq, vi to] ∧ Blk w' R 79 #[.slice a bs.length c, vi p1]) (i7.toNat) ⟨i7, (ah + 1), ai, O, ([] : List Int), Z, (by omega), (by omega), (by simp only [List.length_nil]; omega), (((dg.grown0 ac.grw).gn V.grw).gn ew), d4, (by omega), (by omega), (by omega), (by omega), Z, Z, Z, Z, (grown_trans bb ew), (((fu.grown0 ac.grw).gn V.grw).gn ew), (((df.grown0 ac.grw).gn V.grw).gn ew), (V.blk.gn ew), nw⟩ ?_)))
 rintro mm tg mu ⟨n, p1, Bq, cq, ys, s1, hnn, hpp, hyl, hOwn, hlBq, q8, q9, ra, rb, lp, pf, g2, lu, fx, i8, i9, g0, l8⟩
 refine Xq (Xa (Xb (v := vi n) lp Z (Jd (q := decide (0 < n)) Z Z Z Z (Xc (Xy Z (fun g8 => ?_) (fun g8 => ?_))))))
 have tt := of_decide_eq_true g8
 refine Xw (Xu (Xq (Yc (Qy (m := 5) [[], [0], [], [2], [2, 3], [0, 1, 2, 3, 4], [0, 1, 2, 3, 4, 5], [0, 1, 2, 3, 4, 5, 6]] (fun S F w' => ∃ (aj : Int) (av : Nat), mu.grownBy w' (some R) ∧ F 0 = pt R 0 ∧ F 6 = pt bd 0 ∧ F 7 = pt d5 0 ∧ F 9 = vi n ∧ (S 3 = false → Blk w' R 79 #[.slice a bs.length c, vi p1]) ∧ (S 3 = true → F 48 = vi aj ∧ 0 ≤ aj ∧ (aj < 20 ∨ aj = 0) ∧ Blk w' R 79 #[.slice a bs.length c, vi (p1 + 1)]) ∧ (S 4 = true → F 49 = .slice (pa av) 1 1 ∧ w.heap.size ≤ av ∧ Blk w' av 3 (([aj] : List Int).flatMap icell).toArray ∧ bd < av ∧ ab < av ∧ d5 < av ∧ R < av ∧ Bq < av ∧ mu.heap.size ≤ av) ∧ Vals S F [(0, 45, pt d5 6), (1, 46, .slice (pa Bq) ys.length cq), (2, 47, pt R 0)]) Yy (by kernel_rfl) ⟨0, 0, X6 _, pf, g2, lu, lp, fun _ => (l8).grown0 (X6 _), Yt, Yt, J3 _⟩ ?_ ?_))))
 refine Xj (fun S F u3 hS hbef hcl hI => ?_) ?_
 obtain ⟨aj, av, nc, pg, ph, lv, pi, c_old_R, a8, bm, hvs⟩ := hI
 exact Xd (o' := 6) Qt lv Z Z (Xc ⟨aj, av, nc, pg, ph, lv, pi, fun h => c_old_R h, a8, bm, Vals.up 0 hvs Z Z Z⟩)
 refine Xj (fun S F u4 hS hbef hcl hI => ?_) ?_
 obtain ⟨aj, av, i0, pj, pk, pl, pm, c_old_R, a8, bm, hvs⟩ := hI
 exact Xh (v := .slice (pa Bq) ys.length cq) Js (Vals.at 0 hvs Z (Xm 0 hbef Z)) ((g0.gn i0).cell Z) Z (Xc ⟨aj, av, i0, pj, pk, pl, pm, fun h => c_old_R h, a8, bm, Vals.up 1 hvs Z Z Z⟩)
 refine Xj (fun S F u5 hS hbef hcl hI => ?_) ?_
 obtain ⟨aj, av, nd, lw, pn, po, pp, c_old_R, a8, bm, hvs⟩ := hI
 exact Xb (v := pt R 0) lw Z (Xc ⟨aj, av, nd, lw, pn, po, pp, fun h => c_old_R h, X5 3 hS hcl Z, X5 4 hS hcl Z, Vals.up 2 hvs Z Z Z⟩)
 refine Xj (fun S F u6 hS hbef hcl hI => ?_) ?_
 obtain ⟨aj, av, i1, pq, pr, pu, pv, c_old_R, a8, bm, hvs⟩ := hI
 refine Xl Qz (Xg (Vals.at 2 hvs Z (Xm 2 hbef Z)) (Xg Z Xk)) Z (Qh p1 20 (by omega) _ R bs _ _ _ (c_old_R hS) (by omega) (SlLt.low1 hs (grown_trans fx i1) hlo) (by first | exact hb | exact fun b h => hb b (List.mem_of_mem_take h)) (by first | omega | (rw [List.length_take]; omega))) ?_
 rintro _ u7 ⟨rf, rfl, ni, nj, nx, na⟩
 exact Xc ⟨rf, av, (grown_trans i1 na), pq, pr, pu, pv, fun h => J8 h, fun _ => ⟨Z, ni, nj, nx⟩, X5 4 hS hcl Z, Vals.keep hvs Z⟩
 refine Xj (fun S F u9 hS hbef hcl hI => ?_) ?_
 obtain ⟨aj, av, cv, pw, px, py, pz, c_old_R, a8, bm, hvs⟩ := hI
 obtain ⟨p0, ng, nh, bc⟩ := a8 (Xm 3 hbef rfl)
 refine Ya (ps := [(0, vi aj)]) (e := 3) (cs := (([aj] : List Int).flatMap icell).toArray) (Xn p0 X8) (fun _ => by kernel_rfl) Z ?_
 intro pd va a9
 have lc := Yj a9 (grown_trans fx cv)
 have fk := Xr a9 ((i8.gn cv)).lt
 have fo := Xr a9 ((i9.gn cv)).lt
 have fp := Xr a9 ((g0.gn cv)).lt
 have gr := Xr a9 ((hOwn.gn cv)).lt
 have ov := Xr a9 (bc).lt
 exact Xc ⟨aj, pd, (low0 cv a9.grw), pw, px, py, pz, fun hn => J8 ((Xm 3 hbef Z).symm.trans hn), fun h => let ⟨rh, ri, rj, rk⟩ := a8 h; ⟨rh, ri, rj, (rk).grown0 a9.grw⟩, fun _ => ⟨Z, lc, a9.blk, fk, fo, fp, (by omega), gr, (nt cv.size (Nat.le_of_eq a9.eq.symm))⟩, Vals.keep hvs Z⟩
 exact Q5
 intro S F vc hall hI
 obtain ⟨aj, av, fi, p8, p9, lx, qb, c_old_R, a8, bm, hvs⟩ := hI
 have im := grown_trans fx fi
 obtain ⟨te, ng, nh, bc⟩ := a8 (hall 3 (by decide))
 obtain ⟨qd, rr, gp, jq, j7, ke, ou, mr, q6⟩ := bm (hall 4 (by decide))
 have l9 := (i8.gn fi)
 have ma := (i9.gn fi)
 have mb := (g0.gn fi)
 refine Uv (g := icell) (ys := ys) (zs := ([aj] : List Int)) V8 Z Yv (by omega) Kf (Vals.at 1 hvs Z (hall 1 (by decide))) qd (hOwn.gn fi) (Jw Yv gp) (by simp only [List.length_cons, List.length_nil]; omega) (by omega) Z ?_
 intro cx fv vd mz ex lm
 have ld : w.heap.size ≤ cx := by rcases lm with h | h; (rw [h]; exact hlBq); (rw [h]; exact im.size)
 have kt : bd ≠ cx := by have h := (l9).lt; omega
 have kw : ab ≠ cx := by have h := (ma).lt; omega
 have kx : d5 ≠ cx := by have h := (mb).lt; omega
 have pb : R ≠ cx := by have h := (bc).lt; omega
 have kz : av ≠ cx := by have h := (gp).lt; omega
 refine Xd (o' := 6) Qt lx Z Z (Yg (v := .slice (pa cx) (ys ++ ([aj] : List Int)).length fv) (cs' := #[vi k, vi E.s, vi E.v, vi 0, vi 0, .slice (pa ab) 4 G, .slice (pa cx) (ys ++ ([aj] : List Int)).length fv, vi to]) Js Z Z Z (mb.gn ex) (Nat.le_of_ble_eq_true Z) Z ?_)
 intro vf dm
 exact Xc (Y7 (Xu (X2 (Xb (v := vi n) qb Z (Ys (c := n - 1) Z Z (by omega) (by omega) (by omega) Z (Xe (v := vi (n - 1)) Z Z (Xc (Xu (⟨(n - 1).toNat, by omega, (n - 1), (p1 + 1), cx, fv, (ys ++ ([aj] : List Int)), Z, (by omega), (by omega), (by simp only [List.length_append, List.length_cons, List.length_nil]; omega), (mz.gn dm.grw), ld, (by omega), (by omega), (by omega), (by omega), Z, p8, p9, lx, (low1 (low1 im ex (by omega)) dm.grw (by omega)), ((l9.gn ex).gn dm.grw), ((ma.gn ex).gn dm.grw), dm.blk, ((bc.gn ex).gn dm.grw)⟩)))))))))
 have tu := of_decide_eq_false g8
 refine Qe (Qb (Qb (Jm (Y7 (Xu (Xa (Xp (vs := [vi k, vi E.s, vi E.v, vi 0, vi 0, .slice (pa ab) 4 G, .slice (pa Bq) ys.length cq, vi to]) Y0 lu Z (g0.rangeL 0 8 Z) Z (X0 (vs := [vi k, vi E.s, vi E.v, vi 0, vi 0, .slice (pa ab) 4 G, .slice (pa Bq) ys.length cq, vi to]) (cs' := #[vi k, vi E.s, vi E.v, vi 0, vi 0, .slice (pa ab) 4 G, .slice (pa Bq) ys.length cq, vi to]) Y0 g2 Z Z (by simp [Value.oneCell']) i8 (Nat.le_of_ble_eq_true Z) Z ?_))))))))
 intro vg eb
 refine Xc (Xt (⟨.agg #[vi k, vi E.s, vi E.v, vi 0, vi 0, .slice (pa ab) 4 G, .slice (pa Bq) ys.length cq, vi to], J2 Z (Ym (vs := [vi k, vi E.s, vi E.v, vi 0, vi 0, .slice (pa ab) 4 G, .slice (pa Bq) ys.length cq, vi to]) Y0 g2 Z (eb.blk.rangeL 0 8 Z)), ⟨⟨k, E, 0, 0, zeros4, ys, to⟩, some ⟨ab, 0, none⟩, G, some ⟨Bq, 0, none⟩, cq⟩, p1, Z, ⟨OwnN.of (hOwn.gn eb.grw) hlBq, ⟨zeros4, OwnN.of (i9.gn eb.grw) d3, Z, ?_⟩, ?_, ?_, ⟨show (0 : Int) ≤ 0 by omega, show 0 ≤ (1 : Int) by omega⟩⟩, by omega, by omega, (l8.gn eb.grw), (low1 fx eb.grw (by omega))⟩))
 intro x hx; first | (simp [zeros4] at hx; subst hx; exact ⟨by decide, by decide, by decide, by decide⟩) | simp at hx
 · first | exact Nat.le_of_ble_eq_true rfl | omega | (simp only [List.length_nil]; omega)
 exact Nat.le_of_ble_eq_true Z
 have tv := of_decide_eq_false g7
 refine Xa (X3 (q := decide (k = 3)) Z Z Z Z (Xe (v := vb (decide (k = 3))) Z Z (Xc (Xy Z (fun g9 => ?_) (fun g9 => ?_)))))
 have tw := of_decide_eq_true g9
 refine X2 (Xb (v := pt R 0) Z Z (Xl Qz (Xg Z (Xg Z Xk)) Z (Qh ah 24 (by omega) _ R bs _ _ _ ((ft.grown0 ac.grw).gn V.grw) (by omega) (SlLt.low1 hs bb hlo) (by first | exact hb | exact fun b h => hb b (List.mem_of_mem_take h)) (by first | omega | (rw [List.length_take]; omega))) ?_))
 rintro _ vh ⟨c9, rfl, sb, sd, ny, ey⟩
 refine Ys (c := c9 - 4) Z Z (by omega) (by omega) (by omega) Z (Xd (o' := 4) Q6 Z Z Z (Yg (v := vi (c9 - 4)) (cs' := #[vi k, vi E.s, vi E.v, vi 0, vi (c9 - 4), .slice (pa ab) 4 G, .slice (pa ai) 0 O, vi to]) X1 Z Z Z (V.blk.gn ey) (Nat.le_of_ble_eq_true Z) Z ?_))
 intro vj dn
 refine Xc (Y7 (Xu (Xa (Xp (vs := [vi k, vi E.s, vi E.v, vi 0, vi (c9 - 4), .slice (pa ab) 4 G, .slice (pa ai) 0 O, vi to]) Y0 Z Z (dn.blk.rangeL 0 8 Z) Z (X0 (vs := [vi k, vi E.s, vi E.v, vi 0, vi (c9 - 4), .slice (pa ab) 4 G, .slice (pa ai) 0 O, vi to]) (cs' := #[vi k, vi E.s, vi E.v, vi 0, vi (c9 - 4), .slice (pa ab) 4 G, .slice (pa ai) 0 O, vi to]) Y0 Z Z Z (by simp [Value.oneCell']) ((((fu.grown0 ac.grw).gn V.grw).gn ey).gn dn.grw) (Nat.le_of_ble_eq_true Z) Z ?_)))))
 intro vk ed
 refine Xc (Xt (⟨.agg #[vi k, vi E.s, vi E.v, vi 0, vi (c9 - 4), .slice (pa ab) 4 G, .slice (pa ai) 0 O, vi to], J2 Z (Ym (vs := [vi k, vi E.s, vi E.v, vi 0, vi (c9 - 4), .slice (pa ab) 4 G, .slice (pa ai) 0 O, vi to]) Y0 Z Z (ed.blk.rangeL 0 8 Z)), ⟨⟨k, E, 0, c9 - 4, zeros4, ([] : List Int), to⟩, some ⟨ab, 0, none⟩, G, some ⟨ai, 0, none⟩, O⟩, (ah + 1), Z, ⟨OwnN.of (((((dg.grown0 ac.grw).gn V.grw).gn ey).gn dn.grw).gn ed.grw) d4, ⟨zeros4, OwnN.of (((((df.grown0 ac.grw).gn V.grw).gn ey).gn dn.grw).gn ed.grw) d3, Z, ?_⟩, ?_, ?_, ⟨show (0 : Int) ≤ 0 by omega, show 0 ≤ (1 : Int) by omega⟩⟩, by omega, by omega, ((ny.gn dn.grw).gn ed.grw), (low1 (low1 (grown_trans bb ey) dn.grw (by omega)) ed.grw (by omega))⟩))
 intro x hx; first | (simp [zeros4] at hx; subst hx; exact ⟨by decide, by decide, by decide, by decide⟩) | simp at hx
 · first | exact Nat.le_of_ble_eq_true rfl | omega | (simp only [List.length_nil]; omega)
 exact Nat.le_of_ble_eq_true Z
 have tx := of_decide_eq_false g9
 refine Xw (Y7 (Xu (Xa (Xp (vs := [vi k, vi E.s, vi E.v, vi 0, vi 0, .slice (pa ab) 4 G, .slice (pa ai) 0 O, vi to]) Y0 Z Z (V.blk.rangeL 0 8 Z) Z (X0 (vs := [vi k, vi E.s, vi E.v, vi 0, vi 0, .slice (pa ab) 4 G, .slice (pa ai) 0 O, vi to]) (cs' := #[vi k, vi E.s, vi E.v, vi 0, vi 0, .slice (pa ab) 4 G, .slice (pa ai) 0 O, vi to]) Y0 Z Z Z (by simp [Value.oneCell']) ((fu.grown0 ac.grw).gn V.grw) (Nat.le_of_ble_eq_true Z) Z ?_)))))
 intro vl ee
 refine Xc (Xt (⟨.agg #[vi k, vi E.s, vi E.v, vi 0, vi 0, .slice (pa ab) 4 G, .slice (pa ai) 0 O, vi to], J2 Z (Ym (vs := [vi k, vi E.s, vi E.v, vi 0, vi 0, .slice (pa ab) 4 G, .slice (pa ai) 0 O, vi to]) Y0 Z Z (ee.blk.rangeL 0 8 Z)), ⟨⟨k, E, 0, 0, zeros4, ([] : List Int), to⟩, some ⟨ab, 0, none⟩, G, some ⟨ai, 0, none⟩, O⟩, ah, Z, ⟨OwnN.of (((dg.grown0 ac.grw).gn V.grw).gn ee.grw) d4, ⟨zeros4, OwnN.of (((df.grown0 ac.grw).gn V.grw).gn ee.grw) d3, Z, ?_⟩, ?_, ?_, ⟨show (0 : Int) ≤ 0 by omega, show 0 ≤ (1 : Int) by omega⟩⟩, by omega, by omega, (((ft.grown0 ac.grw).gn V.grw).gn ee.grw), (low1 bb ee.grw (by omega))⟩))
 intro x hx; first | (simp [zeros4] at hx; subst hx; exact ⟨by decide, by decide, by decide, by decide⟩) | simp at hx
 · first | exact Nat.le_of_ble_eq_true rfl | omega | (simp only [List.length_nil]; omega)
 exact Nat.le_of_ble_eq_true Z
 have tz : thingOk (⟨k, E, 0, 0, zeros4, [], to⟩ : Th) = false := (Wt bn).symm.trans gj
 refine Xl Gq (Xg Z (Xg Z (Xg Z Xk))) Z (Pu k to E bn gj _) ?_
 rintro _ vm ⟨rfl, gx⟩
 have io := low0 bq gx
 refine Xb (v := .tuple #[.agg #[vi 0, vi 0, vi 0, vi 0, vi 0, .slice none 0 0, .slice none 0 0, vi 0], vb false]) Z Z (X4 (v := .agg #[vi 0, vi 0, vi 0, vi 0, vi 0, .slice none 0 0, .slice none 0 0, vi 0]) Z Z Z (X4 (v := vb false) Z Z Z (Ye (cs := #[vi 0, vi 0, vi 0, vi 0, vi 0, .slice none 0 0, .slice none 0 0, vi 0]) Kw Z Z ?_)))
 intro tc vn cg
 have ru := Yj cg io
 have mc := (ca.grown0 gx)
 have ow := Xr cg (mc).lt
 have me := ((bp.blk.gn em).grown0 gx)
 have jr := Xr cg (me).lt
 refine X0 (vs := [vi 0, vi 0, vi 0, vi 0, vi 0, .slice none 0 0, .slice none 0 0, vi 0]) (cs' := #[vi 0, vi 0, vi 0, vi 0, vi 0, .slice none 0 0, .slice none 0 0, vi 0]) Y0 Z Z Z (by simp [Value.oneCell']) cg.blk (Nat.le_of_ble_eq_true Z) Z ?_
 intro vo cl
 have gu := low1 (low0 io cg.grw) cl.grw (by omega)
 refine Xe (v := vb false) Z Z (Xc (Xq (Xa (Xd (o' := 0) Y9 Z Z Z (Xh (v := vi 0) X1 Z (cl.blk.cell Z) Z (X3 (q := true) Z Z (by decide) Z (Xc (Qg Z Z (X2 (Y6 (ps := []) (v := .agg #[vi 0, vi 0]) X8 (by kernel_rfl) Z ?_))))))))))
 have ja := ((mc.grown0 cg.grw).gn cl.grw)
 have jb := ((me.grown0 cg.grw).gn cl.grw)
 have t0 : thingOk (⟨1, ⟨0, 0⟩, 0, 0, [], [], 0⟩ : Th) = true := (Vx (by decide)).symm.trans (by decide)
 refine Xl Gq (Xg Z (Xg Z (Xg Z Xk))) Z (Vf 1 0 ⟨0, 0⟩ (by decide) (by decide) _) ?_
 rintro _ vp ⟨bg, an, bh, ao, rfl, dz, m3, d0, m4, k0, f8⟩
 have le := nt gu.size dz
 have ox := nl (ja).lt dz
 have js := nl (jb).lt dz
 have kf := nl (cl.blk).lt dz
 have lf := nt gu.size d0
 have oy := nl (ja).lt d0
 have jt := nl (jb).lt d0
 have kg := nl (cl.blk).lt d0
 refine Xb (v := .tuple #[.agg #[vi 1, vi 0, vi 0, vi 0, vi 0, .slice (pa bg) 0 an, .slice (pa bh) 0 ao, vi 0], vb true]) Z Z (X4 (v := .agg #[vi 1, vi 0, vi 0, vi 0, vi 0, .slice (pa bg) 0 an, .slice (pa bh) 0 ao, vi 0]) Z Z Z (X4 (v := vb true) Z Z Z (X0 (vs := [vi 1, vi 0, vi 0, vi 0, vi 0, .slice (pa bg) 0 an, .slice (pa bh) 0 ao, vi 0]) (cs' := #[vi 1, vi 0, vi 0, vi 0, vi 0, .slice (pa bg) 0 an, .slice (pa bh) 0 ao, vi 0]) Y0 Z Z Z (by simp [Value.oneCell']) (cl.blk.grown0 f8) (Nat.le_of_ble_eq_true Z) Z ?_)))
 intro vq cm
 have ip := low1 (low0 gu f8) cm.grw (by omega)
 refine Xc (Xu (Xq (Xa (Xd (o' := 0) Y9 Z Z Z (Xh (v := vi 1) X1 Z (cm.blk.cell Z) Z (Xc (Yc (Xa (X3 (q := true) Z Z (by decide) Z (Xe (v := vb true) Z Z (Xc (Qg Z Z ?_))))))))))))
 refine Xa (Xb (v := pt R 0) Z Z (Xl Qz (Xg Z (Xg Z Xk)) Z (Qh ah 20 (by omega) _ R bs _ _ _ ((ja.grown0 f8).gn cm.grw) (by omega) (SlLt.low1 hs ip hlo) (by first | exact hb | exact fun b h => hb b (List.mem_of_mem_take h)) (by first | omega | (rw [List.length_take]; omega))) ?_))
 rintro _ vr ⟨da, rfl, se, sf, nz, ez⟩
 refine Xd (o' := 4) Q6 Z Z Z (Yg (v := vi da) (cs' := #[vi 1, vi 0, vi 0, vi 0, vi da, .slice (pa bg) 0 an, .slice (pa bh) 0 ao, vi 0]) X1 Z Z Z (cm.blk.gn ez) (Nat.le_of_ble_eq_true Z) Z ?_)
 intro vt dp
 have iq := low1 (grown_trans ip ez) dp.grw (by omega)
 refine Xc (X2 (Xb (v := pt R 0) Z Z (Xl Qz (Xg Z (Xg Z Xk)) Z (Qh (ah + 1) 3 (by omega) _ R bs _ _ _ (nz.gn dp.grw) (by omega) (SlLt.low1 hs iq hlo) (by first | exact hb | exact fun b h => hb b (List.mem_of_mem_take h)) (by first | omega | (rw [List.length_take]; omega))) ?_)))
 rintro _ vu ⟨bv, rfl, sg, sh, n5, e0⟩
 refine Vp (c := bv / 2) Z Z (by omega) (by omega) (by omega) Z Z (Xd (o' := 3) Jl Z Z Z (Yg (v := vi (bv / 2)) (cs' := #[vi 1, vi 0, vi 0, vi (bv / 2), vi da, .slice (pa bg) 0 an, .slice (pa bh) 0 ao, vi 0]) X1 Z Z Z (dp.blk.gn e0) (Nat.le_of_ble_eq_true Z) Z ?_))
 intro vv dq
 refine Xc (Y7 (Xu (Xa (Xp (vs := [vi 1, vi 0, vi 0, vi (bv / 2), vi da, .slice (pa bg) 0 an, .slice (pa bh) 0 ao, vi 0]) Y0 Z Z (dq.blk.rangeL 0 8 Z) Z (X0 (vs := [vi 1, vi 0, vi 0, vi (bv / 2), vi da, .slice (pa bg) 0 an, .slice (pa bh) 0 ao, vi 0]) (cs' := #[vi 1, vi 0, vi 0, vi (bv / 2), vi da, .slice (pa bg) 0 an, .slice (pa bh) 0 ao, vi 0]) Y0 Z Z Z (by simp [Value.oneCell']) ((((((jb.grown0 f8).gn cm.grw).gn ez).gn dp.grw).gn e0).gn dq.grw) (Nat.le_of_ble_eq_true Z) Z ?_)))))
 intro vw ef
 refine Xc (Xt (⟨.agg #[vi 1, vi 0, vi 0, vi (bv / 2), vi da, .slice (pa bg) 0 an, .slice (pa bh) 0 ao, vi 0], J2 Z (Ym (vs := [vi 1, vi 0, vi 0, vi (bv / 2), vi da, .slice (pa bg) 0 an, .slice (pa bh) 0 ao, vi 0]) Y0 Z Z (ef.blk.rangeL 0 8 Z)), ⟨⟨1, ⟨0, 0⟩, bv / 2, da, ([] : List Rt), ([] : List Int), 0⟩, some ⟨bg, 0, none⟩, an, some ⟨bh, 0, none⟩, ao⟩, (ah + 1 + 1), Z, ⟨OwnN.of ((((((m4.gn cm.grw).gn ez).gn dp.grw).gn e0).gn dq.grw).gn ef.grw) lf, ⟨([] : List Rt), OwnN.of ((((((m3.gn cm.grw).gn ez).gn dp.grw).gn e0).gn dq.grw).gn ef.grw) le, Z, ?_⟩, ?_, ?_, ⟨show (0 : Int) ≤ bv / 2 by omega, show bv / 2 ≤ (1 : Int) by omega⟩⟩, by omega, by omega, ((n5.gn dq.grw).gn ef.grw), (low1 (low1 (grown_trans iq e0) dq.grw (by omega)) ef.grw (by omega))⟩))
 intro x hx; first | (simp [zeros4] at hx; subst hx; exact ⟨by decide, by decide, by decide, by decide⟩) | simp at hx
 · first | exact Nat.le_of_ble_eq_true rfl | omega | (simp only [List.length_nil]; omega)
 exact Nat.le_of_ble_eq_true Z
 have q4 := Kq bn
 have t1 := of_decide_eq_false q4
 have l5 := Kr bn
 have t2 := of_decide_eq_false l5
 rcases Yf (newOk k E to) with gk | gk
 have jc := (bp.blk.gn em)
 have t3 : thingOk (⟨k, E, 0, 0, [], [], to⟩ : Th) = true := (Vx bn).symm.trans gk
 refine Xl Gq (Xg Z (Xg Z (Xg Z Xk))) Z (Vf k to E bn gk _) ?_
 rintro _ vx ⟨ag, J, az, ae, rfl, gf, d7, gg, d8, k3, gy⟩
 have ir := low0 bq gy
 have gh := nt bq.size gf
 have oz := nl (ca).lt gf
 have ju := nl (jc).lt gf
 have gi := nt bq.size gg
 have o0 := nl (ca).lt gg
 have jv := nl (jc).lt gg
 refine Xb (v := .tuple #[.agg #[vi k, vi E.s, vi E.v, vi 0, vi 0, .slice (pa ag) 0 J, .slice (pa az) 0 ae, vi to], vb true]) Z Z (X4 (v := .agg #[vi k, vi E.s, vi E.v, vi 0, vi 0, .slice (pa ag) 0 J, .slice (pa az) 0 ae, vi to]) Z Z Z (X4 (v := vb true) Z Z Z (Ye (cs := #[vi 0, vi 0, vi 0, vi 0, vi 0, .slice none 0 0, .slice none 0 0, vi 0]) Kw Z Z ?_)))
 intro d6 vy af
 have rx := Yj af ir
 have gl := (ca.grown0 gy)
 have o1 := Xr af (gl).lt
 have gm := (jc.grown0 gy)
 have jw := Xr af (gm).lt
 have kl := Xr af (d8).lt
 have kh := Xr af (d7).lt
 refine X0 (vs := [vi k, vi E.s, vi E.v, vi 0, vi 0, .slice (pa ag) 0 J, .slice (pa az) 0 ae, vi to]) (cs' := #[vi k, vi E.s, vi E.v, vi 0, vi 0, .slice (pa ag) 0 J, .slice (pa az) 0 ae, vi to]) Y0 Z Z Z (by simp [Value.oneCell']) af.blk (Nat.le_of_ble_eq_true Z) Z ?_
 intro vz ad
 have br := low1 (low0 ir af.grw) ad.grw (by omega)
 refine Xe (v := vb true) Z Z (Xc (Xq (Xa (Xd (o' := 0) Y9 Z Z Z (Xh (v := vi k) X1 Z (ad.blk.cell Z) Z (X3 (q := decide (k = 0)) Z Z Z Z (Xc (Xy Z (fun ia => ?_) (fun ia => ?_)))))))))
 have t4 := of_decide_eq_true ia
 refine X2 (Y6 (ps := []) (v := .agg #[vi 0, vi 0]) X8 (by kernel_rfl) Z ?_)
 have jd := ((gl.grown0 af.grw).gn ad.grw)
 have je := ((gm.grown0 af.grw).gn ad.grw)
 have mf := ((d8.grown0 af.grw).gn ad.grw)
 have mg := ((d7.grown0 af.grw).gn ad.grw)
 have t5 : thingOk (⟨1, ⟨0, 0⟩, 0, 0, [], [], 0⟩ : Th) = true := (Vx (by decide)).symm.trans (by decide)
 refine Xl Gq (Xg Z (Xg Z (Xg Z Xk))) Z (Vf 1 0 ⟨0, 0⟩ (by decide) (by decide) _) ?_
 rintro _ v1 ⟨bi, ap, bj, aq, rfl, ce, m5, cf, m6, k6, f9⟩
 have lg := nt br.size ce
 have o3 := nl (jd).lt ce
 have jx := nl (je).lt ce
 have km := nl (mf).lt ce
 have ki := nl (mg).lt ce
 have ko := nl (ad.blk).lt ce
 have lh := nt br.size cf
 have o4 := nl (jd).lt cf
 have jy := nl (je).lt cf
 have kn := nl (mf).lt cf
 have kj := nl (mg).lt cf
 have kp := nl (ad.blk).lt cf
 refine Xb (v := .tuple #[.agg #[vi 1, vi 0, vi 0, vi 0, vi 0, .slice (pa bi) 0 ap, .slice (pa bj) 0 aq, vi 0], vb true]) Z Z (X4 (v := .agg #[vi 1, vi 0, vi 0, vi 0, vi 0, .slice (pa bi) 0 ap, .slice (pa bj) 0 aq, vi 0]) Z Z Z (X4 (v := vb true) Z Z Z (X0 (vs := [vi 1, vi 0, vi 0, vi 0, vi 0, .slice (pa bi) 0 ap, .slice (pa bj) 0 aq, vi 0]) (cs' := #[vi 1, vi 0, vi 0, vi 0, vi 0, .slice (pa bi) 0 ap, .slice (pa bj) 0 aq, vi 0]) Y0 Z Z Z (by simp [Value.oneCell']) (ad.blk.grown0 f9) (Nat.le_of_ble_eq_true Z) Z ?_)))
 intro v2 cn
 have it := low1 (low0 br f9) cn.grw (by omega)
 refine Xc (Xu (Xq (Xa (Xd (o' := 0) Y9 Z Z Z (Xh (v := vi 1) X1 Z (cn.blk.cell Z) Z (Xc (Yc (Xa (X3 (q := true) Z Z (by decide) Z (Xe (v := vb true) Z Z (Xc (Qg Z Z ?_))))))))))))
 refine Xa (Xb (v := pt R 0) Z Z (Xl Qz (Xg Z (Xg Z Xk)) Z (Qh ah 20 (by omega) _ R bs _ _ _ ((jd.grown0 f9).gn cn.grw) (by omega) (SlLt.low1 hs it hlo) (by first | exact hb | exact fun b h => hb b (List.mem_of_mem_take h)) (by first | omega | (rw [List.length_take]; omega))) ?_))
 rintro _ v3 ⟨db, rfl, si, sk, n7, fa⟩
 refine Xd (o' := 4) Q6 Z Z Z (Yg (v := vi db) (cs' := #[vi 1, vi 0, vi 0, vi 0, vi db, .slice (pa bi) 0 ap, .slice (pa bj) 0 aq, vi 0]) X1 Z Z Z (cn.blk.gn fa) (Nat.le_of_ble_eq_true Z) Z ?_)
 intro v4 dr
 have iu := low1 (grown_trans it fa) dr.grw (by omega)
 refine Xc (X2 (Xb (v := pt R 0) Z Z (Xl Qz (Xg Z (Xg Z Xk)) Z (Qh (ah + 1) 3 (by omega) _ R bs _ _ _ (n7.gn dr.grw) (by omega) (SlLt.low1 hs iu hlo) (by first | exact hb | exact fun b h => hb b (List.mem_of_mem_take h)) (by first | omega | (rw [List.length_take]; omega))) ?_)))
 rintro _ v5 ⟨bw, rfl, sm, sn, n9, fb⟩
 refine Vp (c := bw / 2) Z Z (by omega) (by omega) (by omega) Z Z (Xd (o' := 3) Jl Z Z Z (Yg (v := vi (bw / 2)) (cs' := #[vi 1, vi 0, vi 0, vi (bw / 2), vi db, .slice (pa bi) 0 ap, .slice (pa bj) 0 aq, vi 0]) X1 Z Z Z (dr.blk.gn fb) (Nat.le_of_ble_eq_true Z) Z ?_))
 intro v6 dt
 refine Xc (Y7 (Xu (Xa (Xp (vs := [vi 1, vi 0, vi 0, vi (bw / 2), vi db, .slice (pa bi) 0 ap, .slice (pa bj) 0 aq, vi 0]) Y0 Z Z (dt.blk.rangeL 0 8 Z) Z (X0 (vs := [vi 1, vi 0, vi 0, vi (bw / 2), vi db, .slice (pa bi) 0 ap, .slice (pa bj) 0 aq, vi 0]) (cs' := #[vi 1, vi 0, vi 0, vi (bw / 2), vi db, .slice (pa bi) 0 ap, .slice (pa bj) 0 aq, vi 0]) Y0 Z Z Z (by simp [Value.oneCell']) ((((((je.grown0 f9).gn cn.grw).gn fa).gn dr.grw).gn fb).gn dt.grw) (Nat.le_of_ble_eq_true Z) Z ?_)))))
 intro v7 eg
 refine Xc (Xt (⟨.agg #[vi 1, vi 0, vi 0, vi (bw / 2), vi db, .slice (pa bi) 0 ap, .slice (pa bj) 0 aq, vi 0], J2 Z (Ym (vs := [vi 1, vi 0, vi 0, vi (bw / 2), vi db, .slice (pa bi) 0 ap, .slice (pa bj) 0 aq, vi 0]) Y0 Z Z (eg.blk.rangeL 0 8 Z)), ⟨⟨1, ⟨0, 0⟩, bw / 2, db, ([] : List Rt), ([] : List Int), 0⟩, some ⟨bi, 0, none⟩, ap, some ⟨bj, 0, none⟩, aq⟩, (ah + 1 + 1), Z, ⟨OwnN.of ((((((m6.gn cn.grw).gn fa).gn dr.grw).gn fb).gn dt.grw).gn eg.grw) lh, ⟨([] : List Rt), OwnN.of ((((((m5.gn cn.grw).gn fa).gn dr.grw).gn fb).gn dt.grw).gn eg.grw) lg, Z, ?_⟩, ?_, ?_, ⟨show (0 : Int) ≤ bw / 2 by omega, show bw / 2 ≤ (1 : Int) by omega⟩⟩, by omega, by omega, ((n9.gn dt.grw).gn eg.grw), (low1 (low1 (grown_trans iu fb) dt.grw (by omega)) eg.grw (by omega))⟩))
 intro x hx; first | (simp [zeros4] at hx; subst hx; exact ⟨by decide, by decide, by decide, by decide⟩) | simp at hx
 · first | exact Nat.le_of_ble_eq_true rfl | omega | (simp only [List.length_nil]; omega)
 exact Nat.le_of_ble_eq_true Z
 have t6 := of_decide_eq_false ia
 refine Xw (Xu (Xq (Xa (Xd (o' := 0) Y9 Z Z Z (Xh (v := vi k) X1 Z (ad.blk.cell Z) Z (Xc (Yc (Xa (X3 (q := decide (k = 1)) Z Z Z Z (Xe (v := vb (decide (k = 1))) Z Z (Xc (Xy Z (fun ib => ?_) (fun ib => ?_)))))))))))))
 have t7 := of_decide_eq_true ib
 refine Xa (Xb (v := pt R 0) Z Z (Xl Qz (Xg Z (Xg Z Xk)) Z (Qh ah 20 (by omega) _ R bs _ _ _ ((gl.grown0 af.grw).gn ad.grw) (by omega) (SlLt.low1 hs br hlo) (by first | exact hb | exact fun b h => hb b (List.mem_of_mem_take h)) (by first | omega | (rw [List.length_take]; omega))) ?_))
 rintro _ v8 ⟨dc, rfl, so, sp, oa, fc⟩
 refine Xd (o' := 4) Q6 Z Z Z (Yg (v := vi dc) (cs' := #[vi k, vi E.s, vi E.v, vi 0, vi dc, .slice (pa ag) 0 J, .slice (pa az) 0 ae, vi to]) X1 Z Z Z (ad.blk.gn fc) (Nat.le_of_ble_eq_true Z) Z ?_)
 intro v9 du
 have iv := low1 (grown_trans br fc) du.grw (by omega)
 refine Xc (X2 (Xb (v := pt R 0) Z Z (Xl Qz (Xg Z (Xg Z Xk)) Z (Qh (ah + 1) 3 (by omega) _ R bs _ _ _ (oa.gn du.grw) (by omega) (SlLt.low1 hs iv hlo) (by first | exact hb | exact fun b h => hb b (List.mem_of_mem_take h)) (by first | omega | (rw [List.length_take]; omega))) ?_)))
 rintro _ wa ⟨bx, rfl, sq, sr, ob, fd⟩
 refine Vp (c := bx / 2) Z Z (by omega) (by omega) (by omega) Z Z (Xd (o' := 3) Jl Z Z Z (Yg (v := vi (bx / 2)) (cs' := #[vi k, vi E.s, vi E.v, vi (bx / 2), vi dc, .slice (pa ag) 0 J, .slice (pa az) 0 ae, vi to]) X1 Z Z Z (du.blk.gn fd) (Nat.le_of_ble_eq_true Z) Z ?_))
 intro wb dv
 refine Xc (Y7 (Xu (Xa (Xp (vs := [vi k, vi E.s, vi E.v, vi (bx / 2), vi dc, .slice (pa ag) 0 J, .slice (pa az) 0 ae, vi to]) Y0 Z Z (dv.blk.rangeL 0 8 Z) Z (X0 (vs := [vi k, vi E.s, vi E.v, vi (bx / 2), vi dc, .slice (pa ag) 0 J, .slice (pa az) 0 ae, vi to]) (cs' := #[vi k, vi E.s, vi E.v, vi (bx / 2), vi dc, .slice (pa ag) 0 J, .slice (pa az) 0 ae, vi to]) Y0 Z Z Z (by simp [Value.oneCell']) ((((((gm.grown0 af.grw).gn ad.grw).gn fc).gn du.grw).gn fd).gn dv.grw) (Nat.le_of_ble_eq_true Z) Z ?_)))))
 intro wc eh
 refine Xc (Xt (⟨.agg #[vi k, vi E.s, vi E.v, vi (bx / 2), vi dc, .slice (pa ag) 0 J, .slice (pa az) 0 ae, vi to], J2 Z (Ym (vs := [vi k, vi E.s, vi E.v, vi (bx / 2), vi dc, .slice (pa ag) 0 J, .slice (pa az) 0 ae, vi to]) Y0 Z Z (eh.blk.rangeL 0 8 Z)), ⟨⟨k, E, bx / 2, dc, ([] : List Rt), ([] : List Int), to⟩, some ⟨ag, 0, none⟩, J, some ⟨az, 0, none⟩, ae⟩, (ah + 1 + 1), Z, ⟨OwnN.of (((((((d8.grown0 af.grw).gn ad.grw).gn fc).gn du.grw).gn fd).gn dv.grw).gn eh.grw) gi, ⟨([] : List Rt), OwnN.of (((((((d7.grown0 af.grw).gn ad.grw).gn fc).gn du.grw).gn fd).gn dv.grw).gn eh.grw) gh, Z, ?_⟩, ?_, ?_, ⟨show (0 : Int) ≤ bx / 2 by omega, show bx / 2 ≤ (1 : Int) by omega⟩⟩, by omega, by omega, ((ob.gn dv.grw).gn eh.grw), (low1 (low1 (grown_trans iv fd) dv.grw (by omega)) eh.grw (by omega))⟩))
 intro x hx; first | (simp [zeros4] at hx; subst hx; exact ⟨by decide, by decide, by decide, by decide⟩) | simp at hx
 · first | exact Nat.le_of_ble_eq_true rfl | omega | (simp only [List.length_nil]; omega)
 exact Nat.le_of_ble_eq_true Z
 have t8 := of_decide_eq_false ib
 refine Xa (X3 (q := decide (k = 4)) Z Z Z Z (Xe (v := vb (decide (k = 4))) Z Z (Xc (Xy Z (fun ic => ?_) (fun ic => ?_)))))
 have t9 := of_decide_eq_true ic
 refine Xa (Xb (v := pt R 0) Z Z (Xl Qz (Xg Z (Xg Z Xk)) Z (Qh ah 4 (by omega) _ R bs _ _ _ ((gl.grown0 af.grw).gn ad.grw) (by omega) (SlLt.low1 hs br hlo) (by first | exact hb | exact fun b h => hb b (List.mem_of_mem_take h)) (by first | omega | (rw [List.length_take]; omega))) ?_))
 rintro _ wd ⟨jf, rfl, su, sv, oc, fe⟩
 refine Xe (v := vi jf) Z Z (Xc (Yc (Qm (fun mm f' w' => ∃ (n : Int) (p1 : Int) (Bq : Nat) (cq : Nat) (ys : List Int), mm = n.toNat ∧ (0 ≤ n ∧ n ≤ 3) ∧ (ah + 1 ≤ p1 ∧ p1 ≤ (ah + 1) + 3 - n) ∧ (ys.length : Int) ≤ 3 - n ∧ Dw.Own w' Bq 3 1 cq ys.length (ys.flatMap icell) ∧ w.heap.size ≤ Bq ∧ R ≠ Bq ∧ bd ≠ Bq ∧ ag ≠ Bq ∧ d6 ≠ Bq ∧ f' 9 = vi n ∧ f' 0 = pt R 0 ∧ f' 6 = pt bd 0 ∧ f' 7 = pt d6 0 ∧ w.grownBy w' (some R) ∧ Blk w' bd 38 #[vi 0, vi 0, vi 0, vi 0, vi 0, .slice none 0 0, .slice none 0 0, vi 0] ∧ Dw.Own w' ag 42 5 J ([] : List Rt).length (([] : List Rt).flatMap Rt.cells) ∧ Blk w' d6 38 #[vi k, vi E.s, vi E.v, vi 0, vi 0, .slice (pa ag) 0 J, .slice (pa Bq) ys.length cq, vi to] ∧ Blk w' R 79 #[.slice a bs.length c, vi p1]) (jf.toNat) ⟨jf, (ah + 1), az, ae, ([] : List Int), Z, (by omega), (by omega), (by simp only [List.length_nil]; omega), (((d8.grown0 af.grw).gn ad.grw).gn fe), gi, (by omega), (by omega), (by omega), (by omega), Z, Z, Z, Z, (grown_trans br fe), (((gm.grown0 af.grw).gn ad.grw).gn fe), (((d7.grown0 af.grw).gn ad.grw).gn fe), (ad.blk.gn fe), oc⟩ ?_)))
 rintro mm ti mv ⟨n, p1, Bq, cq, ys, s3, hnn, hpp, hyl, hOwn, hlBq, q8, q9, ra, rb, ly, qe, g3, lz, fy, jg, jh, g1, mh⟩
 refine Xq (Xa (Xb (v := vi n) ly Z (Jd (q := decide (0 < n)) Z Z Z Z (Xc (Xy Z (fun ie => ?_) (fun ie => ?_))))))
 have ua := of_decide_eq_true ie
 refine Xw (Xu (Xq (Yc (Qy (m := 5) [[], [0], [], [2], [2, 3], [0, 1, 2, 3, 4], [0, 1, 2, 3, 4, 5], [0, 1, 2, 3, 4, 5, 6]] (fun S F w' => ∃ (ak : Int) (aw : Nat), mv.grownBy w' (some R) ∧ F 0 = pt R 0 ∧ F 6 = pt bd 0 ∧ F 7 = pt d6 0 ∧ F 9 = vi n ∧ (S 3 = false → Blk w' R 79 #[.slice a bs.length c, vi p1]) ∧ (S 3 = true → F 48 = vi ak ∧ 0 ≤ ak ∧ (ak < 20 ∨ ak = 0) ∧ Blk w' R 79 #[.slice a bs.length c, vi (p1 + 1)]) ∧ (S 4 = true → F 49 = .slice (pa aw) 1 1 ∧ w.heap.size ≤ aw ∧ Blk w' aw 3 (([ak] : List Int).flatMap icell).toArray ∧ bd < aw ∧ ag < aw ∧ d6 < aw ∧ R < aw ∧ Bq < aw ∧ mv.heap.size ≤ aw) ∧ Vals S F [(0, 45, pt d6 6), (1, 46, .slice (pa Bq) ys.length cq), (2, 47, pt R 0)]) Yy (by kernel_rfl) ⟨0, 0, X6 _, qe, g3, lz, ly, fun _ => (mh).grown0 (X6 _), Yt, Yt, J3 _⟩ ?_ ?_))))
 refine Xj (fun S F we hS hbef hcl hI => ?_) ?_
 obtain ⟨ak, aw, ne, qf, qg, l0, qh, c_old_R, a8, bm, hvs⟩ := hI
 exact Xd (o' := 6) Qt l0 Z Z (Xc ⟨ak, aw, ne, qf, qg, l0, qh, fun h => c_old_R h, a8, bm, Vals.up 0 hvs Z Z Z⟩)
 refine Xj (fun S F wg hS hbef hcl hI => ?_) ?_
 obtain ⟨ak, aw, i2, qi, qj, qk, qm, c_old_R, a8, bm, hvs⟩ := hI
 exact Xh (v := .slice (pa Bq) ys.length cq) Js (Vals.at 0 hvs Z (Xm 0 hbef Z)) ((g1.gn i2).cell Z) Z (Xc ⟨ak, aw, i2, qi, qj, qk, qm, fun h => c_old_R h, a8, bm, Vals.up 1 hvs Z Z Z⟩)
 refine Xj (fun S F wh hS hbef hcl hI => ?_) ?_
 obtain ⟨ak, aw, nf, l3, qn, qo, qp, c_old_R, a8, bm, hvs⟩ := hI
 exact Xb (v := pt R 0) l3 Z (Xc ⟨ak, aw, nf, l3, qn, qo, qp, fun h => c_old_R h, X5 3 hS hcl Z, X5 4 hS hcl Z, Vals.up 2 hvs Z Z Z⟩)
 refine Xj (fun S F wi hS hbef hcl hI => ?_) ?_
 obtain ⟨ak, aw, i3, qq, qr, qt, qu, c_old_R, a8, bm, hvs⟩ := hI
 refine Xl Qz (Xg (Vals.at 2 hvs Z (Xm 2 hbef Z)) (Xg Z Xk)) Z (Qh p1 20 (by omega) _ R bs _ _ _ (c_old_R hS) (by omega) (SlLt.low1 hs (grown_trans fy i3) hlo) (by first | exact hb | exact fun b h => hb b (List.mem_of_mem_take h)) (by first | omega | (rw [List.length_take]; omega))) ?_
 rintro _ wj ⟨rg, rfl, no, np, od, nb⟩
 exact Xc ⟨rg, aw, (grown_trans i3 nb), qq, qr, qt, qu, fun h => J8 h, fun _ => ⟨Z, no, np, od⟩, X5 4 hS hcl Z, Vals.keep hvs Z⟩
 refine Xj (fun S F wl hS hbef hcl hI => ?_) ?_
 obtain ⟨ak, aw, cw, qv, qw, qx, qy, c_old_R, a8, bm, hvs⟩ := hI
 obtain ⟨qz, nk, nn, bc⟩ := a8 (Xm 3 hbef rfl)
 refine Ya (ps := [(0, vi ak)]) (e := 3) (cs := (([ak] : List Int).flatMap icell).toArray) (Xn qz X8) (fun _ => by kernel_rfl) Z ?_
 intro pe wm ba
 have li := Yj ba (grown_trans fy cw)
 have fm := Xr ba ((jg.gn cw)).lt
 have fq := Xr ba ((jh.gn cw)).lt
 have fr := Xr ba ((g1.gn cw)).lt
 have gt := Xr ba ((hOwn.gn cw)).lt
 have o6 := Xr ba (bc).lt
 exact Xc ⟨ak, pe, (low0 cw ba.grw), qv, qw, qx, qy, fun hn => J8 ((Xm 3 hbef Z).symm.trans hn), fun h => let ⟨rl, rm, rn, ro⟩ := a8 h; ⟨rl, rm, rn, (ro).grown0 ba.grw⟩, fun _ => ⟨Z, li, ba.blk, fm, fq, fr, (by omega), gt, (nt cw.size (Nat.le_of_eq ba.eq.symm))⟩, Vals.keep hvs Z⟩
 exact Q5
 intro S F wn hall hI
 obtain ⟨ak, aw, fj, q0, q1, l4, q2, c_old_R, a8, bm, hvs⟩ := hI
 have iw := grown_trans fy fj
 obtain ⟨tf, nk, nn, bc⟩ := a8 (hall 3 (by decide))
 obtain ⟨q3, ry, gq, jz, kk, kq, o5, mt, q7⟩ := bm (hall 4 (by decide))
 have ml := (jg.gn fj)
 have mn := (jh.gn fj)
 have mo := (g1.gn fj)
 refine Uv (g := icell) (ys := ys) (zs := ([ak] : List Int)) V8 Z Yv (by omega) Kf (Vals.at 1 hvs Z (hall 1 (by decide))) q3 (hOwn.gn fj) (Jw Yv gq) (by simp only [List.length_cons, List.length_nil]; omega) (by omega) Z ?_
 intro cy fw wo m7 ff ln
 have lj : w.heap.size ≤ cy := by rcases ln with h | h; (rw [h]; exact hlBq); (rw [h]; exact iw.size)
 have ku : bd ≠ cy := by have h := (ml).lt; omega
 have k4 : ag ≠ cy := by have h := (mn).lt; omega
 have k5 : d6 ≠ cy := by have h := (mo).lt; omega
 have pc : R ≠ cy := by have h := (bc).lt; omega
 have k7 : aw ≠ cy := by have h := (gq).lt; omega
 refine Xd (o' := 6) Qt l4 Z Z (Yg (v := .slice (pa cy) (ys ++ ([ak] : List Int)).length fw) (cs' := #[vi k, vi E.s, vi E.v, vi 0, vi 0, .slice (pa ag) 0 J, .slice (pa cy) (ys ++ ([ak] : List Int)).length fw, vi to]) Js Z Z Z (mo.gn ff) (Nat.le_of_ble_eq_true Z) Z ?_)
 intro wq dw
 exact Xc (Y7 (Xu (X2 (Xb (v := vi n) q2 Z (Ys (c := n - 1) Z Z (by omega) (by omega) (by omega) Z (Xe (v := vi (n - 1)) Z Z (Xc (Xu (⟨(n - 1).toNat, by omega, (n - 1), (p1 + 1), cy, fw, (ys ++ ([ak] : List Int)), Z, (by omega), (by omega), (by simp only [List.length_append, List.length_cons, List.length_nil]; omega), (m7.gn dw.grw), lj, (by omega), (by omega), (by omega), (by omega), Z, q0, q1, l4, (low1 (low1 iw ff (by omega)) dw.grw (by omega)), ((ml.gn ff).gn dw.grw), ((mn.gn ff).gn dw.grw), dw.blk, ((bc.gn ff).gn dw.grw)⟩)))))))))
 have uc := of_decide_eq_false ie
 refine Qe (Qb (Qb (Jm (Y7 (Xu (Xa (Xp (vs := [vi k, vi E.s, vi E.v, vi 0, vi 0, .slice (pa ag) 0 J, .slice (pa Bq) ys.length cq, vi to]) Y0 lz Z (g1.rangeL 0 8 Z) Z (X0 (vs := [vi k, vi E.s, vi E.v, vi 0, vi 0, .slice (pa ag) 0 J, .slice (pa Bq) ys.length cq, vi to]) (cs' := #[vi k, vi E.s, vi E.v, vi 0, vi 0, .slice (pa ag) 0 J, .slice (pa Bq) ys.length cq, vi to]) Y0 g3 Z Z (by simp [Value.oneCell']) jg (Nat.le_of_ble_eq_true Z) Z ?_))))))))
 intro ws ei
 refine Xc (Xt (⟨.agg #[vi k, vi E.s, vi E.v, vi 0, vi 0, .slice (pa ag) 0 J, .slice (pa Bq) ys.length cq, vi to], J2 Z (Ym (vs := [vi k, vi E.s, vi E.v, vi 0, vi 0, .slice (pa ag) 0 J, .slice (pa Bq) ys.length cq, vi to]) Y0 g3 Z (ei.blk.rangeL 0 8 Z)), ⟨⟨k, E, 0, 0, ([] : List Rt), ys, to⟩, some ⟨ag, 0, none⟩, J, some ⟨Bq, 0, none⟩, cq⟩, p1, Z, ⟨OwnN.of (hOwn.gn ei.grw) hlBq, ⟨([] : List Rt), OwnN.of (jh.gn ei.grw) gh, Z, ?_⟩, ?_, ?_, ⟨show (0 : Int) ≤ 0 by omega, show 0 ≤ (1 : Int) by omega⟩⟩, by omega, by omega, (mh.gn ei.grw), (low1 fy ei.grw (by omega))⟩))
 intro x hx; first | (simp [zeros4] at hx; subst hx; exact ⟨by decide, by decide, by decide, by decide⟩) | simp at hx
 · first | exact Nat.le_of_ble_eq_true rfl | omega | (simp only [List.length_nil]; omega)
 exact Nat.le_of_ble_eq_true Z
 have ud := of_decide_eq_false ic
 refine Xa (X3 (q := decide (k = 3)) Z Z Z Z (Xe (v := vb (decide (k = 3))) Z Z (Xc (Qc Z l5 (Xw (Y7 (Xu (Xa (Xp (vs := [vi k, vi E.s, vi E.v, vi 0, vi 0, .slice (pa ag) 0 J, .slice (pa az) 0 ae, vi to]) Y0 Z Z (ad.blk.rangeL 0 8 Z) Z (X0 (vs := [vi k, vi E.s, vi E.v, vi 0, vi 0, .slice (pa ag) 0 J, .slice (pa az) 0 ae, vi to]) (cs' := #[vi k, vi E.s, vi E.v, vi 0, vi 0, .slice (pa ag) 0 J, .slice (pa az) 0 ae, vi to]) Y0 Z Z Z (by simp [Value.oneCell']) ((gm.grown0 af.grw).gn ad.grw) (Nat.le_of_ble_eq_true Z) Z ?_))))))))))
 intro wt ej
 refine Xc (Xt (⟨.agg #[vi k, vi E.s, vi E.v, vi 0, vi 0, .slice (pa ag) 0 J, .slice (pa az) 0 ae, vi to], J2 Z (Ym (vs := [vi k, vi E.s, vi E.v, vi 0, vi 0, .slice (pa ag) 0 J, .slice (pa az) 0 ae, vi to]) Y0 Z Z (ej.blk.rangeL 0 8 Z)), ⟨⟨k, E, 0, 0, ([] : List Rt), ([] : List Int), to⟩, some ⟨ag, 0, none⟩, J, some ⟨az, 0, none⟩, ae⟩, ah, Z, ⟨OwnN.of (((d8.grown0 af.grw).gn ad.grw).gn ej.grw) gi, ⟨([] : List Rt), OwnN.of (((d7.grown0 af.grw).gn ad.grw).gn ej.grw) gh, Z, ?_⟩, ?_, ?_, ⟨show (0 : Int) ≤ 0 by omega, show 0 ≤ (1 : Int) by omega⟩⟩, by omega, by omega, (((gl.grown0 af.grw).gn ad.grw).gn ej.grw), (low1 br ej.grw (by omega))⟩))
 intro x hx; first | (simp [zeros4] at hx; subst hx; exact ⟨by decide, by decide, by decide, by decide⟩) | simp at hx
 · first | exact Nat.le_of_ble_eq_true rfl | omega | (simp only [List.length_nil]; omega)
 exact Nat.le_of_ble_eq_true Z
 have ue : thingOk (⟨k, E, 0, 0, [], [], to⟩ : Th) = false := (Vx bn).symm.trans gk
 refine Xl Gq (Xg Z (Xg Z (Xg Z Xk))) Z (Pt k to E bn gk _) ?_
 rintro _ wu ⟨rfl, gz⟩
 have ix := low0 bq gz
 refine Xb (v := .tuple #[.agg #[vi 0, vi 0, vi 0, vi 0, vi 0, .slice none 0 0, .slice none 0 0, vi 0], vb false]) Z Z (X4 (v := .agg #[vi 0, vi 0, vi 0, vi 0, vi 0, .slice none 0 0, .slice none 0 0, vi 0]) Z Z Z (X4 (v := vb false) Z Z Z (Ye (cs := #[vi 0, vi 0, vi 0, vi 0, vi 0, .slice none 0 0, .slice none 0 0, vi 0]) Kw Z Z ?_)))
 intro td wv cj
 have rz := Yj cj ix
 have mp := (ca.grown0 gz)
 have o7 := Xr cj (mp).lt
 have mq := ((bp.blk.gn em).grown0 gz)
 have j1 := Xr cj (mq).lt
 refine X0 (vs := [vi 0, vi 0, vi 0, vi 0, vi 0, .slice none 0 0, .slice none 0 0, vi 0]) (cs' := #[vi 0, vi 0, vi 0, vi 0, vi 0, .slice none 0 0, .slice none 0 0, vi 0]) Y0 Z Z Z (by simp [Value.oneCell']) cj.blk (Nat.le_of_ble_eq_true Z) Z ?_
 intro ww co
 have gv := low1 (low0 ix cj.grw) co.grw (by omega)
 refine Xe (v := vb false) Z Z (Xc (Xq (Xa (Xd (o' := 0) Y9 Z Z Z (Xh (v := vi 0) X1 Z (co.blk.cell Z) Z (X3 (q := true) Z Z (by decide) Z (Xc (Qg Z Z (X2 (Y6 (ps := []) (v := .agg #[vi 0, vi 0]) X8 (by kernel_rfl) Z ?_))))))))))
 have ji := ((mp.grown0 cj.grw).gn co.grw)
 have jj := ((mq.grown0 cj.grw).gn co.grw)
 have uf : thingOk (⟨1, ⟨0, 0⟩, 0, 0, [], [], 0⟩ : Th) = true := (Vx (by decide)).symm.trans (by decide)
 refine Xl Gq (Xg Z (Xg Z (Xg Z Xk))) Z (Vf 1 0 ⟨0, 0⟩ (by decide) (by decide) _) ?_
 rintro _ wx ⟨bk, ar, bl, au, rfl, d1, m8, d2, m9, k8, ga⟩
 have lk := nt gv.size d1
 have o8 := nl (ji).lt d1
 have j2 := nl (jj).lt d1
 have kr := nl (co.blk).lt d1
 have ll := nt gv.size d2
 have o9 := nl (ji).lt d2
 have j3 := nl (jj).lt d2
 have ks := nl (co.blk).lt d2
 refine Xb (v := .tuple #[.agg #[vi 1, vi 0, vi 0, vi 0, vi 0, .slice (pa bk) 0 ar, .slice (pa bl) 0 au, vi 0], vb true]) Z Z (X4 (v := .agg #[vi 1, vi 0, vi 0, vi 0, vi 0, .slice (pa bk) 0 ar, .slice (pa bl) 0 au, vi 0]) Z Z Z (X4 (v := vb true) Z Z Z (X0 (vs := [vi 1, vi 0, vi 0, vi 0, vi 0, .slice (pa bk) 0 ar, .slice (pa bl) 0 au, vi 0]) (cs' := #[vi 1, vi 0, vi 0, vi 0, vi 0, .slice (pa bk) 0 ar, .slice (pa bl) 0 au, vi 0]) Y0 Z Z Z (by simp [Value.oneCell']) (co.blk.grown0 ga) (Nat.le_of_ble_eq_true Z) Z ?_)))
 intro wy ct
 have iy := low1 (low0 gv ga) ct.grw (by omega)
 refine Xc (Xu (Xq (Xa (Xd (o' := 0) Y9 Z Z Z (Xh (v := vi 1) X1 Z (ct.blk.cell Z) Z (Xc (Yc (Xa (X3 (q := true) Z Z (by decide) Z (Xe (v := vb true) Z Z (Xc (Qg Z Z ?_))))))))))))
 refine Xa (Xb (v := pt R 0) Z Z (Xl Qz (Xg Z (Xg Z Xk)) Z (Qh ah 20 (by omega) _ R bs _ _ _ ((ji.grown0 ga).gn ct.grw) (by omega) (SlLt.low1 hs iy hlo) (by first | exact hb | exact fun b h => hb b (List.mem_of_mem_take h)) (by first | omega | (rw [List.length_take]; omega))) ?_))
 rintro _ wz ⟨de, rfl, sw, sx, oe, fg⟩
 refine Xd (o' := 4) Q6 Z Z Z (Yg (v := vi de) (cs' := #[vi 1, vi 0, vi 0, vi 0, vi de, .slice (pa bk) 0 ar, .slice (pa bl) 0 au, vi 0]) X1 Z Z Z (ct.blk.gn fg) (Nat.le_of_ble_eq_true Z) Z ?_)
 intro w5 dx
 have iz := low1 (grown_trans iy fg) dx.grw (by omega)
 refine Xc (X2 (Xb (v := pt R 0) Z Z (Xl Qz (Xg Z (Xg Z Xk)) Z (Qh (ah + 1) 3 (by omega) _ R bs _ _ _ (oe.gn dx.grw) (by omega) (SlLt.low1 hs iz hlo) (by first | exact hb | exact fun b h => hb b (List.mem_of_mem_take h)) (by first | omega | (rw [List.length_take]; omega))) ?_)))
 rintro _ w7 ⟨bz, rfl, sy, s0, og, fh⟩
 refine Vp (c := bz / 2) Z Z (by omega) (by omega) (by omega) Z Z (Xd (o' := 3) Jl Z Z Z (Yg (v := vi (bz / 2)) (cs' := #[vi 1, vi 0, vi 0, vi (bz / 2), vi de, .slice (pa bk) 0 ar, .slice (pa bl) 0 au, vi 0]) X1 Z Z Z (dx.blk.gn fh) (Nat.le_of_ble_eq_true Z) Z ?_))
 intro w8 dy
 refine Xc (Y7 (Xu (Xa (Xp (vs := [vi 1, vi 0, vi 0, vi (bz / 2), vi de, .slice (pa bk) 0 ar, .slice (pa bl) 0 au, vi 0]) Y0 Z Z (dy.blk.rangeL 0 8 Z) Z (X0 (vs := [vi 1, vi 0, vi 0, vi (bz / 2), vi de, .slice (pa bk) 0 ar, .slice (pa bl) 0 au, vi 0]) (cs' := #[vi 1, vi 0, vi 0, vi (bz / 2), vi de, .slice (pa bk) 0 ar, .slice (pa bl) 0 au, vi 0]) Y0 Z Z Z (by simp [Value.oneCell']) ((((((jj.grown0 ga).gn ct.grw).gn fg).gn dx.grw).gn fh).gn dy.grw) (Nat.le_of_ble_eq_true Z) Z ?_)))))
 intro w9 ek
 refine Xc (Xt (⟨.agg #[vi 1, vi 0, vi 0, vi (bz / 2), vi de, .slice (pa bk) 0 ar, .slice (pa bl) 0 au, vi 0], J2 Z (Ym (vs := [vi 1, vi 0, vi 0, vi (bz / 2), vi de, .slice (pa bk) 0 ar, .slice (pa bl) 0 au, vi 0]) Y0 Z Z (ek.blk.rangeL 0 8 Z)), ⟨⟨1, ⟨0, 0⟩, bz / 2, de, ([] : List Rt), ([] : List Int), 0⟩, some ⟨bk, 0, none⟩, ar, some ⟨bl, 0, none⟩, au⟩, (ah + 1 + 1), Z, ⟨OwnN.of ((((((m9.gn ct.grw).gn fg).gn dx.grw).gn fh).gn dy.grw).gn ek.grw) ll, ⟨([] : List Rt), OwnN.of ((((((m8.gn ct.grw).gn fg).gn dx.grw).gn fh).gn dy.grw).gn ek.grw) lk, Z, ?_⟩, ?_, ?_, ⟨show (0 : Int) ≤ bz / 2 by omega, show bz / 2 ≤ (1 : Int) by omega⟩⟩, by omega, by omega, ((og.gn dy.grw).gn ek.grw), (low1 (low1 (grown_trans iz fh) dy.grw (by omega)) ek.grw (by omega))⟩))
 intro x hx; first | (simp [zeros4] at hx; subst hx; exact ⟨by decide, by decide, by decide, by decide⟩) | simp at hx
 · first | exact Nat.le_of_ble_eq_true rfl | omega | (simp only [List.length_nil]; omega)
 exact Nat.le_of_ble_eq_true Z
theorem Ls (p : Int) (hp : 0 ≤ p ∧ p ≤ 999999990000) (lo R : Nat) (bs : List Int) (a : Option Addr) (c : Nat) (w : World) (hR : Blk w R 79 #[.slice a bs.length c, vi p]) (hlo : lo ≤ R) (hs : SlLt lo w a 1 (bs.map bcell)) (hb : ∀ b ∈ bs, 0 ≤ b ∧ b ≤ 255) (hn : bs.length ≤ 1048576) : CallsR Tryz.prog 52 #[pt R 0] w (fun v w' => ∃ (B cap : Nat) (ms : List MTh) (p' : Int), v = .slice (pa B) ms.length cap ∧ TabG w.heap.size w' (pa B) ms ∧ Small ms ∧ (3 ≤ ms.length ∧ ms.length ≤ 8) ∧ p ≤ p' ∧ p' ≤ p + 600 ∧ Blk w' R 79 #[.slice a bs.length c, vi p'] ∧ w.grownBy w' (some R)) := by
 refine Xx (n := 142) Tryz.func52 Z Tryz.ntmps52 Z ?_
 have lv := World.grownBy.refl w (some R)
 have hRlt := hR.lt
 refine Xa (Xe (v := .slice none 0 0) Z Z (Xc (Xa (Ya (ps := [(0, vi 1), (1, vi 3), (2, vi 3)]) (e := 3) (cs := (([1, 3, 3] : List Int).flatMap icell).toArray) (Xn Z (Xn Z (Xn Z X8))) (fun _ => by kernel_rfl) Z ?_))))
 intro gu pq bb
 have gk := Yj bb lv
 have jz := Xr bb (hR).lt
 have ed := low0 lv bb.grw
 refine Xe (v := .slice (pa gu) 3 3) Z Z (Xc (Xq (Xa (Xb (v := pt R 0) Z Z (Xl Qz (Xg Z (Xg Z Xk)) Z (Qh p 6 (by omega) _ R bs _ _ _ (hR.grown0 bb.grw) (by omega) (SlLt.low1 hs ed hlo) (by first | exact hb | exact fun b h => hb b (List.mem_of_mem_take h)) (by first | omega | (rw [List.length_take]; omega))) ?_)))))
 rintro _ pr ⟨fa, rfl, mr, mt, jv, er⟩
 refine Xe (v := vi fa) Z Z (Xc (Yc (Qm (fun mm f' w' => ∃ (n : Int) (p1 : Int) (Bk : Nat) (ck : Nat) (ks : List Int), mm = n.toNat ∧ (0 ≤ n ∧ n ≤ 5) ∧ (p ≤ p1 ∧ p1 ≤ p + 6 - n) ∧ (3 ≤ ks.length ∧ (ks.length : Int) ≤ 8 - n) ∧ (∀ y ∈ ks, 1 ≤ y ∧ y ≤ 5) ∧ Dw.Own w' Bk 3 1 ck ks.length (ks.flatMap icell) ∧ w.heap.size ≤ Bk ∧ R ≠ Bk ∧ f' 3 = .slice (pa Bk) ks.length ck ∧ f' 4 = vi n ∧ f' 0 = pt R 0 ∧ f' 2 = .slice none 0 0 ∧ w.grownBy w' (some R) ∧ Blk w' R 79 #[.slice a bs.length c, vi p1]) (fa.toNat) ⟨fa, (p + 1), gu, 3, ([1, 3, 3] : List Int), Z, (by omega), (by omega), (by simp only [List.length_nil, List.length_cons]; omega), (by intro y hy; simp at hy; omega), (Own.rows Yv (bb.blk.gn er) (by simp)), gk, (by omega), Z, Z, Z, Z, (grown_trans ed er), jv⟩ ?_)))
 rintro mm nz pu ⟨n, p1, Bk, ck, ks, nc, hnn, hpp, hkl, hks, hOk, hlBk, pb, gw, gx, dw, gy, br, dq⟩
 refine Xq (Xa (Xb (v := vi n) gx Z (Jd (q := decide (0 < n)) Z Z Z Z (Xc (Xy Z (fun d4 => ?_) (fun d4 => ?_))))))
 have oc := of_decide_eq_true d4
 refine Xw (Xu (Xq (Yc (X2 (Xb (v := .slice (pa Bk) ks.length ck) gw Z (Ya (ps := [(0, vi 1), (1, vi 2), (2, vi 2), (3, vi 3), (4, vi 4), (5, vi 5)]) (e := 3) (cs := (([1, 2, 2, 3, 4, 5] : List Int).flatMap icell).toArray) (Xn Z (Xn Z (Xn Z (Xn Z (Xn Z (Xn Z X8)))))) (fun _ => by kernel_rfl) Z ?_))))))
 intro j9 pv an
 have mb := Yj an br
 have j1 := Xr an (dq).lt
 have i1 := Xr an (hOk).lt
 have ee := low0 br an.grw
 refine Xb (v := pt R 0) dw Z (Xl Qz (Xg Z (Xg Z Xk)) Z (Qh p1 6 (by omega) _ R bs _ _ _ (dq.grown0 an.grw) (by omega) (SlLt.low1 hs ee hlo) (by first | exact hb | exact fun b h => hb b (List.mem_of_mem_take h)) (by first | omega | (rw [List.length_take]; omega))) ?_)
 rintro _ pw ⟨fb, rfl, mu, mv, fg, co⟩
 have ef := grown_trans ee co
 refine Yb (o' := (fb).toNat * 1) J6 Z Z (by omega) (by omega) (by omega) Z ?_
 have fc := (an.blk.gn co)
 obtain ⟨bl, ez⟩ := Jn (l := ([1, 2, 2, 3, 4, 5] : List Int)) (i := (fb).toNat) (lq (fb).toNat 6)
 have jr := List.mem_of_getElem? ez
 simp only [List.mem_cons, List.not_mem_nil, or_false] at jr
 refine Xh (v := vi bl) X1 Z ((Q4 Yv fc ez) 0 _ Z) Z (Ya (ps := [(0, vi bl)]) (e := 3) (cs := (([bl] : List Int).flatMap icell).toArray) (Xn Z X8) (fun _ => by kernel_rfl) Z ?_)
 intro ka px ai
 have mc := Yj ai ef
 have j2 := Xr ai (fg).lt
 have g8 := ((hOk.grown0 an.grw).gn co)
 have i2 := Xr ai (g8).lt
 have fo := Xr ai (fc).lt
 have eg := low0 ef ai.grw
 have g9 := (fg.grown0 ai.grw)
 refine Uv (g := icell) (ys := ks) (zs := ([bl] : List Int)) V8 Z Yv (by omega) Kf Z Z (g8.grown0 ai.grw) (Jw Yv ai.blk) (by simp only [List.length_cons, List.length_nil]; omega) (by omega) Z ?_
 intro bh da py ja eu gq
 have gl : w.heap.size ≤ bh := by rcases gq with h | h; (rw [h]; exact hlBk); (rw [h]; exact eg.size)
 have j7 : R ≠ bh := by have h := (g9).lt; omega
 have fp : j9 ≠ bh := by have h := ((fc.grown0 ai.grw)).lt; omega
 have fq : ka ≠ bh := by have h := (ai.blk).lt; omega
 exact Xe (v := .slice (pa bh) (ks ++ ([bl] : List Int)).length da) Z Z (Xc (Y7 (Xu (X2 (Xb (v := vi n) gx Z (Ys (c := n - 1) Z Z (by omega) (by omega) (by omega) Z (Xe (v := vi (n - 1)) Z Z (Xc (Xu (⟨(n - 1).toNat, by omega, (n - 1), (p1 + 1), bh, da, (ks ++ ([bl] : List Int)), Z, (by omega), (by omega), (by simp only [List.length_append, List.length_cons, List.length_nil]; omega), (by intro y hy; rcases List.mem_append.1 hy with h | h; exact hks y h; (simp at h; omega)), ja, gl, (by omega), Z, Z, dw, gy, (low1 eg eu (by omega)), (g9.gn eu)⟩))))))))))
 have od := of_decide_eq_false d4
 refine Qe (Qb (Qb (Jm (Xu (Xa (Ya (ps := []) (e := 38) (cs := (([] : List MTh).flatMap MTh.cells).toArray) X8 (fun _ => by kernel_rfl) Z ?_))))))
 intro gv pz ao
 have gm := Yj ao br
 have j3 := Xr ao (dq).lt
 have i4 := Xr ao (hOk).lt
 refine Xe (v := .slice (pa gv) 0 0) Z Z (Xc (Xq (Xa (Xe (v := vi 0) Z Z (Xc (Yc (Qm (fun mm f' w' => ∃ (i : Nat) (p2 : Int) (Bt : Nat) (ct : Nat) (ms : List MTh), mm = ks.length - i ∧ i ≤ ks.length ∧ (p ≤ p2 ∧ p2 ≤ p + 6 + 12 * (i : Int)) ∧ ms.length = i ∧ RowsD 42 3 w.heap.size w' ms ∧ Dw.Own w' Bt 38 8 ct ms.length (ms.flatMap MTh.cells) ∧ w.heap.size ≤ Bt ∧ R ≠ Bt ∧ Bk ≠ Bt ∧ f' 5 = .slice (pa Bt) ms.length ct ∧ f' 6 = vi (i : Int) ∧ f' 0 = pt R 0 ∧ f' 2 = .slice none 0 0 ∧ f' 3 = .slice (pa Bk) ks.length ck ∧ w.grownBy w' (some R) ∧ Dw.Own w' Bk 3 1 ck ks.length (ks.flatMap icell) ∧ Blk w' R 79 #[.slice a bs.length c, vi p2]) (ks.length - 0) ⟨0, p1, gv, 0, ([] : List MTh), Z, (Nat.zero_le _), (by omega), Z, RowsD.nil, (Own.rows Yo ao.blk (by simp)), gm, (by omega), (by omega), Z, Z, dw, gy, gw, (low0 br ao.grw), (hOk.grown0 ao.grw), (dq.grown0 ao.grw)⟩ ?_)))))))
 rintro mm n5 i9 ⟨i, p2, Bt, ct, ms, nd, hi, pe, hml, hRows, hOt, hlBt, pc, pd, dx, dc, dy, dz, de, bt, fd, ia⟩
 have o9 := hkl
 refine Xq (Xa (Xb (v := vi (i : Int)) dc Z (Xb (v := .slice (pa Bk) ks.length ck) de Z (Yu (by kernel_rfl) Z Z (Qa (q := decide ((i : Int) < (ks.length : Int))) Z Z Z Z (Xc (Xy Z (fun d5 => ?_) (fun d5 => ?_))))))))
 have oe := of_decide_eq_true d5
 refine Xw (Xu (Xq (Yc (Xa (Xe (v := vi 0) Z Z (Xc (Xq (Xa (Xb (v := .slice (pa Bk) ks.length ck) de Z (Xb (v := vi (i : Int)) dc Z (Yb (o' := i * 1) J6 Z Z (by omega) (by omega) (by omega) Z ?_)))))))))))
 obtain ⟨bf, e0⟩ := Jn (l := ks) (i := i) (by omega)
 refine Xh (v := vi bf) X1 Z ((Own.range Yv fd e0) 0 _ Z) Z (X3 (q := decide (bf = 5)) Z Z Z Z (Xc (P0 (fun f' w' => (f' 0 = pt R 0 ∧ f' 2 = .slice none 0 0 ∧ f' 3 = .slice (pa Bk) ks.length ck ∧ f' 5 = .slice (pa Bt) ms.length ct ∧ f' 6 = vi (i : Int) ∧ f' 7 = vi (if bf = 5 then 1 else 0)) ∧ i9 = w') ?_ ?_)))
 refine Xy Z (fun cd => ?_) (fun cd => ?_)
 have og := of_decide_eq_true cd
 exact X2 (Xe (v := vi 1) Z Z (Xc (Xu (⟨⟨dy, dz, de, dx, dc, (congrArg (Value.int .i64) (if_pos (of_decide_eq_true cd)).symm)⟩, Z⟩))))
 have oh := of_decide_eq_false cd
 exact Xw (Xu (⟨⟨dy, dz, de, dx, dc, (congrArg (Value.int .i64) (if_neg (of_decide_eq_false cd)).symm)⟩, Z⟩))
 rintro n7 _ ⟨⟨gz, kc, g0, ke, g1, kf⟩, rfl⟩
 refine Xu (X2 (Xb (v := .slice (pa Bt) ms.length ct) ke Z (Xb (v := pt R 0) gz Z (Xb (v := .slice (pa Bk) ks.length ck) g0 Z (Xb (v := vi (i : Int)) g1 Z (Yb (o' := i * 1) J6 Z Z (by omega) (by omega) (by omega) Z (Xh (v := vi bf) X1 Z ((Own.range Yv fd e0) 0 _ Z) Z (Xb (v := vi (if bf = 5 then 1 else 0)) kf Z (Xl Zr (Xg Z (Xg Z (Xg Z Xk))) Z (Tb bf (if bf = 5 then 1 else 0) p2 (by omega) _ R bs _ _ _ ia (by omega) (SlLt.low1 hs bt hlo) (by first | exact hb | exact fun b h => hb b (List.mem_of_mem_take h)) (by first | omega | (rw [List.length_take]; omega))) ?_)))))))))
 rintro _ p0 ⟨ag, l0, rfl, fu, ng, nh, fh, bu⟩
 have eh := grown_trans bt bu
 have fv := RowD.mono fu bt.size
 refine Ya (ps := [(0, .agg #[vi ag.t.kind, vi ag.t.lab.s, vi ag.t.lab.v, vi ag.t.ve, vi ag.t.num, .slice ag.sa ag.t.slots.length ag.sc, .slice ag.qa ag.t.queue.length ag.qc, vi ag.t.to])]) (e := 38) (cs := (([ag] : List MTh).flatMap MTh.cells).toArray) (Xn Z X8) (fun _ => by kernel_rfl) Z ?_
 intro kb p8 ad
 have me := Yj ad eh
 have ib := (fd.gn bu)
 have i5 := Xr ad (ib).lt
 have j4 := Xr ad (fh).lt
 have ic := (hOt.gn bu)
 have i6 := Xr ad (ic).lt
 have ei := low0 eh ad.grw
 have fe := (ic.grown0 ad.grw)
 have ie := (ib.grown0 ad.grw)
 have ig := (fh.grown0 ad.grw)
 refine Uv (g := MTh.cells) (ys := ms) (zs := ([ag] : List MTh)) T5 Z Yo (by omega) Kv Z Z fe (Jw Yo ad.blk) (by simp only [List.length_cons, List.length_nil]; omega) (by omega) Z ?_
 intro bi db p9 jb bc gr
 have gp : w.heap.size ≤ bi := by rcases gr with h | h; (rw [h]; exact hlBt); (rw [h]; exact ei.size)
 have i8 : Bk ≠ bi := by have h := (ie).lt; omega
 have j8 : R ≠ bi := by have h := (ig).lt; omega
 have fr : kb ≠ bi := by have h := (ad.blk).lt; omega
 refine Xe (v := .slice (pa bi) (ms ++ ([ag] : List MTh)).length db) Z Z (Xc (Y7 (Xu (X2 (Xb (v := vi (i : Int)) g1 Z (Yn (c := (i : Int) + 1) Z Z (by omega) (by omega) (by omega) Z (Xe (v := vi ((i : Int) + 1)) Z Z (Xc (Xu ?_)))))))))
 have fw := (RowsD.typ (RowsD.low (RowsD.lt hRows bu (by omega)) ad.grw) bc fe (by decide) (by decide))
 exact ⟨ks.length - (i + 1), by omega, (i + 1), l0, bi, db, (ms ++ ([ag] : List MTh)), Z, (by omega), (by omega), (by rw [List.length_append, hml]; rfl), (RowsD.snoc fw (RowD.typ (RowD.low fv ad.grw) bc fe (by decide) (by decide))), jb, gp, (by omega), (by omega), Z, Z, gz, kc, g0, (low1 ei bc (by omega)), (ie.gn bc), (ig.gn bc)⟩
 have ol := of_decide_eq_false d5
 refine Qe (Qb (Qb (Jm (Xu (Xq (Xa (Xe (v := vi 0) Z Z (Xc (Yc ?_)))))))))
 obtain ⟨hi, hhi⟩ : ∃ n, n = i9.heap.size := ⟨_, rfl⟩
 have hH := RowsD.hi hRows
 rw [← hhi] at hH
 have hbt := (hOt).lt
 refine Qm (fun mm f' w' => ∃ (i3 : Nat) (p3 : Int), mm = ms.length - i3 ∧ i3 ≤ ms.length ∧ (p ≤ p3 ∧ p3 ≤ p + 102 + 56 * (i3 : Int)) ∧ RowsD 42 3 w.heap.size w' ms ∧ Dw.Own w' Bt 38 8 ct ms.length (ms.flatMap MTh.cells) ∧ hi ≤ w'.heap.size ∧ f' 8 = vi (i3 : Int) ∧ f' 0 = pt R 0 ∧ f' 2 = .slice none 0 0 ∧ f' 5 = .slice (pa Bt) ms.length ct ∧ w.grownBy w' (some R) ∧ Dw.Own w' Bt 38 8 ct ms.length (ms.flatMap MTh.cells) ∧ Blk w' R 79 #[.slice a bs.length c, vi p3]) (ms.length - 0) ⟨0, p2, Z, (Nat.zero_le _), (by omega), hRows, hOt, (Nat.le_of_eq hhi), Z, dy, dz, dx, bt, hOt, ia⟩ ?_
 rintro mm n9 qb ⟨i3, p3, ne, q6, pf, hRows, hOt, hhs, g2, df, kg, bj, ce, pn, ii⟩
 refine Xq (Xa (Xb (v := vi (i3 : Int)) g2 Z (Xb (v := .slice (pa Bt) ms.length ct) bj Z (Yu (by kernel_rfl) Z Z (Qa (q := decide ((i3 : Int) < (ms.length : Int))) Z Z Z Z (Xc (Xy Z (fun d6 => ?_) (fun d6 => ?_))))))))
 have om := of_decide_eq_true d6
 refine Xw (Xu (Xq (Yc (Xa (Xe (v := vi 0) Z Z (Xc (Yc (Qm (fun mm f' w' => ∃ (j : Nat) (p4 : Int), mm = (mAt ms i3).t.slots.length - j ∧ j ≤ (mAt ms i3).t.slots.length ∧ (p3 ≤ p4 ∧ p4 ≤ p3 + 14 * (j : Int)) ∧ RowsD 42 3 w.heap.size w' ms ∧ Dw.Own w' Bt 38 8 ct ms.length (ms.flatMap MTh.cells) ∧ hi ≤ w'.heap.size ∧ f' 9 = vi (j : Int) ∧ f' 0 = pt R 0 ∧ f' 2 = .slice none 0 0 ∧ f' 5 = .slice (pa Bt) ms.length ct ∧ f' 8 = vi (i3 : Int) ∧ w.grownBy w' (some R) ∧ Dw.Own w' Bt 38 8 ct ms.length (ms.flatMap MTh.cells) ∧ Blk w' R 79 #[.slice a bs.length c, vi p4]) ((mAt ms i3).t.slots.length - 0) ⟨0, p3, Z, (Nat.zero_le _), (by omega), hRows, hOt, hhs, Z, df, kg, bj, g2, ce, hOt, ii⟩ ?_))))))))
 rintro mm oa qd ⟨j, p4, nf, hj, pg, hRows, hOt, hhs, dg, bk, dh, bw, bx, cf, po, ij⟩
 have pm := (RowsD.at hRows (lq i3 ms.length)).sl
 refine Xq (Xa (Xb (v := vi (j : Int)) dg Z (Xb (v := .slice (pa Bt) ms.length ct) bw Z (Xb (v := vi (i3 : Int)) bx Z (Yb (o' := i3 * 8) Y2 Z Z (by omega) (by omega) (by omega) Z (Xd (o' := i3 * 8 + 5) Qj Z Z Z ?_))))))
 have ml := (RowsD.at hRows (lq i3 ms.length)).ve
 refine Xh (v := .slice (mAt ms i3).sa (mAt ms i3).t.slots.length (mAt ms i3).sc) Jh Z ((Own.range Yo hOt (xg ms i3)) 5 _ Z) Z (Yu (by kernel_rfl) Z Z (Qa (q := decide ((j : Int) < ((mAt ms i3).t.slots.length : Int))) Z Z Z Z (Xc (Xy Z (fun d7 => ?_) (fun d7 => ?_)))))
 have oo := of_decide_eq_true d7
 refine Xw (Xu (Xq (Yc (Xa (Xb (v := pt R 0) bk Z (Xl Zs (Xg Z Xk) Z (Ta p4 (by omega) _ R bs _ _ _ ij (by omega) (SlLt.low1 hs cf hlo) (by first | exact hb | exact fun b h => hb b (List.mem_of_mem_take h)) (by first | omega | (rw [List.length_take]; omega))) ?_))))))
 rintro _ qe ⟨E, am, rfl, nk, nn, no, np, ni, nj, c8, ah⟩
 have ej := grown_trans cf ah
 refine Ye (cs := #[vi 0, vi 0, vb false, vb false, vb false]) Kz Z Z ?_
 intro bv qf O
 have mf := Yj O ej
 have lw : hi ≤ bv := nt (nt hhs ah.size) (Nat.le_of_eq O.eq.symm)
 have dr := (hOt.gn ah)
 have i7 := Xr O (dr).lt
 have j5 := Xr O (c8).lt
 refine X0 (vs := [vi E.th, vi E.ve, vb E.rd, vb E.wr, vb E.wk]) (cs' := #[vi E.th, vi E.ve, vb E.rd, vb E.wr, vb E.wk]) Yx Z Z Z (by simp [Value.oneCell']) O.blk (Nat.le_of_ble_eq_true Z) Z ?_
 intro qg V
 have cg := low1 (low0 ej O.grw) V.grw (by omega)
 refine Xc (Kn (fun f' w' => ∃ (p5 : Int) (r5 : Rt), (p4 ≤ p5 ∧ p5 ≤ p4 + 12) ∧ RB r5 ∧ RowsD 42 3 w.heap.size w' ms ∧ Dw.Own w' Bt 38 8 ct ms.length (ms.flatMap MTh.cells) ∧ hi ≤ w'.heap.size ∧ f' 0 = pt R 0 ∧ f' 2 = .slice none 0 0 ∧ f' 5 = .slice (pa Bt) ms.length ct ∧ f' 8 = vi (i3 : Int) ∧ f' 9 = vi (j : Int) ∧ f' 10 = pt bv 0 ∧ w.grownBy w' (some R) ∧ Blk w' bv 42 #[vi r5.th, vi r5.ve, vb r5.rd, vb r5.wr, vb r5.wk] ∧ Dw.Own w' Bt 38 8 ct ms.length (ms.flatMap MTh.cells) ∧ Blk w' R 79 #[.slice a bs.length c, vi p5]) ?_ ?_)
 refine Xa (Xd (o' := 0) Yz Z Z Z (Xh (v := vi E.th) X1 Z (V.blk.cell Z) Z (Jd (q := decide (0 < E.th)) Z Z Z Z (Xb (v := vb (decide (0 < E.th))) Z Z ?_))))
 rcases Yf (decide (0 < E.th)) with av | av
 have oq := of_decide_eq_true av
 refine Xf Z Z Z av (Xb (v := pt R 0) bk Z (Xf Z Z Z av (Xl Qz (Xg Z (Xg Z Xk)) Z (Qh am 40 (by omega) _ R bs _ _ _ ((c8.grown0 O.grw).gn V.grw) (by omega) (SlLt.low1 hs cg hlo) (by first | exact hb | exact fun b h => hb b (List.mem_of_mem_take h)) (by first | omega | (rw [List.length_take]; omega))) ?_)))
 rintro _ l3 ⟨ik, rfl, mw, my, fi, ae⟩
 have cj := grown_trans cg ae
 refine Xf Z Z Z av (Jd (q := decide (0 < ik)) Z Z Z Z (Xs (v := vb (decide (0 < ik))) Z av Z Z (Xc (Xy Z (fun d8 => ?_) (fun d8 => ?_)))))
 have ot := of_decide_eq_true d8
 refine Xq (Qy (m := 7) [[], [0], [], [2], [0, 1, 2, 3], [], [5], [0, 1, 2, 3, 4, 5, 6], [0, 1, 2, 3, 4, 5, 6, 7], [0, 1, 2, 3, 4, 5, 6, 7, 8], [0, 1, 2, 3, 4, 5, 6, 7, 8, 9]] (fun S F w' => ∃ (G : Int), l3.grownBy w' (some R) ∧ F 0 = pt R 0 ∧ F 2 = .slice none 0 0 ∧ F 5 = .slice (pa Bt) ms.length ct ∧ F 8 = vi (i3 : Int) ∧ F 9 = vi (j : Int) ∧ F 10 = pt bv 0 ∧ (S 3 = false → Blk w' R 79 #[.slice a bs.length c, vi (am + 1)]) ∧ (S 3 = true → F 77 = vi G ∧ 0 ≤ G ∧ (G < 8 ∨ G = 0) ∧ Blk w' R 79 #[.slice a bs.length c, vi (am + 1 + 1)]) ∧ (S 4 = true → F 78 = vi (E.th + G)) ∧ Vals S F [(0, 74, pt bv 0), (1, 75, vi E.th), (2, 76, pt R 0), (5, 79, .slice (pa Bt) ms.length ct), (6, 80, vi (ms.length : Int))]) Yy (by kernel_rfl) ⟨0, X6 _, bk, dh, bw, bx, dg, Z, fun _ => (fi).grown0 (X6 _), Yt, Yt, J3 _⟩ ?_ ?_)
 refine Xj (fun S F qh hS hbef hcl hI => ?_) ?_
 obtain ⟨G, jf, kh, ki, kj, kk, kl, g3, c_old_R, ar, bg, hvs⟩ := hI
 exact Xd (o' := 0) Yz g3 Z Z (Xc ⟨G, jf, kh, ki, kj, kk, kl, g3, fun h => c_old_R h, ar, X5 4 hS hcl Z, Vals.up 0 hvs Z Z Z⟩)
 refine Xj (fun S F qi hS hbef hcl hI => ?_) ?_
 obtain ⟨G, ew, km, kn, ko, kp, kq, kr, c_old_R, ar, bg, hvs⟩ := hI
 exact Xh (v := vi E.th) X1 (Vals.at 0 hvs Z (Xm 0 hbef Z)) (((V.blk.gn ae).gn ew).cell Z) Z (Xc ⟨G, ew, km, kn, ko, kp, kq, kr, fun h => c_old_R h, ar, X5 4 hS hcl Z, Vals.up 1 hvs Z Z Z⟩)
 refine Xj (fun S F qj hS hbef hcl hI => ?_) ?_
 obtain ⟨G, jg, g5, kt, ku, kv, kw, kx, c_old_R, ar, bg, hvs⟩ := hI
 exact Xb (v := pt R 0) g5 Z (Xc ⟨G, jg, g5, kt, ku, kv, kw, kx, fun h => c_old_R h, X5 3 hS hcl Z, X5 4 hS hcl Z, Vals.up 2 hvs Z Z Z⟩)
 refine Xj (fun S F qk hS hbef hcl hI => ?_) ?_
 obtain ⟨G, ex, ky, kz, k0, k3, k4, k5, c_old_R, ar, bg, hvs⟩ := hI
 refine Xl Qz (Xg (Vals.at 2 hvs Z (Xm 2 hbef Z)) (Xg Z Xk)) Z (Qh (am + 1) 8 (by omega) _ R bs _ _ _ (c_old_R hS) (by omega) (SlLt.low1 hs (grown_trans cj ex) hlo) (by first | exact hb | exact fun b h => hb b (List.mem_of_mem_take h)) (by first | omega | (rw [List.length_take]; omega))) ?_
 rintro _ qm ⟨lx, rfl, jo, jp, jw, je⟩
 exact Xc ⟨lx, (grown_trans ex je), ky, kz, k0, k3, k4, k5, fun h => J8 h, fun _ => ⟨Z, jo, jp, jw⟩, X5 4 hS hcl Z, Vals.keep hvs Z⟩
 refine Xj (fun S F qn hS hbef hcl hI => ?_) ?_
 obtain ⟨G, jh, k6, k7, k8, k9, la, lc, c_old_R, ar, bg, hvs⟩ := hI
 obtain ⟨ld, jl, jm, c9⟩ := ar (Xm 3 hbef rfl)
 exact Yn (c := E.th + G) (Vals.at 1 hvs Z (Xm 1 hbef Z)) ld (by omega) (by omega) (by omega) Z (Xc ⟨G, jh, k6, k7, k8, k9, la, lc, fun hn => J8 ((Xm 3 hbef Z).symm.trans hn), ar, fun _ => Z, Vals.keep hvs Z⟩)
 refine Xj (fun S F qo hS hbef hcl hI => ?_) ?_
 obtain ⟨G, ji, le, lf, g6, lg, lh, li, c_old_R, ar, bg, hvs⟩ := hI
 exact Xb (v := .slice (pa Bt) ms.length ct) g6 Z (Xc ⟨G, ji, le, lf, g6, lg, lh, li, fun h => c_old_R h, ar, bg, Vals.up 3 hvs Z Z Z⟩)
 refine Xj (fun S F qp hS hbef hcl hI => ?_) ?_
 obtain ⟨G, jj, lj, lk, ll, lm, ln, lp, c_old_R, ar, bg, hvs⟩ := hI
 exact Yu (by kernel_rfl) (Vals.at 3 hvs Z (Xm 5 hbef Z)) Z (Xc ⟨G, jj, lj, lk, ll, lm, ln, lp, fun h => c_old_R h, ar, bg, Vals.up 4 hvs Z Z Z⟩)
 exact Q5
 intro S F qq hall hI
 obtain ⟨G, aq, di, d0, dk, d1, d2, au, c_old_R, ar, bg, hvs⟩ := hI
 obtain ⟨ny, jl, jm, c9⟩ := ar (hall 3 (by decide))
 obtain lu := bg (hall 4 (by decide))
 have nq := Int.emod_nonneg (E.th + G) (show (ms.length : Int) ≠ 0 by omega)
 have nr := Int.emod_lt_of_pos (E.th + G) (show 0 < (ms.length : Int) by omega)
 refine Q8 (c := (E.th + G) % (ms.length : Int)) lu (Vals.at 4 hvs Z (hall 6 (by decide))) (by omega) (by omega) (by omega) Z Z (Yn (c := 1 + ((E.th + G) % (ms.length : Int))) Z Z (by omega) (by omega) (by omega) Z (Xd (o' := 0) Yz au Z Z (Yg (v := vi (1 + ((E.th + G) % (ms.length : Int)))) (cs' := #[vi (1 + ((E.th + G) % (ms.length : Int))), vi E.ve, vb E.rd, vb E.wr, vb E.wk]) X1 Z Z Z ((V.blk.gn ae).gn aq) (Nat.le_of_ble_eq_true Z) Z ?_)))
 intro qr aj
 refine Xc (Xu (Xa (Xb (v := .slice (pa Bt) ms.length ct) dk Z (Xd (o' := 0) Yz au Z Z (Xh (v := vi (1 + ((E.th + G) % (ms.length : Int)))) X1 Z (aj.blk.cell Z) Z (Ys (c := (1 + ((E.th + G) % (ms.length : Int))) - 1) Z Z (by omega) (by omega) (by omega) Z (Yb (o' := ((1 + ((E.th + G) % (ms.length : Int))) - 1).toNat * 8) Y2 Z Z (by omega) (by omega) (by omega) Z (Xd (o' := ((1 + ((E.th + G) % (ms.length : Int))) - 1).toNat * 8 + 3) Jl Z Z Z ?_))))))))
 have dt := (((((dr.grown0 O.grw).gn V.grw).gn ae).gn aq).gn aj.grw)
 have ba := (RowsD.ge (RowsD.lt (RowsD.lt (RowsD.ge (RowsD.low (RowsD.lt hRows ah (by omega)) O.grw) V.grw hH (by omega)) ae (by omega)) aq (by omega)) aj.grw hH (by omega))
 have mn := (RowsD.at ba (show ((1 + ((E.th + G) % (ms.length : Int))) - 1).toNat < ms.length by omega)).ve
 refine Xh (v := vi (mAt ms ((1 + ((E.th + G) % (ms.length : Int))) - 1).toNat).t.ve) X1 Z ((Own.range Yo dt (xg ms ((1 + ((E.th + G) % (ms.length : Int))) - 1).toNat)) 3 _ Z) Z (Xd (o' := 1) Vd au Z Z (Yg (v := vi (mAt ms ((1 + ((E.th + G) % (ms.length : Int))) - 1).toNat).t.ve) (cs' := #[vi (1 + ((E.th + G) % (ms.length : Int))), vi (mAt ms ((1 + ((E.th + G) % (ms.length : Int))) - 1).toNat).t.ve, vb E.rd, vb E.wr, vb E.wk]) X1 Z Z Z aj.blk (Nat.le_of_ble_eq_true Z) Z ?_))
 intro qt ab
 have cl := low1 (low1 (grown_trans cj aq) aj.grw (by omega)) ab.grw (by omega)
 refine Xc (Xa (Xd (o' := 1) Vd au Z Z (Xh (v := vi (mAt ms ((1 + ((E.th + G) % (ms.length : Int))) - 1).toNat).t.ve) X1 Z (ab.blk.cell Z) Z (Jd (q := decide (0 < (mAt ms ((1 + ((E.th + G) % (ms.length : Int))) - 1).toNat).t.ve)) Z Z Z Z (Xb (v := vb (decide (0 < (mAt ms ((1 + ((E.th + G) % (ms.length : Int))) - 1).toNat).t.ve))) Z Z ?_)))))
 rcases Yf (decide (0 < (mAt ms ((1 + ((E.th + G) % (ms.length : Int))) - 1).toNat).t.ve)) with aw | aw
 have ou := of_decide_eq_true aw
 refine Xf Z Z Z aw (Xb (v := pt R 0) di Z (Xf Z Z Z aw (Xl Qz (Xg Z (Xg Z Xk)) Z (Qh (am + 1 + 1) 5 (by omega) _ R bs _ _ _ ((c9.gn aj.grw).gn ab.grw) (by omega) (SlLt.low1 hs cl hlo) (by first | exact hb | exact fun b h => hb b (List.mem_of_mem_take h)) (by first | omega | (rw [List.length_take]; omega))) ?_)))
 rintro _ qu ⟨il, rfl, mz, m3, fj, ak⟩
 have ek := grown_trans cl ak
 refine Xf Z Z Z aw (X3 (q := decide (il = 0)) Z Z Z Z (Xs (v := vb (decide (il = 0))) Z aw Z Z (Xc (Xy Z (fun d9 => ?_) (fun d9 => ?_)))))
 have ov := of_decide_eq_true d9
 refine X2 (Xd (o' := 1) Vd au Z Z ?_)
 have im := (ab.blk.gn ak)
 refine Xh (v := vi (mAt ms ((1 + ((E.th + G) % (ms.length : Int))) - 1).toNat).t.ve) X1 Z (im.cell Z) Z (Ys (c := (mAt ms ((1 + ((E.th + G) % (ms.length : Int))) - 1).toNat).t.ve - 1) Z Z (by omega) (by omega) (by omega) Z (Xd (o' := 1) Vd au Z Z (Yg (v := vi ((mAt ms ((1 + ((E.th + G) % (ms.length : Int))) - 1).toNat).t.ve - 1)) (cs' := #[vi (1 + ((E.th + G) % (ms.length : Int))), vi ((mAt ms ((1 + ((E.th + G) % (ms.length : Int))) - 1).toNat).t.ve - 1), vb E.rd, vb E.wr, vb E.wk]) X1 Z Z Z im (Nat.le_of_ble_eq_true Z) Z ?_)))
 intro qv a9
 refine Xc (Xu ?_)
 have fx := (RowsD.ge (RowsD.lt (RowsD.ge ba ab.grw hH (by omega)) ak (by omega)) a9.grw hH (by omega))
 have io := (((dt.gn ab.grw).gn ak).gn a9.grw)
 exact ⟨(am + 1 + 1 + 1), (⟨1 + ((E.th + G) % (ms.length : Int)), (mAt ms ((1 + ((E.th + G) % (ms.length : Int))) - 1).toNat).t.ve - 1, E.rd, E.wr, E.wk⟩ : Rt), (by omega), (rbo (1 + ((E.th + G) % (ms.length : Int))) ((mAt ms ((1 + ((E.th + G) % (ms.length : Int))) - 1).toNat).t.ve - 1) Z Z), fx, io, (nt (nt (nt (nt (nt (nt (nt (nt (nt hhs ah.size) O.grw.size) V.grw.size) ae.size) aq.size) aj.grw.size) ab.grw.size) ak.size) a9.grw.size), di, d0, dk, d1, d2, au, (low1 ek a9.grw (by omega)), a9.blk, io, (fj.gn a9.grw)⟩
 have ow := of_decide_eq_false d9
 refine Xw (Xu ?_)
 have fy := (RowsD.lt (RowsD.ge ba ab.grw hH (by omega)) ak (by omega))
 have ip := ((dt.gn ab.grw).gn ak)
 exact ⟨(am + 1 + 1 + 1), (⟨1 + ((E.th + G) % (ms.length : Int)), (mAt ms ((1 + ((E.th + G) % (ms.length : Int))) - 1).toNat).t.ve, E.rd, E.wr, E.wk⟩ : Rt), (by omega), (rbo (1 + ((E.th + G) % (ms.length : Int))) ((mAt ms ((1 + ((E.th + G) % (ms.length : Int))) - 1).toNat).t.ve) Z Z), fy, ip, (nt (nt (nt (nt (nt (nt (nt (nt hhs ah.size) O.grw.size) V.grw.size) ae.size) aq.size) aj.grw.size) ab.grw.size) ak.size), di, d0, dk, d1, d2, au, ek, (ab.blk.gn ak), ip, fj⟩
 have ox := of_decide_eq_false aw
 iterate 3 refine Xi rfl rfl rfl aw rfl ?_
 refine Xo (v := vb false) Z aw Z Z (Xc (Qc Z Z (Xw (Xu ?_))))
 have fz := (RowsD.ge ba ab.grw hH (by omega))
 have iq := (dt.gn ab.grw)
 exact ⟨(am + 1 + 1), (⟨1 + ((E.th + G) % (ms.length : Int)), (mAt ms ((1 + ((E.th + G) % (ms.length : Int))) - 1).toNat).t.ve, E.rd, E.wr, E.wk⟩ : Rt), (by omega), (rbo (1 + ((E.th + G) % (ms.length : Int))) ((mAt ms ((1 + ((E.th + G) % (ms.length : Int))) - 1).toNat).t.ve) Z Z), fz, iq, (nt (nt (nt (nt (nt (nt (nt hhs ah.size) O.grw.size) V.grw.size) ae.size) aq.size) aj.grw.size) ab.grw.size), di, d0, dk, d1, d2, au, cl, ab.blk, iq, ((c9.gn aj.grw).gn ab.grw)⟩
 have oy := of_decide_eq_false d8
 refine Xw (Xu ?_)
 have f8 := (RowsD.lt (RowsD.ge (RowsD.low (RowsD.lt hRows ah (by omega)) O.grw) V.grw hH (by omega)) ae (by omega))
 have ir := (((dr.grown0 O.grw).gn V.grw).gn ae)
 exact ⟨(am + 1), E, (by omega), (rbo (E.th) (E.ve) Z Z), f8, ir, (nt (nt (nt (nt hhs ah.size) O.grw.size) V.grw.size) ae.size), bk, dh, bw, bx, dg, Z, cj, (V.blk.gn ae), ir, fi⟩
 have oz := of_decide_eq_false av
 iterate 3 refine Xi rfl rfl rfl av rfl ?_
 refine Xo (v := vb false) Z av Z Z (Xc (Qc Z Z (Xw (Xu ?_))))
 have f9 := (RowsD.ge (RowsD.low (RowsD.lt hRows ah (by omega)) O.grw) V.grw hH (by omega))
 have it := ((dr.grown0 O.grw).gn V.grw)
 exact ⟨am, E, (by omega), (rbo (E.th) (E.ve) Z Z), f9, it, (nt (nt (nt hhs ah.size) O.grw.size) V.grw.size), bk, dh, bw, bx, dg, Z, cg, V.blk, it, ((c8.grown0 O.grw).gn V.grw)⟩
 rintro ob l4 ⟨p5, r5, ph, gt, hRows, hOt, hhs, dl, d3, bz, ca, cc, g7, jd, iu, pp, ly⟩
 have pi := gt.1; have pj := gt.2.1; have pk := gt.2.2.1; have pl := gt.2.2.2
 refine Xq ?_
 obtain ⟨nw, nu, dn, l7, gi, l9⟩ := RowD.slot (RowsD.at hRows (lq i3 ms.length)) (by omega)
 have l5 := hH _ (List.mem_of_getElem? (xg ms i3)) _ (Or.inl dn)
 refine Yw (m := 7) (vals := [(104, .slice (pa Bt) ms.length ct), (105, vi (i3 : Int)), (106, pt Bt (i3 * 8)), (107, pt Bt (i3 * 8 + 5)), (108, .slice (mAt ms i3).sa (mAt ms i3).t.slots.length (mAt ms i3).sc), (109, vi (j : Int)), (110, .agg #[vi r5.th, vi r5.ve, vb r5.rd, vb r5.wr, vb r5.wk])]) (fun w' => l4.grownBy w' none) Yy (by kernel_rfl) (X6 _) ?_ ?_
 refine yl Z (fun _ _ k => Xb (v := .slice (pa Bt) ms.length ct) bz Z k) (yl Z (fun _ _ k => Xb (v := vi (i3 : Int)) ca Z k) (yl Z (fun _ _ k => Yb (o' := i3 * 8) Y2 Z Z (by omega) (by omega) (by omega) Z k) (yl Z (fun _ _ k => Xd (o' := i3 * 8 + 5) Qj Z Z Z k) ?_)))
 refine Ql Z (fun qw cy => ?_) ?_
 have ga := (RowsD.low hRows cy)
 have mo := (RowsD.at ga (lq i3 ms.length)).ve
 exact Xh (v := .slice (mAt ms i3).sa (mAt ms i3).t.slots.length (mAt ms i3).sc) Jh Z ((Own.range Yo (hOt.grown0 cy) (xg ms i3)) 5 _ Z) Z (Xc ⟨Z, cy⟩)
 exact yl Z (fun _ _ k => Xb (v := vi (j : Int)) cc Z k) (yl Z (fun _ jk k => Xp (vs := [vi r5.th, vi r5.ve, vb r5.rd, vb r5.wr, vb r5.wk]) Yx g7 Z ((iu.grown0 jk).rangeL 0 5 Z) Z k) Y5)
 intro qx al
 refine Xz Ka Z Z dn (Nat.zero_add _) (by omega) (by omega) Z ?_
 have a8 := (gi.grown0 al)
 have bm : RB r5 := (rbo (r5.th) (r5.ve) Z Z)
 have du := (hOt.grown0 al)
 have mg := Vt du a8 (by decide)
 have iv := (ly.grown0 al)
 have bn := (RowsD.low hRows al)
 refine L8 (z' := r5) Yx Z Z a8 (by omega) Z ?_
 intro qy cz ac
 refine Xc (Xu (Xa (Xp (vs := [vi r5.th, vi r5.ve, vb r5.rd, vb r5.wr, vb r5.wk]) Yx g7 Z (((iu.grown0 al).gn ac).rangeL 0 5 Z) Z (Xl F3 (Xg Z Xk) Z (Ly r5 _) ?_))))
 rintro _ qz ⟨rfl, af⟩
 have cm := low0 (low1 (low0 jd al) ac (by omega)) af
 refine Yl (b' := !rightOk r5) Z Z Z (Xb (v := vb (!rightOk r5)) Z Z ?_)
 rcases Yf (!rightOk r5) with az | az
 have o0 := Q2 az
 refine Xf Z Z Z az (Xb (v := pt R 0) dl Z (Xf Z Z Z az (Xl Qz (Xg Z (Xg Z Xk)) Z (Qh p5 3 (by omega) _ R bs _ _ _ ((iv.gn ac).grown0 af) (by omega) (SlLt.low1 hs cm hlo) (by first | exact hb | exact fun b h => hb b (List.mem_of_mem_take h)) (by first | omega | (rw [List.length_take]; omega))) ?_)))
 rintro _ q0 ⟨iw, rfl, m4, m5, fk, ap⟩
 have em := grown_trans cm ap
 refine Xf Z Z Z az (Jd (q := decide (0 < iw)) Z Z Z Z (Xs (v := vb (decide (0 < iw))) Z az Z Z (Xc (Xy Z (fun ea => ?_) (fun ea => ?_)))))
 have o1 := of_decide_eq_true ea
 refine X2 (Xb (v := .slice (pa Bt) ms.length ct) bz Z (Xb (v := vi (i3 : Int)) ca Z (Yb (o' := i3 * 8) Y2 Z Z (by omega) (by omega) (by omega) Z (Xd (o' := i3 * 8 + 5) Qj Z Z Z ?_))))
 have ff := (((du.gn ac).grown0 af).gn ap)
 have bp := (RowsD.lt (RowsD.low (RowsD.put bn cz ac bm a8 (by decide)) af) ap (by omega))
 have mp := (RowsD.at bp (lq i3 ms.length)).ve
 refine Xh (v := .slice (mAt ms i3).sa (mAt ms i3).t.slots.length (mAt ms i3).sc) Jh Z ((Own.range Yo ff (xg ms i3)) 5 _ Z) Z (Xb (v := vi (j : Int)) cc Z (Y6 (ps := []) (v := .agg #[vi 0, vi 0, vb false, vb false, vb false]) X8 (by kernel_rfl) Z ?_))
 obtain ⟨nx, nv, dp, l8, gj, ma⟩ := RowD.slot (RowsD.at bp (lq i3 ms.length)) (by omega)
 have l6 := hH _ (List.mem_of_getElem? (xg ms i3)) _ (Or.inl dp)
 refine Xz Ka Z Z dp (Nat.zero_add _) (by omega) (by omega) Z ?_
 have bq := gj
 have ft : RB (⟨0, 0, false, false, false⟩ : Rt) := (rbo (0) (0) Z Z)
 have mh := Vt ff bq (by decide)
 refine L8 (z' := (⟨0, 0, false, false, false⟩ : Rt)) Yx Z Z bq (by omega) Z ?_
 intro q1 js bd
 refine Xc (Y7 (Xu (X2 (Xb (v := vi (j : Int)) cc Z (Yn (c := (j : Int) + 1) Z Z (by omega) (by omega) (by omega) Z (Xe (v := vi ((j : Int) + 1)) Z Z (Xc (Xu ?_))))))))
 have gb := (RowsD.put bp js bd ft bq (by decide))
 have ix := (ff.gn bd)
 exact ⟨(mAt ms i3).t.slots.length - (j + 1), by omega, (j + 1), (p5 + 1), Z, (by omega), (by omega), gb, ix, (nt (nt (nt (nt (nt hhs al.size) ac.size) af.size) ap.size) bd.size), Z, dl, d3, bz, ca, (low1 em bd (by omega)), ix, (fk.gn bd)⟩
 have o3 := of_decide_eq_false ea
 refine Xw (Y7 (Xu (X2 (Xb (v := vi (j : Int)) cc Z (Yn (c := (j : Int) + 1) Z Z (by omega) (by omega) (by omega) Z (Xe (v := vi ((j : Int) + 1)) Z Z (Xc (Xu ?_))))))))
 have gc := (RowsD.lt (RowsD.low (RowsD.put bn cz ac bm a8 (by decide)) af) ap (by omega))
 have iy := (((du.gn ac).grown0 af).gn ap)
 exact ⟨(mAt ms i3).t.slots.length - (j + 1), by omega, (j + 1), (p5 + 1), Z, (by omega), (by omega), gc, iy, (nt (nt (nt (nt hhs al.size) ac.size) af.size) ap.size), Z, dl, d3, bz, ca, em, iy, fk⟩
 have o4 := Qx az
 iterate 3 refine Xi rfl rfl rfl az rfl ?_
 refine Xo (v := vb false) Z az Z Z (Xc (Qc Z Z (Xw (Y7 (Xu (X2 (Xb (v := vi (j : Int)) cc Z (Yn (c := (j : Int) + 1) Z Z (by omega) (by omega) (by omega) Z (Xe (v := vi ((j : Int) + 1)) Z Z (Xc (Xu ?_)))))))))))
 have gf := (RowsD.low (RowsD.put bn cz ac bm a8 (by decide)) af)
 have iz := ((du.gn ac).grown0 af)
 exact ⟨(mAt ms i3).t.slots.length - (j + 1), by omega, (j + 1), p5, Z, (by omega), (by omega), gf, iz, (nt (nt (nt hhs al.size) ac.size) af.size), Z, dl, d3, bz, ca, cm, iz, ((iv.gn ac).grown0 af)⟩
 have o5 := of_decide_eq_false d7
 exact Qe (Qb (Qb (Jm (Y7 (Xu (X2 (Xb (v := vi (i3 : Int)) bx Z (Yn (c := (i3 : Int) + 1) Z Z (by omega) (by omega) (by omega) Z (Xe (v := vi ((i3 : Int) + 1)) Z Z (Xc (Xu (⟨ms.length - (i3 + 1), by omega, (i3 + 1), p4, Z, (by omega), (by omega), hRows, hOt, hhs, Z, bk, dh, bw, cf, hOt, ij⟩))))))))))))
 have o6 := of_decide_eq_false d6
 refine Qe (Qb (Qb (Jm (Xu (Xq (Xa (Xb (v := pt R 0) df Z (Xl Qz (Xg Z (Xg Z Xk)) Z (Qh p3 30 (by omega) _ R bs _ _ _ ii (by omega) (SlLt.low1 hs ce hlo) (by first | exact hb | exact fun b h => hb b (List.mem_of_mem_take h)) (by first | omega | (rw [List.length_take]; omega))) ?_))))))))
 rintro _ q2 ⟨lz, rfl, m6, m7, fm, be⟩
 have cn := grown_trans ce be
 refine X3 (q := decide (lz = 0)) Z Z Z Z (Xc (Xy Z (fun eb => ?_) (fun eb => ?_)))
 have o7 := of_decide_eq_true eb
 refine X2 (Xb (v := .slice (pa Bt) ms.length ct) bj Z (Xb (v := pt R 0) df Z (Xb (v := .slice (pa Bt) ms.length ct) bj Z (Yu (by kernel_rfl) Z Z (Xl Qz (Xg Z (Xg Z Xk)) Z (Qh (p3 + 1) (ms.length : Int) (by omega) _ R bs _ _ _ fm (by omega) (SlLt.low1 hs cn hlo) (by first | exact hb | exact fun b h => hb b (List.mem_of_mem_take h)) (by first | omega | (rw [List.length_take]; omega))) ?_)))))
 rintro _ q3 ⟨J, rfl, m8, m9, jx, cv⟩
 have eo := grown_trans cn cv
 refine Xb (v := pt R 0) df Z (Xl Qz (Xg Z (Xg Z Xk)) Z (Qh (p3 + 1 + 1) 5 (by omega) _ R bs _ _ _ jx (by omega) (SlLt.low1 hs eo hlo) (by first | exact hb | exact fun b h => hb b (List.mem_of_mem_take h)) (by first | omega | (rw [List.length_take]; omega))) ?_)
 rintro _ q4 ⟨dv, rfl, na, nb, jy, cw⟩
 refine Yn (c := 1 + dv) Z Z (by omega) (by omega) (by omega) Z (Yb (o' := (J).toNat * 8) Y2 Z Z (by omega) (by omega) (by omega) Z (Xd (o' := (J).toNat * 8) Y9 Z Z Z ?_))
 have i0 := (((hOt.gn be).gn cv).gn cw)
 have dm := (RowsD.lt (RowsD.lt (RowsD.lt hRows be (by omega)) cv (by omega)) cw (by omega))
 have mq := (RowsD.at dm (lq (J).toNat ms.length)).ve
 refine Jj (g := MTh.cells) (j := 0) (z := (mAt ms (J).toNat)) (z' := (⟨⟨1 + dv, (mAt ms (J).toNat).t.lab, (mAt ms (J).toNat).t.ve, (mAt ms (J).toNat).t.num, (mAt ms (J).toNat).t.slots, (mAt ms (J).toNat).t.queue, (mAt ms (J).toNat).t.to⟩, (mAt ms (J).toNat).sa, (mAt ms (J).toNat).sc, (mAt ms (J).toNat).qa, (mAt ms (J).toNat).qc⟩ : MTh)) (v := vi (1 + dv)) X1 Z Z Z Yo i0 (xg ms (J).toNat) (by omega) Z Z ?_
 intro q5 jc cx
 refine Xc (Xu (Xa (Xb (v := .slice (pa Bt) ms.length ct) bj Z (Xe (v := .slice (pa Bt) ms.length ct) Z Z (Xc (Xt ?_))))))
 have gg := (RowsD.typ dm cx i0 (by decide) (by decide))
 obtain ⟨j6, ep, ju, jt⟩ := RowsD.tab _ (RowsD.setk (i := (J).toNat) (m' := (⟨⟨1 + dv, (mAt ms (J).toNat).t.lab, (mAt ms (J).toNat).t.ve, (mAt ms (J).toNat).t.num, (mAt ms (J).toNat).t.slots, (mAt ms (J).toNat).t.queue, (mAt ms (J).toNat).t.to⟩, (mAt ms (J).toNat).sa, (mAt ms (J).toNat).sc, (mAt ms (J).toNat).qa, (mAt ms (J).toNat).qc⟩ : MTh)) gg (by omega) ⟨rfl, rfl, rfl⟩ ⟨rfl, rfl, rfl⟩ rfl)
 have jq := congrArg List.length ep
 simp only [List.length_map, List.length_set] at jq
 have ey := jc
 rw [← Se ep] at ey
 refine ⟨.slice (pa Bt) ms.length ct, Yp Z Z, Bt, ct, j6, (p3 + 1 + 1 + 1), ?_, ⟨SlG.own Yo ey hlBt, ju⟩, jt, by omega, by omega, by omega, (jy.gn cx), (low1 (grown_trans eo cw) cx (by omega))⟩
 show Value.slice _ _ _ = Value.slice _ _ _
 congr 1; first | omega | (simp only [List.length_set]; omega)
 have o8 := of_decide_eq_false eb
 refine Xw (Xu (Xa (Xb (v := .slice (pa Bt) ms.length ct) bj Z (Xe (v := .slice (pa Bt) ms.length ct) Z Z (Xc (Xt ?_))))))
 have gh := (RowsD.lt hRows be (by omega))
 obtain ⟨j6, ep, ju, jt⟩ := RowsD.tab _ gh
 have jq := congrArg List.length ep
 simp only [List.length_map, List.length_set] at jq
 have ey := (hOt.gn be)
 rw [← Se ep] at ey
 refine ⟨.slice (pa Bt) ms.length ct, Yp Z Z, Bt, ct, j6, (p3 + 1), ?_, ⟨SlG.own Yo ey hlBt, ju⟩, jt, by omega, by omega, by omega, fm, cn⟩
 show Value.slice _ _ _ = Value.slice _ _ _
 congr 1; first | omega | (simp only [List.length_set]; omega)
theorem Mw (p : Int) (hp : 0 ≤ p ∧ p ≤ 999999980000) (lo R : Nat) (bs : List Int) (a : Option Addr) (c : Nat) (w : World) (hR : Blk w R 79 #[.slice a bs.length c, vi p]) (hlo : lo ≤ R) (hs : SlLt lo w a 1 (bs.map bcell)) (hb : ∀ b ∈ bs, 0 ≤ b ∧ b ≤ 255) (hn : bs.length ≤ 1048576) : CallsR Tryz.prog 27 #[pt R 0] w (fun v w' => ∃ (B cap : Nat) (ms : List MTh) (p' : Int), v = .slice (pa B) ms.length cap ∧ TabG w.heap.size w' (pa B) ms ∧ Small ms ∧ (3 ≤ ms.length ∧ ms.length ≤ 8) ∧ p ≤ p' ∧ p' ≤ p + 4000 ∧ Blk w' R 79 #[.slice a bs.length c, vi p'] ∧ w.grownBy w' (some R)) := by
 refine Xx (n := 24) Tryz.func27 Z Tryz.ntmps27 Z ?_
 have ba := World.grownBy.refl w (some R)
 have hRlt := hR.lt
 refine Xa (Xe (v := .slice none 0 0) Z Z (Xc (Xa (Xb (v := pt R 0) Z Z (Xl Fv (Xg Z Xk) Z (Ls p (by omega) _ R bs _ _ _ hR (by omega) (SlLt.low1 hs ba hlo) (by first | exact hb | exact fun b h => hb b (List.mem_of_mem_take h)) (by first | omega | (rw [List.length_take]; omega))) ?_)))))
 rintro _ cc ⟨aw, ad, an, bg, rfl, ap, ah, au, bn, bp, bd, bb⟩
 have bi := ah.len
 refine Xe (v := .slice (pa aw) an.length ad) Z Z (Xc (Xq (Xa (Xe (v := vi 0) Z Z (Xc (Yc (Qm (fun mm f' w' => ∃ (i : Nat) (p1 : Int) (B : Nat) (cap : Nat) (ms : List MTh), mm = 4 - i ∧ i ≤ 4 ∧ (p ≤ p1 ∧ p1 ≤ p + 600 + 601 * (i : Int)) ∧ TabG w.heap.size w' (pa B) ms ∧ Small ms ∧ (3 ≤ ms.length ∧ ms.length ≤ 8) ∧ f' 3 = .slice (pa B) ms.length cap ∧ f' 4 = vi (i : Int) ∧ f' 0 = pt R 0 ∧ f' 2 = .slice none 0 0 ∧ w.grownBy w' (some R) ∧ Blk w' R 79 #[.slice a bs.length c, vi p1]) (4 - 0) ⟨0, bg, aw, ad, an, Z, (Nat.zero_le _), (by omega), (TabG.mono ap ba.size), ah, au, Z, Z, Z, Z, (grown_trans ba bb), bd⟩ ?_)))))))
 rintro mm bt cd ⟨i, p1, B, cap, ms, bm, hi, hpp, hTG, hTS, hTn, af, a8, ak, bf, V, a9⟩
 have ar := hTS.len
 refine Xq (Xa (Xb (v := vi (i : Int)) a8 Z (Qa (q := decide ((i : Int) < 4)) Z Z Z Z (Xb (v := vb (decide ((i : Int) < 4))) Z Z ?_))))
 rcases Yf (decide ((i : Int) < 4)) with E | E
 have bu := of_decide_eq_true E
 refine Xf Z Z Z E (Xb (v := pt R 0) ak Z (Xf Z Z Z E (Xl Qz (Xg Z (Xg Z Xk)) Z (Qh p1 16 (by omega) _ R bs _ _ _ a9 (by omega) (SlLt.low1 hs V hlo) (by first | exact hb | exact fun b h => hb b (List.mem_of_mem_take h)) (by first | omega | (rw [List.length_take]; omega))) ?_)))
 rintro _ ce ⟨aj, rfl, bk, bl, ac, ab⟩
 have am := grown_trans V ab
 refine Xf Z Z Z E (Jd (q := decide (0 < aj)) Z Z Z Z (Xs (v := vb (decide (0 < aj))) Z E Z Z (Xb (v := vb (decide (0 < aj))) Z Z ?_)))
 rcases Yf (decide (0 < aj)) with G | G
 have bv := of_decide_eq_true G
 refine Xf Z Z Z G (Xb (v := .slice (pa B) ms.length cap) af Z (Xf Z Z Z G ?_))
 have ag := (TabG.lt hTG ab (by omega))
 refine Xl Cj (Xg Z Xk) Z (G0  _ ms _ _ (TabG.at ag) ar (by omega)) ?_
 rintro _ cf ⟨rfl, O⟩
 have J := low0 am O
 refine Xf Z Z Z G (Yl (b' := !tableOk (tabT ms)) Z Z Z (Xs (v := vb (!tableOk (tabT ms))) Z G Z Z (Xc (Xy Z (fun al => ?_) (fun al => ?_)))))
 have bw := Q2 al
 refine Xw (Xu (Xq (Yc (X2 (Xb (v := pt R 0) ak Z (Xl Fv (Xg Z Xk) Z (Ls (p1 + 1) (by omega) _ R bs _ _ _ (ac.grown0 O) (by omega) (SlLt.low1 hs J hlo) (by first | exact hb | exact fun b h => hb b (List.mem_of_mem_take h)) (by first | omega | (rw [List.length_take]; omega))) ?_))))))
 rintro _ cg ⟨az, ae, ao, bh, rfl, aq, ai, av, bq, br, be, bc⟩
 have bj := ai.len
 exact Xe (v := .slice (pa az) ao.length ae) Z Z (Xc (Y7 (Xu (X2 (Xb (v := vi (i : Int)) a8 Z (Yn (c := (i : Int) + 1) Z Z (by omega) (by omega) (by omega) Z (Xe (v := vi ((i : Int) + 1)) Z Z (Xc (Xu (⟨4 - (i + 1), by omega, (i + 1), bh, az, ae, ao, Z, (by omega), (by omega), (TabG.mono aq J.size), ai, av, Z, Z, ak, bf, (grown_trans J bc), be⟩))))))))))
 have bx := Qx al
 exact Qe (Qb (Qb (Jm (Xu (Xa (Xb (v := .slice (pa B) ms.length cap) af Z (Xe (v := .slice (pa B) ms.length cap) Z Z (Xc (Xt (⟨.slice (pa B) ms.length cap, Yp Z Z, B, cap, ms, (p1 + 1), Z, (TabG.low ag O), hTS, hTn, by omega, by omega, (ac.grown0 O), J⟩))))))))))
 have bz := of_decide_eq_false G
 iterate 3 refine Xi rfl rfl rfl G rfl ?_
 refine Xo (v := vb false) Z G Z Z (Xc (Qc Z Z (Qe (Qb (Qb (Jm (Xu (Xa (Xb (v := .slice (pa B) ms.length cap) af Z (Xe (v := .slice (pa B) ms.length cap) Z Z (Xc (Xt ?_))))))))))))
 exact ⟨.slice (pa B) ms.length cap, Yp Z Z, B, cap, ms, (p1 + 1), Z, (TabG.lt hTG ab (by omega)), hTS, hTn, by omega, by omega, ac, am⟩
 have ca := of_decide_eq_false E
 iterate 3 refine Xi rfl rfl rfl E rfl ?_
 refine Xo (v := vb false) Z E Z Z (Xb (v := vb false) Z Z ?_)
 iterate 3 refine Xi rfl rfl rfl rfl rfl ?_
 refine Xo (v := vb false) Z Z Z Z (Xc (Qc Z Z (Qe (Qb (Qb (Jm (Xu (Xa (Xb (v := .slice (pa B) ms.length cap) af Z (Xe (v := .slice (pa B) ms.length cap) Z Z (Xc (Xt ?_))))))))))))
 exact ⟨.slice (pa B) ms.length cap, Yp Z Z, B, cap, ms, p1, Z, hTG, hTS, hTn, by omega, by omega, a9, V⟩
end Go.Proofs.YtjpgffmkcmcolaaGreatDoor
end
section
namespace Go.Dw
def sees (ts : List Th) (run thing : Int) : Bool := flow (thAt ts thing).lab (thAt ts run).lab
def touches (ts : List Th) (run thing : Int) : Bool := flow (thAt ts run).lab (thAt ts thing).lab
theorem De {ms : List MTh} {run thing : Int} : flow (mAt ms (thing - 1).toNat).t.lab (mAt ms (run - 1).toNat).t.lab = sees (tabT ms) run thing := by unfold sees; rw [Qw, Qw]
theorem N5 {ms : List MTh} {run thing : Int} : flow (mAt ms (run - 1).toNat).t.lab (mAt ms (thing - 1).toNat).t.lab = touches (tabT ms) run thing := by unfold touches; rw [Qw, Qw]
def kindFor (c k : Int) : Bool :=
  if c = 1 ∨ c = 2 then decide (k = 1) else if c = 4 ∨ c = 5 then decide (k = 2) else if c = 6 ∨ c = 7 then decide (k = 4) else if c = 9 then decide (k = 5) else (decide (k = 1) || decide (k = 2)) || decide (k = 4)
def need0 (c : Int) : Bool := if c = 1 ∨ c = 4 then true else if c = 7 then true else false
def need1 (c : Int) : Bool := if c = 1 ∨ c = 4 then false else true
def live (ts : List Th) (r : Rt) : Bool := inR r.th 1 (ts.length : Int) && decide ((thAt ts r.th).ve = r.ve)
theorem C2 {ms : List MTh} {r : Rt} : (inR r.th 1 (ms.length : Int) && decide ((mAt ms (r.th - 1).toNat).t.ve = r.ve)) = live (tabT ms) r := by unfold live; rw [Qw, Qd]
def slotAt (ts : List Th) (k j : Int) : Rt := rAt (thAt ts k).slots j.toNat
theorem Jq {ms : List MTh} {k j : Int} : rAt (mAt ms (k - 1).toNat).t.slots j.toNat = slotAt (tabT ms) k j := by unfold slotAt; rw [Qw]
def chk1 (ts : List Th) (q : Cl) (r : Rt) : Bool := (((decide (r.th = 0)) || (!kindFor q.kind (thAt ts r.th).kind)) || (need0 q.kind && !r.rd)) || (need1 q.kind && !r.wr)
def chk1m (ms : List MTh) (q : Cl) (r : Rt) : Bool := (((decide (r.th = 0)) || (!kindFor q.kind (mAt ms (r.th - 1).toNat).t.kind)) || (need0 q.kind && !r.rd)) || (need1 q.kind && !r.wr)
theorem Pc {ms : List MTh} {q : Cl} {r : Rt} : chk1m ms q r = chk1 (tabT ms) q r := by unfold chk1m chk1; rw [Qw]
def chk2 (ts : List Th) (q : Cl) (r : Rt) : Bool := (need0 q.kind && !sees ts q.run r.th) || (need1 q.kind && !touches ts q.run r.th)
def chk3 (ts : List Th) (q : Cl) (r : Rt) : Bool := sees ts q.run r.th && !live ts r
def check1 (ts : List Th) (q : Cl) : Int :=
  if q.kind = 3 then 0 else if chk1 ts q (slotAt ts q.run q.a) = true then -1 else if chk2 ts q (slotAt ts q.run q.a) = true then -2 else if chk3 ts q (slotAt ts q.run q.a) = true then -3 else 0
section
variable {ms : List MTh} {q : Cl}
theorem Lg (h : decide (q.kind = 3) = true) : (0 : Int) = check1 (tabT ms) q := by unfold check1; rw [if_pos (of_decide_eq_true h)]
theorem Pb (h : decide (q.kind = 3) = false) (h1 : chk1m ms q (rAt (mAt ms (q.run - 1).toNat).t.slots q.a.toNat) = true) : (-1 : Int) = check1 (tabT ms) q := by
  rw [Pc, Jq] at h1
  unfold check1
  rw [if_neg (of_decide_eq_false h), if_pos h1]
theorem Tu (h : decide (q.kind = 3) = false) (h1 : chk1m ms q (rAt (mAt ms (q.run - 1).toNat).t.slots q.a.toNat) = false) (h2 : chk2 (tabT ms) q (rAt (mAt ms (q.run - 1).toNat).t.slots q.a.toNat) = true) : (-2 : Int) = check1 (tabT ms) q := by
  rw [Pc, Jq] at h1
  rw [Jq] at h2
  unfold check1
  rw [if_neg (of_decide_eq_false h), if_neg (by rw [h1]; exact Bool.false_ne_true), if_pos h2]
theorem Tv (h : decide (q.kind = 3) = false) (h1 : chk1m ms q (rAt (mAt ms (q.run - 1).toNat).t.slots q.a.toNat) = false) (h2 : chk2 (tabT ms) q (rAt (mAt ms (q.run - 1).toNat).t.slots q.a.toNat) = false) (h3 : chk3 (tabT ms) q (rAt (mAt ms (q.run - 1).toNat).t.slots q.a.toNat) = true) : (-3 : Int) = check1 (tabT ms) q := by
  rw [Pc, Jq] at h1
  rw [Jq] at h2 h3
  unfold check1
  rw [if_neg (of_decide_eq_false h), if_neg (by rw [h1]; exact Bool.false_ne_true), if_neg (by rw [h2]; exact Bool.false_ne_true), if_pos h3]
theorem Tt (h : decide (q.kind = 3) = false) (h1 : chk1m ms q (rAt (mAt ms (q.run - 1).toNat).t.slots q.a.toNat) = false) (h2 : chk2 (tabT ms) q (rAt (mAt ms (q.run - 1).toNat).t.slots q.a.toNat) = false) (h3 : chk3 (tabT ms) q (rAt (mAt ms (q.run - 1).toNat).t.slots q.a.toNat) = false) : (0 : Int) = check1 (tabT ms) q := by
  rw [Pc, Jq] at h1
  rw [Jq] at h2 h3
  unfold check1
  rw [if_neg (of_decide_eq_false h), if_neg (by rw [h1]; exact Bool.false_ne_true), if_neg (by rw [h2]; exact Bool.false_ne_true), if_neg (by rw [h3]; exact Bool.false_ne_true)]
theorem Hc (h : tableOk (tabT ms) = true) {i j : Nat} (hi : i < ms.length) (hj : j < (mAt ms i).t.slots.length) : 0 ≤ (rAt (mAt ms i).t.slots j).th ∧ (rAt (mAt ms i).t.slots j).th ≤ (ms.length : Int) ∧ (rAt (mAt ms i).t.slots j).th ≤ 8 ∧ rightOk (rAt (mAt ms i).t.slots j) = true := by
  have h1 := Mb h hi
  unfold rowOk at h1
  rw [Bool.and_eq_true] at h1
  have hr := List.all_eq_true.1 h1.2 _ (List.mem_of_getElem? (V4 hj))
  have hok := List.all_eq_true.1 (L3 (Bool.and_eq_true_iff.1 h1.1).1) _ (List.mem_of_getElem? (V4 hj))
  have h8 := Uq hok
  refine ⟨h8.1, ?_, h8.2, hok⟩
  unfold rightTo at hr
  rw [Bool.or_eq_true] at hr
  rcases hr with h0 | h0
  · have := of_decide_eq_true h0
    omega
  · have := Qu.1 (Bool.and_eq_true_iff.1 h0).1
    rw [Qd] at this
    omega
theorem Y3 {k kd : Int} (h : kindAt (tabT ms) k kd = true) : (1 ≤ k ∧ k ≤ (ms.length : Int)) ∧ (mAt ms (k - 1).toNat).t.kind = kd := by
  rw [← G5] at h
  rw [Bool.and_eq_true] at h
  exact ⟨Qu.1 h.1, of_decide_eq_true h.2⟩
theorem U3 {t : Th} (h : thingOk t = true) (hk : t.kind = 2 ∨ t.kind = 3) : t.slots.length = 4 := by
  have h5 := (Jg h).2.2.2.2.1
  unfold slotsOk at h5
  rw [if_pos hk] at h5
  exact of_decide_eq_true (Bool.and_eq_true_iff.1 h5).1
theorem Qp (hT : tableOk (tabT ms) = true) {k : Int} (h : kindAt (tabT ms) k 3 = true) : (mAt ms (k - 1).toNat).t.slots.length = 4 := by
  have h1 := Y3 h
  exact U3 (Ju hT (by omega)) (Or.inr h1.2)
end
end Go.Dw
end
section
namespace Go.Proofs.YtjpgffmkcmcolaaGreatDoor
open Go.RowKit Go.Dw
set_option maxRecDepth 100000
set_option maxHeartbeats 4000000
set_option linter.unusedSimpArgs false
set_option linter.unusedVariables false
theorem Ck : goFn Tryz.prog 33 = true := by kernel_rfl
theorem Zh : goFn Tryz.prog 53 = true := by kernel_rfl
theorem Ln : goFn Tryz.prog 55 = true := by kernel_rfl
theorem F5 : goFn Tryz.prog 87 = true := by kernel_rfl
theorem Uh : zeroTy Tryz.prog 25 = some (.agg #[.int .i64 0, .int .i64 0, .int .i64 0, .int .i64 0, .int .i64 0]) := by kernel_rfl
theorem Nm (run thing : Int) (w : World) (ms : List MTh) (a : Option Addr) (c : Nat) (ht : TabAt w a ms) (hlen : TabLen ms) (hn : ms.length ≤ 1048576) (hT : tableOk (tabT ms) = true) (hr : 1 ≤ run ∧ run ≤ (ms.length : Int)) (hth : 1 ≤ thing ∧ thing ≤ (ms.length : Int)) : CallsR Tryz.prog 61 #[.slice a ms.length c, vi run, vi thing] w (fun v w' => v = vb (sees (tabT ms) run thing) ∧ w.grownBy w' none) := by
 refine Xx (n := 20) Tryz.func61 Z Tryz.ntmps61 Z ?_
 have ac := World.grownBy.refl w none
 refine Xa (Xe (v := vb false) Z Z (Xc (Xq ?_)))
 obtain ⟨J, ap, E, V, aj, al⟩ := SlAt.at (TabAt.low ht ac).1 (Yi (xg ms (thing - 1).toNat))
 have an := TabLen.at hlen (xg ms (thing - 1).toNat)
 obtain ⟨O, aq, G, ab, ak, am⟩ := SlAt.at (TabAt.low ht ac).1 (Yi (xg ms (run - 1).toNat))
 have ao := TabLen.at hlen (xg ms (run - 1).toNat)
 refine Yw (m := 12) (vals := [(7, .slice a ms.length c), (8, vi thing), (9, vi (thing - 1)), (10, pt J E), (11, pt J (E + 1)), (12, .agg #[vi (mj ms thing).t.lab.s, vi (mj ms thing).t.lab.v]), (13, .slice a ms.length c), (14, vi run), (15, vi (run - 1)), (16, pt O G), (17, pt O (G + 1)), (18, .agg #[vi (mj ms run).t.lab.s, vi (mj ms run).t.lab.v])]) (fun w' => w.grownBy w' none) Yy (by kernel_rfl) (X6 _) ?_ ?_
 refine yl Z (fun _ _ k => Xb (v := .slice a ms.length c) Z Z k) (yl Z (fun _ _ k => Xb (v := vi thing) Z Z k) (yl Z (fun _ _ k => Ys (c := thing - 1) Z Z (by omega) (by omega) (by omega) Z k) (yl Z (fun _ _ k => Xz Y2 Z Z V aj (by omega) (by omega) Z k) (yl Z (fun _ _ k => Xd (o' := E + 1) Kd Z Z Z k) (yl Z (fun _ ae k => Xp (vs := [vi (mj ms thing).t.lab.s, vi (mj ms thing).t.lab.v]) Kb Z Z (Yr (X9 al ae) 1 2 Z) Z k) (yl Z (fun _ _ k => Xb (v := .slice a ms.length c) Z Z k) (yl Z (fun _ _ k => Xb (v := vi run) Z Z k) (yl Z (fun _ _ k => Ys (c := run - 1) Z Z (by omega) (by omega) (by omega) Z k) (yl Z (fun _ _ k => Xz Y2 Z Z ab ak (by omega) (by omega) Z k) (yl Z (fun _ _ k => Xd (o' := G + 1) Kd Z Z Z k) ?_))))))))))
 exact yl Z (fun _ af k => Xp (vs := [vi (mj ms run).t.lab.s, vi (mj ms run).t.lab.v]) Kb Z Z (Yr (X9 am af) 1 2 Z) Z k) Y5
 intro ar ag
 have ah : labelOk (mj ms thing).t.lab = true := U2 hT (lq (thing - 1).toNat ms.length)
 have ai : labelOk (mj ms run).t.lab = true := U2 hT (lq (run - 1).toNat ms.length)
 refine Xl F5 (Xg Z (Xg Z Xk)) Z (Rv (mj ms thing).t.lab (mj ms run).t.lab ah ai _) ?_
 rintro _ au ⟨rfl, ad⟩
 refine Xe (v := vb (flow (mj ms thing).t.lab (mj ms run).t.lab)) Z Z (Xc (Xu (Xt (⟨vb (flow (mj ms thing).t.lab (mj ms run).t.lab), Yp Z Z, ?_, (low0 (low0 ac ag) ad)⟩))))
 exact cB De
theorem G6 (run thing : Int) (w : World) (ms : List MTh) (a : Option Addr) (c : Nat) (ht : TabAt w a ms) (hlen : TabLen ms) (hn : ms.length ≤ 1048576) (hT : tableOk (tabT ms) = true) (hr : 1 ≤ run ∧ run ≤ (ms.length : Int)) (hth : 1 ≤ thing ∧ thing ≤ (ms.length : Int)) : CallsR Tryz.prog 83 #[.slice a ms.length c, vi run, vi thing] w (fun v w' => v = vb (touches (tabT ms) run thing) ∧ w.grownBy w' none) := by
 refine Xx (n := 20) Tryz.func83 Z Tryz.ntmps83 Z ?_
 have ac := World.grownBy.refl w none
 refine Xa (Xe (v := vb false) Z Z (Xc (Xq ?_)))
 obtain ⟨J, ap, E, V, aj, al⟩ := SlAt.at (TabAt.low ht ac).1 (Yi (xg ms (run - 1).toNat))
 have an := TabLen.at hlen (xg ms (run - 1).toNat)
 obtain ⟨O, aq, G, ab, ak, am⟩ := SlAt.at (TabAt.low ht ac).1 (Yi (xg ms (thing - 1).toNat))
 have ao := TabLen.at hlen (xg ms (thing - 1).toNat)
 refine Yw (m := 12) (vals := [(7, .slice a ms.length c), (8, vi run), (9, vi (run - 1)), (10, pt J E), (11, pt J (E + 1)), (12, .agg #[vi (mj ms run).t.lab.s, vi (mj ms run).t.lab.v]), (13, .slice a ms.length c), (14, vi thing), (15, vi (thing - 1)), (16, pt O G), (17, pt O (G + 1)), (18, .agg #[vi (mj ms thing).t.lab.s, vi (mj ms thing).t.lab.v])]) (fun w' => w.grownBy w' none) Yy (by kernel_rfl) (X6 _) ?_ ?_
 refine yl Z (fun _ _ k => Xb (v := .slice a ms.length c) Z Z k) (yl Z (fun _ _ k => Xb (v := vi run) Z Z k) (yl Z (fun _ _ k => Ys (c := run - 1) Z Z (by omega) (by omega) (by omega) Z k) (yl Z (fun _ _ k => Xz Y2 Z Z V aj (by omega) (by omega) Z k) (yl Z (fun _ _ k => Xd (o' := E + 1) Kd Z Z Z k) (yl Z (fun _ ae k => Xp (vs := [vi (mj ms run).t.lab.s, vi (mj ms run).t.lab.v]) Kb Z Z (Yr (X9 al ae) 1 2 Z) Z k) (yl Z (fun _ _ k => Xb (v := .slice a ms.length c) Z Z k) (yl Z (fun _ _ k => Xb (v := vi thing) Z Z k) (yl Z (fun _ _ k => Ys (c := thing - 1) Z Z (by omega) (by omega) (by omega) Z k) (yl Z (fun _ _ k => Xz Y2 Z Z ab ak (by omega) (by omega) Z k) (yl Z (fun _ _ k => Xd (o' := G + 1) Kd Z Z Z k) ?_))))))))))
 exact yl Z (fun _ af k => Xp (vs := [vi (mj ms thing).t.lab.s, vi (mj ms thing).t.lab.v]) Kb Z Z (Yr (X9 am af) 1 2 Z) Z k) Y5
 intro ar ag
 have ah : labelOk (mj ms run).t.lab = true := U2 hT (lq (run - 1).toNat ms.length)
 have ai : labelOk (mj ms thing).t.lab = true := U2 hT (lq (thing - 1).toNat ms.length)
 refine Xl F5 (Xg Z (Xg Z Xk)) Z (Rv (mj ms run).t.lab (mj ms thing).t.lab ah ai _) ?_
 rintro _ au ⟨rfl, ad⟩
 refine Xe (v := vb (flow (mj ms run).t.lab (mj ms thing).t.lab)) Z Z (Xc (Xu (Xt (⟨vb (flow (mj ms run).t.lab (mj ms thing).t.lab), Yp Z Z, ?_, (low0 (low0 ac ag) ad)⟩))))
 exact cB N5
end Go.Proofs.YtjpgffmkcmcolaaGreatDoor
end
