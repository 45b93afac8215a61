/- Laws and walks: my templates, and what a program of mine (gen.py) printed out of the functions; only what the row reaches. -/
import Derived.Test.YtlhhijnmacogcaaGreatDoorT41
section
namespace Go.Proofs.YtlhhijnmacogcaaGreatDoor
open Go.RowKit Go.Dw
set_option maxRecDepth 100000
set_option maxHeartbeats 4000000
set_option linter.unusedSimpArgs false
set_option linter.unusedVariables false
theorem Hd (k to : Int) (l : Lab) (hk : ((decide (k = 2)) || (decide (k = 3))) = false) (hok : newOk k l to = true) (w : World) : CallsR Tryz.prog 24 #[vi k, .agg #[vi l.s, vi l.v], vi to] w (fun v w' => v = .tuple #[.agg #[vi k, vi l.s, vi l.v, vi 0, vi 0, .slice none 0 0, .slice none 0 0, vi to], vb true] ∧ w.grownBy w' none) := by
 refine Xx (n := 27) Tryz.func24 Z Tryz.ntmps24 Z ?_
 have ak := World.grownBy.refl w none
 have hlit : thingOk (⟨k, l, 0, 0, [], [], to⟩ : Th) = true := (K4 hk).symm.trans hok
 have ab : decide (k = 2) = false := Kl hk
 have aj : decide (k = 3) = false := Km hk
 refine Xa (Y7 (v := .agg #[vi l.s, vi l.v]) (cs := #[vi l.s, vi l.v]) Z Z Z ?_)
 intro ao ar J
 have al := Yd J ak
 have ad := low0 ak J.grw
 refine Yf (cs := #[vi 0, vi 0, vi 0, vi 0, vi 0, .slice none 0 0, .slice none 0 0, vi 0]) Ka Z Z ?_
 intro ap au E
 have am := Yd E ad
 have af := Xo E (J.blk).lt
 have ae := low0 ad E.grw
 refine Xe (v := vb false) Z Z (Xb (Xa (Xd (v := vi k) Z Z ?_)))
 have ai := (J.blk.grown0 E.grw)
 refine Xr (vs := [vi l.s, vi l.v]) J6 Z Z (ai.rangeL 0 2 Z) Z (Xd (v := vi to) Z Z (Yv (ps := [(0, vi k), (1, .agg #[vi l.s, vi l.v]), (6, vi to)]) (v := .agg #[vi k, vi l.s, vi l.v, vi 0, vi 0, .slice none 0 0, .slice none 0 0, vi to]) (Xk Z (Xk Z (Xk Z X5))) (by kernel_rfl) Z (Yf (cs := #[vi 0, vi 0, vi 0, vi 0, vi 0, .slice none 0 0, .slice none 0 0, vi 0]) Ka Z Z ?_)))
 intro aq av G
 have an := Yd G ae
 have ag := Xo G (ai).lt
 have ah := Xo G (E.blk).lt
 refine Xy (vs := [vi k, vi l.s, vi l.v, vi 0, vi 0, .slice none 0 0, .slice none 0 0, vi to]) (cs' := #[vi k, vi l.s, vi l.v, vi 0, vi 0, .slice none 0 0, .slice none 0 0, vi to]) Ys Z Z Z (by simp [Value.oneCell']) G.blk (Nat.le_of_ble_eq_true Z) Z ?_
 intro aw O
 refine Xb (Xq (Xa (Xd (v := vi k) Z Z (X6 (q := decide (k = 2)) Z Z Z Z (Xd (v := vb (decide (k = 2))) Z Z (Xg Z Z Z ab (Xd (v := vi k) Z Z (Xg Z Z Z ab (X6 (q := decide (k = 3)) Z Z Z Z (Xp (v := vb (decide (k = 3))) Z ab Z Z (Xb (Y4 Z aj ?_))))))))))))
 refine Xz (Xu (Xq (Xa (Xr (vs := [vi k, vi l.s, vi l.v, vi 0, vi 0, .slice none 0 0, .slice none 0 0, vi to]) Ys Z Z (O.blk.rangeL 0 8 Z) Z (Xn Ib (Xf Z Xm) Z (G4 (⟨⟨k, l, 0, 0, [], [], to⟩, none, 0, none, 0⟩ : MTh) _ SlAt.nil SlAt.nil (by first | omega | exact Nat.le_of_ble_eq_true rfl | (simp only [List.length_nil, List.length_cons, List.length_append, List.length_replicate]; omega)) (by first | omega | exact Nat.le_of_ble_eq_true rfl | (simp only [List.length_nil, List.length_cons, List.length_append, List.length_replicate]; omega))) ?_)))))
 rintro _ az ⟨rfl, V⟩
 refine Yn (b' := !thingOk (⟨k, l, 0, 0, [], [], to⟩ : Th)) Z Z Z (Xb (Y4 Z (Ks hlit) (Xz (Xu (Xa (Xr (vs := [vi k, vi l.s, vi l.v, vi 0, vi 0, .slice none 0 0, .slice none 0 0, vi to]) Ys Z Z ((O.blk.grown0 V).rangeL 0 8 Z) Z (Xy (vs := [vi k, vi l.s, vi l.v, vi 0, vi 0, .slice none 0 0, .slice none 0 0, vi to]) (cs' := #[vi k, vi l.s, vi l.v, vi 0, vi 0, .slice none 0 0, .slice none 0 0, vi to]) Ys Z Z Z (by simp [Value.oneCell']) (((E.blk.grown0 G.grw).gn O.grw).grown0 V) (Nat.le_of_ble_eq_true Z) Z ?_)))))))
 intro a8 ac
 refine Xe (v := vb true) Z Z (Xb (Xt ?_))
 refine ⟨.tuple #[.agg #[vi k, vi l.s, vi l.v, vi 0, vi 0, .slice none 0 0, .slice none 0 0, vi to], vb true], Ng Z (Yh (vs := [vi k, vi l.s, vi l.v, vi 0, vi 0, .slice none 0 0, .slice none 0 0, vi to]) Ys Z Z (ac.blk.rangeL 0 8 Z)) Z, Z, (low1 (low0 (low1 (low0 ae G.grw) O.grw (by omega)) V) ac.grw (by omega))⟩
theorem Gw (k to : Int) (l : Lab) (hk : ((decide (k = 2)) || (decide (k = 3))) = true) (hok : newOk k l to = true) (w : World) : CallsR Tryz.prog 86 #[vi k, .agg #[vi l.s, vi l.v], vi to] w (fun v w' => ∃ (S sc Q qc : Nat), v = .tuple #[.agg #[vi k, vi l.s, vi l.v, vi 0, vi 0, .slice (pa S) 4 sc, .slice (pa Q) 0 qc, vi to], vb true] ∧ w.heap.size ≤ S ∧ Dw.Own w' S 33 5 sc 4 (zeros4.flatMap Rt.cells) ∧ w.heap.size ≤ Q ∧ Dw.Own w' Q 3 1 qc 0 (([] : List Int).flatMap icell) ∧ S ≠ Q ∧ w.grownBy w' none) := by
 refine Xx (n := 24) Tryz.func86 Z Tryz.ntmps86 Z ?_
 have bv := World.grownBy.refl w none
 have hlit : thingOk (⟨k, l, 0, 0, zeros4, [], to⟩ : Th) = true := (Ud hk).symm.trans hok
 refine Xa (Y7 (v := .agg #[vi l.s, vi l.v]) (cs := #[vi l.s, vi l.v]) Z Z Z ?_)
 intro cc cf ai
 have bw := Yd ai bv
 have al := low0 bv ai.grw
 refine Yf (cs := #[vi 0, vi 0, vi 0, vi 0, vi 0, .slice none 0 0, .slice none 0 0, vi 0]) Ka Z Z ?_
 intro cd cg ac
 have bx := Yd ac al
 have ar := Xo ac (ai.blk).lt
 have am := low0 al ac.grw
 refine Xe (v := vb false) Z Z (Xb (Xa (Xd (v := vi k) Z Z ?_)))
 have aq := (ai.blk.grown0 ac.grw)
 refine Xr (vs := [vi l.s, vi l.v]) J6 Z Z (aq.rangeL 0 2 Z) Z (X7 (ps := []) (e := 33) (cs := (([] : List Rt).flatMap Rt.cells).toArray) X5 (fun _ => by kernel_rfl) Z ?_)
 intro ak cj V
 have bz := Yd V am
 have au := Xo V (aq).lt
 have a8 := Xo V (ac.blk).lt
 have an := low0 am V.grw
 refine X7 (ps := []) (e := 3) (cs := (([] : List Int).flatMap icell).toArray) X5 (fun _ => by kernel_rfl) Z ?_
 intro O ck J
 have bh := Yd J an
 have bj := (aq.grown0 V.grw)
 have av := Xo J (bj).lt
 have bk := (ac.blk.grown0 V.grw)
 have a9 := Xo J (bk).lt
 have bc := Xo J (V.blk).lt
 have ao := low0 an J.grw
 refine Xd (v := vi to) Z Z (Yv (ps := [(0, vi k), (1, .agg #[vi l.s, vi l.v]), (4, .slice (pa ak) 0 0), (5, .slice (pa O) 0 0), (6, vi to)]) (v := .agg #[vi k, vi l.s, vi l.v, vi 0, vi 0, .slice (pa ak) 0 0, .slice (pa O) 0 0, vi to]) (Xk Z (Xk Z (Xk Z (Xk Z (Xk Z X5))))) (by kernel_rfl) Z (Yf (cs := #[vi 0, vi 0, vi 0, vi 0, vi 0, .slice none 0 0, .slice none 0 0, vi 0]) Ka Z Z ?_))
 intro ce cl E
 have ca := Yd E ao
 have bl := (bj.grown0 J.grw)
 have aw := Xo E (bl).lt
 have bm := (bk.grown0 J.grw)
 have ba := Xo E (bm).lt
 have bn := (V.blk.grown0 J.grw)
 have bd := Xo E (bn).lt
 have bf := Xo E (J.blk).lt
 refine Xy (vs := [vi k, vi l.s, vi l.v, vi 0, vi 0, .slice (pa ak) 0 0, .slice (pa O) 0 0, vi to]) (cs' := #[vi k, vi l.s, vi l.v, vi 0, vi 0, .slice (pa ak) 0 0, .slice (pa O) 0 0, vi to]) Ys Z Z Z (by simp [Value.oneCell']) E.blk (Nat.le_of_ble_eq_true Z) Z ?_
 intro cm ad
 refine Xb (Xq (Xa (Xd (v := vi k) Z Z (Xn Lb (Xf Z Xm) Z (Vn k _) ?_))))
 rintro _ cn ⟨rfl, af⟩
 have ap := low0 (low1 (low0 ao E.grw) ad.grw (by omega)) af
 refine Xb (Qa Z hk (X2 (Lr (g := Rt.cells) (z := Rt.zero) (c := 4) Ti Z Qx (by omega) Z Z (by omega) (by omega) Z ?_)))
 intro ab co G
 have bi := Yd G ap
 have az := Xo G ((((bl.grown0 E.grw).gn ad.grw).grown0 af)).lt
 have bp := (((bm.grown0 E.grw).gn ad.grw).grown0 af)
 have bb := Xo G (bp).lt
 have be := Xo G ((((bn.grown0 E.grw).gn ad.grw).grown0 af)).lt
 have bq := (((J.blk.grown0 E.grw).gn ad.grw).grown0 af)
 have ah := Xo G (bq).lt
 have br := (ad.blk.grown0 af)
 have bg := Xo G (br).lt
 refine Xc (o' := 5) Qj Z Z Z (Yc (v := .slice (pa ab) 4 4) (cs' := #[vi k, vi l.s, vi l.v, vi 0, vi 0, .slice (pa ab) 4 4, .slice (pa O) 0 0, vi to]) Jd Z Z Z (br.grown0 G.grw) (Nat.le_of_ble_eq_true Z) Z ?_)
 intro ct ae
 refine Xb (Xu (Xq (Xa (Xr (vs := [vi k, vi l.s, vi l.v, vi 0, vi 0, .slice (pa ab) 4 4, .slice (pa O) 0 0, vi to]) Ys Z Z (ae.blk.rangeL 0 8 Z) Z ?_))))
 have bt := (G.blk.gn ae.grw)
 have bu := ((bq.grown0 G.grw).gn ae.grw)
 refine Xn Rj (Xf Z Xm) Z (V5 (⟨⟨k, l, 0, 0, zeros4, [], to⟩, some ⟨ab, 0, none⟩, 4, some ⟨O, 0, none⟩, 0⟩ : MTh) _ (Jo Qx bt) (Jo Yq bu) (by first | omega | exact Nat.le_of_ble_eq_true rfl | (simp only [List.length_nil, List.length_cons, List.length_append, List.length_replicate]; omega)) (by first | omega | exact Nat.le_of_ble_eq_true rfl | (simp only [List.length_nil, List.length_cons, List.length_append, List.length_replicate]; omega))) ?_
 rintro _ cv ⟨rfl, ag⟩
 refine Yn (b' := !thingOk (⟨k, l, 0, 0, zeros4, [], to⟩ : Th)) Z Z Z (Xb (Y4 Z (Ks hlit) (Xz (Xu (Xa (Xr (vs := [vi k, vi l.s, vi l.v, vi 0, vi 0, .slice (pa ab) 4 4, .slice (pa O) 0 0, vi to]) Ys Z Z ((ae.blk.grown0 ag).rangeL 0 8 Z) Z (Xy (vs := [vi k, vi l.s, vi l.v, vi 0, vi 0, .slice (pa ab) 4 4, .slice (pa O) 0 0, vi to]) (cs' := #[vi k, vi l.s, vi l.v, vi 0, vi 0, .slice (pa ab) 4 4, .slice (pa O) 0 0, vi to]) Ys Z Z Z (by simp [Value.oneCell']) (((bp.grown0 G.grw).gn ae.grw).grown0 ag) (Nat.le_of_ble_eq_true Z) Z ?_)))))))
 intro cw aj
 refine Xe (v := vb true) Z Z (Xb (Xt ?_))
 refine ⟨.tuple #[.agg #[vi k, vi l.s, vi l.v, vi 0, vi 0, .slice (pa ab) 4 4, .slice (pa O) 0 0, vi to], vb true], Ng Z (Yh (vs := [vi k, vi l.s, vi l.v, vi 0, vi 0, .slice (pa ab) 4 4, .slice (pa O) 0 0, vi to]) Ys Z Z (aj.blk.rangeL 0 8 Z)) Z, ab, 4, O, 0, Z, bi, (Own.rows Qx ((bt.grown0 ag).gn aj.grw) (by decide)), bh, (Own.rows Yq ((bu.grown0 ag).gn aj.grw) (by decide)), (Nat.ne_of_gt ah), (low1 (low0 (low1 (low0 ap G.grw) ae.grw (by omega)) ag) aj.grw (by omega))⟩
theorem Ph (k to : Int) (l : Lab) (hk : ((decide (k = 2)) || (decide (k = 3))) = true) (hok : newOk k l to = false) (w : World) : CallsR Tryz.prog 86 #[vi k, .agg #[vi l.s, vi l.v], vi to] w (fun v w' => v = .tuple #[.agg #[vi 0, vi 0, vi 0, vi 0, vi 0, .slice none 0 0, .slice none 0 0, vi 0], vb false] ∧ w.grownBy w' none) := by
 refine Xx (n := 24) Tryz.func86 Z Tryz.ntmps86 Z ?_
 have bq := World.grownBy.refl w none
 have hlit : thingOk (⟨k, l, 0, 0, zeros4, [], to⟩ : Th) = false := (Ud hk).symm.trans hok
 refine Xa (Y7 (v := .agg #[vi l.s, vi l.v]) (cs := #[vi l.s, vi l.v]) Z Z Z ?_)
 intro bz cd af
 have br := Yd af bq
 have aj := low0 bq af.grw
 refine Yf (cs := #[vi 0, vi 0, vi 0, vi 0, vi 0, .slice none 0 0, .slice none 0 0, vi 0]) Ka Z Z ?_
 intro ca ce V
 have bt := Yd V aj
 have aq := Xo V (af.blk).lt
 have ak := low0 aj V.grw
 refine Xe (v := vb false) Z Z (Xb (Xa (Xd (v := vi k) Z Z ?_)))
 have ap := (af.blk.grown0 V.grw)
 refine Xr (vs := [vi l.s, vi l.v]) J6 Z Z (ap.rangeL 0 2 Z) Z (X7 (ps := []) (e := 33) (cs := (([] : List Rt).flatMap Rt.cells).toArray) X5 (fun _ => by kernel_rfl) Z ?_)
 intro ag cf O
 have bu := Yd O ak
 have ar := Xo O (ap).lt
 have az := Xo O (V.blk).lt
 have al := low0 ak O.grw
 refine X7 (ps := []) (e := 3) (cs := (([] : List Int).flatMap icell).toArray) X5 (fun _ => by kernel_rfl) Z ?_
 intro ad cg J
 have bv := Yd J al
 have bh := (ap.grown0 O.grw)
 have au := Xo J (bh).lt
 have bi := (V.blk.grown0 O.grw)
 have a8 := Xo J (bi).lt
 have bb := Xo J (O.blk).lt
 have am := low0 al J.grw
 refine Xd (v := vi to) Z Z (Yv (ps := [(0, vi k), (1, .agg #[vi l.s, vi l.v]), (4, .slice (pa ag) 0 0), (5, .slice (pa ad) 0 0), (6, vi to)]) (v := .agg #[vi k, vi l.s, vi l.v, vi 0, vi 0, .slice (pa ag) 0 0, .slice (pa ad) 0 0, vi to]) (Xk Z (Xk Z (Xk Z (Xk Z (Xk Z X5))))) (by kernel_rfl) Z (Yf (cs := #[vi 0, vi 0, vi 0, vi 0, vi 0, .slice none 0 0, .slice none 0 0, vi 0]) Ka Z Z ?_))
 intro cc cj E
 have bw := Yd E am
 have bj := (bh.grown0 J.grw)
 have av := Xo E (bj).lt
 have bk := (bi.grown0 J.grw)
 have a9 := Xo E (bk).lt
 have bl := (O.blk.grown0 J.grw)
 have bc := Xo E (bl).lt
 have be := Xo E (J.blk).lt
 refine Xy (vs := [vi k, vi l.s, vi l.v, vi 0, vi 0, .slice (pa ag) 0 0, .slice (pa ad) 0 0, vi to]) (cs' := #[vi k, vi l.s, vi l.v, vi 0, vi 0, .slice (pa ag) 0 0, .slice (pa ad) 0 0, vi to]) Ys Z Z Z (by simp [Value.oneCell']) E.blk (Nat.le_of_ble_eq_true Z) Z ?_
 intro ck ab
 refine Xb (Xq (Xa (Xd (v := vi k) Z Z (Xn Lb (Xf Z Xm) Z (Vn k _) ?_))))
 rintro _ cl ⟨rfl, ac⟩
 have an := low0 (low1 (low0 am E.grw) ab.grw (by omega)) ac
 refine Xb (Qa Z hk (X2 (Lr (g := Rt.cells) (z := Rt.zero) (c := 4) Ti Z Qx (by omega) Z Z (by omega) (by omega) Z ?_)))
 intro ah cm G
 have bx := Yd G an
 have aw := Xo G ((((bj.grown0 E.grw).gn ab.grw).grown0 ac)).lt
 have bm := (((bk.grown0 E.grw).gn ab.grw).grown0 ac)
 have ba := Xo G (bm).lt
 have bd := Xo G ((((bl.grown0 E.grw).gn ab.grw).grown0 ac)).lt
 have bn := (((J.blk.grown0 E.grw).gn ab.grw).grown0 ac)
 have bf := Xo G (bn).lt
 have bp := (ab.blk.grown0 ac)
 have bg := Xo G (bp).lt
 refine Xc (o' := 5) Qj Z Z Z (Yc (v := .slice (pa ah) 4 4) (cs' := #[vi k, vi l.s, vi l.v, vi 0, vi 0, .slice (pa ah) 4 4, .slice (pa ad) 0 0, vi to]) Jd Z Z Z (bp.grown0 G.grw) (Nat.le_of_ble_eq_true Z) Z ?_)
 intro cn ae
 refine Xb (Xu (Xq (Xa (Xr (vs := [vi k, vi l.s, vi l.v, vi 0, vi 0, .slice (pa ah) 4 4, .slice (pa ad) 0 0, vi to]) Ys Z Z (ae.blk.rangeL 0 8 Z) Z (Xn Rj (Xf Z Xm) Z (V5 (⟨⟨k, l, 0, 0, zeros4, [], to⟩, some ⟨ah, 0, none⟩, 4, some ⟨ad, 0, none⟩, 0⟩ : MTh) _ (Jo Qx (G.blk.gn ae.grw)) (Jo Yq ((bn.grown0 G.grw).gn ae.grw)) (by first | omega | exact Nat.le_of_ble_eq_true rfl | (simp only [List.length_nil, List.length_cons, List.length_append, List.length_replicate]; omega)) (by first | omega | exact Nat.le_of_ble_eq_true rfl | (simp only [List.length_nil, List.length_cons, List.length_append, List.length_replicate]; omega))) ?_)))))
 rintro _ co ⟨rfl, ao⟩
 refine Yn (b' := !thingOk (⟨k, l, 0, 0, zeros4, [], to⟩ : Th)) Z Z Z (Xb (Qa Z (J7 hlit) (Xa (Yv (ps := []) (v := .agg #[vi 0, vi 0, vi 0, vi 0, vi 0, .slice none 0 0, .slice none 0 0, vi 0]) X5 (by kernel_rfl) Z (Xy (vs := [vi 0, vi 0, vi 0, vi 0, vi 0, .slice none 0 0, .slice none 0 0, vi 0]) (cs' := #[vi 0, vi 0, vi 0, vi 0, vi 0, .slice none 0 0, .slice none 0 0, vi 0]) Ys Z Z Z (by simp [Value.oneCell']) (((bm.grown0 G.grw).gn ae.grw).grown0 ao) (Nat.le_of_ble_eq_true Z) Z ?_)))))
 intro ct ai
 refine Xe (v := vb false) Z Z (Xb (Xt (Yk ?_)))
 refine ⟨.tuple #[.agg #[vi 0, vi 0, vi 0, vi 0, vi 0, .slice none 0 0, .slice none 0 0, vi 0], vb false], Ng Z (Yh (vs := [vi 0, vi 0, vi 0, vi 0, vi 0, .slice none 0 0, .slice none 0 0, vi 0]) Ys Z Z (ai.blk.rangeL 0 8 Z)) Z, Z, (low1 (low0 (low1 (low0 an G.grw) ae.grw (by omega)) ao) ai.grw (by omega))⟩
theorem Kw (k to : Int) (l : Lab) (hk : ((decide (k = 2)) || (decide (k = 3))) = false) (hok : newOk k l to = true) (w : World) : CallsR Tryz.prog 86 #[vi k, .agg #[vi l.s, vi l.v], vi to] w (fun v w' => ∃ (S sc Q qc : Nat), v = .tuple #[.agg #[vi k, vi l.s, vi l.v, vi 0, vi 0, .slice (pa S) 0 sc, .slice (pa Q) 0 qc, vi to], vb true] ∧ w.heap.size ≤ S ∧ Dw.Own w' S 33 5 sc 0 (([] : List Rt).flatMap Rt.cells) ∧ w.heap.size ≤ Q ∧ Dw.Own w' Q 3 1 qc 0 (([] : List Int).flatMap icell) ∧ S ≠ Q ∧ w.grownBy w' none) := by
 refine Xx (n := 24) Tryz.func86 Z Tryz.ntmps86 Z ?_
 have bh := World.grownBy.refl w none
 have hlit : thingOk (⟨k, l, 0, 0, [], [], to⟩ : Th) = true := (K4 hk).symm.trans hok
 have bp : decide (k = 2) = false := Kl hk
 have bq : decide (k = 3) = false := Km hk
 refine Xa (Y7 (v := .agg #[vi l.s, vi l.v]) (cs := #[vi l.s, vi l.v]) Z Z Z ?_)
 intro bl br ag
 have bi := Yd ag bh
 have ai := low0 bh ag.grw
 refine Yf (cs := #[vi 0, vi 0, vi 0, vi 0, vi 0, .slice none 0 0, .slice none 0 0, vi 0]) Ka Z Z ?_
 intro bm bt ab
 have bj := Yd ab ai
 have an := Xo ab (ag.blk).lt
 have aj := low0 ai ab.grw
 refine Xe (v := vb false) Z Z (Xb (Xa (Xd (v := vi k) Z Z ?_)))
 have am := (ag.blk.grown0 ab.grw)
 refine Xr (vs := [vi l.s, vi l.v]) J6 Z Z (am.rangeL 0 2 Z) Z (X7 (ps := []) (e := 33) (cs := (([] : List Rt).flatMap Rt.cells).toArray) X5 (fun _ => by kernel_rfl) Z ?_)
 intro J bu V
 have a8 := Yd V aj
 have ao := Xo V (am).lt
 have ar := Xo V (ab.blk).lt
 have ak := low0 aj V.grw
 refine X7 (ps := []) (e := 3) (cs := (([] : List Int).flatMap icell).toArray) X5 (fun _ => by kernel_rfl) Z ?_
 intro O bv E
 have a9 := Yd E ak
 have ba := (am.grown0 V.grw)
 have ap := Xo E (ba).lt
 have bb := (ab.blk.grown0 V.grw)
 have au := Xo E (bb).lt
 have af := Xo E (V.blk).lt
 have al := low0 ak E.grw
 refine Xd (v := vi to) Z Z (Yv (ps := [(0, vi k), (1, .agg #[vi l.s, vi l.v]), (4, .slice (pa J) 0 0), (5, .slice (pa O) 0 0), (6, vi to)]) (v := .agg #[vi k, vi l.s, vi l.v, vi 0, vi 0, .slice (pa J) 0 0, .slice (pa O) 0 0, vi to]) (Xk Z (Xk Z (Xk Z (Xk Z (Xk Z X5))))) (by kernel_rfl) Z (Yf (cs := #[vi 0, vi 0, vi 0, vi 0, vi 0, .slice none 0 0, .slice none 0 0, vi 0]) Ka Z Z ?_))
 intro bn bw G
 have bk := Yd G al
 have aq := Xo G ((ba.grown0 E.grw)).lt
 have bc := (bb.grown0 E.grw)
 have av := Xo G (bc).lt
 have bd := (V.blk.grown0 E.grw)
 have aw := Xo G (bd).lt
 have az := Xo G (E.blk).lt
 refine Xy (vs := [vi k, vi l.s, vi l.v, vi 0, vi 0, .slice (pa J) 0 0, .slice (pa O) 0 0, vi to]) (cs' := #[vi k, vi l.s, vi l.v, vi 0, vi 0, .slice (pa J) 0 0, .slice (pa O) 0 0, vi to]) Ys Z Z Z (by simp [Value.oneCell']) G.blk (Nat.le_of_ble_eq_true Z) Z ?_
 intro bx ac
 refine Xb (Xq (Xa (Xd (v := vi k) Z Z (Xn Lb (Xf Z Xm) Z (Vn k _) ?_))))
 rintro _ bz ⟨rfl, ad⟩
 refine Xb (Y4 Z hk (Xz (Xu (Xq (Xa ?_)))))
 have be := (ac.blk.grown0 ad)
 refine Xr (vs := [vi k, vi l.s, vi l.v, vi 0, vi 0, .slice (pa J) 0 0, .slice (pa O) 0 0, vi to]) Ys Z Z (be.rangeL 0 8 Z) Z ?_
 have bf := (((bd.grown0 G.grw).gn ac.grw).grown0 ad)
 have bg := (((E.blk.grown0 G.grw).gn ac.grw).grown0 ad)
 refine Xn Rj (Xf Z Xm) Z (V5 (⟨⟨k, l, 0, 0, [], [], to⟩, some ⟨J, 0, none⟩, 0, some ⟨O, 0, none⟩, 0⟩ : MTh) _ (Jo Qx bf) (Jo Yq bg) (by first | omega | exact Nat.le_of_ble_eq_true rfl | (simp only [List.length_nil, List.length_cons, List.length_append, List.length_replicate]; omega)) (by first | omega | exact Nat.le_of_ble_eq_true rfl | (simp only [List.length_nil, List.length_cons, List.length_append, List.length_replicate]; omega))) ?_
 rintro _ ca ⟨rfl, ae⟩
 refine Yn (b' := !thingOk (⟨k, l, 0, 0, [], [], to⟩ : Th)) Z Z Z (Xb (Y4 Z (Ks hlit) (Xz (Xu (Xa (Xr (vs := [vi k, vi l.s, vi l.v, vi 0, vi 0, .slice (pa J) 0 0, .slice (pa O) 0 0, vi to]) Ys Z Z ((be.grown0 ae).rangeL 0 8 Z) Z (Xy (vs := [vi k, vi l.s, vi l.v, vi 0, vi 0, .slice (pa J) 0 0, .slice (pa O) 0 0, vi to]) (cs' := #[vi k, vi l.s, vi l.v, vi 0, vi 0, .slice (pa J) 0 0, .slice (pa O) 0 0, vi to]) Ys Z Z Z (by simp [Value.oneCell']) ((((bc.grown0 G.grw).gn ac.grw).grown0 ad).grown0 ae) (Nat.le_of_ble_eq_true Z) Z ?_)))))))
 intro cc ah
 refine Xe (v := vb true) Z Z (Xb (Xt ?_))
 refine ⟨.tuple #[.agg #[vi k, vi l.s, vi l.v, vi 0, vi 0, .slice (pa J) 0 0, .slice (pa O) 0 0, vi to], vb true], Ng Z (Yh (vs := [vi k, vi l.s, vi l.v, vi 0, vi 0, .slice (pa J) 0 0, .slice (pa O) 0 0, vi to]) Ys Z Z (ah.blk.rangeL 0 8 Z)) Z, J, 0, O, 0, Z, a8, (Own.rows Qx ((bf.grown0 ae).gn ah.grw) (by decide)), a9, (Own.rows Yq ((bg.grown0 ae).gn ah.grw) (by decide)), (Nat.ne_of_lt af), (low1 (low0 (low0 (low1 (low0 al G.grw) ac.grw (by omega)) ad) ae) ah.grw (by omega))⟩
theorem Pg (k to : Int) (l : Lab) (hk : ((decide (k = 2)) || (decide (k = 3))) = false) (hok : newOk k l to = false) (w : World) : CallsR Tryz.prog 86 #[vi k, .agg #[vi l.s, vi l.v], vi to] w (fun v w' => v = .tuple #[.agg #[vi 0, vi 0, vi 0, vi 0, vi 0, .slice none 0 0, .slice none 0 0, vi 0], vb false] ∧ w.grownBy w' none) := by
 refine Xx (n := 24) Tryz.func86 Z Tryz.ntmps86 Z ?_
 have bc := World.grownBy.refl w none
 have hlit : thingOk (⟨k, l, 0, 0, [], [], to⟩ : Th) = false := (K4 hk).symm.trans hok
 have bl : decide (k = 2) = false := Kl hk
 have bm : decide (k = 3) = false := Km hk
 refine Xa (Y7 (v := .agg #[vi l.s, vi l.v]) (cs := #[vi l.s, vi l.v]) Z Z Z ?_)
 intro bi bn ae
 have bd := Yd ae bc
 have ag := low0 bc ae.grw
 refine Yf (cs := #[vi 0, vi 0, vi 0, vi 0, vi 0, .slice none 0 0, .slice none 0 0, vi 0]) Ka Z Z ?_
 intro bj bp O
 have be := Yd O ag
 have am := Xo O (ae.blk).lt
 have ah := low0 ag O.grw
 refine Xe (v := vb false) Z Z (Xb (Xa (Xd (v := vi k) Z Z ?_)))
 have al := (ae.blk.grown0 O.grw)
 refine Xr (vs := [vi l.s, vi l.v]) J6 Z Z (al.rangeL 0 2 Z) Z (X7 (ps := []) (e := 33) (cs := (([] : List Rt).flatMap Rt.cells).toArray) X5 (fun _ => by kernel_rfl) Z ?_)
 intro ac bq J
 have bf := Yd J ah
 have an := Xo J (al).lt
 have aq := Xo J (O.blk).lt
 have ai := low0 ah J.grw
 refine X7 (ps := []) (e := 3) (cs := (([] : List Int).flatMap icell).toArray) X5 (fun _ => by kernel_rfl) Z ?_
 intro ad br E
 have bg := Yd E ai
 have a8 := (al.grown0 J.grw)
 have ao := Xo E (a8).lt
 have a9 := (O.blk.grown0 J.grw)
 have ar := Xo E (a9).lt
 have av := Xo E (J.blk).lt
 have aj := low0 ai E.grw
 refine Xd (v := vi to) Z Z (Yv (ps := [(0, vi k), (1, .agg #[vi l.s, vi l.v]), (4, .slice (pa ac) 0 0), (5, .slice (pa ad) 0 0), (6, vi to)]) (v := .agg #[vi k, vi l.s, vi l.v, vi 0, vi 0, .slice (pa ac) 0 0, .slice (pa ad) 0 0, vi to]) (Xk Z (Xk Z (Xk Z (Xk Z (Xk Z X5))))) (by kernel_rfl) Z (Yf (cs := #[vi 0, vi 0, vi 0, vi 0, vi 0, .slice none 0 0, .slice none 0 0, vi 0]) Ka Z Z ?_))
 intro bk bt G
 have bh := Yd G aj
 have ap := Xo G ((a8.grown0 E.grw)).lt
 have ba := (a9.grown0 E.grw)
 have au := Xo G (ba).lt
 have bb := (J.blk.grown0 E.grw)
 have aw := Xo G (bb).lt
 have az := Xo G (E.blk).lt
 refine Xy (vs := [vi k, vi l.s, vi l.v, vi 0, vi 0, .slice (pa ac) 0 0, .slice (pa ad) 0 0, vi to]) (cs' := #[vi k, vi l.s, vi l.v, vi 0, vi 0, .slice (pa ac) 0 0, .slice (pa ad) 0 0, vi to]) Ys Z Z Z (by simp [Value.oneCell']) G.blk (Nat.le_of_ble_eq_true Z) Z ?_
 intro bu V
 refine Xb (Xq (Xa (Xd (v := vi k) Z Z (Xn Lb (Xf Z Xm) Z (Vn k _) ?_))))
 rintro _ bv ⟨rfl, ab⟩
 refine Xb (Y4 Z hk (Xz (Xu (Xq (Xa (Xr (vs := [vi k, vi l.s, vi l.v, vi 0, vi 0, .slice (pa ac) 0 0, .slice (pa ad) 0 0, vi to]) Ys Z Z ((V.blk.grown0 ab).rangeL 0 8 Z) Z (Xn Rj (Xf Z Xm) Z (V5 (⟨⟨k, l, 0, 0, [], [], to⟩, some ⟨ac, 0, none⟩, 0, some ⟨ad, 0, none⟩, 0⟩ : MTh) _ (Jo Qx (((bb.grown0 G.grw).gn V.grw).grown0 ab)) (Jo Yq (((E.blk.grown0 G.grw).gn V.grw).grown0 ab)) (by first | omega | exact Nat.le_of_ble_eq_true rfl | (simp only [List.length_nil, List.length_cons, List.length_append, List.length_replicate]; omega)) (by first | omega | exact Nat.le_of_ble_eq_true rfl | (simp only [List.length_nil, List.length_cons, List.length_append, List.length_replicate]; omega))) ?_)))))))
 rintro _ bw ⟨rfl, ak⟩
 refine Yn (b' := !thingOk (⟨k, l, 0, 0, [], [], to⟩ : Th)) Z Z Z (Xb (Qa Z (J7 hlit) (Xa (Yv (ps := []) (v := .agg #[vi 0, vi 0, vi 0, vi 0, vi 0, .slice none 0 0, .slice none 0 0, vi 0]) X5 (by kernel_rfl) Z (Xy (vs := [vi 0, vi 0, vi 0, vi 0, vi 0, .slice none 0 0, .slice none 0 0, vi 0]) (cs' := #[vi 0, vi 0, vi 0, vi 0, vi 0, .slice none 0 0, .slice none 0 0, vi 0]) Ys Z Z Z (by simp [Value.oneCell']) ((((ba.grown0 G.grw).gn V.grw).grown0 ab).grown0 ak) (Nat.le_of_ble_eq_true Z) Z ?_)))))
 intro bx af
 refine Xe (v := vb false) Z Z (Xb (Xt (Yk ?_)))
 refine ⟨.tuple #[.agg #[vi 0, vi 0, vi 0, vi 0, vi 0, .slice none 0 0, .slice none 0 0, vi 0], vb false], Ng Z (Yh (vs := [vi 0, vi 0, vi 0, vi 0, vi 0, .slice none 0 0, .slice none 0 0, vi 0]) Ys Z Z (af.blk.rangeL 0 8 Z)) Z, Z, (low1 (low0 (low0 (low1 (low0 aj G.grw) V.grw (by omega)) ab) ak) af.grw (by omega))⟩
end Go.Proofs.YtlhhijnmacogcaaGreatDoor
end
section
namespace Go.Proofs.YtlhhijnmacogcaaGreatDoor
open Go.RowKit Go.Dw
set_option maxRecDepth 100000
set_option maxHeartbeats 4000000
set_option linter.unusedSimpArgs false
set_option linter.unusedVariables false
theorem Xar : zeroTy Tryz.prog 35 = some (.agg #[.int .i64 0, .int .i64 0]) := by kernel_rfl
theorem So (p : Int) (hp : 0 ≤ p ∧ p ≤ 1000000000000) (lo R : Nat) (bs : List Int) (a : Option Addr) (c : Nat) (w : World) (hR : Blk w R 76 #[.slice a bs.length c, vi p]) (hlo : lo ≤ R) (hs : SlLt lo w a 1 (bs.map bcell)) (hb : ∀ b ∈ bs, 0 ≤ b ∧ b ≤ 255) (hn : bs.length ≤ 1048576) : CallsR Tryz.prog 104 #[pt R 0] w (fun v w' => ∃ (l : Lab) (p' : Int), v = .agg #[vi l.s, vi l.v] ∧ -1 ≤ l.s ∧ l.s ≤ 4 ∧ 0 ≤ l.v ∧ l.v ≤ 3 ∧ p ≤ p' ∧ p' ≤ p + 4 ∧ Blk w' R 76 #[.slice a bs.length c, vi p'] ∧ w.grownBy w' (some R)) := by
 refine Xx (n := 25) Tryz.func104 Z Tryz.ntmps104 Z ?_
 have gm := World.grownBy.refl w (some R)
 have hRlt := hR.lt
 refine Xa (Yf (cs := #[vi 0, vi 0]) Xar Z Z ?_)
 intro cw c8 ba
 have k7 := Yd ba gm
 have eu := Xo ba (hR).lt
 have bj := low0 gm ba.grw
 refine Xb (Xq ?_)
 have gq := (hR.grown0 ba.grw)
 refine Qv (m := 12) [[], [], [1], [0, 1, 2], [0, 1, 2, 3], [], [], [1, 2, 6], [1, 2, 5, 6, 7], [1, 2, 5, 6, 7, 8], [0, 1, 2, 3, 4, 5, 6, 7, 8, 9], [], [0, 1, 2, 3, 4, 5, 6, 7, 8, 9, 10, 11]] (fun S F w' => ∃ (ab : Nat) (ad : Int) (V : Int) (ac : Nat) (ae : Int) (O : Int) (af : Nat), c8.grownBy w' (some R) ∧ F 0 = pt R 0 ∧ F 2 = pt cw 0 ∧ (S 2 = false → Blk w' R 76 #[.slice a bs.length c, vi p]) ∧ (S 0 = true → F 4 = .slice (pa ab) 5 5 ∧ w.heap.size ≤ ab ∧ Blk w' ab 3 (([0, 0, 1, 2, 3] : List Int).flatMap icell).toArray ∧ R < ab ∧ cw < ab ∧ c8.heap.size ≤ ab) ∧ (S 1 = true → F 5 = pt R 0) ∧ (S 2 = true → F 6 = vi ad ∧ 0 ≤ ad ∧ (ad < 5 ∨ ad = 0) ∧ (S 7 = false → Blk w' R 76 #[.slice a bs.length c, vi (p + 1)])) ∧ (S 3 = true → F 7 = pt ab ((ad).toNat * 1)) ∧ (S 4 = true → F 8 = vi V ∧ ([0, 0, 1, 2, 3] : List Int)[(ad).toNat]? = some V ∧ (V = 0 ∨ V = 0 ∨ V = 1 ∨ V = 2 ∨ V = 3)) ∧ (S 5 = true → F 9 = .slice (pa ac) 4 4 ∧ w.heap.size ≤ ac ∧ Blk w' ac 3 (([0, 0, 3, 1] : List Int).flatMap icell).toArray ∧ R < ac ∧ cw < ac ∧ c8.heap.size ≤ ac) ∧ (S 6 = true → F 10 = pt R 0) ∧ (S 7 = true → F 11 = vi ae ∧ 0 ≤ ae ∧ (ae < 4 ∨ ae = 0) ∧ Blk w' R 76 #[.slice a bs.length c, vi (p + 1 + 1)]) ∧ (S 8 = true → F 12 = pt ac ((ae).toNat * 1)) ∧ (S 9 = true → F 13 = vi O ∧ ([0, 0, 3, 1] : List Int)[(ae).toNat]? = some O ∧ (O = 0 ∨ O = 0 ∨ O = 3 ∨ O = 1)) ∧ (S 10 = true → F 14 = .agg #[vi V, vi O]) ∧ (S 11 = true → F 3 = pt af 0 ∧ w.heap.size ≤ af ∧ Blk w' af 35 #[vi 0, vi 0] ∧ R < af ∧ cw < af ∧ c8.heap.size ≤ af) ∧ (S 0 = true → S 5 = true → ab ≠ ac) ∧ (S 0 = true → S 11 = true → ab ≠ af) ∧ (S 5 = true → S 11 = true → ac ≠ af)) Yz (by kernel_rfl) ⟨0, 0, 0, 0, 0, 0, 0, X8 _, Z, Z, fun _ => (gq).grown0 (X8 _), Ym, Ym, Ym, Ym, Ym, Ym, Ym, Ym, Ym, Ym, Ym, Ym, Ym, Ym, Ym⟩ ?_ ?_
 refine Xi (fun S F mq hS hbef hcl hI => ?_) ?_
 obtain ⟨ab, ad, V, ac, ae, O, af, bz, fc, fd, c_old_R, ai, ah, aj, aq, av, ak, al, ap, aw, a9, au, ag, E, G, J⟩ := hI
 refine X7 (ps := [(0, vi 0), (1, vi 0), (2, vi 1), (3, vi 2), (4, vi 3)]) (e := 3) (cs := (([0, 0, 1, 2, 3] : List Int).flatMap icell).toArray) (Xk Z (Xk Z (Xk Z (Xk Z (Xk Z X5))))) (fun _ => by kernel_rfl) Z ?_
 intro e0 mr am
 have du := Yd am (grown_trans bj bz)
 have bp := Xo am ((ba.blk.gn bz)).lt
 exact Xb ⟨e0, ad, V, ac, ae, O, af, (low0 bz am.grw), fc, fd, fun h => (c_old_R h).grown0 am.grw, fun _ => ⟨Z, du, am.blk, (by omega), bp, (nt bz.size (Nat.le_of_eq am.eq.symm))⟩, ah, fun h => let ⟨gv, gw, gx, gy⟩ := aj h; ⟨gv, gw, gx, fun hn => (gy hn).grown0 am.grw⟩, Xv 3 hS hcl Z, Xv 4 hS hcl Z, fun h => let ⟨gz, g0, g5, g6, g7, g8⟩ := ak h; ⟨gz, g0, (g5).grown0 am.grw, g6, g7, g8⟩, al, fun h => let ⟨g9, ia, ib, ic⟩ := ap h; ⟨g9, ia, ib, (ic).grown0 am.grw⟩, aw, a9, Xv 10 hS hcl Z, fun h => let ⟨ie, ig, ii, ij, ik, il⟩ := ag h; ⟨ie, ig, (ii).grown0 am.grw, ij, ik, il⟩, fun _ h => let ⟨nn, no, im, np, nq, nr⟩ := ak h; Nat.ne_of_gt (nl (im).lt (Nat.le_of_eq am.eq.symm)), fun _ h => let ⟨nu, nv, io, nw, nx, ny⟩ := ag h; Nat.ne_of_gt (nl (io).lt (Nat.le_of_eq am.eq.symm)), J⟩
 refine Xi (fun S F mt hS hbef hcl hI => ?_) ?_
 obtain ⟨ab, ad, V, ac, ae, O, af, d4, dx, fe, c_old_R, ai, ah, aj, aq, av, ak, al, ap, aw, a9, au, ag, E, G, J⟩ := hI
 exact Xd (v := pt R 0) dx Z (Xb ⟨ab, ad, V, ac, ae, O, af, d4, dx, fe, fun h => c_old_R h, ai, fun _ => Z, Xv 2 hS hcl Z, Xv 3 hS hcl Z, Xv 4 hS hcl Z, ak, al, Xv 7 hS hcl Z, Xv 8 hS hcl Z, Xv 9 hS hcl Z, Xv 10 hS hcl Z, ag, E, G, J⟩)
 refine Xi (fun S F mu hS hbef hcl hI => ?_) ?_
 obtain ⟨ab, ad, V, ac, ae, O, af, dc, ff, fg, c_old_R, ai, ah, aj, aq, av, ak, al, ap, aw, a9, au, ag, E, G, J⟩ := hI
 obtain fh := ah (Xl 1 hbef rfl)
 refine Xn Qo (Xf fh (Xf Z Xm)) Z (Qb p 5 (by omega) _ R bs _ _ _ (c_old_R hS) (by omega) (SlLt.low1 hs (grown_trans bj dc) hlo) (by first | exact hb | exact fun b h => hb b (List.mem_of_mem_take h)) (by first | omega | (rw [List.length_take]; omega))) ?_
 rintro _ mv ⟨gr, rfl, eb, ed, em, bv⟩
 exact Xb ⟨ab, gr, V, ac, ae, O, af, (grown_trans dc bv), ff, fg, fun h => Jq h, fun h => let ⟨ip, iq, ir, it, iu, iv⟩ := ai h; ⟨ip, iq, (ir).gn bv, it, iu, iv⟩, ah, fun _ => ⟨Z, eb, ed, fun _ => em⟩, Xv 3 hS hcl Z, Xv 4 hS hcl Z, fun h => let ⟨iw, ix, iy, iz, i0, i1⟩ := ak h; ⟨iw, ix, (iy).gn bv, iz, i0, i1⟩, al, Xv 7 hS hcl Z, Xv 8 hS hcl Z, Xv 9 hS hcl Z, Xv 10 hS hcl Z, fun h => let ⟨i2, i3, i4, i5, i6, i7⟩ := ag h; ⟨i2, i3, (i4).gn bv, i5, i6, i7⟩, E, G, J⟩
 refine Xi (fun S F mw hS hbef hcl hI => ?_) ?_
 obtain ⟨ab, ad, V, ac, ae, O, af, d5, fi, fj, c_old_R, ai, ah, aj, aq, av, ak, al, ap, aw, a9, au, ag, E, G, J⟩ := hI
 obtain ⟨fk, cd, bc, bh, az, bm⟩ := ai (Xl 0 hbef rfl)
 obtain lg := ah (Xl 1 hbef rfl)
 obtain ⟨fm, bk, bl, bg⟩ := aj (Xl 2 hbef rfl)
 exact X4 (o' := (ad).toNat * 1) J4 fk fm (by omega) (by omega) (by omega) Z (Xb ⟨ab, ad, V, ac, ae, O, af, d5, fi, fj, fun hn => Jq ((Xl 2 hbef Z).symm.trans hn), ai, ah, aj, fun _ => Z, Xv 4 hS hcl Z, ak, al, ap, aw, a9, Xv 10 hS hcl Z, ag, E, G, J⟩)
 refine Xi (fun S F my hS hbef hcl hI => ?_) ?_
 obtain ⟨ab, ad, V, ac, ae, O, af, d6, fo, fp, c_old_R, ai, ah, aj, aq, av, ak, al, ap, aw, a9, au, ag, E, G, J⟩ := hI
 obtain ⟨lh, cd, bc, bh, az, bm⟩ := ai (Xl 0 hbef rfl)
 obtain li := ah (Xl 1 hbef rfl)
 obtain ⟨lj, bk, bl, bg⟩ := aj (Xl 2 hbef rfl)
 obtain fq := aq (Xl 3 hbef rfl)
 obtain ⟨d2, co⟩ := Ja (l := ([0, 0, 1, 2, 3] : List Int)) (i := (ad).toNat) (lq (ad).toNat 5)
 have df := List.mem_of_getElem? co
 simp only [List.mem_cons, List.not_mem_nil, or_false] at df
 exact Xh (v := vi d2) X1 fq ((Qs Yq bc co) 0 _ Z) Z (Xb ⟨ab, ad, d2, ac, ae, O, af, d6, fo, fp, fun hn => Jq ((Xl 2 hbef Z).symm.trans hn), ai, ah, aj, aq, fun _ => ⟨Z, co, df⟩, ak, al, ap, aw, a9, Xv 10 hS hcl Z, ag, E, G, J⟩)
 refine Xi (fun S F mz hS hbef hcl hI => ?_) ?_
 obtain ⟨ab, ad, V, ac, ae, O, af, ca, fr, ft, c_old_R, ai, ah, aj, aq, av, ak, al, ap, aw, a9, au, ag, E, G, J⟩ := hI
 refine X7 (ps := [(0, vi 0), (1, vi 0), (2, vi 3), (3, vi 1)]) (e := 3) (cs := (([0, 0, 3, 1] : List Int).flatMap icell).toArray) (Xk Z (Xk Z (Xk Z (Xk Z X5)))) (fun _ => by kernel_rfl) Z ?_
 intro fa m4 an
 have dv := Yd an (grown_trans bj ca)
 have bq := Xo an ((ba.blk.gn ca)).lt
 exact Xb ⟨ab, ad, V, fa, ae, O, af, (low0 ca an.grw), fr, ft, fun h => (c_old_R h).grown0 an.grw, fun h => let ⟨i8, i9, ja, jb, jc, jd⟩ := ai h; ⟨i8, i9, (ja).grown0 an.grw, jb, jc, jd⟩, ah, fun h => let ⟨je, jf, jg, jh⟩ := aj h; ⟨je, jf, jg, fun hn => (jh hn).grown0 an.grw⟩, aq, av, fun _ => ⟨Z, dv, an.blk, (by omega), bq, (nt ca.size (Nat.le_of_eq an.eq.symm))⟩, al, fun h => let ⟨ji, jj, jk, jl⟩ := ap h; ⟨ji, jj, jk, (jl).grown0 an.grw⟩, Xv 8 hS hcl Z, Xv 9 hS hcl Z, Xv 10 hS hcl Z, fun h => let ⟨jm, jo, jp, jq, jr, js⟩ := ag h; ⟨jm, jo, (jp).grown0 an.grw, jq, jr, js⟩, fun h _ => let ⟨n5, n7, jt, n9, oa, ob⟩ := ai h; Nat.ne_of_lt (nl (jt).lt (Nat.le_of_eq an.eq.symm)), G, fun _ h => let ⟨oc, od, ju, oe, og, oh⟩ := ag h; Nat.ne_of_gt (nl (ju).lt (Nat.le_of_eq an.eq.symm))⟩
 refine Xi (fun S F m5 hS hbef hcl hI => ?_) ?_
 obtain ⟨ab, ad, V, ac, ae, O, af, d7, dy, fu, c_old_R, ai, ah, aj, aq, av, ak, al, ap, aw, a9, au, ag, E, G, J⟩ := hI
 exact Xd (v := pt R 0) dy Z (Xb ⟨ab, ad, V, ac, ae, O, af, d7, dy, fu, fun h => c_old_R h, ai, ah, aj, aq, av, ak, fun _ => Z, Xv 7 hS hcl Z, Xv 8 hS hcl Z, Xv 9 hS hcl Z, Xv 10 hS hcl Z, ag, E, G, J⟩)
 refine Xi (fun S F m6 hS hbef hcl hI => ?_) ?_
 obtain ⟨ab, ad, V, ac, ae, O, af, de, fv, fw, c_old_R, ai, ah, aj, aq, av, ak, al, ap, aw, a9, au, ag, E, G, J⟩ := hI
 obtain lk := ah (Xl 1 hbef rfl)
 obtain ⟨ll, bk, bl, bg⟩ := aj (Xl 2 hbef rfl)
 obtain fx := al (Xl 6 hbef rfl)
 refine Xn Qo (Xf fx (Xf Z Xm)) Z (Qb (p + 1) 4 (by omega) _ R bs _ _ _ (bg hS) (by omega) (SlLt.low1 hs (grown_trans bj de) hlo) (by first | exact hb | exact fun b h => hb b (List.mem_of_mem_take h)) (by first | omega | (rw [List.length_take]; omega))) ?_
 rintro _ m7 ⟨gt, rfl, ee, ef, eo, bw⟩
 exact Xb ⟨ab, ad, V, ac, gt, O, af, (grown_trans de bw), fv, fw, fun hn => Jq ((Xl 2 hbef Z).symm.trans hn), fun h => let ⟨jv, jw, jx, jy, jz, j1⟩ := ai h; ⟨jv, jw, (jx).gn bw, jy, jz, j1⟩, ah, fun h => let ⟨j2, j3, j4, ol⟩ := aj h; ⟨j2, j3, j4, fun h => Jq h⟩, aq, av, fun h => let ⟨j5, j6, j7, j8, j9, ka⟩ := ak h; ⟨j5, j6, (j7).gn bw, j8, j9, ka⟩, al, fun _ => ⟨Z, ee, ef, eo⟩, Xv 8 hS hcl Z, Xv 9 hS hcl Z, Xv 10 hS hcl Z, fun h => let ⟨kb, kc, ke, kf, kg, kh⟩ := ag h; ⟨kb, kc, (ke).gn bw, kf, kg, kh⟩, E, G, J⟩
 refine Xi (fun S F m8 hS hbef hcl hI => ?_) ?_
 obtain ⟨ab, ad, V, ac, ae, O, af, d8, fy, fz, c_old_R, ai, ah, aj, aq, av, ak, al, ap, aw, a9, au, ag, E, G, J⟩ := hI
 obtain lm := ah (Xl 1 hbef rfl)
 obtain ⟨ln, bk, bl, bg⟩ := aj (Xl 2 hbef rfl)
 obtain ⟨f8, ce, bd, bi, a8, bn⟩ := ak (Xl 5 hbef rfl)
 obtain lp := al (Xl 6 hbef rfl)
 obtain ⟨f9, cm, cn, cf⟩ := ap (Xl 7 hbef rfl)
 exact X4 (o' := (ae).toNat * 1) J4 f8 f9 (by omega) (by omega) (by omega) Z (Xb ⟨ab, ad, V, ac, ae, O, af, d8, fy, fz, fun hn => Jq ((Xl 2 hbef Z).symm.trans hn), ai, ah, aj, aq, av, ak, al, ap, fun _ => Z, Xv 9 hS hcl Z, Xv 10 hS hcl Z, ag, E, G, J⟩)
 refine Xi (fun S F m9 hS hbef hcl hI => ?_) ?_
 obtain ⟨ab, ad, V, ac, ae, O, af, d9, ga, gb, c_old_R, ai, ah, aj, aq, av, ak, al, ap, aw, a9, au, ag, E, G, J⟩ := hI
 obtain lu := ah (Xl 1 hbef rfl)
 obtain ⟨lv, bk, bl, bg⟩ := aj (Xl 2 hbef rfl)
 obtain ⟨lw, ce, bd, bi, a8, bn⟩ := ak (Xl 5 hbef rfl)
 obtain ly := al (Xl 6 hbef rfl)
 obtain ⟨lz, cm, cn, cf⟩ := ap (Xl 7 hbef rfl)
 obtain gc := aw (Xl 8 hbef rfl)
 obtain ⟨d3, ct⟩ := Ja (l := ([0, 0, 3, 1] : List Int)) (i := (ae).toNat) (lq (ae).toNat 4)
 have dg := List.mem_of_getElem? ct
 simp only [List.mem_cons, List.not_mem_nil, or_false] at dg
 exact Xh (v := vi d3) X1 gc ((Qs Yq bd ct) 0 _ Z) Z (Xb ⟨ab, ad, V, ac, ae, d3, af, d9, ga, gb, fun hn => Jq ((Xl 2 hbef Z).symm.trans hn), ai, ah, aj, aq, av, ak, al, ap, aw, fun _ => ⟨Z, ct, dg⟩, Xv 10 hS hcl Z, ag, E, G, J⟩)
 refine Xi (fun S F na hS hbef hcl hI => ?_) ?_
 obtain ⟨ab, ad, V, ac, ae, O, af, ea, gf, gg, c_old_R, ai, ah, aj, aq, av, ak, al, ap, aw, a9, au, ag, E, G, J⟩ := hI
 obtain ⟨l0, cd, bc, bh, az, bm⟩ := ai (Xl 0 hbef rfl)
 obtain l3 := ah (Xl 1 hbef rfl)
 obtain ⟨l4, bk, bl, bg⟩ := aj (Xl 2 hbef rfl)
 obtain l5 := aq (Xl 3 hbef rfl)
 obtain ⟨gh, ej, eg⟩ := av (Xl 4 hbef rfl)
 obtain ⟨l6, ce, bd, bi, a8, bn⟩ := ak (Xl 5 hbef rfl)
 obtain l7 := al (Xl 6 hbef rfl)
 obtain ⟨l8, cm, cn, cf⟩ := ap (Xl 7 hbef rfl)
 obtain l9 := aw (Xl 8 hbef rfl)
 obtain ⟨gi, ek, eh⟩ := a9 (Xl 9 hbef rfl)
 have bt := E (Xl 0 hbef rfl) (Xl 5 hbef rfl)
 exact Yv (ps := [(0, vi V), (1, vi O)]) (v := .agg #[vi V, vi O]) (Xk gh (Xk gi X5)) (by kernel_rfl) Z (Xb ⟨ab, ad, V, ac, ae, O, af, ea, gf, gg, fun hn => Jq ((Xl 2 hbef Z).symm.trans hn), ai, ah, aj, aq, av, ak, al, ap, aw, a9, fun _ => Z, ag, E, G, J⟩)
 refine Xi (fun S F nb hS hbef hcl hI => ?_) ?_
 obtain ⟨ab, ad, V, ac, ae, O, af, cc, gj, gk, c_old_R, ai, ah, aj, aq, av, ak, al, ap, aw, a9, au, ag, E, G, J⟩ := hI
 refine Yf (cs := #[vi 0, vi 0]) Xar Z Z ?_
 intro fb nc ao
 have dw := Yd ao (grown_trans bj cc)
 have br := Xo ao ((ba.blk.gn cc)).lt
 exact Xb ⟨ab, ad, V, ac, ae, O, fb, (low0 cc ao.grw), gj, gk, fun h => (c_old_R h).grown0 ao.grw, fun h => let ⟨ki, kj, kk, kl, km, kn⟩ := ai h; ⟨ki, kj, (kk).grown0 ao.grw, kl, km, kn⟩, ah, fun h => let ⟨ko, kp, kq, kr⟩ := aj h; ⟨ko, kp, kq, fun hn => (kr hn).grown0 ao.grw⟩, aq, av, fun h => let ⟨ks, kt, ku, kv, kw, kx⟩ := ak h; ⟨ks, kt, (ku).grown0 ao.grw, kv, kw, kx⟩, al, fun h => let ⟨ky, kz, k0, k4⟩ := ap h; ⟨ky, kz, k0, (k4).grown0 ao.grw⟩, aw, a9, au, fun _ => ⟨Z, dw, ao.blk, (by omega), br, (nt cc.size (Nat.le_of_eq ao.eq.symm))⟩, E, fun h _ => let ⟨om, oo, k5, oq, ot, ou⟩ := ai h; Nat.ne_of_lt (nl (k5).lt (Nat.le_of_eq ao.eq.symm)), fun h _ => let ⟨ov, ow, k6, ox, oy, oz⟩ := ak h; Nat.ne_of_lt (nl (k6).lt (Nat.le_of_eq ao.eq.symm))⟩
 exact Jb
 intro S F nd hall hI
 obtain ⟨ab, ad, V, ac, ae, O, af, cl, dz, cy, c_old_R, ai, ah, aj, aq, av, ak, al, ap, aw, a9, au, ag, E, G, J⟩ := hI
 obtain ⟨ma, cd, bc, bh, az, bm⟩ := ai (hall 0 (by decide))
 obtain mb := ah (hall 1 (by decide))
 obtain ⟨mc, bk, bl, bg⟩ := aj (hall 2 (by decide))
 obtain me := aq (hall 3 (by decide))
 obtain ⟨mf, ej, eg⟩ := av (hall 4 (by decide))
 obtain ⟨mg, ce, bd, bi, a8, bn⟩ := ak (hall 5 (by decide))
 obtain mh := al (hall 6 (by decide))
 obtain ⟨ml, cm, cn, cf⟩ := ap (hall 7 (by decide))
 obtain mm := aw (hall 8 (by decide))
 obtain ⟨mn, ek, eh⟩ := a9 (hall 9 (by decide))
 obtain gl := au (hall 10 (by decide))
 obtain ⟨cz, k8, dk, ew, dl, gp⟩ := ag (hall 11 (by decide))
 have bt := E (hall 0 (by decide)) (hall 5 (by decide))
 have dr := G (hall 0 (by decide)) (hall 11 (by decide))
 have dt := J (hall 5 (by decide)) (hall 11 (by decide))
 refine Xy (vs := [vi V, vi O]) (cs' := #[vi V, vi O]) J6 cz gl Z (by simp [Value.oneCell']) dk (Nat.le_of_ble_eq_true Z) Z ?_
 intro ne bb
 have da := low1 (grown_trans bj cl) bb.grw (by omega)
 refine Xb (Xu (Xq (Xa (Xd (v := pt R 0) dz Z (Xn Qo (Xf Z (Xf Z Xm)) Z (Qb (p + 1 + 1) 60 (by omega) _ R bs _ _ _ (cf.gn bb.grw) (by omega) (SlLt.low1 hs da hlo) (by first | exact hb | exact fun b h => hb b (List.mem_of_mem_take h)) (by first | omega | (rw [List.length_take]; omega))) ?_)))))
 rintro _ nf ⟨gu, rfl, la, lc, cv, bf⟩
 have ck := grown_trans da bf
 refine X6 (q := decide (gu = 0)) Z Z Z Z (Xb (X0 Z (fun c9 => ?_) (fun c9 => ?_)))
 have mo := of_decide_eq_true c9
 refine X2 (X7 (ps := [(0, vi (-1)), (1, vi 4)]) (e := 3) (cs := (([(-1), 4] : List Int).flatMap icell).toArray) (Xk Z (Xk Z X5)) (fun _ => by kernel_rfl) Z ?_)
 intro lf ng ar
 have k9 := Yd ar ck
 have d0 := (((ba.blk.gn cl).gn bb.grw).gn bf)
 have dm := Xo ar (d0).lt
 have dn := Xo ar (((bc.gn bb.grw).gn bf)).lt
 have dp := Xo ar (((bd.gn bb.grw).gn bf)).lt
 have ez := Xo ar (cv).lt
 have d1 := (bb.blk.gn bf)
 have dq := Xo ar (d1).lt
 have db := low0 ck ar.grw
 refine Xd (v := pt R 0) dz Z (Xn Qo (Xf Z (Xf Z Xm)) Z (Qb (p + 1 + 1 + 1) 2 (by omega) _ R bs _ _ _ (cv.grown0 ar.grw) (by omega) (SlLt.low1 hs db hlo) (by first | exact hb | exact fun b h => hb b (List.mem_of_mem_take h)) (by first | omega | (rw [List.length_take]; omega))) ?_)
 rintro _ nh ⟨di, rfl, ld, le, ep, bx⟩
 refine X4 (o' := (di).toNat * 1) J4 Z Z (by omega) (by omega) (by omega) Z ?_
 obtain ⟨be, dh⟩ := Ja (l := ([(-1), 4] : List Int)) (i := (di).toNat) (lq (di).toNat 2)
 have ei := List.mem_of_getElem? dh
 simp only [List.mem_cons, List.not_mem_nil, or_false] at ei
 refine Xh (v := vi be) X1 Z ((Qs Yq (ar.blk.gn bx) dh) 0 _ Z) Z (Xc (o' := 0) U3 cz Z Z (Yc (v := vi be) (cs' := #[vi be, vi O]) X1 Z Z Z ((d1.grown0 ar.grw).gn bx) (Nat.le_of_ble_eq_true Z) Z ?_))
 intro ni bu
 refine Xb (Xu (Xa (Xr (vs := [vi be, vi O]) J6 cz Z (bu.blk.rangeL 0 2 Z) Z (Xy (vs := [vi be, vi O]) (cs' := #[vi be, vi O]) J6 cy Z Z (by simp [Value.oneCell']) (((d0.grown0 ar.grw).gn bx).gn bu.grw) (Nat.le_of_ble_eq_true Z) Z ?_))))
 intro nj cg
 refine Xb (Xt ?_)
 refine ⟨.agg #[vi be, vi O], Jt Z (Yh (vs := [vi be, vi O]) J6 cy Z (cg.blk.rangeL 0 2 Z)), ⟨be, O⟩, (p + 1 + 1 + 1 + 1), Z, show (-1 : Int) ≤ be by omega, show be ≤ (4 : Int) by omega, show (0 : Int) ≤ O by omega, show O ≤ (3 : Int) by omega, by omega, by omega, ((ep.gn bu.grw).gn cg.grw), (low1 (low1 (grown_trans db bx) bu.grw (by omega)) cg.grw (by omega))⟩
 have mp := of_decide_eq_false c9
 refine Xz (Xu (Xa (Xr (vs := [vi V, vi O]) J6 cz Z ((bb.blk.gn bf).rangeL 0 2 Z) Z (Xy (vs := [vi V, vi O]) (cs' := #[vi V, vi O]) J6 cy Z Z (by simp [Value.oneCell']) (((ba.blk.gn cl).gn bb.grw).gn bf) (Nat.le_of_ble_eq_true Z) Z ?_))))
 intro nk cj
 refine Xb (Xt ?_)
 refine ⟨.agg #[vi V, vi O], Jt Z (Yh (vs := [vi V, vi O]) J6 cy Z (cj.blk.rangeL 0 2 Z)), ⟨V, O⟩, (p + 1 + 1 + 1), Z, show (-1 : Int) ≤ V by omega, show V ≤ (4 : Int) by omega, show (0 : Int) ≤ O by omega, show O ≤ (3 : Int) by omega, by omega, by omega, (cv.gn cj.grw), (low1 ck cj.grw (by omega))⟩
theorem Um (m p : MTh) (w : World) (ha : ThAt w m) (hb : ThAt w p) (hla : m.t.slots.length ≤ 1048576 ∧ m.t.queue.length ≤ 1048576) (hlb : p.t.slots.length ≤ 1048576 ∧ p.t.queue.length ≤ 1048576) : CallsR Tryz.prog 23 #[.agg #[vi m.t.kind, vi m.t.lab.s, vi m.t.lab.v, vi m.t.ve, vi m.t.num, .slice m.sa m.t.slots.length m.sc, .slice m.qa m.t.queue.length m.qc, vi m.t.to], .agg #[vi p.t.kind, vi p.t.lab.s, vi p.t.lab.v, vi p.t.ve, vi p.t.num, .slice p.sa p.t.slots.length p.sc, .slice p.qa p.t.queue.length p.qc, vi p.t.to]] w (fun v w' => v = vb (decide (m.t = p.t)) ∧ w.grownBy w' none) := by
 refine Xx (n := 94) Tryz.func23 Z Tryz.ntmps23 Z ?_
 have ee := World.grownBy.refl w none
 refine Xa (Y7 (v := .agg #[vi m.t.kind, vi m.t.lab.s, vi m.t.lab.v, vi m.t.ve, vi m.t.num, .slice m.sa m.t.slots.length m.sc, .slice m.qa m.t.queue.length m.qc, vi m.t.to]) (cs := #[vi m.t.kind, vi m.t.lab.s, vi m.t.lab.v, vi m.t.ve, vi m.t.num, .slice m.sa m.t.slots.length m.sc, .slice m.qa m.t.queue.length m.qc, vi m.t.to]) Z Z Z ?_)
 intro af gl ai
 have ep := Yd ai ee
 have bj := low0 ee ai.grw
 refine Y7 (v := .agg #[vi p.t.kind, vi p.t.lab.s, vi p.t.lab.v, vi p.t.ve, vi p.t.num, .slice p.sa p.t.slots.length p.sc, .slice p.qa p.t.queue.length p.qc, vi p.t.to]) (cs := #[vi p.t.kind, vi p.t.lab.s, vi p.t.lab.v, vi p.t.ve, vi p.t.num, .slice p.sa p.t.slots.length p.sc, .slice p.qa p.t.queue.length p.qc, vi p.t.to]) Z Z Z ?_
 intro ag ek G
 have eu := Yd G bj
 have bt := Xo G (ai.blk).lt
 have bk := low0 bj G.grw
 refine Xe (v := vb false) Z Z (Xb (Xq (Ya (fun f' w' => (f' 2 = pt af 0 ∧ f' 3 = pt ag 0 ∧ f' 4 = vb false ∧ f' 57 = vb (((((((!(decide (m.t.kind = p.t.kind))) || (!(decide (m.t.lab = p.t.lab)))) || (!(decide (m.t.ve = p.t.ve)))) || (!(decide (m.t.num = p.t.num)))) || (!(decide (m.t.to = p.t.to)))) || (!(decide ((m.t.slots.length : Int) = (p.t.slots.length : Int))))) || (!(decide ((m.t.queue.length : Int) = (p.t.queue.length : Int)))))) ∧ ek = w') ?_ ?_)))
 refine Xc (o' := 0) Qd Z Z Z ?_
 have aj := (ai.blk.grown0 G.grw)
 refine Xh (v := vi m.t.kind) X1 Z (aj.cell Z) Z (Xc (o' := 0) Qd Z Z Z (Xh (v := vi p.t.kind) X1 Z (G.blk.cell Z) Z (Q1 (q := !(decide (m.t.kind = p.t.kind))) Z Z Z Z (Xd (v := vb (!(decide (m.t.kind = p.t.kind)))) Z Z ?_))))
 rcases Yg (!(decide (m.t.kind = p.t.kind))) with E | E
 have bv := Jr E
 have fd := of_decide_eq_false bv
 iterate 5 refine Xj rfl rfl rfl E rfl ?_
 refine Xw (v := vb true) Z E Z Z (Xd (v := vb true) Z Z ?_)
 iterate 5 refine Xj rfl rfl rfl rfl rfl ?_
 refine Xw (v := vb true) Z Z Z Z (Xd (v := vb true) Z Z ?_)
 iterate 5 refine Xj rfl rfl rfl rfl rfl ?_
 refine Xw (v := vb true) Z Z Z Z (Xd (v := vb true) Z Z ?_)
 iterate 5 refine Xj rfl rfl rfl rfl rfl ?_
 refine Xw (v := vb true) Z Z Z Z (Xd (v := vb true) Z Z ?_)
 iterate 7 refine Xj rfl rfl rfl rfl rfl ?_
 refine Xw (v := vb true) Z Z Z Z (Xd (v := vb true) Z Z ?_)
 iterate 7 refine Xj rfl rfl rfl rfl rfl ?_
 exact Xw (v := vb true) Z Z Z Z (Xb ⟨⟨Z, Z, Z, (cB (by simp [E, bv]))⟩, Z⟩)
 have ah := Q3 E
 have fe := of_decide_eq_true ah
 refine Xg Z Z Z E (Xc (o' := 1) Ki Z Z Z (Xg Z Z Z E (Xr (vs := [vi m.t.lab.s, vi m.t.lab.v]) J6 Z Z (aj.rangeL 1 2 Z) Z (Xg Z Z Z E (Xc (o' := 1) Ki Z Z Z (Xg Z Z Z E (Xr (vs := [vi p.t.lab.s, vi p.t.lab.v]) J6 Z Z (G.blk.rangeL 1 2 Z) Z (Xg Z Z Z E (Hv (q := !(decide (m.t.lab = p.t.lab))) Z Z (Xbq _ _ m.t.lab p.t.lab _) (Xbs m.t.lab p.t.lab _) Z Z (Xp (v := vb (!(decide (m.t.lab = p.t.lab)))) Z E Z Z (Xd (v := vb (!(decide (m.t.lab = p.t.lab)))) Z Z ?_)))))))))))
 rcases Yg (!(decide (m.t.lab = p.t.lab))) with J | J
 have bw := Jr J
 have ff := of_decide_eq_false bw
 iterate 5 refine Xj rfl rfl rfl J rfl ?_
 refine Xw (v := vb true) Z J Z Z (Xd (v := vb true) Z Z ?_)
 iterate 5 refine Xj rfl rfl rfl rfl rfl ?_
 refine Xw (v := vb true) Z Z Z Z (Xd (v := vb true) Z Z ?_)
 iterate 5 refine Xj rfl rfl rfl rfl rfl ?_
 refine Xw (v := vb true) Z Z Z Z (Xd (v := vb true) Z Z ?_)
 iterate 7 refine Xj rfl rfl rfl rfl rfl ?_
 refine Xw (v := vb true) Z Z Z Z (Xd (v := vb true) Z Z ?_)
 iterate 7 refine Xj rfl rfl rfl rfl rfl ?_
 exact Xw (v := vb true) Z Z Z Z (Xb ⟨⟨Z, Z, Z, (cB (by simp [E, ah, J, bw]))⟩, Z⟩)
 have ak := Q3 J
 have fg := of_decide_eq_true ak
 refine Xg Z Z Z J (Xc (o' := 3) Qz Z Z Z (Xg Z Z Z J (Xh (v := vi m.t.ve) X1 Z (aj.cell Z) Z (Xg Z Z Z J (Xc (o' := 3) Qz Z Z Z (Xg Z Z Z J (Xh (v := vi p.t.ve) X1 Z (G.blk.cell Z) Z (Xg Z Z Z J (Q1 (q := !(decide (m.t.ve = p.t.ve))) Z Z Z Z (Xp (v := vb (!(decide (m.t.ve = p.t.ve)))) Z J Z Z (Xd (v := vb (!(decide (m.t.ve = p.t.ve)))) Z Z ?_)))))))))))
 rcases Yg (!(decide (m.t.ve = p.t.ve))) with O | O
 have bx := Jr O
 have fh := of_decide_eq_false bx
 iterate 5 refine Xj rfl rfl rfl O rfl ?_
 refine Xw (v := vb true) Z O Z Z (Xd (v := vb true) Z Z ?_)
 iterate 5 refine Xj rfl rfl rfl rfl rfl ?_
 refine Xw (v := vb true) Z Z Z Z (Xd (v := vb true) Z Z ?_)
 iterate 7 refine Xj rfl rfl rfl rfl rfl ?_
 refine Xw (v := vb true) Z Z Z Z (Xd (v := vb true) Z Z ?_)
 iterate 7 refine Xj rfl rfl rfl rfl rfl ?_
 exact Xw (v := vb true) Z Z Z Z (Xb ⟨⟨Z, Z, Z, (cB (by simp [E, ah, J, ak, O, bx]))⟩, Z⟩)
 have an := Q3 O
 have fi := of_decide_eq_true an
 refine Xg Z Z Z O (Xc (o' := 4) Qw Z Z Z (Xg Z Z Z O (Xh (v := vi m.t.num) X1 Z (aj.cell Z) Z (Xg Z Z Z O (Xc (o' := 4) Qw Z Z Z (Xg Z Z Z O (Xh (v := vi p.t.num) X1 Z (G.blk.cell Z) Z (Xg Z Z Z O (Q1 (q := !(decide (m.t.num = p.t.num))) Z Z Z Z (Xp (v := vb (!(decide (m.t.num = p.t.num)))) Z O Z Z (Xd (v := vb (!(decide (m.t.num = p.t.num)))) Z Z ?_)))))))))))
 rcases Yg (!(decide (m.t.num = p.t.num))) with ab | ab
 have bz := Jr ab
 have fj := of_decide_eq_false bz
 iterate 5 refine Xj rfl rfl rfl ab rfl ?_
 refine Xw (v := vb true) Z ab Z Z (Xd (v := vb true) Z Z ?_)
 iterate 7 refine Xj rfl rfl rfl rfl rfl ?_
 refine Xw (v := vb true) Z Z Z Z (Xd (v := vb true) Z Z ?_)
 iterate 7 refine Xj rfl rfl rfl rfl rfl ?_
 exact Xw (v := vb true) Z Z Z Z (Xb ⟨⟨Z, Z, Z, (cB (by simp [E, ah, J, ak, O, an, ab, bz]))⟩, Z⟩)
 have a9 := Q3 ab
 have fk := of_decide_eq_true a9
 refine Xg Z Z Z ab (Xc (o' := 7) J5 Z Z Z (Xg Z Z Z ab (Xh (v := vi m.t.to) X1 Z (aj.cell Z) Z (Xg Z Z Z ab (Xc (o' := 7) J5 Z Z Z (Xg Z Z Z ab (Xh (v := vi p.t.to) X1 Z (G.blk.cell Z) Z (Xg Z Z Z ab (Q1 (q := !(decide (m.t.to = p.t.to))) Z Z Z Z (Xp (v := vb (!(decide (m.t.to = p.t.to)))) Z ab Z Z (Xd (v := vb (!(decide (m.t.to = p.t.to)))) Z Z ?_)))))))))))
 rcases Yg (!(decide (m.t.to = p.t.to))) with V | V
 have ca := Jr V
 have fm := of_decide_eq_false ca
 iterate 7 refine Xj rfl rfl rfl V rfl ?_
 refine Xw (v := vb true) Z V Z Z (Xd (v := vb true) Z Z ?_)
 iterate 7 refine Xj rfl rfl rfl rfl rfl ?_
 exact Xw (v := vb true) Z Z Z Z (Xb ⟨⟨Z, Z, Z, (cB (by simp [E, ah, J, ak, O, an, ab, a9, V, ca]))⟩, Z⟩)
 have be := Q3 V
 have fo := of_decide_eq_true be
 refine Xg Z Z Z V (Xc (o' := 5) Qj Z Z Z (Xg Z Z Z V (Xh (v := .slice m.sa m.t.slots.length m.sc) Jd Z (aj.cell Z) Z (Xg Z Z Z V (Y1 (by kernel_rfl) Z Z (Xg Z Z Z V (Xc (o' := 5) Qj Z Z Z (Xg Z Z Z V (Xh (v := .slice p.sa p.t.slots.length p.sc) Jd Z (G.blk.cell Z) Z (Xg Z Z Z V (Y1 (by kernel_rfl) Z Z (Xg Z Z Z V ?_))))))))))))
 refine Q1 (q := !(decide ((m.t.slots.length : Int) = (p.t.slots.length : Int)))) Z Z Z Z (Xp (v := vb (!(decide ((m.t.slots.length : Int) = (p.t.slots.length : Int))))) Z V Z Z (Xd (v := vb (!(decide ((m.t.slots.length : Int) = (p.t.slots.length : Int))))) Z Z ?_))
 rcases Yg (!(decide ((m.t.slots.length : Int) = (p.t.slots.length : Int)))) with ac | ac
 have cc := Jr ac
 have fp := of_decide_eq_false cc
 iterate 7 refine Xj rfl rfl rfl ac rfl ?_
 exact Xw (v := vb true) Z ac Z Z (Xb ⟨⟨Z, Z, Z, (cB (by simp [E, ah, J, ak, O, an, ab, a9, V, be, ac, cc]))⟩, Z⟩)
 have cd := Q3 ac
 have fq := of_decide_eq_true cd
 refine Xg Z Z Z ac (Xc (o' := 6) Qq Z Z Z (Xg Z Z Z ac (Xh (v := .slice m.qa m.t.queue.length m.qc) Ju Z (aj.cell Z) Z (Xg Z Z Z ac (Y1 (by kernel_rfl) Z Z (Xg Z Z Z ac (Xc (o' := 6) Qq Z Z Z (Xg Z Z Z ac (Xh (v := .slice p.qa p.t.queue.length p.qc) Ju Z (G.blk.cell Z) Z (Xg Z Z Z ac (Y1 (by kernel_rfl) Z Z (Xg Z Z Z ac ?_))))))))))))
 exact Q1 (q := !(decide ((m.t.queue.length : Int) = (p.t.queue.length : Int)))) Z Z Z Z (Xp (v := vb (!(decide ((m.t.queue.length : Int) = (p.t.queue.length : Int))))) Z ac Z Z (Xb ⟨⟨Z, Z, Z, (cB (by simp [E, ah, J, ak, O, an, ab, a9, V, be, ac, cd]))⟩, Z⟩))
 rintro fa gm ⟨⟨d1, d2, e0, d3⟩, rfl⟩
 refine X0 d3 (fun ba => ?_) (fun ba => ?_)
 refine Xa (Xe (v := vb false) Z Z (Xb (Xt (Yk (⟨vb false, Yt Z Z, ?_, bk⟩)))))
 exact cB (decide_eq_false (fun e => by have h := ba; rw [e] at h; simp at h)).symm
 have ce := Kl ba
 have cf := Kl ce
 have cg := Kl cf
 have cj := Kl cg
 have ck := Kl cj
 have d4 := Kl ck
 have cl := Q3 d4
 have fr := of_decide_eq_true cl
 have d5 := Km ck
 have cm := Q3 d5
 have ft := of_decide_eq_true cm
 have d6 := Km cj
 have cn := Q3 d6
 have fu := of_decide_eq_true cn
 have d7 := Km cg
 have co := Q3 d7
 have fv := of_decide_eq_true co
 have d8 := Km cf
 have ct := Q3 d8
 have fw := of_decide_eq_true ct
 have d9 := Km ce
 have ea := Q3 d9
 have fx := of_decide_eq_true ea
 have eb := Km ba
 have ed := Q3 eb
 have fy := of_decide_eq_true ed
 refine Xz (Xu (Xq (Xa (Xe (v := vi 0) Z Z (Xb (X9 (Ql (fun mm f' w' => ∃ (k : Nat), mm = m.t.slots.length - k ∧ k ≤ m.t.slots.length ∧ m.t.slots.take k = p.t.slots.take k ∧ f' 5 = vi (k : Int) ∧ f' 2 = pt af 0 ∧ f' 3 = pt ag 0 ∧ w.grownBy w' none ∧ Blk w' af 39 #[vi m.t.kind, vi m.t.lab.s, vi m.t.lab.v, vi m.t.ve, vi m.t.num, .slice m.sa m.t.slots.length m.sc, .slice m.qa m.t.queue.length m.qc, vi m.t.to] ∧ Blk w' ag 39 #[vi p.t.kind, vi p.t.lab.s, vi p.t.lab.v, vi p.t.ve, vi p.t.num, .slice p.sa p.t.slots.length p.sc, .slice p.qa p.t.queue.length p.qc, vi p.t.to]) (m.t.slots.length - 0) ⟨0, Z, (Nat.zero_le _), Z, Z, d1, d2, bk, (ai.blk.grown0 G.grw), G.blk⟩ ?_)))))))
 rintro mm fb em ⟨k, ew, hk, hs5, aw, az, bc, al, bb, bn⟩
 refine Xq (Xa (Xd (v := vi (k : Int)) aw Z (Xc (o' := 5) Qj az Z Z (Xh (v := .slice m.sa m.t.slots.length m.sc) Jd Z (bb.cell Z) Z (Y1 (by kernel_rfl) Z Z (Qg (q := decide ((k : Int) < (m.t.slots.length : Int))) Z Z Z Z (Xb (X0 Z (fun bf => ?_) (fun bf => ?_)))))))))
 have fz := of_decide_eq_true bf
 refine Xz (Xu (Xq (X9 (Xq ?_))))
 obtain ⟨ad, aq⟩ := Ja (l := m.t.slots) (i := k) (by omega)
 obtain ⟨dx, gh, eg, c9, dn, dt⟩ := SlAt.at ha.1 (Yp aq)
 obtain ⟨ae, ar⟩ := Ja (l := p.t.slots) (i := k) (by omega)
 obtain ⟨dy, gi, eh, da, dp, du⟩ := SlAt.at hb.1 (Yp ar)
 refine Yy (m := 10) (vals := [(65, pt af 5), (66, .slice m.sa m.t.slots.length m.sc), (67, vi (k : Int)), (68, pt dx eg), (69, .agg #[vi ad.th, vi ad.ve, vb ad.rd, vb ad.wr, vb ad.wk]), (70, pt ag 5), (71, .slice p.sa p.t.slots.length p.sc), (72, vi (k : Int)), (73, pt dy eh), (74, .agg #[vi ae.th, vi ae.ve, vb ae.rd, vb ae.wr, vb ae.wk])]) (fun w' => em.grownBy w' none) Yz (by kernel_rfl) (X8 _) ?_ ?_
 exact yl Z (fun _ _ k => Xc (o' := 5) Qj az Z Z k) (yl Z (fun _ de k => Xh (v := .slice m.sa m.t.slots.length m.sc) Jd Z ((bb.grown0 de).cell Z) Z k) (yl Z (fun _ _ kq => Xd (v := vi (k : Int)) aw Z kq) (yl Z (fun _ _ k => X3 J9 Z Z c9 dn (by omega) (by omega) Z k) (yl Z (fun _ df k => Xr (vs := [vi ad.th, vi ad.ve, vb ad.rd, vb ad.wr, vb ad.wk]) Y0 Z Z (Y2 (Yi dt (low0 al df)) 0 5 Z) Z k) (yl Z (fun _ _ k => Xc (o' := 5) Qj bc Z Z k) (yl Z (fun _ dg k => Xh (v := .slice p.sa p.t.slots.length p.sc) Jd Z ((bn.grown0 dg).cell Z) Z k) (yl Z (fun _ _ kq => Xd (v := vi (k : Int)) aw Z kq) (yl Z (fun _ _ k => X3 J9 Z Z da dp (by omega) (by omega) Z k) (yl Z (fun _ dh k => Xr (vs := [vi ae.th, vi ae.ve, vb ae.rd, vb ae.wr, vb ae.wk]) Y0 Z Z (Y2 (Yi du (low0 al dh)) 0 5 Z) Z k) Y8)))))))))
 intro gp ao
 have bl := low0 al ao
 refine Hv (q := !(decide (ad = ae))) Z Z (Xbp _ _ ad ae _) (Xbr ad ae _) Z Z (Xb (Xu (X0 Z (fun bg => ?_) (fun bg => ?_))))
 have cv := Jr bg
 have f8 := of_decide_eq_false cv
 refine Xa (Xe (v := vb false) Z Z (Xb (Xt (Qn (Yk (Yk (Qn (Yk (⟨vb false, Yt Z Z, ?_, bl⟩)))))))))
 exact cB (decide_eq_false (fun e => Lg aq ar (of_decide_eq_false cv) (congrArg Th.slots e))).symm
 have cw := Q3 bg
 have f9 := of_decide_eq_true cw
 exact Xz (Y3 (Xu (X2 (Xd (v := vi (k : Int)) aw Z (Yl (c := (k : Int) + 1) Z Z (by omega) (by omega) (by omega) Z (Xe (v := vi ((k : Int) + 1)) Z Z (Xb (Xu (⟨m.t.slots.length - (k + 1), by omega, (k + 1), Z, (by omega), (U8 hs5 aq ar (of_decide_eq_true cw)), Z, az, bc, bl, (bb.grown0 ao), (bn.grown0 ao)⟩)))))))))
 have ga := of_decide_eq_false bf
 refine Qf (Y9 (Y9 (Jh (Xu (Xq (Xa (Xe (v := vi 0) Z Z (Xb (X9 (Ql (fun mm f' w' => ∃ (j : Nat), mm = m.t.queue.length - j ∧ j ≤ m.t.queue.length ∧ m.t.queue.take j = p.t.queue.take j ∧ f' 6 = vi (j : Int) ∧ f' 2 = pt af 0 ∧ f' 3 = pt ag 0 ∧ w.grownBy w' none ∧ Blk w' af 39 #[vi m.t.kind, vi m.t.lab.s, vi m.t.lab.v, vi m.t.ve, vi m.t.num, .slice m.sa m.t.slots.length m.sc, .slice m.qa m.t.queue.length m.qc, vi m.t.to] ∧ Blk w' ag 39 #[vi p.t.kind, vi p.t.lab.s, vi p.t.lab.v, vi p.t.ve, vi p.t.num, .slice p.sa p.t.slots.length p.sc, .slice p.qa p.t.queue.length p.qc, vi p.t.to]) (m.t.queue.length - 0) ⟨0, Z, (Nat.zero_le _), Z, Z, az, bc, al, bb, bn⟩ ?_))))))))))
 rintro mm fc eo ⟨j, ez, hj, ef, a8, bd, bu, am, bp, c8⟩
 refine Xq (Xa (Xd (v := vi (j : Int)) a8 Z (Xc (o' := 6) Qq bd Z Z (Xh (v := .slice m.qa m.t.queue.length m.qc) Ju Z (bp.cell Z) Z (Y1 (by kernel_rfl) Z Z (Qg (q := decide ((j : Int) < (m.t.queue.length : Int))) Z Z Z Z (Xb (X0 Z (fun bh => ?_) (fun bh => ?_)))))))))
 have gb := of_decide_eq_true bh
 refine Xz (Xu (Xq (X9 (Xq ?_))))
 obtain ⟨bq, au⟩ := Ja (l := m.t.queue) (i := j) (by omega)
 obtain ⟨dz, gj, ei, db, dq, dv⟩ := SlAt.at ha.2.1 (Yp au)
 obtain ⟨br, av⟩ := Ja (l := p.t.queue) (i := j) (by omega)
 obtain ⟨d0, gk, ej, dc, dr, dw⟩ := SlAt.at hb.2.1 (Yp av)
 refine Yy (m := 10) (vals := [(83, pt af 6), (84, .slice m.qa m.t.queue.length m.qc), (85, vi (j : Int)), (86, pt dz ei), (87, vi bq), (88, pt ag 6), (89, .slice p.qa p.t.queue.length p.qc), (90, vi (j : Int)), (91, pt d0 ej), (92, vi br)]) (fun w' => eo.grownBy w' none) Yz (by kernel_rfl) (X8 _) ?_ ?_
 exact yl Z (fun _ _ k => Xc (o' := 6) Qq bd Z Z k) (yl Z (fun _ di k => Xh (v := .slice m.qa m.t.queue.length m.qc) Ju Z ((bp.grown0 di).cell Z) Z k) (yl Z (fun _ _ k => Xd (v := vi (j : Int)) a8 Z k) (yl Z (fun _ _ k => X3 J4 Z Z db dq (by omega) (by omega) Z k) (yl Z (fun _ dk k => Xh (v := vi bq) X1 Z ((Yi dv (low0 am dk)) 0 _ Z) Z k) (yl Z (fun _ _ k => Xc (o' := 6) Qq bu Z Z k) (yl Z (fun _ dl k => Xh (v := .slice p.qa p.t.queue.length p.qc) Ju Z ((c8.grown0 dl).cell Z) Z k) (yl Z (fun _ _ k => Xd (v := vi (j : Int)) a8 Z k) (yl Z (fun _ _ k => X3 J4 Z Z dc dr (by omega) (by omega) Z k) (yl Z (fun _ dm k => Xh (v := vi br) X1 Z ((Yi dw (low0 am dm)) 0 _ Z) Z k) Y8)))))))))
 intro gq ap
 have bm := low0 am ap
 refine Q1 (q := !(decide (bq = br))) Z Z Z Z (Xb (Xu (X0 Z (fun bi => ?_) (fun bi => ?_))))
 have cy := Jr bi
 have gc := of_decide_eq_false cy
 refine Xa (Xe (v := vb false) Z Z (Xb (Xt (Qn (Yk (Yk (Qn (Yk (⟨vb false, Yt Z Z, ?_, bm⟩)))))))))
 exact cB (decide_eq_false (fun e => Lg au av (of_decide_eq_false cy) (congrArg Th.queue e))).symm
 have cz := Q3 bi
 have gf := of_decide_eq_true cz
 exact Xz (Y3 (Xu (X2 (Xd (v := vi (j : Int)) a8 Z (Yl (c := (j : Int) + 1) Z Z (by omega) (by omega) (by omega) Z (Xe (v := vi ((j : Int) + 1)) Z Z (Xb (Xu (⟨m.t.queue.length - (j + 1), by omega, (j + 1), Z, (by omega), (U8 ef au av (of_decide_eq_true cz)), Z, bd, bu, bm, (bp.grown0 ap), (c8.grown0 ap)⟩)))))))))
 have gg := of_decide_eq_false bh
 refine Qf (Y9 (Y9 (Jh (Xu (Xa (Xe (v := vb true) Z Z (Xb (Xt (⟨vb true, Yt Z Z, ?_, am⟩)))))))))
 exact cB (decide_eq_true (Xb8 (of_decide_eq_true cl) (of_decide_eq_true cm) (of_decide_eq_true cn) (of_decide_eq_true co) (W9 hs5 (by omega) (by omega)) (W9 ef (by omega) (by omega)) (of_decide_eq_true ct))).symm
end Go.Proofs.YtlhhijnmacogcaaGreatDoor
end
section
namespace Go.Dw
def MTh.zero : MTh := ⟨Th.zero, none, 0, none, 0⟩
def mAt (ms : List MTh) (i : Nat) : MTh := ms.getD i MTh.zero
theorem Q0 {ms : List MTh} {i : Nat} (h : i < ms.length) : ms[i]? = some (mAt ms i) := by
  unfold mAt
  rw [List.getD_eq_getElem?_getD, List.getElem?_eq_getElem h]
  rfl
def rAt (xs : List Rt) (i : Nat) : Rt := xs.getD i Rt.zero
theorem Vg {xs : List Rt} {i : Nat} (h : i < xs.length) : xs[i]? = some (rAt xs i) := by
  unfold rAt
  rw [List.getD_eq_getElem?_getD, List.getElem?_eq_getElem h]
  rfl
def iAt (xs : List Int) (i : Nat) : Int := xs.getD i 0
theorem Gm {xs : List Int} {i : Nat} (h : i < xs.length) : xs[i]? = some (iAt xs i) := by
  unfold iAt
  rw [List.getD_eq_getElem?_getD, List.getElem?_eq_getElem h]
  rfl
def thAt (ts : List Th) (k : Int) : Th := ts.getD (k - 1).toNat Th.zero
def tabT (ms : List MTh) : List Th := ms.map (·.t)
theorem Y5 (ms : List MTh) : (tabT ms).length = ms.length := List.length_map _
theorem Xde (ms : List MTh) (i : Nat) : (mAt ms i).t = (tabT ms).getD i Th.zero := by
  unfold mAt tabT
  rw [List.getD_eq_getElem?_getD, List.getD_eq_getElem?_getD, List.getElem?_map]
  cases ms[i]? <;> rfl
theorem Qk (ms : List MTh) (k : Int) : (mAt ms (k - 1).toNat).t = thAt (tabT ms) k := Xde ms _
def kindAt (ts : List Th) (k kd : Int) : Bool := inR k 1 (ts.length : Int) && decide ((thAt ts k).kind = kd)
def gateOk (ts : List Th) (t : Th) : Bool := !(decide (t.kind = 5)) || kindAt ts t.to 1
def rightTo (ts : List Th) (r : Rt) : Bool := decide (r.th = 0) || (inR r.th 1 (ts.length : Int) && decide (r.ve ≤ (thAt ts r.th).ve))
def tableOk (ts : List Th) : Bool := inR (ts.length : Int) 1 8 && (ts.all (fun t => thingOk t && gateOk ts t) && ts.all (fun t => t.slots.all (rightTo ts)))
theorem Qp {t : Th} (h : thingOk t = true) : inR t.kind 1 5 = true ∧ labelOk t.lab = true ∧ versOk t = true ∧ numOk t = true ∧ slotsOk t = true ∧ queueOk t = true ∧ targetOk t = true := by
  unfold thingOk at h
  simp only [Bool.and_eq_true] at h
  obtain ⟨⟨⟨⟨⟨⟨h1, h2⟩, h3⟩, h4⟩, h5⟩, h6⟩, h7⟩ := h
  exact ⟨h1, h2, h3, h4, h5, h6, h7⟩
theorem Qi {n lo hi : Int} : inR n lo hi = true ↔ lo ≤ n ∧ n ≤ hi := by simp [inR]
theorem Hu {t : Th} (h : thingOk t = true) (hk : decide (t.kind = 5) = true) : 1 ≤ t.to ∧ t.to ≤ 8 := by
  have h7 := (Qp h).2.2.2.2.2.2
  unfold targetOk at h7
  rw [if_pos (of_decide_eq_true hk)] at h7
  exact Qi.1 h7
theorem Ln {t : Th} (h : thingOk t = true) : t.slots.all rightOk = true := by
  rw [Va] at h
  simp only [Bool.and_eq_true] at h
  exact h.1.1.2
theorem V4 {r : Rt} (h : rightOk r = true) : 0 ≤ r.th ∧ r.th ≤ 8 := by
  unfold rightOk at h
  simp only [Bool.or_eq_true, Bool.and_eq_true, decide_eq_true_eq] at h
  rcases h with rfl | ⟨⟨h1, _⟩, _⟩
  · exact ⟨by decide, by decide⟩
  · have := Qi.1 h1
    omega
theorem Lm {t : Th} {k : Nat} {r : Rt} (h : thingOk t = true) (hk : t.slots[k]? = some r) : 0 ≤ r.th ∧ r.th ≤ 8 :=
  V4 (List.all_eq_true.1 (Ln h) r (List.mem_of_getElem? hk))
def rowOk (ts : List Th) (t : Th) : Bool := (thingOk t && gateOk ts t) && t.slots.all (rightTo ts)
theorem Vi (ts : List Th) : tableOk ts = (inR (ts.length : Int) 1 8 && ts.all (rowOk ts)) := by
  unfold tableOk rowOk
  congr 1
  generalize rightTo ts = p
  rw [Bool.eq_iff_iff]
  simp only [Bool.and_eq_true, List.all_eq_true]
  exact ⟨fun h x hx => ⟨h.1 x hx, h.2 x hx⟩, fun h => ⟨fun x hx => (h x hx).1, fun x hx => (h x hx).2⟩⟩
theorem U7 {ms : List MTh} {k : Nat} (h : k < ms.length) : (tabT ms)[k]? = some (mAt ms k).t := by
  unfold tabT
  rw [List.getElem?_map, Q0 h]
  rfl
theorem Oe {ms : List MTh} {k : Nat} (h : k < ms.length) (hr : rowOk (tabT ms) (mAt ms k).t = false) : false = tableOk (tabT ms) := by
  rw [Vi, Kp (p := rowOk (tabT ms)) (U7 h) hr, Bool.and_false]
theorem Zs {ms : List MTh} {k : Nat} (h : (((tabT ms).take k).all (rowOk (tabT ms))) = true) (hk : ms.length ≤ k) : inR (ms.length : Int) 1 8 = tableOk (tabT ms) := by
  rw [Vi, Ku h (by rw [Y5]; exact hk), Bool.and_true, Y5]
theorem Ur {ms : List MTh} {t : Th} {z : Bool} (hz : z = ((!thingOk t) || ((decide (t.kind = 5)) && ((decide ((ms.length : Int) < t.to)) || (!(decide ((mAt ms (t.to - 1).toNat).t.kind = 1))))))) :
    (z = true → rowOk (tabT ms) t = false) ∧ (z = false → thingOk t = true ∧ gateOk (tabT ms) t = true) := by
  subst hz
  cases ht : thingOk t with
  | false => simp [rowOk, ht]
  | true =>
    by_cases h5 : t.kind = 5
    · have hb := Hu ht (decide_eq_true h5)
      simp only [rowOk, gateOk, kindAt, ht, h5, Qk, Y5, inR]
      by_cases hl : t.to ≤ (ms.length : Int)
      · have h1 : ¬ (ms.length : Int) < t.to := by omega
        by_cases hk : (thAt (tabT ms) t.to).kind = 1 <;> simp [h1, hl, hb.1, hk]
      · have h1 : (ms.length : Int) < t.to := by omega
        simp [h1, hl]
    · simp [gateOk, h5]
theorem Nk {ms : List MTh} {r : Rt} (h0 : 0 ≤ r.th) : ((decide ((ms.length : Int) < r.th)) || ((decide (0 < r.th)) && (decide ((mAt ms (r.th - 1).toNat).t.ve < r.ve)))) = !rightTo (tabT ms) r := by
  unfold rightTo inR
  rw [Qk, Y5, Bool.eq_iff_iff]
  simp
  omega
theorem Zn {ms : List MTh} {t : Th} {k : Nat} {r : Rt} (hr : t.slots[k]? = some r) (h : rightTo (tabT ms) r = false) : rowOk (tabT ms) t = false := by
  unfold rowOk
  rw [Kp hr h, Bool.and_false]
theorem Zo {ms : List MTh} {t : Th} {j : Nat} (ht : thingOk t = true) (hg : gateOk (tabT ms) t = true) (h : ((t.slots.take j).all (rightTo (tabT ms))) = true) (hj : t.slots.length ≤ j) : rowOk (tabT ms) t = true := by
  unfold rowOk
  rw [ht, hg, Ku h hj]
  rfl
def TabLen (ms : List MTh) : Prop := ∀ m ∈ ms, m.t.slots.length ≤ 1048576 ∧ m.t.queue.length ≤ 1048576
theorem TabLen.at {ms : List MTh} (h : TabLen ms) {k : Nat} {m : MTh} (hk : ms[k]? = some m) : m.t.slots.length ≤ 1048576 ∧ m.t.queue.length ≤ 1048576 := h m (List.mem_of_getElem? hk)
end Go.Dw
end
section
namespace Go.Dw
abbrev mj (ms : List MTh) (k : Int) : MTh := mAt ms (k - 1).toNat
abbrev sj (ms : List MTh) (q : Cl) : Rt := rAt (mAt ms (q.run - 1).toNat).t.slots q.a.toNat
theorem xg (ms : List MTh) (i : Nat) (h : i < ms.length := by omega) : ms[i]? = some (mAt ms i) := Q0 h
theorem xr (xs : List Rt) (i : Nat) (h : i < xs.length := by omega) : xs[i]? = some (rAt xs i) := Vg h
end Go.Dw
end
section
namespace Go.Dw
def SlX (X : Option Nat) (w : World) (a : Option Addr) (sz : Nat) (xs : List (List Value)) : Prop := ∀ k x, xs[k]? = some x → ∃ b o, a = some ⟨b, o, none⟩ ∧ some b ≠ X ∧ w.rangeAt b (o + k * sz) x
section
variable {X : Option Nat} {w w' : World} {a : Option Addr} {sz : Nat} {xs : List (List Value)}
theorem SlX.sl (h : SlX X w a sz xs) : SlAt w a sz xs := fun k x hk => by
  obtain ⟨b, o, ha, _, hr⟩ := h k x hk
  exact ⟨b, o, ha, hr⟩
theorem SlX.low (h : SlX X w a sz xs) (hg : w.grownBy w' none) : SlX X w' a sz xs := fun k x hk => by
  obtain ⟨b, o, ha, hb, hr⟩ := h k x hk
  exact ⟨b, o, ha, hb, J0 hr hg (by simp)⟩
theorem SlX.grown (h : SlX X w a sz xs) (hg : w.grownBy w' X) : SlX X w' a sz xs := fun k x hk => by
  obtain ⟨b, o, ha, hb, hr⟩ := h k x hk
  exact ⟨b, o, ha, hb, J0 hr hg hb⟩
theorem SlX.nil : SlX X w a sz [] := fun k x hk => by simp at hk
theorem SlX.rows {α : Type} {g : α → List Value} (hg : Wide g sz) {ys : List α} {B : Nat} {T : TypeId} (h : Blk w B T (ys.flatMap g).toArray) (hB : some B ≠ X) : SlX X w (some ⟨B, 0, none⟩) sz (ys.map g) := fun k x hk => by
  obtain ⟨b, o, ha, hr⟩ := Jo hg h k x hk
  simp only [Option.some.injEq, Addr.mk.injEq] at ha
  obtain ⟨rfl, rfl, _⟩ := ha
  exact ⟨_, _, rfl, hB, hr⟩
theorem SlX.own {α : Type} {g : α → List Value} (hg : Wide g sz) {ys : List α} {B cap n : Nat} {T : TypeId} (h : Own w B T sz cap n (ys.flatMap g)) (hB : some B ≠ X) : SlX X w (some ⟨B, 0, none⟩) sz (ys.map g) := fun k x hk => by
  obtain ⟨b, o, ha, hr⟩ := Own.sl hg h k x hk
  simp only [Option.some.injEq, Addr.mk.injEq] at ha
  obtain ⟨rfl, rfl, _⟩ := ha
  exact ⟨_, _, rfl, hB, hr⟩
theorem SlX.ownN {α : Type} {g : α → List Value} (hg : Wide g sz) (h0 : 0 < sz) {ys : List α} {cap n lo : Nat} {T : TypeId} (h : OwnN lo w a T sz cap n (ys.flatMap g)) (hB : ∀ b, X = some b → b < lo) : SlX X w a sz (ys.map g) := fun k x hk => by
  obtain ⟨b, o, ha, hr⟩ := OwnN.sl hg h0 h k x hk
  refine ⟨b, o, ha, fun e => ?_, hr⟩
  have h1 := hB b e.symm
  rcases h.form with ⟨h2, _⟩ | ⟨B, h2, h3, _⟩
  · rw [h2] at ha; cases ha
  · rw [h2] at ha
    simp only [Option.some.injEq, Addr.mk.injEq] at ha
    omega
end
def ThX (X : Option Nat) (w : World) (m : MTh) : Prop := SlX X w m.sa 5 (m.t.slots.map Rt.cells) ∧ SlX X w m.qa 1 (m.t.queue.map icell) ∧ (m.sa = none → m.sc = 0) ∧ (m.qa = none → m.qc = 0)
def TabX (X : Option Nat) (w : World) (a : Option Addr) (ms : List MTh) : Prop := SlX X w a 8 (ms.map MTh.cells) ∧ ∀ m ∈ ms, ThX X w m
section
variable {X : Option Nat} {w w' : World} {a : Option Addr} {m : MTh} {ms : List MTh}
theorem ThX.at (h : ThX X w m) : ThAt w m := ⟨h.1.sl, h.2.1.sl, h.2.2⟩
theorem ThX.low (h : ThX X w m) (hg : w.grownBy w' none) : ThX X w' m := ⟨h.1.low hg, h.2.1.low hg, h.2.2⟩
theorem ThX.grown (h : ThX X w m) (hg : w.grownBy w' X) : ThX X w' m := ⟨h.1.grown hg, h.2.1.grown hg, h.2.2⟩
theorem TabX.at (h : TabX X w a ms) : TabAt w a ms := ⟨h.1.sl, fun m hm => (h.2 m hm).at⟩
theorem TabX.low (h : TabX X w a ms) (hg : w.grownBy w' none) : TabX X w' a ms := ⟨h.1.low hg, fun m hm => (h.2 m hm).low hg⟩
theorem TabX.grown (h : TabX X w a ms) (hg : w.grownBy w' X) : TabX X w' a ms := ⟨h.1.grown hg, fun m hm => (h.2 m hm).grown hg⟩
theorem TabX.th (h : TabX X w a ms) {k : Nat} (hk : ms[k]? = some m) : ThX X w m := h.2 m (List.mem_of_getElem? hk)
end
theorem Ml {ys ms : List MTh} {k : Nat} {m m' : MTh} (h : tabT ys = (tabT ms).take k) (hx : ms[k]? = some m) (he : m'.t = m.t) : tabT (ys ++ [m']) = (tabT ms).take (k + 1) := by
  have h1 : (tabT ms)[k]? = some m.t := by unfold tabT; rw [List.getElem?_map, hx]; rfl
  rw [List.take_add_one, h1, ← h]
  simp [tabT, he]
theorem Od {ys ms : List MTh} {k : Nat} (h : tabT ys = (tabT ms).take k) (hk : ms.length ≤ k) : tabT ys = tabT ms := by
  rwa [List.take_of_length_le (by rw [Y5]; exact hk)] at h
theorem TabLen.of {ys ms : List MTh} (h : tabT ys = tabT ms) (hl : TabLen ms) : TabLen ys := fun m hm => by
  have h1 : m.t ∈ tabT ms := by rw [← h]; exact List.mem_map.2 ⟨m, hm, rfl⟩
  obtain ⟨m', hm', e⟩ := List.mem_map.1 h1
  have := hl m' hm'
  rwa [e] at this
theorem Hm {ys ms : List MTh} (h : tabT ys = tabT ms) : ys.length = ms.length := by
  have := congrArg List.length h
  rwa [Y5, Y5] at this
def TabBig (ms : List MTh) : Prop := ∀ m ∈ ms, m.t.slots.length ≤ 9223372036854775807 ∧ m.t.queue.length ≤ 9223372036854775807
theorem TabBig.at {ms : List MTh} (h : TabBig ms) {k : Nat} {m : MTh} (hk : ms[k]? = some m) : m.t.slots.length ≤ 9223372036854775807 ∧ m.t.queue.length ≤ 9223372036854775807 := h m (List.mem_of_getElem? hk)
theorem Tl {ms : List MTh} (h : tableOk (tabT ms) = true) {i : Nat} (hi : i < ms.length) : rowOk (tabT ms) (mAt ms i).t = true := by
  rw [Vi] at h
  exact List.all_eq_true.1 (Bool.and_eq_true_iff.1 h).2 _ (List.mem_of_getElem? (U7 hi))
theorem Jl {ms : List MTh} (h : tableOk (tabT ms) = true) {i : Nat} (hi : i < ms.length) : thingOk (mAt ms i).t = true := by
  have h1 := Tl h hi
  unfold rowOk at h1
  simp only [Bool.and_eq_true] at h1
  exact h1.1.1
theorem Ug {ms : List MTh} (h : tableOk (tabT ms) = true) {i : Nat} (hi : i < ms.length) : labelOk (mAt ms i).t.lab = true := (Qp (Jl h hi)).2.1
theorem Jk {ms : List MTh} (h : tableOk (tabT ms) = true) : 1 ≤ ms.length ∧ ms.length ≤ 8 := by
  unfold tableOk at h
  have h1 := Qi.1 (Bool.and_eq_true_iff.1 h).1
  rw [Y5] at h1
  omega
theorem Gp {ms : List MTh} {k kd : Int} : (inR k 1 (ms.length : Int) && decide ((mAt ms (k - 1).toNat).t.kind = kd)) = kindAt (tabT ms) k kd := by
  unfold kindAt
  rw [Qk, Y5]
end Go.Dw
end
section
namespace Go.Proofs.YtlhhijnmacogcaaGreatDoor
open Go.RowKit Go.Dw
set_option maxRecDepth 100000
set_option maxHeartbeats 4000000
set_option linter.unusedSimpArgs false
set_option linter.unusedVariables false
theorem Qc : elemSz Tryz.prog 23 = some 8 := by kernel_rfl
theorem Ri : goFn Tryz.prog 44 = true := by kernel_rfl
theorem K2 (k : Int) (w : World) (a : Option Addr) (n c : Nat) : CallsR Tryz.prog 44 #[.slice a n c, vi k] w (fun v w' => v = vb (inR k 1 (n : Int)) ∧ w.grownBy w' none) := by
 refine Xx (n := 9) Tryz.func44 Z Tryz.ntmps44 Z (Xa (Xe (v := vb false) Z Z (Xb (Xa (Xd (v := vi k) Z Z (Xd (v := .slice a n c) Z Z (Y1 (by kernel_rfl) Z Z (Xn Vy (Xf Z (Xf Z (Xf Z Xm))) Z (Jv k 1 (n : Int) _) ?_))))))))
 rintro _ G ⟨rfl, E⟩
 refine Xe (v := vb (inR k 1 (n : Int))) Z Z (Xb (Xt (⟨vb (inR k 1 (n : Int)), Yt Z Z, ?_, (low0 (World.grownBy.refl w none) E)⟩)))
 rfl
theorem Rl (k kd : Int) (hk : -9223372036854775807 ≤ k) (w : World) (ms : List MTh) (a : Option Addr) (c : Nat) (ht : TabAt w a ms) (hlen : TabLen ms) (hn : ms.length ≤ 1048576) : CallsR Tryz.prog 43 #[.slice a ms.length c, vi k, vi kd] w (fun v w' => v = vb (kindAt (tabT ms) k kd) ∧ w.grownBy w' none) := by
 refine Xx (n := 20) Tryz.func43 Z Tryz.ntmps43 Z ?_
 have ae := World.grownBy.refl w none
 refine Xa (Xe (v := vb false) Z Z (Xb (Ya (fun f' w' => (f' 6 = vb (inR k 1 (ms.length : Int) && (decide ((mj ms k).t.kind = kd)))) ∧ w.grownBy w' none) ?_ ?_)))
 refine Xd (v := .slice a ms.length c) Z Z (Xd (v := vi k) Z Z (Xn Ri (Xf Z (Xf Z Xm)) Z (K2 k _ _ _ _) ?_))
 rintro _ al ⟨rfl, G⟩
 have O := low0 ae G
 refine Xd (v := vb (inR k 1 (ms.length : Int))) Z Z ?_
 rcases Yg (inR k 1 (ms.length : Int)) with E | E
 have ah := Qi.1 E
 refine Xg Z Z Z E (Xd (v := .slice a ms.length c) Z Z (Xg Z Z Z E (Xd (v := vi k) Z Z (Xg Z Z Z E (Yr (c := k - 1) Z Z (by omega) (by omega) (by omega) Z (Xg Z Z Z E ?_))))))
 obtain ⟨ai, ak, af, J, ab, ac⟩ := SlAt.at (TabAt.low ht O).1 (Yp (xg ms (k - 1).toNat))
 have ag := TabLen.at hlen (xg ms (k - 1).toNat)
 exact X3 Qc Z Z J ab (by omega) (by omega) Z (Xg Z Z Z E (Xc (o' := af) Qd Z Z Z (Xg Z Z Z E (Xh (v := vi (mj ms k).t.kind) X1 Z (ac 0 _ Z) Z (Xg Z Z Z E (Xd (v := vi kd) Z Z (Xg Z Z Z E (X6 (q := decide ((mj ms k).t.kind = kd)) Z Z Z Z (Xw (v := vb (decide ((mj ms k).t.kind = kd))) Z E Z Z (Xe (v := vb (decide ((mj ms k).t.kind = kd))) Z Z (Xb ⟨(cB (by simp [E])), G⟩)))))))))))
 iterate 8 refine Xj rfl rfl rfl E rfl ?_
 exact Xp (v := vb false) Z E Z Z (Xe (v := vb false) Z Z (Xb ⟨(cB (by simp [E])), G⟩))
 rintro aj am ⟨ad, V⟩
 refine Xt (⟨vb (inR k 1 (ms.length : Int) && (decide ((mj ms k).t.kind = kd))), Yt Z ad, ?_, (low0 ae V)⟩)
 exact cB Gp
theorem Gf (w : World) (ms : List MTh) (a : Option Addr) (c : Nat) (ht : TabAt w a ms) (hlen : TabLen ms) (hn : ms.length ≤ 1048576) : CallsR Tryz.prog 30 #[.slice a ms.length c] w (fun v w' => v = vb (tableOk (tabT ms)) ∧ w.grownBy w' none) := by
 refine Xx (n := 92) Tryz.func30 Z Tryz.ntmps30 Z (Xa (Xe (v := vb false) Z Z (Xb (Xq (Xa (Xe (v := vi 0) Z Z (Xb (X9 (Ql (fun mm f' w' => ∃ (k : Nat), mm = ms.length - k ∧ k ≤ ms.length ∧ (((tabT ms).take k).all (rowOk (tabT ms))) = true ∧ f' 3 = vi (k : Int) ∧ f' 0 = .slice a ms.length c ∧ w.grownBy w' none) (ms.length - 0) ⟨0, Z, (Nat.zero_le _), Z, Z, Z, (World.grownBy.refl w none)⟩ ?_)))))))))
 rintro mm dt dc ⟨k, dl, hk, hall, ah, ab, ai⟩
 refine Xq (Xa (Xd (v := vi (k : Int)) ah Z (Xd (v := .slice a ms.length c) ab Z (Y1 (by kernel_rfl) Z Z (Qg (q := decide ((k : Int) < (ms.length : Int))) Z Z Z Z (Xb (X0 Z (fun ag => ?_) (fun ag => ?_))))))))
 have dx := of_decide_eq_true ag
 refine Xz (Xu (Xq (X9 (Xq (Ya (fun f' w' => (f' 0 = .slice a ms.length c ∧ f' 3 = vi (k : Int) ∧ f' 48 = vb ((!thingOk (mAt ms k).t) || ((decide ((mAt ms k).t.kind = 5)) && ((decide ((ms.length : Int) < (mAt ms k).t.to)) || (!(decide ((mj ms (mAt ms k).t.to).t.kind = 1))))))) ∧ dc.grownBy w' none) ?_ ?_)))))
 refine Xd (v := .slice a ms.length c) ab Z (Xd (v := vi (k : Int)) ah Z ?_)
 obtain ⟨dn, ed, bg, an, ao, ap⟩ := SlAt.at (TabAt.low ht ai).1 (Yp (xg ms k))
 have dg := TabLen.at hlen (xg ms k)
 refine X3 Qc Z Z an ao (by omega) (by omega) Z (Xr (vs := [vi (mAt ms k).t.kind, vi (mAt ms k).t.lab.s, vi (mAt ms k).t.lab.v, vi (mAt ms k).t.ve, vi (mAt ms k).t.num, .slice (mAt ms k).sa (mAt ms k).t.slots.length (mAt ms k).sc, .slice (mAt ms k).qa (mAt ms k).t.queue.length (mAt ms k).qc, vi (mAt ms k).t.to]) Ys Z Z (Y2 ap 0 8 Z) Z (Xn Rj (Xf Z Xm) Z (V5 (mAt ms k) _ (TabAt.th (TabAt.low ht ai) (xg ms k)).1 (TabAt.th (TabAt.low ht ai) (xg ms k)).2.1 (by first | omega | exact Nat.le_of_ble_eq_true rfl | (simp only [List.length_nil, List.length_cons, List.length_append, List.length_replicate]; omega)) (by first | omega | exact Nat.le_of_ble_eq_true rfl | (simp only [List.length_nil, List.length_cons, List.length_append, List.length_replicate]; omega))) ?_))
 rintro _ ei ⟨rfl, ae⟩
 have bn := low0 ai ae
 refine Yn (b' := !thingOk (mAt ms k).t) Z Z Z (Xd (v := vb (!thingOk (mAt ms k).t)) Z Z ?_)
 rcases Yg (!thingOk (mAt ms k).t) with J | J
 have c9 := Jr J
 iterate 7 refine Xj rfl rfl rfl J rfl ?_
 iterate 21 refine Yu rfl rfl rfl rfl ?_
 exact Xj Z Z Z J Z (Xw (v := vb true) Z J Z Z (Xb ⟨⟨ab, ah, (cB (by simp [ag, J, c9]))⟩, ae⟩))
 have av := Q3 J
 refine Xg Z Z Z J (Xd (v := .slice a ms.length c) ab Z (Xg Z Z Z J (Xd (v := vi (k : Int)) ah Z (Xg Z Z Z J (X3 Qc Z Z an ao (by omega) (by omega) Z (Xg Z Z Z J (Xc (o' := bg) Qd Z Z Z (Xg Z Z Z J (Xh (v := vi (mAt ms k).t.kind) X1 Z ((Yi ap ae) 0 _ Z) Z (Xg Z Z Z J (X6 (q := decide ((mAt ms k).t.kind = 5)) Z Z Z Z (Xg Z Z Z J ?_))))))))))))
 refine Xd (v := vb (decide ((mAt ms k).t.kind = 5))) Z Z ?_
 rcases Yg (decide ((mAt ms k).t.kind = 5)) with O | O
 have de := Hu av O
 have dy := of_decide_eq_true O
 refine Xg Z Z Z O (Xd (v := .slice a ms.length c) ab Z (Xg Z Z Z O (Xd (v := vi (k : Int)) ah Z (Xg Z Z Z O (X3 Qc Z Z an ao (by omega) (by omega) Z (Xg Z Z Z O (Xc (o' := bg + 7) J5 Z Z Z (Xg Z Z Z O (Xh (v := vi (mAt ms k).t.to) X1 Z ((Yi ap ae) 7 _ Z) Z (Xg Z Z Z O (Xd (v := .slice a ms.length c) ab Z (Xg Z Z Z O ?_))))))))))))
 refine Y1 (by kernel_rfl) Z Z (Xg Z Z Z O (Jm (q := decide ((ms.length : Int) < (mAt ms k).t.to)) Z Z Z Z (Xg Z Z Z O (Xd (v := vb (decide ((ms.length : Int) < (mAt ms k).t.to))) Z Z ?_))))
 rcases Yg (decide ((ms.length : Int) < (mAt ms k).t.to)) with V | V
 have dz := of_decide_eq_true V
 iterate 11 refine Xj rfl rfl rfl V rfl ?_
 exact Xg Z Z Z O (Xw (v := vb true) Z V Z Z (Xg Z Z Z J (Xw (v := vb true) Z O Z Z (Xp (v := vb true) Z J Z Z (Xb ⟨⟨ab, ah, (cB (by simp [ag, J, av, O, V]))⟩, ae⟩)))))
 have d0 := of_decide_eq_false V
 refine Xg Z Z Z V (Xd (v := .slice a ms.length c) ab Z (Xg Z Z Z V (Xd (v := .slice a ms.length c) ab Z (Xg Z Z Z V (Xd (v := vi (k : Int)) ah Z (Xg Z Z Z V (X3 Qc Z Z an ao (by omega) (by omega) Z (Xg Z Z Z V (Xc (o' := bg + 7) J5 Z Z Z (Xg Z Z Z V (Xh (v := vi (mAt ms k).t.to) X1 Z ((Yi ap ae) 7 _ Z) Z (Xg Z Z Z V ?_))))))))))))
 refine Yr (c := (mAt ms k).t.to - 1) Z Z (by omega) (by omega) (by omega) Z (Xg Z Z Z V ?_)
 obtain ⟨dp, ee, db, bk, cg, cl⟩ := SlAt.at (TabAt.low ht bn).1 (Yp (xg ms ((mAt ms k).t.to - 1).toNat))
 have dh := TabLen.at hlen (xg ms ((mAt ms k).t.to - 1).toNat)
 exact X3 Qc Z Z bk cg (by omega) (by omega) Z (Xg Z Z Z V (Xc (o' := db) Qd Z Z Z (Xg Z Z Z V (Xh (v := vi (mj ms (mAt ms k).t.to).t.kind) X1 Z (cl 0 _ Z) Z (Xg Z Z Z V (Q1 (q := !(decide ((mj ms (mAt ms k).t.to).t.kind = 1))) Z Z Z Z (Xg Z Z Z O (Xp (v := vb (!(decide ((mj ms (mAt ms k).t.to).t.kind = 1)))) Z V Z Z (Xg Z Z Z J (Xw (v := vb (!(decide ((mj ms (mAt ms k).t.to).t.kind = 1)))) Z O Z Z (Xp (v := vb (!(decide ((mj ms (mAt ms k).t.to).t.kind = 1)))) Z J Z Z (Xb ⟨⟨ab, ah, (cB (by simp [ag, J, av, O, V]))⟩, ae⟩))))))))))))
 have d1 := of_decide_eq_false O
 iterate 9 refine Xj rfl rfl rfl O rfl ?_
 iterate 11 refine Yu rfl rfl rfl rfl ?_
 exact Xj Z Z Z O Z (Xg Z Z Z J (Xp (v := vb false) Z O Z Z (Xp (v := vb false) Z J Z Z (Xb ⟨⟨ab, ah, (cB (by simp [ag, J, av, O]))⟩, ae⟩))))
 rintro du ej ⟨⟨co, ct, cv⟩, bp⟩
 have bb := low0 ai bp
 refine X0 cv (fun ac => ?_) (fun ac => ?_)
 refine Xa (Xe (v := vb false) Z Z (Xb (Xt (Yk (Qn (Yk (Yk (Qn (Yk (⟨vb false, Yt Z Z, ?_, bb⟩))))))))))
 exact cB (Oe (by omega) ((Ur Z).1 ac))
 have aw := Kl ac
 have a8 := Q3 aw
 have a9 := Km ac
 refine Xz (Xu (Xa (Xe (v := vi 0) Z Z (Xb (X9 (Ql (fun mm f' w' => ∃ (j : Nat), mm = (mAt ms k).t.slots.length - j ∧ j ≤ (mAt ms k).t.slots.length ∧ (((mAt ms k).t.slots.take j).all (rightTo (tabT ms))) = true ∧ f' 4 = vi (j : Int) ∧ f' 0 = .slice a ms.length c ∧ f' 3 = vi (k : Int) ∧ w.grownBy w' none) ((mAt ms k).t.slots.length - 0) ⟨0, Z, (Nat.zero_le _), Z, Z, co, ct, bb⟩ ?_))))))
 rintro mm dv ek ⟨j, dm, hj, hrs, aq, af, al, ak⟩
 have e0 : ∀ j, j < (mAt ms k).t.slots.length → 0 ≤ (rAt (mAt ms k).t.slots j).th ∧ (rAt (mAt ms k).t.slots j).th ≤ 8 := fun j hj => Lm ((Ur rfl).2 ac).1 (Vg hj)
 refine Xq (Xa (Xd (v := vi (j : Int)) aq Z (Xd (v := .slice a ms.length c) af Z (Xd (v := vi (k : Int)) al Z ?_))))
 obtain ⟨dq, ef, bj, ba, be, bf⟩ := SlAt.at (TabAt.low ht ak).1 (Yp (xg ms k))
 have di := TabLen.at hlen (xg ms k)
 refine X3 Qc Z Z ba be (by omega) (by omega) Z (Xc (o' := bj + 5) Qj Z Z Z (Xh (v := .slice (mAt ms k).sa (mAt ms k).t.slots.length (mAt ms k).sc) Jd Z (bf 5 _ Z) Z (Y1 (by kernel_rfl) Z Z (Qg (q := decide ((j : Int) < ((mAt ms k).t.slots.length : Int))) Z Z Z Z (Xb (X0 Z (fun am => ?_) (fun am => ?_)))))))
 have d2 := of_decide_eq_true am
 refine Xz (Xu (Xq (X9 (Xa (Xd (v := .slice a ms.length c) af Z (Xd (v := vi (k : Int)) al Z (X3 Qc Z Z ba be (by omega) (by omega) Z (Xc (o' := bj + 5) Qj Z Z Z (Xh (v := .slice (mAt ms k).sa (mAt ms k).t.slots.length (mAt ms k).sc) Jd Z (bf 5 _ Z) Z (Xd (v := vi (j : Int)) aq Z ?_))))))))))
 obtain ⟨dr, eg, eb, bl, cj, cm⟩ := SlAt.at (TabAt.th (TabAt.low ht ak) (xg ms k)).1 (Yp (xr (mAt ms k).t.slots j))
 refine X3 J9 Z Z bl cj (by omega) (by omega) Z (Xr (vs := [vi (rAt (mAt ms k).t.slots j).th, vi (rAt (mAt ms k).t.slots j).ve, vb (rAt (mAt ms k).t.slots j).rd, vb (rAt (mAt ms k).t.slots j).wr, vb (rAt (mAt ms k).t.slots j).wk]) Y0 Z Z (Y2 cm 0 5 Z) Z (Yf (cs := #[vi 0, vi 0, vb false, vb false, vb false]) K3 Z Z ?_))
 intro aj em au
 have df := Yd au ak
 refine Xy (vs := [vi (rAt (mAt ms k).t.slots j).th, vi (rAt (mAt ms k).t.slots j).ve, vb (rAt (mAt ms k).t.slots j).rd, vb (rAt (mAt ms k).t.slots j).wr, vb (rAt (mAt ms k).t.slots j).wk]) (cs' := #[vi (rAt (mAt ms k).t.slots j).th, vi (rAt (mAt ms k).t.slots j).ve, vb (rAt (mAt ms k).t.slots j).rd, vb (rAt (mAt ms k).t.slots j).wr, vb (rAt (mAt ms k).t.slots j).wk]) Y0 Z Z Z (by simp [Value.oneCell']) au.blk (Nat.le_of_ble_eq_true Z) Z ?_
 intro az ad
 have bc := low1 (low0 ak au.grw) ad.grw (by omega)
 refine Xb (Kj (fun f' w' => (f' 0 = .slice a ms.length c ∧ f' 3 = vi (k : Int) ∧ f' 4 = vi (j : Int) ∧ f' 88 = vb ((decide ((ms.length : Int) < (rAt (mAt ms k).t.slots j).th)) || ((decide (0 < (rAt (mAt ms k).t.slots j).th)) && (decide ((mj ms (rAt (mAt ms k).t.slots j).th).t.ve < (rAt (mAt ms k).t.slots j).ve))))) ∧ az.grownBy w' none) ?_ ?_)
 rcases Yg (decide ((ms.length : Int) < (rAt (mAt ms k).t.slots j).th)) with G | G
 have d3 := of_decide_eq_true G
 refine Yy (m := 19) (vals := [(67, pt aj 0), (68, vi (rAt (mAt ms k).t.slots j).th), (69, .slice a ms.length c), (70, vi (ms.length : Int)), (71, vb (decide ((ms.length : Int) < (rAt (mAt ms k).t.slots j).th))), (72, vb (decide ((ms.length : Int) < (rAt (mAt ms k).t.slots j).th))), (73, undef), (74, undef), (75, undef), (76, undef), (77, undef), (78, undef), (79, undef), (80, undef), (81, undef), (82, undef), (83, undef), (84, undef), (85, undef)]) (fun w' => az.grownBy w' none) Yz (by kernel_rfl) (X8 _) ?_ ?_
 refine yl Z (fun _ _ k => Xc (o' := 0) Yo Z Z Z k) (yl Z (fun _ bt kq => Xh (v := vi (rAt (mAt ms k).t.slots j).th) X1 Z ((ad.blk.grown0 bt).cell Z) Z kq) (yl Z (fun _ _ k => Xd (v := .slice a ms.length c) af Z k) (yl Z (fun _ _ k => Y1 (by kernel_rfl) Z Z k) (yl Z (fun _ _ kq => Jm (q := decide ((ms.length : Int) < (rAt (mAt ms k).t.slots j).th)) Z Z Z Z kq) (yl Z (fun _ _ kq => Xd (v := vb (decide ((ms.length : Int) < (rAt (mAt ms k).t.slots j).th))) Z Z kq) (yl Z (fun _ _ k => Xj Z Z Z G Z k) (yl Z (fun _ _ k => Xj Z Z Z G Z k) (yl Z (fun _ _ k => Xj Z Z Z G Z k) (yl Z (fun _ _ k => Xj Z Z Z G Z k) (yl Z (fun _ _ k => Yu Z Z Z Z k) ?_))))))))))
 exact yl Z (fun _ _ k => Yu Z Z Z Z k) (yl Z (fun _ _ k => Yu Z Z Z Z k) (yl Z (fun _ _ k => Yu Z Z Z Z k) (yl Z (fun _ _ k => Yu Z Z Z Z k) (yl Z (fun _ _ k => Yu Z Z Z Z k) (yl Z (fun _ _ k => Yu Z Z Z Z k) (yl Z (fun _ _ k => Yu Z Z Z Z k) (yl Z (fun _ _ k => Yu Z Z Z Z k) Y8)))))))
 intro eo bu
 exact Yu Z Z Z Z (Xj Z Z Z G Z (Xw (v := vb true) Z G Z Z (Xb (Xu ⟨⟨af, al, aq, (cB (by simp [ag, ac, aw, a8, a9, am, G]))⟩, bu⟩))))
 have d4 := of_decide_eq_false G
 rcases Yg (decide (0 < (rAt (mAt ms k).t.slots j).th)) with E | E
 have d5 := of_decide_eq_true E
 obtain ⟨bi, eh, bh, bm, ck, cn⟩ := SlAt.at (TabAt.low ht bc).1 (Yp (xg ms ((rAt (mAt ms k).t.slots j).th - 1).toNat))
 have dk := TabLen.at hlen (xg ms ((rAt (mAt ms k).t.slots j).th - 1).toNat)
 refine Yy (m := 19) (vals := [(67, pt aj 0), (68, vi (rAt (mAt ms k).t.slots j).th), (69, .slice a ms.length c), (70, vi (ms.length : Int)), (71, vb (decide ((ms.length : Int) < (rAt (mAt ms k).t.slots j).th))), (72, vb (decide ((ms.length : Int) < (rAt (mAt ms k).t.slots j).th))), (73, pt aj 0), (74, vi (rAt (mAt ms k).t.slots j).th), (75, vb (decide (0 < (rAt (mAt ms k).t.slots j).th))), (76, vb (decide (0 < (rAt (mAt ms k).t.slots j).th))), (77, pt aj 1), (78, vi (rAt (mAt ms k).t.slots j).ve), (79, .slice a ms.length c), (80, pt aj 0), (81, vi (rAt (mAt ms k).t.slots j).th), (82, vi ((rAt (mAt ms k).t.slots j).th - 1)), (83, pt bi bh), (84, pt bi (bh + 3)), (85, vi (mj ms (rAt (mAt ms k).t.slots j).th).t.ve)]) (fun w' => az.grownBy w' none) Yz (by kernel_rfl) (X8 _) ?_ ?_
 refine yl Z (fun _ _ k => Xc (o' := 0) Yo Z Z Z k) (yl Z (fun _ bv kq => Xh (v := vi (rAt (mAt ms k).t.slots j).th) X1 Z ((ad.blk.grown0 bv).cell Z) Z kq) (yl Z (fun _ _ k => Xd (v := .slice a ms.length c) af Z k) (yl Z (fun _ _ k => Y1 (by kernel_rfl) Z Z k) (yl Z (fun _ _ kq => Jm (q := decide ((ms.length : Int) < (rAt (mAt ms k).t.slots j).th)) Z Z Z Z kq) (yl Z (fun _ _ kq => Xd (v := vb (decide ((ms.length : Int) < (rAt (mAt ms k).t.slots j).th))) Z Z kq) (yl Z (fun _ _ k => Xg Z Z Z G (Xc (o' := 0) Yo Z Z Z k)) (yl Z (fun _ bw kq => Xg Z Z Z G (Xh (v := vi (rAt (mAt ms k).t.slots j).th) X1 Z ((ad.blk.grown0 bw).cell Z) Z kq)) (yl Z (fun _ _ kq => Xg Z Z Z G (Jm (q := decide (0 < (rAt (mAt ms k).t.slots j).th)) Z Z Z Z kq)) (yl Z (fun _ _ kq => Xg Z Z Z G (Xd (v := vb (decide (0 < (rAt (mAt ms k).t.slots j).th))) Z Z kq)) (yl Z (fun _ _ k => Xg Z Z Z E (Xc (o' := 1) Kv Z Z Z k)) ?_))))))))))
 exact yl Z (fun _ bx kq => Xg Z Z Z E (Xh (v := vi (rAt (mAt ms k).t.slots j).ve) X1 Z ((ad.blk.grown0 bx).cell Z) Z kq)) (yl Z (fun _ _ k => Xg Z Z Z E (Xd (v := .slice a ms.length c) af Z k)) (yl Z (fun _ _ k => Xg Z Z Z E (Xc (o' := 0) Yo Z Z Z k)) (yl Z (fun _ bz kq => Xg Z Z Z E (Xh (v := vi (rAt (mAt ms k).t.slots j).th) X1 Z ((ad.blk.grown0 bz).cell Z) Z kq)) (yl Z (fun _ _ kq => Xg Z Z Z E (Yr (c := (rAt (mAt ms k).t.slots j).th - 1) Z Z (by omega) (by omega) (by omega) Z kq)) (yl Z (fun _ _ k => Xg Z Z Z E (X3 Qc Z Z bm ck (by omega) (by omega) Z k)) (yl Z (fun _ _ k => Xg Z Z Z E (Xc (o' := bh + 3) Qz Z Z Z k)) (yl Z (fun _ ca kq => Xg Z Z Z E (Xh (v := vi (mj ms (rAt (mAt ms k).t.slots j).th).t.ve) X1 Z ((Yi cn ca) 3 _ Z) Z kq)) Y8)))))))
 intro ep cc
 exact Xg Z Z Z E (Jm (q := decide ((mj ms (rAt (mAt ms k).t.slots j).th).t.ve < (rAt (mAt ms k).t.slots j).ve)) Z Z Z Z (Xg Z Z Z G (Xw (v := vb (decide ((mj ms (rAt (mAt ms k).t.slots j).th).t.ve < (rAt (mAt ms k).t.slots j).ve))) Z E Z Z (Xp (v := vb (decide ((mj ms (rAt (mAt ms k).t.slots j).th).t.ve < (rAt (mAt ms k).t.slots j).ve))) Z G Z Z (Xb (Xu ⟨⟨af, al, aq, (cB (by simp [ag, ac, aw, a8, a9, am, G, E]))⟩, cc⟩))))))
 have d6 := of_decide_eq_false E
 refine Yy (m := 19) (vals := [(67, pt aj 0), (68, vi (rAt (mAt ms k).t.slots j).th), (69, .slice a ms.length c), (70, vi (ms.length : Int)), (71, vb (decide ((ms.length : Int) < (rAt (mAt ms k).t.slots j).th))), (72, vb (decide ((ms.length : Int) < (rAt (mAt ms k).t.slots j).th))), (73, pt aj 0), (74, vi (rAt (mAt ms k).t.slots j).th), (75, vb (decide (0 < (rAt (mAt ms k).t.slots j).th))), (76, vb (decide (0 < (rAt (mAt ms k).t.slots j).th))), (77, undef), (78, undef), (79, undef), (80, undef), (81, undef), (82, undef), (83, undef), (84, undef), (85, undef)]) (fun w' => az.grownBy w' none) Yz (by kernel_rfl) (X8 _) ?_ ?_
 refine yl Z (fun _ _ k => Xc (o' := 0) Yo Z Z Z k) (yl Z (fun _ cd kq => Xh (v := vi (rAt (mAt ms k).t.slots j).th) X1 Z ((ad.blk.grown0 cd).cell Z) Z kq) (yl Z (fun _ _ k => Xd (v := .slice a ms.length c) af Z k) (yl Z (fun _ _ k => Y1 (by kernel_rfl) Z Z k) (yl Z (fun _ _ kq => Jm (q := decide ((ms.length : Int) < (rAt (mAt ms k).t.slots j).th)) Z Z Z Z kq) (yl Z (fun _ _ kq => Xd (v := vb (decide ((ms.length : Int) < (rAt (mAt ms k).t.slots j).th))) Z Z kq) (yl Z (fun _ _ k => Xg Z Z Z G (Xc (o' := 0) Yo Z Z Z k)) (yl Z (fun _ ce kq => Xg Z Z Z G (Xh (v := vi (rAt (mAt ms k).t.slots j).th) X1 Z ((ad.blk.grown0 ce).cell Z) Z kq)) (yl Z (fun _ _ kq => Xg Z Z Z G (Jm (q := decide (0 < (rAt (mAt ms k).t.slots j).th)) Z Z Z Z kq)) (yl Z (fun _ _ kq => Xg Z Z Z G (Xd (v := vb (decide (0 < (rAt (mAt ms k).t.slots j).th))) Z Z kq)) (yl Z (fun _ _ k => Xj Z Z Z E Z k) ?_))))))))))
 exact yl Z (fun _ _ k => Xj Z Z Z E Z k) (yl Z (fun _ _ k => Xj Z Z Z E Z k) (yl Z (fun _ _ k => Xj Z Z Z E Z k) (yl Z (fun _ _ k => Xj Z Z Z E Z k) (yl Z (fun _ _ k => Xj Z Z Z E Z k) (yl Z (fun _ _ k => Xj Z Z Z E Z k) (yl Z (fun _ _ k => Xj Z Z Z E Z k) (yl Z (fun _ _ k => Xj Z Z Z E Z k) Y8)))))))
 intro eu cf
 exact Xj Z Z Z E Z (Xg Z Z Z G (Xp (v := vb false) Z E Z Z (Xp (v := vb false) Z G Z Z (Xb (Xu ⟨⟨af, al, aq, (cB (by simp [ag, ac, aw, a8, a9, am, G, E]))⟩, cf⟩)))))
 rintro dw ew ⟨⟨cw, cy, cz, c8⟩, bq⟩
 have bd := low0 bc bq
 refine X0 c8 (fun ar => ?_) (fun ar => ?_)
 refine Xa (Xe (v := vb false) Z Z (Xb (Xt (Qn (Yk (Yk (Qn (Qn (Yk (Yk (Qn (Yk ?_))))))))))))
 refine ⟨vb false, Yt Z Z, ?_, bd⟩
 exact cB (Oe (by omega) (Zn (Vg (by omega)) (Jr ((Nk (Lm ((Ur Z).2 ac).1 (Vg (by omega))).1).symm.trans ar))))
 have da := Kl ar
 have d7 := of_decide_eq_false da
 have d8 := Km ar
 exact Xz (Y3 (Xu (X2 (Xd (v := vi (j : Int)) cz Z (Yl (c := (j : Int) + 1) Z Z (by omega) (by omega) (by omega) Z (Xe (v := vi ((j : Int) + 1)) Z Z (Xb (Xu (⟨(mAt ms k).t.slots.length - (j + 1), by omega, (j + 1), Z, (by omega), (Kn hrs (Vg (by omega)) (Q3 ((Nk (Lm ((Ur Z).2 ac).1 (Vg (by omega))).1).symm.trans ar))), Z, cw, cy, bd⟩)))))))))
 have d9 := of_decide_eq_false am
 exact Qf (Y9 (Y9 (Jh (Y3 (Xu (X2 (Xd (v := vi (k : Int)) al Z (Yl (c := (k : Int) + 1) Z Z (by omega) (by omega) (by omega) Z (Xe (v := vi ((k : Int) + 1)) Z Z (Xb (Xu (⟨ms.length - (k + 1), by omega, (k + 1), Z, (by omega), (Kn hall (U7 (by omega)) (Zo ((Ur Z).2 ac).1 ((Ur Z).2 ac).2 hrs (by omega))), Z, af, ak⟩))))))))))))
 have ea := of_decide_eq_false ag
 refine Qf (Y9 (Y9 (Jh (Xu (Xa (Xd (v := .slice a ms.length c) ab Z (Y1 (by kernel_rfl) Z Z (Xn K0 (Xf Z (Xf Z (Xf Z Xm))) Z (Kk (ms.length : Int) 1 8 _) ?_))))))))
 rintro _ ez ⟨rfl, br⟩
 refine Xe (v := vb (inR (ms.length : Int) 1 8)) Z Z (Xb (Xt (⟨vb (inR (ms.length : Int) 1 8), Yt Z Z, ?_, (low0 ai br)⟩)))
 exact cB (Zs hall (by omega))
end Go.Proofs.YtlhhijnmacogcaaGreatDoor
end
section
namespace Go.Dw
set_option linter.unusedSimpArgs false
set_option linter.unusedVariables false
open Go.RowKit Go.Shelf
structure Wd (F : Fence) : Prop where
  fn : ∀ k, F.fn k
  calls : ∀ {n : Nat} {P : Program} {k : FuncId} {args : Array Value} {w : World} {R : Ending → World → Prop}, Calls P k args w R → CallsIn F n P k args w R
  rows : ∀ {n : Nat} {P : Program} {row : String} {args : Array Value} {w : World} {R : Value → World → Prop}, Rows P row args w R → RowsIn F n P row args w R
  depth : F.depth = none
theorem Ky : Wd Fence.wide :=
  ⟨fun _ => trivial, fun h => callsIn_wide.2 h, fun h => fun c cs _ => let ⟨v, w', r, s⟩ := h c cs; ⟨v, w', r, stepsIn_wide.2 s⟩, rfl⟩
theorem Wq (l : Nat) : Wd (Fence.wide.inRound l) :=
  ⟨fun _ => trivial, fun h => CallsIn.inRound l (callsIn_wide.2 h), fun h => fun c cs _ => let ⟨v, w', r, s⟩ := h c cs; ⟨v, w', r, stepsIn_wide.2 s⟩, rfl⟩
def noDefer : List Oper → Bool
  | [] => true
  | o :: l => (match o.op with | .defer _ => false | _ => true) && noDefer l
theorem Vz {o : Oper} {l : List Oper} (h : noDefer (o :: l) = true) : (∀ c, o.op ≠ .defer c) ∧ noDefer l = true := by
  unfold noDefer at h
  rw [Bool.and_eq_true] at h
  refine ⟨fun c hc => ?_, h.2⟩
  rw [hc] at h
  exact absurd h.1 (by simp)
theorem Lh : ∀ {l : List Oper}, noDefer l = true → ∀ (i : Nat) (o : Oper), l[i]? = some o → ∀ c, o.op ≠ .defer c
  | [], _, i, o, hi => by simp at hi
  | p :: l, h, i, o, hi => by
    obtain ⟨h1, h2⟩ := Vz h
    cases i with
    | zero => simp at hi; subst hi; exact h1
    | succ i => exact Lh h2 i o (by simpa using hi)
section
variable {F : Fence} {m : Nat} {P : Program}
theorem Xdf (hF : Wd F) {o : Oper} {a : Act} {w : World} {next next' : Act → World → Prop} {Q Q' : Exit → Act → World → Prop} (hd : ∀ c, o.op ≠ .defer c) (hQ : ∀ e a w, e ≠ .normal → ¬ Q e a w) (hn : ∀ a w, next a w → next' a w) (h : o.wp P a w next Q) : o.wpIn F m P a w next' Q' := by
  refine ⟨fun f _ => hF.fn f, ?_⟩
  rw [Oper.semAt_eq _ _ _ hd]
  unfold Oper.wp at h
  generalize (execOp a.eval o).run P w = r at h ⊢
  cases r with
  | ok x w' =>
    cases x <;> simp only [Oper.upon, Oper.uponIn] at h ⊢
    case value v => exact hn _ _ h
    case skip => exact hn _ _ h
    case defer dd => exact hn _ _ h
    case enter k args =>
      refine ⟨(fun e => by (rw [hF.depth] at e; cases e)), hF.calls (h.mono fun e w'' he => ?_)⟩
      cases e with
      | returned v => exact hn _ _ he
      | panicked c => exact absurd he (hQ _ _ _ (by simp))
      | outgrown => obtain ⟨_, _, h0⟩ := he; exact absurd h0 (hQ _ _ _ (by simp))
    case row rw args => exact ⟨(fun e => by (rw [hF.depth] at e; cases e)), hF.rows (h.mono fun v w'' he => hn _ _ he)⟩
  | halt x w' => cases x <;> simp only [Oper.upon, Oper.uponIn] at h ⊢; exact absurd h (hQ _ _ _ (by simp))
def onlyN (K : Act → World → Prop) : Exit → Act → World → Prop
  | .normal, a, w => K a w
  | _, _, _ => False
theorem Ru {K : Act → World → Prop} : ∀ e a w, e ≠ .normal → ¬ onlyN K e a w := fun e a w he h => by cases e <;> first | exact he rfl | exact h
theorem N7 (hF : Wd F) {ops : Array Oper} {Q : Exit → Act → World → Prop} {K : Act → World → Prop} (hK : ∀ a w, K a w → Q .normal a w) : ∀ (l : List Oper) (a : Act) (w : World), noDefer l = true → wpList P ops (onlyN K) l a w → wpListIn F m P ops Q l a w
  | [], a, w, _, h => hK _ _ h
  | o :: l, a, w, hd, h => by
    obtain ⟨h1, h2⟩ := Vz hd
    unfold wpList at h
    unfold wpListIn
    split
    · rename_i hw
      rw [if_pos hw] at h
      rcases h with h | ⟨_, _, _, h0⟩
      · exact Xdf hF h1 Ru (fun a w ha => N7 hF hK l a w h2 ha) h
      · exact h0.elim
    · rename_i hw
      rw [if_neg hw] at h
      exact ⟨fun f _ => hF.fn f, N7 hF hK l _ _ h2 h⟩
theorem S5 (hF : Wd F) {md : Region.Mode} {ops : Array Oper} {Q : Exit → Act → World → Prop} {K : Act → World → Prop} (hd : noDefer ops.toList = true) (hK : ∀ a w, K a w → Q .normal a w) : ∀ (fuel : Nat) (listed : Array Bool) (a : Act) (w : World),
    wpAny P md ops (onlyN K) fuel listed a w → wpAnyIn F m P md ops Q fuel listed a w
  | 0, _, _, _, h => ⟨h.1, hK _ _ h.2⟩
  | fuel + 1, listed, a, w, h => by
    refine ⟨fun hr => hK _ _ (h.1 hr), fun i hi => ?_⟩
    have h1 := h.2 i hi
    unfold wpOp at h1
    unfold wpOpIn
    cases ho : ops[i]? with
    | none => rw [ho] at h1; exact S5 hF hd hK fuel _ _ _ h1
    | some o =>
      rw [ho] at h1
      simp only at h1 ⊢
      have hdo := Lh hd i o (by simpa using ho)
      split
      · rename_i hw
        rw [if_pos hw] at h1
        rcases h1 with h1 | ⟨_, _, _, h0⟩
        · exact Xdf hF hdo Ru (fun a w ha => S5 hF hd hK fuel _ a w ha) h1
        · exact h0.elim
      · rename_i hw
        rw [if_neg hw] at h1
        exact ⟨fun f _ => hF.fn f, S5 hF hd hK fuel _ _ _ h1⟩
end
def Wpg (F : Fence) (m : Nat) (P : Program) (n : Nat) (Q : Exit → Fr → World → Prop) (c : Code) (f : Fr) (w : World) : Prop :=
  ∀ a, FEq n a f → c.wpIn F m P (fun e a' w' => ∃ f', FEq n a' f' ∧ Q e f' w') a w
def WpOG (F : Fence) (m : Nat) (P : Program) (n : Nat) (ops : Array Oper) (K : Fr → World → Prop) (l : List Oper) (f : Fr) (w : World) : Prop :=
  ∀ a, FEq n a f → ∀ Q : Exit → Act → World → Prop, (∀ a' w' f', FEq n a' f' → K f' w' → Q .normal a' w') → wpListIn F m P ops Q l a w
section
variable {F : Fence} {m : Nat} {P : Program} {n : Nat} {Q : Exit → Fr → World → Prop} {f : Fr} {w : World}
theorem Wpg.mono {Q' : Exit → Fr → World → Prop} {c : Code} (h : Wpg F m P n Q c f w) (hq : ∀ e f w, Q e f w → Q' e f w) : Wpg F m P n Q' c f w :=
  fun a ha => wpIn_mono (h a ha) fun _ _ _ ⟨f', hf, hQ⟩ => ⟨f', hf, hq _ _ _ hQ⟩
theorem Wt (h : Q .normal f w) : Wpg F m P n Q .skip f w := fun _ ha => wpIn_skip ⟨f, ha, h⟩
theorem Tp (h : Q .ret f w) : Wpg F m P n Q .ret f w := fun _ ha => wpIn_ret ⟨f, ha, h⟩
theorem Lp {id : Nat} (h : Q (.exit id) f w) : Wpg F m P n Q (.exit id) f w := fun _ ha => wpIn_exit ⟨f, ha, h⟩
theorem Uh {x y : Code} (h : Wpg F m P n (thn (Wpg F m P n Q y) Q) x f w) : Wpg F m P n Q (.seq x y) f w := fun a ha =>
  wpIn_seq (wpIn_mono (h a ha) fun e a' w' ⟨f', hf, hQ⟩ => by
    cases e with
    | normal => exact hQ a' hf
    | exit i => exact ⟨f', hf, hQ⟩
    | goto l => exact ⟨f', hf, hQ⟩
    | ret => exact ⟨f', hf, hQ⟩
    | panic c => exact ⟨f', hf, hQ⟩
    | outgrown => exact ⟨f', hf, hQ⟩)
theorem R6 {x y : Code} (M : Fr → World → Prop) (h : Wpg F m P n (thn M Q) x f w) (hM : ∀ f w, M f w → Wpg F m P n Q y f w) : Wpg F m P n Q (.seq x y) f w :=
  Uh (h.mono fun e f w hq => by cases e <;> first | exact hM _ _ hq | exact hq)
theorem Ut {id : Nat} {c : Code} (h : Wpg F m P n (blk id Q) c f w) : Wpg F m P n Q (.block id c) f w := fun a ha =>
  wpIn_block (wpIn_mono (h a ha) fun e a' w' ⟨f', hf, hQ⟩ => by
    cases e with
    | exit i =>
      simp only [blk] at hQ
      simp only [Exit.inBlock]
      by_cases hi : i = id
      · rw [if_pos hi] at hQ ⊢; exact ⟨f', hf, hQ⟩
      · rw [if_neg hi] at hQ ⊢; exact ⟨f', hf, hQ⟩
    | normal => exact ⟨f', hf, hQ⟩
    | goto l => exact ⟨f', hf, hQ⟩
    | ret => exact ⟨f', hf, hQ⟩
    | panic c => exact ⟨f', hf, hQ⟩
    | outgrown => exact ⟨f', hf, hQ⟩)
theorem Uu {c : Operand} {x y : Code} {b : Bool} (hc : ev f c = .bool b) (ht : b = true → Wpg F m P n Q x f w) (hf : b = false → Wpg F m P n Q y f w) : Wpg F m P n Q (.cond c x y) f w := fun a ha =>
  wpIn_cond_split (t := b) (by rw [ha.eval]; exact hc) (fun h => ht h a ha) (fun h => hf h a ha)
theorem Mo {c : Operand} {x y : Code} {b : Bool} (hc : ev f c = .bool b) (hb : b = true) (h : Wpg F m P n Q x f w) : Wpg F m P n Q (.cond c x y) f w :=
  Uu hc (fun _ => h) (fun e => by rw [hb] at e; cases e)
theorem Mn {c : Operand} {x y : Code} {b : Bool} (hc : ev f c = .bool b) (hb : b = false) (h : Wpg F m P n Q y f w) : Wpg F m P n Q (.cond c x y) f w :=
  Uu hc (fun e => by rw [hb] at e; cases e) (fun _ => h)
theorem Nt {c : Code} (I : Nat → Fr → World → Prop) (m₀ : Nat) (h₀ : I m₀ f w)
    (round : ∀ k f w, I k f w → Wpg F m P n (thn (fun f' w' => ∃ k', k' < k ∧ I k' f' w') Q) c f w) : Wpg F m P n Q (.loop c) f w := by
  intro a ha
  refine wpIn_loop_rounds (m₀ + 1) ?_
  have key : ∀ N k f a w, k ≤ N → I k f w → FEq n a f → Code.roundsIn F m P c (fun e a' w' => ∃ f', FEq n a' f' ∧ Q e f' w') (N + 1) a w := by
    intro N
    induction N with
    | zero =>
      intro k f a w hk hI ha
      refine wpIn_mono (round k f w hI a ha) fun e a' w' ⟨f', hf, hQ⟩ => ?_
      cases e with
      | normal => obtain ⟨k', hlt, _⟩ := hQ; omega
      | exit i => exact ⟨f', hf, hQ⟩
      | goto l => exact ⟨f', hf, hQ⟩
      | ret => exact ⟨f', hf, hQ⟩
      | panic c => exact ⟨f', hf, hQ⟩
      | outgrown => exact ⟨f', hf, hQ⟩
    | succ N ih =>
      intro k f a w hk hI ha
      refine wpIn_mono (round k f w hI a ha) fun e a' w' ⟨f', hf, hQ⟩ => ?_
      cases e with
      | normal => obtain ⟨k', hlt, hI'⟩ := hQ; exact ih k' f' a' w' (by omega) hI' hf
      | exit i => exact ⟨f', hf, hQ⟩
      | goto l => exact ⟨f', hf, hQ⟩
      | ret => exact ⟨f', hf, hQ⟩
      | panic c => exact ⟨f', hf, hQ⟩
      | outgrown => exact ⟨f', hf, hQ⟩
  exact key m₀ m₀ f a w (Nat.le_refl _) h₀ ha
end
section
variable {F : Fence} {m : Nat} {P : Program} {n : Nat} {ops : Array Oper} {K : Fr → World → Prop} {l : List Oper} {f : Fr} {w w' : World} {o : Oper} {v : Value} {Q : Exit → Fr → World → Prop}
theorem WpOG.mono {K' : Fr → World → Prop} (h : WpOG F m P n ops K l f w) (hk : ∀ f w, K f w → K' f w) : WpOG F m P n ops K' l f w :=
  fun a ha Q hQ => h a ha Q fun a' w' f' hf hK => hQ a' w' f' hf (hk _ _ hK)
theorem Pt (hF : Wd F) (hd : noDefer l = true) (h : WpO P n ops K l f w) : WpOG F m P n ops K l f w := fun a ha Q hQ =>
  N7 hF (K := fun a' w' => ∃ f', FEq n a' f' ∧ K f' w') (fun a' w' ⟨f', hf, hK⟩ => hQ a' w' f' hf hK) l a w hd (h a ha _ fun a' w' f' hf hK => ⟨f', hf, hK⟩)
theorem Hn {id : Nat} (h : WpOG F m P n l.toArray (Q .normal) l f w) : Wpg F m P n Q (.region id l.toArray false) f w := fun a ha =>
  wpIn_region_lit (h a ha _ fun _ _ f' hf hK => ⟨f', hf, hK⟩)
theorem Wa {id : Nat} (hF : Wd F) (h : WpO P n l.toArray (Q .normal) l f w) (hd : noDefer l = true := by kernel_rfl) : Wpg F m P n Q (.region id l.toArray false) f w := Hn (Pt hF hd h)
theorem J3 {id : Nat} {y : Code} (hF : Wd F) (h : WpO P n l.toArray (Wpg F m P n Q y) l f w) (hd : noDefer l = true := by kernel_rfl) : Wpg F m P n Q (.seq (.region id l.toArray false) y) f w :=
  Uh (Wa hF h hd)
theorem Oo (hF : Wd F) {l' : List Oper} (hd : noDefer l = true) (h : WpO P n ops (WpOG F m P n ops K l') l f w) : WpOG F m P n ops K (l ++ l') f w := by
  intro a ha Q hQ
  have h1 : wpListIn F m P ops (onlyN (wpListIn F m P ops Q l')) l a w := N7 hF (K := wpListIn F m P ops Q l') (fun a' w' h => h) l a w hd (h a ha _ fun a' w' f' hf hK => hK a' hf Q hQ)
  clear h ha
  induction l generalizing a w with
  | nil => exact h1
  | cons o l ih =>
    simp only [List.cons_append, wpListIn] at h1 ⊢
    split
    · rename_i hw
      rw [if_pos hw] at h1
      refine ⟨h1.1, ?_⟩
      have h2 := h1.2
      have hl := (Vz hd).2
      generalize (o.semAt F.round a.eval).run P w = r at h2 ⊢
      cases r with
      | ok x w' =>
        cases x <;> simp only [Oper.uponIn] at h2 ⊢
        case value v => exact ih hl _ h2
        case skip => exact ih hl _ h2
        case defer dd => exact ih hl _ h2
        case enter k args =>
          refine ⟨h2.1, h2.2.mono fun e w'' he => ?_⟩
          cases e with
          | returned v => exact ih hl _ he
          | panicked c => exact he.elim
          | outgrown => obtain ⟨_, _, h0⟩ := he; exact h0.elim
        case row rw args => exact ⟨h2.1, h2.2.mono fun v w'' he => ih hl _ he⟩
        case round l f tmps assign body =>
          refine ⟨h2.1, h2.2.mono fun e w'' he => ?_⟩
          cases e with
          | returned v => exact ih hl _ he
          | panicked c => exact he.elim
          | outgrown => obtain ⟨_, _, h0⟩ := he; exact h0.elim
      | halt x w' => cases x <;> simp only [Oper.uponIn] at h2 ⊢; exact h2.elim
    · rename_i hw
      rw [if_neg hw] at h1
      exact ⟨h1.1, ih (Vz hd).2 _ h1.2⟩
theorem S3 (hF : Wd F) (hro : F.round = none) {d : Nat} {x : Operand} {args : Array Operand} {ats : Array TypeId} {ty : TypeId} {pos : String} {aft : Array Edge} {lr : Nat} {vs : List Value} {R : Ending → World → Prop}
    (hx : ev f x = .func (.yield lr) #[] #[]) (ha : args.toList.map (ev f) = vs) (hd : Nat.blt d n = true) (hy : YieldAt F (m - 1) P lr vs.toArray w R)
    (h : ∀ e w', R e w' → ∃ b : Bool, e = .returned (.bool b) ∧ WpOG F m P n ops K l (up f d (.bool b)) w') :
    WpOG F m P n ops K (⟨some d, .call ⟨.value x, args, ats⟩, ty, pos, aft, none⟩ :: l) f w := fun a hfa Q hQ => by
  obtain ⟨fn, tmps, assign, body, hr, hR⟩ := hy
  unfold wpListIn
  rw [if_pos (by simp [Region.wanted])]
  refine ⟨fun k _ => hF.fn k, ?_⟩
  have he : ((⟨some d, .call ⟨.value x, args, ats⟩, ty, pos, aft, none⟩ : Oper).semAt F.round a.eval).run P w = .ok (.round lr fn tmps assign body) w := by
    rw [hro, Oper.semAt_none, hfa.eval]
    have e1 : args.map (ev f) = vs.toArray := by rw [← ha]; apply Array.ext'; simp
    simp [execOp, resolve, Deferred.ofValue, invoke, hx, e1, hr]
  rw [he]
  refine ⟨(fun e => by (rw [hF.depth] at e; cases e)), hR.mono fun e w' hw => ?_⟩
  obtain ⟨b, rfl, hk⟩ := h e w' hw
  exact hk _ (hfa.put hd _) Q hQ
end
theorem H3 {P : Program} {k : FuncId} {fn : Func} {c : Code} {args : Array Value} {w : World} {R : Value → World → Prop} {n m : Nat}
    (hf : P.funcs[k]? = some fn) (hb : fn.body = some c) (hn : fn.ntmps = n) (hs : Nat.ble args.size n = true)
    (h : Wpg Fence.wide m P n (endQ P fn R) c (f0 args) w) : CallsIn Fence.wide m P k args w fun e w' => ∃ v, e = .returned v ∧ R v w' := by
  have hs' : args.size ≤ n := by simpa [Nat.ble_eq] using hs
  refine callsIn_of_wp hf hb trivial ?_
  refine wpIn_mono (h _ ⟨rfl, by simp [hn]; omega, fun i => ?_⟩) fun e a w ⟨f', hf', hQ⟩ => ?_
  · simp only [f0, Hp, Array.getD_eq_getD_getElem?, Array.getElem?_toList]
    by_cases hi : i < args.size
    · rw [Array.getElem?_append_left hi]
    · rw [Array.getElem?_append_right (by omega), Array.getElem?_eq_none (by omega : args.size ≤ i)]
      by_cases h2 : i - args.size < fn.ntmps - args.size
      · simp [h2]
      · rw [Array.getElem?_eq_none (by simp; omega)]
  · cases e with
    | normal => obtain ⟨v, hv, hR⟩ := hQ; exact ⟨hf'.defers, v, hv _ hf'.at_, v, rfl, hR⟩
    | ret => obtain ⟨v, hv, hR⟩ := hQ; exact ⟨hf'.defers, v, hv _ hf'.at_, v, rfl, hR⟩
    | exit i => exact hQ.elim
    | goto l => exact hQ.elim
    | panic c => exact hQ.elim
    | outgrown => exact hQ.elim
section
variable {P : Program} {n : Nat} {ops : List Oper} {f : Fr}
theorem R5 {F : Fence} {m0 : Nat} {id : Nat} {w : World} {Q : Exit → Fr → World → Prop} (hF : Wd F) (m : Nat) (vals : List (Nat × Value)) (Inv : World → Prop) (hmx : P.follows .mixedOrders = true) (hck : drawOk n m ops (befores ops) = true) (h0 : Inv w.drew)
    (hpre : YlL P n ops.toArray Inv (ups f vals) (ops.take m) vals) (htail : ∀ w', Inv w' → WpO P n ops.toArray (Q .normal) (ops.drop m) (ups f vals) w') (hdf : noDefer ops = true := by kernel_rfl) : Wpg F m0 P n Q (.region id ops.toArray true) f w := fun a ha => by
  obtain ⟨hm, _, hone⟩ := Wg hck
  obtain ⟨hlen, hget⟩ := Hw _ _ hpre
  obtain ⟨aF, haF⟩ := Pm vals a f ha fun p hp => by
    obtain ⟨j, hj⟩ := List.getElem?_of_mem hp
    have hjm : j < m := by
      have := (List.getElem?_eq_some_iff.1 hj).1
      rw [← hlen] at this
      simp at this
      omega
    obtain ⟨oj, hoj⟩ : ∃ oj, ops[j]? = some oj := ⟨_, List.getElem?_eq_getElem (by omega)⟩
    obtain ⟨d, v, hv, hd, _⟩ := hget j oj (by rw [List.getElem?_take, if_pos hjm]; exact hoj)
    rw [hj] at hv
    have := Option.some.inj hv
    subst this
    have h1 := hone j oj hoj
    unfold drawOne at h1
    simp only [Bool.and_eq_true, if_pos hjm, hd] at h1
    simpa using h1.2.1.2
  refine wpIn_region_any hmx (S5 hF (K := fun a' w' => ∃ f', FEq n a' f' ∧ Q .normal f' w') (by simpa using hdf) (fun _ _ h => h) _ _ _ _ ?_)
  have hrep : ∀ j, (Array.replicate ops.toArray.size false).getD j false = false := fun j => by
    rw [Array.getD_eq_getD_getElem?]
    cases h : (Array.replicate ops.toArray.size false)[j]? with
    | none => rfl
    | some b => rw [Array.getElem?_replicate] at h; split at h <;> simp_all
  refine Lo (K := Q .normal) hck rfl haF hpre htail (fun a' w' f' hf hK => ⟨f', hf, hK⟩) _ _ a _ ha.defers ha.size (by simp) h0 (fun j _ => hrep j) (fun j hj => by rw [hrep j] at hj; cases hj) (fun t _ => ha.at_ t) (fun j o t _ hj => by rw [hrep j] at hj; cases hj) ?_
  rw [show ops.toArray.size = ops.length by simp, Gj]
  exact Nat.le_refl _
end
theorem Vu {P : Program} {f : Fr} {w : World} {t T b o : Nat} {v : Value} (ht : oneTy P T = true) (hf : f t = .pointer (some ⟨b, o, none⟩)) (hc : w.cell? ⟨b, o, none⟩ = some v) : resCell P f w t T v :=
  ⟨_, hf, by simp [loadVar, Li ht, hc]⟩
def WpA (m : Nat) (P : Program) (n : Nat) (QA : Exit → Act → World → Prop) (c : Code) (f : Fr) (w : World) : Prop := ∀ a, FEq n a f → c.wpIn Fence.wide m P QA a w
def toQ (n : Nat) (QA : Exit → Act → World → Prop) : Exit → Fr → World → Prop := fun e f w => ∀ a, FEq n a f → QA e a w
section
variable {m : Nat} {P : Program} {n : Nat} {QA : Exit → Act → World → Prop} {f : Fr} {w : World}
theorem Po {x y : Code} (h : Wpf P n (thn (WpA m P n QA y) (toQ n QA)) x f w) : WpA m P n QA (.seq x y) f w := fun a ha =>
  wpIn_seq (wpIn_wide.2 (wp_mono (h a ha) fun e a' w' ⟨f', hf, hQ⟩ => by
    cases e with
    | normal => exact hQ a' hf
    | exit i => exact hQ a' hf
    | goto l => exact hQ a' hf
    | ret => exact hQ a' hf
    | panic c => exact hQ a' hf
    | outgrown => exact hQ a' hf))
theorem Ws {id : Nat} {l : List Oper} {y : Code} (h : WpO P n l.toArray (WpA m P n QA y) l f w) : WpA m P n QA (.seq (.region id l.toArray false) y) f w := Po (X2 h)
theorem Om {x y : Code} (h : WpA m P n (Exit.then (y.wpIn Fence.wide m P QA) QA) x f w) : WpA m P n QA (.seq x y) f w := fun a ha => wpIn_seq (h a ha)
end
theorem Zt {m : Nat} {P : Program} {n : Nat} {QA : Exit → Act → World → Prop} {c : Code} {f : Fr} {w : World} (M : Fr → Prop) (h : M f) (hM : ∀ f, M f → WpA m P n QA c f w) : WpA m P n QA c f w := hM f h
section
end
theorem Xbg {P : Program} {k : FuncId} {fn : Func} {c : Code} {args : Array Value} {w : World} {R : Value → World → Prop} {n m : Nat}
    (hf : P.funcs[k]? = some fn) (hb : fn.body = some c) (hn : fn.ntmps = n) (hs : Nat.ble args.size n = true)
    (h : WpA m P n (bodyPostM Fence.wide m P fn (fun e w' => ∃ v, e = .returned v ∧ R v w')) c (f0 args) w) : Calls P k args w fun e w' => ∃ v, e = .returned v ∧ R v w' := by
  have hs' : args.size ≤ n := by simpa [Nat.ble_eq] using hs
  refine callsIn_wide.1 (callsIn_of_wp_marks hf hb trivial (h _ ⟨rfl, by simp [hn]; omega, fun i => ?_⟩))
  simp only [f0, Hp, Array.getD_eq_getD_getElem?, Array.getElem?_toList]
  by_cases hi : i < args.size
  · rw [Array.getElem?_append_left hi]
  · rw [Array.getElem?_append_right (by omega), Array.getElem?_eq_none (by omega : args.size ≤ i)]
    by_cases h2 : i - args.size < fn.ntmps - args.size
    · simp [h2]
    · rw [Array.getElem?_eq_none (by simp; omega)]
theorem Xbi {m n : Nat} {P : Program} {fn : Func} {R : Value → World → Prop} {f : Fr} {w : World} {v : Value} (hv : resV P fn f w v) (hR : R v w) : toQ n (bodyPostM Fence.wide m P fn (fun e w' => ∃ v, e = .returned v ∧ R v w')) .ret f w := fun a ha => by
  show LeavesInM Fence.wide m P fn a.tmps _ a.defers .returning w
  rw [ha.defers]
  exact ⟨v, hv _ ha.at_, v, rfl, hR⟩
theorem Xcf {m n D : Nat} {P : Program} {fn : Func} {R : Value → World → Prop} {a : Act} {f : Fr} {w : World} {v : Value} (ha : FEq n a f) (hK : w.heap[D]? = some (.deferred (some []))) (hv : resV P fn f (w.putObj D (.deferred none)) v) (hR : R v (w.putObj D (.deferred none))) :
    bodyPostM Fence.wide m P fn (fun e w' => ∃ v, e = .returned v ∧ R v w') .ret { a with defers := { target := .collected D, args := #[] } :: a.defers } w := by
  show LeavesInM Fence.wide m P fn a.tmps _ ({ target := .collected D, args := #[] } :: a.defers) .returning w
  rw [ha.defers]
  exact ⟨by simp, .inl ⟨D, _, rfl, run_takeDeferred hK, v, hv _ ha.at_, v, rfl, hR⟩⟩
theorem Pc {F : Fence} {m : Nat} {P : Program} {id : Nat} {o : Oper} {Q : Exit → Act → World → Prop} {a : Act} {w w' : World} (hF : Wd F) (hd : ∀ c, o.op ≠ .defer c) (hg : o.guard = none) (hr : (execOp a.eval o).run P w = .ok .skip w') (hdst : o.dst = none) (hQ : Q .normal a w') : (Code.region id #[o] false).wpIn F m P Q a w := by
  refine wpIn_region_lit (l := [o]) ?_
  unfold wpListIn
  rw [if_pos (by simp [Region.wanted, hg])]
  refine ⟨fun k _ => hF.fn k, ?_⟩
  rw [Oper.semAt_eq _ _ _ hd, hr]
  show wpListIn F m P #[o] Q [] (a.put o.dst undef) w'
  rw [hdst]
  exact hQ
theorem L9 {w A B : World} {row : Option Nat} {n0 : Nat} (h : w.grownBy A none) (hg : A.grownBy B row) (hn : w.heap.size ≤ n0) (hr : ∀ r, row = some r → n0 ≤ r ∧ ∃ o : Obj, A.heap[r]? = some o ∧ o.isCells = false) : w.grownBy B none :=
  ⟨hg.os.trans h.os, hg.tape.trans h.tape, hg.output.trans h.output, Nat.le_trans h.size hg.size, fun i hi _ => (hg.block i (Nat.lt_of_lt_of_le hi h.size) (fun e => by have := (hr i e.symm).1; omega)).trans (h.block i hi (by simp))⟩
theorem Hs {A B : World} {row : Option Nat} {b n0 : Nat} {T : TypeId} {cs : Array Value} (h : Blk A b T cs) (hg : A.grownBy B row) (hr : ∀ r, row = some r → n0 ≤ r ∧ ∃ o : Obj, A.heap[r]? = some o ∧ o.isCells = false) : Blk B b T cs :=
  h.grown hg (fun e => by
    obtain ⟨o, ho, hc⟩ := (hr b e.symm).2
    rw [show A.heap[b]? = _ from h] at ho
    cases ho
    cases hc)
theorem gob {w w' : World} (h : Below w.heap.size w w') : w.grownBy w' none := ⟨h.os, h.tape, h.output, h.size, fun k hk _ => h.block k hk⟩
theorem Rk {w A B : World} (h : w.grownBy A none) (k : Below w.heap.size A B) : w.grownBy B none :=
  ⟨k.os.trans h.os, k.tape.trans h.tape, k.output.trans h.output, Nat.le_trans h.size k.size, fun i hi _ => (k.block i hi).trans (h.block i hi (by simp))⟩
theorem Sl {w w' : World} {r : Option Nat} (h : w.grownBy w' none) : w.grownBy w' r := ⟨h.os, h.tape, h.output, h.size, fun i hi _ => h.block i hi (by simp)⟩
theorem Zx {F : Fence} {m : Nat} {P : Program} {n : Nat} {ops : Array Oper} {K : Fr → World → Prop} {l : List Oper} {f : Fr} {w : World} (k : Nat) (hF : Wd F) (hd : noDefer (l.take k) = true) (h : WpO P n ops (WpOG F m P n ops K (l.drop k)) (l.take k) f w) : WpOG F m P n ops K l f w := by
  have := Oo (K := K) hF hd h
  rwa [List.take_append_drop] at this
def allR (ms : List MTh) : List Rt := ms.flatMap (fun m => m.t.slots)
def preR (ms : List MTh) (k j : Nat) : List Rt := allR (ms.take k) ++ (mAt ms k).t.slots.take j
theorem T7 (ms : List MTh) (k : Nat) : preR ms k 0 = allR (ms.take k) := by simp [preR]
theorem Na {ms : List MTh} {k j : Nat} (hj : j < (mAt ms k).t.slots.length) : preR ms k j ++ [rAt (mAt ms k).t.slots j] = preR ms k (j + 1) := by
  unfold preR
  rw [List.take_add_one, Vg hj, List.append_assoc]
  rfl
theorem T6 {ms : List MTh} {k j : Nat} (hk : k < ms.length) (hj : (mAt ms k).t.slots.length ≤ j) : preR ms k j = allR (ms.take (k + 1)) := by
  unfold preR allR
  rw [List.take_add_one, Q0 hk, List.take_of_length_le hj, List.flatMap_append]
  simp
theorem Hx {ms : List MTh} {k : Nat} (hk : k < ms.length) : allR ms = allR (ms.take k) ++ ((mAt ms k).t.slots ++ allR (ms.drop (k + 1))) := by
  unfold allR
  conv => lhs; rw [← List.take_append_drop k ms, List.flatMap_append, U1 (Q0 hk), List.flatMap_cons]
theorem Rw {ms : List MTh} {k j : Nat} (hk : k < ms.length) : preR ms k j <+: allR ms := by
  rw [Hx hk]
  unfold preR
  refine List.prefix_append_right_inj _ |>.2 ?_
  exact (List.take_prefix _ _).trans (List.prefix_append _ _)
theorem Zi {ms : List MTh} {k j : Nat} (hk : k < ms.length) (hj : j < (mAt ms k).t.slots.length) : (preR ms k j).length < (allR ms).length := by
  rw [Hx hk]
  unfold preR
  simp only [List.length_append, List.length_take]
  omega
theorem Tq {ms : List MTh} {k : Nat} (hk : ms.length ≤ k) : allR (ms.take k) = allR ms := by rw [List.take_of_length_le hk]
theorem F0 {ms : List MTh} {t : Th} : (decide (t.kind = 5) && !kindAt (tabT ms) t.to 1) = !gateOk (tabT ms) t := by
  unfold gateOk
  cases decide (t.kind = 5) <;> simp
def headOk (ts : List Th) (t : Th) : Bool := thingOk t && gateOk ts t
theorem Og {ms : List MTh} (h : inR (ms.length : Int) 1 8 = false) : tableOk (tabT ms) = false := by
  unfold tableOk
  rw [Y5, h]
  rfl
theorem Tm {ms : List MTh} {k : Nat} (hk : k < ms.length) (h : headOk (tabT ms) (mAt ms k).t = false) : tableOk (tabT ms) = false := by
  have h1 : (tabT ms).all (fun t => thingOk t && gateOk (tabT ms) t) = false := Kp (p := headOk (tabT ms)) (U7 hk) h
  unfold tableOk
  rw [h1, Bool.false_and, Bool.and_false]
theorem R1 {ms : List MTh} {k : Nat} (hl : inR (ms.length : Int) 1 8 = true) (h : ((tabT ms).take k).all (headOk (tabT ms)) = true) (hk : ms.length ≤ k) : tableOk (tabT ms) = (allR ms).all (rightTo (tabT ms)) := by
  have h1 : (tabT ms).all (fun t => thingOk t && gateOk (tabT ms) t) = true := Ku (p := headOk (tabT ms)) h (by rw [Y5]; exact hk)
  unfold tableOk
  rw [h1, Y5, hl, Bool.true_and, Bool.true_and]
  generalize rightTo (tabT ms) = p
  unfold tabT allR
  rw [List.all_map, List.all_flatMap]
  rfl
theorem Mc {ts : List Th} {r : Rt} (h : decide (r.th = 0) = true) : rightTo ts r = true := by unfold rightTo; rw [h]; rfl
theorem Ni {ms : List MTh} {r : Rt} (h : decide (r.th = 0) = false) : ((!inR r.th 1 (ms.length : Int)) || (decide ((mAt ms (r.th - 1).toNat).t.ve < r.ve))) = !rightTo (tabT ms) r := by
  unfold rightTo
  rw [h, Bool.false_or, Qk, Y5]
  cases inR r.th 1 (ms.length : Int)
  · rfl
  · have e : decide ((thAt (tabT ms) r.th).ve < r.ve) = !decide (r.ve ≤ (thAt (tabT ms) r.th).ve) := by
      rw [Bool.eq_iff_iff]; simp
    simp only [e, Bool.not_true, Bool.false_or, Bool.true_and]
theorem R8 {p : Rt → Bool} {a b : List Rt} (h : a <+: b) (ha : a.all p = false) : b.all p = false := by
  obtain ⟨c, rfl⟩ := h
  rw [List.all_append, ha, Bool.false_and]
end Go.Dw
end
section
namespace Go.Proofs.YtlhhijnmacogcaaGreatDoor
open Go.RowKit Go.Dw
set_option maxRecDepth 100000
set_option maxHeartbeats 4000000
set_option linter.unusedSimpArgs false
set_option linter.unusedVariables false
theorem Z9 : goFn Tryz.prog 43 = true := by kernel_rfl
theorem Xcs : goFn Tryz.prog 63 = true := by kernel_rfl
theorem Ue : oneTy Tryz.prog 23 = true := by kernel_rfl
theorem Xdw : zeroTy Tryz.prog 4 = some (.bool false) := by kernel_rfl
theorem Pz (w : World) (ms : List MTh) (a : Option Addr) (c : Nat) : CallsR Tryz.prog 63 #[.slice a ms.length c] w (fun v w' => ∃ B : Nat, v = .func (.func 98) #[] #[pt B 0] ∧ w.heap.size ≤ B ∧ Blk w' B 23 #[.slice a ms.length c] ∧ w.grownBy w' none) := by
 refine Xx (n := 4) Tryz.func63 Z Tryz.ntmps63 Z ?_
 have O := World.grownBy.refl w none
 refine Xa (Y7 (v := .slice a ms.length c) (cs := #[.slice a ms.length c]) Z Z Z ?_)
 intro G V E
 have J := Yd E O
 refine Xe (v := .nilFunc) Z Z (Xb (Xa (Pq (vs := [pt G 0]) (Xf Z Xm) Z (Xe (v := .func (.func 98) #[] #[pt G 0]) Z Z (Xb (Xt ?_))))))
 refine ⟨.func (.func 98) #[] #[pt G 0], Yt Z Z, G, Z, J, E.blk, (low0 O E.grw)⟩
theorem Pe (m : Nat) (w : World) (B : Nat) (ms : List MTh) (a : Option Addr) (c : Nat) (ht : TabAt w a ms) (hlen : TabLen ms) (hn : ms.length ≤ 1048576) (hB : Blk w B 23 #[.slice a ms.length c]) :
    SeqStopsK Fence.wide m Tryz.prog 98 #[pt B 0] (fun x : Rt => #[.agg x.cells.toArray]) (Below w.heap.size) (fun xs => xs = allR ms) (fun pre => pre <+: allR ms) (allR ms).length w := by
 intro l J Jx W hW hJ hJx hY h0
 have bb := gob hW
 show CallsIn Fence.wide m Tryz.prog 98 #[.func (.yield l) #[] #[], pt B 0] W _
 refine (H3 (n := 26) (m := m) (R := fun v w' => (∃ xs, xs = allR ms ∧ J xs w') ∨ (∃ pre, pre <+: allR ms ∧ Jx pre w')) Tryz.func98 Z Tryz.ntmps98 Z ?_).mono (fun e w' ⟨v, he, h⟩ => ⟨⟨v, he⟩, h⟩)
 refine J3 Ky (Xh (v := .slice a ms.length c) Ue Z ((hB.grown0 bb).cell Z) Z (Y1 (by kernel_rfl) Z Z (Xd (v := vi 0) Z Z (Xb (Ut (Nt (fun mm f' w' => ∃ (k : Nat), mm = ms.length - k ∧ k ≤ ms.length ∧ J (allR (ms.take k)) w' ∧ f' 9 = vi (k : Int) ∧ f' 0 = .func (.yield l) #[] #[] ∧ f' 7 = .slice a ms.length c ∧ f' 8 = vi (ms.length : Int) ∧ w.grownBy w' none) (ms.length - 0) ⟨0, Z, (Nat.zero_le _), h0, Z, Z, Z, Z, bb⟩ ?_))))))
 rintro mm bl bx ⟨k, bf, hk, hJk, ad, ba, aj, ak, ac⟩
 refine J3 Ky (Qg (q := decide ((k : Int) < (ms.length : Int))) ad ak Z Z (Xb (Uh (Uu Z (fun ag => ?_) (fun ag => ?_)))))
 have bn := of_decide_eq_true ag
 refine Wt (Xu (Uh (Ut (J3 Ky ?_))))
 obtain ⟨bj, bv, bt, ar, aw, a8⟩ := SlAt.at (TabAt.low ht ac).1 (Yp (xg ms k))
 have be := TabLen.at hlen (xg ms k)
 refine X3 Qc aj ad ar aw (by omega) (by omega) Z (Xr (vs := [vi (mAt ms k).t.kind, vi (mAt ms k).t.lab.s, vi (mAt ms k).t.lab.v, vi (mAt ms k).t.ve, vi (mAt ms k).t.num, .slice (mAt ms k).sa (mAt ms k).t.slots.length (mAt ms k).sc, .slice (mAt ms k).qa (mAt ms k).t.queue.length (mAt ms k).qc, vi (mAt ms k).t.to]) Ys Z Z (Y2 a8 0 8 Z) Z (Yf (cs := #[vi 0, vi 0, vi 0, vi 0, vi 0, .slice none 0 0, .slice none 0 0, vi 0]) Ka Z Z ?_))
 intro bh bz E
 have bc := Yd E ac
 refine Xy (vs := [vi (mAt ms k).t.kind, vi (mAt ms k).t.lab.s, vi (mAt ms k).t.lab.v, vi (mAt ms k).t.ve, vi (mAt ms k).t.num, .slice (mAt ms k).sa (mAt ms k).t.slots.length (mAt ms k).sc, .slice (mAt ms k).qa (mAt ms k).t.queue.length (mAt ms k).qc, vi (mAt ms k).t.to]) (cs' := #[vi (mAt ms k).t.kind, vi (mAt ms k).t.lab.s, vi (mAt ms k).t.lab.v, vi (mAt ms k).t.ve, vi (mAt ms k).t.num, .slice (mAt ms k).sa (mAt ms k).t.slots.length (mAt ms k).sc, .slice (mAt ms k).qa (mAt ms k).t.queue.length (mAt ms k).qc, vi (mAt ms k).t.to]) Ys Z Z Z (by simp [Value.oneCell']) E.blk (Nat.le_of_ble_eq_true Z) Z ?_
 intro ca V
 refine Xb (J3 Ky (Xc (o' := 5) Qj Z Z Z (Xh (v := .slice (mAt ms k).sa (mAt ms k).t.slots.length (mAt ms k).sc) Jd Z (V.blk.cell Z) Z (Y1 (by kernel_rfl) Z Z (Xd (v := vi 0) Z Z (Xb (Ut (Nt (fun mm f' w' => ∃ (j : Nat), mm = (mAt ms k).t.slots.length - j ∧ j ≤ (mAt ms k).t.slots.length ∧ J (preR ms k j) w' ∧ f' 16 = vi (j : Int) ∧ f' 0 = .func (.yield l) #[] #[] ∧ f' 7 = .slice a ms.length c ∧ f' 8 = vi (ms.length : Int) ∧ f' 9 = vi (k : Int) ∧ f' 14 = .slice (mAt ms k).sa (mAt ms k).t.slots.length (mAt ms k).sc ∧ f' 15 = vi ((mAt ms k).t.slots.length : Int) ∧ w.grownBy w' none) ((mAt ms k).t.slots.length - 0) ⟨0, Z, (Nat.zero_le _), (by rw [T7]; exact (hJ _ _ _ none hJk (low1 E.grw V.grw (nt ((World.grownBy.refl _ none)).size (Nat.le_of_eq E.eq.symm))) (fun r e => by cases e))), Z, ba, aj, ak, ad, Z, Z, (low1 (low0 ac E.grw) V.grw (by omega))⟩ ?_))))))))
 rintro mm bm cc ⟨j, bg, hj, hJj, ae, af, al, am, an, ao, ap, O⟩
 refine J3 Ky (Qg (q := decide ((j : Int) < ((mAt ms k).t.slots.length : Int))) ae ap Z Z (Xb (Uh (Uu Z (fun ah => ?_) (fun ah => ?_)))))
 have bp := of_decide_eq_true ah
 refine Wt (Xu (Uh (Ut (J3 Ky ?_))))
 obtain ⟨bk, bw, bu, au, az, a9⟩ := SlAt.at (TabAt.th (TabAt.low ht O) (xg ms k)).1 (Yp (xr (mAt ms k).t.slots j))
 refine X3 J9 ao ae au az (by omega) (by omega) Z (Xr (vs := [vi (rAt (mAt ms k).t.slots j).th, vi (rAt (mAt ms k).t.slots j).ve, vb (rAt (mAt ms k).t.slots j).rd, vb (rAt (mAt ms k).t.slots j).wr, vb (rAt (mAt ms k).t.slots j).wk]) Y0 Z Z (Y2 a9 0 5 Z) Z (Yf (cs := #[vi 0, vi 0, vb false, vb false, vb false]) K3 Z Z ?_))
 intro bi cd G
 have bd := Yd G O
 refine Xy (vs := [vi (rAt (mAt ms k).t.slots j).th, vi (rAt (mAt ms k).t.slots j).ve, vb (rAt (mAt ms k).t.slots j).rd, vb (rAt (mAt ms k).t.slots j).wr, vb (rAt (mAt ms k).t.slots j).wk]) (cs' := #[vi (rAt (mAt ms k).t.slots j).th, vi (rAt (mAt ms k).t.slots j).ve, vb (rAt (mAt ms k).t.slots j).rd, vb (rAt (mAt ms k).t.slots j).wr, vb (rAt (mAt ms k).t.slots j).wk]) Y0 Z Z Z (by simp [Value.oneCell']) G.blk (Nat.le_of_ble_eq_true Z) Z ?_
 intro ce ab
 refine Xb (Uh (Hn (Zx 2 Ky (by kernel_rfl) ?_)))
 simp only [List.take_succ_cons, List.take_zero]
 refine Xd (v := .func (.yield l) #[] #[]) af Z (Xr (vs := [vi (rAt (mAt ms k).t.slots j).th, vi (rAt (mAt ms k).t.slots j).ve, vb (rAt (mAt ms k).t.slots j).rd, vb (rAt (mAt ms k).t.slots j).wr, vb (rAt (mAt ms k).t.slots j).wk]) Y0 Z Z (ab.blk.rangeL 0 5 Z) Z (Xb ?_))
 simp only [List.drop_succ_cons, List.drop_zero]
 refine S3 Ky Z Z (vs := [.agg #[vi (rAt (mAt ms k).t.slots j).th, vi (rAt (mAt ms k).t.slots j).ve, vb (rAt (mAt ms k).t.slots j).rd, vb (rAt (mAt ms k).t.slots j).wr, vb (rAt (mAt ms k).t.slots j).wk]]) (Xf Z Xm) Z (hY (preR ms k j) _ _ (hJ _ _ _ none hJj (low1 G.grw ab.grw (nt ((World.grownBy.refl _ none)).size (Nat.le_of_eq G.eq.symm))) (fun r e => by cases e)) (Zi (by omega) (by omega))) ?_
 rintro _ cf (⟨rfl, aq, av⟩ | ⟨rfl, ai⟩)
 refine ⟨true, Z, ?_⟩
 refine Pt Ky (by kernel_rfl) (Yn (b' := false) Z Z Z (Xb (Xu (Mn Z Z (Wt (Y3 (Xu (Wa Ky (Yl (c := (j : Int) + 1) ae Z (by omega) (by omega) (by omega) Z (Xd (v := vi ((j : Int) + 1)) Z Z (Xb (Xu ?_))))))))))))
 exact ⟨(mAt ms k).t.slots.length - (j + 1), by omega, (j + 1), Z, (by omega), (by rw [← Na (by omega)]; exact aq), Z, af, al, am, an, ao, ap, (Rk (low1 (low0 O G.grw) ab.grw (by omega)) av)⟩
 refine ⟨false, Z, ?_⟩
 refine Pt Ky (by kernel_rfl) (Yn (b' := true) Z Z Z (Xb (Xu (Mo Z Z (Tp (Qn (Yk (Yk (Qn (Qn (Yk (Yk ?_))))))))))))
 refine Qn (⟨.tuple #[], Xdl Z, Or.inr ⟨_, Rw (k := k) (j := j + 1) (by omega), ?_⟩⟩)
 rw [← Na (k := k) (j := j) (by omega)]
 exact ai
 have bq := of_decide_eq_false ah
 exact Lp (Y9 (Y9 (Jh (Y3 (Xu (Wa Ky (Yl (c := (k : Int) + 1) an Z (by omega) (by omega) (by omega) Z (Xd (v := vi ((k : Int) + 1)) Z Z (Xb (Xu (⟨ms.length - (k + 1), by omega, (k + 1), Z, (by omega), (by rw [← T6 (j := j) (by omega) (by omega)]; exact hJj), Z, af, al, am, O⟩)))))))))))
 have br := of_decide_eq_false ag
 refine Lp (Y9 (Y9 (Jh (⟨.tuple #[], Xdl Z, Or.inl ⟨_, Z, ?_⟩⟩))))
 have kk := hJk
 rw [Tq (by omega)] at kk
 exact kk
theorem G3 (w : World) (ms : List MTh) (a : Option Addr) (c : Nat) (ht : TabAt w a ms) (hlen : TabLen ms) (hn : ms.length ≤ 1048576) : CallsR Tryz.prog 39 #[.slice a ms.length c] w (fun v w' => v = .bool (tableOk (tabT ms)) ∧ w.grownBy w' none) := by
 refine Xbg (n := 53) (m := 9) Tryz.func39 rfl Tryz.ntmps39 rfl ?_
 have fj := World.grownBy.refl w none
 refine Ws ?_
 refine Y7 (v := .slice a ms.length c) (cs := #[.slice a ms.length c]) rfl rfl rfl ?_
 intro af jm ap
 have gj := Yd ap fj
 have bz := low0 fj ap.grw
 refine Yf (cs := #[.bool false]) Xdw rfl rfl ?_
 intro G jo ad
 have gk := Yd ad bz
 have dq := Xo ad (ap.blk).lt
 have d6 := low0 bz ad.grw
 refine Xb ?_
 refine Po ?_
 refine Xa ?_
 have d0 := (ap.blk.grown0 ad.grw)
 refine Xh (v := .slice a ms.length c) Ue rfl (d0.cell rfl) rfl ?_
 refine Y1 (by kernel_rfl) rfl rfl ?_
 refine Xn (vs := [.int .i64 (ms.length : Int), .int .i64 1, .int .i64 8]) Vy (Xf rfl (Xf rfl (Xf rfl Xm))) rfl (Jv (ms.length : Int) 1 8 _) ?_
 rintro _ jp ⟨rfl, ar⟩
 have ca := low0 d6 ar
 refine Yn (b' := !inR (ms.length : Int) 1 8) rfl rfl rfl ?_
 refine Xb ?_
 refine X0 rfl (fun ag => ?_) (fun ag => ?_)
 ·
  have fd := Jr ag
  refine Xa ?_
  have fm := (ad.blk.grown0 ar)
  refine Yc (v := .bool false) (cs' := #[.bool false]) Jw rfl rfl rfl fm (Nat.le_of_ble_eq_true rfl) rfl ?_
  intro jq bv
  have d7 := low1 ca bv.grw (by omega)
  refine Xb ?_
  refine Xt ?_
  refine Yk ?_
  exact Xbi (Jt rfl (Vu Jw rfl (bv.blk.cell rfl))) ⟨congrArg Value.bool (Og fd).symm, d7⟩
 ·
  have ah := Q3 ag
  have i2 := Qi.1 ah
  refine Xz ?_
  refine Xu ?_
  refine Po ?_
  refine Xa ?_
  have d1 := (d0.grown0 ar)
  refine Xh (v := .slice a ms.length c) Ue rfl (d1.cell rfl) rfl ?_
  refine Y1 (by kernel_rfl) rfl rfl ?_
  refine Xd (v := .int .i64 0) rfl rfl ?_
  refine Xb ?_
  refine X9 ?_
  have fo := (ad.blk.grown0 ar)
  refine Ql (fun mm f' w' => ∃ (k : Nat), mm = ms.length - k ∧ k ≤ ms.length ∧ (((tabT ms).take k).all (headOk (tabT ms))) = true ∧ f' 12 = .int .i64 (k : Int) ∧ f' 0 = .slice a ms.length c ∧ f' 1 = .pointer (some ⟨af, 0, none⟩) ∧ f' 2 = .pointer (some ⟨G, 0, none⟩) ∧ f' 10 = .slice a ms.length c ∧ f' 11 = .int .i64 (ms.length : Int) ∧ w.grownBy w' none ∧ Blk w' af 23 #[.slice a ms.length c] ∧ Blk w' G 4 #[.bool false]) (ms.length - 0) ⟨0, rfl, (Nat.zero_le _), rfl, rfl, rfl, rfl, rfl, rfl, rfl, ca, d1, fo⟩ ?_
  rintro mm i7 jr ⟨k, i1, hk, hall, bn, dx, az, a8, bq, br, am, an, ao⟩
  refine Xa ?_
  refine Qg (q := decide ((k : Int) < (ms.length : Int))) bn br rfl rfl ?_
  refine Xb ?_
  refine Xq ?_
  refine X0 rfl (fun ai => ?_) (fun ai => ?_)
  ·
   have ja := of_decide_eq_true ai
   refine Xz ?_
   refine Xu ?_
   refine Xq ?_
   refine X9 ?_
   refine Xa ?_
   obtain ⟨i6, jk, jj, d4, ei, ek⟩ := SlAt.at (TabAt.low ht am).1 (Yp (Q0 (show k < ms.length by omega)))
   have gq := TabLen.at hlen (Q0 (show k < ms.length by omega))
   refine X3 Qc bq bn d4 ei (by omega) (by omega) rfl ?_
   refine Xr (vs := [.int .i64 (mAt ms k).t.kind, .int .i64 (mAt ms k).t.lab.s, .int .i64 (mAt ms k).t.lab.v, .int .i64 (mAt ms k).t.ve, .int .i64 (mAt ms k).t.num, .slice (mAt ms k).sa (mAt ms k).t.slots.length (mAt ms k).sc, .slice (mAt ms k).qa (mAt ms k).t.queue.length (mAt ms k).qc, .int .i64 (mAt ms k).t.to]) Ys rfl rfl (Y2 ek 0 8 rfl) rfl ?_
   refine Yf (cs := #[.int .i64 0, .int .i64 0, .int .i64 0, .int .i64 0, .int .i64 0, .slice none 0 0, .slice none 0 0, .int .i64 0]) Ka rfl rfl ?_
   intro i5 js O
   have gl := Yd O am
   have dr := Xo O (an).lt
   have du := Xo O (ao).lt
   have d8 := low0 am O.grw
   refine Xy (vs := [.int .i64 (mAt ms k).t.kind, .int .i64 (mAt ms k).t.lab.s, .int .i64 (mAt ms k).t.lab.v, .int .i64 (mAt ms k).t.ve, .int .i64 (mAt ms k).t.num, .slice (mAt ms k).sa (mAt ms k).t.slots.length (mAt ms k).sc, .slice (mAt ms k).qa (mAt ms k).t.queue.length (mAt ms k).qc, .int .i64 (mAt ms k).t.to]) (cs' := #[.int .i64 (mAt ms k).t.kind, .int .i64 (mAt ms k).t.lab.s, .int .i64 (mAt ms k).t.lab.v, .int .i64 (mAt ms k).t.ve, .int .i64 (mAt ms k).t.num, .slice (mAt ms k).sa (mAt ms k).t.slots.length (mAt ms k).sc, .slice (mAt ms k).qa (mAt ms k).t.queue.length (mAt ms k).qc, .int .i64 (mAt ms k).t.to]) Ys rfl rfl rfl (by simp [Value.oneCell']) O.blk (Nat.le_of_ble_eq_true rfl) rfl ?_
   intro jt V
   have bd := low1 d8 V.grw (by omega)
   refine Xb ?_
   refine Xq ?_
   refine Xa ?_
   refine Xr (vs := [.int .i64 (mAt ms k).t.kind, .int .i64 (mAt ms k).t.lab.s, .int .i64 (mAt ms k).t.lab.v, .int .i64 (mAt ms k).t.ve, .int .i64 (mAt ms k).t.num, .slice (mAt ms k).sa (mAt ms k).t.slots.length (mAt ms k).sc, .slice (mAt ms k).qa (mAt ms k).t.queue.length (mAt ms k).qc, .int .i64 (mAt ms k).t.to]) Ys rfl rfl (V.blk.rangeL 0 8 rfl) rfl ?_
   refine Xn (vs := [.agg #[.int .i64 (mAt ms k).t.kind, .int .i64 (mAt ms k).t.lab.s, .int .i64 (mAt ms k).t.lab.v, .int .i64 (mAt ms k).t.ve, .int .i64 (mAt ms k).t.num, .slice (mAt ms k).sa (mAt ms k).t.slots.length (mAt ms k).sc, .slice (mAt ms k).qa (mAt ms k).t.queue.length (mAt ms k).qc, .int .i64 (mAt ms k).t.to]]) Ib (Xf rfl Xm) rfl (G4 (mAt ms k) _ (TabAt.th (TabAt.low ht bd) (Q0 (show k < ms.length by omega))).1 (TabAt.th (TabAt.low ht bd) (Q0 (show k < ms.length by omega))).2.1 (by first | omega | exact Nat.le_of_ble_eq_true rfl | (simp only [List.length_nil, List.length_cons, List.length_append, List.length_replicate]; omega)) (by first | omega | exact Nat.le_of_ble_eq_true rfl | (simp only [List.length_nil, List.length_cons, List.length_append, List.length_replicate]; omega))) ?_
   rintro _ gg ⟨rfl, ac⟩
   have aq := low0 bd ac
   refine Yn (b' := !thingOk (mAt ms k).t) rfl rfl rfl ?_
   refine Xb ?_
   refine X0 rfl (fun aj => ?_) (fun aj => ?_)
   ·
    have fe := Jr aj
    refine Xa ?_
    have fp := (((ao.grown0 O.grw).gn V.grw).grown0 ac)
    refine Yc (v := .bool false) (cs' := #[.bool false]) Jw a8 rfl rfl fp (Nat.le_of_ble_eq_true rfl) rfl ?_
    intro ju bw
    have d9 := low1 aq bw.grw (by omega)
    refine Xb ?_
    refine Xt ?_
    refine Yk ?_
    refine Qn ?_
    refine Yk ?_
    refine Yk ?_
    refine Qn ?_
    refine Yk ?_
    exact Xbi (Jt rfl (Vu Jw a8 (bw.blk.cell rfl))) ⟨congrArg Value.bool (Tm (k := k) (by omega) (by unfold headOk; rw [fe]; rfl)).symm, d9⟩
   ·
    have ak := Q3 aj
    refine Xz ?_
    refine Xu ?_
    refine Ya (fun f' w' => (f' 0 = .slice a ms.length c ∧ f' 1 = .pointer (some ⟨af, 0, none⟩) ∧ f' 2 = .pointer (some ⟨G, 0, none⟩) ∧ f' 10 = .slice a ms.length c ∧ f' 11 = .int .i64 (ms.length : Int) ∧ f' 12 = .int .i64 (k : Int) ∧ f' 28 = .bool ((decide ((mAt ms k).t.kind = 5)) && (!kindAt (tabT ms) (mAt ms k).t.to 1))) ∧ gg.grownBy w' none) ?_ ?_
    ·
     refine Xc (o' := 0) Qd rfl rfl rfl ?_
     have d2 := (V.blk.grown0 ac)
     refine Xh (v := .int .i64 (mAt ms k).t.kind) X1 rfl (d2.cell rfl) rfl ?_
     refine X6 (q := decide ((mAt ms k).t.kind = 5)) rfl rfl rfl rfl ?_
     refine Xd (v := .bool (decide ((mAt ms k).t.kind = 5))) rfl rfl ?_
     rcases Yg (decide ((mAt ms k).t.kind = 5)) with J | J
     ·
      have gh := Hu ak J
      have jb := of_decide_eq_true J
      refine Xg rfl rfl rfl J ?_
      have fq := (((an.grown0 O.grw).gn V.grw).grown0 ac)
      refine Xh (v := .slice a ms.length c) Ue az (fq.cell rfl) rfl ?_
      refine Xg rfl rfl rfl J ?_
      refine Xc (o' := 7) J5 rfl rfl rfl ?_
      refine Xg rfl rfl rfl J ?_
      refine Xh (v := .int .i64 (mAt ms k).t.to) X1 rfl (d2.cell rfl) rfl ?_
      refine Xg rfl rfl rfl J ?_
      refine Xn (vs := [.slice a ms.length c, .int .i64 (mAt ms k).t.to, .int .i64 1]) Z9 (Xf rfl (Xf rfl (Xf rfl Xm))) rfl (Rl (mAt ms k).t.to 1 (by omega) _ ms _ _ (TabAt.low ht aq) hlen (by omega)) ?_
      rintro _ jv ⟨rfl, cd⟩
      have gt := low0 aq cd
      refine Xg rfl rfl rfl J ?_
      refine Yn (b' := !kindAt (tabT ms) (mAt ms k).t.to 1) rfl rfl rfl ?_
      refine Xw (v := .bool (!kindAt (tabT ms) (mAt ms k).t.to 1)) rfl J rfl rfl ?_
      exact Xb ⟨⟨dx, az, a8, bq, br, bn, (congrArg Value.bool (by first | (simp only [ag, ah, ai, aj, ak, J, b0, b1, b2, b3, b4, b5, b6, b7, b8, b9]; done) | simp [ag, ah, ai, aj, ak, J]))⟩, cd⟩
     ·
      have jc := of_decide_eq_false J
      iterate 5 refine Xj rfl rfl rfl J rfl ?_
      refine Xp (v := .bool false) rfl J rfl rfl ?_
      exact Xb ⟨⟨dx, az, a8, bq, br, bn, (congrArg Value.bool (by first | (simp only [ag, ah, ai, aj, ak, J, b0, b1, b2, b3, b4, b5, b6, b7, b8, b9]; done) | simp [ag, ah, ai, aj, ak, J]))⟩, (World.grownBy.refl _ _)⟩
    ·
     rintro i8 jw ⟨⟨ep, eu, bt, ew, ez, e0, fa⟩, au⟩
     have cc := low0 aq au
     refine X0 fa (fun a9 => ?_) (fun a9 => ?_)
     ·
      have dy := L0 a9
      have gi := Hu ak dy
      have jd := of_decide_eq_true dy
      have ff := L1 a9
      have je := Jr ff
      refine Xa ?_
      have fr := ((((ao.grown0 O.grw).gn V.grw).grown0 ac).grown0 au)
      refine Yc (v := .bool false) (cs' := #[.bool false]) Jw bt rfl rfl fr (Nat.le_of_ble_eq_true rfl) rfl ?_
      intro jx bx
      have ea := low1 cc bx.grw (by omega)
      refine Xb ?_
      refine Xt ?_
      refine Qn ?_
      refine Yk ?_
      refine Yk ?_
      refine Qn ?_
      refine Yk ?_
      exact Xbi (Jt rfl (Vu Jw bt (bx.blk.cell rfl))) ⟨congrArg Value.bool (Tm (k := k) (by omega) (by unfold headOk; rw [Jr (F0.symm.trans a9), Bool.and_false])).symm, ea⟩
     ·
      refine Xz ?_
      refine Y3 ?_
      refine Xu ?_
      refine X2 ?_
      refine Yl (c := (k : Int) + 1) e0 rfl (by omega) (by omega) (by omega) rfl ?_
      refine Xd (v := .int .i64 ((k : Int) + 1)) rfl rfl ?_
      refine Xb ?_
      refine Xu ?_
      have ft := ((((an.grown0 O.grw).gn V.grw).grown0 ac).grown0 au)
      have fu := ((((ao.grown0 O.grw).gn V.grw).grown0 ac).grown0 au)
      exact ⟨ms.length - (k + 1), by omega, (k + 1), rfl, (by omega), (Kn (p := headOk (tabT ms)) hall (U7 (by omega)) (by unfold headOk; rw [ak, Q3 (F0.symm.trans a9)]; rfl)), rfl, ep, eu, bt, ew, ez, cc, ft, fu⟩
  ·
   have jf := of_decide_eq_false ai
   refine Qf ?_
   refine Y9 ?_
   refine Y9 ?_
   refine Jh ?_
   refine Xu ?_
   refine Om ?_
   refine Ws ?_
   refine Xh (v := .slice a ms.length c) Ue az (an.cell rfl) rfl ?_
   refine Xn (vs := [.slice a ms.length c]) Xcs (Xf rfl Xm) rfl (Pz _ ms _ _) ?_
   rintro _ dp ⟨bp, rfl, aw, fv, be⟩
   have ae := low0 am be
   have gm := Nat.le_trans am.size aw
   have dt := Nat.lt_of_lt_of_le (an).lt aw
   have dv := Nat.lt_of_lt_of_le (ao).lt aw
   refine Xb ?_
   have fw := (an.grown0 be)
   have d3 := (ao.grown0 be)
   refine Zt (fun f' => f' 1 = .pointer (some ⟨af, 0, none⟩) ∧ f' 2 = .pointer (some ⟨G, 0, none⟩) ∧ f' 31 = .func (.func 98) #[] #[.pointer (some ⟨bp, 0, none⟩)]) ⟨az, a8, rfl⟩ ?_
   rintro fT ⟨e1, e2, e3⟩ a0 ha
   obtain ⟨tm, df⟩ := a0
   obtain rfl : df = [] := ha.defers
   have fk : G < dp.heap.size := (d3).lt
   refine wpIn_block ?_
   refine wpIn_rangeFunc_ownH (F := Fence.wide) (n := 9) rfl (by omega) (gf := 98) (lb := #[.pointer (some ⟨bp, 0, none⟩)]) (by rw [ha.eval]; exact e3) trivial (enters_of Tryz.func98 (by kernel_rfl) rfl) (Pe 8 dp bp ms a c (TabAt.low ht ae) hlen hn fv) belowK_t (belowK_b (Nat.le_refl _)) (Below.refl _ _) (fun _ => rfl) (fun pre W => w.grownBy W none ∧ Blk W af 23 #[.slice a ms.length c] ∧ Blk W G 4 #[.bool false] ∧ pre.all (rightTo (tabT ms)) = true ∧ dp.heap.size ≤ W.heap.size) (fun c pre W => c = .ret ∧ w.grownBy W none ∧ Blk W G 4 #[.bool false] ∧ pre.all (rightTo (tabT ms)) = false) (fun s A B row hs hg hr => ⟨L9 hs.1 hg ae.size hr, Hs hs.2.1 hg hr, Hs hs.2.2.1 hg hr, hs.2.2.2.1, Nat.le_trans hs.2.2.2.2 hg.size⟩) (fun c s A B row hs hg hr => ⟨hs.1, L9 hs.2.1 hg ae.size hr, Hs hs.2.2.1 hg hr, hs.2.2.2⟩) ⟨ae, fw, d3, rfl, Nat.le_refl _⟩ (fun x a' W => ∃ (Bx : Nat) (f' : Fr), Blk W Bx 33 x.cells.toArray ∧ FEq 53 a' f' ∧ f' 5 = .pointer (some ⟨Bx, 0, none⟩) ∧ f' 1 = .pointer (some ⟨af, 0, none⟩) ∧ f' 2 = .pointer (some ⟨G, 0, none⟩)) (fun x a' _ A B row hs hg hr => by obtain ⟨Bx, f', h1, h2⟩ := hs; exact ⟨Bx, f', Hs h1 hg hr, h2⟩) ?assign ?body ?done ?stop
   case assign =>
    intro l pre x W K hi hK
    refine wpIn_mono ((?_ : Wpg (Fence.wide.inRound l) (9 - 1 - 1) Tryz.prog 53 (fun e f' w' => e = .normal ∧ ∃ Bx : Nat, W.grownBy w' none ∧ Blk w' Bx 33 x.cells.toArray ∧ f' 5 = .pointer (some ⟨Bx, 0, none⟩) ∧ f' 1 = .pointer (some ⟨af, 0, none⟩) ∧ f' 2 = .pointer (some ⟨G, 0, none⟩)) _ (up fT 32 (.agg x.cells.toArray)) W) _ (by have hp := ha.put (d := 32) rfl (.agg x.cells.toArray); simpa [Act.put] using hp)) ?_
    ·
     have hlW := hi.2.2.2.2
     refine Wa (Wq l) ?_
     refine Yf (cs := #[.int .i64 0, .int .i64 0, .bool false, .bool false, .bool false]) K3 rfl rfl ?_
     intro eo jy al
     have gp := Yd al hi.1
     have ed := low0 hi.1 al.grw
     refine Xy (vs := [.int .i64 x.th, .int .i64 x.ve, .bool x.rd, .bool x.wr, .bool x.wk]) (cs' := #[.int .i64 x.th, .int .i64 x.ve, .bool x.rd, .bool x.wr, .bool x.wk]) Y0 rfl rfl rfl (by simp [Value.oneCell']) al.blk (Nat.le_of_ble_eq_true rfl) rfl ?_
     intro jz bb
     have gu := low1 ed bb.grw (by omega)
     refine Xb ?_
     exact ⟨rfl, eo, (low1 al.grw bb.grw (Nat.le_trans ((World.grownBy.refl _ none)).size (Nat.le_of_eq al.eq.symm))), bb.blk, rfl, e1, e2⟩
    ·
     rintro e a' w' ⟨f', hf', rfl, Bx, hg, hb, h5, h1, h2⟩
     exact hK a' w' (KeepsFrom.of_grownBy hg (fun j e => by cases e)) (V2 hg hi.2.2.2.2) ⟨low0 hi.1 hg, hi.2.1.grown0 hg, hi.2.2.1.grown0 hg, hi.2.2.2.1, Nat.le_trans hi.2.2.2.2 hg.size⟩ ⟨Bx, f', hb, hf', h5, h1, h2⟩
   case body =>
    rintro l pre x a' W hl hr hi ⟨Bx, f', hbx, hf', h5, h1, h2⟩ hlt
    refine wpIn_mono ((?_ : Wpg (Fence.wide.inRound l) (9 - 1 - 1) Tryz.prog 53 (fun e f'' w' => (e = .normal ∧ W.grownBy w' none ∧ rightTo (tabT ms) x = true) ∨ (e = .ret ∧ W.grownBy w' (some G) ∧ w.grownBy w' none ∧ Blk w' G 4 #[.bool false] ∧ rightTo (tabT ms) x = false)) _ f' W) a' hf') ?_
    ·
     refine Ut ?_
     refine Uh ?_
     refine J3 (Wq l) ?_
     refine Xc (o' := 0) Yo h5 rfl rfl ?_
     refine Xh (v := .int .i64 x.th) X1 rfl (hbx.cell rfl) rfl ?_
     refine X6 (q := decide (x.th = 0)) rfl rfl rfl rfl ?_
     refine Xb ?_
     refine Uu rfl (fun ab => ?_) (fun ab => ?_)
     ·
      have jg := of_decide_eq_true ab
      refine Lp ?_
      refine Y9 ?_
      refine Jh ?_
      exact Or.inl ⟨rfl, (World.grownBy.refl _ _), Mc ab⟩
     ·
      have jh := of_decide_eq_false ab
      refine Wt ?_
      refine Xu ?_
      refine R6 (fun f' w' => (f' 2 = .pointer (some ⟨G, 0, none⟩) ∧ f' 52 = .bool ((!inR x.th 1 (ms.length : Int)) || (decide ((mAt ms (x.th - 1).toNat).t.ve < x.ve)))) ∧ W.grownBy w' none) ?_ ?_
      ·
       rcases Yg (!inR x.th 1 (ms.length : Int)) with E | E
       ·
        have dz := Jr E
        refine R5 (Wq l) (m := 15) (vals := [(36, .slice a ms.length c), (37, .pointer (some ⟨Bx, 0, none⟩)), (38, .int .i64 x.th), (39, .bool (inR x.th 1 (ms.length : Int))), (40, .bool (!inR x.th 1 (ms.length : Int))), (41, .bool (!inR x.th 1 (ms.length : Int))), (42, undef), (43, undef), (44, undef), (45, undef), (46, undef), (47, undef), (48, undef), (49, undef), (50, undef)]) (fun w' => W.grownBy w' none) Yz (by kernel_rfl) (X8 _) ?_ ?_
        ·
         refine Qh rfl (fun j1 bf => ?_) ?_
         ·
          have gv := low0 hi.1 bf
          have fx := (hi.2.1.grown0 bf)
          refine Xh (v := .slice a ms.length c) Ue h1 (fx.cell rfl) rfl ?_
          exact Xb ⟨rfl, bf⟩
         refine Qh rfl (fun j2 cg => ?_) ?_
         ·
          have gw := low0 hi.1 cg
          refine Xc (o' := 0) Yo h5 rfl rfl ?_
          exact Xb ⟨rfl, cg⟩
         refine Qh rfl (fun j3 bg => ?_) ?_
         ·
          have gx := low0 hi.1 bg
          have fy := (hbx.grown0 bg)
          refine Xh (v := .int .i64 x.th) X1 rfl (fy.cell rfl) rfl ?_
          exact Xb ⟨rfl, bg⟩
         refine Qh rfl (fun j4 cj => ?_) ?_
         ·
          have ee := low0 hi.1 cj
          refine Xn (vs := [.slice a ms.length c, .int .i64 x.th]) Ri (Xf rfl (Xf rfl Xm)) rfl (K2 x.th _ _ _ _) ?_
          rintro _ j5 ⟨rfl, ce⟩
          have gy := low0 ee ce
          exact Xb ⟨rfl, (grown_trans cj ce)⟩
         refine Qh rfl (fun j6 ck => ?_) ?_
         ·
          have gz := low0 hi.1 ck
          refine Yn (b' := !inR x.th 1 (ms.length : Int)) rfl rfl rfl ?_
          exact Xb ⟨rfl, ck⟩
         refine Qh rfl (fun j7 cl => ?_) ?_
         ·
          have g0 := low0 hi.1 cl
          refine Xd (v := .bool (!inR x.th 1 (ms.length : Int))) rfl rfl ?_
          exact Xb ⟨rfl, cl⟩
         refine Qh rfl (fun j8 cm => ?_) ?_
         ·
          have g5 := low0 hi.1 cm
          refine Xj rfl rfl rfl E rfl ?_
          exact Xb ⟨rfl, cm⟩
         refine Qh rfl (fun j9 cn => ?_) ?_
         ·
          have g6 := low0 hi.1 cn
          refine Xj rfl rfl rfl E rfl ?_
          exact Xb ⟨rfl, cn⟩
         refine Qh rfl (fun ka co => ?_) ?_
         ·
          have g7 := low0 hi.1 co
          refine Xj rfl rfl rfl E rfl ?_
          exact Xb ⟨rfl, co⟩
         refine Qh rfl (fun kb ct => ?_) ?_
         ·
          have g8 := low0 hi.1 ct
          refine Xj rfl rfl rfl E rfl ?_
          exact Xb ⟨rfl, ct⟩
         refine Qh rfl (fun kc cv => ?_) ?_
         ·
          have g9 := low0 hi.1 cv
          refine Xj rfl rfl rfl E rfl ?_
          exact Xb ⟨rfl, cv⟩
         refine Qh rfl (fun ke cw => ?_) ?_
         ·
          have ia := low0 hi.1 cw
          refine Xj rfl rfl rfl E rfl ?_
          exact Xb ⟨rfl, cw⟩
         refine Qh rfl (fun kf cy => ?_) ?_
         ·
          have ib := low0 hi.1 cy
          refine Xj rfl rfl rfl E rfl ?_
          exact Xb ⟨rfl, cy⟩
         refine Qh rfl (fun kg cz => ?_) ?_
         ·
          have ic := low0 hi.1 cz
          refine Xj rfl rfl rfl E rfl ?_
          exact Xb ⟨rfl, cz⟩
         refine Qh rfl (fun kh c8 => ?_) ?_
         ·
          have ie := low0 hi.1 c8
          refine Xj rfl rfl rfl E rfl ?_
          exact Xb ⟨rfl, c8⟩
         exact Y8
        ·
         intro ki c9
         have ig := low0 hi.1 c9
         refine Xj rfl rfl rfl E rfl ?_
         refine Xw (v := .bool true) rfl E rfl rfl ?_
         exact Xb (Xu ⟨⟨h2, (congrArg Value.bool (by first | (simp only [ab, E, dz, b0, b1, b2, b3, b4, b5, b6, b7, b8, b9]; done) | simp [ab, E, dz]))⟩, c9⟩)
       ·
        have bu := Q3 E
        have i3 := Qi.1 bu
        obtain ⟨dw, jl, dn, d5, ej, em⟩ := SlAt.at (TabAt.low ht hi.1).1 (Yp (Q0 (show (x.th - 1).toNat < ms.length by omega)))
        have gr := TabLen.at hlen (Q0 (show (x.th - 1).toNat < ms.length by omega))
        refine R5 (Wq l) (m := 15) (vals := [(36, .slice a ms.length c), (37, .pointer (some ⟨Bx, 0, none⟩)), (38, .int .i64 x.th), (39, .bool (inR x.th 1 (ms.length : Int))), (40, .bool (!inR x.th 1 (ms.length : Int))), (41, .bool (!inR x.th 1 (ms.length : Int))), (42, .pointer (some ⟨Bx, 1, none⟩)), (43, .int .i64 x.ve), (44, .slice a ms.length c), (45, .pointer (some ⟨Bx, 0, none⟩)), (46, .int .i64 x.th), (47, .int .i64 (x.th - 1)), (48, .pointer (some ⟨dw, dn, none⟩)), (49, .pointer (some ⟨dw, dn + 3, none⟩)), (50, .int .i64 (mAt ms (x.th - 1).toNat).t.ve)]) (fun w' => W.grownBy w' none) Yz (by kernel_rfl) (X8 _) ?_ ?_
        ·
         refine Qh rfl (fun kj bh => ?_) ?_
         ·
          have ii := low0 hi.1 bh
          have fz := (hi.2.1.grown0 bh)
          refine Xh (v := .slice a ms.length c) Ue h1 (fz.cell rfl) rfl ?_
          exact Xb ⟨rfl, bh⟩
         refine Qh rfl (fun kk da => ?_) ?_
         ·
          have ij := low0 hi.1 da
          refine Xc (o' := 0) Yo h5 rfl rfl ?_
          exact Xb ⟨rfl, da⟩
         refine Qh rfl (fun kl bi => ?_) ?_
         ·
          have ik := low0 hi.1 bi
          have f8 := (hbx.grown0 bi)
          refine Xh (v := .int .i64 x.th) X1 rfl (f8.cell rfl) rfl ?_
          exact Xb ⟨rfl, bi⟩
         refine Qh rfl (fun km db => ?_) ?_
         ·
          have ef := low0 hi.1 db
          refine Xn (vs := [.slice a ms.length c, .int .i64 x.th]) Ri (Xf rfl (Xf rfl Xm)) rfl (K2 x.th _ _ _ _) ?_
          rintro _ kn ⟨rfl, cf⟩
          have il := low0 ef cf
          exact Xb ⟨rfl, (grown_trans db cf)⟩
         refine Qh rfl (fun ko dc => ?_) ?_
         ·
          have im := low0 hi.1 dc
          refine Yn (b' := !inR x.th 1 (ms.length : Int)) rfl rfl rfl ?_
          exact Xb ⟨rfl, dc⟩
         refine Qh rfl (fun kp de => ?_) ?_
         ·
          have io := low0 hi.1 de
          refine Xd (v := .bool (!inR x.th 1 (ms.length : Int))) rfl rfl ?_
          exact Xb ⟨rfl, de⟩
         refine Qh rfl (fun kq dg => ?_) ?_
         ·
          have ip := low0 hi.1 dg
          refine Xg rfl rfl rfl E ?_
          refine Xc (o' := 1) Kv h5 rfl rfl ?_
          exact Xb ⟨rfl, dg⟩
         refine Qh rfl (fun kr bj => ?_) ?_
         ·
          have iq := low0 hi.1 bj
          refine Xg rfl rfl rfl E ?_
          have f9 := (hbx.grown0 bj)
          refine Xh (v := .int .i64 x.ve) X1 rfl (f9.cell rfl) rfl ?_
          exact Xb ⟨rfl, bj⟩
         refine Qh rfl (fun ks bk => ?_) ?_
         ·
          have ir := low0 hi.1 bk
          refine Xg rfl rfl rfl E ?_
          have ga := (hi.2.1.grown0 bk)
          refine Xh (v := .slice a ms.length c) Ue h1 (ga.cell rfl) rfl ?_
          exact Xb ⟨rfl, bk⟩
         refine Qh rfl (fun kt dh => ?_) ?_
         ·
          have it := low0 hi.1 dh
          refine Xg rfl rfl rfl E ?_
          refine Xc (o' := 0) Yo h5 rfl rfl ?_
          exact Xb ⟨rfl, dh⟩
         refine Qh rfl (fun ku bl => ?_) ?_
         ·
          have iu := low0 hi.1 bl
          refine Xg rfl rfl rfl E ?_
          have gb := (hbx.grown0 bl)
          refine Xh (v := .int .i64 x.th) X1 rfl (gb.cell rfl) rfl ?_
          exact Xb ⟨rfl, bl⟩
         refine Qh rfl (fun kv di => ?_) ?_
         ·
          have iv := low0 hi.1 di
          refine Xg rfl rfl rfl E ?_
          refine Yr (c := x.th - 1) rfl rfl (by omega) (by omega) (by omega) rfl ?_
          exact Xb ⟨rfl, di⟩
         refine Qh rfl (fun kw dk => ?_) ?_
         ·
          have iw := low0 hi.1 dk
          refine Xg rfl rfl rfl E ?_
          refine X3 Qc rfl rfl d5 ej (by omega) (by omega) rfl ?_
          exact Xb ⟨rfl, dk⟩
         refine Qh rfl (fun kx dl => ?_) ?_
         ·
          have ix := low0 hi.1 dl
          refine Xg rfl rfl rfl E ?_
          refine Xc (o' := dn + 3) Qz rfl rfl rfl ?_
          exact Xb ⟨rfl, dl⟩
         refine Qh rfl (fun ky bm => ?_) ?_
         ·
          have iy := low0 hi.1 bm
          refine Xg rfl rfl rfl E ?_
          refine Xh (v := .int .i64 (mAt ms (x.th - 1).toNat).t.ve) X1 rfl ((Yi em bm) 3 _ rfl) rfl ?_
          exact Xb ⟨rfl, bm⟩
         exact Y8
        ·
         intro kz dm
         have iz := low0 hi.1 dm
         refine Xg rfl rfl rfl E ?_
         refine Jm (q := decide ((mAt ms (x.th - 1).toNat).t.ve < x.ve)) rfl rfl rfl rfl ?_
         refine Xp (v := .bool (decide ((mAt ms (x.th - 1).toNat).t.ve < x.ve))) rfl E rfl rfl ?_
         exact Xb (Xu ⟨⟨h2, (congrArg Value.bool (by first | (simp only [ab, E, bu, b0, b1, b2, b3, b4, b5, b6, b7, b8, b9]; done) | simp [ab, E, bu]))⟩, dm⟩)
      ·
       rintro i9 k0 ⟨⟨fb, fc⟩, av⟩
       have eg := low0 hi.1 av
       refine Uu fc (fun ba => ?_) (fun ba => ?_)
       ·
        refine J3 (Wq l) ?_
        have gc := (hi.2.2.1.grown0 av)
        refine Yc (v := .bool false) (cs' := #[.bool false]) Jw fb rfl rfl gc (Nat.le_of_ble_eq_true rfl) rfl ?_
        intro k4 bc
        have eh := low1 eg bc.grw (by omega)
        refine Xb ?_
        refine Tp ?_
        refine Qn ?_
        exact Or.inr ⟨rfl, (grown_trans (Sl av) bc.grw), eh, bc.blk, Jr ((Ni ab).symm.trans ba)⟩
       ·
        have fg := Kl ba
        have fh := Q3 fg
        have i4 := Qi.1 fh
        have fi := Km ba
        have ji := of_decide_eq_false fi
        refine Wt ?_
        refine Y3 ?_
        exact Or.inl ⟨rfl, av, Q3 ((Ni ab).symm.trans ba)⟩
    ·
     rintro e a2 w2 ⟨f2, hf2, (⟨rfl, hg, hx⟩ | ⟨rfl, hg, i0, hb, hx⟩)⟩
     ·
      exact ⟨KeepsFrom.of_grownBy hg (fun j e => by cases e), V2 hg hi.2.2.2.2, low0 hi.1 hg, hi.2.1.grown0 hg, hi.2.2.1.grown0 hg, by rw [List.all_append, hi.2.2.2.1]; simp [hx], Nat.le_trans hi.2.2.2.2 hg.size⟩
     ·
      exact ⟨KeepsFrom.of_grownBy hg (fun j e => by cases e; exact fk), rfl, i0, hb, by rw [List.all_append]; simp [hx]⟩
   case done =>
    intro D xs W hD hS hi hK
    subst hS
    have hDB : D ≠ G := by omega
    have hDl : D < W.heap.size := (Array.getElem?_eq_some_iff.1 hK).1
    have hsb := setB_setRow hi.2.2.1 #[.bool true]
    refine wpIn_seq ?_
    refine Pc Ky (fun c h => by cases h) rfl (w' := W.setRow G #[.bool true]) ?_ rfl ?_
    ·
     have he : Act.eval { tmps := tm, defers := [{ target := .collected D, args := #[] }] } = ev fT := ha.eval
     rw [he]
     have hst := Gc (w := W) (v := .bool true) (o := 0) Jw rfl hi.2.2.1 (by simp)
     simp [execOp, show ev fT (.tmp 2) = _ from e2, show ev fT (.const (.bool true)) = .bool true from rfl, hst]
    ·
     refine wpIn_ret ?_
     have hK' : (W.setRow G #[.bool true]).heap[D]? = some (.deferred (some [])) := (hsb.grw.block D hDl (fun e => hDB (Option.some.inj e))).trans hK
     have hgp := grownBy_putObj' (W.setRow G #[.bool true]) D (.deferred none)
     have eb := hsb.blk.grown hgp (Jj (Ne.symm hDB))
     refine Xcf (v := .bool true) (a := { tmps := tm, defers := [] }) ha hK' (Jt rfl (Vu Jw e2 (eb.cell rfl))) ⟨?_, ?_⟩
     ·
      rw [R1 ah hall (by omega), hi.2.2.2.1]
     ·
      exact low1 (low1 hi.1 hsb.grw (by omega)) hgp (Nat.le_trans ae.size hD)
   case stop =>
    intro D c pre W hD hSp hx hK
    obtain ⟨rfl, hg, hb, hf⟩ := hx
    have hDB : D ≠ G := by omega
    have hgp := grownBy_putObj' W D (.deferred none)
    have eb := hb.grown hgp (Jj (Ne.symm hDB))
    refine wpIn_ret ?_
    refine Xcf (v := .bool false) (a := { tmps := tm, defers := [] }) ha hK (Jt rfl (Vu Jw e2 (eb.cell rfl))) ⟨?_, ?_⟩
    ·
     rw [R1 ah hall (by omega), R8 hSp hf]
    ·
     exact low1 hg hgp (Nat.le_trans ae.size hD)
end Go.Proofs.YtlhhijnmacogcaaGreatDoor
end
section
namespace Go.Dw
def Cl.zero : Cl := ⟨0, 0, 0, 0, 0⟩
def callOk (c : Cl) : Bool := (((inR c.kind 1 9 && inR c.run 1 8) && inR c.a 0 3) && inR c.b 0 3) && inR c.n 0 99
theorem Yx {c : Cl} (h : callOk c = true) : (1 ≤ c.kind ∧ c.kind ≤ 9) ∧ (1 ≤ c.run ∧ c.run ≤ 8) ∧ (0 ≤ c.a ∧ c.a ≤ 3) ∧ (0 ≤ c.b ∧ c.b ≤ 3) ∧ 0 ≤ c.n ∧ c.n ≤ 99 := by
  unfold callOk at h
  simp only [Bool.and_eq_true] at h
  exact ⟨Qi.1 h.1.1.1.1, Qi.1 h.1.1.1.2, Qi.1 h.1.1.2, Qi.1 h.1.2, Qi.1 h.2⟩
def callPoss (ts : List Th) (c : Cl) : Bool := (tableOk ts && callOk c) && kindAt ts c.run 3
end Go.Dw
end
section
namespace Go.Proofs.YtlhhijnmacogcaaGreatDoor
open Go.RowKit Go.Dw
set_option maxRecDepth 100000
set_option maxHeartbeats 4000000
set_option linter.unusedSimpArgs false
set_option linter.unusedVariables false
theorem Ji : fieldOff Tryz.prog 25 0 = some 0 := by kernel_rfl
theorem Q5 : fieldOff Tryz.prog 25 1 = some 1 := by kernel_rfl
theorem Kr : fieldOff Tryz.prog 25 2 = some 2 := by kernel_rfl
theorem Vo : fieldOff Tryz.prog 25 3 = some 3 := by kernel_rfl
theorem Js : fieldOff Tryz.prog 25 4 = some 4 := by kernel_rfl
theorem F9 : goFn Tryz.prog 39 = true := by kernel_rfl
theorem Z8 : goFn Tryz.prog 40 = true := by kernel_rfl
theorem Y6 : rowTy Tryz.prog 25 = some 5 := by kernel_rfl
theorem Pv (c : Cl) (w : World) : CallsR Tryz.prog 40 #[.agg #[vi c.kind, vi c.run, vi c.a, vi c.b, vi c.n]] w (fun v w' => v = vb (callOk c) ∧ w.grownBy w' none) := by
 refine Xx (n := 26) Tryz.func40 Z Tryz.ntmps40 Z ?_
 have al := World.grownBy.refl w none
 refine Xa (Y7 (v := .agg #[vi c.kind, vi c.run, vi c.a, vi c.b, vi c.n]) (cs := #[vi c.kind, vi c.run, vi c.a, vi c.b, vi c.n]) Z Z Z ?_)
 intro au am ac
 have an := Yd ac al
 refine Xe (v := vb false) Z Z (Xb (Ya (fun f' w' => (f' 2 = vb ((((inR c.kind 1 9 && inR c.run 1 8) && inR c.a 0 3) && inR c.b 0 3) && inR c.n 0 99)) ∧ am.grownBy w' none) ?_ ?_))
 refine Xc (o' := 0) Ji Z Z Z (Xh (v := vi c.kind) X1 Z (ac.blk.cell Z) Z (Xn Vy (Xf Z (Xf Z (Xf Z Xm))) Z (Jv c.kind 1 9 _) ?_))
 rintro _ aw ⟨rfl, V⟩
 refine Xd (v := vb (inR c.kind 1 9)) Z Z ?_
 rcases Yg (inR c.kind 1 9) with E | E
 have ao := Qi.1 E
 refine Xg Z Z Z E (Xc (o' := 1) Q5 Z Z Z (Xg Z Z Z E ?_))
 have af := (ac.blk.grown0 V)
 refine Xh (v := vi c.run) X1 Z (af.cell Z) Z (Xg Z Z Z E (Xn Vy (Xf Z (Xf Z (Xf Z Xm))) Z (Jv c.run 1 8 _) ?_))
 rintro _ az ⟨rfl, ab⟩
 refine Xw (v := vb (inR c.run 1 8)) Z E Z Z (Xd (v := vb (inR c.run 1 8)) Z Z ?_)
 rcases Yg (inR c.run 1 8) with G | G
 have ap := Qi.1 G
 refine Xg Z Z Z G (Xc (o' := 2) Kr Z Z Z (Xg Z Z Z G ?_))
 have ag := (af.grown0 ab)
 refine Xh (v := vi c.a) X1 Z (ag.cell Z) Z (Xg Z Z Z G (Xn Vy (Xf Z (Xf Z (Xf Z Xm))) Z (Jv c.a 0 3 _) ?_))
 rintro _ a8 ⟨rfl, ad⟩
 refine Xw (v := vb (inR c.a 0 3)) Z G Z Z (Xd (v := vb (inR c.a 0 3)) Z Z ?_)
 rcases Yg (inR c.a 0 3) with J | J
 have aq := Qi.1 J
 refine Xg Z Z Z J (Xc (o' := 3) Vo Z Z Z (Xg Z Z Z J ?_))
 have ah := (ag.grown0 ad)
 refine Xh (v := vi c.b) X1 Z (ah.cell Z) Z (Xg Z Z Z J (Xn Vy (Xf Z (Xf Z (Xf Z Xm))) Z (Jv c.b 0 3 _) ?_))
 rintro _ a9 ⟨rfl, ae⟩
 refine Xw (v := vb (inR c.b 0 3)) Z J Z Z (Xd (v := vb (inR c.b 0 3)) Z Z ?_)
 rcases Yg (inR c.b 0 3) with O | O
 have ar := Qi.1 O
 refine Xg Z Z Z O (Xc (o' := 4) Js Z Z Z (Xg Z Z Z O (Xh (v := vi c.n) X1 Z ((ah.grown0 ae).cell Z) Z (Xg Z Z Z O (Xn Vy (Xf Z (Xf Z (Xf Z Xm))) Z (Jv c.n 0 99 _) ?_)))))
 rintro _ ba ⟨rfl, ai⟩
 exact Xw (v := vb (inR c.n 0 99)) Z O Z Z (Xe (v := vb (inR c.n 0 99)) Z Z (Xb ⟨(cB (by simp [E, G, J, O])), (grown_trans (grown_trans (grown_trans (grown_trans V ab) ad) ae) ai)⟩))
 iterate 3 refine Xj rfl rfl rfl O rfl ?_
 exact Xp (v := vb false) Z O Z Z (Xe (v := vb false) Z Z (Xb ⟨(cB (by simp [E, G, J, O])), (grown_trans (grown_trans (grown_trans V ab) ad) ae)⟩))
 iterate 3 refine Xj rfl rfl rfl J rfl ?_
 refine Xp (v := vb false) Z J Z Z (Xd (v := vb false) Z Z ?_)
 iterate 3 refine Xj rfl rfl rfl rfl rfl ?_
 exact Xp (v := vb false) Z Z Z Z (Xe (v := vb false) Z Z (Xb ⟨(cB (by simp [E, G, J])), (grown_trans (grown_trans V ab) ad)⟩))
 iterate 3 refine Xj rfl rfl rfl G rfl ?_
 refine Xp (v := vb false) Z G Z Z (Xd (v := vb false) Z Z ?_)
 iterate 3 refine Xj rfl rfl rfl rfl rfl ?_
 refine Xp (v := vb false) Z Z Z Z (Xd (v := vb false) Z Z ?_)
 iterate 3 refine Xj rfl rfl rfl rfl rfl ?_
 exact Xp (v := vb false) Z Z Z Z (Xe (v := vb false) Z Z (Xb ⟨(cB (by simp [E, G])), (grown_trans V ab)⟩))
 iterate 3 refine Xj rfl rfl rfl E rfl ?_
 refine Xp (v := vb false) Z E Z Z (Xd (v := vb false) Z Z ?_)
 iterate 3 refine Xj rfl rfl rfl rfl rfl ?_
 refine Xp (v := vb false) Z Z Z Z (Xd (v := vb false) Z Z ?_)
 iterate 3 refine Xj rfl rfl rfl rfl rfl ?_
 refine Xp (v := vb false) Z Z Z Z (Xd (v := vb false) Z Z ?_)
 iterate 3 refine Xj rfl rfl rfl rfl rfl ?_
 exact Xp (v := vb false) Z Z Z Z (Xe (v := vb false) Z Z (Xb ⟨(cB (by simp [E])), V⟩))
 rintro av bb ⟨ak, aj⟩
 refine Xt (⟨vb ((((inR c.kind 1 9 && inR c.run 1 8) && inR c.a 0 3) && inR c.b 0 3) && inR c.n 0 99), Yt Z ak, ?_, (low0 (low0 al ac.grw) aj)⟩)
 rfl
theorem Nn (c : Cl) (w : World) : CallsR Tryz.prog 31 #[.agg #[vi c.kind, vi c.run, vi c.a, vi c.b, vi c.n]] w (fun v w' => v = vb (callOk c) ∧ w.grownBy w' none) := by
 refine Xx (n := 26) Tryz.func31 Z Tryz.ntmps31 Z ?_
 have al := World.grownBy.refl w none
 refine Xa (Y7 (v := .agg #[vi c.kind, vi c.run, vi c.a, vi c.b, vi c.n]) (cs := #[vi c.kind, vi c.run, vi c.a, vi c.b, vi c.n]) Z Z Z ?_)
 intro au am ac
 have an := Yd ac al
 refine Xe (v := vb false) Z Z (Xb (Ya (fun f' w' => (f' 2 = vb ((((inR c.kind 1 9 && inR c.run 1 8) && inR c.a 0 3) && inR c.b 0 3) && inR c.n 0 99)) ∧ am.grownBy w' none) ?_ ?_))
 refine Xc (o' := 0) Ji Z Z Z (Xh (v := vi c.kind) X1 Z (ac.blk.cell Z) Z (Xn K0 (Xf Z (Xf Z (Xf Z Xm))) Z (Kk c.kind 1 9 _) ?_))
 rintro _ aw ⟨rfl, V⟩
 refine Xd (v := vb (inR c.kind 1 9)) Z Z ?_
 rcases Yg (inR c.kind 1 9) with E | E
 have ao := Qi.1 E
 refine Xg Z Z Z E (Xc (o' := 1) Q5 Z Z Z (Xg Z Z Z E ?_))
 have af := (ac.blk.grown0 V)
 refine Xh (v := vi c.run) X1 Z (af.cell Z) Z (Xg Z Z Z E (Xn K0 (Xf Z (Xf Z (Xf Z Xm))) Z (Kk c.run 1 8 _) ?_))
 rintro _ az ⟨rfl, ab⟩
 refine Xw (v := vb (inR c.run 1 8)) Z E Z Z (Xd (v := vb (inR c.run 1 8)) Z Z ?_)
 rcases Yg (inR c.run 1 8) with G | G
 have ap := Qi.1 G
 refine Xg Z Z Z G (Xc (o' := 2) Kr Z Z Z (Xg Z Z Z G ?_))
 have ag := (af.grown0 ab)
 refine Xh (v := vi c.a) X1 Z (ag.cell Z) Z (Xg Z Z Z G (Xn K0 (Xf Z (Xf Z (Xf Z Xm))) Z (Kk c.a 0 3 _) ?_))
 rintro _ a8 ⟨rfl, ad⟩
 refine Xw (v := vb (inR c.a 0 3)) Z G Z Z (Xd (v := vb (inR c.a 0 3)) Z Z ?_)
 rcases Yg (inR c.a 0 3) with J | J
 have aq := Qi.1 J
 refine Xg Z Z Z J (Xc (o' := 3) Vo Z Z Z (Xg Z Z Z J ?_))
 have ah := (ag.grown0 ad)
 refine Xh (v := vi c.b) X1 Z (ah.cell Z) Z (Xg Z Z Z J (Xn K0 (Xf Z (Xf Z (Xf Z Xm))) Z (Kk c.b 0 3 _) ?_))
 rintro _ a9 ⟨rfl, ae⟩
 refine Xw (v := vb (inR c.b 0 3)) Z J Z Z (Xd (v := vb (inR c.b 0 3)) Z Z ?_)
 rcases Yg (inR c.b 0 3) with O | O
 have ar := Qi.1 O
 refine Xg Z Z Z O (Xc (o' := 4) Js Z Z Z (Xg Z Z Z O (Xh (v := vi c.n) X1 Z ((ah.grown0 ae).cell Z) Z (Xg Z Z Z O (Xn K0 (Xf Z (Xf Z (Xf Z Xm))) Z (Kk c.n 0 99 _) ?_)))))
 rintro _ ba ⟨rfl, ai⟩
 exact Xw (v := vb (inR c.n 0 99)) Z O Z Z (Xe (v := vb (inR c.n 0 99)) Z Z (Xb ⟨(cB (by simp [E, G, J, O])), (grown_trans (grown_trans (grown_trans (grown_trans V ab) ad) ae) ai)⟩))
 iterate 3 refine Xj rfl rfl rfl O rfl ?_
 exact Xp (v := vb false) Z O Z Z (Xe (v := vb false) Z Z (Xb ⟨(cB (by simp [E, G, J, O])), (grown_trans (grown_trans (grown_trans V ab) ad) ae)⟩))
 iterate 3 refine Xj rfl rfl rfl J rfl ?_
 refine Xp (v := vb false) Z J Z Z (Xd (v := vb false) Z Z ?_)
 iterate 3 refine Xj rfl rfl rfl rfl rfl ?_
 exact Xp (v := vb false) Z Z Z Z (Xe (v := vb false) Z Z (Xb ⟨(cB (by simp [E, G, J])), (grown_trans (grown_trans V ab) ad)⟩))
 iterate 3 refine Xj rfl rfl rfl G rfl ?_
 refine Xp (v := vb false) Z G Z Z (Xd (v := vb false) Z Z ?_)
 iterate 3 refine Xj rfl rfl rfl rfl rfl ?_
 refine Xp (v := vb false) Z Z Z Z (Xd (v := vb false) Z Z ?_)
 iterate 3 refine Xj rfl rfl rfl rfl rfl ?_
 exact Xp (v := vb false) Z Z Z Z (Xe (v := vb false) Z Z (Xb ⟨(cB (by simp [E, G])), (grown_trans V ab)⟩))
 iterate 3 refine Xj rfl rfl rfl E rfl ?_
 refine Xp (v := vb false) Z E Z Z (Xd (v := vb false) Z Z ?_)
 iterate 3 refine Xj rfl rfl rfl rfl rfl ?_
 refine Xp (v := vb false) Z Z Z Z (Xd (v := vb false) Z Z ?_)
 iterate 3 refine Xj rfl rfl rfl rfl rfl ?_
 refine Xp (v := vb false) Z Z Z Z (Xd (v := vb false) Z Z ?_)
 iterate 3 refine Xj rfl rfl rfl rfl rfl ?_
 exact Xp (v := vb false) Z Z Z Z (Xe (v := vb false) Z Z (Xb ⟨(cB (by simp [E])), V⟩))
 rintro av bb ⟨ak, aj⟩
 refine Xt (⟨vb ((((inR c.kind 1 9 && inR c.run 1 8) && inR c.a 0 3) && inR c.b 0 3) && inR c.n 0 99), Yt Z ak, ?_, (low0 (low0 al ac.grw) aj)⟩)
 rfl
theorem Ld (k : Int) (hk : -9223372036854775807 ≤ k) (w : World) (ms : List MTh) (a : Option Addr) (c : Nat) (ht : TabAt w a ms) (hlen : TabLen ms) (hn : ms.length ≤ 1048576) : CallsR Tryz.prog 32 #[.slice a ms.length c, vi k] w (fun v w' => v = vb (kindAt (tabT ms) k 3) ∧ w.grownBy w' none) := by
 refine Xx (n := 18) Tryz.func32 Z Tryz.ntmps32 Z ?_
 have ae := World.grownBy.refl w none
 refine Xa (Xe (v := vb false) Z Z (Xb (Ya (fun f' w' => (f' 4 = vb (inR k 1 (ms.length : Int) && (decide ((mj ms k).t.kind = 3)))) ∧ w.grownBy w' none) ?_ ?_)))
 refine Xd (v := vi k) Z Z (Xd (v := .slice a ms.length c) Z Z (Y1 (by kernel_rfl) Z Z (Xn K0 (Xf Z (Xf Z (Xf Z Xm))) Z (Kk k 1 (ms.length : Int) _) ?_)))
 rintro _ al ⟨rfl, G⟩
 have O := low0 ae G
 refine Xd (v := vb (inR k 1 (ms.length : Int))) Z Z ?_
 rcases Yg (inR k 1 (ms.length : Int)) with E | E
 have ah := Qi.1 E
 refine Xg Z Z Z E (Xd (v := .slice a ms.length c) Z Z (Xg Z Z Z E (Xd (v := vi k) Z Z (Xg Z Z Z E (Yr (c := k - 1) Z Z (by omega) (by omega) (by omega) Z (Xg Z Z Z E ?_))))))
 obtain ⟨ai, ak, af, J, ab, ac⟩ := SlAt.at (TabAt.low ht O).1 (Yp (xg ms (k - 1).toNat))
 have ag := TabLen.at hlen (xg ms (k - 1).toNat)
 exact X3 Qc Z Z J ab (by omega) (by omega) Z (Xg Z Z Z E (Xc (o' := af) Qd Z Z Z (Xg Z Z Z E (Xh (v := vi (mj ms k).t.kind) X1 Z (ac 0 _ Z) Z (Xg Z Z Z E (X6 (q := decide ((mj ms k).t.kind = 3)) Z Z Z Z (Xw (v := vb (decide ((mj ms k).t.kind = 3))) Z E Z Z (Xe (v := vb (decide ((mj ms k).t.kind = 3))) Z Z (Xb ⟨(cB (by simp [E])), G⟩)))))))))
 iterate 7 refine Xj rfl rfl rfl E rfl ?_
 exact Xp (v := vb false) Z E Z Z (Xe (v := vb false) Z Z (Xb ⟨(cB (by simp [E])), G⟩))
 rintro aj am ⟨ad, V⟩
 refine Xt (⟨vb (inR k 1 (ms.length : Int) && (decide ((mj ms k).t.kind = 3))), Yt Z ad, ?_, (low0 ae V)⟩)
 exact cB Gp
theorem H2 (q : Cl) (w : World) (ms : List MTh) (a : Option Addr) (c : Nat) (ht : TabAt w a ms) (hlen : TabLen ms) (hn : ms.length ≤ 1048576) : CallsR Tryz.prog 35 #[.slice a ms.length c, .agg #[vi q.kind, vi q.run, vi q.a, vi q.b, vi q.n]] w (fun v w' => v = vb (callPoss (tabT ms) q) ∧ w.grownBy w' none) := by
 refine Xx (n := 17) Tryz.func35 Z Tryz.ntmps35 Z ?_
 have ag := World.grownBy.refl w none
 refine Xa (Y7 (v := .agg #[vi q.kind, vi q.run, vi q.a, vi q.b, vi q.n]) (cs := #[vi q.kind, vi q.run, vi q.a, vi q.b, vi q.n]) Z Z Z ?_)
 intro ak ah V
 have aj := Yd V ag
 have ab := low0 ag V.grw
 refine Xe (v := vb false) Z Z (Xb (Ya (fun f' w' => (f' 4 = vb ((tableOk (tabT ms) && callOk q) && kindAt (tabT ms) q.run 3)) ∧ ah.grownBy w' none) ?_ ?_))
 refine Xd (v := .slice a ms.length c) Z Z (Xn F9 (Xf Z Xm) Z (G3  _ ms _ _ (TabAt.low ht ab) hlen (by omega)) ?_)
 rintro _ am ⟨rfl, J⟩
 refine Xd (v := vb (tableOk (tabT ms))) Z Z ?_
 rcases Yg (tableOk (tabT ms)) with G | G
 refine Xg Z Z Z G ?_
 have ac := (V.blk.grown0 J)
 refine Xr (vs := [vi q.kind, vi q.run, vi q.a, vi q.b, vi q.n]) Y6 Z Z (ac.rangeL 0 5 Z) Z (Xg Z Z Z G (Xn Z8 (Xf Z Xm) Z (Pv q _) ?_))
 rintro _ an ⟨rfl, O⟩
 refine Xw (v := vb (callOk q)) Z G Z Z (Xd (v := vb (callOk q)) Z Z ?_)
 rcases Yg (callOk q) with E | E
 have ai := Yx E
 refine Xg Z Z Z E (Xd (v := .slice a ms.length c) Z Z (Xg Z Z Z E (Xc (o' := 1) Q5 Z Z Z (Xg Z Z Z E (Xh (v := vi q.run) X1 Z ((ac.grown0 O).cell Z) Z (Xg Z Z Z E (Xn Z9 (Xf Z (Xf Z (Xf Z Xm))) Z (Rl q.run 3 (by omega) _ ms _ _ (TabAt.low ht (low0 (low0 ab J) O)) hlen (by omega)) ?_)))))))
 rintro _ ao ⟨rfl, ad⟩
 exact Xw (v := vb (kindAt (tabT ms) q.run 3)) Z E Z Z (Xe (v := vb (kindAt (tabT ms) q.run 3)) Z Z (Xb ⟨(cB (by simp [G, E])), (grown_trans (grown_trans J O) ad)⟩))
 iterate 4 refine Xj rfl rfl rfl E rfl ?_
 exact Xp (v := vb false) Z E Z Z (Xe (v := vb false) Z Z (Xb ⟨(cB (by simp [G, E])), (grown_trans J O)⟩))
 refine Xj Z Z Z G Z (Xj Z Z Z G Z (Xp (v := vb false) Z G Z Z (Xd (v := vb false) Z Z ?_)))
 iterate 4 refine Xj rfl rfl rfl rfl rfl ?_
 exact Xp (v := vb false) Z Z Z Z (Xe (v := vb false) Z Z (Xb ⟨(cB (by simp [G])), J⟩))
 rintro al ap ⟨af, ae⟩
 refine Xt (⟨vb ((tableOk (tabT ms) && callOk q) && kindAt (tabT ms) q.run 3), Yt Z af, ?_, (low0 ab ae)⟩)
 rfl
end Go.Proofs.YtlhhijnmacogcaaGreatDoor
end
section
namespace Go.Dw
def RB (r : Rt) : Prop := -1 ≤ r.th ∧ r.th ≤ 9 ∧ -1 ≤ r.ve ∧ r.ve ≤ 9
structure RowD (TR TI lo : Nat) (w : World) (m : MTh) : Prop where
  q : OwnN lo w m.qa TI 1 m.qc m.t.queue.length (m.t.queue.flatMap icell)
  s : ∃ xs : List Rt, OwnN lo w m.sa TR 5 m.sc m.t.slots.length (xs.flatMap Rt.cells) ∧ xs.length = m.t.slots.length ∧ ∀ x ∈ xs, RB x
  ql : m.t.queue.length ≤ 3
  sl : m.t.slots.length ≤ 4
  ve : 0 ≤ m.t.ve ∧ m.t.ve ≤ 1
def RowsD (TR TI lo : Nat) (w : World) (ms : List MTh) : Prop := ∀ m ∈ ms, RowD TR TI lo w m
theorem K9 {w : World} {B C : Nat} {T U : TypeId} {sz sz' cap cap' n n' : Nat} {vs us : List Value} (h : Own w B T sz cap n vs) (k : Own w C U sz' cap' n' us) (hT : T ≠ U) : B ≠ C := fun e => by
  subst e
  obtain ⟨_, c1, h1, _⟩ := h.blk
  obtain ⟨_, c2, h2, _⟩ := k.blk
  have : some (Obj.cells c1 T (0, 0)) = some (Obj.cells c2 U (0, 0)) := h1.symm.trans h2
  simp only [Option.some.injEq, Obj.cells.injEq] at this
  exact hT this.2.1
theorem OwnN.typ {lo : Nat} {w w' : World} {a : Option Addr} {T U : TypeId} {sz sz' cap cap' n n' B : Nat} {vs us : List Value} (h : OwnN lo w a T sz cap n vs) (hg : w.grownBy w' (some B)) (k : Own w B U sz' cap' n' us) (hT : T ≠ U) : OwnN lo w' a T sz cap n vs := by
  rcases h.form with ⟨rfl, rfl, rfl, rfl⟩ | ⟨C, rfl, h2, _, h3⟩
  · exact OwnN.nil
  · exact OwnN.of (h3.grown hg (Jj (K9 h3 k hT))) h2
section
variable {TR TI lo : Nat} {w w' : World} {m : MTh} {ms : List MTh}
theorem RowD.low (h : RowD TR TI lo w m) (hg : w.grownBy w' none) : RowD TR TI lo w' m :=
  ⟨h.q.grown0 hg, let ⟨xs, h1, h2⟩ := h.s; ⟨xs, h1.grown0 hg, h2⟩, h.ql, h.sl, h.ve⟩
theorem RowD.lt {R : Nat} (h : RowD TR TI lo w m) (hg : w.grownBy w' (some R)) (hR : R < lo) : RowD TR TI lo w' m :=
  ⟨h.q.grown_lt hg hR, let ⟨xs, h1, h2⟩ := h.s; ⟨xs, h1.grown_lt hg hR, h2⟩, h.ql, h.sl, h.ve⟩
theorem RowD.typ {B U sz cap n : Nat} {us : List Value} (h : RowD TR TI lo w m) (hg : w.grownBy w' (some B)) (k : Own w B U sz cap n us) (h1 : TR ≠ U) (h2 : TI ≠ U) : RowD TR TI lo w' m :=
  ⟨h.q.typ hg k h2, let ⟨xs, h3, h4⟩ := h.s; ⟨xs, h3.typ hg k h1, h4⟩, h.ql, h.sl, h.ve⟩
theorem RowD.mono {lo' : Nat} (h : RowD TR TI lo w m) (hl : lo' ≤ lo) : RowD TR TI lo' w m :=
  ⟨h.q.mono hl, let ⟨xs, h1, h2⟩ := h.s; ⟨xs, h1.mono hl, h2⟩, h.ql, h.sl, h.ve⟩
theorem RowsD.low (h : RowsD TR TI lo w ms) (hg : w.grownBy w' none) : RowsD TR TI lo w' ms := fun m hm => (h m hm).low hg
theorem RowsD.lt {R : Nat} (h : RowsD TR TI lo w ms) (hg : w.grownBy w' (some R)) (hR : R < lo) : RowsD TR TI lo w' ms := fun m hm => (h m hm).lt hg hR
theorem RowsD.typ {B U sz cap n : Nat} {us : List Value} (h : RowsD TR TI lo w ms) (hg : w.grownBy w' (some B)) (k : Own w B U sz cap n us) (h1 : TR ≠ U) (h2 : TI ≠ U) : RowsD TR TI lo w' ms := fun m hm => (h m hm).typ hg k h1 h2
theorem RowsD.ge {b hi : Nat} (h : RowsD TR TI lo w ms) (hg : w.grownBy w' (some b)) (hH : ∀ m ∈ ms, ∀ c, (m.sa = some ⟨c, 0, none⟩ ∨ m.qa = some ⟨c, 0, none⟩) → c < hi) (hb : hi ≤ b) : RowsD TR TI lo w' ms := fun m hm =>
  ⟨(h m hm).q.grown hg (fun B e => Jj (by have := hH m hm B (Or.inr e); omega)), let ⟨xs, h1, h2⟩ := (h m hm).s; ⟨xs, h1.grown hg (fun B e => Jj (by have := hH m hm B (Or.inl e); omega)), h2⟩, (h m hm).ql, (h m hm).sl, (h m hm).ve⟩
theorem RowsD.hi (h : RowsD TR TI lo w ms) : ∀ m ∈ ms, ∀ c, (m.sa = some ⟨c, 0, none⟩ ∨ m.qa = some ⟨c, 0, none⟩) → c < w.heap.size := fun m hm c hc => by
  rcases hc with e | e
  · obtain ⟨xs, h1, _⟩ := (h m hm).s
    rcases h1.form with ⟨e2, _⟩ | ⟨B, e2, _, h3, _⟩
    · rw [e2] at e; cases e
    · rw [e2] at e
      simp only [Option.some.injEq, Addr.mk.injEq, and_true] at e
      omega
  · rcases (h m hm).q.form with ⟨e2, _⟩ | ⟨B, e2, _, h3, _⟩
    · rw [e2] at e; cases e
    · rw [e2] at e
      simp only [Option.some.injEq, Addr.mk.injEq, and_true] at e
      omega
theorem RowsD.snoc (h : RowsD TR TI lo w ms) (hm : RowD TR TI lo w m) : RowsD TR TI lo w (ms ++ [m]) := fun x hx => by
  rcases List.mem_append.1 hx with h1 | h1
  · exact h x h1
  · simp at h1; subst h1; exact hm
theorem RowsD.nil : RowsD TR TI lo w [] := fun x hx => by simp at hx
theorem RowsD.at (h : RowsD TR TI lo w ms) {i : Nat} (hi : i < ms.length) : RowD TR TI lo w (mAt ms i) := h _ (List.mem_of_getElem? (Q0 hi))
theorem RowsD.setk (h : RowsD TR TI lo w ms) {i : Nat} (hi : i < ms.length) {m' : MTh} (hq : m'.qa = (mAt ms i).qa ∧ m'.qc = (mAt ms i).qc ∧ m'.t.queue = (mAt ms i).t.queue) (hs : m'.sa = (mAt ms i).sa ∧ m'.sc = (mAt ms i).sc ∧ m'.t.slots = (mAt ms i).t.slots) (hv : m'.t.ve = (mAt ms i).t.ve) : RowsD TR TI lo w (ms.set i m') := fun x hx => by
  rcases List.mem_or_eq_of_mem_set hx with h1 | rfl
  · exact h x h1
  · have h0 := h.at hi
    obtain ⟨h1, h2, h3⟩ := hq
    obtain ⟨h4, h5, h6⟩ := hs
    refine ⟨?_, ?_, ?_, ?_, ?_⟩
    · rw [h1, h2, h3]; exact h0.q
    · rw [h4, h5, h6]; exact h0.s
    · rw [h3]; exact h0.ql
    · rw [h6]; exact h0.sl
    · rw [hv]; exact h0.ve
theorem RowD.slot (h : RowD TR TI lo w m) (hs : 0 < m.t.slots.length) : ∃ (S : Nat) (xs : List Rt), m.sa = some ⟨S, 0, none⟩ ∧ lo ≤ S ∧ Own w S TR 5 m.sc xs.length (xs.flatMap Rt.cells) ∧ xs.length = m.t.slots.length := by
  obtain ⟨xs, h1, h2, h3⟩ := h.s
  obtain ⟨S, ha, hl, ho⟩ := h1.some_ hs
  exact ⟨S, xs, ha, hl, by rw [h2]; exact ho, h2⟩
def PutR (T : TypeId) (S k : Nat) (x : Rt) (w w' : World) : Prop := ∀ cap n (ys : List Rt), Own w S T 5 cap n (ys.flatMap Rt.cells) → Own w' S T 5 cap n ((ys.set k x).flatMap Rt.cells)
theorem RowD.put {S k : Nat} {x : Rt} (h : RowD TR TI lo w m) (hp : PutR TR S k x w w') (hg : w.grownBy w' (some S)) (hx : RB x) {cap n : Nat} {us : List Value} (ho : Own w S TR 5 cap n us) (hT : TI ≠ TR) : RowD TR TI lo w' m := by
  refine ⟨h.q.typ hg ho hT, ?_, h.ql, h.sl, h.ve⟩
  obtain ⟨xs, h1, h2, h3⟩ := h.s
  rcases h1.form with ⟨e1, e2, e3, e4⟩ | ⟨C, e1, e2, e3, e4⟩
  · refine ⟨xs, ?_, h2, h3⟩
    rw [e1, e2, e3, e4]
    exact OwnN.nil
  · by_cases hC : C = S
    · subst hC
      refine ⟨xs.set k x, ?_, by rw [List.length_set, h2], fun y hy => ?_⟩
      · rw [e1]; exact OwnN.of (hp _ _ _ e4) e2
      · rcases List.mem_or_eq_of_mem_set hy with h4 | rfl
        · exact h3 y h4
        · exact hx
    · refine ⟨xs, ?_, h2, h3⟩
      rw [e1]
      exact OwnN.of (e4.grown hg (Jj hC)) e2
theorem RowsD.put {S k : Nat} {x : Rt} (h : RowsD TR TI lo w ms) (hp : PutR TR S k x w w') (hg : w.grownBy w' (some S)) (hx : RB x) {cap n : Nat} {us : List Value} (ho : Own w S TR 5 cap n us) (hT : TI ≠ TR) : RowsD TR TI lo w' ms :=
  fun m hm => (h m hm).put hp hg hx ho hT
end
theorem Zj {cur : List Value} {o m : Nat} {us : List Value} (ho : m ≤ o) (hc : o + us.length ≤ cur.length) : (cur.take o ++ us ++ cur.drop (o + us.length)).take m = cur.take m := by
  rw [List.append_assoc, List.take_append, List.take_take, Nat.min_eq_left ho, List.length_take, Nat.min_eq_left (by omega), show m - o = 0 by omega, List.take_zero, List.append_nil]
section
variable {P : Program} {n : Nat} {ops : Array Oper} {K : Fr → World → Prop} {l : List Oper} {f : Fr} {w : World} {ty : TypeId} {pos : String} {aft : Array Edge} {d : Nat}
theorem Ls {t b o cap k : Nat} {T : TypeId} {x y : Operand} {ys : List Rt} {z' : Rt} (ht : rowTy P t = some 5) (hx : ev f x = .pointer (some ⟨b, o, none⟩)) (hy : ev f y = .agg z'.cells.toArray)
    (ho : Own w b T 5 cap ys.length (ys.flatMap Rt.cells)) (hk : k < ys.length) (e : o = k * 5)
    (h : ∀ w', PutR T b k z' w w' → w.grownBy w' (some b) → WpO P n ops K l f w') : WpO P n ops K (⟨none, .store t x y, ty, pos, aft, none⟩ :: l) f w := by
  obtain ⟨hl, cur, hb, h2, h3, h4, h5⟩ := ho.blk
  have hlt : k * 5 + 5 ≤ ys.length * 5 := by omega
  have hin : k * 5 + 5 ≤ cur.size := by rw [h4]; omega
  have hsz : cur.toList.length = cap * 5 := by rw [Array.length_toList]; exact h4
  have hz : (Rt.cells z').length = 5 := rfl
  subst e
  refine Wv (w' := w.setRow b (cur.toList.take (k * 5) ++ Rt.cells z' ++ cur.toList.drop (k * 5 + 5)).toArray) rfl rfl (by simp only [execOp, hx, hy, Sem.run_bind, Gd ht (Qx z') (Vf z') hb hin, Result.andThen_ok]; rfl) (h _ ?_ (setB_setRow hb _).grw)
  intro cap' n' ys' ho'
  obtain ⟨hl', cur', hb', h2', h3', h4', h5'⟩ := ho'.blk
  have ec : cur' = cur := by
    have : some (Obj.cells cur' T (0, 0)) = some (Obj.cells cur T (0, 0)) := hb'.symm.trans hb
    simpa using this
  subst ec
  have hn' : ys'.length = n' := by
    rw [J1 Qx] at hl'
    omega
  refine Own.ofBlk ?_ (setB_setRow hb _).blk h2' h3' ?_ ?_
  · rw [J1 Qx, List.length_set, hn']
  · rw [List.size_toArray, List.length_append, List.length_append, List.length_take, List.length_drop, hz, hsz, Nat.min_eq_left (by omega)]
    omega
  · have ecap : cap' * 5 = cap * 5 := h4'.symm.trans h4
    by_cases hkn : k < n'
    · have hset := congrArg Array.toList (Nl Qx (ys := ys') (k := k) (by omega) z')
      have hq := R2 (cur := cur'.toList) (us := Rt.cells z') (o := k * 5) h5' (by omega) (by rw [hz]; omega)
      rw [hz] at hq
      rw [hq]
      simpa using hset
    · have hq := Zj (cur := cur'.toList) (us := Rt.cells z') (o := k * 5) (m := n' * 5) (by omega) (by rw [hz]; omega)
      rw [hz] at hq
      rw [List.toList_toArray, hq, h5', List.set_eq_of_length_le (by omega)]
end
def SlG (lo : Nat) (w : World) (a : Option Addr) (sz : Nat) (xs : List (List Value)) : Prop := ∀ k x, xs[k]? = some x → ∃ b o, a = some ⟨b, o, none⟩ ∧ lo ≤ b ∧ w.rangeAt b (o + k * sz) x
section
variable {lo : Nat} {w w' : World} {a : Option Addr} {sz : Nat} {xs : List (List Value)}
theorem SlG.sl (h : SlG lo w a sz xs) : SlAt w a sz xs := fun k x hk => by
  obtain ⟨b, o, ha, _, hr⟩ := h k x hk
  exact ⟨b, o, ha, hr⟩
theorem SlG.low (h : SlG lo w a sz xs) (hg : w.grownBy w' none) : SlG lo w' a sz xs := fun k x hk => by
  obtain ⟨b, o, ha, hb, hr⟩ := h k x hk
  exact ⟨b, o, ha, hb, J0 hr hg (by simp)⟩
theorem SlG.lt {R : Nat} (h : SlG lo w a sz xs) (hg : w.grownBy w' (some R)) (hR : R < lo) : SlG lo w' a sz xs := fun k x hk => by
  obtain ⟨b, o, ha, hb, hr⟩ := h k x hk
  exact ⟨b, o, ha, hb, J0 hr hg (Jj (by omega))⟩
theorem SlG.mono {lo' : Nat} (h : SlG lo w a sz xs) (hl : lo' ≤ lo) : SlG lo' w a sz xs := fun k x hk => by
  obtain ⟨b, o, ha, hb, hr⟩ := h k x hk
  exact ⟨b, o, ha, Nat.le_trans hl hb, hr⟩
theorem SlG.own {α : Type} {g : α → List Value} (hg : Wide g sz) {ys : List α} {B cap n : Nat} {T : TypeId} (h : Own w B T sz cap n (ys.flatMap g)) (hB : lo ≤ B) : SlG lo w (some ⟨B, 0, none⟩) sz (ys.map g) := fun k x hk => by
  obtain ⟨b, o, ha, hr⟩ := Own.sl hg h k x hk
  simp only [Option.some.injEq, Addr.mk.injEq] at ha
  obtain ⟨rfl, rfl, _⟩ := ha
  exact ⟨_, _, rfl, hB, hr⟩
theorem SlG.ownN {α : Type} {g : α → List Value} (hg : Wide g sz) (h0 : 0 < sz) {ys : List α} {cap n : Nat} {T : TypeId} (h : OwnN lo w a T sz cap n (ys.flatMap g)) : SlG lo w a sz (ys.map g) := fun k x hk => by
  obtain ⟨b, o, ha, hr⟩ := OwnN.sl hg h0 h k x hk
  refine ⟨b, o, ha, ?_, hr⟩
  rcases h.form with ⟨h2, _⟩ | ⟨B, h2, h3, _⟩
  · rw [h2] at ha; cases ha
  · rw [h2] at ha
    simp only [Option.some.injEq, Addr.mk.injEq] at ha
    omega
end
def ThG (lo : Nat) (w : World) (m : MTh) : Prop := SlG lo w m.sa 5 (m.t.slots.map Rt.cells) ∧ SlG lo w m.qa 1 (m.t.queue.map icell) ∧ (m.sa = none → m.sc = 0) ∧ (m.qa = none → m.qc = 0)
def TabG (lo : Nat) (w : World) (a : Option Addr) (ms : List MTh) : Prop := SlG lo w a 8 (ms.map MTh.cells) ∧ ∀ m ∈ ms, ThG lo w m
section
variable {lo : Nat} {w w' : World} {a : Option Addr} {m : MTh} {ms : List MTh}
theorem TabG.at (h : TabG lo w a ms) : TabAt w a ms := ⟨h.1.sl, fun m hm => ⟨(h.2 m hm).1.sl, (h.2 m hm).2.1.sl, (h.2 m hm).2.2⟩⟩
theorem TabG.low (h : TabG lo w a ms) (hg : w.grownBy w' none) : TabG lo w' a ms := ⟨h.1.low hg, fun m hm => ⟨(h.2 m hm).1.low hg, (h.2 m hm).2.1.low hg, (h.2 m hm).2.2⟩⟩
theorem TabG.lt {R : Nat} (h : TabG lo w a ms) (hg : w.grownBy w' (some R)) (hR : R < lo) : TabG lo w' a ms := ⟨h.1.lt hg hR, fun m hm => ⟨(h.2 m hm).1.lt hg hR, (h.2 m hm).2.1.lt hg hR, (h.2 m hm).2.2⟩⟩
theorem TabG.mono {lo' : Nat} (h : TabG lo w a ms) (hl : lo' ≤ lo) : TabG lo' w a ms := ⟨h.1.mono hl, fun m hm => ⟨(h.2 m hm).1.mono hl, (h.2 m hm).2.1.mono hl, (h.2 m hm).2.2⟩⟩
end
def TabHi (hi : Nat) (a : Option Addr) (ms : List MTh) : Prop := (∀ b o, a = some ⟨b, o, none⟩ → 0 < ms.length → b < hi) ∧ ∀ m ∈ ms, (∀ b o, m.sa = some ⟨b, o, none⟩ → 0 < m.t.slots.length → b < hi) ∧ ∀ b o, m.qa = some ⟨b, o, none⟩ → 0 < m.t.queue.length → b < hi
theorem I3 {α : Type} {g : α → List Value} {sz lo : Nat} (hg : Wide g sz) (h0 : 0 < sz) {w : World} {a : Option Addr} {ys : List α} (h : SlG lo w a sz (ys.map g)) : ∀ b o, a = some ⟨b, o, none⟩ → 0 < ys.length → b < w.heap.size := fun b o ha hn => by
  obtain ⟨y, hy⟩ := Ja hn
  obtain ⟨b', o', ha', _, hr⟩ := h 0 (g y) (Yp hy)
  rw [ha] at ha'
  simp only [Option.some.injEq, Addr.mk.injEq] at ha'
  obtain ⟨rfl, rfl, _⟩ := ha'
  obtain ⟨v, hv⟩ : ∃ v, (g y)[0]? = some v := ⟨_, List.getElem?_eq_getElem (by rw [hg y]; exact h0)⟩
  exact World.block_lt_of_cell? w _ (hr 0 v hv)
theorem TabG.hi {lo : Nat} {w : World} {a : Option Addr} {ms : List MTh} (h : TabG lo w a ms) : TabHi w.heap.size a ms :=
  ⟨I3 Yj (by omega) h.1, fun m hm => ⟨I3 Qx (by omega) (h.2 m hm).1, I3 Yq (by omega) (h.2 m hm).2.1⟩⟩
theorem SlG.ge {α : Type} {g : α → List Value} {sz lo hi b : Nat} {w w' : World} {a : Option Addr} {ys : List α} (h : SlG lo w a sz (ys.map g)) (hg : w.grownBy w' (some b)) (hH : ∀ c o, a = some ⟨c, o, none⟩ → 0 < ys.length → c < hi) (hb : hi ≤ b) : SlG lo w' a sz (ys.map g) := fun k x hk => by
  obtain ⟨c, o, ha, hc, hr⟩ := h k x hk
  have hn : 0 < ys.length := by
    have := (List.getElem?_eq_some_iff.1 hk).1
    rw [List.length_map] at this
    omega
  have := hH c o ha hn
  exact ⟨c, o, ha, hc, J0 hr hg (Jj (by omega))⟩
theorem TabG.ge {lo hi b : Nat} {w w' : World} {a : Option Addr} {ms : List MTh} (h : TabG lo w a ms) (hg : w.grownBy w' (some b)) (hH : TabHi hi a ms) (hb : hi ≤ b) : TabG lo w' a ms :=
  ⟨h.1.ge hg hH.1 hb, fun m hm => ⟨(h.2 m hm).1.ge hg (hH.2 m hm).1 hb, (h.2 m hm).2.1.ge hg (hH.2 m hm).2 hb, (h.2 m hm).2.2⟩⟩
def Small (ms : List MTh) : Prop := ∀ m ∈ ms, m.t.slots.length ≤ 4 ∧ m.t.queue.length ≤ 3
theorem Small.len {ms : List MTh} (h : Small ms) : TabLen ms := fun m hm => ⟨by have := h m hm; omega, by have := h m hm; omega⟩
theorem RowsD.tab {TR TI lo : Nat} {w : World} : ∀ (ms : List MTh), RowsD TR TI lo w ms → ∃ ms' : List MTh, ms'.map MTh.cells = ms.map MTh.cells ∧ (∀ m ∈ ms', ThG lo w m) ∧ Small ms'
  | [], _ => ⟨[], rfl, fun m hm => by simp at hm, fun m hm => by simp at hm⟩
  | m :: ms, h => by
    obtain ⟨ms', h1, h2, h5⟩ := RowsD.tab ms fun x hx => h x (List.mem_cons_of_mem _ hx)
    have hm := h m (List.mem_cons_self ..)
    obtain ⟨xs, h3, h4, _⟩ := hm.s
    refine ⟨⟨{ m.t with slots := xs }, m.sa, m.sc, m.qa, m.qc⟩ :: ms', ?_, ?_, ?_⟩
    · rw [List.map_cons, List.map_cons, h1]
      simp only [MTh.cells, h4]
    · intro x hx
      rcases List.mem_cons.1 hx with rfl | hx
      · exact ⟨SlG.ownN Qx (by omega) h3, SlG.ownN Yq (by omega) hm.q, fun e => h3.cap0 e, fun e => hm.q.cap0 e⟩
      · exact h2 x hx
    · intro x hx
      rcases List.mem_cons.1 hx with rfl | hx
      · refine ⟨?_, hm.ql⟩
        show xs.length ≤ 4
        rw [h4]; exact hm.sl
      · exact h5 x hx
theorem R0 {ms ms' : List MTh} (h : ms'.map MTh.cells = ms.map MTh.cells) : ms'.flatMap MTh.cells = ms.flatMap MTh.cells := by
  rw [List.flatMap_def, List.flatMap_def, h]
end Go.Dw
end
section
namespace Go.Dw
theorem rbo {r : Rt} (a b : Int) (e1 : r.th = a) (e2 : r.ve = b) (h1 : (-1 : Int) ≤ a := by omega) (h2 : a ≤ (9 : Int) := by omega) (h3 : (-1 : Int) ≤ b := by omega) (h4 : b ≤ (9 : Int) := by omega) : RB r := by subst e1; subst e2; exact ⟨h1, h2, h3, h4⟩
end Go.Dw
end
section
namespace Go.Proofs.YtlhhijnmacogcaaGreatDoor
open Go.RowKit Go.Dw
set_option maxRecDepth 100000
set_option maxHeartbeats 4000000
set_option linter.unusedSimpArgs false
set_option linter.unusedVariables false
theorem Xbm : goFn Tryz.prog 104 = true := by kernel_rfl
theorem F7 : goFn Tryz.prog 30 = true := by kernel_rfl
theorem Xad : goFn Tryz.prog 50 = true := by kernel_rfl
theorem Xc0 : goFn Tryz.prog 79 = true := by kernel_rfl
theorem Xc1 : goFn Tryz.prog 80 = true := by kernel_rfl
theorem W6 : goFn Tryz.prog 86 = true := by kernel_rfl
theorem Tg : mkTy Tryz.prog 23 = some (39, 8, 96, some (.agg #[.int .i64 0, .int .i64 0, .int .i64 0, .int .i64 0, .int .i64 0, .slice none 0 0, .slice none 0 0, .int .i64 0])) := by kernel_rfl
theorem Vs : mkTy Tryz.prog 37 = some (3, 1, 8, some (.int .i64 0)) := by kernel_rfl
theorem Sr (k to : Int) (p : Int) (hp : 0 ≤ p ∧ p ≤ 1000000000000) (lo R : Nat) (bs : List Int) (a : Option Addr) (c : Nat) (w : World) (hR : Blk w R 76 #[.slice a bs.length c, vi p]) (hlo : lo ≤ R) (hs : SlLt lo w a 1 (bs.map bcell)) (hb : ∀ b ∈ bs, 0 ≤ b ∧ b ≤ 255) (hn : bs.length ≤ 1048576) : CallsR Tryz.prog 79 #[pt R 0, vi k, vi to] w (fun v w' => ∃ (m : MTh) (p' : Int), v = .agg #[vi m.t.kind, vi m.t.lab.s, vi m.t.lab.v, vi m.t.ve, vi m.t.num, .slice m.sa m.t.slots.length m.sc, .slice m.qa m.t.queue.length m.qc, vi m.t.to] ∧ RowD 33 3 w.heap.size w' m ∧ p ≤ p' ∧ p' ≤ p + 12 ∧ Blk w' R 76 #[.slice a bs.length c, vi p'] ∧ w.grownBy w' (some R)) := by
 refine Xx (n := 59) Tryz.func79 Z Tryz.ntmps79 Z ?_
 have rm := World.grownBy.refl w (some R)
 have hRlt := hR.lt
 refine Xa (Yf (cs := #[vi 0, vi 0, vi 0, vi 0, vi 0, .slice none 0 0, .slice none 0 0, vi 0]) Ka Z Z ?_)
 intro bd u5 bp
 have r9 := Yd bp rm
 have oz := Xo bp (hR).lt
 have ip := low0 rm bp.grw
 refine Xb (Xa (Xd (v := vi k) Z Z (Xd (v := pt R 0) Z Z (Xn Xbm (Xf Z Xm) Z (So p (by omega) _ R bs _ _ _ (hR.grown0 bp.grw) (by omega) (SlLt.low1 hs ip hlo) (by first | exact hb | exact fun b h => hb b (List.mem_of_mem_take h)) (by first | omega | (rw [List.length_take]; omega))) ?_))))
 rintro _ u6 ⟨E, ah, rfl, tt, tu, tv, tw, tq, tr, ca, eo⟩
 have bq := grown_trans ip eo
 refine Xd (v := vi to) Z Z ?_
 rcases Yg ((decide (k = 2)) || (decide (k = 3))) with bn | bn
 rcases Yg (newOk k E to) with gp | gp
 have jb := (bp.blk.gn eo)
 have t7 : thingOk (⟨k, E, 0, 0, zeros4, [], to⟩ : Th) = true := (Ud bn).symm.trans gp
 refine Xn W6 (Xf Z (Xf Z (Xf Z Xm))) Z (Gw k to E bn gp _) ?_
 rintro _ u7 ⟨ab, G, ai, O, rfl, gh, dg, gi, dh, k5, g0⟩
 have iq := low0 bq g0
 have d4 := nt bq.size gh
 have o0 := nl (ca).lt gh
 have js := nl (jb).lt gh
 have d5 := nt bq.size gi
 have o1 := nl (ca).lt gi
 have jt := nl (jb).lt gi
 refine Xd (v := .tuple #[.agg #[vi k, vi E.s, vi E.v, vi 0, vi 0, .slice (pa ab) 4 G, .slice (pa ai) 0 O, vi to], vb true]) Z Z (Ye (v := .agg #[vi k, vi E.s, vi E.v, vi 0, vi 0, .slice (pa ab) 4 G, .slice (pa ai) 0 O, vi to]) Z Z Z (Ye (v := vb true) Z Z Z (Yf (cs := #[vi 0, vi 0, vi 0, vi 0, vi 0, .slice none 0 0, .slice none 0 0, vi 0]) Ka Z Z ?_)))
 intro d6 u9 ac
 have sb := Yd ac iq
 have fx := (ca.grown0 g0)
 have o3 := Xo ac (fx).lt
 have fy := (jb.grown0 g0)
 have ju := Xo ac (fy).lt
 have kg := Xo ac (dh).lt
 have kb := Xo ac (dg).lt
 refine Xy (vs := [vi k, vi E.s, vi E.v, vi 0, vi 0, .slice (pa ab) 4 G, .slice (pa ai) 0 O, vi to]) (cs' := #[vi k, vi E.s, vi E.v, vi 0, vi 0, .slice (pa ab) 4 G, .slice (pa ai) 0 O, vi to]) Ys Z Z Z (by simp [Value.oneCell']) ac.blk (Nat.le_of_ble_eq_true Z) Z ?_
 intro va V
 have bb := low1 (low0 iq ac.grw) V.grw (by omega)
 refine Xe (v := vb true) Z Z (Xb (Xq (Xa (Xc (o' := 0) Qd Z Z Z (Xh (v := vi k) X1 Z (V.blk.cell Z) Z (X6 (q := decide (k = 0)) Z Z Z Z (Xb (X0 Z (fun ic => ?_) (fun ic => ?_)))))))))
 have t8 := of_decide_eq_true ic
 refine X2 (Yv (ps := []) (v := .agg #[vi 0, vi 0]) X5 (by kernel_rfl) Z ?_)
 have jc := ((fx.grown0 ac.grw).gn V.grw)
 have jd := ((fy.grown0 ac.grw).gn V.grw)
 have mg := ((dh.grown0 ac.grw).gn V.grw)
 have mh := ((dg.grown0 ac.grw).gn V.grw)
 have t9 : thingOk (⟨1, ⟨0, 0⟩, 0, 0, [], [], 0⟩ : Th) = true := (K4 (by decide)).symm.trans (by decide)
 refine Xn W6 (Xf Z (Xf Z (Xf Z Xm))) Z (Kw 1 0 ⟨0, 0⟩ (by decide) (by decide) _) ?_
 rintro _ vc ⟨be, al, bf, am, rfl, cc, na, cd, nb, k8, gb⟩
 have li := nt bb.size cc
 have o4 := nl (jc).lt cc
 have jv := nl (jd).lt cc
 have kh := nl (mg).lt cc
 have kc := nl (mh).lt cc
 have kj := nl (V.blk).lt cc
 have lj := nt bb.size cd
 have o5 := nl (jc).lt cd
 have jw := nl (jd).lt cd
 have ki := nl (mg).lt cd
 have ke := nl (mh).lt cd
 have kk := nl (V.blk).lt cd
 refine Xd (v := .tuple #[.agg #[vi 1, vi 0, vi 0, vi 0, vi 0, .slice (pa be) 0 al, .slice (pa bf) 0 am, vi 0], vb true]) Z Z (Ye (v := .agg #[vi 1, vi 0, vi 0, vi 0, vi 0, .slice (pa be) 0 al, .slice (pa bf) 0 am, vi 0]) Z Z Z (Ye (v := vb true) Z Z Z (Xy (vs := [vi 1, vi 0, vi 0, vi 0, vi 0, .slice (pa be) 0 al, .slice (pa bf) 0 am, vi 0]) (cs' := #[vi 1, vi 0, vi 0, vi 0, vi 0, .slice (pa be) 0 al, .slice (pa bf) 0 am, vi 0]) Ys Z Z Z (by simp [Value.oneCell']) (V.blk.grown0 gb) (Nat.le_of_ble_eq_true Z) Z ?_)))
 intro vd ck
 have ir := low1 (low0 bb gb) ck.grw (by omega)
 refine Xb (Xu (Xq (Xa (Xc (o' := 0) Qd Z Z Z (Xh (v := vi 1) X1 Z (ck.blk.cell Z) Z (Xb (X9 (Xa (X6 (q := true) Z Z (by decide) Z (Xe (v := vb true) Z Z (Xb (Qa Z Z ?_))))))))))))
 refine Xa (Xd (v := pt R 0) Z Z (Xn Qo (Xf Z (Xf Z Xm)) Z (Qb ah 20 (by omega) _ R bs _ _ _ ((jc.grown0 gb).gn ck.grw) (by omega) (SlLt.low1 hs ir hlo) (by first | exact hb | exact fun b h => hb b (List.mem_of_mem_take h)) (by first | omega | (rw [List.length_take]; omega))) ?_))
 rintro _ vf ⟨c8, rfl, si, sk, oa, ep⟩
 refine Xc (o' := 4) Qw Z Z Z (Yc (v := vi c8) (cs' := #[vi 1, vi 0, vi 0, vi 0, vi c8, .slice (pa be) 0 al, .slice (pa bf) 0 am, vi 0]) X1 Z Z Z (ck.blk.gn ep) (Nat.le_of_ble_eq_true Z) Z ?_)
 intro vg di
 have it := low1 (grown_trans ir ep) di.grw (by omega)
 refine Xb (X2 (Xd (v := pt R 0) Z Z (Xn Qo (Xf Z (Xf Z Xm)) Z (Qb (ah + 1) 3 (by omega) _ R bs _ _ _ (oa.gn di.grw) (by omega) (SlLt.low1 hs it hlo) (by first | exact hb | exact fun b h => hb b (List.mem_of_mem_take h)) (by first | omega | (rw [List.length_take]; omega))) ?_)))
 rintro _ vh ⟨bt, rfl, sm, sn, ob, eu⟩
 refine K5 (c := bt / 2) Z Z (by omega) (by omega) (by omega) Z Z (Xc (o' := 3) Qz Z Z Z (Yc (v := vi (bt / 2)) (cs' := #[vi 1, vi 0, vi 0, vi (bt / 2), vi c8, .slice (pa be) 0 al, .slice (pa bf) 0 am, vi 0]) X1 Z Z Z (di.blk.gn eu) (Nat.le_of_ble_eq_true Z) Z ?_))
 intro vj dk
 refine Xb (Y3 (Xu (Xa (Xr (vs := [vi 1, vi 0, vi 0, vi (bt / 2), vi c8, .slice (pa be) 0 al, .slice (pa bf) 0 am, vi 0]) Ys Z Z (dk.blk.rangeL 0 8 Z) Z (Xy (vs := [vi 1, vi 0, vi 0, vi (bt / 2), vi c8, .slice (pa be) 0 al, .slice (pa bf) 0 am, vi 0]) (cs' := #[vi 1, vi 0, vi 0, vi (bt / 2), vi c8, .slice (pa be) 0 al, .slice (pa bf) 0 am, vi 0]) Ys Z Z Z (by simp [Value.oneCell']) ((((((jd.grown0 gb).gn ck.grw).gn ep).gn di.grw).gn eu).gn dk.grw) (Nat.le_of_ble_eq_true Z) Z ?_)))))
 intro vk ea
 refine Xb (Xt (⟨.agg #[vi 1, vi 0, vi 0, vi (bt / 2), vi c8, .slice (pa be) 0 al, .slice (pa bf) 0 am, vi 0], Jt Z (Yh (vs := [vi 1, vi 0, vi 0, vi (bt / 2), vi c8, .slice (pa be) 0 al, .slice (pa bf) 0 am, vi 0]) Ys Z Z (ea.blk.rangeL 0 8 Z)), ⟨⟨1, ⟨0, 0⟩, bt / 2, c8, ([] : List Rt), ([] : List Int), 0⟩, some ⟨be, 0, none⟩, al, some ⟨bf, 0, none⟩, am⟩, (ah + 1 + 1), Z, ⟨OwnN.of ((((((nb.gn ck.grw).gn ep).gn di.grw).gn eu).gn dk.grw).gn ea.grw) lj, ⟨([] : List Rt), OwnN.of ((((((na.gn ck.grw).gn ep).gn di.grw).gn eu).gn dk.grw).gn ea.grw) li, Z, ?_⟩, ?_, ?_, ⟨show (0 : Int) ≤ bt / 2 by omega, show bt / 2 ≤ (1 : Int) by omega⟩⟩, by omega, by omega, ((ob.gn dk.grw).gn ea.grw), (low1 (low1 (grown_trans it eu) dk.grw (by omega)) ea.grw (by omega))⟩))
 intro x hx; first | (simp [zeros4] at hx; subst hx; exact ⟨by decide, by decide, by decide, by decide⟩) | simp at hx
 · first | exact Nat.le_of_ble_eq_true rfl | omega | (simp only [List.length_nil]; omega)
 exact Nat.le_of_ble_eq_true Z
 have ua := of_decide_eq_false ic
 refine Xz (Xu (Xq (Xa (Xc (o' := 0) Qd Z Z Z (Xh (v := vi k) X1 Z (V.blk.cell Z) Z (Xb (X9 (Xa (X6 (q := decide (k = 1)) Z Z Z Z (Xe (v := vb (decide (k = 1))) Z Z (Xb (X0 Z (fun ie => ?_) (fun ie => ?_)))))))))))))
 have uc := of_decide_eq_true ie
 refine Xa (Xd (v := pt R 0) Z Z (Xn Qo (Xf Z (Xf Z Xm)) Z (Qb ah 20 (by omega) _ R bs _ _ _ ((fx.grown0 ac.grw).gn V.grw) (by omega) (SlLt.low1 hs bb hlo) (by first | exact hb | exact fun b h => hb b (List.mem_of_mem_take h)) (by first | omega | (rw [List.length_take]; omega))) ?_))
 rintro _ vl ⟨c9, rfl, so, sp, oc, ew⟩
 refine Xc (o' := 4) Qw Z Z Z (Yc (v := vi c9) (cs' := #[vi k, vi E.s, vi E.v, vi 0, vi c9, .slice (pa ab) 4 G, .slice (pa ai) 0 O, vi to]) X1 Z Z Z (V.blk.gn ew) (Nat.le_of_ble_eq_true Z) Z ?_)
 intro vm dl
 have iu := low1 (grown_trans bb ew) dl.grw (by omega)
 refine Xb (X2 (Xd (v := pt R 0) Z Z (Xn Qo (Xf Z (Xf Z Xm)) Z (Qb (ah + 1) 3 (by omega) _ R bs _ _ _ (oc.gn dl.grw) (by omega) (SlLt.low1 hs iu hlo) (by first | exact hb | exact fun b h => hb b (List.mem_of_mem_take h)) (by first | omega | (rw [List.length_take]; omega))) ?_)))
 rintro _ vn ⟨bu, rfl, sq, sr, od, ez⟩
 refine K5 (c := bu / 2) Z Z (by omega) (by omega) (by omega) Z Z (Xc (o' := 3) Qz Z Z Z (Yc (v := vi (bu / 2)) (cs' := #[vi k, vi E.s, vi E.v, vi (bu / 2), vi c9, .slice (pa ab) 4 G, .slice (pa ai) 0 O, vi to]) X1 Z Z Z (dl.blk.gn ez) (Nat.le_of_ble_eq_true Z) Z ?_))
 intro vo dm
 refine Xb (Y3 (Xu (Xa (Xr (vs := [vi k, vi E.s, vi E.v, vi (bu / 2), vi c9, .slice (pa ab) 4 G, .slice (pa ai) 0 O, vi to]) Ys Z Z (dm.blk.rangeL 0 8 Z) Z (Xy (vs := [vi k, vi E.s, vi E.v, vi (bu / 2), vi c9, .slice (pa ab) 4 G, .slice (pa ai) 0 O, vi to]) (cs' := #[vi k, vi E.s, vi E.v, vi (bu / 2), vi c9, .slice (pa ab) 4 G, .slice (pa ai) 0 O, vi to]) Ys Z Z Z (by simp [Value.oneCell']) ((((((fy.grown0 ac.grw).gn V.grw).gn ew).gn dl.grw).gn ez).gn dm.grw) (Nat.le_of_ble_eq_true Z) Z ?_)))))
 intro vp eb
 refine Xb (Xt (⟨.agg #[vi k, vi E.s, vi E.v, vi (bu / 2), vi c9, .slice (pa ab) 4 G, .slice (pa ai) 0 O, vi to], Jt Z (Yh (vs := [vi k, vi E.s, vi E.v, vi (bu / 2), vi c9, .slice (pa ab) 4 G, .slice (pa ai) 0 O, vi to]) Ys Z Z (eb.blk.rangeL 0 8 Z)), ⟨⟨k, E, bu / 2, c9, zeros4, ([] : List Int), to⟩, some ⟨ab, 0, none⟩, G, some ⟨ai, 0, none⟩, O⟩, (ah + 1 + 1), Z, ⟨OwnN.of (((((((dh.grown0 ac.grw).gn V.grw).gn ew).gn dl.grw).gn ez).gn dm.grw).gn eb.grw) d5, ⟨zeros4, OwnN.of (((((((dg.grown0 ac.grw).gn V.grw).gn ew).gn dl.grw).gn ez).gn dm.grw).gn eb.grw) d4, Z, ?_⟩, ?_, ?_, ⟨show (0 : Int) ≤ bu / 2 by omega, show bu / 2 ≤ (1 : Int) by omega⟩⟩, by omega, by omega, ((od.gn dm.grw).gn eb.grw), (low1 (low1 (grown_trans iu ez) dm.grw (by omega)) eb.grw (by omega))⟩))
 intro x hx; first | (simp [zeros4] at hx; subst hx; exact ⟨by decide, by decide, by decide, by decide⟩) | simp at hx
 · first | exact Nat.le_of_ble_eq_true rfl | omega | (simp only [List.length_nil]; omega)
 exact Nat.le_of_ble_eq_true Z
 have ud := of_decide_eq_false ie
 refine Xa (X6 (q := decide (k = 4)) Z Z Z Z (Xe (v := vb (decide (k = 4))) Z Z (Xb (X0 Z (fun ig => ?_) (fun ig => ?_)))))
 have ue := of_decide_eq_true ig
 refine Xa (Xd (v := pt R 0) Z Z (Xn Qo (Xf Z (Xf Z Xm)) Z (Qb ah 4 (by omega) _ R bs _ _ _ ((fx.grown0 ac.grw).gn V.grw) (by omega) (SlLt.low1 hs bb hlo) (by first | exact hb | exact fun b h => hb b (List.mem_of_mem_take h)) (by first | omega | (rw [List.length_take]; omega))) ?_))
 rintro _ vq ⟨je, rfl, su, sv, oe, e0⟩
 refine Xe (v := vi je) Z Z (Xb (X9 (Ql (fun mm f' w' => ∃ (n : Int) (p1 : Int) (Bq : Nat) (cq : Nat) (ys : List Int), mm = n.toNat ∧ (0 ≤ n ∧ n ≤ 3) ∧ (ah + 1 ≤ p1 ∧ p1 ≤ (ah + 1) + 3 - n) ∧ (ys.length : Int) ≤ 3 - n ∧ Dw.Own w' Bq 3 1 cq ys.length (ys.flatMap icell) ∧ w.heap.size ≤ Bq ∧ R ≠ Bq ∧ bd ≠ Bq ∧ ab ≠ Bq ∧ d6 ≠ Bq ∧ f' 9 = vi n ∧ f' 0 = pt R 0 ∧ f' 6 = pt bd 0 ∧ f' 7 = pt d6 0 ∧ w.grownBy w' (some R) ∧ Blk w' bd 39 #[vi 0, vi 0, vi 0, vi 0, vi 0, .slice none 0 0, .slice none 0 0, vi 0] ∧ Dw.Own w' ab 33 5 G zeros4.length (zeros4.flatMap Rt.cells) ∧ Blk w' d6 39 #[vi k, vi E.s, vi E.v, vi 0, vi 0, .slice (pa ab) 4 G, .slice (pa Bq) ys.length cq, vi to] ∧ Blk w' R 76 #[.slice a bs.length c, vi p1]) (je.toNat) ⟨je, (ah + 1), ai, O, ([] : List Int), Z, (by omega), (by omega), (by simp only [List.length_nil]; omega), (((dh.grown0 ac.grw).gn V.grw).gn e0), d5, (by omega), (by omega), (by omega), (by omega), Z, Z, Z, Z, (grown_trans bb e0), (((fy.grown0 ac.grw).gn V.grw).gn e0), (((dg.grown0 ac.grw).gn V.grw).gn e0), (V.blk.gn e0), oe⟩ ?_)))
 rintro mm t5 m8 ⟨n, p1, Bq, cq, ys, tn, hnn, hpp, hyl, hOwn, hlBq, rp, rq, rr, ru, l4, pq, ia, l5, f9, jf, jg, g8, ml⟩
 refine Xq (Xa (Xd (v := vi n) l4 Z (Jm (q := decide (0 < n)) Z Z Z Z (Xb (X0 Z (fun ii => ?_) (fun ii => ?_))))))
 have uf := of_decide_eq_true ii
 refine Xz (Xu (Xq (X9 (Qv (m := 5) [[], [0], [], [2], [2, 3], [0, 1, 2, 3, 4], [0, 1, 2, 3, 4, 5], [0, 1, 2, 3, 4, 5, 6]] (fun S F w' => ∃ (aj : Int) (av : Nat), m8.grownBy w' (some R) ∧ F 0 = pt R 0 ∧ F 6 = pt bd 0 ∧ F 7 = pt d6 0 ∧ F 9 = vi n ∧ (S 3 = false → Blk w' R 76 #[.slice a bs.length c, vi p1]) ∧ (S 3 = true → F 48 = vi aj ∧ 0 ≤ aj ∧ (aj < 20 ∨ aj = 0) ∧ Blk w' R 76 #[.slice a bs.length c, vi (p1 + 1)]) ∧ (S 4 = true → F 49 = .slice (pa av) 1 1 ∧ w.heap.size ≤ av ∧ Blk w' av 3 (([aj] : List Int).flatMap icell).toArray ∧ bd < av ∧ ab < av ∧ d6 < av ∧ R < av ∧ Bq < av ∧ m8.heap.size ≤ av) ∧ Vals S F [(0, 45, pt d6 6), (1, 46, .slice (pa Bq) ys.length cq), (2, 47, pt R 0)]) Yz (by kernel_rfl) ⟨0, 0, X8 _, pq, ia, l5, l4, fun _ => (ml).grown0 (X8 _), Ym, Ym, J2 _⟩ ?_ ?_))))
 refine Xi (fun S F vr hS hbef hcl hI => ?_) ?_
 obtain ⟨aj, av, no, pr, pu, l6, pv, c_old_R, a8, bm, hvs⟩ := hI
 exact Xc (o' := 6) Qq l6 Z Z (Xb ⟨aj, av, no, pr, pu, l6, pv, fun h => c_old_R h, a8, bm, Vals.up 0 hvs Z Z Z⟩)
 refine Xi (fun S F vt hS hbef hcl hI => ?_) ?_
 obtain ⟨aj, av, i7, pw, px, py, pz, c_old_R, a8, bm, hvs⟩ := hI
 exact Xh (v := .slice (pa Bq) ys.length cq) Ju (Vals.at 0 hvs Z (Xl 0 hbef Z)) ((g8.gn i7).cell Z) Z (Xb ⟨aj, av, i7, pw, px, py, pz, fun h => c_old_R h, a8, bm, Vals.up 1 hvs Z Z Z⟩)
 refine Xi (fun S F vu hS hbef hcl hI => ?_) ?_
 obtain ⟨aj, av, np, l7, p0, p8, p9, c_old_R, a8, bm, hvs⟩ := hI
 exact Xd (v := pt R 0) l7 Z (Xb ⟨aj, av, np, l7, p0, p8, p9, fun h => c_old_R h, Xv 3 hS hcl Z, Xv 4 hS hcl Z, Vals.up 2 hvs Z Z Z⟩)
 refine Xi (fun S F vv hS hbef hcl hI => ?_) ?_
 obtain ⟨aj, av, i8, qb, qd, qe, qf, c_old_R, a8, bm, hvs⟩ := hI
 refine Xn Qo (Xf (Vals.at 2 hvs Z (Xl 2 hbef Z)) (Xf Z Xm)) Z (Qb p1 20 (by omega) _ R bs _ _ _ (c_old_R hS) (by omega) (SlLt.low1 hs (grown_trans f9 i8) hlo) (by first | exact hb | exact fun b h => hb b (List.mem_of_mem_take h)) (by first | omega | (rw [List.length_take]; omega))) ?_
 rintro _ vw ⟨rx, rfl, nw, nx, og, nk⟩
 exact Xb ⟨rx, av, (grown_trans i8 nk), qb, qd, qe, qf, fun h => Jq h, fun _ => ⟨Z, nw, nx, og⟩, Xv 4 hS hcl Z, Vals.keep hvs Z⟩
 refine Xi (fun S F vx hS hbef hcl hI => ?_) ?_
 obtain ⟨aj, av, cv, qg, qh, qi, qj, c_old_R, a8, bm, hvs⟩ := hI
 obtain ⟨qk, nu, nv, bc⟩ := a8 (Xl 3 hbef rfl)
 refine X7 (ps := [(0, vi aj)]) (e := 3) (cs := (([aj] : List Int).flatMap icell).toArray) (Xk qk X5) (fun _ => by kernel_rfl) Z ?_
 intro po vy a9
 have lk := Yd a9 (grown_trans f9 cv)
 have fq := Xo a9 ((jf.gn cv)).lt
 have ft := Xo a9 ((jg.gn cv)).lt
 have fu := Xo a9 ((g8.gn cv)).lt
 have gw := Xo a9 ((hOwn.gn cv)).lt
 have o7 := Xo a9 (bc).lt
 exact Xb ⟨aj, po, (low0 cv a9.grw), qg, qh, qi, qj, fun hn => Jq ((Xl 3 hbef Z).symm.trans hn), fun h => let ⟨rz, r0, r1, r2⟩ := a8 h; ⟨rz, r0, r1, (r2).grown0 a9.grw⟩, fun _ => ⟨Z, lk, a9.blk, fq, ft, fu, (by omega), gw, (nt cv.size (Nat.le_of_eq a9.eq.symm))⟩, Vals.keep hvs Z⟩
 exact Jb
 intro S F vz hall hI
 obtain ⟨aj, av, fo, qm, qn, l8, qo, c_old_R, a8, bm, hvs⟩ := hI
 have iv := grown_trans f9 fo
 obtain ⟨t0, nu, nv, bc⟩ := a8 (hall 3 (by decide))
 obtain ⟨qp, sd, gu, jx, kf, kl, o6, m6, rn⟩ := bm (hall 4 (by decide))
 have mn := (jf.gn fo)
 have mo := (jg.gn fo)
 have mp := (g8.gn fo)
 refine V9 (g := icell) (ys := ys) (zs := ([aj] : List Int)) Vs Z Yq (by omega) Jz (Vals.at 1 hvs Z (hall 1 (by decide))) qp (hOwn.gn fo) (Jo Yq gu) (by simp only [List.length_cons, List.length_nil]; omega) (by omega) Z ?_
 intro cy fz v1 nc fa l0
 have ll : w.heap.size ≤ cy := by rcases l0 with h | h; (rw [h]; exact hlBq); (rw [h]; exact iv.size)
 have k0 : bd ≠ cy := by have h := (mn).lt; omega
 have k6 : ab ≠ cy := by have h := (mo).lt; omega
 have k7 : d6 ≠ cy := by have h := (mp).lt; omega
 have pm : R ≠ cy := by have h := (bc).lt; omega
 have k9 : av ≠ cy := by have h := (gu).lt; omega
 refine Xc (o' := 6) Qq l8 Z Z (Yc (v := .slice (pa cy) (ys ++ ([aj] : List Int)).length fz) (cs' := #[vi k, vi E.s, vi E.v, vi 0, vi 0, .slice (pa ab) 4 G, .slice (pa cy) (ys ++ ([aj] : List Int)).length fz, vi to]) Ju Z Z Z (mp.gn fa) (Nat.le_of_ble_eq_true Z) Z ?_)
 intro v2 dn
 exact Xb (Y3 (Xu (X2 (Xd (v := vi n) qo Z (Yr (c := n - 1) Z Z (by omega) (by omega) (by omega) Z (Xe (v := vi (n - 1)) Z Z (Xb (Xu (⟨(n - 1).toNat, by omega, (n - 1), (p1 + 1), cy, fz, (ys ++ ([aj] : List Int)), Z, (by omega), (by omega), (by simp only [List.length_append, List.length_cons, List.length_nil]; omega), (nc.gn dn.grw), ll, (by omega), (by omega), (by omega), (by omega), Z, qm, qn, l8, (low1 (low1 iv fa (by omega)) dn.grw (by omega)), ((mn.gn fa).gn dn.grw), ((mo.gn fa).gn dn.grw), dn.blk, ((bc.gn fa).gn dn.grw)⟩)))))))))
 have ug := of_decide_eq_false ii
 refine Qf (Y9 (Y9 (Jh (Y3 (Xu (Xa (Xr (vs := [vi k, vi E.s, vi E.v, vi 0, vi 0, .slice (pa ab) 4 G, .slice (pa Bq) ys.length cq, vi to]) Ys l5 Z (g8.rangeL 0 8 Z) Z (Xy (vs := [vi k, vi E.s, vi E.v, vi 0, vi 0, .slice (pa ab) 4 G, .slice (pa Bq) ys.length cq, vi to]) (cs' := #[vi k, vi E.s, vi E.v, vi 0, vi 0, .slice (pa ab) 4 G, .slice (pa Bq) ys.length cq, vi to]) Ys ia Z Z (by simp [Value.oneCell']) jf (Nat.le_of_ble_eq_true Z) Z ?_))))))))
 intro v3 ed
 refine Xb (Xt (⟨.agg #[vi k, vi E.s, vi E.v, vi 0, vi 0, .slice (pa ab) 4 G, .slice (pa Bq) ys.length cq, vi to], Jt Z (Yh (vs := [vi k, vi E.s, vi E.v, vi 0, vi 0, .slice (pa ab) 4 G, .slice (pa Bq) ys.length cq, vi to]) Ys ia Z (ed.blk.rangeL 0 8 Z)), ⟨⟨k, E, 0, 0, zeros4, ys, to⟩, some ⟨ab, 0, none⟩, G, some ⟨Bq, 0, none⟩, cq⟩, p1, Z, ⟨OwnN.of (hOwn.gn ed.grw) hlBq, ⟨zeros4, OwnN.of (jg.gn ed.grw) d4, Z, ?_⟩, ?_, ?_, ⟨show (0 : Int) ≤ 0 by omega, show 0 ≤ (1 : Int) by omega⟩⟩, by omega, by omega, (ml.gn ed.grw), (low1 f9 ed.grw (by omega))⟩))
 intro x hx; first | (simp [zeros4] at hx; subst hx; exact ⟨by decide, by decide, by decide, by decide⟩) | simp at hx
 · first | exact Nat.le_of_ble_eq_true rfl | omega | (simp only [List.length_nil]; omega)
 exact Nat.le_of_ble_eq_true Z
 have uh := of_decide_eq_false ig
 refine Xa (X6 (q := decide (k = 3)) Z Z Z Z (Xe (v := vb (decide (k = 3))) Z Z (Xb (X0 Z (fun ij => ?_) (fun ij => ?_)))))
 have uj := of_decide_eq_true ij
 refine X2 (Xd (v := pt R 0) Z Z (Xn Qo (Xf Z (Xf Z Xm)) Z (Qb ah 24 (by omega) _ R bs _ _ _ ((fx.grown0 ac.grw).gn V.grw) (by omega) (SlLt.low1 hs bb hlo) (by first | exact hb | exact fun b h => hb b (List.mem_of_mem_take h)) (by first | omega | (rw [List.length_take]; omega))) ?_))
 rintro _ v4 ⟨da, rfl, sw, sy, oh, fb⟩
 refine Yr (c := da - 4) Z Z (by omega) (by omega) (by omega) Z (Xc (o' := 4) Qw Z Z Z (Yc (v := vi (da - 4)) (cs' := #[vi k, vi E.s, vi E.v, vi 0, vi (da - 4), .slice (pa ab) 4 G, .slice (pa ai) 0 O, vi to]) X1 Z Z Z (V.blk.gn fb) (Nat.le_of_ble_eq_true Z) Z ?_))
 intro v5 dp
 refine Xb (Y3 (Xu (Xa (Xr (vs := [vi k, vi E.s, vi E.v, vi 0, vi (da - 4), .slice (pa ab) 4 G, .slice (pa ai) 0 O, vi to]) Ys Z Z (dp.blk.rangeL 0 8 Z) Z (Xy (vs := [vi k, vi E.s, vi E.v, vi 0, vi (da - 4), .slice (pa ab) 4 G, .slice (pa ai) 0 O, vi to]) (cs' := #[vi k, vi E.s, vi E.v, vi 0, vi (da - 4), .slice (pa ab) 4 G, .slice (pa ai) 0 O, vi to]) Ys Z Z Z (by simp [Value.oneCell']) ((((fy.grown0 ac.grw).gn V.grw).gn fb).gn dp.grw) (Nat.le_of_ble_eq_true Z) Z ?_)))))
 intro v6 ee
 refine Xb (Xt (⟨.agg #[vi k, vi E.s, vi E.v, vi 0, vi (da - 4), .slice (pa ab) 4 G, .slice (pa ai) 0 O, vi to], Jt Z (Yh (vs := [vi k, vi E.s, vi E.v, vi 0, vi (da - 4), .slice (pa ab) 4 G, .slice (pa ai) 0 O, vi to]) Ys Z Z (ee.blk.rangeL 0 8 Z)), ⟨⟨k, E, 0, da - 4, zeros4, ([] : List Int), to⟩, some ⟨ab, 0, none⟩, G, some ⟨ai, 0, none⟩, O⟩, (ah + 1), Z, ⟨OwnN.of (((((dh.grown0 ac.grw).gn V.grw).gn fb).gn dp.grw).gn ee.grw) d5, ⟨zeros4, OwnN.of (((((dg.grown0 ac.grw).gn V.grw).gn fb).gn dp.grw).gn ee.grw) d4, Z, ?_⟩, ?_, ?_, ⟨show (0 : Int) ≤ 0 by omega, show 0 ≤ (1 : Int) by omega⟩⟩, by omega, by omega, ((oh.gn dp.grw).gn ee.grw), (low1 (low1 (grown_trans bb fb) dp.grw (by omega)) ee.grw (by omega))⟩))
 intro x hx; first | (simp [zeros4] at hx; subst hx; exact ⟨by decide, by decide, by decide, by decide⟩) | simp at hx
 · first | exact Nat.le_of_ble_eq_true rfl | omega | (simp only [List.length_nil]; omega)
 exact Nat.le_of_ble_eq_true Z
 have uk := of_decide_eq_false ij
 refine Xz (Y3 (Xu (Xa (Xr (vs := [vi k, vi E.s, vi E.v, vi 0, vi 0, .slice (pa ab) 4 G, .slice (pa ai) 0 O, vi to]) Ys Z Z (V.blk.rangeL 0 8 Z) Z (Xy (vs := [vi k, vi E.s, vi E.v, vi 0, vi 0, .slice (pa ab) 4 G, .slice (pa ai) 0 O, vi to]) (cs' := #[vi k, vi E.s, vi E.v, vi 0, vi 0, .slice (pa ab) 4 G, .slice (pa ai) 0 O, vi to]) Ys Z Z Z (by simp [Value.oneCell']) ((fy.grown0 ac.grw).gn V.grw) (Nat.le_of_ble_eq_true Z) Z ?_)))))
 intro v7 ef
 refine Xb (Xt (⟨.agg #[vi k, vi E.s, vi E.v, vi 0, vi 0, .slice (pa ab) 4 G, .slice (pa ai) 0 O, vi to], Jt Z (Yh (vs := [vi k, vi E.s, vi E.v, vi 0, vi 0, .slice (pa ab) 4 G, .slice (pa ai) 0 O, vi to]) Ys Z Z (ef.blk.rangeL 0 8 Z)), ⟨⟨k, E, 0, 0, zeros4, ([] : List Int), to⟩, some ⟨ab, 0, none⟩, G, some ⟨ai, 0, none⟩, O⟩, ah, Z, ⟨OwnN.of (((dh.grown0 ac.grw).gn V.grw).gn ef.grw) d5, ⟨zeros4, OwnN.of (((dg.grown0 ac.grw).gn V.grw).gn ef.grw) d4, Z, ?_⟩, ?_, ?_, ⟨show (0 : Int) ≤ 0 by omega, show 0 ≤ (1 : Int) by omega⟩⟩, by omega, by omega, (((fx.grown0 ac.grw).gn V.grw).gn ef.grw), (low1 bb ef.grw (by omega))⟩))
 intro x hx; first | (simp [zeros4] at hx; subst hx; exact ⟨by decide, by decide, by decide, by decide⟩) | simp at hx
 · first | exact Nat.le_of_ble_eq_true rfl | omega | (simp only [List.length_nil]; omega)
 exact Nat.le_of_ble_eq_true Z
 have ul : thingOk (⟨k, E, 0, 0, zeros4, [], to⟩ : Th) = false := (Ud bn).symm.trans gp
 refine Xn W6 (Xf Z (Xf Z (Xf Z Xm))) Z (Ph k to E bn gp _) ?_
 rintro _ v8 ⟨rfl, g5⟩
 have iw := low0 bq g5
 refine Xd (v := .tuple #[.agg #[vi 0, vi 0, vi 0, vi 0, vi 0, .slice none 0 0, .slice none 0 0, vi 0], vb false]) Z Z (Ye (v := .agg #[vi 0, vi 0, vi 0, vi 0, vi 0, .slice none 0 0, .slice none 0 0, vi 0]) Z Z Z (Ye (v := vb false) Z Z Z (Yf (cs := #[vi 0, vi 0, vi 0, vi 0, vi 0, .slice none 0 0, .slice none 0 0, vi 0]) Ka Z Z ?_)))
 intro tx v9 cg
 have se := Yd cg iw
 have mq := (ca.grown0 g5)
 have o8 := Xo cg (mq).lt
 have mr := ((bp.blk.gn eo).grown0 g5)
 have jy := Xo cg (mr).lt
 refine Xy (vs := [vi 0, vi 0, vi 0, vi 0, vi 0, .slice none 0 0, .slice none 0 0, vi 0]) (cs' := #[vi 0, vi 0, vi 0, vi 0, vi 0, .slice none 0 0, .slice none 0 0, vi 0]) Ys Z Z Z (by simp [Value.oneCell']) cg.blk (Nat.le_of_ble_eq_true Z) Z ?_
 intro wa cl
 have gy := low1 (low0 iw cg.grw) cl.grw (by omega)
 refine Xe (v := vb false) Z Z (Xb (Xq (Xa (Xc (o' := 0) Qd Z Z Z (Xh (v := vi 0) X1 Z (cl.blk.cell Z) Z (X6 (q := true) Z Z (by decide) Z (Xb (Qa Z Z (X2 (Yv (ps := []) (v := .agg #[vi 0, vi 0]) X5 (by kernel_rfl) Z ?_))))))))))
 have jh := ((mq.grown0 cg.grw).gn cl.grw)
 have ji := ((mr.grown0 cg.grw).gn cl.grw)
 have um : thingOk (⟨1, ⟨0, 0⟩, 0, 0, [], [], 0⟩ : Th) = true := (K4 (by decide)).symm.trans (by decide)
 refine Xn W6 (Xf Z (Xf Z (Xf Z Xm))) Z (Kw 1 0 ⟨0, 0⟩ (by decide) (by decide) _) ?_
 rintro _ wb ⟨bg, an, bh, ao, rfl, d0, nd, d1, ne, la, gc⟩
 have lm := nt gy.size d0
 have o9 := nl (jh).lt d0
 have jz := nl (ji).lt d0
 have km := nl (cl.blk).lt d0
 have ln := nt gy.size d1
 have pb := nl (jh).lt d1
 have j1 := nl (ji).lt d1
 have kn := nl (cl.blk).lt d1
 refine Xd (v := .tuple #[.agg #[vi 1, vi 0, vi 0, vi 0, vi 0, .slice (pa bg) 0 an, .slice (pa bh) 0 ao, vi 0], vb true]) Z Z (Ye (v := .agg #[vi 1, vi 0, vi 0, vi 0, vi 0, .slice (pa bg) 0 an, .slice (pa bh) 0 ao, vi 0]) Z Z Z (Ye (v := vb true) Z Z Z (Xy (vs := [vi 1, vi 0, vi 0, vi 0, vi 0, .slice (pa bg) 0 an, .slice (pa bh) 0 ao, vi 0]) (cs' := #[vi 1, vi 0, vi 0, vi 0, vi 0, .slice (pa bg) 0 an, .slice (pa bh) 0 ao, vi 0]) Ys Z Z Z (by simp [Value.oneCell']) (cl.blk.grown0 gc) (Nat.le_of_ble_eq_true Z) Z ?_)))
 intro wc cm
 have ix := low1 (low0 gy gc) cm.grw (by omega)
 refine Xb (Xu (Xq (Xa (Xc (o' := 0) Qd Z Z Z (Xh (v := vi 1) X1 Z (cm.blk.cell Z) Z (Xb (X9 (Xa (X6 (q := true) Z Z (by decide) Z (Xe (v := vb true) Z Z (Xb (Qa Z Z ?_))))))))))))
 refine Xa (Xd (v := pt R 0) Z Z (Xn Qo (Xf Z (Xf Z Xm)) Z (Qb ah 20 (by omega) _ R bs _ _ _ ((jh.grown0 gc).gn cm.grw) (by omega) (SlLt.low1 hs ix hlo) (by first | exact hb | exact fun b h => hb b (List.mem_of_mem_take h)) (by first | omega | (rw [List.length_take]; omega))) ?_))
 rintro _ wd ⟨db, rfl, s0, s1, ol, fc⟩
 refine Xc (o' := 4) Qw Z Z Z (Yc (v := vi db) (cs' := #[vi 1, vi 0, vi 0, vi 0, vi db, .slice (pa bg) 0 an, .slice (pa bh) 0 ao, vi 0]) X1 Z Z Z (cm.blk.gn fc) (Nat.le_of_ble_eq_true Z) Z ?_)
 intro we dq
 have iy := low1 (grown_trans ix fc) dq.grw (by omega)
 refine Xb (X2 (Xd (v := pt R 0) Z Z (Xn Qo (Xf Z (Xf Z Xm)) Z (Qb (ah + 1) 3 (by omega) _ R bs _ _ _ (ol.gn dq.grw) (by omega) (SlLt.low1 hs iy hlo) (by first | exact hb | exact fun b h => hb b (List.mem_of_mem_take h)) (by first | omega | (rw [List.length_take]; omega))) ?_)))
 rintro _ wg ⟨bv, rfl, s3, s4, om, fd⟩
 refine K5 (c := bv / 2) Z Z (by omega) (by omega) (by omega) Z Z (Xc (o' := 3) Qz Z Z Z (Yc (v := vi (bv / 2)) (cs' := #[vi 1, vi 0, vi 0, vi (bv / 2), vi db, .slice (pa bg) 0 an, .slice (pa bh) 0 ao, vi 0]) X1 Z Z Z (dq.blk.gn fd) (Nat.le_of_ble_eq_true Z) Z ?_))
 intro wh dr
 refine Xb (Y3 (Xu (Xa (Xr (vs := [vi 1, vi 0, vi 0, vi (bv / 2), vi db, .slice (pa bg) 0 an, .slice (pa bh) 0 ao, vi 0]) Ys Z Z (dr.blk.rangeL 0 8 Z) Z (Xy (vs := [vi 1, vi 0, vi 0, vi (bv / 2), vi db, .slice (pa bg) 0 an, .slice (pa bh) 0 ao, vi 0]) (cs' := #[vi 1, vi 0, vi 0, vi (bv / 2), vi db, .slice (pa bg) 0 an, .slice (pa bh) 0 ao, vi 0]) Ys Z Z Z (by simp [Value.oneCell']) ((((((ji.grown0 gc).gn cm.grw).gn fc).gn dq.grw).gn fd).gn dr.grw) (Nat.le_of_ble_eq_true Z) Z ?_)))))
 intro wi eg
 refine Xb (Xt (⟨.agg #[vi 1, vi 0, vi 0, vi (bv / 2), vi db, .slice (pa bg) 0 an, .slice (pa bh) 0 ao, vi 0], Jt Z (Yh (vs := [vi 1, vi 0, vi 0, vi (bv / 2), vi db, .slice (pa bg) 0 an, .slice (pa bh) 0 ao, vi 0]) Ys Z Z (eg.blk.rangeL 0 8 Z)), ⟨⟨1, ⟨0, 0⟩, bv / 2, db, ([] : List Rt), ([] : List Int), 0⟩, some ⟨bg, 0, none⟩, an, some ⟨bh, 0, none⟩, ao⟩, (ah + 1 + 1), Z, ⟨OwnN.of ((((((ne.gn cm.grw).gn fc).gn dq.grw).gn fd).gn dr.grw).gn eg.grw) ln, ⟨([] : List Rt), OwnN.of ((((((nd.gn cm.grw).gn fc).gn dq.grw).gn fd).gn dr.grw).gn eg.grw) lm, Z, ?_⟩, ?_, ?_, ⟨show (0 : Int) ≤ bv / 2 by omega, show bv / 2 ≤ (1 : Int) by omega⟩⟩, by omega, by omega, ((om.gn dr.grw).gn eg.grw), (low1 (low1 (grown_trans iy fd) dr.grw (by omega)) eg.grw (by omega))⟩))
 intro x hx; first | (simp [zeros4] at hx; subst hx; exact ⟨by decide, by decide, by decide, by decide⟩) | simp at hx
 · first | exact Nat.le_of_ble_eq_true rfl | omega | (simp only [List.length_nil]; omega)
 exact Nat.le_of_ble_eq_true Z
 have rl := Kl bn
 have un := of_decide_eq_false rl
 have mf := Km bn
 have uo := of_decide_eq_false mf
 rcases Yg (newOk k E to) with gq | gq
 have jj := (bp.blk.gn eo)
 have ut : thingOk (⟨k, E, 0, 0, [], [], to⟩ : Th) = true := (K4 bn).symm.trans gq
 refine Xn W6 (Xf Z (Xf Z (Xf Z Xm))) Z (Kw k to E bn gq _) ?_
 rintro _ wj ⟨ag, J, az, ae, rfl, gj, d8, gk, d9, lc, g6⟩
 have iz := low0 bq g6
 have gl := nt bq.size gj
 have pc := nl (ca).lt gj
 have j2 := nl (jj).lt gj
 have gm := nt bq.size gk
 have pd := nl (ca).lt gk
 have j3 := nl (jj).lt gk
 refine Xd (v := .tuple #[.agg #[vi k, vi E.s, vi E.v, vi 0, vi 0, .slice (pa ag) 0 J, .slice (pa az) 0 ae, vi to], vb true]) Z Z (Ye (v := .agg #[vi k, vi E.s, vi E.v, vi 0, vi 0, .slice (pa ag) 0 J, .slice (pa az) 0 ae, vi to]) Z Z Z (Ye (v := vb true) Z Z Z (Yf (cs := #[vi 0, vi 0, vi 0, vi 0, vi 0, .slice none 0 0, .slice none 0 0, vi 0]) Ka Z Z ?_)))
 intro d7 wl af
 have sf := Yd af iz
 have gr := (ca.grown0 g6)
 have pe := Xo af (gr).lt
 have gt := (jj.grown0 g6)
 have j4 := Xo af (gt).lt
 have ks := Xo af (d9).lt
 have ko := Xo af (d8).lt
 refine Xy (vs := [vi k, vi E.s, vi E.v, vi 0, vi 0, .slice (pa ag) 0 J, .slice (pa az) 0 ae, vi to]) (cs' := #[vi k, vi E.s, vi E.v, vi 0, vi 0, .slice (pa ag) 0 J, .slice (pa az) 0 ae, vi to]) Ys Z Z Z (by simp [Value.oneCell']) af.blk (Nat.le_of_ble_eq_true Z) Z ?_
 intro wm ad
 have br := low1 (low0 iz af.grw) ad.grw (by omega)
 refine Xe (v := vb true) Z Z (Xb (Xq (Xa (Xc (o' := 0) Qd Z Z Z (Xh (v := vi k) X1 Z (ad.blk.cell Z) Z (X6 (q := decide (k = 0)) Z Z Z Z (Xb (X0 Z (fun ik => ?_) (fun ik => ?_)))))))))
 have uu := of_decide_eq_true ik
 refine X2 (Yv (ps := []) (v := .agg #[vi 0, vi 0]) X5 (by kernel_rfl) Z ?_)
 have jk := ((gr.grown0 af.grw).gn ad.grw)
 have jl := ((gt.grown0 af.grw).gn ad.grw)
 have mt := ((d9.grown0 af.grw).gn ad.grw)
 have mu := ((d8.grown0 af.grw).gn ad.grw)
 have uv : thingOk (⟨1, ⟨0, 0⟩, 0, 0, [], [], 0⟩ : Th) = true := (K4 (by decide)).symm.trans (by decide)
 refine Xn W6 (Xf Z (Xf Z (Xf Z Xm))) Z (Kw 1 0 ⟨0, 0⟩ (by decide) (by decide) _) ?_
 rintro _ wn ⟨bi, ap, bj, aq, rfl, ce, nf, cf, ng, lf, gf⟩
 have lp := nt br.size ce
 have pf := nl (jk).lt ce
 have j5 := nl (jl).lt ce
 have kt := nl (mt).lt ce
 have kp := nl (mu).lt ce
 have kv := nl (ad.blk).lt ce
 have lu := nt br.size cf
 have pg := nl (jk).lt cf
 have j6 := nl (jl).lt cf
 have ku := nl (mt).lt cf
 have kq := nl (mu).lt cf
 have kw := nl (ad.blk).lt cf
 refine Xd (v := .tuple #[.agg #[vi 1, vi 0, vi 0, vi 0, vi 0, .slice (pa bi) 0 ap, .slice (pa bj) 0 aq, vi 0], vb true]) Z Z (Ye (v := .agg #[vi 1, vi 0, vi 0, vi 0, vi 0, .slice (pa bi) 0 ap, .slice (pa bj) 0 aq, vi 0]) Z Z Z (Ye (v := vb true) Z Z Z (Xy (vs := [vi 1, vi 0, vi 0, vi 0, vi 0, .slice (pa bi) 0 ap, .slice (pa bj) 0 aq, vi 0]) (cs' := #[vi 1, vi 0, vi 0, vi 0, vi 0, .slice (pa bi) 0 ap, .slice (pa bj) 0 aq, vi 0]) Ys Z Z Z (by simp [Value.oneCell']) (ad.blk.grown0 gf) (Nat.le_of_ble_eq_true Z) Z ?_)))
 intro wo cn
 have i0 := low1 (low0 br gf) cn.grw (by omega)
 refine Xb (Xu (Xq (Xa (Xc (o' := 0) Qd Z Z Z (Xh (v := vi 1) X1 Z (cn.blk.cell Z) Z (Xb (X9 (Xa (X6 (q := true) Z Z (by decide) Z (Xe (v := vb true) Z Z (Xb (Qa Z Z ?_))))))))))))
 refine Xa (Xd (v := pt R 0) Z Z (Xn Qo (Xf Z (Xf Z Xm)) Z (Qb ah 20 (by omega) _ R bs _ _ _ ((jk.grown0 gf).gn cn.grw) (by omega) (SlLt.low1 hs i0 hlo) (by first | exact hb | exact fun b h => hb b (List.mem_of_mem_take h)) (by first | omega | (rw [List.length_take]; omega))) ?_))
 rintro _ wq ⟨dc, rfl, s5, s6, oo, fe⟩
 refine Xc (o' := 4) Qw Z Z Z (Yc (v := vi dc) (cs' := #[vi 1, vi 0, vi 0, vi 0, vi dc, .slice (pa bi) 0 ap, .slice (pa bj) 0 aq, vi 0]) X1 Z Z Z (cn.blk.gn fe) (Nat.le_of_ble_eq_true Z) Z ?_)
 intro ws dt
 have i1 := low1 (grown_trans i0 fe) dt.grw (by omega)
 refine Xb (X2 (Xd (v := pt R 0) Z Z (Xn Qo (Xf Z (Xf Z Xm)) Z (Qb (ah + 1) 3 (by omega) _ R bs _ _ _ (oo.gn dt.grw) (by omega) (SlLt.low1 hs i1 hlo) (by first | exact hb | exact fun b h => hb b (List.mem_of_mem_take h)) (by first | omega | (rw [List.length_take]; omega))) ?_)))
 rintro _ wt ⟨bw, rfl, s7, s8, oq, ff⟩
 refine K5 (c := bw / 2) Z Z (by omega) (by omega) (by omega) Z Z (Xc (o' := 3) Qz Z Z Z (Yc (v := vi (bw / 2)) (cs' := #[vi 1, vi 0, vi 0, vi (bw / 2), vi dc, .slice (pa bi) 0 ap, .slice (pa bj) 0 aq, vi 0]) X1 Z Z Z (dt.blk.gn ff) (Nat.le_of_ble_eq_true Z) Z ?_))
 intro wu du
 refine Xb (Y3 (Xu (Xa (Xr (vs := [vi 1, vi 0, vi 0, vi (bw / 2), vi dc, .slice (pa bi) 0 ap, .slice (pa bj) 0 aq, vi 0]) Ys Z Z (du.blk.rangeL 0 8 Z) Z (Xy (vs := [vi 1, vi 0, vi 0, vi (bw / 2), vi dc, .slice (pa bi) 0 ap, .slice (pa bj) 0 aq, vi 0]) (cs' := #[vi 1, vi 0, vi 0, vi (bw / 2), vi dc, .slice (pa bi) 0 ap, .slice (pa bj) 0 aq, vi 0]) Ys Z Z Z (by simp [Value.oneCell']) ((((((jl.grown0 gf).gn cn.grw).gn fe).gn dt.grw).gn ff).gn du.grw) (Nat.le_of_ble_eq_true Z) Z ?_)))))
 intro wv eh
 refine Xb (Xt (⟨.agg #[vi 1, vi 0, vi 0, vi (bw / 2), vi dc, .slice (pa bi) 0 ap, .slice (pa bj) 0 aq, vi 0], Jt Z (Yh (vs := [vi 1, vi 0, vi 0, vi (bw / 2), vi dc, .slice (pa bi) 0 ap, .slice (pa bj) 0 aq, vi 0]) Ys Z Z (eh.blk.rangeL 0 8 Z)), ⟨⟨1, ⟨0, 0⟩, bw / 2, dc, ([] : List Rt), ([] : List Int), 0⟩, some ⟨bi, 0, none⟩, ap, some ⟨bj, 0, none⟩, aq⟩, (ah + 1 + 1), Z, ⟨OwnN.of ((((((ng.gn cn.grw).gn fe).gn dt.grw).gn ff).gn du.grw).gn eh.grw) lu, ⟨([] : List Rt), OwnN.of ((((((nf.gn cn.grw).gn fe).gn dt.grw).gn ff).gn du.grw).gn eh.grw) lp, Z, ?_⟩, ?_, ?_, ⟨show (0 : Int) ≤ bw / 2 by omega, show bw / 2 ≤ (1 : Int) by omega⟩⟩, by omega, by omega, ((oq.gn du.grw).gn eh.grw), (low1 (low1 (grown_trans i1 ff) du.grw (by omega)) eh.grw (by omega))⟩))
 intro x hx; first | (simp [zeros4] at hx; subst hx; exact ⟨by decide, by decide, by decide, by decide⟩) | simp at hx
 · first | exact Nat.le_of_ble_eq_true rfl | omega | (simp only [List.length_nil]; omega)
 exact Nat.le_of_ble_eq_true Z
 have uw := of_decide_eq_false ik
 refine Xz (Xu (Xq (Xa (Xc (o' := 0) Qd Z Z Z (Xh (v := vi k) X1 Z (ad.blk.cell Z) Z (Xb (X9 (Xa (X6 (q := decide (k = 1)) Z Z Z Z (Xe (v := vb (decide (k = 1))) Z Z (Xb (X0 Z (fun il => ?_) (fun il => ?_)))))))))))))
 have ux := of_decide_eq_true il
 refine Xa (Xd (v := pt R 0) Z Z (Xn Qo (Xf Z (Xf Z Xm)) Z (Qb ah 20 (by omega) _ R bs _ _ _ ((gr.grown0 af.grw).gn ad.grw) (by omega) (SlLt.low1 hs br hlo) (by first | exact hb | exact fun b h => hb b (List.mem_of_mem_take h)) (by first | omega | (rw [List.length_take]; omega))) ?_))
 rintro _ ww ⟨de, rfl, s9, tc, ot, fg⟩
 refine Xc (o' := 4) Qw Z Z Z (Yc (v := vi de) (cs' := #[vi k, vi E.s, vi E.v, vi 0, vi de, .slice (pa ag) 0 J, .slice (pa az) 0 ae, vi to]) X1 Z Z Z (ad.blk.gn fg) (Nat.le_of_ble_eq_true Z) Z ?_)
 intro wx dv
 have i2 := low1 (grown_trans br fg) dv.grw (by omega)
 refine Xb (X2 (Xd (v := pt R 0) Z Z (Xn Qo (Xf Z (Xf Z Xm)) Z (Qb (ah + 1) 3 (by omega) _ R bs _ _ _ (ot.gn dv.grw) (by omega) (SlLt.low1 hs i2 hlo) (by first | exact hb | exact fun b h => hb b (List.mem_of_mem_take h)) (by first | omega | (rw [List.length_take]; omega))) ?_)))
 rintro _ wy ⟨bx, rfl, td, te, ou, fh⟩
 refine K5 (c := bx / 2) Z Z (by omega) (by omega) (by omega) Z Z (Xc (o' := 3) Qz Z Z Z (Yc (v := vi (bx / 2)) (cs' := #[vi k, vi E.s, vi E.v, vi (bx / 2), vi de, .slice (pa ag) 0 J, .slice (pa az) 0 ae, vi to]) X1 Z Z Z (dv.blk.gn fh) (Nat.le_of_ble_eq_true Z) Z ?_))
 intro wz dw
 refine Xb (Y3 (Xu (Xa (Xr (vs := [vi k, vi E.s, vi E.v, vi (bx / 2), vi de, .slice (pa ag) 0 J, .slice (pa az) 0 ae, vi to]) Ys Z Z (dw.blk.rangeL 0 8 Z) Z (Xy (vs := [vi k, vi E.s, vi E.v, vi (bx / 2), vi de, .slice (pa ag) 0 J, .slice (pa az) 0 ae, vi to]) (cs' := #[vi k, vi E.s, vi E.v, vi (bx / 2), vi de, .slice (pa ag) 0 J, .slice (pa az) 0 ae, vi to]) Ys Z Z Z (by simp [Value.oneCell']) ((((((gt.grown0 af.grw).gn ad.grw).gn fg).gn dv.grw).gn fh).gn dw.grw) (Nat.le_of_ble_eq_true Z) Z ?_)))))
 intro w5 ei
 refine Xb (Xt (⟨.agg #[vi k, vi E.s, vi E.v, vi (bx / 2), vi de, .slice (pa ag) 0 J, .slice (pa az) 0 ae, vi to], Jt Z (Yh (vs := [vi k, vi E.s, vi E.v, vi (bx / 2), vi de, .slice (pa ag) 0 J, .slice (pa az) 0 ae, vi to]) Ys Z Z (ei.blk.rangeL 0 8 Z)), ⟨⟨k, E, bx / 2, de, ([] : List Rt), ([] : List Int), to⟩, some ⟨ag, 0, none⟩, J, some ⟨az, 0, none⟩, ae⟩, (ah + 1 + 1), Z, ⟨OwnN.of (((((((d9.grown0 af.grw).gn ad.grw).gn fg).gn dv.grw).gn fh).gn dw.grw).gn ei.grw) gm, ⟨([] : List Rt), OwnN.of (((((((d8.grown0 af.grw).gn ad.grw).gn fg).gn dv.grw).gn fh).gn dw.grw).gn ei.grw) gl, Z, ?_⟩, ?_, ?_, ⟨show (0 : Int) ≤ bx / 2 by omega, show bx / 2 ≤ (1 : Int) by omega⟩⟩, by omega, by omega, ((ou.gn dw.grw).gn ei.grw), (low1 (low1 (grown_trans i2 fh) dw.grw (by omega)) ei.grw (by omega))⟩))
 intro x hx; first | (simp [zeros4] at hx; subst hx; exact ⟨by decide, by decide, by decide, by decide⟩) | simp at hx
 · first | exact Nat.le_of_ble_eq_true rfl | omega | (simp only [List.length_nil]; omega)
 exact Nat.le_of_ble_eq_true Z
 have uy := of_decide_eq_false il
 refine Xa (X6 (q := decide (k = 4)) Z Z Z Z (Xe (v := vb (decide (k = 4))) Z Z (Xb (X0 Z (fun im => ?_) (fun im => ?_)))))
 have uz := of_decide_eq_true im
 refine Xa (Xd (v := pt R 0) Z Z (Xn Qo (Xf Z (Xf Z Xm)) Z (Qb ah 4 (by omega) _ R bs _ _ _ ((gr.grown0 af.grw).gn ad.grw) (by omega) (SlLt.low1 hs br hlo) (by first | exact hb | exact fun b h => hb b (List.mem_of_mem_take h)) (by first | omega | (rw [List.length_take]; omega))) ?_))
 rintro _ w7 ⟨jm, rfl, tf, tg, ov, fi⟩
 refine Xe (v := vi jm) Z Z (Xb (X9 (Ql (fun mm f' w' => ∃ (n : Int) (p1 : Int) (Bq : Nat) (cq : Nat) (ys : List Int), mm = n.toNat ∧ (0 ≤ n ∧ n ≤ 3) ∧ (ah + 1 ≤ p1 ∧ p1 ≤ (ah + 1) + 3 - n) ∧ (ys.length : Int) ≤ 3 - n ∧ Dw.Own w' Bq 3 1 cq ys.length (ys.flatMap icell) ∧ w.heap.size ≤ Bq ∧ R ≠ Bq ∧ bd ≠ Bq ∧ ag ≠ Bq ∧ d7 ≠ Bq ∧ f' 9 = vi n ∧ f' 0 = pt R 0 ∧ f' 6 = pt bd 0 ∧ f' 7 = pt d7 0 ∧ w.grownBy w' (some R) ∧ Blk w' bd 39 #[vi 0, vi 0, vi 0, vi 0, vi 0, .slice none 0 0, .slice none 0 0, vi 0] ∧ Dw.Own w' ag 33 5 J ([] : List Rt).length (([] : List Rt).flatMap Rt.cells) ∧ Blk w' d7 39 #[vi k, vi E.s, vi E.v, vi 0, vi 0, .slice (pa ag) 0 J, .slice (pa Bq) ys.length cq, vi to] ∧ Blk w' R 76 #[.slice a bs.length c, vi p1]) (jm.toNat) ⟨jm, (ah + 1), az, ae, ([] : List Int), Z, (by omega), (by omega), (by simp only [List.length_nil]; omega), (((d9.grown0 af.grw).gn ad.grw).gn fi), gm, (by omega), (by omega), (by omega), (by omega), Z, Z, Z, Z, (grown_trans br fi), (((gt.grown0 af.grw).gn ad.grw).gn fi), (((d8.grown0 af.grw).gn ad.grw).gn fi), (ad.blk.gn fi), ov⟩ ?_)))
 rintro mm t6 m9 ⟨n, p1, Bq, cq, ys, tp, hnn, hpp, hyl, hOwn, hlBq, rp, rq, rr, ru, l9, qq, ib, ma, ga, jo, jp, g9, mv⟩
 refine Xq (Xa (Xd (v := vi n) l9 Z (Jm (q := decide (0 < n)) Z Z Z Z (Xb (X0 Z (fun io => ?_) (fun io => ?_))))))
 have u0 := of_decide_eq_true io
 refine Xz (Xu (Xq (X9 (Qv (m := 5) [[], [0], [], [2], [2, 3], [0, 1, 2, 3, 4], [0, 1, 2, 3, 4, 5], [0, 1, 2, 3, 4, 5, 6]] (fun S F w' => ∃ (ak : Int) (aw : Nat), m9.grownBy w' (some R) ∧ F 0 = pt R 0 ∧ F 6 = pt bd 0 ∧ F 7 = pt d7 0 ∧ F 9 = vi n ∧ (S 3 = false → Blk w' R 76 #[.slice a bs.length c, vi p1]) ∧ (S 3 = true → F 48 = vi ak ∧ 0 ≤ ak ∧ (ak < 20 ∨ ak = 0) ∧ Blk w' R 76 #[.slice a bs.length c, vi (p1 + 1)]) ∧ (S 4 = true → F 49 = .slice (pa aw) 1 1 ∧ w.heap.size ≤ aw ∧ Blk w' aw 3 (([ak] : List Int).flatMap icell).toArray ∧ bd < aw ∧ ag < aw ∧ d7 < aw ∧ R < aw ∧ Bq < aw ∧ m9.heap.size ≤ aw) ∧ Vals S F [(0, 45, pt d7 6), (1, 46, .slice (pa Bq) ys.length cq), (2, 47, pt R 0)]) Yz (by kernel_rfl) ⟨0, 0, X8 _, qq, ib, ma, l9, fun _ => (mv).grown0 (X8 _), Ym, Ym, J2 _⟩ ?_ ?_))))
 refine Xi (fun S F w8 hS hbef hcl hI => ?_) ?_
 obtain ⟨ak, aw, nq, qr, qt, mb, qu, c_old_R, a8, bm, hvs⟩ := hI
 exact Xc (o' := 6) Qq mb Z Z (Xb ⟨ak, aw, nq, qr, qt, mb, qu, fun h => c_old_R h, a8, bm, Vals.up 0 hvs Z Z Z⟩)
 refine Xi (fun S F w9 hS hbef hcl hI => ?_) ?_
 obtain ⟨ak, aw, i9, qv, qw, qx, qy, c_old_R, a8, bm, hvs⟩ := hI
 exact Xh (v := .slice (pa Bq) ys.length cq) Ju (Vals.at 0 hvs Z (Xl 0 hbef Z)) ((g9.gn i9).cell Z) Z (Xb ⟨ak, aw, i9, qv, qw, qx, qy, fun h => c_old_R h, a8, bm, Vals.up 1 hvs Z Z Z⟩)
 refine Xi (fun S F xa hS hbef hcl hI => ?_) ?_
 obtain ⟨ak, aw, nr, mc, qz, q0, q4, c_old_R, a8, bm, hvs⟩ := hI
 exact Xd (v := pt R 0) mc Z (Xb ⟨ak, aw, nr, mc, qz, q0, q4, fun h => c_old_R h, Xv 3 hS hcl Z, Xv 4 hS hcl Z, Vals.up 2 hvs Z Z Z⟩)
 refine Xi (fun S F xb hS hbef hcl hI => ?_) ?_
 obtain ⟨ak, aw, ja, q5, q6, q7, q8, c_old_R, a8, bm, hvs⟩ := hI
 refine Xn Qo (Xf (Vals.at 2 hvs Z (Xl 2 hbef Z)) (Xf Z Xm)) Z (Qb p1 20 (by omega) _ R bs _ _ _ (c_old_R hS) (by omega) (SlLt.low1 hs (grown_trans ga ja) hlo) (by first | exact hb | exact fun b h => hb b (List.mem_of_mem_take h)) (by first | omega | (rw [List.length_take]; omega))) ?_
 rintro _ xc ⟨ry, rfl, n7, n9, ow, nn⟩
 exact Xb ⟨ry, aw, (grown_trans ja nn), q5, q6, q7, q8, fun h => Jq h, fun _ => ⟨Z, n7, n9, ow⟩, Xv 4 hS hcl Z, Vals.keep hvs Z⟩
 refine Xi (fun S F xd hS hbef hcl hI => ?_) ?_
 obtain ⟨ak, aw, cw, q9, ra, rb, rf, c_old_R, a8, bm, hvs⟩ := hI
 obtain ⟨rg, ny, n5, bc⟩ := a8 (Xl 3 hbef rfl)
 refine X7 (ps := [(0, vi ak)]) (e := 3) (cs := (([ak] : List Int).flatMap icell).toArray) (Xk rg X5) (fun _ => by kernel_rfl) Z ?_
 intro pp xe ba
 have lv := Yd ba (grown_trans ga cw)
 have fr := Xo ba ((jo.gn cw)).lt
 have fv := Xo ba ((jp.gn cw)).lt
 have fw := Xo ba ((g9.gn cw)).lt
 have gx := Xo ba ((hOwn.gn cw)).lt
 have pi := Xo ba (bc).lt
 exact Xb ⟨ak, pp, (low0 cw ba.grw), q9, ra, rb, rf, fun hn => Jq ((Xl 3 hbef Z).symm.trans hn), fun h => let ⟨r5, r6, r7, r8⟩ := a8 h; ⟨r5, r6, r7, (r8).grown0 ba.grw⟩, fun _ => ⟨Z, lv, ba.blk, fr, fv, fw, (by omega), gx, (nt cw.size (Nat.le_of_eq ba.eq.symm))⟩, Vals.keep hvs Z⟩
 exact Jb
 intro S F xf hall hI
 obtain ⟨ak, aw, fp, rh, ri, me, rj, c_old_R, a8, bm, hvs⟩ := hI
 have i3 := grown_trans ga fp
 obtain ⟨t4, ny, n5, bc⟩ := a8 (hall 3 (by decide))
 obtain ⟨rk, sg, gv, j7, kr, kx, ph, m7, ro⟩ := bm (hall 4 (by decide))
 have mw := (jo.gn fp)
 have my := (jp.gn fp)
 have mz := (g9.gn fp)
 refine V9 (g := icell) (ys := ys) (zs := ([ak] : List Int)) Vs Z Yq (by omega) Jz (Vals.at 1 hvs Z (hall 1 (by decide))) rk (hOwn.gn fp) (Jo Yq gv) (by simp only [List.length_cons, List.length_nil]; omega) (by omega) Z ?_
 intro cz f8 xh nh fj l3
 have lw : w.heap.size ≤ cz := by rcases l3 with h | h; (rw [h]; exact hlBq); (rw [h]; exact i3.size)
 have k4 : bd ≠ cz := by have h := (mw).lt; omega
 have ld : ag ≠ cz := by have h := (my).lt; omega
 have le : d7 ≠ cz := by have h := (mz).lt; omega
 have pn : R ≠ cz := by have h := (bc).lt; omega
 have lg : aw ≠ cz := by have h := (gv).lt; omega
 refine Xc (o' := 6) Qq me Z Z (Yc (v := .slice (pa cz) (ys ++ ([ak] : List Int)).length f8) (cs' := #[vi k, vi E.s, vi E.v, vi 0, vi 0, .slice (pa ag) 0 J, .slice (pa cz) (ys ++ ([ak] : List Int)).length f8, vi to]) Ju Z Z Z (mz.gn fj) (Nat.le_of_ble_eq_true Z) Z ?_)
 intro xi dx
 exact Xb (Y3 (Xu (X2 (Xd (v := vi n) rj Z (Yr (c := n - 1) Z Z (by omega) (by omega) (by omega) Z (Xe (v := vi (n - 1)) Z Z (Xb (Xu (⟨(n - 1).toNat, by omega, (n - 1), (p1 + 1), cz, f8, (ys ++ ([ak] : List Int)), Z, (by omega), (by omega), (by simp only [List.length_append, List.length_cons, List.length_nil]; omega), (nh.gn dx.grw), lw, (by omega), (by omega), (by omega), (by omega), Z, rh, ri, me, (low1 (low1 i3 fj (by omega)) dx.grw (by omega)), ((mw.gn fj).gn dx.grw), ((my.gn fj).gn dx.grw), dx.blk, ((bc.gn fj).gn dx.grw)⟩)))))))))
 have u1 := of_decide_eq_false io
 refine Qf (Y9 (Y9 (Jh (Y3 (Xu (Xa (Xr (vs := [vi k, vi E.s, vi E.v, vi 0, vi 0, .slice (pa ag) 0 J, .slice (pa Bq) ys.length cq, vi to]) Ys ma Z (g9.rangeL 0 8 Z) Z (Xy (vs := [vi k, vi E.s, vi E.v, vi 0, vi 0, .slice (pa ag) 0 J, .slice (pa Bq) ys.length cq, vi to]) (cs' := #[vi k, vi E.s, vi E.v, vi 0, vi 0, .slice (pa ag) 0 J, .slice (pa Bq) ys.length cq, vi to]) Ys ib Z Z (by simp [Value.oneCell']) jo (Nat.le_of_ble_eq_true Z) Z ?_))))))))
 intro xj ej
 refine Xb (Xt (⟨.agg #[vi k, vi E.s, vi E.v, vi 0, vi 0, .slice (pa ag) 0 J, .slice (pa Bq) ys.length cq, vi to], Jt Z (Yh (vs := [vi k, vi E.s, vi E.v, vi 0, vi 0, .slice (pa ag) 0 J, .slice (pa Bq) ys.length cq, vi to]) Ys ib Z (ej.blk.rangeL 0 8 Z)), ⟨⟨k, E, 0, 0, ([] : List Rt), ys, to⟩, some ⟨ag, 0, none⟩, J, some ⟨Bq, 0, none⟩, cq⟩, p1, Z, ⟨OwnN.of (hOwn.gn ej.grw) hlBq, ⟨([] : List Rt), OwnN.of (jp.gn ej.grw) gl, Z, ?_⟩, ?_, ?_, ⟨show (0 : Int) ≤ 0 by omega, show 0 ≤ (1 : Int) by omega⟩⟩, by omega, by omega, (mv.gn ej.grw), (low1 ga ej.grw (by omega))⟩))
 intro x hx; first | (simp [zeros4] at hx; subst hx; exact ⟨by decide, by decide, by decide, by decide⟩) | simp at hx
 · first | exact Nat.le_of_ble_eq_true rfl | omega | (simp only [List.length_nil]; omega)
 exact Nat.le_of_ble_eq_true Z
 have u2 := of_decide_eq_false im
 refine Xa (X6 (q := decide (k = 3)) Z Z Z Z (Xe (v := vb (decide (k = 3))) Z Z (Xb (Y4 Z mf (Xz (Y3 (Xu (Xa (Xr (vs := [vi k, vi E.s, vi E.v, vi 0, vi 0, .slice (pa ag) 0 J, .slice (pa az) 0 ae, vi to]) Ys Z Z (ad.blk.rangeL 0 8 Z) Z (Xy (vs := [vi k, vi E.s, vi E.v, vi 0, vi 0, .slice (pa ag) 0 J, .slice (pa az) 0 ae, vi to]) (cs' := #[vi k, vi E.s, vi E.v, vi 0, vi 0, .slice (pa ag) 0 J, .slice (pa az) 0 ae, vi to]) Ys Z Z Z (by simp [Value.oneCell']) ((gt.grown0 af.grw).gn ad.grw) (Nat.le_of_ble_eq_true Z) Z ?_))))))))))
 intro xk ek
 refine Xb (Xt (⟨.agg #[vi k, vi E.s, vi E.v, vi 0, vi 0, .slice (pa ag) 0 J, .slice (pa az) 0 ae, vi to], Jt Z (Yh (vs := [vi k, vi E.s, vi E.v, vi 0, vi 0, .slice (pa ag) 0 J, .slice (pa az) 0 ae, vi to]) Ys Z Z (ek.blk.rangeL 0 8 Z)), ⟨⟨k, E, 0, 0, ([] : List Rt), ([] : List Int), to⟩, some ⟨ag, 0, none⟩, J, some ⟨az, 0, none⟩, ae⟩, ah, Z, ⟨OwnN.of (((d9.grown0 af.grw).gn ad.grw).gn ek.grw) gm, ⟨([] : List Rt), OwnN.of (((d8.grown0 af.grw).gn ad.grw).gn ek.grw) gl, Z, ?_⟩, ?_, ?_, ⟨show (0 : Int) ≤ 0 by omega, show 0 ≤ (1 : Int) by omega⟩⟩, by omega, by omega, (((gr.grown0 af.grw).gn ad.grw).gn ek.grw), (low1 br ek.grw (by omega))⟩))
 intro x hx; first | (simp [zeros4] at hx; subst hx; exact ⟨by decide, by decide, by decide, by decide⟩) | simp at hx
 · first | exact Nat.le_of_ble_eq_true rfl | omega | (simp only [List.length_nil]; omega)
 exact Nat.le_of_ble_eq_true Z
 have u3 : thingOk (⟨k, E, 0, 0, [], [], to⟩ : Th) = false := (K4 bn).symm.trans gq
 refine Xn W6 (Xf Z (Xf Z (Xf Z Xm))) Z (Pg k to E bn gq _) ?_
 rintro _ xl ⟨rfl, g7⟩
 have i4 := low0 bq g7
 refine Xd (v := .tuple #[.agg #[vi 0, vi 0, vi 0, vi 0, vi 0, .slice none 0 0, .slice none 0 0, vi 0], vb false]) Z Z (Ye (v := .agg #[vi 0, vi 0, vi 0, vi 0, vi 0, .slice none 0 0, .slice none 0 0, vi 0]) Z Z Z (Ye (v := vb false) Z Z Z (Yf (cs := #[vi 0, vi 0, vi 0, vi 0, vi 0, .slice none 0 0, .slice none 0 0, vi 0]) Ka Z Z ?_)))
 intro tz xm cj
 have sh := Yd cj i4
 have m4 := (ca.grown0 g7)
 have pj := Xo cj (m4).lt
 have m5 := ((bp.blk.gn eo).grown0 g7)
 have j8 := Xo cj (m5).lt
 refine Xy (vs := [vi 0, vi 0, vi 0, vi 0, vi 0, .slice none 0 0, .slice none 0 0, vi 0]) (cs' := #[vi 0, vi 0, vi 0, vi 0, vi 0, .slice none 0 0, .slice none 0 0, vi 0]) Ys Z Z Z (by simp [Value.oneCell']) cj.blk (Nat.le_of_ble_eq_true Z) Z ?_
 intro xn co
 have gz := low1 (low0 i4 cj.grw) co.grw (by omega)
 refine Xe (v := vb false) Z Z (Xb (Xq (Xa (Xc (o' := 0) Qd Z Z Z (Xh (v := vi 0) X1 Z (co.blk.cell Z) Z (X6 (q := true) Z Z (by decide) Z (Xb (Qa Z Z (X2 (Yv (ps := []) (v := .agg #[vi 0, vi 0]) X5 (by kernel_rfl) Z ?_))))))))))
 have jq := ((m4.grown0 cj.grw).gn co.grw)
 have jr := ((m5.grown0 cj.grw).gn co.grw)
 have u4 : thingOk (⟨1, ⟨0, 0⟩, 0, 0, [], [], 0⟩ : Th) = true := (K4 (by decide)).symm.trans (by decide)
 refine Xn W6 (Xf Z (Xf Z (Xf Z Xm))) Z (Kw 1 0 ⟨0, 0⟩ (by decide) (by decide) _) ?_
 rintro _ xp ⟨bk, ar, bl, au, rfl, d2, ni, d3, nj, lh, gg⟩
 have ly := nt gz.size d2
 have pk := nl (jq).lt d2
 have j9 := nl (jr).lt d2
 have ky := nl (co.blk).lt d2
 have lz := nt gz.size d3
 have pl := nl (jq).lt d3
 have ka := nl (jr).lt d3
 have kz := nl (co.blk).lt d3
 refine Xd (v := .tuple #[.agg #[vi 1, vi 0, vi 0, vi 0, vi 0, .slice (pa bk) 0 ar, .slice (pa bl) 0 au, vi 0], vb true]) Z Z (Ye (v := .agg #[vi 1, vi 0, vi 0, vi 0, vi 0, .slice (pa bk) 0 ar, .slice (pa bl) 0 au, vi 0]) Z Z Z (Ye (v := vb true) Z Z Z (Xy (vs := [vi 1, vi 0, vi 0, vi 0, vi 0, .slice (pa bk) 0 ar, .slice (pa bl) 0 au, vi 0]) (cs' := #[vi 1, vi 0, vi 0, vi 0, vi 0, .slice (pa bk) 0 ar, .slice (pa bl) 0 au, vi 0]) Ys Z Z Z (by simp [Value.oneCell']) (co.blk.grown0 gg) (Nat.le_of_ble_eq_true Z) Z ?_)))
 intro xq ct
 have i5 := low1 (low0 gz gg) ct.grw (by omega)
 refine Xb (Xu (Xq (Xa (Xc (o' := 0) Qd Z Z Z (Xh (v := vi 1) X1 Z (ct.blk.cell Z) Z (Xb (X9 (Xa (X6 (q := true) Z Z (by decide) Z (Xe (v := vb true) Z Z (Xb (Qa Z Z ?_))))))))))))
 refine Xa (Xd (v := pt R 0) Z Z (Xn Qo (Xf Z (Xf Z Xm)) Z (Qb ah 20 (by omega) _ R bs _ _ _ ((jq.grown0 gg).gn ct.grw) (by omega) (SlLt.low1 hs i5 hlo) (by first | exact hb | exact fun b h => hb b (List.mem_of_mem_take h)) (by first | omega | (rw [List.length_take]; omega))) ?_))
 rintro _ xu ⟨df, rfl, ti, tj, ox, fk⟩
 refine Xc (o' := 4) Qw Z Z Z (Yc (v := vi df) (cs' := #[vi 1, vi 0, vi 0, vi 0, vi df, .slice (pa bk) 0 ar, .slice (pa bl) 0 au, vi 0]) X1 Z Z Z (ct.blk.gn fk) (Nat.le_of_ble_eq_true Z) Z ?_)
 intro xv dy
 have i6 := low1 (grown_trans i5 fk) dy.grw (by omega)
 refine Xb (X2 (Xd (v := pt R 0) Z Z (Xn Qo (Xf Z (Xf Z Xm)) Z (Qb (ah + 1) 3 (by omega) _ R bs _ _ _ (ox.gn dy.grw) (by omega) (SlLt.low1 hs i6 hlo) (by first | exact hb | exact fun b h => hb b (List.mem_of_mem_take h)) (by first | omega | (rw [List.length_take]; omega))) ?_)))
 rintro _ xw ⟨bz, rfl, tk, tl, oy, fm⟩
 refine K5 (c := bz / 2) Z Z (by omega) (by omega) (by omega) Z Z (Xc (o' := 3) Qz Z Z Z (Yc (v := vi (bz / 2)) (cs' := #[vi 1, vi 0, vi 0, vi (bz / 2), vi df, .slice (pa bk) 0 ar, .slice (pa bl) 0 au, vi 0]) X1 Z Z Z (dy.blk.gn fm) (Nat.le_of_ble_eq_true Z) Z ?_))
 intro xx dz
 refine Xb (Y3 (Xu (Xa (Xr (vs := [vi 1, vi 0, vi 0, vi (bz / 2), vi df, .slice (pa bk) 0 ar, .slice (pa bl) 0 au, vi 0]) Ys Z Z (dz.blk.rangeL 0 8 Z) Z (Xy (vs := [vi 1, vi 0, vi 0, vi (bz / 2), vi df, .slice (pa bk) 0 ar, .slice (pa bl) 0 au, vi 0]) (cs' := #[vi 1, vi 0, vi 0, vi (bz / 2), vi df, .slice (pa bk) 0 ar, .slice (pa bl) 0 au, vi 0]) Ys Z Z Z (by simp [Value.oneCell']) ((((((jr.grown0 gg).gn ct.grw).gn fk).gn dy.grw).gn fm).gn dz.grw) (Nat.le_of_ble_eq_true Z) Z ?_)))))
 intro xy em
 refine Xb (Xt (⟨.agg #[vi 1, vi 0, vi 0, vi (bz / 2), vi df, .slice (pa bk) 0 ar, .slice (pa bl) 0 au, vi 0], Jt Z (Yh (vs := [vi 1, vi 0, vi 0, vi (bz / 2), vi df, .slice (pa bk) 0 ar, .slice (pa bl) 0 au, vi 0]) Ys Z Z (em.blk.rangeL 0 8 Z)), ⟨⟨1, ⟨0, 0⟩, bz / 2, df, ([] : List Rt), ([] : List Int), 0⟩, some ⟨bk, 0, none⟩, ar, some ⟨bl, 0, none⟩, au⟩, (ah + 1 + 1), Z, ⟨OwnN.of ((((((nj.gn ct.grw).gn fk).gn dy.grw).gn fm).gn dz.grw).gn em.grw) lz, ⟨([] : List Rt), OwnN.of ((((((ni.gn ct.grw).gn fk).gn dy.grw).gn fm).gn dz.grw).gn em.grw) ly, Z, ?_⟩, ?_, ?_, ⟨show (0 : Int) ≤ bz / 2 by omega, show bz / 2 ≤ (1 : Int) by omega⟩⟩, by omega, by omega, ((oy.gn dz.grw).gn em.grw), (low1 (low1 (grown_trans i6 fm) dz.grw (by omega)) em.grw (by omega))⟩))
 intro x hx; first | (simp [zeros4] at hx; subst hx; exact ⟨by decide, by decide, by decide, by decide⟩) | simp at hx
 · first | exact Nat.le_of_ble_eq_true rfl | omega | (simp only [List.length_nil]; omega)
 exact Nat.le_of_ble_eq_true Z
theorem Lf (p : Int) (hp : 0 ≤ p ∧ p ≤ 999999990000) (lo R : Nat) (bs : List Int) (a : Option Addr) (c : Nat) (w : World) (hR : Blk w R 76 #[.slice a bs.length c, vi p]) (hlo : lo ≤ R) (hs : SlLt lo w a 1 (bs.map bcell)) (hb : ∀ b ∈ bs, 0 ≤ b ∧ b ≤ 255) (hn : bs.length ≤ 1048576) : CallsR Tryz.prog 50 #[pt R 0] w (fun v w' => ∃ (B cap : Nat) (ms : List MTh) (p' : Int), v = .slice (pa B) ms.length cap ∧ TabG w.heap.size w' (pa B) ms ∧ Small ms ∧ (3 ≤ ms.length ∧ ms.length ≤ 8) ∧ p ≤ p' ∧ p' ≤ p + 600 ∧ Blk w' R 76 #[.slice a bs.length c, vi p'] ∧ w.grownBy w' (some R)) := by
 refine Xx (n := 142) Tryz.func50 Z Tryz.ntmps50 Z ?_
 have l6 := World.grownBy.refl w (some R)
 have hRlt := hR.lt
 refine Xa (Xe (v := .slice none 0 0) Z Z (Xb (Xa (X7 (ps := [(0, vi 1), (1, vi 3), (2, vi 3)]) (e := 3) (cs := (([1, 3, 3] : List Int).flatMap icell).toArray) (Xk Z (Xk Z (Xk Z X5))) (fun _ => by kernel_rfl) Z ?_))))
 intro gy qb bb
 have gq := Yd bb l6
 have j7 := Xo bb (hR).lt
 have ee := low0 l6 bb.grw
 refine Xe (v := .slice (pa gy) 3 3) Z Z (Xb (Xq (Xa (Xd (v := pt R 0) Z Z (Xn Qo (Xf Z (Xf Z Xm)) Z (Qb p 6 (by omega) _ R bs _ _ _ (hR.grown0 bb.grw) (by omega) (SlLt.low1 hs ee hlo) (by first | exact hb | exact fun b h => hb b (List.mem_of_mem_take h)) (by first | omega | (rw [List.length_take]; omega))) ?_)))))
 rintro _ qd ⟨fe, rfl, m6, m7, j3, ew⟩
 refine Xe (v := vi fe) Z Z (Xb (X9 (Ql (fun mm f' w' => ∃ (n : Int) (p1 : Int) (Bk : Nat) (ck : Nat) (ks : List Int), mm = n.toNat ∧ (0 ≤ n ∧ n ≤ 5) ∧ (p ≤ p1 ∧ p1 ≤ p + 6 - n) ∧ (3 ≤ ks.length ∧ (ks.length : Int) ≤ 8 - n) ∧ (∀ y ∈ ks, 1 ≤ y ∧ y ≤ 5) ∧ Dw.Own w' Bk 3 1 ck ks.length (ks.flatMap icell) ∧ w.heap.size ≤ Bk ∧ R ≠ Bk ∧ f' 3 = .slice (pa Bk) ks.length ck ∧ f' 4 = vi n ∧ f' 0 = pt R 0 ∧ f' 2 = .slice none 0 0 ∧ w.grownBy w' (some R) ∧ Blk w' R 76 #[.slice a bs.length c, vi p1]) (fe.toNat) ⟨fe, (p + 1), gy, 3, ([1, 3, 3] : List Int), Z, (by omega), (by omega), (by simp only [List.length_nil, List.length_cons]; omega), (by intro y hy; simp at hy; omega), (Own.rows Yq (bb.blk.gn ew) (by simp)), gq, (by omega), Z, Z, Z, Z, (grown_trans ee ew), j3⟩ ?_)))
 rintro mm ol qe ⟨n, p1, Bk, ck, ks, no, hnn, hpp, hkl, hks, hOk, hlBk, pm, g0, g5, dx, g6, br, dr⟩
 refine Xq (Xa (Xd (v := vi n) g5 Z (Jm (q := decide (0 < n)) Z Z Z Z (Xb (X0 Z (fun d5 => ?_) (fun d5 => ?_))))))
 have ov := of_decide_eq_true d5
 refine Xz (Xu (Xq (X9 (X2 (Xd (v := .slice (pa Bk) ks.length ck) g0 Z (X7 (ps := [(0, vi 1), (1, vi 2), (2, vi 2), (3, vi 3), (4, vi 4), (5, vi 5)]) (e := 3) (cs := (([1, 2, 2, 3, 4, 5] : List Int).flatMap icell).toArray) (Xk Z (Xk Z (Xk Z (Xk Z (Xk Z (Xk Z X5)))))) (fun _ => by kernel_rfl) Z ?_))))))
 intro kh qf an
 have mp := Yd an br
 have j8 := Xo an (dr).lt
 have i9 := Xo an (hOk).lt
 have ef := low0 br an.grw
 refine Xd (v := pt R 0) dx Z (Xn Qo (Xf Z (Xf Z Xm)) Z (Qb p1 6 (by omega) _ R bs _ _ _ (dr.grown0 an.grw) (by omega) (SlLt.low1 hs ef hlo) (by first | exact hb | exact fun b h => hb b (List.mem_of_mem_take h)) (by first | omega | (rw [List.length_take]; omega))) ?_)
 rintro _ qg ⟨ff, rfl, m8, m9, fk, co⟩
 have eg := grown_trans ef co
 refine X4 (o' := (ff).toNat * 1) J4 Z Z (by omega) (by omega) (by omega) Z ?_
 have fg := (an.blk.gn co)
 obtain ⟨bl, fc⟩ := Ja (l := ([1, 2, 2, 3, 4, 5] : List Int)) (i := (ff).toNat) (lq (ff).toNat 6)
 have jy := List.mem_of_getElem? fc
 simp only [List.mem_cons, List.not_mem_nil, or_false] at jy
 refine Xh (v := vi bl) X1 Z ((Qs Yq fg fc) 0 _ Z) Z (X7 (ps := [(0, vi bl)]) (e := 3) (cs := (([bl] : List Int).flatMap icell).toArray) (Xk Z X5) (fun _ => by kernel_rfl) Z ?_)
 intro ki qh ai
 have mq := Yd ai eg
 have j9 := Xo ai (fk).lt
 have ii := ((hOk.grown0 an.grw).gn co)
 have ja := Xo ai (ii).lt
 have ft := Xo ai (fg).lt
 have eh := low0 eg ai.grw
 have ij := (fk.grown0 ai.grw)
 refine V9 (g := icell) (ys := ks) (zs := ([bl] : List Int)) Vs Z Yq (by omega) Jz Z Z (ii.grown0 ai.grw) (Jo Yq ai.blk) (by simp only [List.length_cons, List.length_nil]; omega) (by omega) Z ?_
 intro bh db qi jh ez gv
 have gr : w.heap.size ≤ bh := by rcases gv with h | h; (rw [h]; exact hlBk); (rw [h]; exact eh.size)
 have kf : R ≠ bh := by have h := (ij).lt; omega
 have fu : kh ≠ bh := by have h := ((fg.grown0 ai.grw)).lt; omega
 have fv : ki ≠ bh := by have h := (ai.blk).lt; omega
 exact Xe (v := .slice (pa bh) (ks ++ ([bl] : List Int)).length db) Z Z (Xb (Y3 (Xu (X2 (Xd (v := vi n) g5 Z (Yr (c := n - 1) Z Z (by omega) (by omega) (by omega) Z (Xe (v := vi (n - 1)) Z Z (Xb (Xu (⟨(n - 1).toNat, by omega, (n - 1), (p1 + 1), bh, db, (ks ++ ([bl] : List Int)), Z, (by omega), (by omega), (by simp only [List.length_append, List.length_cons, List.length_nil]; omega), (by intro y hy; rcases List.mem_append.1 hy with h | h; exact hks y h; (simp at h; omega)), jh, gr, (by omega), Z, Z, dx, g6, (low1 eh ez (by omega)), (ij.gn ez)⟩))))))))))
 have ow := of_decide_eq_false d5
 refine Qf (Y9 (Y9 (Jh (Xu (Xa (X7 (ps := []) (e := 39) (cs := (([] : List MTh).flatMap MTh.cells).toArray) X5 (fun _ => by kernel_rfl) Z ?_))))))
 intro gz qj ao
 have gt := Yd ao br
 have ka := Xo ao (dr).lt
 have jb := Xo ao (hOk).lt
 refine Xe (v := .slice (pa gz) 0 0) Z Z (Xb (Xq (Xa (Xe (v := vi 0) Z Z (Xb (X9 (Ql (fun mm f' w' => ∃ (i : Nat) (p2 : Int) (Bt : Nat) (ct : Nat) (ms : List MTh), mm = ks.length - i ∧ i ≤ ks.length ∧ (p ≤ p2 ∧ p2 ≤ p + 6 + 12 * (i : Int)) ∧ ms.length = i ∧ RowsD 33 3 w.heap.size w' ms ∧ Dw.Own w' Bt 39 8 ct ms.length (ms.flatMap MTh.cells) ∧ w.heap.size ≤ Bt ∧ R ≠ Bt ∧ Bk ≠ Bt ∧ f' 5 = .slice (pa Bt) ms.length ct ∧ f' 6 = vi (i : Int) ∧ f' 0 = pt R 0 ∧ f' 2 = .slice none 0 0 ∧ f' 3 = .slice (pa Bk) ks.length ck ∧ w.grownBy w' (some R) ∧ Dw.Own w' Bk 3 1 ck ks.length (ks.flatMap icell) ∧ Blk w' R 76 #[.slice a bs.length c, vi p2]) (ks.length - 0) ⟨0, p1, gz, 0, ([] : List MTh), Z, (Nat.zero_le _), (by omega), Z, RowsD.nil, (Own.rows Yj ao.blk (by simp)), gt, (by omega), (by omega), Z, Z, dx, g6, g0, (low0 br ao.grw), (hOk.grown0 ao.grw), (dr.grown0 ao.grw)⟩ ?_)))))))
 rintro mm om jg ⟨i, p2, Bt, ct, ms, np, hi, pp, hml, hRows, hOt, hlBt, pn, po, dy, de, dz, d0, df, bt, fh, ik⟩
 have pl := hkl
 refine Xq (Xa (Xd (v := vi (i : Int)) de Z (Xd (v := .slice (pa Bk) ks.length ck) df Z (Y1 (by kernel_rfl) Z Z (Qg (q := decide ((i : Int) < (ks.length : Int))) Z Z Z Z (Xb (X0 Z (fun d6 => ?_) (fun d6 => ?_))))))))
 have ox := of_decide_eq_true d6
 refine Xz (Xu (Xq (X9 (Xa (Xe (v := vi 0) Z Z (Xb (Xq (Xa (Xd (v := .slice (pa Bk) ks.length ck) df Z (Xd (v := vi (i : Int)) de Z (X4 (o' := i * 1) J4 Z Z (by omega) (by omega) (by omega) Z ?_)))))))))))
 obtain ⟨bf, fd⟩ := Ja (l := ks) (i := i) (by omega)
 refine Xh (v := vi bf) X1 Z ((Own.range Yq fh fd) 0 _ Z) Z (X6 (q := decide (bf = 5)) Z Z Z Z (Xb (To (fun f' w' => (f' 0 = pt R 0 ∧ f' 2 = .slice none 0 0 ∧ f' 3 = .slice (pa Bk) ks.length ck ∧ f' 5 = .slice (pa Bt) ms.length ct ∧ f' 6 = vi (i : Int) ∧ f' 7 = vi (if bf = 5 then 1 else 0)) ∧ jg = w') ?_ ?_)))
 refine X0 Z (fun cd => ?_) (fun cd => ?_)
 have oy := of_decide_eq_true cd
 exact X2 (Xe (v := vi 1) Z Z (Xb (Xu (⟨⟨dz, d0, df, dy, de, (congrArg (Value.int .i64) (if_pos (of_decide_eq_true cd)).symm)⟩, Z⟩))))
 have oz := of_decide_eq_false cd
 exact Xz (Xu (⟨⟨dz, d0, df, dy, de, (congrArg (Value.int .i64) (if_neg (of_decide_eq_false cd)).symm)⟩, Z⟩))
 rintro oo _ ⟨⟨g7, kk, g8, kl, g9, km⟩, rfl⟩
 refine Xu (X2 (Xd (v := .slice (pa Bt) ms.length ct) kl Z (Xd (v := pt R 0) g7 Z (Xd (v := .slice (pa Bk) ks.length ck) g8 Z (Xd (v := vi (i : Int)) g9 Z (X4 (o' := i * 1) J4 Z Z (by omega) (by omega) (by omega) Z (Xh (v := vi bf) X1 Z ((Own.range Yq fh fd) 0 _ Z) Z (Xd (v := vi (if bf = 5 then 1 else 0)) km Z (Xn Xc0 (Xf Z (Xf Z (Xf Z Xm))) Z (Sr bf (if bf = 5 then 1 else 0) p2 (by omega) _ R bs _ _ _ ik (by omega) (SlLt.low1 hs bt hlo) (by first | exact hb | exact fun b h => hb b (List.mem_of_mem_take h)) (by first | omega | (rw [List.length_take]; omega))) ?_)))))))))
 rintro _ qk ⟨ag, mb, rfl, fy, nu, nv, fm, bu⟩
 have ei := grown_trans bt bu
 have fz := RowD.mono fy bt.size
 refine X7 (ps := [(0, .agg #[vi ag.t.kind, vi ag.t.lab.s, vi ag.t.lab.v, vi ag.t.ve, vi ag.t.num, .slice ag.sa ag.t.slots.length ag.sc, .slice ag.qa ag.t.queue.length ag.qc, vi ag.t.to])]) (e := 39) (cs := (([ag] : List MTh).flatMap MTh.cells).toArray) (Xk Z X5) (fun _ => by kernel_rfl) Z ?_
 intro kj qm ad
 have mr := Yd ad ei
 have il := (fh.gn bu)
 have jc := Xo ad (il).lt
 have kb := Xo ad (fm).lt
 have im := (hOt.gn bu)
 have jd := Xo ad (im).lt
 have ej := low0 ei ad.grw
 have fi := (im.grown0 ad.grw)
 have io := (il.grown0 ad.grw)
 have ip := (fm.grown0 ad.grw)
 refine V9 (g := MTh.cells) (ys := ms) (zs := ([ag] : List MTh)) Tg Z Yj (by omega) Ke Z Z fi (Jo Yj ad.blk) (by simp only [List.length_cons, List.length_nil]; omega) (by omega) Z ?_
 intro bi dc qn ji bc gw
 have gu : w.heap.size ≤ bi := by rcases gw with h | h; (rw [h]; exact hlBt); (rw [h]; exact ej.size)
 have jf : Bk ≠ bi := by have h := (io).lt; omega
 have kg : R ≠ bi := by have h := (ip).lt; omega
 have fw : kj ≠ bi := by have h := (ad.blk).lt; omega
 refine Xe (v := .slice (pa bi) (ms ++ ([ag] : List MTh)).length dc) Z Z (Xb (Y3 (Xu (X2 (Xd (v := vi (i : Int)) g9 Z (Yl (c := (i : Int) + 1) Z Z (by omega) (by omega) (by omega) Z (Xe (v := vi ((i : Int) + 1)) Z Z (Xb (Xu ?_)))))))))
 have f8 := (RowsD.typ (RowsD.low (RowsD.lt hRows bu (by omega)) ad.grw) bc fi (by decide) (by decide))
 exact ⟨ks.length - (i + 1), by omega, (i + 1), mb, bi, dc, (ms ++ ([ag] : List MTh)), Z, (by omega), (by omega), (by rw [List.length_append, hml]; rfl), (RowsD.snoc f8 (RowD.typ (RowD.low fz ad.grw) bc fi (by decide) (by decide))), ji, gu, (by omega), (by omega), Z, Z, g7, kk, g8, (low1 ej bc (by omega)), (io.gn bc), (ip.gn bc)⟩
 have o0 := of_decide_eq_false d6
 refine Qf (Y9 (Y9 (Jh (Xu (Xq (Xa (Xe (v := vi 0) Z Z (Xb (X9 ?_)))))))))
 obtain ⟨hi, hhi⟩ : ∃ n, n = jg.heap.size := ⟨_, rfl⟩
 have hH := RowsD.hi hRows
 rw [← hhi] at hH
 have hbt := (hOt).lt
 refine Ql (fun mm f' w' => ∃ (i3 : Nat) (p3 : Int), mm = ms.length - i3 ∧ i3 ≤ ms.length ∧ (p ≤ p3 ∧ p3 ≤ p + 102 + 56 * (i3 : Int)) ∧ RowsD 33 3 w.heap.size w' ms ∧ Dw.Own w' Bt 39 8 ct ms.length (ms.flatMap MTh.cells) ∧ hi ≤ w'.heap.size ∧ f' 8 = vi (i3 : Int) ∧ f' 0 = pt R 0 ∧ f' 2 = .slice none 0 0 ∧ f' 5 = .slice (pa Bt) ms.length ct ∧ w.grownBy w' (some R) ∧ Dw.Own w' Bt 39 8 ct ms.length (ms.flatMap MTh.cells) ∧ Blk w' R 76 #[.slice a bs.length c, vi p3]) (ms.length - 0) ⟨0, p2, Z, (Nat.zero_le _), (by omega), hRows, hOt, (Nat.le_of_eq hhi), Z, dz, d0, dy, bt, hOt, ik⟩ ?_
 rintro mm oq qo ⟨i3, p3, nq, rn, pq, hRows, hOt, hhs, ia, dg, kn, bj, ce, p0, iq⟩
 refine Xq (Xa (Xd (v := vi (i3 : Int)) ia Z (Xd (v := .slice (pa Bt) ms.length ct) bj Z (Y1 (by kernel_rfl) Z Z (Qg (q := decide ((i3 : Int) < (ms.length : Int))) Z Z Z Z (Xb (X0 Z (fun d7 => ?_) (fun d7 => ?_))))))))
 have o1 := of_decide_eq_true d7
 refine Xz (Xu (Xq (X9 (Xa (Xe (v := vi 0) Z Z (Xb (X9 (Ql (fun mm f' w' => ∃ (j : Nat) (p4 : Int), mm = (mAt ms i3).t.slots.length - j ∧ j ≤ (mAt ms i3).t.slots.length ∧ (p3 ≤ p4 ∧ p4 ≤ p3 + 14 * (j : Int)) ∧ RowsD 33 3 w.heap.size w' ms ∧ Dw.Own w' Bt 39 8 ct ms.length (ms.flatMap MTh.cells) ∧ hi ≤ w'.heap.size ∧ f' 9 = vi (j : Int) ∧ f' 0 = pt R 0 ∧ f' 2 = .slice none 0 0 ∧ f' 5 = .slice (pa Bt) ms.length ct ∧ f' 8 = vi (i3 : Int) ∧ w.grownBy w' (some R) ∧ Dw.Own w' Bt 39 8 ct ms.length (ms.flatMap MTh.cells) ∧ Blk w' R 76 #[.slice a bs.length c, vi p4]) ((mAt ms i3).t.slots.length - 0) ⟨0, p3, Z, (Nat.zero_le _), (by omega), hRows, hOt, hhs, Z, dg, kn, bj, ia, ce, hOt, iq⟩ ?_))))))))
 rintro mm ot qp ⟨j, p4, nr, hj, pr, hRows, hOt, hhs, dh, bk, di, bw, bx, cf, p8, ir⟩
 have pz := (RowsD.at hRows (lq i3 ms.length)).sl
 refine Xq (Xa (Xd (v := vi (j : Int)) dh Z (Xd (v := .slice (pa Bt) ms.length ct) bw Z (Xd (v := vi (i3 : Int)) bx Z (X4 (o' := i3 * 8) Qc Z Z (by omega) (by omega) (by omega) Z (Xc (o' := i3 * 8 + 5) Qj Z Z Z ?_))))))
 have mw := (RowsD.at hRows (lq i3 ms.length)).ve
 refine Xh (v := .slice (mAt ms i3).sa (mAt ms i3).t.slots.length (mAt ms i3).sc) Jd Z ((Own.range Yj hOt (xg ms i3)) 5 _ Z) Z (Y1 (by kernel_rfl) Z Z (Qg (q := decide ((j : Int) < ((mAt ms i3).t.slots.length : Int))) Z Z Z Z (Xb (X0 Z (fun d8 => ?_) (fun d8 => ?_)))))
 have o3 := of_decide_eq_true d8
 refine Xz (Xu (Xq (X9 (Xa (Xd (v := pt R 0) bk Z (Xn Xc1 (Xf Z Xm) Z (Sq p4 (by omega) _ R bs _ _ _ ir (by omega) (SlLt.low1 hs cf hlo) (by first | exact hb | exact fun b h => hb b (List.mem_of_mem_take h)) (by first | omega | (rw [List.length_take]; omega))) ?_))))))
 rintro _ qq ⟨E, am, rfl, ny, n5, n7, n9, nw, nx, c9, ah⟩
 have ek := grown_trans cf ah
 refine Yf (cs := #[vi 0, vi 0, vb false, vb false, vb false]) K3 Z Z ?_
 intro bv qr O
 have mt := Yd O ek
 have l7 : hi ≤ bv := nt (nt hhs ah.size) (Nat.le_of_eq O.eq.symm)
 have dt := (hOt.gn ah)
 have je := Xo O (dt).lt
 have kc := Xo O (c9).lt
 refine Xy (vs := [vi E.th, vi E.ve, vb E.rd, vb E.wr, vb E.wk]) (cs' := #[vi E.th, vi E.ve, vb E.rd, vb E.wr, vb E.wk]) Y0 Z Z Z (by simp [Value.oneCell']) O.blk (Nat.le_of_ble_eq_true Z) Z ?_
 intro qt V
 have cg := low1 (low0 ek O.grw) V.grw (by omega)
 refine Xb (Kj (fun f' w' => ∃ (p5 : Int) (r5 : Rt), (p4 ≤ p5 ∧ p5 ≤ p4 + 12) ∧ RB r5 ∧ RowsD 33 3 w.heap.size w' ms ∧ Dw.Own w' Bt 39 8 ct ms.length (ms.flatMap MTh.cells) ∧ hi ≤ w'.heap.size ∧ f' 0 = pt R 0 ∧ f' 2 = .slice none 0 0 ∧ f' 5 = .slice (pa Bt) ms.length ct ∧ f' 8 = vi (i3 : Int) ∧ f' 9 = vi (j : Int) ∧ f' 10 = pt bv 0 ∧ w.grownBy w' (some R) ∧ Blk w' bv 33 #[vi r5.th, vi r5.ve, vb r5.rd, vb r5.wr, vb r5.wk] ∧ Dw.Own w' Bt 39 8 ct ms.length (ms.flatMap MTh.cells) ∧ Blk w' R 76 #[.slice a bs.length c, vi p5]) ?_ ?_)
 refine Xa (Xc (o' := 0) Yo Z Z Z (Xh (v := vi E.th) X1 Z (V.blk.cell Z) Z (Jm (q := decide (0 < E.th)) Z Z Z Z (Xd (v := vb (decide (0 < E.th))) Z Z ?_))))
 rcases Yg (decide (0 < E.th)) with av | av
 have o4 := of_decide_eq_true av
 refine Xg Z Z Z av (Xd (v := pt R 0) bk Z (Xg Z Z Z av (Xn Qo (Xf Z (Xf Z Xm)) Z (Qb am 40 (by omega) _ R bs _ _ _ ((c9.grown0 O.grw).gn V.grw) (by omega) (SlLt.low1 hs cg hlo) (by first | exact hb | exact fun b h => hb b (List.mem_of_mem_take h)) (by first | omega | (rw [List.length_take]; omega))) ?_)))
 rintro _ mc ⟨it, rfl, na, nb, fo, ae⟩
 have cj := grown_trans cg ae
 refine Xg Z Z Z av (Jm (q := decide (0 < it)) Z Z Z Z (Xw (v := vb (decide (0 < it))) Z av Z Z (Xb (X0 Z (fun d9 => ?_) (fun d9 => ?_)))))
 have o5 := of_decide_eq_true d9
 refine Xq (Qv (m := 7) [[], [0], [], [2], [0, 1, 2, 3], [], [5], [0, 1, 2, 3, 4, 5, 6], [0, 1, 2, 3, 4, 5, 6, 7], [0, 1, 2, 3, 4, 5, 6, 7, 8], [0, 1, 2, 3, 4, 5, 6, 7, 8, 9]] (fun S F w' => ∃ (G : Int), mc.grownBy w' (some R) ∧ F 0 = pt R 0 ∧ F 2 = .slice none 0 0 ∧ F 5 = .slice (pa Bt) ms.length ct ∧ F 8 = vi (i3 : Int) ∧ F 9 = vi (j : Int) ∧ F 10 = pt bv 0 ∧ (S 3 = false → Blk w' R 76 #[.slice a bs.length c, vi (am + 1)]) ∧ (S 3 = true → F 77 = vi G ∧ 0 ≤ G ∧ (G < 8 ∨ G = 0) ∧ Blk w' R 76 #[.slice a bs.length c, vi (am + 1 + 1)]) ∧ (S 4 = true → F 78 = vi (E.th + G)) ∧ Vals S F [(0, 74, pt bv 0), (1, 75, vi E.th), (2, 76, pt R 0), (5, 79, .slice (pa Bt) ms.length ct), (6, 80, vi (ms.length : Int))]) Yz (by kernel_rfl) ⟨0, X8 _, bk, di, bw, bx, dh, Z, fun _ => (fo).grown0 (X8 _), Ym, Ym, J2 _⟩ ?_ ?_)
 refine Xi (fun S F qu hS hbef hcl hI => ?_) ?_
 obtain ⟨G, jm, ko, kp, kq, kr, kt, ib, c_old_R, ar, bg, hvs⟩ := hI
 exact Xc (o' := 0) Yo ib Z Z (Xb ⟨G, jm, ko, kp, kq, kr, kt, ib, fun h => c_old_R h, ar, Xv 4 hS hcl Z, Vals.up 0 hvs Z Z Z⟩)
 refine Xi (fun S F qv hS hbef hcl hI => ?_) ?_
 obtain ⟨G, e0, ku, kv, kw, kx, ky, kz, c_old_R, ar, bg, hvs⟩ := hI
 exact Xh (v := vi E.th) X1 (Vals.at 0 hvs Z (Xl 0 hbef Z)) (((V.blk.gn ae).gn e0).cell Z) Z (Xb ⟨G, e0, ku, kv, kw, kx, ky, kz, fun h => c_old_R h, ar, Xv 4 hS hcl Z, Vals.up 1 hvs Z Z Z⟩)
 refine Xi (fun S F qw hS hbef hcl hI => ?_) ?_
 obtain ⟨G, jo, ic, k0, k4, k5, k6, k7, c_old_R, ar, bg, hvs⟩ := hI
 exact Xd (v := pt R 0) ic Z (Xb ⟨G, jo, ic, k0, k4, k5, k6, k7, fun h => c_old_R h, Xv 3 hS hcl Z, Xv 4 hS hcl Z, Vals.up 2 hvs Z Z Z⟩)
 refine Xi (fun S F qx hS hbef hcl hI => ?_) ?_
 obtain ⟨G, fa, k8, k9, la, lc, ld, le, c_old_R, ar, bg, hvs⟩ := hI
 refine Xn Qo (Xf (Vals.at 2 hvs Z (Xl 2 hbef Z)) (Xf Z Xm)) Z (Qb (am + 1) 8 (by omega) _ R bs _ _ _ (c_old_R hS) (by omega) (SlLt.low1 hs (grown_trans cj fa) hlo) (by first | exact hb | exact fun b h => hb b (List.mem_of_mem_take h)) (by first | omega | (rw [List.length_take]; omega))) ?_
 rintro _ qy ⟨l8, rfl, jv, jw, j4, jl⟩
 exact Xb ⟨l8, (grown_trans fa jl), k8, k9, la, lc, ld, le, fun h => Jq h, fun _ => ⟨Z, jv, jw, j4⟩, Xv 4 hS hcl Z, Vals.keep hvs Z⟩
 refine Xi (fun S F qz hS hbef hcl hI => ?_) ?_
 obtain ⟨G, jp, lf, lg, lh, li, lj, lk, c_old_R, ar, bg, hvs⟩ := hI
 obtain ⟨ll, jt, ju, da⟩ := ar (Xl 3 hbef rfl)
 exact Yl (c := E.th + G) (Vals.at 1 hvs Z (Xl 1 hbef Z)) ll (by omega) (by omega) (by omega) Z (Xb ⟨G, jp, lf, lg, lh, li, lj, lk, fun hn => Jq ((Xl 3 hbef Z).symm.trans hn), ar, fun _ => Z, Vals.keep hvs Z⟩)
 refine Xi (fun S F q0 hS hbef hcl hI => ?_) ?_
 obtain ⟨G, jq, lm, ln, ie, lp, lu, lv, c_old_R, ar, bg, hvs⟩ := hI
 exact Xd (v := .slice (pa Bt) ms.length ct) ie Z (Xb ⟨G, jq, lm, ln, ie, lp, lu, lv, fun h => c_old_R h, ar, bg, Vals.up 3 hvs Z Z Z⟩)
 refine Xi (fun S F q4 hS hbef hcl hI => ?_) ?_
 obtain ⟨G, jr, lw, ly, lz, l0, l3, l4, c_old_R, ar, bg, hvs⟩ := hI
 exact Y1 (by kernel_rfl) (Vals.at 3 hvs Z (Xl 5 hbef Z)) Z (Xb ⟨G, jr, lw, ly, lz, l0, l3, l4, fun h => c_old_R h, ar, bg, Vals.up 4 hvs Z Z Z⟩)
 exact Jb
 intro S F q5 hall hI
 obtain ⟨G, aq, dk, d1, dl, d2, d3, au, c_old_R, ar, bg, hvs⟩ := hI
 obtain ⟨oh, jt, ju, da⟩ := ar (hall 3 (by decide))
 obtain l5 := bg (hall 4 (by decide))
 have oa := Int.emod_nonneg (E.th + G) (show (ms.length : Int) ≠ 0 by omega)
 have ob := Int.emod_lt_of_pos (E.th + G) (show 0 < (ms.length : Int) by omega)
 refine Q9 (c := (E.th + G) % (ms.length : Int)) l5 (Vals.at 4 hvs Z (hall 6 (by decide))) (by omega) (by omega) (by omega) Z Z (Yl (c := 1 + ((E.th + G) % (ms.length : Int))) Z Z (by omega) (by omega) (by omega) Z (Xc (o' := 0) Yo au Z Z (Yc (v := vi (1 + ((E.th + G) % (ms.length : Int)))) (cs' := #[vi (1 + ((E.th + G) % (ms.length : Int))), vi E.ve, vb E.rd, vb E.wr, vb E.wk]) X1 Z Z Z ((V.blk.gn ae).gn aq) (Nat.le_of_ble_eq_true Z) Z ?_)))
 intro q6 aj
 refine Xb (Xu (Xa (Xd (v := .slice (pa Bt) ms.length ct) dl Z (Xc (o' := 0) Yo au Z Z (Xh (v := vi (1 + ((E.th + G) % (ms.length : Int)))) X1 Z (aj.blk.cell Z) Z (Yr (c := (1 + ((E.th + G) % (ms.length : Int))) - 1) Z Z (by omega) (by omega) (by omega) Z (X4 (o' := ((1 + ((E.th + G) % (ms.length : Int))) - 1).toNat * 8) Qc Z Z (by omega) (by omega) (by omega) Z (Xc (o' := ((1 + ((E.th + G) % (ms.length : Int))) - 1).toNat * 8 + 3) Qz Z Z Z ?_))))))))
 have du := (((((dt.grown0 O.grw).gn V.grw).gn ae).gn aq).gn aj.grw)
 have ba := (RowsD.ge (RowsD.lt (RowsD.lt (RowsD.ge (RowsD.low (RowsD.lt hRows ah (by omega)) O.grw) V.grw hH (by omega)) ae (by omega)) aq (by omega)) aj.grw hH (by omega))
 have my := (RowsD.at ba (show ((1 + ((E.th + G) % (ms.length : Int))) - 1).toNat < ms.length by omega)).ve
 refine Xh (v := vi (mAt ms ((1 + ((E.th + G) % (ms.length : Int))) - 1).toNat).t.ve) X1 Z ((Own.range Yj du (xg ms ((1 + ((E.th + G) % (ms.length : Int))) - 1).toNat)) 3 _ Z) Z (Xc (o' := 1) Kv au Z Z (Yc (v := vi (mAt ms ((1 + ((E.th + G) % (ms.length : Int))) - 1).toNat).t.ve) (cs' := #[vi (1 + ((E.th + G) % (ms.length : Int))), vi (mAt ms ((1 + ((E.th + G) % (ms.length : Int))) - 1).toNat).t.ve, vb E.rd, vb E.wr, vb E.wk]) X1 Z Z Z aj.blk (Nat.le_of_ble_eq_true Z) Z ?_))
 intro q7 ab
 have cl := low1 (low1 (grown_trans cj aq) aj.grw (by omega)) ab.grw (by omega)
 refine Xb (Xa (Xc (o' := 1) Kv au Z Z (Xh (v := vi (mAt ms ((1 + ((E.th + G) % (ms.length : Int))) - 1).toNat).t.ve) X1 Z (ab.blk.cell Z) Z (Jm (q := decide (0 < (mAt ms ((1 + ((E.th + G) % (ms.length : Int))) - 1).toNat).t.ve)) Z Z Z Z (Xd (v := vb (decide (0 < (mAt ms ((1 + ((E.th + G) % (ms.length : Int))) - 1).toNat).t.ve))) Z Z ?_)))))
 rcases Yg (decide (0 < (mAt ms ((1 + ((E.th + G) % (ms.length : Int))) - 1).toNat).t.ve)) with aw | aw
 have o6 := of_decide_eq_true aw
 refine Xg Z Z Z aw (Xd (v := pt R 0) dk Z (Xg Z Z Z aw (Xn Qo (Xf Z (Xf Z Xm)) Z (Qb (am + 1 + 1) 5 (by omega) _ R bs _ _ _ ((da.gn aj.grw).gn ab.grw) (by omega) (SlLt.low1 hs cl hlo) (by first | exact hb | exact fun b h => hb b (List.mem_of_mem_take h)) (by first | omega | (rw [List.length_take]; omega))) ?_)))
 rintro _ q8 ⟨iu, rfl, nc, nd, fp, ak⟩
 have em := grown_trans cl ak
 refine Xg Z Z Z aw (X6 (q := decide (iu = 0)) Z Z Z Z (Xw (v := vb (decide (iu = 0))) Z aw Z Z (Xb (X0 Z (fun ea => ?_) (fun ea => ?_)))))
 have o7 := of_decide_eq_true ea
 refine X2 (Xc (o' := 1) Kv au Z Z ?_)
 have iv := (ab.blk.gn ak)
 refine Xh (v := vi (mAt ms ((1 + ((E.th + G) % (ms.length : Int))) - 1).toNat).t.ve) X1 Z (iv.cell Z) Z (Yr (c := (mAt ms ((1 + ((E.th + G) % (ms.length : Int))) - 1).toNat).t.ve - 1) Z Z (by omega) (by omega) (by omega) Z (Xc (o' := 1) Kv au Z Z (Yc (v := vi ((mAt ms ((1 + ((E.th + G) % (ms.length : Int))) - 1).toNat).t.ve - 1)) (cs' := #[vi (1 + ((E.th + G) % (ms.length : Int))), vi ((mAt ms ((1 + ((E.th + G) % (ms.length : Int))) - 1).toNat).t.ve - 1), vb E.rd, vb E.wr, vb E.wk]) X1 Z Z Z iv (Nat.le_of_ble_eq_true Z) Z ?_)))
 intro q9 a9
 refine Xb (Xu ?_)
 have f9 := (RowsD.ge (RowsD.lt (RowsD.ge ba ab.grw hH (by omega)) ak (by omega)) a9.grw hH (by omega))
 have iw := (((du.gn ab.grw).gn ak).gn a9.grw)
 exact ⟨(am + 1 + 1 + 1), (⟨1 + ((E.th + G) % (ms.length : Int)), (mAt ms ((1 + ((E.th + G) % (ms.length : Int))) - 1).toNat).t.ve - 1, E.rd, E.wr, E.wk⟩ : Rt), (by omega), (rbo (1 + ((E.th + G) % (ms.length : Int))) ((mAt ms ((1 + ((E.th + G) % (ms.length : Int))) - 1).toNat).t.ve - 1) Z Z), f9, iw, (nt (nt (nt (nt (nt (nt (nt (nt (nt hhs ah.size) O.grw.size) V.grw.size) ae.size) aq.size) aj.grw.size) ab.grw.size) ak.size) a9.grw.size), dk, d1, dl, d2, d3, au, (low1 em a9.grw (by omega)), a9.blk, iw, (fp.gn a9.grw)⟩
 have o8 := of_decide_eq_false ea
 refine Xz (Xu ?_)
 have ga := (RowsD.lt (RowsD.ge ba ab.grw hH (by omega)) ak (by omega))
 have ix := ((du.gn ab.grw).gn ak)
 exact ⟨(am + 1 + 1 + 1), (⟨1 + ((E.th + G) % (ms.length : Int)), (mAt ms ((1 + ((E.th + G) % (ms.length : Int))) - 1).toNat).t.ve, E.rd, E.wr, E.wk⟩ : Rt), (by omega), (rbo (1 + ((E.th + G) % (ms.length : Int))) ((mAt ms ((1 + ((E.th + G) % (ms.length : Int))) - 1).toNat).t.ve) Z Z), ga, ix, (nt (nt (nt (nt (nt (nt (nt (nt hhs ah.size) O.grw.size) V.grw.size) ae.size) aq.size) aj.grw.size) ab.grw.size) ak.size), dk, d1, dl, d2, d3, au, em, (ab.blk.gn ak), ix, fp⟩
 have o9 := of_decide_eq_false aw
 iterate 3 refine Xj rfl rfl rfl aw rfl ?_
 refine Xp (v := vb false) Z aw Z Z (Xb (Y4 Z Z (Xz (Xu ?_))))
 have gb := (RowsD.ge ba ab.grw hH (by omega))
 have iy := (du.gn ab.grw)
 exact ⟨(am + 1 + 1), (⟨1 + ((E.th + G) % (ms.length : Int)), (mAt ms ((1 + ((E.th + G) % (ms.length : Int))) - 1).toNat).t.ve, E.rd, E.wr, E.wk⟩ : Rt), (by omega), (rbo (1 + ((E.th + G) % (ms.length : Int))) ((mAt ms ((1 + ((E.th + G) % (ms.length : Int))) - 1).toNat).t.ve) Z Z), gb, iy, (nt (nt (nt (nt (nt (nt (nt hhs ah.size) O.grw.size) V.grw.size) ae.size) aq.size) aj.grw.size) ab.grw.size), dk, d1, dl, d2, d3, au, cl, ab.blk, iy, ((da.gn aj.grw).gn ab.grw)⟩
 have pb := of_decide_eq_false d9
 refine Xz (Xu ?_)
 have gc := (RowsD.lt (RowsD.ge (RowsD.low (RowsD.lt hRows ah (by omega)) O.grw) V.grw hH (by omega)) ae (by omega))
 have iz := (((dt.grown0 O.grw).gn V.grw).gn ae)
 exact ⟨(am + 1), E, (by omega), (rbo (E.th) (E.ve) Z Z), gc, iz, (nt (nt (nt (nt hhs ah.size) O.grw.size) V.grw.size) ae.size), bk, di, bw, bx, dh, Z, cj, (V.blk.gn ae), iz, fo⟩
 have pc := of_decide_eq_false av
 iterate 3 refine Xj rfl rfl rfl av rfl ?_
 refine Xp (v := vb false) Z av Z Z (Xb (Y4 Z Z (Xz (Xu ?_))))
 have gf := (RowsD.ge (RowsD.low (RowsD.lt hRows ah (by omega)) O.grw) V.grw hH (by omega))
 have i0 := ((dt.grown0 O.grw).gn V.grw)
 exact ⟨am, E, (by omega), (rbo (E.th) (E.ve) Z Z), gf, i0, (nt (nt (nt hhs ah.size) O.grw.size) V.grw.size), bk, di, bw, bx, dh, Z, cg, V.blk, i0, ((c9.grown0 O.grw).gn V.grw)⟩
 rintro ou me ⟨p5, r5, pu, gx, hRows, hOt, hhs, dm, d4, bz, ca, cc, ig, jk, i1, p9, l9⟩
 have pv := gx.1; have pw := gx.2.1; have px := gx.2.2.1; have py := gx.2.2.2
 refine Xq ?_
 obtain ⟨oe, oc, dp, mh, gm, mn⟩ := RowD.slot (RowsD.at hRows (lq i3 ms.length)) (by omega)
 have mf := hH _ (List.mem_of_getElem? (xg ms i3)) _ (Or.inl dp)
 refine Yy (m := 7) (vals := [(104, .slice (pa Bt) ms.length ct), (105, vi (i3 : Int)), (106, pt Bt (i3 * 8)), (107, pt Bt (i3 * 8 + 5)), (108, .slice (mAt ms i3).sa (mAt ms i3).t.slots.length (mAt ms i3).sc), (109, vi (j : Int)), (110, .agg #[vi r5.th, vi r5.ve, vb r5.rd, vb r5.wr, vb r5.wk])]) (fun w' => me.grownBy w' none) Yz (by kernel_rfl) (X8 _) ?_ ?_
 refine yl Z (fun _ _ k => Xd (v := .slice (pa Bt) ms.length ct) bz Z k) (yl Z (fun _ _ k => Xd (v := vi (i3 : Int)) ca Z k) (yl Z (fun _ _ k => X4 (o' := i3 * 8) Qc Z Z (by omega) (by omega) (by omega) Z k) (yl Z (fun _ _ k => Xc (o' := i3 * 8 + 5) Qj Z Z Z k) ?_)))
 refine Qh Z (fun ra cz => ?_) ?_
 have gg := (RowsD.low hRows cz)
 have mz := (RowsD.at gg (lq i3 ms.length)).ve
 exact Xh (v := .slice (mAt ms i3).sa (mAt ms i3).t.slots.length (mAt ms i3).sc) Jd Z ((Own.range Yj (hOt.grown0 cz) (xg ms i3)) 5 _ Z) Z (Xb ⟨Z, cz⟩)
 exact yl Z (fun _ _ k => Xd (v := vi (j : Int)) cc Z k) (yl Z (fun _ js k => Xr (vs := [vi r5.th, vi r5.ve, vb r5.rd, vb r5.wr, vb r5.wk]) Y0 ig Z ((i1.grown0 js).rangeL 0 5 Z) Z k) Y8)
 intro rb al
 refine X3 J9 Z Z dp (Nat.zero_add _) (by omega) (by omega) Z ?_
 have a8 := (gm.grown0 al)
 have bm : RB r5 := (rbo (r5.th) (r5.ve) Z Z)
 have dv := (hOt.grown0 al)
 have mu := K9 dv a8 (by decide)
 have i2 := (l9.grown0 al)
 have bn := (RowsD.low hRows al)
 refine Ls (z' := r5) Y0 Z Z a8 (by omega) Z ?_
 intro rf c8 ac
 refine Xb (Xu (Xa (Xr (vs := [vi r5.th, vi r5.ve, vb r5.rd, vb r5.wr, vb r5.wk]) Y0 ig Z (((i1.grown0 al).gn ac).rangeL 0 5 Z) Z (Xn Xam (Xf Z Xm) Z (Lj r5 _) ?_))))
 rintro _ rg ⟨rfl, af⟩
 have cm := low0 (low1 (low0 jk al) ac (by omega)) af
 refine Yn (b' := !rightOk r5) Z Z Z (Xd (v := vb (!rightOk r5)) Z Z ?_)
 rcases Yg (!rightOk r5) with az | az
 have pd := Jr az
 refine Xg Z Z Z az (Xd (v := pt R 0) dm Z (Xg Z Z Z az (Xn Qo (Xf Z (Xf Z Xm)) Z (Qb p5 3 (by omega) _ R bs _ _ _ ((i2.gn ac).grown0 af) (by omega) (SlLt.low1 hs cm hlo) (by first | exact hb | exact fun b h => hb b (List.mem_of_mem_take h)) (by first | omega | (rw [List.length_take]; omega))) ?_)))
 rintro _ rh ⟨i4, rfl, ne, nf, fq, ap⟩
 have eo := grown_trans cm ap
 refine Xg Z Z Z az (Jm (q := decide (0 < i4)) Z Z Z Z (Xw (v := vb (decide (0 < i4))) Z az Z Z (Xb (X0 Z (fun eb => ?_) (fun eb => ?_)))))
 have pe := of_decide_eq_true eb
 refine X2 (Xd (v := .slice (pa Bt) ms.length ct) bz Z (Xd (v := vi (i3 : Int)) ca Z (X4 (o' := i3 * 8) Qc Z Z (by omega) (by omega) (by omega) Z (Xc (o' := i3 * 8 + 5) Qj Z Z Z ?_))))
 have fj := (((dv.gn ac).grown0 af).gn ap)
 have bp := (RowsD.lt (RowsD.low (RowsD.put bn c8 ac bm a8 (by decide)) af) ap (by omega))
 have m4 := (RowsD.at bp (lq i3 ms.length)).ve
 refine Xh (v := .slice (mAt ms i3).sa (mAt ms i3).t.slots.length (mAt ms i3).sc) Jd Z ((Own.range Yj fj (xg ms i3)) 5 _ Z) Z (Xd (v := vi (j : Int)) cc Z (Yv (ps := []) (v := .agg #[vi 0, vi 0, vb false, vb false, vb false]) X5 (by kernel_rfl) Z ?_))
 obtain ⟨og, od, dq, ml, gp, mo⟩ := RowD.slot (RowsD.at bp (lq i3 ms.length)) (by omega)
 have mg := hH _ (List.mem_of_getElem? (xg ms i3)) _ (Or.inl dq)
 refine X3 J9 Z Z dq (Nat.zero_add _) (by omega) (by omega) Z ?_
 have bq := gp
 have fx : RB (⟨0, 0, false, false, false⟩ : Rt) := (rbo (0) (0) Z Z)
 have mv := K9 fj bq (by decide)
 refine Ls (z' := (⟨0, 0, false, false, false⟩ : Rt)) Y0 Z Z bq (by omega) Z ?_
 intro ri jz bd
 refine Xb (Y3 (Xu (X2 (Xd (v := vi (j : Int)) cc Z (Yl (c := (j : Int) + 1) Z Z (by omega) (by omega) (by omega) Z (Xe (v := vi ((j : Int) + 1)) Z Z (Xb (Xu ?_))))))))
 have gh := (RowsD.put bp jz bd fx bq (by decide))
 have i5 := (fj.gn bd)
 exact ⟨(mAt ms i3).t.slots.length - (j + 1), by omega, (j + 1), (p5 + 1), Z, (by omega), (by omega), gh, i5, (nt (nt (nt (nt (nt hhs al.size) ac.size) af.size) ap.size) bd.size), Z, dm, d4, bz, ca, (low1 eo bd (by omega)), i5, (fq.gn bd)⟩
 have pf := of_decide_eq_false eb
 refine Xz (Y3 (Xu (X2 (Xd (v := vi (j : Int)) cc Z (Yl (c := (j : Int) + 1) Z Z (by omega) (by omega) (by omega) Z (Xe (v := vi ((j : Int) + 1)) Z Z (Xb (Xu ?_))))))))
 have gi := (RowsD.lt (RowsD.low (RowsD.put bn c8 ac bm a8 (by decide)) af) ap (by omega))
 have i6 := (((dv.gn ac).grown0 af).gn ap)
 exact ⟨(mAt ms i3).t.slots.length - (j + 1), by omega, (j + 1), (p5 + 1), Z, (by omega), (by omega), gi, i6, (nt (nt (nt (nt hhs al.size) ac.size) af.size) ap.size), Z, dm, d4, bz, ca, eo, i6, fq⟩
 have pg := Q3 az
 iterate 3 refine Xj rfl rfl rfl az rfl ?_
 refine Xp (v := vb false) Z az Z Z (Xb (Y4 Z Z (Xz (Y3 (Xu (X2 (Xd (v := vi (j : Int)) cc Z (Yl (c := (j : Int) + 1) Z Z (by omega) (by omega) (by omega) Z (Xe (v := vi ((j : Int) + 1)) Z Z (Xb (Xu ?_)))))))))))
 have gj := (RowsD.low (RowsD.put bn c8 ac bm a8 (by decide)) af)
 have i7 := ((dv.gn ac).grown0 af)
 exact ⟨(mAt ms i3).t.slots.length - (j + 1), by omega, (j + 1), p5, Z, (by omega), (by omega), gj, i7, (nt (nt (nt hhs al.size) ac.size) af.size), Z, dm, d4, bz, ca, cm, i7, ((i2.gn ac).grown0 af)⟩
 have ph := of_decide_eq_false d8
 exact Qf (Y9 (Y9 (Jh (Y3 (Xu (X2 (Xd (v := vi (i3 : Int)) bx Z (Yl (c := (i3 : Int) + 1) Z Z (by omega) (by omega) (by omega) Z (Xe (v := vi ((i3 : Int) + 1)) Z Z (Xb (Xu (⟨ms.length - (i3 + 1), by omega, (i3 + 1), p4, Z, (by omega), (by omega), hRows, hOt, hhs, Z, bk, di, bw, cf, hOt, ir⟩))))))))))))
 have pi := of_decide_eq_false d7
 refine Qf (Y9 (Y9 (Jh (Xu (Xq (Xa (Xd (v := pt R 0) dg Z (Xn Qo (Xf Z (Xf Z Xm)) Z (Qb p3 30 (by omega) _ R bs _ _ _ iq (by omega) (SlLt.low1 hs ce hlo) (by first | exact hb | exact fun b h => hb b (List.mem_of_mem_take h)) (by first | omega | (rw [List.length_take]; omega))) ?_))))))))
 rintro _ rj ⟨ma, rfl, ng, nh, fr, be⟩
 have cn := grown_trans ce be
 refine X6 (q := decide (ma = 0)) Z Z Z Z (Xb (X0 Z (fun ed => ?_) (fun ed => ?_)))
 have pj := of_decide_eq_true ed
 refine X2 (Xd (v := .slice (pa Bt) ms.length ct) bj Z (Xd (v := pt R 0) dg Z (Xd (v := .slice (pa Bt) ms.length ct) bj Z (Y1 (by kernel_rfl) Z Z (Xn Qo (Xf Z (Xf Z Xm)) Z (Qb (p3 + 1) (ms.length : Int) (by omega) _ R bs _ _ _ fr (by omega) (SlLt.low1 hs cn hlo) (by first | exact hb | exact fun b h => hb b (List.mem_of_mem_take h)) (by first | omega | (rw [List.length_take]; omega))) ?_)))))
 rintro _ rk ⟨J, rfl, ni, nj, j5, cv⟩
 have ep := grown_trans cn cv
 refine Xd (v := pt R 0) dg Z (Xn Qo (Xf Z (Xf Z Xm)) Z (Qb (p3 + 1 + 1) 5 (by omega) _ R bs _ _ _ j5 (by omega) (SlLt.low1 hs ep hlo) (by first | exact hb | exact fun b h => hb b (List.mem_of_mem_take h)) (by first | omega | (rw [List.length_take]; omega))) ?_)
 rintro _ rl ⟨dw, rfl, nk, nn, j6, cw⟩
 refine Yl (c := 1 + dw) Z Z (by omega) (by omega) (by omega) Z (X4 (o' := (J).toNat * 8) Qc Z Z (by omega) (by omega) (by omega) Z (Xc (o' := (J).toNat * 8) Qd Z Z Z ?_))
 have i8 := (((hOt.gn be).gn cv).gn cw)
 have dn := (RowsD.lt (RowsD.lt (RowsD.lt hRows be (by omega)) cv (by omega)) cw (by omega))
 have m5 := (RowsD.at dn (lq (J).toNat ms.length)).ve
 refine Q7 (g := MTh.cells) (j := 0) (z := (mAt ms (J).toNat)) (z' := (⟨⟨1 + dw, (mAt ms (J).toNat).t.lab, (mAt ms (J).toNat).t.ve, (mAt ms (J).toNat).t.num, (mAt ms (J).toNat).t.slots, (mAt ms (J).toNat).t.queue, (mAt ms (J).toNat).t.to⟩, (mAt ms (J).toNat).sa, (mAt ms (J).toNat).sc, (mAt ms (J).toNat).qa, (mAt ms (J).toNat).qc⟩ : MTh)) (v := vi (1 + dw)) X1 Z Z Z Yj i8 (xg ms (J).toNat) (by omega) Z Z ?_
 intro rm jj cy
 refine Xb (Xu (Xa (Xd (v := .slice (pa Bt) ms.length ct) bj Z (Xe (v := .slice (pa Bt) ms.length ct) Z Z (Xb (Xt ?_))))))
 have gk := (RowsD.typ dn cy i8 (by decide) (by decide))
 obtain ⟨ke, eu, j2, j1⟩ := RowsD.tab _ (RowsD.setk (i := (J).toNat) (m' := (⟨⟨1 + dw, (mAt ms (J).toNat).t.lab, (mAt ms (J).toNat).t.ve, (mAt ms (J).toNat).t.num, (mAt ms (J).toNat).t.slots, (mAt ms (J).toNat).t.queue, (mAt ms (J).toNat).t.to⟩, (mAt ms (J).toNat).sa, (mAt ms (J).toNat).sc, (mAt ms (J).toNat).qa, (mAt ms (J).toNat).qc⟩ : MTh)) gk (by omega) ⟨rfl, rfl, rfl⟩ ⟨rfl, rfl, rfl⟩ rfl)
 have jx := congrArg List.length eu
 simp only [List.length_map, List.length_set] at jx
 have fb := jj
 rw [← R0 eu] at fb
 refine ⟨.slice (pa Bt) ms.length ct, Yt Z Z, Bt, ct, ke, (p3 + 1 + 1 + 1), ?_, ⟨SlG.own Yj fb hlBt, j2⟩, j1, by omega, by omega, by omega, (j6.gn cy), (low1 (grown_trans ep cw) cy (by omega))⟩
 show Value.slice _ _ _ = Value.slice _ _ _
 congr 1; first | omega | (simp only [List.length_set]; omega)
 have pk := of_decide_eq_false ed
 refine Xz (Xu (Xa (Xd (v := .slice (pa Bt) ms.length ct) bj Z (Xe (v := .slice (pa Bt) ms.length ct) Z Z (Xb (Xt ?_))))))
 have gl := (RowsD.lt hRows be (by omega))
 obtain ⟨ke, eu, j2, j1⟩ := RowsD.tab _ gl
 have jx := congrArg List.length eu
 simp only [List.length_map, List.length_set] at jx
 have fb := (hOt.gn be)
 rw [← R0 eu] at fb
 refine ⟨.slice (pa Bt) ms.length ct, Yt Z Z, Bt, ct, ke, (p3 + 1), ?_, ⟨SlG.own Yj fb hlBt, j2⟩, j1, by omega, by omega, by omega, fr, cn⟩
 show Value.slice _ _ _ = Value.slice _ _ _
 congr 1; first | omega | (simp only [List.length_set]; omega)
theorem T3 (p : Int) (hp : 0 ≤ p ∧ p ≤ 999999980000) (lo R : Nat) (bs : List Int) (a : Option Addr) (c : Nat) (w : World) (hR : Blk w R 76 #[.slice a bs.length c, vi p]) (hlo : lo ≤ R) (hs : SlLt lo w a 1 (bs.map bcell)) (hb : ∀ b ∈ bs, 0 ≤ b ∧ b ≤ 255) (hn : bs.length ≤ 1048576) : CallsR Tryz.prog 26 #[pt R 0] w (fun v w' => ∃ (B cap : Nat) (ms : List MTh) (p' : Int), v = .slice (pa B) ms.length cap ∧ TabG w.heap.size w' (pa B) ms ∧ Small ms ∧ (3 ≤ ms.length ∧ ms.length ≤ 8) ∧ p ≤ p' ∧ p' ≤ p + 4000 ∧ Blk w' R 76 #[.slice a bs.length c, vi p'] ∧ w.grownBy w' (some R)) := by
 refine Xx (n := 24) Tryz.func26 Z Tryz.ntmps26 Z ?_
 have ba := World.grownBy.refl w (some R)
 have hRlt := hR.lt
 refine Xa (Xe (v := .slice none 0 0) Z Z (Xb (Xa (Xd (v := pt R 0) Z Z (Xn Xad (Xf Z Xm) Z (Lf p (by omega) _ R bs _ _ _ hR (by omega) (SlLt.low1 hs ba hlo) (by first | exact hb | exact fun b h => hb b (List.mem_of_mem_take h)) (by first | omega | (rw [List.length_take]; omega))) ?_)))))
 rintro _ cc ⟨aw, ad, an, bg, rfl, ap, ah, au, bn, bp, bd, bb⟩
 have bi := ah.len
 refine Xe (v := .slice (pa aw) an.length ad) Z Z (Xb (Xq (Xa (Xe (v := vi 0) Z Z (Xb (X9 (Ql (fun mm f' w' => ∃ (i : Nat) (p1 : Int) (B : Nat) (cap : Nat) (ms : List MTh), mm = 4 - i ∧ i ≤ 4 ∧ (p ≤ p1 ∧ p1 ≤ p + 600 + 601 * (i : Int)) ∧ TabG w.heap.size w' (pa B) ms ∧ Small ms ∧ (3 ≤ ms.length ∧ ms.length ≤ 8) ∧ f' 3 = .slice (pa B) ms.length cap ∧ f' 4 = vi (i : Int) ∧ f' 0 = pt R 0 ∧ f' 2 = .slice none 0 0 ∧ w.grownBy w' (some R) ∧ Blk w' R 76 #[.slice a bs.length c, vi p1]) (4 - 0) ⟨0, bg, aw, ad, an, Z, (Nat.zero_le _), (by omega), (TabG.mono ap ba.size), ah, au, Z, Z, Z, Z, (grown_trans ba bb), bd⟩ ?_)))))))
 rintro mm bt cd ⟨i, p1, B, cap, ms, bm, hi, hpp, hTG, hTS, hTn, af, a8, ak, bf, V, a9⟩
 have ar := hTS.len
 refine Xq (Xa (Xd (v := vi (i : Int)) a8 Z (Qg (q := decide ((i : Int) < 4)) Z Z Z Z (Xd (v := vb (decide ((i : Int) < 4))) Z Z ?_))))
 rcases Yg (decide ((i : Int) < 4)) with E | E
 have bu := of_decide_eq_true E
 refine Xg Z Z Z E (Xd (v := pt R 0) ak Z (Xg Z Z Z E (Xn Qo (Xf Z (Xf Z Xm)) Z (Qb p1 16 (by omega) _ R bs _ _ _ a9 (by omega) (SlLt.low1 hs V hlo) (by first | exact hb | exact fun b h => hb b (List.mem_of_mem_take h)) (by first | omega | (rw [List.length_take]; omega))) ?_)))
 rintro _ ce ⟨aj, rfl, bk, bl, ac, ab⟩
 have am := grown_trans V ab
 refine Xg Z Z Z E (Jm (q := decide (0 < aj)) Z Z Z Z (Xw (v := vb (decide (0 < aj))) Z E Z Z (Xd (v := vb (decide (0 < aj))) Z Z ?_)))
 rcases Yg (decide (0 < aj)) with G | G
 have bv := of_decide_eq_true G
 refine Xg Z Z Z G (Xd (v := .slice (pa B) ms.length cap) af Z (Xg Z Z Z G ?_))
 have ag := (TabG.lt hTG ab (by omega))
 refine Xn F7 (Xf Z Xm) Z (Gf  _ ms _ _ (TabG.at ag) ar (by omega)) ?_
 rintro _ cf ⟨rfl, O⟩
 have J := low0 am O
 refine Xg Z Z Z G (Yn (b' := !tableOk (tabT ms)) Z Z Z (Xw (v := vb (!tableOk (tabT ms))) Z G Z Z (Xb (X0 Z (fun al => ?_) (fun al => ?_)))))
 have bw := Jr al
 refine Xz (Xu (Xq (X9 (X2 (Xd (v := pt R 0) ak Z (Xn Xad (Xf Z Xm) Z (Lf (p1 + 1) (by omega) _ R bs _ _ _ (ac.grown0 O) (by omega) (SlLt.low1 hs J hlo) (by first | exact hb | exact fun b h => hb b (List.mem_of_mem_take h)) (by first | omega | (rw [List.length_take]; omega))) ?_))))))
 rintro _ cg ⟨az, ae, ao, bh, rfl, aq, ai, av, bq, br, be, bc⟩
 have bj := ai.len
 exact Xe (v := .slice (pa az) ao.length ae) Z Z (Xb (Y3 (Xu (X2 (Xd (v := vi (i : Int)) a8 Z (Yl (c := (i : Int) + 1) Z Z (by omega) (by omega) (by omega) Z (Xe (v := vi ((i : Int) + 1)) Z Z (Xb (Xu (⟨4 - (i + 1), by omega, (i + 1), bh, az, ae, ao, Z, (by omega), (by omega), (TabG.mono aq J.size), ai, av, Z, Z, ak, bf, (grown_trans J bc), be⟩))))))))))
 have bx := Q3 al
 exact Qf (Y9 (Y9 (Jh (Xu (Xa (Xd (v := .slice (pa B) ms.length cap) af Z (Xe (v := .slice (pa B) ms.length cap) Z Z (Xb (Xt (⟨.slice (pa B) ms.length cap, Yt Z Z, B, cap, ms, (p1 + 1), Z, (TabG.low ag O), hTS, hTn, by omega, by omega, (ac.grown0 O), J⟩))))))))))
 have bz := of_decide_eq_false G
 iterate 3 refine Xj rfl rfl rfl G rfl ?_
 refine Xp (v := vb false) Z G Z Z (Xb (Y4 Z Z (Qf (Y9 (Y9 (Jh (Xu (Xa (Xd (v := .slice (pa B) ms.length cap) af Z (Xe (v := .slice (pa B) ms.length cap) Z Z (Xb (Xt ?_))))))))))))
 exact ⟨.slice (pa B) ms.length cap, Yt Z Z, B, cap, ms, (p1 + 1), Z, (TabG.lt hTG ab (by omega)), hTS, hTn, by omega, by omega, ac, am⟩
 have ca := of_decide_eq_false E
 iterate 3 refine Xj rfl rfl rfl E rfl ?_
 refine Xp (v := vb false) Z E Z Z (Xd (v := vb false) Z Z ?_)
 iterate 3 refine Xj rfl rfl rfl rfl rfl ?_
 refine Xp (v := vb false) Z Z Z Z (Xb (Y4 Z Z (Qf (Y9 (Y9 (Jh (Xu (Xa (Xd (v := .slice (pa B) ms.length cap) af Z (Xe (v := .slice (pa B) ms.length cap) Z Z (Xb (Xt ?_))))))))))))
 exact ⟨.slice (pa B) ms.length cap, Yt Z Z, B, cap, ms, p1, Z, hTG, hTS, hTn, by omega, by omega, a9, V⟩
end Go.Proofs.YtlhhijnmacogcaaGreatDoor
end
section
namespace Go.Dw
def sees (ts : List Th) (run thing : Int) : Bool := flow (thAt ts thing).lab (thAt ts run).lab
def touches (ts : List Th) (run thing : Int) : Bool := flow (thAt ts run).lab (thAt ts thing).lab
theorem I2 {ms : List MTh} {run thing : Int} : flow (mAt ms (thing - 1).toNat).t.lab (mAt ms (run - 1).toNat).t.lab = sees (tabT ms) run thing := by unfold sees; rw [Qk, Qk]
theorem Nq {ms : List MTh} {run thing : Int} : flow (mAt ms (run - 1).toNat).t.lab (mAt ms (thing - 1).toNat).t.lab = touches (tabT ms) run thing := by unfold touches; rw [Qk, Qk]
def kindFor (c k : Int) : Bool :=
  if c = 1 ∨ c = 2 then decide (k = 1) else if c = 4 ∨ c = 5 then decide (k = 2) else if c = 6 ∨ c = 7 then decide (k = 4) else if c = 9 then decide (k = 5) else (decide (k = 1) || decide (k = 2)) || decide (k = 4)
def need0 (c : Int) : Bool := if c = 1 ∨ c = 4 then true else if c = 7 then true else false
def need1 (c : Int) : Bool := if c = 1 ∨ c = 4 then false else true
def live (ts : List Th) (r : Rt) : Bool := inR r.th 1 (ts.length : Int) && decide ((thAt ts r.th).ve = r.ve)
theorem Ip {ms : List MTh} {r : Rt} : (inR r.th 1 (ms.length : Int) && decide ((mAt ms (r.th - 1).toNat).t.ve = r.ve)) = live (tabT ms) r := by unfold live; rw [Qk, Y5]
def slotAt (ts : List Th) (k j : Int) : Rt := rAt (thAt ts k).slots j.toNat
theorem Je {ms : List MTh} {k j : Int} : rAt (mAt ms (k - 1).toNat).t.slots j.toNat = slotAt (tabT ms) k j := by unfold slotAt; rw [Qk]
def chk1 (ts : List Th) (q : Cl) (r : Rt) : Bool := (((decide (r.th = 0)) || (!kindFor q.kind (thAt ts r.th).kind)) || (need0 q.kind && !r.rd)) || (need1 q.kind && !r.wr)
def chk1m (ms : List MTh) (q : Cl) (r : Rt) : Bool := (((decide (r.th = 0)) || (!kindFor q.kind (mAt ms (r.th - 1).toNat).t.kind)) || (need0 q.kind && !r.rd)) || (need1 q.kind && !r.wr)
theorem Nx {ms : List MTh} {q : Cl} {r : Rt} : chk1m ms q r = chk1 (tabT ms) q r := by unfold chk1m chk1; rw [Qk]
def chk2 (ts : List Th) (q : Cl) (r : Rt) : Bool := (need0 q.kind && !sees ts q.run r.th) || (need1 q.kind && !touches ts q.run r.th)
def chk3 (ts : List Th) (q : Cl) (r : Rt) : Bool := sees ts q.run r.th && !live ts r
def check1 (ts : List Th) (q : Cl) : Int :=
  if q.kind = 3 then 0 else if chk1 ts q (slotAt ts q.run q.a) = true then -1 else if chk2 ts q (slotAt ts q.run q.a) = true then -2 else if chk3 ts q (slotAt ts q.run q.a) = true then -3 else 0
section
variable {ms : List MTh} {q : Cl}
theorem H5 (h : decide (q.kind = 3) = true) : (0 : Int) = check1 (tabT ms) q := by unfold check1; rw [if_pos (of_decide_eq_true h)]
theorem Nw (h : decide (q.kind = 3) = false) (h1 : chk1m ms q (rAt (mAt ms (q.run - 1).toNat).t.slots q.a.toNat) = true) : (-1 : Int) = check1 (tabT ms) q := by
  rw [Nx, Je] at h1
  unfold check1
  rw [if_neg (of_decide_eq_false h), if_pos h1]
theorem S7 (h : decide (q.kind = 3) = false) (h1 : chk1m ms q (rAt (mAt ms (q.run - 1).toNat).t.slots q.a.toNat) = false) (h2 : chk2 (tabT ms) q (rAt (mAt ms (q.run - 1).toNat).t.slots q.a.toNat) = true) : (-2 : Int) = check1 (tabT ms) q := by
  rw [Nx, Je] at h1
  rw [Je] at h2
  unfold check1
  rw [if_neg (of_decide_eq_false h), if_neg (by rw [h1]; exact Bool.false_ne_true), if_pos h2]
theorem S8 (h : decide (q.kind = 3) = false) (h1 : chk1m ms q (rAt (mAt ms (q.run - 1).toNat).t.slots q.a.toNat) = false) (h2 : chk2 (tabT ms) q (rAt (mAt ms (q.run - 1).toNat).t.slots q.a.toNat) = false) (h3 : chk3 (tabT ms) q (rAt (mAt ms (q.run - 1).toNat).t.slots q.a.toNat) = true) : (-3 : Int) = check1 (tabT ms) q := by
  rw [Nx, Je] at h1
  rw [Je] at h2 h3
  unfold check1
  rw [if_neg (of_decide_eq_false h), if_neg (by rw [h1]; exact Bool.false_ne_true), if_neg (by rw [h2]; exact Bool.false_ne_true), if_pos h3]
theorem S6 (h : decide (q.kind = 3) = false) (h1 : chk1m ms q (rAt (mAt ms (q.run - 1).toNat).t.slots q.a.toNat) = false) (h2 : chk2 (tabT ms) q (rAt (mAt ms (q.run - 1).toNat).t.slots q.a.toNat) = false) (h3 : chk3 (tabT ms) q (rAt (mAt ms (q.run - 1).toNat).t.slots q.a.toNat) = false) : (0 : Int) = check1 (tabT ms) q := by
  rw [Nx, Je] at h1
  rw [Je] at h2 h3
  unfold check1
  rw [if_neg (of_decide_eq_false h), if_neg (by rw [h1]; exact Bool.false_ne_true), if_neg (by rw [h2]; exact Bool.false_ne_true), if_neg (by rw [h3]; exact Bool.false_ne_true)]
theorem Us (h : tableOk (tabT ms) = true) {i j : Nat} (hi : i < ms.length) (hj : j < (mAt ms i).t.slots.length) : 0 ≤ (rAt (mAt ms i).t.slots j).th ∧ (rAt (mAt ms i).t.slots j).th ≤ (ms.length : Int) ∧ (rAt (mAt ms i).t.slots j).th ≤ 8 ∧ rightOk (rAt (mAt ms i).t.slots j) = true := by
  have h1 := Tl h hi
  unfold rowOk at h1
  rw [Bool.and_eq_true] at h1
  have hr := List.all_eq_true.1 h1.2 _ (List.mem_of_getElem? (Vg hj))
  have hok := List.all_eq_true.1 (Ln (Bool.and_eq_true_iff.1 h1.1).1) _ (List.mem_of_getElem? (Vg hj))
  have h8 := V4 hok
  refine ⟨h8.1, ?_, h8.2, hok⟩
  unfold rightTo at hr
  rw [Bool.or_eq_true] at hr
  rcases hr with h0 | h0
  · have := of_decide_eq_true h0
    omega
  · have := Qi.1 (Bool.and_eq_true_iff.1 h0).1
    rw [Y5] at this
    omega
theorem Qe {k kd : Int} (h : kindAt (tabT ms) k kd = true) : (1 ≤ k ∧ k ≤ (ms.length : Int)) ∧ (mAt ms (k - 1).toNat).t.kind = kd := by
  rw [← Gp] at h
  rw [Bool.and_eq_true] at h
  exact ⟨Qi.1 h.1, of_decide_eq_true h.2⟩
theorem G0 {t : Th} (h : thingOk t = true) (hk : t.kind = 2 ∨ t.kind = 3) : t.slots.length = 4 := by
  have h5 := (Qp h).2.2.2.2.1
  unfold slotsOk at h5
  rw [if_pos hk] at h5
  exact of_decide_eq_true (Bool.and_eq_true_iff.1 h5).1
theorem Qt (hT : tableOk (tabT ms) = true) {k : Int} (h : kindAt (tabT ms) k 3 = true) : (mAt ms (k - 1).toNat).t.slots.length = 4 := by
  have h1 := Qe h
  exact G0 (Jl hT (by omega)) (Or.inr h1.2)
end
end Go.Dw
end
section
namespace Go.Proofs.YtlhhijnmacogcaaGreatDoor
open Go.RowKit Go.Dw
set_option maxRecDepth 100000
set_option maxHeartbeats 4000000
set_option linter.unusedSimpArgs false
set_option linter.unusedVariables false
theorem F8 : goFn Tryz.prog 32 = true := by kernel_rfl
theorem Xcp : goFn Tryz.prog 51 = true := by kernel_rfl
theorem La : goFn Tryz.prog 53 = true := by kernel_rfl
theorem Xao : goFn Tryz.prog 87 = true := by kernel_rfl
theorem Ho : zeroTy Tryz.prog 25 = some (.agg #[.int .i64 0, .int .i64 0, .int .i64 0, .int .i64 0, .int .i64 0]) := by kernel_rfl
theorem L6 (run thing : Int) (w : World) (ms : List MTh) (a : Option Addr) (c : Nat) (ht : TabAt w a ms) (hlen : TabLen ms) (hn : ms.length ≤ 1048576) (hT : tableOk (tabT ms) = true) (hr : 1 ≤ run ∧ run ≤ (ms.length : Int)) (hth : 1 ≤ thing ∧ thing ≤ (ms.length : Int)) : CallsR Tryz.prog 59 #[.slice a ms.length c, vi run, vi thing] w (fun v w' => v = vb (sees (tabT ms) run thing) ∧ w.grownBy w' none) := by
 refine Xx (n := 20) Tryz.func59 Z Tryz.ntmps59 Z ?_
 have ac := World.grownBy.refl w none
 refine Xa (Xe (v := vb false) Z Z (Xb (Xq ?_)))
 obtain ⟨J, ap, E, V, aj, al⟩ := SlAt.at (TabAt.low ht ac).1 (Yp (xg ms (thing - 1).toNat))
 have an := TabLen.at hlen (xg ms (thing - 1).toNat)
 obtain ⟨O, aq, G, ab, ak, am⟩ := SlAt.at (TabAt.low ht ac).1 (Yp (xg ms (run - 1).toNat))
 have ao := TabLen.at hlen (xg ms (run - 1).toNat)
 refine Yy (m := 12) (vals := [(7, .slice a ms.length c), (8, vi thing), (9, vi (thing - 1)), (10, pt J E), (11, pt J (E + 1)), (12, .agg #[vi (mj ms thing).t.lab.s, vi (mj ms thing).t.lab.v]), (13, .slice a ms.length c), (14, vi run), (15, vi (run - 1)), (16, pt O G), (17, pt O (G + 1)), (18, .agg #[vi (mj ms run).t.lab.s, vi (mj ms run).t.lab.v])]) (fun w' => w.grownBy w' none) Yz (by kernel_rfl) (X8 _) ?_ ?_
 refine yl Z (fun _ _ k => Xd (v := .slice a ms.length c) Z Z k) (yl Z (fun _ _ k => Xd (v := vi thing) Z Z k) (yl Z (fun _ _ k => Yr (c := thing - 1) Z Z (by omega) (by omega) (by omega) Z k) (yl Z (fun _ _ k => X3 Qc Z Z V aj (by omega) (by omega) Z k) (yl Z (fun _ _ k => Xc (o' := E + 1) Ki Z Z Z k) (yl Z (fun _ ae k => Xr (vs := [vi (mj ms thing).t.lab.s, vi (mj ms thing).t.lab.v]) J6 Z Z (Y2 (Yi al ae) 1 2 Z) Z k) (yl Z (fun _ _ k => Xd (v := .slice a ms.length c) Z Z k) (yl Z (fun _ _ k => Xd (v := vi run) Z Z k) (yl Z (fun _ _ k => Yr (c := run - 1) Z Z (by omega) (by omega) (by omega) Z k) (yl Z (fun _ _ k => X3 Qc Z Z ab ak (by omega) (by omega) Z k) (yl Z (fun _ _ k => Xc (o' := G + 1) Ki Z Z Z k) ?_))))))))))
 exact yl Z (fun _ af k => Xr (vs := [vi (mj ms run).t.lab.s, vi (mj ms run).t.lab.v]) J6 Z Z (Y2 (Yi am af) 1 2 Z) Z k) Y8
 intro ar ag
 have ah : labelOk (mj ms thing).t.lab = true := Ug hT (lq (thing - 1).toNat ms.length)
 have ai : labelOk (mj ms run).t.lab = true := Ug hT (lq (run - 1).toNat ms.length)
 refine Xn Xao (Xf Z (Xf Z Xm)) Z (Rm (mj ms thing).t.lab (mj ms run).t.lab ah ai _) ?_
 rintro _ au ⟨rfl, ad⟩
 refine Xe (v := vb (flow (mj ms thing).t.lab (mj ms run).t.lab)) Z Z (Xb (Xu (Xt (⟨vb (flow (mj ms thing).t.lab (mj ms run).t.lab), Yt Z Z, ?_, (low0 (low0 ac ag) ad)⟩))))
 exact cB I2
theorem Gq (run thing : Int) (w : World) (ms : List MTh) (a : Option Addr) (c : Nat) (ht : TabAt w a ms) (hlen : TabLen ms) (hn : ms.length ≤ 1048576) (hT : tableOk (tabT ms) = true) (hr : 1 ≤ run ∧ run ≤ (ms.length : Int)) (hth : 1 ≤ thing ∧ thing ≤ (ms.length : Int)) : CallsR Tryz.prog 83 #[.slice a ms.length c, vi run, vi thing] w (fun v w' => v = vb (touches (tabT ms) run thing) ∧ w.grownBy w' none) := by
 refine Xx (n := 20) Tryz.func83 Z Tryz.ntmps83 Z ?_
 have ac := World.grownBy.refl w none
 refine Xa (Xe (v := vb false) Z Z (Xb (Xq ?_)))
 obtain ⟨J, ap, E, V, aj, al⟩ := SlAt.at (TabAt.low ht ac).1 (Yp (xg ms (run - 1).toNat))
 have an := TabLen.at hlen (xg ms (run - 1).toNat)
 obtain ⟨O, aq, G, ab, ak, am⟩ := SlAt.at (TabAt.low ht ac).1 (Yp (xg ms (thing - 1).toNat))
 have ao := TabLen.at hlen (xg ms (thing - 1).toNat)
 refine Yy (m := 12) (vals := [(7, .slice a ms.length c), (8, vi run), (9, vi (run - 1)), (10, pt J E), (11, pt J (E + 1)), (12, .agg #[vi (mj ms run).t.lab.s, vi (mj ms run).t.lab.v]), (13, .slice a ms.length c), (14, vi thing), (15, vi (thing - 1)), (16, pt O G), (17, pt O (G + 1)), (18, .agg #[vi (mj ms thing).t.lab.s, vi (mj ms thing).t.lab.v])]) (fun w' => w.grownBy w' none) Yz (by kernel_rfl) (X8 _) ?_ ?_
 refine yl Z (fun _ _ k => Xd (v := .slice a ms.length c) Z Z k) (yl Z (fun _ _ k => Xd (v := vi run) Z Z k) (yl Z (fun _ _ k => Yr (c := run - 1) Z Z (by omega) (by omega) (by omega) Z k) (yl Z (fun _ _ k => X3 Qc Z Z V aj (by omega) (by omega) Z k) (yl Z (fun _ _ k => Xc (o' := E + 1) Ki Z Z Z k) (yl Z (fun _ ae k => Xr (vs := [vi (mj ms run).t.lab.s, vi (mj ms run).t.lab.v]) J6 Z Z (Y2 (Yi al ae) 1 2 Z) Z k) (yl Z (fun _ _ k => Xd (v := .slice a ms.length c) Z Z k) (yl Z (fun _ _ k => Xd (v := vi thing) Z Z k) (yl Z (fun _ _ k => Yr (c := thing - 1) Z Z (by omega) (by omega) (by omega) Z k) (yl Z (fun _ _ k => X3 Qc Z Z ab ak (by omega) (by omega) Z k) (yl Z (fun _ _ k => Xc (o' := G + 1) Ki Z Z Z k) ?_))))))))))
 exact yl Z (fun _ af k => Xr (vs := [vi (mj ms thing).t.lab.s, vi (mj ms thing).t.lab.v]) J6 Z Z (Y2 (Yi am af) 1 2 Z) Z k) Y8
 intro ar ag
 have ah : labelOk (mj ms run).t.lab = true := Ug hT (lq (run - 1).toNat ms.length)
 have ai : labelOk (mj ms thing).t.lab = true := Ug hT (lq (thing - 1).toNat ms.length)
 refine Xn Xao (Xf Z (Xf Z Xm)) Z (Rm (mj ms run).t.lab (mj ms thing).t.lab ah ai _) ?_
 rintro _ au ⟨rfl, ad⟩
 refine Xe (v := vb (flow (mj ms run).t.lab (mj ms thing).t.lab)) Z Z (Xb (Xu (Xt (⟨vb (flow (mj ms run).t.lab (mj ms thing).t.lab), Yt Z Z, ?_, (low0 (low0 ac ag) ad)⟩))))
 exact cB Nq
end Go.Proofs.YtlhhijnmacogcaaGreatDoor
end
