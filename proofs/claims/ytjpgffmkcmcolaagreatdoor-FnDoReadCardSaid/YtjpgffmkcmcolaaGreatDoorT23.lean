/- Laws and walks: my templates, and what a program of mine (gen.py) printed out of the functions; only what the row reaches. -/
import Derived.Test.YtjpgffmkcmcolaaGreatDoorT22
section
namespace Go.Proofs.YtjpgffmkcmcolaaGreatDoor
open Go.RowKit Go.Dw
set_option maxRecDepth 100000
set_option maxHeartbeats 4000000
set_option linter.unusedSimpArgs false
set_option linter.unusedVariables false
theorem V2 (q k : Int) (w : World) : CallsR Tryz.prog 55 #[vi q, vi k] w (fun v w' => v = vb (kindFor q k) ∧ w.grownBy w' none) := by
 refine Xx (n := 35) Tryz.func55 Z Tryz.ntmps55 Z ?_
 have ai := World.grownBy.refl w none
 refine Xa (Xe (v := vb false) Z Z (Xc (Xq (Xa (Xb (v := vi q) Z Z (Xc (Yc (Xq (Xa (X3 (q := decide (q = 1)) Z Z Z Z (Xe (v := vb (decide (q = 1))) Z Z (Xc ?_))))))))))))
 refine Xy Z (fun J => ?_) (fun J => ?_)
 have an := of_decide_eq_true J
 refine Xw (Xu (Qg Z J (Xa (Xb (v := vi k) Z Z (X3 (q := decide (k = 1)) Z Z Z Z (Xe (v := vb (decide (k = 1))) Z Z (Xc (Xt (Qi (Yk (⟨vb (decide (k = 1)), Yp Z Z, ?_, ai⟩)))))))))))
 · first | (simp [kindFor, an]; done) | (unfold kindFor; repeat (first | rw [if_pos (by omega)] | rw [if_neg (by omega)]))
 have O := of_decide_eq_false J
 refine X2 (X3 (q := decide (q = 2)) Z Z Z Z (Xe (v := vb (decide (q = 2))) Z Z (Xc (Xu (Xy Z (fun ac => ?_) (fun ac => ?_))))))
 have ao := of_decide_eq_true ac
 refine Xa (Xb (v := vi k) Z Z (X3 (q := decide (k = 1)) Z Z Z Z (Xe (v := vb (decide (k = 1))) Z Z (Xc (Xt (Qi (Yk (⟨vb (decide (k = 1)), Yp Z Z, ?_, ai⟩))))))))
 · first | (simp [kindFor, O, ao]; done) | (unfold kindFor; repeat (first | rw [if_pos (by omega)] | rw [if_neg (by omega)]))
 have ad := of_decide_eq_false ac
 refine Xq (Xa (X3 (q := decide (q = 4)) Z Z Z Z (Xe (v := vb (decide (q = 4))) Z Z (Xc (Xy Z (fun V => ?_) (fun V => ?_))))))
 have ap := of_decide_eq_true V
 refine Xw (Xu (Qg Z V (Xa (Xb (v := vi k) Z Z (X3 (q := decide (k = 2)) Z Z Z Z (Xe (v := vb (decide (k = 2))) Z Z (Xc (Xt (Qi (Yk (⟨vb (decide (k = 2)), Yp Z Z, ?_, ai⟩)))))))))))
 · first | (simp [kindFor, O, ad, ap]; done) | (unfold kindFor; repeat (first | rw [if_pos (by omega)] | rw [if_neg (by omega)]))
 have ah := of_decide_eq_false V
 refine X2 (X3 (q := decide (q = 5)) Z Z Z Z (Xe (v := vb (decide (q = 5))) Z Z (Xc (Xu (Xy Z (fun ae => ?_) (fun ae => ?_))))))
 have aq := of_decide_eq_true ae
 refine Xa (Xb (v := vi k) Z Z (X3 (q := decide (k = 2)) Z Z Z Z (Xe (v := vb (decide (k = 2))) Z Z (Xc (Xt (Qi (Yk (⟨vb (decide (k = 2)), Yp Z Z, ?_, ai⟩))))))))
 · first | (simp [kindFor, O, ad, ah, aq]; done) | (unfold kindFor; repeat (first | rw [if_pos (by omega)] | rw [if_neg (by omega)]))
 have aj := of_decide_eq_false ae
 refine Xq (Xa (X3 (q := decide (q = 6)) Z Z Z Z (Xe (v := vb (decide (q = 6))) Z Z (Xc (Xy Z (fun ab => ?_) (fun ab => ?_))))))
 have ar := of_decide_eq_true ab
 refine Xw (Xu (Qg Z ab (Xa (Xb (v := vi k) Z Z (X3 (q := decide (k = 4)) Z Z Z Z (Xe (v := vb (decide (k = 4))) Z Z (Xc (Xt (Qi (Yk (⟨vb (decide (k = 4)), Yp Z Z, ?_, ai⟩)))))))))))
 · first | (simp [kindFor, O, ad, ah, aj, ar]; done) | (unfold kindFor; repeat (first | rw [if_pos (by omega)] | rw [if_neg (by omega)]))
 have ak := of_decide_eq_false ab
 refine X2 (X3 (q := decide (q = 7)) Z Z Z Z (Xe (v := vb (decide (q = 7))) Z Z (Xc (Xu (Xy Z (fun af => ?_) (fun af => ?_))))))
 have au := of_decide_eq_true af
 refine Xa (Xb (v := vi k) Z Z (X3 (q := decide (k = 4)) Z Z Z Z (Xe (v := vb (decide (k = 4))) Z Z (Xc (Xt (Qi (Yk (⟨vb (decide (k = 4)), Yp Z Z, ?_, ai⟩))))))))
 · first | (simp [kindFor, O, ad, ah, aj, ak, au]; done) | (unfold kindFor; repeat (first | rw [if_pos (by omega)] | rw [if_neg (by omega)]))
 have al := of_decide_eq_false af
 refine Xa (X3 (q := decide (q = 9)) Z Z Z Z (Xe (v := vb (decide (q = 9))) Z Z (Xc (Xy Z (fun ag => ?_) (fun ag => ?_)))))
 have av := of_decide_eq_true ag
 refine Xa (Xb (v := vi k) Z Z (X3 (q := decide (k = 5)) Z Z Z Z (Xe (v := vb (decide (k = 5))) Z Z (Xc (Xt (Qi (Yk (⟨vb (decide (k = 5)), Yp Z Z, ?_, ai⟩))))))))
 · first | (simp [kindFor, O, ad, ah, aj, ak, al, av]; done) | (unfold kindFor; repeat (first | rw [if_pos (by omega)] | rw [if_neg (by omega)]))
 have aw := of_decide_eq_false ag
 refine Xw (Y7 (Xu (X7 (fun f' w' => (f' 4 = vb (((decide (k = 1)) || (decide (k = 2))) || (decide (k = 4)))) ∧ w = w') ?_ ?_)))
 refine Xb (v := vi k) Z Z (X3 (q := decide (k = 1)) Z Z Z Z (Xb (v := vb (decide (k = 1))) Z Z ?_))
 rcases Yf (decide (k = 1)) with E | E
 have a8 := of_decide_eq_true E
 exact Xi Z Z Z E Z (Xi Z Z Z E Z (Xs (v := vb true) Z E Z Z (Xb (v := vb true) Z Z (Xi Z Z Z Z Z (Xi Z Z Z Z Z (Xs (v := vb true) Z Z Z Z (Xe (v := vb true) Z Z (Xc ⟨(cB (by simp [J, ac, V, ae, ab, af, ag, E])), Z⟩))))))))
 have a9 := of_decide_eq_false E
 refine Xf Z Z Z E (Xb (v := vi k) Z Z (Xf Z Z Z E (X3 (q := decide (k = 2)) Z Z Z Z (Xo (v := vb (decide (k = 2))) Z E Z Z (Xb (v := vb (decide (k = 2))) Z Z ?_)))))
 rcases Yf (decide (k = 2)) with G | G
 have ba := of_decide_eq_true G
 exact Xi Z Z Z G Z (Xi Z Z Z G Z (Xs (v := vb true) Z G Z Z (Xe (v := vb true) Z Z (Xc ⟨(cB (by simp [J, ac, V, ae, ab, af, ag, E, G])), Z⟩))))
 have bb := of_decide_eq_false G
 exact Xf Z Z Z G (Xb (v := vi k) Z Z (Xf Z Z Z G (X3 (q := decide (k = 4)) Z Z Z Z (Xo (v := vb (decide (k = 4))) Z G Z Z (Xe (v := vb (decide (k = 4))) Z Z (Xc ⟨(cB (by simp [J, ac, V, ae, ab, af, ag, E, G])), Z⟩))))))
 rintro az bc ⟨am, rfl⟩
 refine Xt (⟨vb (((decide (k = 1)) || (decide (k = 2))) || (decide (k = 4))), Yp Z am, ?_, ai⟩)
 · first | (simp [kindFor, O, ad, ah, aj, ak, al, aw]; done) | (unfold kindFor; repeat (first | rw [if_pos (by omega)] | rw [if_neg (by omega)]))
theorem Rz (r : Rt) (hr : -9223372036854775807 ≤ r.th) (w : World) (ms : List MTh) (a : Option Addr) (c : Nat) (ht : TabAt w a ms) (hlen : TabLen ms) (hn : ms.length ≤ 1048576) : CallsR Tryz.prog 59 #[.slice a ms.length c, .agg #[vi r.th, vi r.ve, vb r.rd, vb r.wr, vb r.wk]] w (fun v w' => v = vb (live (tabT ms) r) ∧ w.grownBy w' none) := by
 refine Xx (n := 22) Tryz.func59 Z Tryz.ntmps59 Z ?_
 have av := World.grownBy.refl w none
 refine Xa (Qf (v := .agg #[vi r.th, vi r.ve, vb r.rd, vb r.wr, vb r.wk]) (cs := #[vi r.th, vi r.ve, vb r.rd, vb r.wr, vb r.wk]) Z Z Z ?_)
 intro J ab G
 have aw := Yj G av
 have O := low0 av G.grw
 refine Xe (v := vb false) Z Z (Xc (Kn (fun f' w' => (f' 4 = vb (inR r.th 1 (ms.length : Int) && (decide ((mj ms r.th).t.ve = r.ve)))) ∧ ab.grownBy w' none) ?_ ?_))
 rcases Yf (inR r.th 1 (ms.length : Int)) with E | E
 have a8 := Qu.1 E
 obtain ⟨ac, ba, V, ad, aq, ar⟩ := SlAt.at (TabAt.low ht O).1 (Yi (xg ms (r.th - 1).toNat))
 have az := TabLen.at hlen (xg ms (r.th - 1).toNat)
 refine Yw (m := 15) (vals := [(5, pt J 0), (6, vi r.th), (7, .slice a ms.length c), (8, vi (ms.length : Int)), (9, vb (inR r.th 1 (ms.length : Int))), (10, vb (inR r.th 1 (ms.length : Int))), (11, .slice a ms.length c), (12, pt J 0), (13, vi r.th), (14, vi (r.th - 1)), (15, pt ac V), (16, pt ac (V + 3)), (17, vi (mj ms r.th).t.ve), (18, pt J 1), (19, vi r.ve)]) (fun w' => ab.grownBy w' none) Yy (by kernel_rfl) (X6 _) ?_ ?_
 refine yl Z (fun _ _ k => Xd (o' := 0) Yz Z Z Z k) (yl Z (fun _ ah k => Xh (v := vi r.th) X1 Z ((G.blk.grown0 ah).cell Z) Z k) (yl Z (fun _ _ k => Xb (v := .slice a ms.length c) Z Z k) (yl Z (fun _ _ k => Yu (by kernel_rfl) Z Z k) ?_)))
 refine Ql Z (fun bb ai => ?_) ?_
 refine Xl Vj (Xg Z (Xg Z (Xg Z Xk))) Z (Kx r.th 1 (ms.length : Int) _) ?_
 rintro _ bc ⟨rfl, ae⟩
 exact Xc ⟨Z, (grown_trans ai ae)⟩
 exact yl Z (fun _ _ k => Xb (v := vb (inR r.th 1 (ms.length : Int))) Z Z k) (yl Z (fun _ _ k => Xf Z Z Z E (Xb (v := .slice a ms.length c) Z Z k)) (yl Z (fun _ _ k => Xf Z Z Z E (Xd (o' := 0) Yz Z Z Z k)) (yl Z (fun _ aj k => Xf Z Z Z E (Xh (v := vi r.th) X1 Z ((G.blk.grown0 aj).cell Z) Z k)) (yl Z (fun _ _ k => Xf Z Z Z E (Ys (c := r.th - 1) Z Z (by omega) (by omega) (by omega) Z k)) (yl Z (fun _ _ k => Xf Z Z Z E (Xz Y2 Z Z ad aq (by omega) (by omega) Z k)) (yl Z (fun _ _ k => Xf Z Z Z E (Xd (o' := V + 3) Jl Z Z Z k)) (yl Z (fun _ ak k => Xf Z Z Z E (Xh (v := vi (mj ms r.th).t.ve) X1 Z ((X9 ar ak) 3 _ Z) Z k)) (yl Z (fun _ _ k => Xf Z Z Z E (Xd (o' := 1) Vd Z Z Z k)) (yl Z (fun _ al k => Xf Z Z Z E (Xh (v := vi r.ve) X1 Z ((G.blk.grown0 al).cell Z) Z k)) Y5)))))))))
 intro bd am
 exact Xf Z Z Z E (X3 (q := decide ((mj ms r.th).t.ve = r.ve)) Z Z Z Z (Xs (v := vb (decide ((mj ms r.th).t.ve = r.ve))) Z E Z Z (Xe (v := vb (decide ((mj ms r.th).t.ve = r.ve))) Z Z (Xc (Xu ⟨(cB (by simp [E])), am⟩)))))
 refine Yw (m := 15) (vals := [(5, pt J 0), (6, vi r.th), (7, .slice a ms.length c), (8, vi (ms.length : Int)), (9, vb (inR r.th 1 (ms.length : Int))), (10, vb (inR r.th 1 (ms.length : Int))), (11, undef), (12, undef), (13, undef), (14, undef), (15, undef), (16, undef), (17, undef), (18, undef), (19, undef)]) (fun w' => ab.grownBy w' none) Yy (by kernel_rfl) (X6 _) ?_ ?_
 refine yl Z (fun _ _ k => Xd (o' := 0) Yz Z Z Z k) (yl Z (fun _ an k => Xh (v := vi r.th) X1 Z ((G.blk.grown0 an).cell Z) Z k) (yl Z (fun _ _ k => Xb (v := .slice a ms.length c) Z Z k) (yl Z (fun _ _ k => Yu (by kernel_rfl) Z Z k) ?_)))
 refine Ql Z (fun be ao => ?_) ?_
 refine Xl Vj (Xg Z (Xg Z (Xg Z Xk))) Z (Kx r.th 1 (ms.length : Int) _) ?_
 rintro _ bf ⟨rfl, af⟩
 exact Xc ⟨Z, (grown_trans ao af)⟩
 exact yl Z (fun _ _ k => Xb (v := vb (inR r.th 1 (ms.length : Int))) Z Z k) (yl Z (fun _ _ k => Xi Z Z Z E Z k) (yl Z (fun _ _ k => Xi Z Z Z E Z k) (yl Z (fun _ _ k => Xi Z Z Z E Z k) (yl Z (fun _ _ k => Xi Z Z Z E Z k) (yl Z (fun _ _ k => Xi Z Z Z E Z k) (yl Z (fun _ _ k => Xi Z Z Z E Z k) (yl Z (fun _ _ k => Xi Z Z Z E Z k) (yl Z (fun _ _ k => Xi Z Z Z E Z k) (yl Z (fun _ _ k => Xi Z Z Z E Z k) Y5)))))))))
 intro bg ap
 exact Xi Z Z Z E Z (Xo (v := vb false) Z E Z Z (Xe (v := vb false) Z Z (Xc (Xu ⟨(cB (by simp [E])), ap⟩))))
 rintro a9 bh ⟨au, ag⟩
 refine Xt (⟨vb (inR r.th 1 (ms.length : Int) && (decide ((mj ms r.th).t.ve = r.ve))), Yp Z au, ?_, (low0 O ag)⟩)
 exact cB C2
theorem Cy (p : Int) (hp : 0 ≤ p ∧ p ≤ 999999990000) (lo R : Nat) (bs : List Int) (a : Option Addr) (c : Nat) (w : World) (hR : Blk w R 79 #[.slice a bs.length c, vi p]) (hlo : lo ≤ R) (hs : SlLt lo w a 1 (bs.map bcell)) (hb : ∀ b ∈ bs, 0 ≤ b ∧ b ≤ 255) (hn : bs.length ≤ 1048576) (ms : List MTh) (ta : Option Addr) (tc tlo : Nat) (hG : TabG tlo w ta ms) (hRl : R < tlo) (hlen : TabLen ms) (hmn : 1 ≤ ms.length ∧ ms.length ≤ 8) : CallsR Tryz.prog 53 #[pt R 0, .slice ta ms.length tc] w (fun v w' => ∃ (k : Int) (p' : Int), v = vi k ∧ (1 ≤ k ∧ k ≤ (ms.length : Int)) ∧ p ≤ p' ∧ p' ≤ p + 20 ∧ Blk w' R 79 #[.slice a bs.length c, vi p'] ∧ w.grownBy w' (some R)) := by
 refine Xx (n := 34) Tryz.func53 Z Tryz.ntmps53 Z ?_
 have hRlt := hR.lt
 obtain ⟨hi, hhi⟩ : ∃ n, n = w.heap.size := ⟨_, rfl⟩
 have hTH := TabG.hi hG
 rw [← hhi] at hTH
 refine Xa (Xe (v := vi 0) Z Z (Xc (Xq (Xa (Xe (v := vi 0) Z Z (Xc (Yc (Qm (fun mm f' w' => ∃ (i : Nat) (p1 : Int), mm = 6 - i ∧ i ≤ 6 ∧ (p ≤ p1 ∧ p1 ≤ p + 2 * (i : Int)) ∧ TabG tlo w' ta ms ∧ hi ≤ w'.heap.size ∧ f' 5 = vi (i : Int) ∧ f' 0 = pt R 0 ∧ f' 1 = .slice ta ms.length tc ∧ w.grownBy w' (some R) ∧ Blk w' R 79 #[.slice a bs.length c, vi p1]) (6 - 0) ⟨0, p, Z, (Nat.zero_le _), (by omega), hG, (Nat.le_of_eq hhi), Z, Z, Z, (World.grownBy.refl w (some R)), hR⟩ ?_))))))))
 rintro mm bk bu ⟨i, p1, bi, ca, hpp, hGl, hhs, am, V, ab, J, an⟩
 refine Xq (Xa (Xb (v := vi (i : Int)) am Z (Qa (q := decide ((i : Int) < 6)) Z Z Z Z (Xb (v := vb (decide ((i : Int) < 6))) Z Z ?_))))
 rcases Yf (decide ((i : Int) < 6)) with G | G
 have bl := of_decide_eq_true G
 refine Xf Z Z Z G (Xb (v := pt R 0) V Z (Xf Z Z Z G (Xl Qz (Xg Z (Xg Z Xk)) Z (Qh p1 24 (by omega) _ R bs _ _ _ an (by omega) (SlLt.low1 hs J hlo) (by first | exact hb | exact fun b h => hb b (List.mem_of_mem_take h)) (by first | omega | (rw [List.length_take]; omega))) ?_)))
 rintro _ bv ⟨ao, rfl, ba, bb, ak, ac⟩
 have O := grown_trans J ac
 refine Xf Z Z Z G (Jd (q := decide (0 < ao)) Z Z Z Z (Xs (v := vb (decide (0 < ao))) Z G Z Z (Xc (Xy Z (fun ah => ?_) (fun ah => ?_)))))
 have bm := of_decide_eq_true ah
 refine Xw (Xu (Xq (Yc (Xa (Xb (v := pt R 0) V Z (Xb (v := .slice ta ms.length tc) ab Z (Yu (by kernel_rfl) Z Z (Xl Qz (Xg Z (Xg Z Xk)) Z (Qh (p1 + 1) (ms.length : Int) (by omega) _ R bs _ _ _ ak (by omega) (SlLt.low1 hs O hlo) (by first | exact hb | exact fun b h => hb b (List.mem_of_mem_take h)) (by first | omega | (rw [List.length_take]; omega))) ?_))))))))
 rintro _ bw ⟨E, rfl, bc, bd, al, ad⟩
 have aj := grown_trans O ad
 refine Yn (c := 1 + E) Z Z (by omega) (by omega) (by omega) Z (Xe (v := vi (1 + E)) Z Z (Xc (Xa (Xb (v := .slice ta ms.length tc) ab Z (Xb (v := vi (1 + E)) Z Z (Ys (c := (1 + E) - 1) Z Z (by omega) (by omega) (by omega) Z ?_))))))
 have ae := (TabG.lt (TabG.lt hGl ac (by omega)) ad (by omega))
 obtain ⟨bj, bt, a8, ap, au, av⟩ := SlAt.at (TabG.at ae).1 (Yi (xg ms ((1 + E) - 1).toNat))
 have a9 := TabLen.at hlen (xg ms ((1 + E) - 1).toNat)
 refine Xz Y2 Z Z ap au (by omega) (by omega) Z (Xd (o' := a8) Y9 Z Z Z (Xh (v := vi (mj ms (1 + E)).t.kind) X1 Z (av 0 _ Z) Z (X3 (q := decide ((mj ms (1 + E)).t.kind = 3)) Z Z Z Z (Xc (Xy Z (fun ai => ?_) (fun ai => ?_))))))
 have bn := of_decide_eq_true ai
 refine Xa (Xb (v := vi (1 + E)) Z Z (Xe (v := vi (1 + E)) Z Z (Xc (Xt (Qi (Yk (Yk (Qi (Yk ?_)))))))))
 refine ⟨vi (1 + E), Yp Z Z, (1 + E), (p1 + 1 + 1), Z, by omega, by omega, by omega, al, aj⟩
 have bp := of_decide_eq_false ai
 exact Xw (Y7 (Xu (X2 (Xb (v := vi (i : Int)) am Z (Yn (c := (i : Int) + 1) Z Z (by omega) (by omega) (by omega) Z (Xe (v := vi ((i : Int) + 1)) Z Z (Xc (Xu (⟨6 - (i + 1), by omega, (i + 1), (p1 + 1 + 1), Z, (by omega), (by omega), ae, (nt (nt hhs ac.size) ad.size), Z, V, ab, aj, al⟩)))))))))
 have bq := of_decide_eq_false ah
 refine Qe (Qb (Qb (Jm (Xu (Xa (Xb (v := pt R 0) V Z (Xb (v := .slice ta ms.length tc) ab Z (Yu (by kernel_rfl) Z Z (Xl Qz (Xg Z (Xg Z Xk)) Z (Qh (p1 + 1) (ms.length : Int) (by omega) _ R bs _ _ _ ak (by omega) (SlLt.low1 hs O hlo) (by first | exact hb | exact fun b h => hb b (List.mem_of_mem_take h)) (by first | omega | (rw [List.length_take]; omega))) ?_)))))))))
 rintro _ bx ⟨af, rfl, be, bf, aw, aq⟩
 refine Yn (c := 1 + af) Z Z (by omega) (by omega) (by omega) Z (Xe (v := vi (1 + af)) Z Z (Xc (Xt ?_)))
 refine ⟨vi (1 + af), Yp Z Z, (1 + af), (p1 + 1 + 1), Z, by omega, by omega, by omega, aw, (grown_trans O aq)⟩
 have br := of_decide_eq_false G
 iterate 3 refine Xi rfl rfl rfl G rfl ?_
 refine Xo (v := vb false) Z G Z Z (Xc (Qc Z Z (Qe (Qb (Qb (Jm (Xu (Xa (Xb (v := pt R 0) V Z (Xb (v := .slice ta ms.length tc) ab Z (Yu (by kernel_rfl) Z Z (Xl Qz (Xg Z (Xg Z Xk)) Z (Qh p1 (ms.length : Int) (by omega) _ R bs _ _ _ an (by omega) (SlLt.low1 hs J hlo) (by first | exact hb | exact fun b h => hb b (List.mem_of_mem_take h)) (by first | omega | (rw [List.length_take]; omega))) ?_))))))))))))
 rintro _ bz ⟨ag, rfl, bg, bh, az, ar⟩
 refine Yn (c := 1 + ag) Z Z (by omega) (by omega) (by omega) Z (Xe (v := vi (1 + ag)) Z Z (Xc (Xt ?_)))
 refine ⟨vi (1 + ag), Yp Z Z, (1 + ag), (p1 + 1), Z, by omega, by omega, by omega, az, (grown_trans J ar)⟩
theorem Nn (p : Int) (hp : 0 ≤ p ∧ p ≤ 999999980000) (lo R : Nat) (bs : List Int) (a : Option Addr) (c : Nat) (w : World) (hR : Blk w R 79 #[.slice a bs.length c, vi p]) (hlo : lo ≤ R) (hs : SlLt lo w a 1 (bs.map bcell)) (hb : ∀ b ∈ bs, 0 ≤ b ∧ b ≤ 255) (hn : bs.length ≤ 1048576) (ms : List MTh) (ta : Option Addr) (tc tlo : Nat) (hG : TabG tlo w ta ms) (hRl : R < tlo) (hlen : TabLen ms) (hmn : 1 ≤ ms.length ∧ ms.length ≤ 8) : CallsR Tryz.prog 28 #[pt R 0, .slice ta ms.length tc] w (fun v w' => ∃ (q : Cl) (p' : Int), v = .agg #[vi q.kind, vi q.run, vi q.a, vi q.b, vi q.n] ∧ ((0 ≤ q.kind ∧ q.kind ≤ 10) ∧ (1 ≤ q.run ∧ q.run ≤ (ms.length : Int)) ∧ (-1 ≤ q.a ∧ q.a ≤ 4) ∧ (0 ≤ q.b ∧ q.b ≤ 3) ∧ -1 ≤ q.n ∧ q.n ≤ 100) ∧ p ≤ p' ∧ p' ≤ p + 60 ∧ Blk w' R 79 #[.slice a bs.length c, vi p'] ∧ w.grownBy w' (some R)) := by
 refine Xx (n := 114) Tryz.func28 Z Tryz.ntmps28 Z ?_
 have s6 := World.grownBy.refl w (some R)
 have hRlt := hR.lt
 obtain ⟨hi, hhi⟩ : ∃ n, n = w.heap.size := ⟨_, rfl⟩
 have hTH := TabG.hi hG
 rw [← hhi] at hTH
 refine Xa (Ye (cs := #[vi 0, vi 0, vi 0, vi 0, vi 0]) Uh Z Z ?_)
 intro eh za bx
 have ul := Yj bx s6
 have s7 : hi ≤ eh := nt (Nat.le_of_eq hhi) (Nat.le_of_eq bx.eq.symm)
 have p8 := Xr bx (hR).lt
 have jb := low0 s6 bx.grw
 refine Xc (Xa (Xb (v := pt R 0) Z Z (Xl Qz (Xg Z (Xg Z Xk)) Z (Qh p 9 (by omega) _ R bs _ _ _ (hR.grown0 bx.grw) (by omega) (SlLt.low1 hs jb hlo) (by first | exact hb | exact fun b h => hb b (List.mem_of_mem_take h)) (by first | omega | (rw [List.length_take]; omega))) ?_)))
 rintro _ zb ⟨ek, rfl, vo, vp, pm, d7⟩
 have jc := grown_trans jb d7
 refine Yn (c := 1 + ek) Z Z (by omega) (by omega) (by omega) Z (Xb (v := pt R 0) Z Z (Xb (v := .slice ta ms.length tc) Z Z ?_))
 have g5 := (TabG.lt (TabG.low hG bx.grw) d7 (by omega))
 refine Xl Zh (Xg Z (Xg Z Xk)) Z (Cy (p + 1) (by omega) _ R bs _ _ _ pm (by omega) (SlLt.low1 hs jc hlo) (by first | exact hb | exact fun b h => hb b (List.mem_of_mem_take h)) (by first | omega | (rw [List.length_take]; omega)) ms _ _ _ g5 (by omega) hlen (by omega)) ?_
 rintro _ zc ⟨E, eu, rfl, wv, wt, wu, pn, d8⟩
 have jd := grown_trans jc d8
 refine Xb (v := pt R 0) Z Z (Xl Qz (Xg Z (Xg Z Xk)) Z (Qh eu 4 (by omega) _ R bs _ _ _ pn (by omega) (SlLt.low1 hs jd hlo) (by first | exact hb | exact fun b h => hb b (List.mem_of_mem_take h)) (by first | omega | (rw [List.length_take]; omega))) ?_)
 rintro _ zd ⟨fz, rfl, vq, vr, po, d9⟩
 have je := grown_trans jd d9
 refine Xb (v := pt R 0) Z Z (Xl Qz (Xg Z (Xg Z Xk)) Z (Qh (eu + 1) 4 (by omega) _ R bs _ _ _ po (by omega) (SlLt.low1 hs je hlo) (by first | exact hb | exact fun b h => hb b (List.mem_of_mem_take h)) (by first | omega | (rw [List.length_take]; omega))) ?_)
 rintro _ ze ⟨G, rfl, vt, vu, pp, ea⟩
 have jf := grown_trans je ea
 refine Xb (v := pt R 0) Z Z (Xl Qz (Xg Z (Xg Z Xk)) Z (Qh (eu + 1 + 1) 20 (by omega) _ R bs _ _ _ pp (by omega) (SlLt.low1 hs jf hlo) (by first | exact hb | exact fun b h => hb b (List.mem_of_mem_take h)) (by first | omega | (rw [List.length_take]; omega))) ?_)
 rintro _ zf ⟨J, rfl, vv, vw, ks, eb⟩
 have jg := grown_trans jf eb
 refine Y6 (ps := [(0, vi (1 + ek)), (1, vi E), (2, vi fz), (3, vi G), (4, vi J)]) (v := .agg #[vi (1 + ek), vi E, vi fz, vi G, vi J]) (Xn Z (Xn Z (Xn Z (Xn Z (Xn Z X8))))) (by kernel_rfl) Z (Ye (cs := #[vi 0, vi 0, vi 0, vi 0, vi 0]) Uh Z Z ?_)
 intro ce zg bq
 have um := Yj bq jg
 have s8 : hi ≤ ce := nt (nt (nt (nt (nt (nt (nt (Nat.le_of_eq hhi) bx.grw.size) d7.size) d8.size) d9.size) ea.size) eb.size) (Nat.le_of_eq bq.eq.symm)
 have p9 := Xr bq (ks).lt
 have m5 := (((((bx.blk.gn d7).gn d8).gn d9).gn ea).gn eb)
 have le := Xr bq (m5).lt
 refine X0 (vs := [vi (1 + ek), vi E, vi fz, vi G, vi J]) (cs' := #[vi (1 + ek), vi E, vi fz, vi G, vi J]) Y1 Z Z Z (by simp [Value.oneCell']) bq.blk (Nat.le_of_ble_eq_true Z) Z ?_
 intro zh dc
 refine Xc (Xq (Xa (Xe (v := vi 0) Z Z (Xc (Yc (Qm (fun mm f' w' => ∃ (i : Nat) (p1 : Int) (kk : Int) (aa : Int), mm = 6 - i ∧ i ≤ 6 ∧ (eu + 1 + 1 + 1 ≤ p1 ∧ p1 ≤ (eu + 1 + 1 + 1) + 3 * (i : Int)) ∧ (1 ≤ kk ∧ kk ≤ 9) ∧ (0 ≤ aa ∧ aa ≤ 3) ∧ TabG tlo w' ta ms ∧ hi ≤ w'.heap.size ∧ f' 6 = vi (i : Int) ∧ f' 0 = pt R 0 ∧ f' 1 = .slice ta ms.length tc ∧ f' 4 = pt eh 0 ∧ f' 5 = pt ce 0 ∧ w.grownBy w' (some R) ∧ Blk w' eh 25 #[vi 0, vi 0, vi 0, vi 0, vi 0] ∧ Blk w' ce 25 #[vi kk, vi E, vi aa, vi G, vi J] ∧ Blk w' R 79 #[.slice a bs.length c, vi p1]) (6 - 0) ⟨0, (eu + 1 + 1 + 1), (1 + ek), fz, Z, (Nat.zero_le _), (by omega), (by omega), (by omega), (TabG.ge (TabG.low (TabG.lt (TabG.lt (TabG.lt (TabG.lt g5 d8 (by omega)) d9 (by omega)) ea (by omega)) eb (by omega)) bq.grw) dc.grw hTH (by omega)), (nt (nt (nt (nt (nt (nt (nt (nt (Nat.le_of_eq hhi) bx.grw.size) d7.size) d8.size) d9.size) ea.size) eb.size) bq.grw.size) dc.grw.size), Z, Z, Z, Z, Z, (low1 (low0 jg bq.grw) dc.grw (by omega)), ((m5.grown0 bq.grw).gn dc.grw), dc.blk, ((ks.grown0 bq.grw).gn dc.grw)⟩ ?_))))))
 rintro mm yd zi ⟨i, p1, kk, aa, ws, A9, hpp, hkk, haa, hGl, hhs, my, ao, iy, ad, ae, fp, ak, db, m6⟩
 refine Xq (Xa (Xb (v := vi (i : Int)) my Z (Qa (q := decide ((i : Int) < 6)) Z Z Z Z (Xb (v := vb (decide ((i : Int) < 6))) Z Z ?_))))
 rcases Yf (decide ((i : Int) < 6)) with cf | cf
 have yf := of_decide_eq_true cf
 refine Xf Z Z Z cf (Xb (v := pt R 0) ao Z (Xf Z Z Z cf (Xl Qz (Xg Z (Xg Z Xk)) Z (Qh p1 6 (by omega) _ R bs _ _ _ m6 (by omega) (SlLt.low1 hs fp hlo) (by first | exact hb | exact fun b h => hb b (List.mem_of_mem_take h)) (by first | omega | (rw [List.length_take]; omega))) ?_)))
 rintro _ zj ⟨it, rfl, vx, vy, dk, O⟩
 have gt := grown_trans fp O
 refine Xf Z Z Z cf (Jd (q := decide (0 < it)) Z Z Z Z (Xs (v := vb (decide (0 < it))) Z cf Z Z (Xb (v := vb (decide (0 < it))) Z Z ?_)))
 rcases Yf (decide (0 < it)) with bw | bw
 have yg := of_decide_eq_true bw
 refine Xf Z Z Z bw (Xb (v := .slice ta ms.length tc) iy Z (Xf Z Z Z bw (Xd (o' := 1) Qv ae Z Z (Xf Z Z Z bw ?_))))
 have em := (db.gn O)
 refine Xh (v := vi E) X1 Z (em.cell Z) Z (Xf Z Z Z bw ?_)
 have g6 := (TabG.lt hGl O (by omega))
 refine Xl Ck (Xg Z (Xg Z Xk)) Z (Lr E (by omega) _ ms _ _ (TabG.at g6) hlen (by omega)) ?_
 rintro _ nx ⟨rfl, V⟩
 have dg := low0 gt V
 refine Xs (v := vb (kindAt (tabT ms) E 3)) Z bw Z Z (Xb (v := vb (kindAt (tabT ms) E 3)) Z Z ?_)
 rcases Yf (kindAt (tabT ms) E 3) with bc | bc
 refine Xf Z Z Z bc (Xb (v := .slice ta ms.length tc) iy Z (Xf Z Z Z bc (Xd (o' := 1) Qv ae Z Z (Xf Z Z Z bc ?_))))
 have a9 := (em.grown0 V)
 refine Xh (v := vi E) X1 Z (a9.cell Z) Z (Xf Z Z Z bc (Ys (c := E - 1) Z Z (by omega) (by omega) (by omega) Z (Xf Z Z Z bc ?_)))
 have dw := (TabG.low g6 V)
 obtain ⟨mv, y7, iw, ja, ju, jv⟩ := SlAt.at (TabG.at dw).1 (Yi (xg ms (E - 1).toNat))
 have uz := TabLen.at hlen (xg ms (E - 1).toNat)
 refine Xz Y2 Z Z ja ju (by omega) (by omega) Z (Xf Z Z Z bc (Xd (o' := iw + 5) Qj Z Z Z (Xf Z Z Z bc (Xh (v := .slice (mj ms E).sa (mj ms E).t.slots.length (mj ms E).sc) Jh Z (jv 5 _ Z) Z (Xf Z Z Z bc (Yu (by kernel_rfl) Z Z (Xf Z Z Z bc (X3 (q := decide (((mj ms E).t.slots.length : Int) = 4)) Z Z Z Z (Xs (v := vb (decide (((mj ms E).t.slots.length : Int) = 4))) Z bc Z Z (Xc (Xy Z (fun ej => ?_) (fun ej => ?_))))))))))))
 have yh := of_decide_eq_true ej
 refine Xw (Xu (Xq (Yc (Xq ?_))))
 obtain ⟨q1, y8, tx, od, pi, pk⟩ := SlAt.at (TabAt.th (TabG.at dw) (xg ms (E - 1).toNat)).1 (Yi (xr (mj ms E).t.slots (aa).toNat))
 refine Qy (m := 12) [[], [], [1], [1, 2], [0, 1, 2, 3], [0, 1, 2, 3, 4], [0, 1, 2, 3, 4, 5], [], [7], [0, 1, 2, 3, 4, 5, 6, 7, 8], [0, 1, 2, 3, 4, 5, 6, 7, 8, 9], [], [0, 1, 2, 3, 4, 5, 6, 7, 8, 9, 10, 11]] (fun S F w' => ∃ (ac : Nat), nx.grownBy w' none ∧ F 0 = pt R 0 ∧ F 1 = .slice ta ms.length tc ∧ F 4 = pt eh 0 ∧ F 5 = pt ce 0 ∧ F 6 = vi (i : Int) ∧ (S 11 = true → F 7 = pt ac 0 ∧ w.heap.size ≤ ac ∧ Blk w' ac 42 #[vi 0, vi 0, vb false, vb false, vb false] ∧ eh < ac ∧ ce < ac ∧ R < ac ∧ nx.heap.size ≤ ac) ∧ Vals S F [(0, 47, .slice ta ms.length tc), (1, 48, pt ce 1), (2, 49, vi E), (3, 50, vi (E - 1)), (4, 51, pt mv iw), (5, 52, pt mv (iw + 5)), (6, 53, .slice (mj ms E).sa (mj ms E).t.slots.length (mj ms E).sc), (7, 54, pt ce 2), (8, 55, vi aa), (9, 56, pt q1 tx), (10, 57, .agg #[vi (rAt (mj ms E).t.slots (aa).toNat).th, vi (rAt (mj ms E).t.slots (aa).toNat).ve, vb (rAt (mj ms E).t.slots (aa).toNat).rd, vb (rAt (mj ms E).t.slots (aa).toNat).wr, vb (rAt (mj ms E).t.slots (aa).toNat).wk])]) Yy (by kernel_rfl) ⟨0, X6 _, ao, iy, ad, ae, my, Yt, J3 _⟩ ?_ ?_
 refine Xj (fun S F zk hS hbef hcl hI => ?_) ?_
 obtain ⟨ac, om, q2, mz, q3, q4, q5, aj, hvs⟩ := hI
 exact Xb (v := .slice ta ms.length tc) mz Z (Xc ⟨ac, om, q2, mz, q3, q4, q5, aj, Vals.up 0 hvs Z Z Z⟩)
 refine Xj (fun S F zl hS hbef hcl hI => ?_) ?_
 obtain ⟨ac, oo, q6, q7, q8, m3, q9, aj, hvs⟩ := hI
 exact Xd (o' := 1) Qv m3 Z Z (Xc ⟨ac, oo, q6, q7, q8, m3, q9, aj, Vals.up 1 hvs Z Z Z⟩)
 refine Xj (fun S F zm hS hbef hcl hI => ?_) ?_
 obtain ⟨ac, jq, ra, rb, rf, rg, rh, aj, hvs⟩ := hI
 exact Xh (v := vi E) X1 (Vals.at 1 hvs Z (Xm 1 hbef Z)) ((a9.grown0 jq).cell Z) Z (Xc ⟨ac, jq, ra, rb, rf, rg, rh, aj, Vals.up 2 hvs Z Z Z⟩)
 refine Xj (fun S F zn hS hbef hcl hI => ?_) ?_
 obtain ⟨ac, oq, ri, rj, rk, rl, rm, aj, hvs⟩ := hI
 exact Ys (c := E - 1) (Vals.at 2 hvs Z (Xm 2 hbef Z)) Z (by omega) (by omega) (by omega) Z (Xc ⟨ac, oq, ri, rj, rk, rl, rm, aj, Vals.up 3 hvs Z Z Z⟩)
 refine Xj (fun S F zo hS hbef hcl hI => ?_) ?_
 obtain ⟨ac, ot, rn, ro, rp, rq, rr, aj, hvs⟩ := hI
 exact Xz Y2 (Vals.at 0 hvs Z (Xm 0 hbef Z)) (Vals.at 3 hvs Z (Xm 3 hbef Z)) ja ju (by omega) (by omega) Z (Xc ⟨ac, ot, rn, ro, rp, rq, rr, aj, Vals.up 4 hvs Z Z Z⟩)
 refine Xj (fun S F zp hS hbef hcl hI => ?_) ?_
 obtain ⟨ac, ou, ru, rx, ry, rz, r0, aj, hvs⟩ := hI
 exact Xd (o' := iw + 5) Qj (Vals.at 4 hvs Z (Xm 4 hbef Z)) Z Z (Xc ⟨ac, ou, ru, rx, ry, rz, r0, aj, Vals.up 5 hvs Z Z Z⟩)
 refine Xj (fun S F zq hS hbef hcl hI => ?_) ?_
 obtain ⟨ac, jr, r1, r2, r3, r4, r5, aj, hvs⟩ := hI
 exact Xh (v := .slice (mj ms E).sa (mj ms E).t.slots.length (mj ms E).sc) Jh (Vals.at 5 hvs Z (Xm 5 hbef Z)) ((X9 jv jr) 5 _ Z) Z (Xc ⟨ac, jr, r1, r2, r3, r4, r5, aj, Vals.up 6 hvs Z Z Z⟩)
 refine Xj (fun S F zr hS hbef hcl hI => ?_) ?_
 obtain ⟨ac, ov, r6, r7, r8, m4, r9, aj, hvs⟩ := hI
 exact Xd (o' := 2) Km m4 Z Z (Xc ⟨ac, ov, r6, r7, r8, m4, r9, aj, Vals.up 7 hvs Z Z Z⟩)
 refine Xj (fun S F zt hS hbef hcl hI => ?_) ?_
 obtain ⟨ac, js, sb, sd, se, sf, sg, aj, hvs⟩ := hI
 exact Xh (v := vi aa) X1 (Vals.at 7 hvs Z (Xm 7 hbef Z)) ((a9.grown0 js).cell Z) Z (Xc ⟨ac, js, sb, sd, se, sf, sg, aj, Vals.up 8 hvs Z Z Z⟩)
 refine Xj (fun S F zu hS hbef hcl hI => ?_) ?_
 obtain ⟨ac, ow, sh, si, sk, sm, sn, aj, hvs⟩ := hI
 exact Xz Ka (Vals.at 6 hvs Z (Xm 6 hbef Z)) (Vals.at 8 hvs Z (Xm 8 hbef Z)) od pi (by omega) (by omega) Z (Xc ⟨ac, ow, sh, si, sk, sm, sn, aj, Vals.up 9 hvs Z Z Z⟩)
 refine Xj (fun S F zv hS hbef hcl hI => ?_) ?_
 obtain ⟨ac, jt, so, sp, sq, sr, su, aj, hvs⟩ := hI
 exact Xp (vs := [vi (rAt (mj ms E).t.slots (aa).toNat).th, vi (rAt (mj ms E).t.slots (aa).toNat).ve, vb (rAt (mj ms E).t.slots (aa).toNat).rd, vb (rAt (mj ms E).t.slots (aa).toNat).wr, vb (rAt (mj ms E).t.slots (aa).toNat).wk]) Yx (Vals.at 9 hvs Z (Xm 9 hbef Z)) Z (Yr (X9 pk jt) 0 5 Z) Z (Xc ⟨ac, jt, so, sp, sq, sr, su, aj, Vals.up 10 hvs Z Z Z⟩)
 refine Xj (fun S F zw hS hbef hcl hI => ?_) ?_
 obtain ⟨ac, cy, sv, sw, sx, sy, s0, aj, hvs⟩ := hI
 refine Ye (cs := #[vi 0, vi 0, vb false, vb false, vb false]) Kz Z Z ?_
 intro mu zx cg
 have l6 := Yj cg (low0 dg cy)
 have s9 : hi ≤ mu := nt (nt (nt (nt hhs O.size) V.size) cy.size) (Nat.le_of_eq cg.eq.symm)
 have ef := Xr cg ((((ak.gn O).grown0 V).grown0 cy)).lt
 have eg := Xr cg ((a9.grown0 cy)).lt
 have g2 := Xr cg (((dk.grown0 V).grown0 cy)).lt
 exact Xc ⟨mu, (low0 cy cg.grw), sv, sw, sx, sy, s0, fun _ => ⟨Z, l6, cg.blk, ef, eg, g2, (nt cy.size (Nat.le_of_eq cg.eq.symm))⟩, Vals.keep hvs Z⟩
 exact Q5
 intro S F zy hall hI
 obtain ⟨ac, af, iz, ei, i0, d5, i1, aj, hvs⟩ := hI
 obtain ⟨g3, un, kt, lf, ln, qb, tl⟩ := aj (hall 11 (by decide))
 refine X0 (vs := [vi (rAt (mj ms E).t.slots (aa).toNat).th, vi (rAt (mj ms E).t.slots (aa).toNat).ve, vb (rAt (mj ms E).t.slots (aa).toNat).rd, vb (rAt (mj ms E).t.slots (aa).toNat).wr, vb (rAt (mj ms E).t.slots (aa).toNat).wk]) (cs' := #[vi (rAt (mj ms E).t.slots (aa).toNat).th, vi (rAt (mj ms E).t.slots (aa).toNat).ve, vb (rAt (mj ms E).t.slots (aa).toNat).rd, vb (rAt (mj ms E).t.slots (aa).toNat).wr, vb (rAt (mj ms E).t.slots (aa).toNat).wk]) Yx g3 (Vals.at 10 hvs Z (hall 10 (by decide))) Z (by simp [Value.oneCell']) kt (Nat.le_of_ble_eq_true Z) Z ?_
 intro ix ab
 refine Xc (Xu (Xq (Kn (fun f' w' => (f' 0 = pt R 0 ∧ f' 1 = .slice ta ms.length tc ∧ f' 4 = pt eh 0 ∧ f' 5 = pt ce 0 ∧ f' 6 = vi (i : Int) ∧ f' 79 = vb ((decide (kk = 3)) || (inR (rAt (mj ms E).t.slots (aa).toNat).th 1 (ms.length : Int) && kindFor kk (mj ms (rAt (mj ms E).t.slots (aa).toNat).th).t.kind))) ∧ ix.grownBy w' none) ?_ ?_)))
 rcases Yf (decide (kk = 3)) with ag | ag
 have yi := of_decide_eq_true ag
 refine Yw (m := 19) (vals := [(58, pt ce 0), (59, vi kk), (60, vb (decide (kk = 3))), (61, vb (decide (kk = 3))), (62, undef), (63, undef), (64, undef), (65, undef), (66, undef), (67, undef), (68, undef), (69, undef), (70, undef), (71, undef), (72, undef), (73, undef), (74, undef), (75, undef), (76, undef)]) (fun w' => ix.grownBy w' none) Yy (by kernel_rfl) (X6 _) ?_ ?_
 refine yl Z (fun _ _ k => Xd (o' := 0) Ja d5 Z Z k) (yl Z (fun _ ox k => Xh (v := vi kk) X1 Z ((((a9.grown0 af).gn ab.grw).grown0 ox).cell Z) Z k) (yl Z (fun _ _ k => X3 (q := decide (kk = 3)) Z Z Z Z k) (yl Z (fun _ _ k => Xb (v := vb (decide (kk = 3))) Z Z k) (yl Z (fun _ _ k => Xi Z Z Z ag Z k) (yl Z (fun _ _ k => Xi Z Z Z ag Z k) (yl Z (fun _ _ k => Xi Z Z Z ag Z k) (yl Z (fun _ _ k => Xi Z Z Z ag Z k) (yl Z (fun _ _ k => Xi Z Z Z ag Z k) (yl Z (fun _ _ k => Xi Z Z Z ag Z k) (yl Z (fun _ _ k => Y4 Z Z Z Z k) ?_))))))))))
 exact yl Z (fun _ _ k => Y4 Z Z Z Z k) (yl Z (fun _ _ k => Y4 Z Z Z Z k) (yl Z (fun _ _ k => Y4 Z Z Z Z k) (yl Z (fun _ _ k => Y4 Z Z Z Z k) (yl Z (fun _ _ k => Y4 Z Z Z Z k) (yl Z (fun _ _ k => Y4 Z Z Z Z k) (yl Z (fun _ _ k => Y4 Z Z Z Z k) (yl Z (fun _ _ k => Y4 Z Z Z Z k) Y5)))))))
 intro zz oy
 exact Y4 Z Z Z Z (Xi Z Z Z ag Z (Xs (v := vb true) Z ag Z Z (Xc (Xu ⟨⟨iz, ei, i0, d5, i1, (cB (by simp [cf, bw, bc, ej, ag]))⟩, oy⟩))))
 have yj := of_decide_eq_false ag
 rcases Yf (inR (rAt (mj ms E).t.slots (aa).toNat).th 1 (ms.length : Int)) with ai | ai
 have ww := Qu.1 ai
 have l5 := (TabG.ge (TabG.low dw af) ab.grw hTH (by omega))
 obtain ⟨mw, y9, ld, oe, pj, pl⟩ := SlAt.at (TabG.at l5).1 (Yi (xg ms ((rAt (mj ms E).t.slots (aa).toNat).th - 1).toNat))
 have u0 := TabLen.at hlen (xg ms ((rAt (mj ms E).t.slots (aa).toNat).th - 1).toNat)
 refine Yw (m := 19) (vals := [(58, pt ce 0), (59, vi kk), (60, vb (decide (kk = 3))), (61, vb (decide (kk = 3))), (62, pt ac 0), (63, vi (rAt (mj ms E).t.slots (aa).toNat).th), (64, .slice ta ms.length tc), (65, vi (ms.length : Int)), (66, vb (inR (rAt (mj ms E).t.slots (aa).toNat).th 1 (ms.length : Int))), (67, vb (inR (rAt (mj ms E).t.slots (aa).toNat).th 1 (ms.length : Int))), (68, pt ce 0), (69, vi kk), (70, .slice ta ms.length tc), (71, pt ac 0), (72, vi (rAt (mj ms E).t.slots (aa).toNat).th), (73, vi ((rAt (mj ms E).t.slots (aa).toNat).th - 1)), (74, pt mw ld), (75, pt mw ld), (76, vi (mj ms (rAt (mj ms E).t.slots (aa).toNat).th).t.kind)]) (fun w' => ix.grownBy w' none) Yy (by kernel_rfl) (X6 _) ?_ ?_
 refine yl Z (fun _ _ k => Xd (o' := 0) Ja d5 Z Z k) (yl Z (fun _ oz k => Xh (v := vi kk) X1 Z ((((a9.grown0 af).gn ab.grw).grown0 oz).cell Z) Z k) (yl Z (fun _ _ k => X3 (q := decide (kk = 3)) Z Z Z Z k) (yl Z (fun _ _ k => Xb (v := vb (decide (kk = 3))) Z Z k) (yl Z (fun _ _ k => Xf Z Z Z ag (Xd (o' := 0) Yz g3 Z Z k)) (yl Z (fun _ o0 k => Xf Z Z Z ag (Xh (v := vi (rAt (mj ms E).t.slots (aa).toNat).th) X1 Z ((ab.blk.grown0 o0).cell Z) Z k)) (yl Z (fun _ _ k => Xf Z Z Z ag (Xb (v := .slice ta ms.length tc) ei Z k)) (yl Z (fun _ _ k => Xf Z Z Z ag (Yu (by kernel_rfl) Z Z k)) ?_)))))))
 refine Ql Z (fun z0 o1 => ?_) ?_
 refine Xf Z Z Z ag (Xl Vj (Xg Z (Xg Z (Xg Z Xk))) Z (Kx (rAt (mj ms E).t.slots (aa).toNat).th 1 (ms.length : Int) _) ?_)
 rintro _ z2 ⟨rfl, og⟩
 exact Xc ⟨Z, (grown_trans o1 og)⟩
 exact yl Z (fun _ _ k => Xf Z Z Z ag (Xb (v := vb (inR (rAt (mj ms E).t.slots (aa).toNat).th 1 (ms.length : Int))) Z Z k)) (yl Z (fun _ _ k => Xf Z Z Z ai (Xd (o' := 0) Ja d5 Z Z k)) (yl Z (fun _ o3 k => Xf Z Z Z ai (Xh (v := vi kk) X1 Z ((((a9.grown0 af).gn ab.grw).grown0 o3).cell Z) Z k)) (yl Z (fun _ _ k => Xf Z Z Z ai (Xb (v := .slice ta ms.length tc) ei Z k)) (yl Z (fun _ _ k => Xf Z Z Z ai (Xd (o' := 0) Yz g3 Z Z k)) (yl Z (fun _ o4 k => Xf Z Z Z ai (Xh (v := vi (rAt (mj ms E).t.slots (aa).toNat).th) X1 Z ((ab.blk.grown0 o4).cell Z) Z k)) (yl Z (fun _ _ k => Xf Z Z Z ai (Ys (c := (rAt (mj ms E).t.slots (aa).toNat).th - 1) Z Z (by omega) (by omega) (by omega) Z k)) (yl Z (fun _ _ k => Xf Z Z Z ai (Xz Y2 Z Z oe pj (by omega) (by omega) Z k)) (yl Z (fun _ _ k => Xf Z Z Z ai (Xd (o' := ld) Y9 Z Z Z k)) (yl Z (fun _ o5 k => Xf Z Z Z ai (Xh (v := vi (mj ms (rAt (mj ms E).t.slots (aa).toNat).th).t.kind) X1 Z ((X9 pl o5) 0 _ Z) Z k)) Y5)))))))))
 intro z3 o6
 refine Xf Z Z Z ai (Xl Ln (Xg Z (Xg Z Xk)) Z (V2 kk (mj ms (rAt (mj ms E).t.slots (aa).toNat).th).t.kind _) ?_)
 rintro _ z6 ⟨rfl, oh⟩
 exact Xf Z Z Z ag (Xs (v := vb (kindFor kk (mj ms (rAt (mj ms E).t.slots (aa).toNat).th).t.kind)) Z ai Z Z (Xo (v := vb (kindFor kk (mj ms (rAt (mj ms E).t.slots (aa).toNat).th).t.kind)) Z ag Z Z (Xc (Xu ⟨⟨iz, ei, i0, d5, i1, (cB (by simp [cf, bw, bc, ej, ag, ai]))⟩, (grown_trans o6 oh)⟩))))
 refine Yw (m := 19) (vals := [(58, pt ce 0), (59, vi kk), (60, vb (decide (kk = 3))), (61, vb (decide (kk = 3))), (62, pt ac 0), (63, vi (rAt (mj ms E).t.slots (aa).toNat).th), (64, .slice ta ms.length tc), (65, vi (ms.length : Int)), (66, vb (inR (rAt (mj ms E).t.slots (aa).toNat).th 1 (ms.length : Int))), (67, vb (inR (rAt (mj ms E).t.slots (aa).toNat).th 1 (ms.length : Int))), (68, undef), (69, undef), (70, undef), (71, undef), (72, undef), (73, undef), (74, undef), (75, undef), (76, undef)]) (fun w' => ix.grownBy w' none) Yy (by kernel_rfl) (X6 _) ?_ ?_
 refine yl Z (fun _ _ k => Xd (o' := 0) Ja d5 Z Z k) (yl Z (fun _ o7 k => Xh (v := vi kk) X1 Z ((((a9.grown0 af).gn ab.grw).grown0 o7).cell Z) Z k) (yl Z (fun _ _ k => X3 (q := decide (kk = 3)) Z Z Z Z k) (yl Z (fun _ _ k => Xb (v := vb (decide (kk = 3))) Z Z k) (yl Z (fun _ _ k => Xf Z Z Z ag (Xd (o' := 0) Yz g3 Z Z k)) (yl Z (fun _ o8 k => Xf Z Z Z ag (Xh (v := vi (rAt (mj ms E).t.slots (aa).toNat).th) X1 Z ((ab.blk.grown0 o8).cell Z) Z k)) (yl Z (fun _ _ k => Xf Z Z Z ag (Xb (v := .slice ta ms.length tc) ei Z k)) (yl Z (fun _ _ k => Xf Z Z Z ag (Yu (by kernel_rfl) Z Z k)) ?_)))))))
 refine Ql Z (fun z7 o9 => ?_) ?_
 refine Xf Z Z Z ag (Xl Vj (Xg Z (Xg Z (Xg Z Xk))) Z (Kx (rAt (mj ms E).t.slots (aa).toNat).th 1 (ms.length : Int) _) ?_)
 rintro _ z8 ⟨rfl, ol⟩
 exact Xc ⟨Z, (grown_trans o9 ol)⟩
 exact yl Z (fun _ _ k => Xf Z Z Z ag (Xb (v := vb (inR (rAt (mj ms E).t.slots (aa).toNat).th 1 (ms.length : Int))) Z Z k)) (yl Z (fun _ _ k => Xi Z Z Z ai Z k) (yl Z (fun _ _ k => Xi Z Z Z ai Z k) (yl Z (fun _ _ k => Xi Z Z Z ai Z k) (yl Z (fun _ _ k => Xi Z Z Z ai Z k) (yl Z (fun _ _ k => Xi Z Z Z ai Z k) (yl Z (fun _ _ k => Xi Z Z Z ai Z k) (yl Z (fun _ _ k => Xi Z Z Z ai Z k) (yl Z (fun _ _ k => Xi Z Z Z ai Z k) (yl Z (fun _ _ k => Xi Z Z Z ai Z k) Y5)))))))))
 intro z9 pb
 exact Xi Z Z Z ai Z (Xf Z Z Z ag (Xo (v := vb false) Z ai Z Z (Xo (v := vb false) Z ag Z Z (Xc (Xu ⟨⟨iz, ei, i0, d5, i1, (cB (by simp [cf, bw, bc, ej, ag, ai]))⟩, pb⟩)))))
 rintro ye Aa ⟨⟨d6, s1, da, ct, s3, s4⟩, ah⟩
 have fq := low0 (low1 (low0 dg af) ab.grw (by omega)) ah
 refine Xy s4 (fun i2 => ?_) (fun i2 => ?_)
 refine Qe (Qb (O5 (by decide) (Qb (Qb (Jm (Xu (Xq (Xa (Xb (v := pt R 0) d6 Z (Xl Qz (Xg Z (Xg Z Xk)) Z (Qh (p1 + 1) 50 (by omega) _ R bs _ _ _ ((((dk.grown0 V).grown0 af).gn ab.grw).grown0 ah) (by omega) (SlLt.low1 hs fq hlo) (by first | exact hb | exact fun b h => hb b (List.mem_of_mem_take h)) (by first | omega | (rw [List.length_take]; omega))) ?_))))))))))
 rintro _ Ab ⟨eo, rfl, vz, v1, cz, an⟩
 have cv := grown_trans fq an
 refine Xc (Yc (Xa (X3 (q := decide (eo = 0)) Z Z Z Z (Xe (v := vb (decide (eo = 0))) Z Z (Xc (Xy Z (fun i3 => ?_) (fun i3 => ?_)))))))
 have yk := of_decide_eq_true i3
 refine X2 (Ya (ps := [(0, vi 0), (1, vi 10)]) (e := 3) (cs := (([0, 10] : List Int).flatMap icell).toArray) (Xn Z (Xn Z X8)) (fun _ => by kernel_rfl) Z ?_)
 intro qu Ac bd
 have uo := Yj bd cv
 have td : hi ≤ qu := nt (nt (nt (nt (nt (nt (nt hhs O.size) V.size) af.size) ab.grw.size) ah.size) an.size) (Nat.le_of_eq bd.eq.symm)
 have m7 := ((((((ak.gn O).grown0 V).grown0 af).gn ab.grw).grown0 ah).gn an)
 have lg := Xr bd (m7).lt
 have m8 := ((((a9.grown0 af).gn ab.grw).grown0 ah).gn an)
 have lp := Xr bd (m8).lt
 have qd := Xr bd (cz).lt
 have l0 := Xr bd (((ab.blk.grown0 ah).gn an)).lt
 have jh := low0 cv bd.grw
 refine Xb (v := pt R 0) d6 Z (Xl Qz (Xg Z (Xg Z Xk)) Z (Qh (p1 + 1 + 1) 2 (by omega) _ R bs _ _ _ (cz.grown0 bd.grw) (by omega) (SlLt.low1 hs jh hlo) (by first | exact hb | exact fun b h => hb b (List.mem_of_mem_take h)) (by first | omega | (rw [List.length_take]; omega))) ?_)
 rintro _ Ad ⟨kl, rfl, v2, v3, pq, fr⟩
 refine Yb (o' := (kl).toNat * 1) J6 Z Z (by omega) (by omega) (by omega) Z ?_
 obtain ⟨cj, jw⟩ := Jn (l := ([0, 10] : List Int)) (i := (kl).toNat) (lq (kl).toNat 2)
 have pc := List.mem_of_getElem? jw
 simp only [List.mem_cons, List.not_mem_nil, or_false] at pc
 refine Xh (v := vi cj) X1 Z ((Q4 Yv (bd.blk.gn fr) jw) 0 _ Z) Z (Xd (o' := 0) Ja ct Z Z (Yg (v := vi cj) (cs' := #[vi cj, vi E, vi aa, vi G, vi J]) X1 Z Z Z ((m8.grown0 bd.grw).gn fr) (Nat.le_of_ble_eq_true Z) Z ?_))
 intro Ae fh
 refine Xc (Y7 (Xu (Xa (Xp (vs := [vi cj, vi E, vi aa, vi G, vi J]) Y1 ct Z (fh.blk.rangeL 0 5 Z) Z (X0 (vs := [vi cj, vi E, vi aa, vi G, vi J]) (cs' := #[vi cj, vi E, vi aa, vi G, vi J]) Y1 da Z Z (by simp [Value.oneCell']) (((m7.grown0 bd.grw).gn fr).gn fh.grw) (Nat.le_of_ble_eq_true Z) Z ?_)))))
 intro Af gi
 refine Xc (Xt ?_)
 refine ⟨.agg #[vi cj, vi E, vi aa, vi G, vi J], J2 Z (Ym (vs := [vi cj, vi E, vi aa, vi G, vi J]) Y1 da Z (gi.blk.rangeL 0 5 Z)), ⟨cj, E, aa, G, J⟩, (p1 + 1 + 1 + 1), Z, ⟨⟨show (0 : Int) ≤ cj by omega, show cj ≤ (10 : Int) by omega⟩, ⟨show (1 : Int) ≤ E by omega, show E ≤ (ms.length : Int) by omega⟩, ⟨show (-1 : Int) ≤ aa by omega, show aa ≤ (4 : Int) by omega⟩, ⟨show (0 : Int) ≤ G by omega, show G ≤ (3 : Int) by omega⟩, show (-1 : Int) ≤ J by omega, show J ≤ (100 : Int) by omega⟩, by omega, by omega, ((pq.gn fh.grw).gn gi.grw), (low1 (low1 (grown_trans jh fr) fh.grw (by omega)) gi.grw (by omega))⟩
 have ym := of_decide_eq_false i3
 refine Xa (X3 (q := decide (eo = 1)) Z Z Z Z (Xe (v := vb (decide (eo = 1))) Z Z (Xc (Xy Z (fun i4 => ?_) (fun i4 => ?_)))))
 have yn := of_decide_eq_true i4
 refine X2 (Ya (ps := [(0, vi (-1)), (1, vi 4)]) (e := 3) (cs := (([(-1), 4] : List Int).flatMap icell).toArray) (Xn Z (Xn Z X8)) (fun _ => by kernel_rfl) Z ?_)
 intro qv Ag be
 have ut := Yj be cv
 have te : hi ≤ qv := nt (nt (nt (nt (nt (nt (nt hhs O.size) V.size) af.size) ab.grw.size) ah.size) an.size) (Nat.le_of_eq be.eq.symm)
 have m9 := ((((((ak.gn O).grown0 V).grown0 af).gn ab.grw).grown0 ah).gn an)
 have lh := Xr be (m9).lt
 have na := ((((a9.grown0 af).gn ab.grw).grown0 ah).gn an)
 have lu := Xr be (na).lt
 have qe := Xr be (cz).lt
 have l3 := Xr be (((ab.blk.grown0 ah).gn an)).lt
 have ji := low0 cv be.grw
 refine Xb (v := pt R 0) d6 Z (Xl Qz (Xg Z (Xg Z Xk)) Z (Qh (p1 + 1 + 1) 2 (by omega) _ R bs _ _ _ (cz.grown0 be.grw) (by omega) (SlLt.low1 hs ji hlo) (by first | exact hb | exact fun b h => hb b (List.mem_of_mem_take h)) (by first | omega | (rw [List.length_take]; omega))) ?_)
 rintro _ Ah ⟨km, rfl, v4, v5, pr, ft⟩
 refine Yb (o' := (km).toNat * 1) J6 Z Z (by omega) (by omega) (by omega) Z ?_
 obtain ⟨ck, jx⟩ := Jn (l := ([(-1), 4] : List Int)) (i := (km).toNat) (lq (km).toNat 2)
 have pd := List.mem_of_getElem? jx
 simp only [List.mem_cons, List.not_mem_nil, or_false] at pd
 refine Xh (v := vi ck) X1 Z ((Q4 Yv (be.blk.gn ft) jx) 0 _ Z) Z (Xd (o' := 2) Km ct Z Z (Yg (v := vi ck) (cs' := #[vi kk, vi E, vi ck, vi G, vi J]) X1 Z Z Z ((na.grown0 be.grw).gn ft) (Nat.le_of_ble_eq_true Z) Z ?_))
 intro Ai fi
 refine Xc (Y7 (Xu (Xa (Xp (vs := [vi kk, vi E, vi ck, vi G, vi J]) Y1 ct Z (fi.blk.rangeL 0 5 Z) Z (X0 (vs := [vi kk, vi E, vi ck, vi G, vi J]) (cs' := #[vi kk, vi E, vi ck, vi G, vi J]) Y1 da Z Z (by simp [Value.oneCell']) (((m9.grown0 be.grw).gn ft).gn fi.grw) (Nat.le_of_ble_eq_true Z) Z ?_)))))
 intro Aj gj
 refine Xc (Xt ?_)
 refine ⟨.agg #[vi kk, vi E, vi ck, vi G, vi J], J2 Z (Ym (vs := [vi kk, vi E, vi ck, vi G, vi J]) Y1 da Z (gj.blk.rangeL 0 5 Z)), ⟨kk, E, ck, G, J⟩, (p1 + 1 + 1 + 1), Z, ⟨⟨show (0 : Int) ≤ kk by omega, show kk ≤ (10 : Int) by omega⟩, ⟨show (1 : Int) ≤ E by omega, show E ≤ (ms.length : Int) by omega⟩, ⟨show (-1 : Int) ≤ ck by omega, show ck ≤ (4 : Int) by omega⟩, ⟨show (0 : Int) ≤ G by omega, show G ≤ (3 : Int) by omega⟩, show (-1 : Int) ≤ J by omega, show J ≤ (100 : Int) by omega⟩, by omega, by omega, ((pr.gn fi.grw).gn gj.grw), (low1 (low1 (grown_trans ji ft) fi.grw (by omega)) gj.grw (by omega))⟩
 have yo := of_decide_eq_false i4
 refine Xa (X3 (q := decide (eo = 2)) Z Z Z Z (Xe (v := vb (decide (eo = 2))) Z Z (Xc (Xy Z (fun i5 => ?_) (fun i5 => ?_)))))
 have yp := of_decide_eq_true i5
 refine X2 (Ya (ps := [(0, vi (-1)), (1, vi 100)]) (e := 3) (cs := (([(-1), 100] : List Int).flatMap icell).toArray) (Xn Z (Xn Z X8)) (fun _ => by kernel_rfl) Z ?_)
 intro qw Ak bf
 have uu := Yj bf cv
 have tf : hi ≤ qw := nt (nt (nt (nt (nt (nt (nt hhs O.size) V.size) af.size) ab.grw.size) ah.size) an.size) (Nat.le_of_eq bf.eq.symm)
 have nb := ((((((ak.gn O).grown0 V).grown0 af).gn ab.grw).grown0 ah).gn an)
 have li := Xr bf (nb).lt
 have nc := ((((a9.grown0 af).gn ab.grw).grown0 ah).gn an)
 have lv := Xr bf (nc).lt
 have qf := Xr bf (cz).lt
 have l4 := Xr bf (((ab.blk.grown0 ah).gn an)).lt
 have jj := low0 cv bf.grw
 refine Xb (v := pt R 0) d6 Z (Xl Qz (Xg Z (Xg Z Xk)) Z (Qh (p1 + 1 + 1) 2 (by omega) _ R bs _ _ _ (cz.grown0 bf.grw) (by omega) (SlLt.low1 hs jj hlo) (by first | exact hb | exact fun b h => hb b (List.mem_of_mem_take h)) (by first | omega | (rw [List.length_take]; omega))) ?_)
 rintro _ Al ⟨kn, rfl, v6, v7, pu, fu⟩
 refine Yb (o' := (kn).toNat * 1) J6 Z Z (by omega) (by omega) (by omega) Z ?_
 obtain ⟨cl, jy⟩ := Jn (l := ([(-1), 100] : List Int)) (i := (kn).toNat) (lq (kn).toNat 2)
 have pe := List.mem_of_getElem? jy
 simp only [List.mem_cons, List.not_mem_nil, or_false] at pe
 refine Xh (v := vi cl) X1 Z ((Q4 Yv (bf.blk.gn fu) jy) 0 _ Z) Z (Xd (o' := 4) Jk ct Z Z (Yg (v := vi cl) (cs' := #[vi kk, vi E, vi aa, vi G, vi cl]) X1 Z Z Z ((nc.grown0 bf.grw).gn fu) (Nat.le_of_ble_eq_true Z) Z ?_))
 intro Am fj
 refine Xc (Y7 (Xu (Xa (Xp (vs := [vi kk, vi E, vi aa, vi G, vi cl]) Y1 ct Z (fj.blk.rangeL 0 5 Z) Z (X0 (vs := [vi kk, vi E, vi aa, vi G, vi cl]) (cs' := #[vi kk, vi E, vi aa, vi G, vi cl]) Y1 da Z Z (by simp [Value.oneCell']) (((nb.grown0 bf.grw).gn fu).gn fj.grw) (Nat.le_of_ble_eq_true Z) Z ?_)))))
 intro An gk
 refine Xc (Xt ?_)
 refine ⟨.agg #[vi kk, vi E, vi aa, vi G, vi cl], J2 Z (Ym (vs := [vi kk, vi E, vi aa, vi G, vi cl]) Y1 da Z (gk.blk.rangeL 0 5 Z)), ⟨kk, E, aa, G, cl⟩, (p1 + 1 + 1 + 1), Z, ⟨⟨show (0 : Int) ≤ kk by omega, show kk ≤ (10 : Int) by omega⟩, ⟨show (1 : Int) ≤ E by omega, show E ≤ (ms.length : Int) by omega⟩, ⟨show (-1 : Int) ≤ aa by omega, show aa ≤ (4 : Int) by omega⟩, ⟨show (0 : Int) ≤ G by omega, show G ≤ (3 : Int) by omega⟩, show (-1 : Int) ≤ cl by omega, show cl ≤ (100 : Int) by omega⟩, by omega, by omega, ((pu.gn fj.grw).gn gk.grw), (low1 (low1 (grown_trans jj fu) fj.grw (by omega)) gk.grw (by omega))⟩
 have yq := of_decide_eq_false i5
 refine Xw (Y7 (Xu (Xa (Xp (vs := [vi kk, vi E, vi aa, vi G, vi J]) Y1 ct Z (((((a9.grown0 af).gn ab.grw).grown0 ah).gn an).rangeL 0 5 Z) Z (X0 (vs := [vi kk, vi E, vi aa, vi G, vi J]) (cs' := #[vi kk, vi E, vi aa, vi G, vi J]) Y1 da Z Z (by simp [Value.oneCell']) ((((((ak.gn O).grown0 V).grown0 af).gn ab.grw).grown0 ah).gn an) (Nat.le_of_ble_eq_true Z) Z ?_)))))
 intro Ao gl
 refine Xc (Xt ?_)
 refine ⟨.agg #[vi kk, vi E, vi aa, vi G, vi J], J2 Z (Ym (vs := [vi kk, vi E, vi aa, vi G, vi J]) Y1 da Z (gl.blk.rangeL 0 5 Z)), ⟨kk, E, aa, G, J⟩, (p1 + 1 + 1), Z, ⟨⟨show (0 : Int) ≤ kk by omega, show kk ≤ (10 : Int) by omega⟩, ⟨show (1 : Int) ≤ E by omega, show E ≤ (ms.length : Int) by omega⟩, ⟨show (-1 : Int) ≤ aa by omega, show aa ≤ (4 : Int) by omega⟩, ⟨show (0 : Int) ≤ G by omega, show G ≤ (3 : Int) by omega⟩, show (-1 : Int) ≤ J by omega, show J ≤ (100 : Int) by omega⟩, by omega, by omega, (cz.gn gl.grw), (low1 cv gl.grw (by omega))⟩
 have s5 := Kq i2
 have yr := of_decide_eq_false s5
 have yu := Kr i2
 refine Xw (Xu (Xa (Xb (v := pt R 0) d6 Z (Xl Qz (Xg Z (Xg Z Xk)) Z (Qh (p1 + 1) 4 (by omega) _ R bs _ _ _ ((((dk.grown0 V).grown0 af).gn ab.grw).grown0 ah) (by omega) (SlLt.low1 hs fq hlo) (by first | exact hb | exact fun b h => hb b (List.mem_of_mem_take h)) (by first | omega | (rw [List.length_take]; omega))) ?_))))
 rintro _ Ap ⟨iu, rfl, v8, v9, pv, ed⟩
 refine Xd (o' := 2) Km ct Z Z (Yg (v := vi iu) (cs' := #[vi kk, vi E, vi iu, vi G, vi J]) X1 Z Z Z ((((a9.grown0 af).gn ab.grw).grown0 ah).gn ed) (Nat.le_of_ble_eq_true Z) Z ?_)
 intro Aq de
 have jk := low1 (grown_trans fq ed) de.grw (by omega)
 refine Xc (X2 (Xb (v := pt R 0) d6 Z (Xl Qz (Xg Z (Xg Z Xk)) Z (Qh (p1 + 1 + 1) 9 (by omega) _ R bs _ _ _ (pv.gn de.grw) (by omega) (SlLt.low1 hs jk hlo) (by first | exact hb | exact fun b h => hb b (List.mem_of_mem_take h)) (by first | omega | (rw [List.length_take]; omega))) ?_)))
 rintro _ Ar ⟨iv, rfl, wa, wb, pw, ee⟩
 refine Yn (c := 1 + iv) Z Z (by omega) (by omega) (by omega) Z (Xd (o' := 0) Ja ct Z Z (Yg (v := vi (1 + iv)) (cs' := #[vi (1 + iv), vi E, vi iu, vi G, vi J]) X1 Z Z Z (de.blk.gn ee) (Nat.le_of_ble_eq_true Z) Z ?_))
 intro As df
 exact Xc (Y7 (Xu (X2 (Xb (v := vi (i : Int)) s3 Z (Yn (c := (i : Int) + 1) Z Z (by omega) (by omega) (by omega) Z (Xe (v := vi ((i : Int) + 1)) Z Z (Xc (Xu (⟨6 - (i + 1), by omega, (i + 1), (p1 + 1 + 1 + 1), (1 + iv), iu, Z, (by omega), (by omega), (by omega), (by omega), (TabG.ge (TabG.lt (TabG.ge (TabG.lt (TabG.low (TabG.ge (TabG.low dw af) ab.grw hTH (by omega)) ah) ed (by omega)) de.grw hTH (by omega)) ee (by omega)) df.grw hTH (by omega)), (nt (nt (nt (nt (nt (nt (nt (nt (nt hhs O.size) V.size) af.size) ab.grw.size) ah.size) ed.size) de.grw.size) ee.size) df.grw.size), Z, d6, s1, da, ct, (low1 (grown_trans jk ee) df.grw (by omega)), (((((((((ak.gn O).grown0 V).grown0 af).gn ab.grw).grown0 ah).gn ed).gn de.grw).gn ee).gn df.grw), df.blk, (pw.gn df.grw)⟩)))))))))
 have yv := of_decide_eq_false ej
 refine Qe (Qb (Qb (Jm (Xu (Xq (Xa (Xb (v := pt R 0) ao Z (Xl Qz (Xg Z (Xg Z Xk)) Z (Qh (p1 + 1) 50 (by omega) _ R bs _ _ _ (dk.grown0 V) (by omega) (SlLt.low1 hs dg hlo) (by first | exact hb | exact fun b h => hb b (List.mem_of_mem_take h)) (by first | omega | (rw [List.length_take]; omega))) ?_))))))))
 rintro _ At ⟨ep, rfl, wc, wd, c8, ba⟩
 have cw := grown_trans dg ba
 refine Xc (Yc (Xa (X3 (q := decide (ep = 0)) Z Z Z Z (Xe (v := vb (decide (ep = 0))) Z Z (Xc (Xy Z (fun i6 => ?_) (fun i6 => ?_)))))))
 have yw := of_decide_eq_true i6
 refine X2 (Ya (ps := [(0, vi 0), (1, vi 10)]) (e := 3) (cs := (([0, 10] : List Int).flatMap icell).toArray) (Xn Z (Xn Z X8)) (fun _ => by kernel_rfl) Z ?_)
 intro qx Au br
 have uv := Yj br cw
 have tg : hi ≤ qx := nt (nt (nt (nt hhs O.size) V.size) ba.size) (Nat.le_of_eq br.eq.symm)
 have nd := (((ak.gn O).grown0 V).gn ba)
 have lj := Xr br (nd).lt
 have ne := (a9.gn ba)
 have lw := Xr br (ne).lt
 have qg := Xr br (c8).lt
 have jl := low0 cw br.grw
 refine Xb (v := pt R 0) ao Z (Xl Qz (Xg Z (Xg Z Xk)) Z (Qh (p1 + 1 + 1) 2 (by omega) _ R bs _ _ _ (c8.grown0 br.grw) (by omega) (SlLt.low1 hs jl hlo) (by first | exact hb | exact fun b h => hb b (List.mem_of_mem_take h)) (by first | omega | (rw [List.length_take]; omega))) ?_)
 rintro _ Av ⟨ko, rfl, we, wg, px, fv⟩
 refine Yb (o' := (ko).toNat * 1) J6 Z Z (by omega) (by omega) (by omega) Z ?_
 obtain ⟨cm, jz⟩ := Jn (l := ([0, 10] : List Int)) (i := (ko).toNat) (lq (ko).toNat 2)
 have pf := List.mem_of_getElem? jz
 simp only [List.mem_cons, List.not_mem_nil, or_false] at pf
 refine Xh (v := vi cm) X1 Z ((Q4 Yv (br.blk.gn fv) jz) 0 _ Z) Z (Xd (o' := 0) Ja ae Z Z (Yg (v := vi cm) (cs' := #[vi cm, vi E, vi aa, vi G, vi J]) X1 Z Z Z ((ne.grown0 br.grw).gn fv) (Nat.le_of_ble_eq_true Z) Z ?_))
 intro Aw fk
 refine Xc (Y7 (Xu (Xa (Xp (vs := [vi cm, vi E, vi aa, vi G, vi J]) Y1 ae Z (fk.blk.rangeL 0 5 Z) Z (X0 (vs := [vi cm, vi E, vi aa, vi G, vi J]) (cs' := #[vi cm, vi E, vi aa, vi G, vi J]) Y1 ad Z Z (by simp [Value.oneCell']) (((nd.grown0 br.grw).gn fv).gn fk.grw) (Nat.le_of_ble_eq_true Z) Z ?_)))))
 intro Ax gm
 refine Xc (Xt ?_)
 refine ⟨.agg #[vi cm, vi E, vi aa, vi G, vi J], J2 Z (Ym (vs := [vi cm, vi E, vi aa, vi G, vi J]) Y1 ad Z (gm.blk.rangeL 0 5 Z)), ⟨cm, E, aa, G, J⟩, (p1 + 1 + 1 + 1), Z, ⟨⟨show (0 : Int) ≤ cm by omega, show cm ≤ (10 : Int) by omega⟩, ⟨show (1 : Int) ≤ E by omega, show E ≤ (ms.length : Int) by omega⟩, ⟨show (-1 : Int) ≤ aa by omega, show aa ≤ (4 : Int) by omega⟩, ⟨show (0 : Int) ≤ G by omega, show G ≤ (3 : Int) by omega⟩, show (-1 : Int) ≤ J by omega, show J ≤ (100 : Int) by omega⟩, by omega, by omega, ((px.gn fk.grw).gn gm.grw), (low1 (low1 (grown_trans jl fv) fk.grw (by omega)) gm.grw (by omega))⟩
 have yx := of_decide_eq_false i6
 refine Xa (X3 (q := decide (ep = 1)) Z Z Z Z (Xe (v := vb (decide (ep = 1))) Z Z (Xc (Xy Z (fun i7 => ?_) (fun i7 => ?_)))))
 have yy := of_decide_eq_true i7
 refine X2 (Ya (ps := [(0, vi (-1)), (1, vi 4)]) (e := 3) (cs := (([(-1), 4] : List Int).flatMap icell).toArray) (Xn Z (Xn Z X8)) (fun _ => by kernel_rfl) Z ?_)
 intro qy Ay bt
 have uw := Yj bt cw
 have ti : hi ≤ qy := nt (nt (nt (nt hhs O.size) V.size) ba.size) (Nat.le_of_eq bt.eq.symm)
 have nf := (((ak.gn O).grown0 V).gn ba)
 have lk := Xr bt (nf).lt
 have ng := (a9.gn ba)
 have lx := Xr bt (ng).lt
 have qh := Xr bt (c8).lt
 have jm := low0 cw bt.grw
 refine Xb (v := pt R 0) ao Z (Xl Qz (Xg Z (Xg Z Xk)) Z (Qh (p1 + 1 + 1) 2 (by omega) _ R bs _ _ _ (c8.grown0 bt.grw) (by omega) (SlLt.low1 hs jm hlo) (by first | exact hb | exact fun b h => hb b (List.mem_of_mem_take h)) (by first | omega | (rw [List.length_take]; omega))) ?_)
 rintro _ Az ⟨kp, rfl, wh, wi, py, fw⟩
 refine Yb (o' := (kp).toNat * 1) J6 Z Z (by omega) (by omega) (by omega) Z ?_
 obtain ⟨cn, j1⟩ := Jn (l := ([(-1), 4] : List Int)) (i := (kp).toNat) (lq (kp).toNat 2)
 have pg := List.mem_of_getElem? j1
 simp only [List.mem_cons, List.not_mem_nil, or_false] at pg
 refine Xh (v := vi cn) X1 Z ((Q4 Yv (bt.blk.gn fw) j1) 0 _ Z) Z (Xd (o' := 2) Km ae Z Z (Yg (v := vi cn) (cs' := #[vi kk, vi E, vi cn, vi G, vi J]) X1 Z Z Z ((ng.grown0 bt.grw).gn fw) (Nat.le_of_ble_eq_true Z) Z ?_))
 intro A0 fm
 refine Xc (Y7 (Xu (Xa (Xp (vs := [vi kk, vi E, vi cn, vi G, vi J]) Y1 ae Z (fm.blk.rangeL 0 5 Z) Z (X0 (vs := [vi kk, vi E, vi cn, vi G, vi J]) (cs' := #[vi kk, vi E, vi cn, vi G, vi J]) Y1 ad Z Z (by simp [Value.oneCell']) (((nf.grown0 bt.grw).gn fw).gn fm.grw) (Nat.le_of_ble_eq_true Z) Z ?_)))))
 intro A1 gp
 refine Xc (Xt ?_)
 refine ⟨.agg #[vi kk, vi E, vi cn, vi G, vi J], J2 Z (Ym (vs := [vi kk, vi E, vi cn, vi G, vi J]) Y1 ad Z (gp.blk.rangeL 0 5 Z)), ⟨kk, E, cn, G, J⟩, (p1 + 1 + 1 + 1), Z, ⟨⟨show (0 : Int) ≤ kk by omega, show kk ≤ (10 : Int) by omega⟩, ⟨show (1 : Int) ≤ E by omega, show E ≤ (ms.length : Int) by omega⟩, ⟨show (-1 : Int) ≤ cn by omega, show cn ≤ (4 : Int) by omega⟩, ⟨show (0 : Int) ≤ G by omega, show G ≤ (3 : Int) by omega⟩, show (-1 : Int) ≤ J by omega, show J ≤ (100 : Int) by omega⟩, by omega, by omega, ((py.gn fm.grw).gn gp.grw), (low1 (low1 (grown_trans jm fw) fm.grw (by omega)) gp.grw (by omega))⟩
 have yz := of_decide_eq_false i7
 refine Xa (X3 (q := decide (ep = 2)) Z Z Z Z (Xe (v := vb (decide (ep = 2))) Z Z (Xc (Xy Z (fun i8 => ?_) (fun i8 => ?_)))))
 have y2 := of_decide_eq_true i8
 refine X2 (Ya (ps := [(0, vi (-1)), (1, vi 100)]) (e := 3) (cs := (([(-1), 100] : List Int).flatMap icell).toArray) (Xn Z (Xn Z X8)) (fun _ => by kernel_rfl) Z ?_)
 intro qz A2 bu
 have ux := Yj bu cw
 have tj : hi ≤ qz := nt (nt (nt (nt hhs O.size) V.size) ba.size) (Nat.le_of_eq bu.eq.symm)
 have nh := (((ak.gn O).grown0 V).gn ba)
 have ll := Xr bu (nh).lt
 have ni := (a9.gn ba)
 have ly := Xr bu (ni).lt
 have qi := Xr bu (c8).lt
 have jo := low0 cw bu.grw
 refine Xb (v := pt R 0) ao Z (Xl Qz (Xg Z (Xg Z Xk)) Z (Qh (p1 + 1 + 1) 2 (by omega) _ R bs _ _ _ (c8.grown0 bu.grw) (by omega) (SlLt.low1 hs jo hlo) (by first | exact hb | exact fun b h => hb b (List.mem_of_mem_take h)) (by first | omega | (rw [List.length_take]; omega))) ?_)
 rintro _ A3 ⟨kq, rfl, wj, wl, pz, fx⟩
 refine Yb (o' := (kq).toNat * 1) J6 Z Z (by omega) (by omega) (by omega) Z ?_
 obtain ⟨co, j2⟩ := Jn (l := ([(-1), 100] : List Int)) (i := (kq).toNat) (lq (kq).toNat 2)
 have ph := List.mem_of_getElem? j2
 simp only [List.mem_cons, List.not_mem_nil, or_false] at ph
 refine Xh (v := vi co) X1 Z ((Q4 Yv (bu.blk.gn fx) j2) 0 _ Z) Z (Xd (o' := 4) Jk ae Z Z (Yg (v := vi co) (cs' := #[vi kk, vi E, vi aa, vi G, vi co]) X1 Z Z Z ((ni.grown0 bu.grw).gn fx) (Nat.le_of_ble_eq_true Z) Z ?_))
 intro A4 fo
 refine Xc (Y7 (Xu (Xa (Xp (vs := [vi kk, vi E, vi aa, vi G, vi co]) Y1 ae Z (fo.blk.rangeL 0 5 Z) Z (X0 (vs := [vi kk, vi E, vi aa, vi G, vi co]) (cs' := #[vi kk, vi E, vi aa, vi G, vi co]) Y1 ad Z Z (by simp [Value.oneCell']) (((nh.grown0 bu.grw).gn fx).gn fo.grw) (Nat.le_of_ble_eq_true Z) Z ?_)))))
 intro A5 gq
 refine Xc (Xt ?_)
 refine ⟨.agg #[vi kk, vi E, vi aa, vi G, vi co], J2 Z (Ym (vs := [vi kk, vi E, vi aa, vi G, vi co]) Y1 ad Z (gq.blk.rangeL 0 5 Z)), ⟨kk, E, aa, G, co⟩, (p1 + 1 + 1 + 1), Z, ⟨⟨show (0 : Int) ≤ kk by omega, show kk ≤ (10 : Int) by omega⟩, ⟨show (1 : Int) ≤ E by omega, show E ≤ (ms.length : Int) by omega⟩, ⟨show (-1 : Int) ≤ aa by omega, show aa ≤ (4 : Int) by omega⟩, ⟨show (0 : Int) ≤ G by omega, show G ≤ (3 : Int) by omega⟩, show (-1 : Int) ≤ co by omega, show co ≤ (100 : Int) by omega⟩, by omega, by omega, ((pz.gn fo.grw).gn gq.grw), (low1 (low1 (grown_trans jo fx) fo.grw (by omega)) gq.grw (by omega))⟩
 have y3 := of_decide_eq_false i8
 refine Xw (Y7 (Xu (Xa (Xp (vs := [vi kk, vi E, vi aa, vi G, vi J]) Y1 ae Z ((a9.gn ba).rangeL 0 5 Z) Z (X0 (vs := [vi kk, vi E, vi aa, vi G, vi J]) (cs' := #[vi kk, vi E, vi aa, vi G, vi J]) Y1 ad Z Z (by simp [Value.oneCell']) (((ak.gn O).grown0 V).gn ba) (Nat.le_of_ble_eq_true Z) Z ?_)))))
 intro A6 gr
 refine Xc (Xt ?_)
 refine ⟨.agg #[vi kk, vi E, vi aa, vi G, vi J], J2 Z (Ym (vs := [vi kk, vi E, vi aa, vi G, vi J]) Y1 ad Z (gr.blk.rangeL 0 5 Z)), ⟨kk, E, aa, G, J⟩, (p1 + 1 + 1), Z, ⟨⟨show (0 : Int) ≤ kk by omega, show kk ≤ (10 : Int) by omega⟩, ⟨show (1 : Int) ≤ E by omega, show E ≤ (ms.length : Int) by omega⟩, ⟨show (-1 : Int) ≤ aa by omega, show aa ≤ (4 : Int) by omega⟩, ⟨show (0 : Int) ≤ G by omega, show G ≤ (3 : Int) by omega⟩, show (-1 : Int) ≤ J by omega, show J ≤ (100 : Int) by omega⟩, by omega, by omega, (c8.gn gr.grw), (low1 cw gr.grw (by omega))⟩
 iterate 9 refine Xi rfl rfl rfl bc rfl ?_
 refine Xo (v := vb false) Z bc Z Z (Xc (Qc Z Z (Qe (Qb (Qb (Jm (Xu (Xq (Xa (Xb (v := pt R 0) ao Z (Xl Qz (Xg Z (Xg Z Xk)) Z (Qh (p1 + 1) 50 (by omega) _ R bs _ _ _ (dk.grown0 V) (by omega) (SlLt.low1 hs dg hlo) (by first | exact hb | exact fun b h => hb b (List.mem_of_mem_take h)) (by first | omega | (rw [List.length_take]; omega))) ?_)))))))))))
 rintro _ A7 ⟨er, rfl, wm, wn, c9, bb⟩
 have cx := grown_trans dg bb
 refine Xc (Yc (Xa (X3 (q := decide (er = 0)) Z Z Z Z (Xe (v := vb (decide (er = 0))) Z Z (Xc (Xy Z (fun i9 => ?_) (fun i9 => ?_)))))))
 have y6 := of_decide_eq_true i9
 refine X2 (Ya (ps := [(0, vi 0), (1, vi 10)]) (e := 3) (cs := (([0, 10] : List Int).flatMap icell).toArray) (Xn Z (Xn Z X8)) (fun _ => by kernel_rfl) Z ?_)
 intro q0 A8 bv
 have uy := Yj bv cx
 have tk : hi ≤ q0 := nt (nt (nt (nt hhs O.size) V.size) bb.size) (Nat.le_of_eq bv.eq.symm)
 have nj := (((ak.gn O).grown0 V).gn bb)
 have lm := Xr bv (nj).lt
 have nk := ((em.grown0 V).gn bb)
 have lz := Xr bv (nk).lt
 have qj := Xr bv (c9).lt
 have jp := low0 cx bv.grw
 refine Xb (v := pt R 0) ao Z (Xl Qz (Xg Z (Xg Z Xk)) Z (Qh (p1 + 1 + 1) 2 (by omega) _ R bs _ _ _ (c9.grown0 bv.grw) (by omega) (SlLt.low1 hs jp hlo) (by first | exact hb | exact fun b h => hb b (List.mem_of_mem_take h)) (by first | omega | (rw [List.length_take]; omega))) ?_)
 rintro _ wx ⟨kr, rfl, wo, wq, p0, fy⟩
 refine Yb (o' := (kr).toNat * 1) J6 Z Z (by omega) (by omega) (by omega) Z ?_
 obtain ⟨bg, ii⟩ := Jn (l := ([0, 10] : List Int)) (i := (kr).toNat) (lq (kr).toNat 2)
 have l7 := List.mem_of_getElem? ii
 simp only [List.mem_cons, List.not_mem_nil, or_false] at l7
 refine Xh (v := vi bg) X1 Z ((Q4 Yv (bv.blk.gn fy) ii) 0 _ Z) Z (Xd (o' := 0) Ja ae Z Z (Yg (v := vi bg) (cs' := #[vi bg, vi E, vi aa, vi G, vi J]) X1 Z Z Z ((nk.grown0 bv.grw).gn fy) (Nat.le_of_ble_eq_true Z) Z ?_))
 intro wy dl
 refine Xc (Y7 (Xu (Xa (Xp (vs := [vi bg, vi E, vi aa, vi G, vi J]) Y1 ae Z (dl.blk.rangeL 0 5 Z) Z (X0 (vs := [vi bg, vi E, vi aa, vi G, vi J]) (cs' := #[vi bg, vi E, vi aa, vi G, vi J]) Y1 ad Z Z (by simp [Value.oneCell']) (((nj.grown0 bv.grw).gn fy).gn dl.grw) (Nat.le_of_ble_eq_true Z) Z ?_)))))
 intro wz ew
 refine Xc (Xt ?_)
 refine ⟨.agg #[vi bg, vi E, vi aa, vi G, vi J], J2 Z (Ym (vs := [vi bg, vi E, vi aa, vi G, vi J]) Y1 ad Z (ew.blk.rangeL 0 5 Z)), ⟨bg, E, aa, G, J⟩, (p1 + 1 + 1 + 1), Z, ⟨⟨show (0 : Int) ≤ bg by omega, show bg ≤ (10 : Int) by omega⟩, ⟨show (1 : Int) ≤ E by omega, show E ≤ (ms.length : Int) by omega⟩, ⟨show (-1 : Int) ≤ aa by omega, show aa ≤ (4 : Int) by omega⟩, ⟨show (0 : Int) ≤ G by omega, show G ≤ (3 : Int) by omega⟩, show (-1 : Int) ≤ J by omega, show J ≤ (100 : Int) by omega⟩, by omega, by omega, ((p0.gn dl.grw).gn ew.grw), (low1 (low1 (grown_trans jp fy) dl.grw (by omega)) ew.grw (by omega))⟩
 have u1 := of_decide_eq_false i9
 refine Xa (X3 (q := decide (er = 1)) Z Z Z Z (Xe (v := vb (decide (er = 1))) Z Z (Xc (Xy Z (fun f8 => ?_) (fun f8 => ?_)))))
 have u2 := of_decide_eq_true f8
 refine X2 (Ya (ps := [(0, vi (-1)), (1, vi 4)]) (e := 3) (cs := (([(-1), 4] : List Int).flatMap icell).toArray) (Xn Z (Xn Z X8)) (fun _ => by kernel_rfl) Z ?_)
 intro ny w5 ap
 have tn := Yj ap cx
 have qk : hi ≤ ny := nt (nt (nt (nt hhs O.size) V.size) bb.size) (Nat.le_of_eq ap.eq.symm)
 have j3 := (((ak.gn O).grown0 V).gn bb)
 have ku := Xr ap (j3).lt
 have j4 := ((em.grown0 V).gn bb)
 have k4 := Xr ap (j4).lt
 have nn := Xr ap (c9).lt
 have g7 := low0 cx ap.grw
 refine Xb (v := pt R 0) ao Z (Xl Qz (Xg Z (Xg Z Xk)) Z (Qh (p1 + 1 + 1) 2 (by omega) _ R bs _ _ _ (c9.grown0 ap.grw) (by omega) (SlLt.low1 hs g7 hlo) (by first | exact hb | exact fun b h => hb b (List.mem_of_mem_take h)) (by first | omega | (rw [List.length_take]; omega))) ?_)
 rintro _ w7 ⟨gu, rfl, tz, t0, mh, dx⟩
 refine Yb (o' := (gu).toNat * 1) J6 Z Z (by omega) (by omega) (by omega) Z ?_
 obtain ⟨bh, ij⟩ := Jn (l := ([(-1), 4] : List Int)) (i := (gu).toNat) (lq (gu).toNat 2)
 have l8 := List.mem_of_getElem? ij
 simp only [List.mem_cons, List.not_mem_nil, or_false] at l8
 refine Xh (v := vi bh) X1 Z ((Q4 Yv (ap.blk.gn dx) ij) 0 _ Z) Z (Xd (o' := 2) Km ae Z Z (Yg (v := vi bh) (cs' := #[vi kk, vi E, vi bh, vi G, vi J]) X1 Z Z Z ((j4.grown0 ap.grw).gn dx) (Nat.le_of_ble_eq_true Z) Z ?_))
 intro w8 dm
 refine Xc (Y7 (Xu (Xa (Xp (vs := [vi kk, vi E, vi bh, vi G, vi J]) Y1 ae Z (dm.blk.rangeL 0 5 Z) Z (X0 (vs := [vi kk, vi E, vi bh, vi G, vi J]) (cs' := #[vi kk, vi E, vi bh, vi G, vi J]) Y1 ad Z Z (by simp [Value.oneCell']) (((j3.grown0 ap.grw).gn dx).gn dm.grw) (Nat.le_of_ble_eq_true Z) Z ?_)))))
 intro w9 ex
 refine Xc (Xt ?_)
 refine ⟨.agg #[vi kk, vi E, vi bh, vi G, vi J], J2 Z (Ym (vs := [vi kk, vi E, vi bh, vi G, vi J]) Y1 ad Z (ex.blk.rangeL 0 5 Z)), ⟨kk, E, bh, G, J⟩, (p1 + 1 + 1 + 1), Z, ⟨⟨show (0 : Int) ≤ kk by omega, show kk ≤ (10 : Int) by omega⟩, ⟨show (1 : Int) ≤ E by omega, show E ≤ (ms.length : Int) by omega⟩, ⟨show (-1 : Int) ≤ bh by omega, show bh ≤ (4 : Int) by omega⟩, ⟨show (0 : Int) ≤ G by omega, show G ≤ (3 : Int) by omega⟩, show (-1 : Int) ≤ J by omega, show J ≤ (100 : Int) by omega⟩, by omega, by omega, ((mh.gn dm.grw).gn ex.grw), (low1 (low1 (grown_trans g7 dx) dm.grw (by omega)) ex.grw (by omega))⟩
 have u3 := of_decide_eq_false f8
 refine Xa (X3 (q := decide (er = 2)) Z Z Z Z (Xe (v := vb (decide (er = 2))) Z Z (Xc (Xy Z (fun f9 => ?_) (fun f9 => ?_)))))
 have u4 := of_decide_eq_true f9
 refine X2 (Ya (ps := [(0, vi (-1)), (1, vi 100)]) (e := 3) (cs := (([(-1), 100] : List Int).flatMap icell).toArray) (Xn Z (Xn Z X8)) (fun _ => by kernel_rfl) Z ?_)
 intro nz xa aq
 have tp := Yj aq cx
 have qm : hi ≤ nz := nt (nt (nt (nt hhs O.size) V.size) bb.size) (Nat.le_of_eq aq.eq.symm)
 have j5 := (((ak.gn O).grown0 V).gn bb)
 have kv := Xr aq (j5).lt
 have j6 := ((em.grown0 V).gn bb)
 have k5 := Xr aq (j6).lt
 have no := Xr aq (c9).lt
 have g8 := low0 cx aq.grw
 refine Xb (v := pt R 0) ao Z (Xl Qz (Xg Z (Xg Z Xk)) Z (Qh (p1 + 1 + 1) 2 (by omega) _ R bs _ _ _ (c9.grown0 aq.grw) (by omega) (SlLt.low1 hs g8 hlo) (by first | exact hb | exact fun b h => hb b (List.mem_of_mem_take h)) (by first | omega | (rw [List.length_take]; omega))) ?_)
 rintro _ xb ⟨gv, rfl, t1, t2, ml, dy⟩
 refine Yb (o' := (gv).toNat * 1) J6 Z Z (by omega) (by omega) (by omega) Z ?_
 obtain ⟨bi, ik⟩ := Jn (l := ([(-1), 100] : List Int)) (i := (gv).toNat) (lq (gv).toNat 2)
 have l9 := List.mem_of_getElem? ik
 simp only [List.mem_cons, List.not_mem_nil, or_false] at l9
 refine Xh (v := vi bi) X1 Z ((Q4 Yv (aq.blk.gn dy) ik) 0 _ Z) Z (Xd (o' := 4) Jk ae Z Z (Yg (v := vi bi) (cs' := #[vi kk, vi E, vi aa, vi G, vi bi]) X1 Z Z Z ((j6.grown0 aq.grw).gn dy) (Nat.le_of_ble_eq_true Z) Z ?_))
 intro xc dn
 refine Xc (Y7 (Xu (Xa (Xp (vs := [vi kk, vi E, vi aa, vi G, vi bi]) Y1 ae Z (dn.blk.rangeL 0 5 Z) Z (X0 (vs := [vi kk, vi E, vi aa, vi G, vi bi]) (cs' := #[vi kk, vi E, vi aa, vi G, vi bi]) Y1 ad Z Z (by simp [Value.oneCell']) (((j5.grown0 aq.grw).gn dy).gn dn.grw) (Nat.le_of_ble_eq_true Z) Z ?_)))))
 intro xd ey
 refine Xc (Xt ?_)
 refine ⟨.agg #[vi kk, vi E, vi aa, vi G, vi bi], J2 Z (Ym (vs := [vi kk, vi E, vi aa, vi G, vi bi]) Y1 ad Z (ey.blk.rangeL 0 5 Z)), ⟨kk, E, aa, G, bi⟩, (p1 + 1 + 1 + 1), Z, ⟨⟨show (0 : Int) ≤ kk by omega, show kk ≤ (10 : Int) by omega⟩, ⟨show (1 : Int) ≤ E by omega, show E ≤ (ms.length : Int) by omega⟩, ⟨show (-1 : Int) ≤ aa by omega, show aa ≤ (4 : Int) by omega⟩, ⟨show (0 : Int) ≤ G by omega, show G ≤ (3 : Int) by omega⟩, show (-1 : Int) ≤ bi by omega, show bi ≤ (100 : Int) by omega⟩, by omega, by omega, ((ml.gn dn.grw).gn ey.grw), (low1 (low1 (grown_trans g8 dy) dn.grw (by omega)) ey.grw (by omega))⟩
 have u5 := of_decide_eq_false f9
 refine Xw (Y7 (Xu (Xa (Xp (vs := [vi kk, vi E, vi aa, vi G, vi J]) Y1 ae Z (((em.grown0 V).gn bb).rangeL 0 5 Z) Z (X0 (vs := [vi kk, vi E, vi aa, vi G, vi J]) (cs' := #[vi kk, vi E, vi aa, vi G, vi J]) Y1 ad Z Z (by simp [Value.oneCell']) (((ak.gn O).grown0 V).gn bb) (Nat.le_of_ble_eq_true Z) Z ?_)))))
 intro xe ez
 refine Xc (Xt ?_)
 refine ⟨.agg #[vi kk, vi E, vi aa, vi G, vi J], J2 Z (Ym (vs := [vi kk, vi E, vi aa, vi G, vi J]) Y1 ad Z (ez.blk.rangeL 0 5 Z)), ⟨kk, E, aa, G, J⟩, (p1 + 1 + 1), Z, ⟨⟨show (0 : Int) ≤ kk by omega, show kk ≤ (10 : Int) by omega⟩, ⟨show (1 : Int) ≤ E by omega, show E ≤ (ms.length : Int) by omega⟩, ⟨show (-1 : Int) ≤ aa by omega, show aa ≤ (4 : Int) by omega⟩, ⟨show (0 : Int) ≤ G by omega, show G ≤ (3 : Int) by omega⟩, show (-1 : Int) ≤ J by omega, show J ≤ (100 : Int) by omega⟩, by omega, by omega, (c9.gn ez.grw), (low1 cx ez.grw (by omega))⟩
 have u6 := of_decide_eq_false bw
 iterate 4 refine Xi rfl rfl rfl bw rfl ?_
 refine Xo (v := vb false) Z bw Z Z (Xb (v := vb false) Z Z ?_)
 iterate 9 refine Xi rfl rfl rfl rfl rfl ?_
 refine Xo (v := vb false) Z Z Z Z (Xc (Qc Z Z (Qe (Qb (Qb (Jm (Xu (Xq (Xa (Xb (v := pt R 0) ao Z (Xl Qz (Xg Z (Xg Z Xk)) Z (Qh (p1 + 1) 50 (by omega) _ R bs _ _ _ dk (by omega) (SlLt.low1 hs gt hlo) (by first | exact hb | exact fun b h => hb b (List.mem_of_mem_take h)) (by first | omega | (rw [List.length_take]; omega))) ?_)))))))))))
 rintro _ xf ⟨dh, rfl, t3, t4, cc, al⟩
 have bz := grown_trans gt al
 refine Xc (Yc (Xa (X3 (q := decide (dh = 0)) Z Z Z Z (Xe (v := vb (decide (dh = 0))) Z Z (Xc (Xy Z (fun ga => ?_) (fun ga => ?_)))))))
 have u7 := of_decide_eq_true ga
 refine X2 (Ya (ps := [(0, vi 0), (1, vi 10)]) (e := 3) (cs := (([0, 10] : List Int).flatMap icell).toArray) (Xn Z (Xn Z X8)) (fun _ => by kernel_rfl) Z ?_)
 intro n5 xh ar
 have tq := Yj ar bz
 have qn : hi ≤ n5 := nt (nt (nt hhs O.size) al.size) (Nat.le_of_eq ar.eq.symm)
 have j7 := ((ak.gn O).gn al)
 have kw := Xr ar (j7).lt
 have j8 := ((db.gn O).gn al)
 have k6 := Xr ar (j8).lt
 have np := Xr ar (cc).lt
 have g9 := low0 bz ar.grw
 refine Xb (v := pt R 0) ao Z (Xl Qz (Xg Z (Xg Z Xk)) Z (Qh (p1 + 1 + 1) 2 (by omega) _ R bs _ _ _ (cc.grown0 ar.grw) (by omega) (SlLt.low1 hs g9 hlo) (by first | exact hb | exact fun b h => hb b (List.mem_of_mem_take h)) (by first | omega | (rw [List.length_take]; omega))) ?_)
 rintro _ xi ⟨gw, rfl, t5, t6, mn, dz⟩
 refine Yb (o' := (gw).toNat * 1) J6 Z Z (by omega) (by omega) (by omega) Z ?_
 obtain ⟨bj, il⟩ := Jn (l := ([0, 10] : List Int)) (i := (gw).toNat) (lq (gw).toNat 2)
 have ma := List.mem_of_getElem? il
 simp only [List.mem_cons, List.not_mem_nil, or_false] at ma
 refine Xh (v := vi bj) X1 Z ((Q4 Yv (ar.blk.gn dz) il) 0 _ Z) Z (Xd (o' := 0) Ja ae Z Z (Yg (v := vi bj) (cs' := #[vi bj, vi E, vi aa, vi G, vi J]) X1 Z Z Z ((j8.grown0 ar.grw).gn dz) (Nat.le_of_ble_eq_true Z) Z ?_))
 intro xj dp
 refine Xc (Y7 (Xu (Xa (Xp (vs := [vi bj, vi E, vi aa, vi G, vi J]) Y1 ae Z (dp.blk.rangeL 0 5 Z) Z (X0 (vs := [vi bj, vi E, vi aa, vi G, vi J]) (cs' := #[vi bj, vi E, vi aa, vi G, vi J]) Y1 ad Z Z (by simp [Value.oneCell']) (((j7.grown0 ar.grw).gn dz).gn dp.grw) (Nat.le_of_ble_eq_true Z) Z ?_)))))
 intro xk e0
 refine Xc (Xt ?_)
 refine ⟨.agg #[vi bj, vi E, vi aa, vi G, vi J], J2 Z (Ym (vs := [vi bj, vi E, vi aa, vi G, vi J]) Y1 ad Z (e0.blk.rangeL 0 5 Z)), ⟨bj, E, aa, G, J⟩, (p1 + 1 + 1 + 1), Z, ⟨⟨show (0 : Int) ≤ bj by omega, show bj ≤ (10 : Int) by omega⟩, ⟨show (1 : Int) ≤ E by omega, show E ≤ (ms.length : Int) by omega⟩, ⟨show (-1 : Int) ≤ aa by omega, show aa ≤ (4 : Int) by omega⟩, ⟨show (0 : Int) ≤ G by omega, show G ≤ (3 : Int) by omega⟩, show (-1 : Int) ≤ J by omega, show J ≤ (100 : Int) by omega⟩, by omega, by omega, ((mn.gn dp.grw).gn e0.grw), (low1 (low1 (grown_trans g9 dz) dp.grw (by omega)) e0.grw (by omega))⟩
 have u9 := of_decide_eq_false ga
 refine Xa (X3 (q := decide (dh = 1)) Z Z Z Z (Xe (v := vb (decide (dh = 1))) Z Z (Xc (Xy Z (fun gb => ?_) (fun gb => ?_)))))
 have va := of_decide_eq_true gb
 refine X2 (Ya (ps := [(0, vi (-1)), (1, vi 4)]) (e := 3) (cs := (([(-1), 4] : List Int).flatMap icell).toArray) (Xn Z (Xn Z X8)) (fun _ => by kernel_rfl) Z ?_)
 intro n7 xl au
 have tr := Yj au bz
 have qo : hi ≤ n7 := nt (nt (nt hhs O.size) al.size) (Nat.le_of_eq au.eq.symm)
 have j9 := ((ak.gn O).gn al)
 have kx := Xr au (j9).lt
 have ka := ((db.gn O).gn al)
 have k7 := Xr au (ka).lt
 have nq := Xr au (cc).lt
 have ia := low0 bz au.grw
 refine Xb (v := pt R 0) ao Z (Xl Qz (Xg Z (Xg Z Xk)) Z (Qh (p1 + 1 + 1) 2 (by omega) _ R bs _ _ _ (cc.grown0 au.grw) (by omega) (SlLt.low1 hs ia hlo) (by first | exact hb | exact fun b h => hb b (List.mem_of_mem_take h)) (by first | omega | (rw [List.length_take]; omega))) ?_)
 rintro _ xm ⟨gx, rfl, t7, t8, mo, d0⟩
 refine Yb (o' := (gx).toNat * 1) J6 Z Z (by omega) (by omega) (by omega) Z ?_
 obtain ⟨bk, im⟩ := Jn (l := ([(-1), 4] : List Int)) (i := (gx).toNat) (lq (gx).toNat 2)
 have mb := List.mem_of_getElem? im
 simp only [List.mem_cons, List.not_mem_nil, or_false] at mb
 refine Xh (v := vi bk) X1 Z ((Q4 Yv (au.blk.gn d0) im) 0 _ Z) Z (Xd (o' := 2) Km ae Z Z (Yg (v := vi bk) (cs' := #[vi kk, vi E, vi bk, vi G, vi J]) X1 Z Z Z ((ka.grown0 au.grw).gn d0) (Nat.le_of_ble_eq_true Z) Z ?_))
 intro xn dq
 refine Xc (Y7 (Xu (Xa (Xp (vs := [vi kk, vi E, vi bk, vi G, vi J]) Y1 ae Z (dq.blk.rangeL 0 5 Z) Z (X0 (vs := [vi kk, vi E, vi bk, vi G, vi J]) (cs' := #[vi kk, vi E, vi bk, vi G, vi J]) Y1 ad Z Z (by simp [Value.oneCell']) (((j9.grown0 au.grw).gn d0).gn dq.grw) (Nat.le_of_ble_eq_true Z) Z ?_)))))
 intro xo fa
 refine Xc (Xt ?_)
 refine ⟨.agg #[vi kk, vi E, vi bk, vi G, vi J], J2 Z (Ym (vs := [vi kk, vi E, vi bk, vi G, vi J]) Y1 ad Z (fa.blk.rangeL 0 5 Z)), ⟨kk, E, bk, G, J⟩, (p1 + 1 + 1 + 1), Z, ⟨⟨show (0 : Int) ≤ kk by omega, show kk ≤ (10 : Int) by omega⟩, ⟨show (1 : Int) ≤ E by omega, show E ≤ (ms.length : Int) by omega⟩, ⟨show (-1 : Int) ≤ bk by omega, show bk ≤ (4 : Int) by omega⟩, ⟨show (0 : Int) ≤ G by omega, show G ≤ (3 : Int) by omega⟩, show (-1 : Int) ≤ J by omega, show J ≤ (100 : Int) by omega⟩, by omega, by omega, ((mo.gn dq.grw).gn fa.grw), (low1 (low1 (grown_trans ia d0) dq.grw (by omega)) fa.grw (by omega))⟩
 have vc := of_decide_eq_false gb
 refine Xa (X3 (q := decide (dh = 2)) Z Z Z Z (Xe (v := vb (decide (dh = 2))) Z Z (Xc (Xy Z (fun gc => ?_) (fun gc => ?_)))))
 have vd := of_decide_eq_true gc
 refine X2 (Ya (ps := [(0, vi (-1)), (1, vi 100)]) (e := 3) (cs := (([(-1), 100] : List Int).flatMap icell).toArray) (Xn Z (Xn Z X8)) (fun _ => by kernel_rfl) Z ?_)
 intro n9 xp av
 have tt := Yj av bz
 have qp : hi ≤ n9 := nt (nt (nt hhs O.size) al.size) (Nat.le_of_eq av.eq.symm)
 have kb := ((ak.gn O).gn al)
 have ky := Xr av (kb).lt
 have kc := ((db.gn O).gn al)
 have k8 := Xr av (kc).lt
 have nr := Xr av (cc).lt
 have ib := low0 bz av.grw
 refine Xb (v := pt R 0) ao Z (Xl Qz (Xg Z (Xg Z Xk)) Z (Qh (p1 + 1 + 1) 2 (by omega) _ R bs _ _ _ (cc.grown0 av.grw) (by omega) (SlLt.low1 hs ib hlo) (by first | exact hb | exact fun b h => hb b (List.mem_of_mem_take h)) (by first | omega | (rw [List.length_take]; omega))) ?_)
 rintro _ xq ⟨gy, rfl, t9, ua, mp, d1⟩
 refine Yb (o' := (gy).toNat * 1) J6 Z Z (by omega) (by omega) (by omega) Z ?_
 obtain ⟨bl, io⟩ := Jn (l := ([(-1), 100] : List Int)) (i := (gy).toNat) (lq (gy).toNat 2)
 have mc := List.mem_of_getElem? io
 simp only [List.mem_cons, List.not_mem_nil, or_false] at mc
 refine Xh (v := vi bl) X1 Z ((Q4 Yv (av.blk.gn d1) io) 0 _ Z) Z (Xd (o' := 4) Jk ae Z Z (Yg (v := vi bl) (cs' := #[vi kk, vi E, vi aa, vi G, vi bl]) X1 Z Z Z ((kc.grown0 av.grw).gn d1) (Nat.le_of_ble_eq_true Z) Z ?_))
 intro xu dr
 refine Xc (Y7 (Xu (Xa (Xp (vs := [vi kk, vi E, vi aa, vi G, vi bl]) Y1 ae Z (dr.blk.rangeL 0 5 Z) Z (X0 (vs := [vi kk, vi E, vi aa, vi G, vi bl]) (cs' := #[vi kk, vi E, vi aa, vi G, vi bl]) Y1 ad Z Z (by simp [Value.oneCell']) (((kb.grown0 av.grw).gn d1).gn dr.grw) (Nat.le_of_ble_eq_true Z) Z ?_)))))
 intro xv fb
 refine Xc (Xt ?_)
 refine ⟨.agg #[vi kk, vi E, vi aa, vi G, vi bl], J2 Z (Ym (vs := [vi kk, vi E, vi aa, vi G, vi bl]) Y1 ad Z (fb.blk.rangeL 0 5 Z)), ⟨kk, E, aa, G, bl⟩, (p1 + 1 + 1 + 1), Z, ⟨⟨show (0 : Int) ≤ kk by omega, show kk ≤ (10 : Int) by omega⟩, ⟨show (1 : Int) ≤ E by omega, show E ≤ (ms.length : Int) by omega⟩, ⟨show (-1 : Int) ≤ aa by omega, show aa ≤ (4 : Int) by omega⟩, ⟨show (0 : Int) ≤ G by omega, show G ≤ (3 : Int) by omega⟩, show (-1 : Int) ≤ bl by omega, show bl ≤ (100 : Int) by omega⟩, by omega, by omega, ((mp.gn dr.grw).gn fb.grw), (low1 (low1 (grown_trans ib d1) dr.grw (by omega)) fb.grw (by omega))⟩
 have vf := of_decide_eq_false gc
 refine Xw (Y7 (Xu (Xa (Xp (vs := [vi kk, vi E, vi aa, vi G, vi J]) Y1 ae Z (((db.gn O).gn al).rangeL 0 5 Z) Z (X0 (vs := [vi kk, vi E, vi aa, vi G, vi J]) (cs' := #[vi kk, vi E, vi aa, vi G, vi J]) Y1 ad Z Z (by simp [Value.oneCell']) ((ak.gn O).gn al) (Nat.le_of_ble_eq_true Z) Z ?_)))))
 intro xw fc
 refine Xc (Xt ?_)
 refine ⟨.agg #[vi kk, vi E, vi aa, vi G, vi J], J2 Z (Ym (vs := [vi kk, vi E, vi aa, vi G, vi J]) Y1 ad Z (fc.blk.rangeL 0 5 Z)), ⟨kk, E, aa, G, J⟩, (p1 + 1 + 1), Z, ⟨⟨show (0 : Int) ≤ kk by omega, show kk ≤ (10 : Int) by omega⟩, ⟨show (1 : Int) ≤ E by omega, show E ≤ (ms.length : Int) by omega⟩, ⟨show (-1 : Int) ≤ aa by omega, show aa ≤ (4 : Int) by omega⟩, ⟨show (0 : Int) ≤ G by omega, show G ≤ (3 : Int) by omega⟩, show (-1 : Int) ≤ J by omega, show J ≤ (100 : Int) by omega⟩, by omega, by omega, (cc.gn fc.grw), (low1 bz fc.grw (by omega))⟩
 have vg := of_decide_eq_false cf
 iterate 3 refine Xi rfl rfl rfl cf rfl ?_
 refine Xo (v := vb false) Z cf Z Z (Xb (v := vb false) Z Z ?_)
 iterate 4 refine Xi rfl rfl rfl rfl rfl ?_
 refine Xo (v := vb false) Z Z Z Z (Xb (v := vb false) Z Z ?_)
 iterate 9 refine Xi rfl rfl rfl rfl rfl ?_
 refine Xo (v := vb false) Z Z Z Z (Xc (Qc Z Z (Qe (Qb (Qb (Jm (Xu (Xq (Xa (Xb (v := pt R 0) ao Z (Xl Qz (Xg Z (Xg Z Xk)) Z (Qh p1 50 (by omega) _ R bs _ _ _ m6 (by omega) (SlLt.low1 hs fp hlo) (by first | exact hb | exact fun b h => hb b (List.mem_of_mem_take h)) (by first | omega | (rw [List.length_take]; omega))) ?_)))))))))))
 rintro _ xx ⟨di, rfl, uc, ud, cd, am⟩
 have ca := grown_trans fp am
 refine Xc (Yc (Xa (X3 (q := decide (di = 0)) Z Z Z Z (Xe (v := vb (decide (di = 0))) Z Z (Xc (Xy Z (fun gf => ?_) (fun gf => ?_)))))))
 have vh := of_decide_eq_true gf
 refine X2 (Ya (ps := [(0, vi 0), (1, vi 10)]) (e := 3) (cs := (([0, 10] : List Int).flatMap icell).toArray) (Xn Z (Xn Z X8)) (fun _ => by kernel_rfl) Z ?_)
 intro oa xy aw
 have tu := Yj aw ca
 have qq : hi ≤ oa := nt (nt hhs am.size) (Nat.le_of_eq aw.eq.symm)
 have ke := (ak.gn am)
 have kz := Xr aw (ke).lt
 have kf := (db.gn am)
 have k9 := Xr aw (kf).lt
 have nu := Xr aw (cd).lt
 have ic := low0 ca aw.grw
 refine Xb (v := pt R 0) ao Z (Xl Qz (Xg Z (Xg Z Xk)) Z (Qh (p1 + 1) 2 (by omega) _ R bs _ _ _ (cd.grown0 aw.grw) (by omega) (SlLt.low1 hs ic hlo) (by first | exact hb | exact fun b h => hb b (List.mem_of_mem_take h)) (by first | omega | (rw [List.length_take]; omega))) ?_)
 rintro _ xz ⟨gz, rfl, ue, uf, mq, d2⟩
 refine Yb (o' := (gz).toNat * 1) J6 Z Z (by omega) (by omega) (by omega) Z ?_
 obtain ⟨bm, ip⟩ := Jn (l := ([0, 10] : List Int)) (i := (gz).toNat) (lq (gz).toNat 2)
 have me := List.mem_of_getElem? ip
 simp only [List.mem_cons, List.not_mem_nil, or_false] at me
 refine Xh (v := vi bm) X1 Z ((Q4 Yv (aw.blk.gn d2) ip) 0 _ Z) Z (Xd (o' := 0) Ja ae Z Z (Yg (v := vi bm) (cs' := #[vi bm, vi E, vi aa, vi G, vi J]) X1 Z Z Z ((kf.grown0 aw.grw).gn d2) (Nat.le_of_ble_eq_true Z) Z ?_))
 intro x0 dt
 refine Xc (Y7 (Xu (Xa (Xp (vs := [vi bm, vi E, vi aa, vi G, vi J]) Y1 ae Z (dt.blk.rangeL 0 5 Z) Z (X0 (vs := [vi bm, vi E, vi aa, vi G, vi J]) (cs' := #[vi bm, vi E, vi aa, vi G, vi J]) Y1 ad Z Z (by simp [Value.oneCell']) (((ke.grown0 aw.grw).gn d2).gn dt.grw) (Nat.le_of_ble_eq_true Z) Z ?_)))))
 intro x3 fd
 refine Xc (Xt ?_)
 refine ⟨.agg #[vi bm, vi E, vi aa, vi G, vi J], J2 Z (Ym (vs := [vi bm, vi E, vi aa, vi G, vi J]) Y1 ad Z (fd.blk.rangeL 0 5 Z)), ⟨bm, E, aa, G, J⟩, (p1 + 1 + 1), Z, ⟨⟨show (0 : Int) ≤ bm by omega, show bm ≤ (10 : Int) by omega⟩, ⟨show (1 : Int) ≤ E by omega, show E ≤ (ms.length : Int) by omega⟩, ⟨show (-1 : Int) ≤ aa by omega, show aa ≤ (4 : Int) by omega⟩, ⟨show (0 : Int) ≤ G by omega, show G ≤ (3 : Int) by omega⟩, show (-1 : Int) ≤ J by omega, show J ≤ (100 : Int) by omega⟩, by omega, by omega, ((mq.gn dt.grw).gn fd.grw), (low1 (low1 (grown_trans ic d2) dt.grw (by omega)) fd.grw (by omega))⟩
 have vj := of_decide_eq_false gf
 refine Xa (X3 (q := decide (di = 1)) Z Z Z Z (Xe (v := vb (decide (di = 1))) Z Z (Xc (Xy Z (fun gg => ?_) (fun gg => ?_)))))
 have vk := of_decide_eq_true gg
 refine X2 (Ya (ps := [(0, vi (-1)), (1, vi 4)]) (e := 3) (cs := (([(-1), 4] : List Int).flatMap icell).toArray) (Xn Z (Xn Z X8)) (fun _ => by kernel_rfl) Z ?_)
 intro ob x4 az
 have tv := Yj az ca
 have qr : hi ≤ ob := nt (nt hhs am.size) (Nat.le_of_eq az.eq.symm)
 have kg := (ak.gn am)
 have k0 := Xr az (kg).lt
 have kh := (db.gn am)
 have la := Xr az (kh).lt
 have nv := Xr az (cd).lt
 have ie := low0 ca az.grw
 refine Xb (v := pt R 0) ao Z (Xl Qz (Xg Z (Xg Z Xk)) Z (Qh (p1 + 1) 2 (by omega) _ R bs _ _ _ (cd.grown0 az.grw) (by omega) (SlLt.low1 hs ie hlo) (by first | exact hb | exact fun b h => hb b (List.mem_of_mem_take h)) (by first | omega | (rw [List.length_take]; omega))) ?_)
 rintro _ x5 ⟨g0, rfl, ug, uh, mr, d3⟩
 refine Yb (o' := (g0).toNat * 1) J6 Z Z (by omega) (by omega) (by omega) Z ?_
 obtain ⟨bn, iq⟩ := Jn (l := ([(-1), 4] : List Int)) (i := (g0).toNat) (lq (g0).toNat 2)
 have mf := List.mem_of_getElem? iq
 simp only [List.mem_cons, List.not_mem_nil, or_false] at mf
 refine Xh (v := vi bn) X1 Z ((Q4 Yv (az.blk.gn d3) iq) 0 _ Z) Z (Xd (o' := 2) Km ae Z Z (Yg (v := vi bn) (cs' := #[vi kk, vi E, vi bn, vi G, vi J]) X1 Z Z Z ((kh.grown0 az.grw).gn d3) (Nat.le_of_ble_eq_true Z) Z ?_))
 intro x6 du
 refine Xc (Y7 (Xu (Xa (Xp (vs := [vi kk, vi E, vi bn, vi G, vi J]) Y1 ae Z (du.blk.rangeL 0 5 Z) Z (X0 (vs := [vi kk, vi E, vi bn, vi G, vi J]) (cs' := #[vi kk, vi E, vi bn, vi G, vi J]) Y1 ad Z Z (by simp [Value.oneCell']) (((kg.grown0 az.grw).gn d3).gn du.grw) (Nat.le_of_ble_eq_true Z) Z ?_)))))
 intro x7 fe
 refine Xc (Xt ?_)
 refine ⟨.agg #[vi kk, vi E, vi bn, vi G, vi J], J2 Z (Ym (vs := [vi kk, vi E, vi bn, vi G, vi J]) Y1 ad Z (fe.blk.rangeL 0 5 Z)), ⟨kk, E, bn, G, J⟩, (p1 + 1 + 1), Z, ⟨⟨show (0 : Int) ≤ kk by omega, show kk ≤ (10 : Int) by omega⟩, ⟨show (1 : Int) ≤ E by omega, show E ≤ (ms.length : Int) by omega⟩, ⟨show (-1 : Int) ≤ bn by omega, show bn ≤ (4 : Int) by omega⟩, ⟨show (0 : Int) ≤ G by omega, show G ≤ (3 : Int) by omega⟩, show (-1 : Int) ≤ J by omega, show J ≤ (100 : Int) by omega⟩, by omega, by omega, ((mr.gn du.grw).gn fe.grw), (low1 (low1 (grown_trans ie d3) du.grw (by omega)) fe.grw (by omega))⟩
 have vl := of_decide_eq_false gg
 refine Xa (X3 (q := decide (di = 2)) Z Z Z Z (Xe (v := vb (decide (di = 2))) Z Z (Xc (Xy Z (fun gh => ?_) (fun gh => ?_)))))
 have vm := of_decide_eq_true gh
 refine X2 (Ya (ps := [(0, vi (-1)), (1, vi 100)]) (e := 3) (cs := (([(-1), 100] : List Int).flatMap icell).toArray) (Xn Z (Xn Z X8)) (fun _ => by kernel_rfl) Z ?_)
 intro oc x8 a8
 have tw := Yj a8 ca
 have qt : hi ≤ oc := nt (nt hhs am.size) (Nat.le_of_eq a8.eq.symm)
 have ki := (ak.gn am)
 have k3 := Xr a8 (ki).lt
 have kj := (db.gn am)
 have lc := Xr a8 (kj).lt
 have nw := Xr a8 (cd).lt
 have ig := low0 ca a8.grw
 refine Xb (v := pt R 0) ao Z (Xl Qz (Xg Z (Xg Z Xk)) Z (Qh (p1 + 1) 2 (by omega) _ R bs _ _ _ (cd.grown0 a8.grw) (by omega) (SlLt.low1 hs ig hlo) (by first | exact hb | exact fun b h => hb b (List.mem_of_mem_take h)) (by first | omega | (rw [List.length_take]; omega))) ?_)
 rintro _ x9 ⟨g1, rfl, uj, uk, mt, d4⟩
 refine Yb (o' := (g1).toNat * 1) J6 Z Z (by omega) (by omega) (by omega) Z ?_
 obtain ⟨bp, ir⟩ := Jn (l := ([(-1), 100] : List Int)) (i := (g1).toNat) (lq (g1).toNat 2)
 have mg := List.mem_of_getElem? ir
 simp only [List.mem_cons, List.not_mem_nil, or_false] at mg
 refine Xh (v := vi bp) X1 Z ((Q4 Yv (a8.blk.gn d4) ir) 0 _ Z) Z (Xd (o' := 4) Jk ae Z Z (Yg (v := vi bp) (cs' := #[vi kk, vi E, vi aa, vi G, vi bp]) X1 Z Z Z ((kj.grown0 a8.grw).gn d4) (Nat.le_of_ble_eq_true Z) Z ?_))
 intro ya dv
 refine Xc (Y7 (Xu (Xa (Xp (vs := [vi kk, vi E, vi aa, vi G, vi bp]) Y1 ae Z (dv.blk.rangeL 0 5 Z) Z (X0 (vs := [vi kk, vi E, vi aa, vi G, vi bp]) (cs' := #[vi kk, vi E, vi aa, vi G, vi bp]) Y1 ad Z Z (by simp [Value.oneCell']) (((ki.grown0 a8.grw).gn d4).gn dv.grw) (Nat.le_of_ble_eq_true Z) Z ?_)))))
 intro yb ff
 refine Xc (Xt ?_)
 refine ⟨.agg #[vi kk, vi E, vi aa, vi G, vi bp], J2 Z (Ym (vs := [vi kk, vi E, vi aa, vi G, vi bp]) Y1 ad Z (ff.blk.rangeL 0 5 Z)), ⟨kk, E, aa, G, bp⟩, (p1 + 1 + 1), Z, ⟨⟨show (0 : Int) ≤ kk by omega, show kk ≤ (10 : Int) by omega⟩, ⟨show (1 : Int) ≤ E by omega, show E ≤ (ms.length : Int) by omega⟩, ⟨show (-1 : Int) ≤ aa by omega, show aa ≤ (4 : Int) by omega⟩, ⟨show (0 : Int) ≤ G by omega, show G ≤ (3 : Int) by omega⟩, show (-1 : Int) ≤ bp by omega, show bp ≤ (100 : Int) by omega⟩, by omega, by omega, ((mt.gn dv.grw).gn ff.grw), (low1 (low1 (grown_trans ig d4) dv.grw (by omega)) ff.grw (by omega))⟩
 have vn := of_decide_eq_false gh
 refine Xw (Y7 (Xu (Xa (Xp (vs := [vi kk, vi E, vi aa, vi G, vi J]) Y1 ae Z ((db.gn am).rangeL 0 5 Z) Z (X0 (vs := [vi kk, vi E, vi aa, vi G, vi J]) (cs' := #[vi kk, vi E, vi aa, vi G, vi J]) Y1 ad Z Z (by simp [Value.oneCell']) (ak.gn am) (Nat.le_of_ble_eq_true Z) Z ?_)))))
 intro yc fg
 refine Xc (Xt ?_)
 refine ⟨.agg #[vi kk, vi E, vi aa, vi G, vi J], J2 Z (Ym (vs := [vi kk, vi E, vi aa, vi G, vi J]) Y1 ad Z (fg.blk.rangeL 0 5 Z)), ⟨kk, E, aa, G, J⟩, (p1 + 1), Z, ⟨⟨show (0 : Int) ≤ kk by omega, show kk ≤ (10 : Int) by omega⟩, ⟨show (1 : Int) ≤ E by omega, show E ≤ (ms.length : Int) by omega⟩, ⟨show (-1 : Int) ≤ aa by omega, show aa ≤ (4 : Int) by omega⟩, ⟨show (0 : Int) ≤ G by omega, show G ≤ (3 : Int) by omega⟩, show (-1 : Int) ≤ J by omega, show J ≤ (100 : Int) by omega⟩, by omega, by omega, (cd.gn fg.grw), (low1 ca fg.grw (by omega))⟩
end Go.Proofs.YtjpgffmkcmcolaaGreatDoor
end
section
namespace Go.Proofs.YtjpgffmkcmcolaaGreatDoor
open Go.RowKit Go.Dw
set_option maxRecDepth 100000
set_option maxHeartbeats 4000000
set_option linter.unusedSimpArgs false
set_option linter.unusedVariables false
theorem Ud : elemSz Tryz.prog 111 = some 1 := by kernel_rfl
theorem Fy : goFn Tryz.prog 59 = true := by kernel_rfl
theorem Fz : goFn Tryz.prog 61 = true := by kernel_rfl
theorem Zt : goFn Tryz.prog 82 = true := by kernel_rfl
theorem F4 : goFn Tryz.prog 83 = true := by kernel_rfl
theorem S8 (q : Int) (w : World) : CallsR Tryz.prog 82 #[vi q] w (fun v w' => ∃ B : Nat, v = .slice (pa B) 4 4 ∧ w.heap.size ≤ B ∧ Blk w' B 4 #[vb (need0 q), vb (need1 q), vb (need0 q), vb (need1 q)] ∧ w.grownBy w' none) := by
 refine Xx (n := 12) Tryz.func82 Z Tryz.ntmps82 Z ?_
 have G := World.grownBy.refl w none
 refine Xa (Xe (v := .slice none 0 0) Z Z (Xc (Xq (Xa (Xb (v := vi q) Z Z (Xc (Yc (Xq (Xa (X3 (q := decide (q = 1)) Z Z Z Z (Xe (v := vb (decide (q = 1))) Z Z (Xc ?_))))))))))))
 refine Xy Z (fun ac => ?_) (fun ac => ?_)
 have ao := of_decide_eq_true ac
 refine Xw (Xu (Qg Z ac (Xa (Ya (ps := [(0, vb true), (1, vb false), (2, vb true), (3, vb false)]) (e := 4) (cs := #[vb true, vb false, vb true, vb false]) (Xn Z (Xn Z (Xn Z (Xn Z X8)))) (fun _ => by kernel_rfl) Z ?_))))
 intro ae au J
 have ak := Yj J G
 refine Xe (v := .slice (pa ae) 4 4) Z Z (Xc (Xt (Qi (Yk ?_))))
 have e0 : need0 q = true := by unfold need0; simp [ao]
 have e1 : need1 q = false := by unfold need1; simp [ao]
 refine ⟨.slice (pa ae) 4 4, Yp Z Z, ae, Z, ak, ?_, (low0 G J.grw)⟩
 rw [e0, e1]
 exact J.blk
 have E := of_decide_eq_false ac
 refine X2 (X3 (q := decide (q = 4)) Z Z Z Z (Xe (v := vb (decide (q = 4))) Z Z (Xc (Xu (Xy Z (fun ai => ?_) (fun ai => ?_))))))
 have ap := of_decide_eq_true ai
 refine Xa (Ya (ps := [(0, vb true), (1, vb false), (2, vb true), (3, vb false)]) (e := 4) (cs := #[vb true, vb false, vb true, vb false]) (Xn Z (Xn Z (Xn Z (Xn Z X8)))) (fun _ => by kernel_rfl) Z ?_)
 intro af av O
 have al := Yj O G
 refine Xe (v := .slice (pa af) 4 4) Z Z (Xc (Xt (Qi (Yk ?_))))
 have e0 : need0 q = true := by unfold need0; simp [E, ap]
 have e1 : need1 q = false := by unfold need1; simp [E, ap]
 refine ⟨.slice (pa af) 4 4, Yp Z Z, af, Z, al, ?_, (low0 G O.grw)⟩
 rw [e0, e1]
 exact O.blk
 have ad := of_decide_eq_false ai
 refine Xa (X3 (q := decide (q = 7)) Z Z Z Z (Xe (v := vb (decide (q = 7))) Z Z (Xc (Xy Z (fun aj => ?_) (fun aj => ?_)))))
 have aq := of_decide_eq_true aj
 refine Xa (Ya (ps := [(0, vb true), (1, vb true), (2, vb true), (3, vb true)]) (e := 4) (cs := #[vb true, vb true, vb true, vb true]) (Xn Z (Xn Z (Xn Z (Xn Z X8)))) (fun _ => by kernel_rfl) Z ?_)
 intro ag aw V
 have am := Yj V G
 refine Xe (v := .slice (pa ag) 4 4) Z Z (Xc (Xt (Qi (Yk ?_))))
 have e0 : need0 q = true := by unfold need0; simp [E, ad, aq]
 have e1 : need1 q = true := by unfold need1; simp [E, ad, aq]
 refine ⟨.slice (pa ag) 4 4, Yp Z Z, ag, Z, am, ?_, (low0 G V.grw)⟩
 rw [e0, e1]
 exact V.blk
 have ar := of_decide_eq_false aj
 refine Xw (Y7 (Xu (Xa (Ya (ps := [(0, vb false), (1, vb true), (2, vb false), (3, vb true)]) (e := 4) (cs := #[vb false, vb true, vb false, vb true]) (Xn Z (Xn Z (Xn Z (Xn Z X8)))) (fun _ => by kernel_rfl) Z ?_))))
 intro ah az ab
 have an := Yj ab G
 refine Xe (v := .slice (pa ah) 4 4) Z Z (Xc (Xt ?_))
 have e0 : need0 q = false := by unfold need0; simp [E, ad, ar]
 have e1 : need1 q = true := by unfold need1; simp [E, ad, ar]
 refine ⟨.slice (pa ah) 4 4, Yp Z Z, ah, Z, an, ?_, (low0 G ab.grw)⟩
 rw [e0, e1]
 exact ab.blk
theorem Lq (q : Cl) (w : World) (ms : List MTh) (a : Option Addr) (c : Nat) (ht : TabAt w a ms) (hlen : TabLen ms) (hn : ms.length ≤ 1048576) (hT : tableOk (tabT ms) = true) (hc : callOk q = true) (hk : kindAt (tabT ms) q.run 3 = true) : CallsR Tryz.prog 56 #[.slice a ms.length c, .agg #[vi q.kind, vi q.run, vi q.a, vi q.b, vi q.n]] w (fun v w' => v = vi (check1 (tabT ms) q) ∧ w.grownBy w' none) := by
 refine Xx (n := 95) Tryz.func56 Z Tryz.ntmps56 Z ?_
 have jh := World.grownBy.refl w none
 have hco := Yq hc
 have hkp := (Y3 hk).1
 have h4 := Qp hT hk
 refine Xa (Qf (v := .agg #[vi q.kind, vi q.run, vi q.a, vi q.b, vi q.n]) (cs := #[vi q.kind, vi q.run, vi q.a, vi q.b, vi q.n]) Z Z Z ?_)
 intro a9 em bd
 have jl := Yj bd jh
 have bn := low0 jh bd.grw
 refine Xe (v := vi 0) Z Z (Xc (Xq (Xa (Xd (o' := 0) Ja Z Z Z (Xh (v := vi q.kind) X1 Z (bd.blk.cell Z) Z (X3 (q := decide (q.kind = 3)) Z Z Z Z (Xc (Xy Z (fun O => ?_) (fun O => ?_)))))))))
 have j8 := of_decide_eq_true O
 refine Xa (Xe (v := vi 0) Z Z (Xc (Xt (Yk (⟨vi 0, Yp Z Z, ?_, bn⟩)))))
 exact congrArg (Value.int .i64) (Lg O)
 have j9 := of_decide_eq_false O
 refine Xw (Xu (Xq ?_))
 obtain ⟨d3, ke, dm, ey, gu, g2⟩ := SlAt.at (TabAt.low ht bn).1 (Yi (xg ms (q.run - 1).toNat))
 have jp := TabLen.at hlen (xg ms (q.run - 1).toNat)
 obtain ⟨ie, kf, jj, ez, gv, g3⟩ := SlAt.at (TabAt.th (TabAt.low ht bn) (xg ms (q.run - 1).toNat)).1 (Yi (xr (mAt ms (q.run - 1).toNat).t.slots (q.a).toNat))
 have jw := Hc hT (lq (q.run - 1).toNat ms.length) (lq (q.a).toNat (mAt ms (q.run - 1).toNat).t.slots.length)
 refine Qy (m := 12) [[], [], [1], [1, 2], [0, 1, 2, 3], [0, 1, 2, 3, 4], [0, 1, 2, 3, 4, 5], [], [7], [0, 1, 2, 3, 4, 5, 6, 7, 8], [0, 1, 2, 3, 4, 5, 6, 7, 8, 9], [], [0, 1, 2, 3, 4, 5, 6, 7, 8, 9, 10, 11]] (fun S F w' => ∃ (J : Nat), em.grownBy w' none ∧ F 0 = .slice a ms.length c ∧ F 3 = pt a9 0 ∧ F 4 = vi 0 ∧ (S 11 = true → F 5 = pt J 0 ∧ w.heap.size ≤ J ∧ Blk w' J 42 #[vi 0, vi 0, vb false, vb false, vb false] ∧ a9 < J ∧ em.heap.size ≤ J) ∧ Vals S F [(0, 11, .slice a ms.length c), (1, 12, pt a9 1), (2, 13, vi q.run), (3, 14, vi (q.run - 1)), (4, 15, pt d3 dm), (5, 16, pt d3 (dm + 5)), (6, 17, .slice (mAt ms (q.run - 1).toNat).sa (mAt ms (q.run - 1).toNat).t.slots.length (mAt ms (q.run - 1).toNat).sc), (7, 18, pt a9 2), (8, 19, vi q.a), (9, 20, pt ie jj), (10, 21, .agg #[vi (rAt (mAt ms (q.run - 1).toNat).t.slots (q.a).toNat).th, vi (rAt (mAt ms (q.run - 1).toNat).t.slots (q.a).toNat).ve, vb (rAt (mAt ms (q.run - 1).toNat).t.slots (q.a).toNat).rd, vb (rAt (mAt ms (q.run - 1).toNat).t.slots (q.a).toNat).wr, vb (rAt (mAt ms (q.run - 1).toNat).t.slots (q.a).toNat).wk])]) Yy (by kernel_rfl) ⟨0, X6 _, Z, Z, Z, Yt, J3 _⟩ ?_ ?_
 refine Xj (fun S F km hS hbef hcl hI => ?_) ?_
 obtain ⟨J, fg, ea, ig, ii, af, hvs⟩ := hI
 exact Xb (v := .slice a ms.length c) ea Z (Xc ⟨J, fg, ea, ig, ii, af, Vals.up 0 hvs Z Z Z⟩)
 refine Xj (fun S F kn hS hbef hcl hI => ?_) ?_
 obtain ⟨J, fh, ij, eb, ik, af, hvs⟩ := hI
 exact Xd (o' := 1) Qv eb Z Z (Xc ⟨J, fh, ij, eb, ik, af, Vals.up 1 hvs Z Z Z⟩)
 refine Xj (fun S F ko hS hbef hcl hI => ?_) ?_
 obtain ⟨J, dc, il, im, io, af, hvs⟩ := hI
 exact Xh (v := vi q.run) X1 (Vals.at 1 hvs Z (Xm 1 hbef Z)) ((bd.blk.grown0 dc).cell Z) Z (Xc ⟨J, dc, il, im, io, af, Vals.up 2 hvs Z Z Z⟩)
 refine Xj (fun S F kp hS hbef hcl hI => ?_) ?_
 obtain ⟨J, fi, ip, iq, ir, af, hvs⟩ := hI
 exact Ys (c := q.run - 1) (Vals.at 2 hvs Z (Xm 2 hbef Z)) Z (by omega) (by omega) (by omega) Z (Xc ⟨J, fi, ip, iq, ir, af, Vals.up 3 hvs Z Z Z⟩)
 refine Xj (fun S F kq hS hbef hcl hI => ?_) ?_
 obtain ⟨J, fj, it, iu, iv, af, hvs⟩ := hI
 exact Xz Y2 (Vals.at 0 hvs Z (Xm 0 hbef Z)) (Vals.at 3 hvs Z (Xm 3 hbef Z)) ey gu (by omega) (by omega) Z (Xc ⟨J, fj, it, iu, iv, af, Vals.up 4 hvs Z Z Z⟩)
 refine Xj (fun S F kr hS hbef hcl hI => ?_) ?_
 obtain ⟨J, fk, iw, ix, iy, af, hvs⟩ := hI
 exact Xd (o' := dm + 5) Qj (Vals.at 4 hvs Z (Xm 4 hbef Z)) Z Z (Xc ⟨J, fk, iw, ix, iy, af, Vals.up 5 hvs Z Z Z⟩)
 refine Xj (fun S F ks hS hbef hcl hI => ?_) ?_
 obtain ⟨J, de, iz, i0, i1, af, hvs⟩ := hI
 exact Xh (v := .slice (mAt ms (q.run - 1).toNat).sa (mAt ms (q.run - 1).toNat).t.slots.length (mAt ms (q.run - 1).toNat).sc) Jh (Vals.at 5 hvs Z (Xm 5 hbef Z)) ((X9 g2 de) 5 _ Z) Z (Xc ⟨J, de, iz, i0, i1, af, Vals.up 6 hvs Z Z Z⟩)
 refine Xj (fun S F kt hS hbef hcl hI => ?_) ?_
 obtain ⟨J, fm, i2, ed, i3, af, hvs⟩ := hI
 exact Xd (o' := 2) Km ed Z Z (Xc ⟨J, fm, i2, ed, i3, af, Vals.up 7 hvs Z Z Z⟩)
 refine Xj (fun S F ku hS hbef hcl hI => ?_) ?_
 obtain ⟨J, df, i4, i5, i6, af, hvs⟩ := hI
 exact Xh (v := vi q.a) X1 (Vals.at 7 hvs Z (Xm 7 hbef Z)) ((bd.blk.grown0 df).cell Z) Z (Xc ⟨J, df, i4, i5, i6, af, Vals.up 8 hvs Z Z Z⟩)
 refine Xj (fun S F kv hS hbef hcl hI => ?_) ?_
 obtain ⟨J, fo, i7, i8, i9, af, hvs⟩ := hI
 exact Xz Ka (Vals.at 6 hvs Z (Xm 6 hbef Z)) (Vals.at 8 hvs Z (Xm 8 hbef Z)) ez gv (by omega) (by omega) Z (Xc ⟨J, fo, i7, i8, i9, af, Vals.up 9 hvs Z Z Z⟩)
 refine Xj (fun S F kw hS hbef hcl hI => ?_) ?_
 obtain ⟨J, dg, ja, jb, jc, af, hvs⟩ := hI
 exact Xp (vs := [vi (rAt (mAt ms (q.run - 1).toNat).t.slots (q.a).toNat).th, vi (rAt (mAt ms (q.run - 1).toNat).t.slots (q.a).toNat).ve, vb (rAt (mAt ms (q.run - 1).toNat).t.slots (q.a).toNat).rd, vb (rAt (mAt ms (q.run - 1).toNat).t.slots (q.a).toNat).wr, vb (rAt (mAt ms (q.run - 1).toNat).t.slots (q.a).toNat).wk]) Yx (Vals.at 9 hvs Z (Xm 9 hbef Z)) Z (Yr (X9 g3 dg) 0 5 Z) Z (Xc ⟨J, dg, ja, jb, jc, af, Vals.up 10 hvs Z Z Z⟩)
 refine Xj (fun S F kx hS hbef hcl hI => ?_) ?_
 obtain ⟨J, bz, jd, je, jf, af, hvs⟩ := hI
 refine Ye (cs := #[vi 0, vi 0, vb false, vb false, vb false]) Kz Z Z ?_
 intro ic ky bm
 have d2 := Yj bm (low0 bn bz)
 have bp := Xr bm ((bd.blk.grown0 bz)).lt
 exact Xc ⟨ic, (low0 bz bm.grw), jd, je, jf, fun _ => ⟨Z, d2, bm.blk, bp, (nt bz.size (Nat.le_of_eq bm.eq.symm))⟩, Vals.keep hvs Z⟩
 exact Q5
 intro S F kz hall hI
 obtain ⟨J, dh, a8, ar, bk, af, hvs⟩ := hI
 obtain ⟨ae, jm, dl, dv, ji⟩ := af (hall 11 (by decide))
 refine X0 (vs := [vi (rAt (mAt ms (q.run - 1).toNat).t.slots (q.a).toNat).th, vi (rAt (mAt ms (q.run - 1).toNat).t.slots (q.a).toNat).ve, vb (rAt (mAt ms (q.run - 1).toNat).t.slots (q.a).toNat).rd, vb (rAt (mAt ms (q.run - 1).toNat).t.slots (q.a).toNat).wr, vb (rAt (mAt ms (q.run - 1).toNat).t.slots (q.a).toNat).wk]) (cs' := #[vi (rAt (mAt ms (q.run - 1).toNat).t.slots (q.a).toNat).th, vi (rAt (mAt ms (q.run - 1).toNat).t.slots (q.a).toNat).ve, vb (rAt (mAt ms (q.run - 1).toNat).t.slots (q.a).toNat).rd, vb (rAt (mAt ms (q.run - 1).toNat).t.slots (q.a).toNat).wr, vb (rAt (mAt ms (q.run - 1).toNat).t.slots (q.a).toNat).wk]) Yx ae (Vals.at 10 hvs Z (hall 10 (by decide))) Z (by simp [Value.oneCell']) dl (Nat.le_of_ble_eq_true Z) Z ?_
 intro k0 ab
 have da := low1 (low0 bn dh) ab.grw (by omega)
 refine Xc (Xu (Xa (Xd (o' := 0) Ja ar Z Z ?_)))
 have bg := ((bd.blk.grown0 dh).gn ab.grw)
 refine Xh (v := vi q.kind) X1 Z (bg.cell Z) Z (Xl Zt (Xg Z Xk) Z (S8 q.kind _) ?_)
 rintro _ bj ⟨aq, rfl, bx, bq, V⟩
 have be := low0 da V
 have jo := nt da.size bx
 have dw := nl (bg).lt bx
 have dx := nl (ab.blk).lt bx
 refine Xe (v := .slice (pa aq) 4 4) Z Z (Xc (Xq (Kn (fun f' w' => (f' 0 = .slice a ms.length c ∧ f' 3 = pt a9 0 ∧ f' 4 = vi 0 ∧ f' 5 = pt J 0 ∧ f' 6 = .slice (pa aq) 4 4 ∧ f' 60 = vb ((((decide ((rAt (mAt ms (q.run - 1).toNat).t.slots (q.a).toNat).th = 0)) || (!kindFor q.kind (mAt ms ((rAt (mAt ms (q.run - 1).toNat).t.slots (q.a).toNat).th - 1).toNat).t.kind)) || (need0 q.kind && (!(rAt (mAt ms (q.run - 1).toNat).t.slots (q.a).toNat).rd))) || (need1 q.kind && (!(rAt (mAt ms (q.run - 1).toNat).t.slots (q.a).toNat).wr)))) ∧ bj.grownBy w' none) ?_ ?_)))
 rcases Yf (decide ((rAt (mAt ms (q.run - 1).toNat).t.slots (q.a).toNat).th = 0)) with E | E
 have ka := of_decide_eq_true E
 refine Yw (m := 13) (vals := [(25, pt J 0), (26, vi (rAt (mAt ms (q.run - 1).toNat).t.slots (q.a).toNat).th), (27, vb (decide ((rAt (mAt ms (q.run - 1).toNat).t.slots (q.a).toNat).th = 0))), (28, vb (decide ((rAt (mAt ms (q.run - 1).toNat).t.slots (q.a).toNat).th = 0))), (29, undef), (30, undef), (31, undef), (32, undef), (33, undef), (34, undef), (35, undef), (36, undef), (37, undef)]) (fun w' => bj.grownBy w' none) Yy (by kernel_rfl) (X6 _) ?_ ?_
 refine yl Z (fun _ _ k => Xd (o' := 0) Yz ae Z Z k) (yl Z (fun _ fp k => Xh (v := vi (rAt (mAt ms (q.run - 1).toNat).t.slots (q.a).toNat).th) X1 Z (((ab.blk.grown0 V).grown0 fp).cell Z) Z k) (yl Z (fun _ _ k => X3 (q := decide ((rAt (mAt ms (q.run - 1).toNat).t.slots (q.a).toNat).th = 0)) Z Z Z Z k) (yl Z (fun _ _ k => Xb (v := vb (decide ((rAt (mAt ms (q.run - 1).toNat).t.slots (q.a).toNat).th = 0))) Z Z k) (yl Z (fun _ _ k => Xi Z Z Z E Z k) (yl Z (fun _ _ k => Xi Z Z Z E Z k) (yl Z (fun _ _ k => Xi Z Z Z E Z k) (yl Z (fun _ _ k => Xi Z Z Z E Z k) (yl Z (fun _ _ k => Xi Z Z Z E Z k) (yl Z (fun _ _ k => Xi Z Z Z E Z k) (yl Z (fun _ _ k => Xi Z Z Z E Z k) ?_))))))))))
 exact yl Z (fun _ _ k => Xi Z Z Z E Z k) (yl Z (fun _ _ k => Xi Z Z Z E Z k) Y5)
 intro k3 fq
 refine Xi Z Z Z E Z (Xi Z Z Z E Z (Xs (v := vb true) Z E Z Z (Xb (v := vb true) Z Z ?_)))
 iterate 4 refine Xi rfl rfl rfl rfl rfl ?_
 iterate 3 refine Y4 rfl rfl rfl rfl ?_
 refine Xi Z Z Z Z Z (Xs (v := vb true) Z Z Z Z (Xb (v := vb true) Z Z ?_))
 iterate 4 refine Xi rfl rfl rfl rfl rfl ?_
 iterate 3 refine Y4 rfl rfl rfl rfl ?_
 exact Xi Z Z Z Z Z (Xs (v := vb true) Z Z Z Z (Xc (Xu ⟨⟨a8, ar, bk, ae, Z, (congrArg Value.bool (by first | (simp only [O, E, hT, b0, b1, b2, b3, b4, b5, b6, b7, b8, b9]; done) | simp [O, E, hT]))⟩, fq⟩)))
 have kb := of_decide_eq_false E
 rcases Yf (!kindFor q.kind (mAt ms ((rAt (mAt ms (q.run - 1).toNat).t.slots (q.a).toNat).th - 1).toNat).t.kind) with G | G
 have ee := Q2 G
 obtain ⟨d4, kg, dn, e0, gw, g5⟩ := SlAt.at (TabAt.low ht be).1 (Yi (xg ms ((rAt (mAt ms (q.run - 1).toNat).t.slots (q.a).toNat).th - 1).toNat))
 have jq := TabLen.at hlen (xg ms ((rAt (mAt ms (q.run - 1).toNat).t.slots (q.a).toNat).th - 1).toNat)
 refine Yw (m := 13) (vals := [(25, pt J 0), (26, vi (rAt (mAt ms (q.run - 1).toNat).t.slots (q.a).toNat).th), (27, vb (decide ((rAt (mAt ms (q.run - 1).toNat).t.slots (q.a).toNat).th = 0))), (28, vb (decide ((rAt (mAt ms (q.run - 1).toNat).t.slots (q.a).toNat).th = 0))), (29, pt a9 0), (30, vi q.kind), (31, .slice a ms.length c), (32, pt J 0), (33, vi (rAt (mAt ms (q.run - 1).toNat).t.slots (q.a).toNat).th), (34, vi ((rAt (mAt ms (q.run - 1).toNat).t.slots (q.a).toNat).th - 1)), (35, pt d4 dn), (36, pt d4 dn), (37, vi (mAt ms ((rAt (mAt ms (q.run - 1).toNat).t.slots (q.a).toNat).th - 1).toNat).t.kind)]) (fun w' => bj.grownBy w' none) Yy (by kernel_rfl) (X6 _) ?_ ?_
 refine yl Z (fun _ _ k => Xd (o' := 0) Yz ae Z Z k) (yl Z (fun _ fr k => Xh (v := vi (rAt (mAt ms (q.run - 1).toNat).t.slots (q.a).toNat).th) X1 Z (((ab.blk.grown0 V).grown0 fr).cell Z) Z k) (yl Z (fun _ _ k => X3 (q := decide ((rAt (mAt ms (q.run - 1).toNat).t.slots (q.a).toNat).th = 0)) Z Z Z Z k) (yl Z (fun _ _ k => Xb (v := vb (decide ((rAt (mAt ms (q.run - 1).toNat).t.slots (q.a).toNat).th = 0))) Z Z k) (yl Z (fun _ _ k => Xf Z Z Z E (Xd (o' := 0) Ja ar Z Z k)) (yl Z (fun _ ft k => Xf Z Z Z E (Xh (v := vi q.kind) X1 Z (((bg.grown0 V).grown0 ft).cell Z) Z k)) (yl Z (fun _ _ k => Xf Z Z Z E (Xb (v := .slice a ms.length c) a8 Z k)) (yl Z (fun _ _ k => Xf Z Z Z E (Xd (o' := 0) Yz ae Z Z k)) (yl Z (fun _ fu k => Xf Z Z Z E (Xh (v := vi (rAt (mAt ms (q.run - 1).toNat).t.slots (q.a).toNat).th) X1 Z (((ab.blk.grown0 V).grown0 fu).cell Z) Z k)) (yl Z (fun _ _ k => Xf Z Z Z E (Ys (c := (rAt (mAt ms (q.run - 1).toNat).t.slots (q.a).toNat).th - 1) Z Z (by omega) (by omega) (by omega) Z k)) (yl Z (fun _ _ k => Xf Z Z Z E (Xz Y2 Z Z e0 gw (by omega) (by omega) Z k)) ?_))))))))))
 exact yl Z (fun _ _ k => Xf Z Z Z E (Xd (o' := dn) Y9 Z Z Z k)) (yl Z (fun _ fv k => Xf Z Z Z E (Xh (v := vi (mAt ms ((rAt (mAt ms (q.run - 1).toNat).t.slots (q.a).toNat).th - 1).toNat).t.kind) X1 Z ((X9 g5 fv) 0 _ Z) Z k)) Y5)
 intro k4 fw
 refine Xf Z Z Z E (Xl Ln (Xg Z (Xg Z Xk)) Z (V2 q.kind (mAt ms ((rAt (mAt ms (q.run - 1).toNat).t.slots (q.a).toNat).th - 1).toNat).t.kind _) ?_)
 rintro _ k5 ⟨rfl, ff⟩
 refine Xf Z Z Z E (Yl (b' := !kindFor q.kind (mAt ms ((rAt (mAt ms (q.run - 1).toNat).t.slots (q.a).toNat).th - 1).toNat).t.kind) Z Z Z (Xo (v := vb (!kindFor q.kind (mAt ms ((rAt (mAt ms (q.run - 1).toNat).t.slots (q.a).toNat).th - 1).toNat).t.kind)) Z E Z Z (Xb (v := vb (!kindFor q.kind (mAt ms ((rAt (mAt ms (q.run - 1).toNat).t.slots (q.a).toNat).th - 1).toNat).t.kind)) Z Z ?_)))
 iterate 4 refine Xi rfl rfl rfl G rfl ?_
 iterate 3 refine Y4 rfl rfl rfl rfl ?_
 refine Xi Z Z Z G Z (Xs (v := vb true) Z G Z Z (Xb (v := vb true) Z Z ?_))
 iterate 4 refine Xi rfl rfl rfl rfl rfl ?_
 iterate 3 refine Y4 rfl rfl rfl rfl ?_
 exact Xi Z Z Z Z Z (Xs (v := vb true) Z Z Z Z (Xc (Xu ⟨⟨a8, ar, bk, ae, Z, (congrArg Value.bool (by first | (simp only [O, E, G, ee, hT, b0, b1, b2, b3, b4, b5, b6, b7, b8, b9]; done) | simp [O, E, G, ee, hT]))⟩, (grown_trans fw ff)⟩)))
 have bc := Qx G
 rcases Yf (need0 q.kind) with ad | ad
 rcases Yf (!(rAt (mAt ms (q.run - 1).toNat).t.slots (q.a).toNat).rd) with ag | ag
 have ef := Q2 ag
 obtain ⟨d5, kh, dp, fa, gx, g6⟩ := SlAt.at (TabAt.low ht be).1 (Yi (xg ms ((rAt (mAt ms (q.run - 1).toNat).t.slots (q.a).toNat).th - 1).toNat))
 have jr := TabLen.at hlen (xg ms ((rAt (mAt ms (q.run - 1).toNat).t.slots (q.a).toNat).th - 1).toNat)
 refine Yw (m := 13) (vals := [(25, pt J 0), (26, vi (rAt (mAt ms (q.run - 1).toNat).t.slots (q.a).toNat).th), (27, vb (decide ((rAt (mAt ms (q.run - 1).toNat).t.slots (q.a).toNat).th = 0))), (28, vb (decide ((rAt (mAt ms (q.run - 1).toNat).t.slots (q.a).toNat).th = 0))), (29, pt a9 0), (30, vi q.kind), (31, .slice a ms.length c), (32, pt J 0), (33, vi (rAt (mAt ms (q.run - 1).toNat).t.slots (q.a).toNat).th), (34, vi ((rAt (mAt ms (q.run - 1).toNat).t.slots (q.a).toNat).th - 1)), (35, pt d5 dp), (36, pt d5 dp), (37, vi (mAt ms ((rAt (mAt ms (q.run - 1).toNat).t.slots (q.a).toNat).th - 1).toNat).t.kind)]) (fun w' => bj.grownBy w' none) Yy (by kernel_rfl) (X6 _) ?_ ?_
 refine yl Z (fun _ _ k => Xd (o' := 0) Yz ae Z Z k) (yl Z (fun _ fx k => Xh (v := vi (rAt (mAt ms (q.run - 1).toNat).t.slots (q.a).toNat).th) X1 Z (((ab.blk.grown0 V).grown0 fx).cell Z) Z k) (yl Z (fun _ _ k => X3 (q := decide ((rAt (mAt ms (q.run - 1).toNat).t.slots (q.a).toNat).th = 0)) Z Z Z Z k) (yl Z (fun _ _ k => Xb (v := vb (decide ((rAt (mAt ms (q.run - 1).toNat).t.slots (q.a).toNat).th = 0))) Z Z k) (yl Z (fun _ _ k => Xf Z Z Z E (Xd (o' := 0) Ja ar Z Z k)) (yl Z (fun _ fy k => Xf Z Z Z E (Xh (v := vi q.kind) X1 Z (((bg.grown0 V).grown0 fy).cell Z) Z k)) (yl Z (fun _ _ k => Xf Z Z Z E (Xb (v := .slice a ms.length c) a8 Z k)) (yl Z (fun _ _ k => Xf Z Z Z E (Xd (o' := 0) Yz ae Z Z k)) (yl Z (fun _ fz k => Xf Z Z Z E (Xh (v := vi (rAt (mAt ms (q.run - 1).toNat).t.slots (q.a).toNat).th) X1 Z (((ab.blk.grown0 V).grown0 fz).cell Z) Z k)) (yl Z (fun _ _ k => Xf Z Z Z E (Ys (c := (rAt (mAt ms (q.run - 1).toNat).t.slots (q.a).toNat).th - 1) Z Z (by omega) (by omega) (by omega) Z k)) (yl Z (fun _ _ k => Xf Z Z Z E (Xz Y2 Z Z fa gx (by omega) (by omega) Z k)) ?_))))))))))
 exact yl Z (fun _ _ k => Xf Z Z Z E (Xd (o' := dp) Y9 Z Z Z k)) (yl Z (fun _ f8 k => Xf Z Z Z E (Xh (v := vi (mAt ms ((rAt (mAt ms (q.run - 1).toNat).t.slots (q.a).toNat).th - 1).toNat).t.kind) X1 Z ((X9 g6 f8) 0 _ Z) Z k)) Y5)
 intro k6 ck
 refine Xf Z Z Z E (Xl Ln (Xg Z (Xg Z Xk)) Z (V2 q.kind (mAt ms ((rAt (mAt ms (q.run - 1).toNat).t.slots (q.a).toNat).th - 1).toNat).t.kind _) ?_)
 rintro _ k7 ⟨rfl, ce⟩
 refine Xf Z Z Z E (Yl (b' := !kindFor q.kind (mAt ms ((rAt (mAt ms (q.run - 1).toNat).t.slots (q.a).toNat).th - 1).toNat).t.kind) Z Z Z (Xo (v := vb (!kindFor q.kind (mAt ms ((rAt (mAt ms (q.run - 1).toNat).t.slots (q.a).toNat).th - 1).toNat).t.kind)) Z E Z Z (Xb (v := vb (!kindFor q.kind (mAt ms ((rAt (mAt ms (q.run - 1).toNat).t.slots (q.a).toNat).th - 1).toNat).t.kind)) Z Z (Xf Z Z Z G (Xb (v := .slice (pa aq) 4 4) Z Z (Xf Z Z Z G (Yb (o' := 0) Ud Z Z (by omega) (by omega) Z Z (Xf Z Z Z G (Xh (v := vb (need0 q.kind)) J4 Z (((bq.grown0 ck).grown0 ce).cell Z) Z (Xf Z Z Z G (Xb (v := vb (need0 q.kind)) Z Z (Xf Z Z Z ad ?_))))))))))))
 refine Xd (o' := 2) Ux ae Z Z (Xf Z Z Z ad (Xh (v := vb (rAt (mAt ms (q.run - 1).toNat).t.slots (q.a).toNat).rd) J4 Z ((((ab.blk.grown0 V).grown0 ck).grown0 ce).cell Z) Z (Xf Z Z Z ad (Yl (b' := !(rAt (mAt ms (q.run - 1).toNat).t.slots (q.a).toNat).rd) Z Z Z (Xf Z Z Z G (Xs (v := vb (!(rAt (mAt ms (q.run - 1).toNat).t.slots (q.a).toNat).rd)) Z ad Z Z (Xo (v := vb (!(rAt (mAt ms (q.run - 1).toNat).t.slots (q.a).toNat).rd)) Z G Z Z (Xb (v := vb (!(rAt (mAt ms (q.run - 1).toNat).t.slots (q.a).toNat).rd)) Z Z ?_))))))))
 iterate 4 refine Xi rfl rfl rfl ag rfl ?_
 iterate 3 refine Y4 rfl rfl rfl rfl ?_
 exact Xi Z Z Z ag Z (Xs (v := vb true) Z ag Z Z (Xc (Xu ⟨⟨a8, ar, bk, ae, Z, (congrArg Value.bool (by first | (simp only [O, E, G, bc, ad, ag, ef, hT, b0, b1, b2, b3, b4, b5, b6, b7, b8, b9]; done) | simp [O, E, G, bc, ad, ag, ef, hT]))⟩, (grown_trans ck ce)⟩)))
 have ct := Qx ag
 rcases Yf (need1 q.kind) with ba | ba
 obtain ⟨d6, ki, dq, fb, gy, g7⟩ := SlAt.at (TabAt.low ht be).1 (Yi (xg ms ((rAt (mAt ms (q.run - 1).toNat).t.slots (q.a).toNat).th - 1).toNat))
 have js := TabLen.at hlen (xg ms ((rAt (mAt ms (q.run - 1).toNat).t.slots (q.a).toNat).th - 1).toNat)
 refine Yw (m := 13) (vals := [(25, pt J 0), (26, vi (rAt (mAt ms (q.run - 1).toNat).t.slots (q.a).toNat).th), (27, vb (decide ((rAt (mAt ms (q.run - 1).toNat).t.slots (q.a).toNat).th = 0))), (28, vb (decide ((rAt (mAt ms (q.run - 1).toNat).t.slots (q.a).toNat).th = 0))), (29, pt a9 0), (30, vi q.kind), (31, .slice a ms.length c), (32, pt J 0), (33, vi (rAt (mAt ms (q.run - 1).toNat).t.slots (q.a).toNat).th), (34, vi ((rAt (mAt ms (q.run - 1).toNat).t.slots (q.a).toNat).th - 1)), (35, pt d6 dq), (36, pt d6 dq), (37, vi (mAt ms ((rAt (mAt ms (q.run - 1).toNat).t.slots (q.a).toNat).th - 1).toNat).t.kind)]) (fun w' => bj.grownBy w' none) Yy (by kernel_rfl) (X6 _) ?_ ?_
 refine yl Z (fun _ _ k => Xd (o' := 0) Yz ae Z Z k) (yl Z (fun _ f9 k => Xh (v := vi (rAt (mAt ms (q.run - 1).toNat).t.slots (q.a).toNat).th) X1 Z (((ab.blk.grown0 V).grown0 f9).cell Z) Z k) (yl Z (fun _ _ k => X3 (q := decide ((rAt (mAt ms (q.run - 1).toNat).t.slots (q.a).toNat).th = 0)) Z Z Z Z k) (yl Z (fun _ _ k => Xb (v := vb (decide ((rAt (mAt ms (q.run - 1).toNat).t.slots (q.a).toNat).th = 0))) Z Z k) (yl Z (fun _ _ k => Xf Z Z Z E (Xd (o' := 0) Ja ar Z Z k)) (yl Z (fun _ ga k => Xf Z Z Z E (Xh (v := vi q.kind) X1 Z (((bg.grown0 V).grown0 ga).cell Z) Z k)) (yl Z (fun _ _ k => Xf Z Z Z E (Xb (v := .slice a ms.length c) a8 Z k)) (yl Z (fun _ _ k => Xf Z Z Z E (Xd (o' := 0) Yz ae Z Z k)) (yl Z (fun _ gb k => Xf Z Z Z E (Xh (v := vi (rAt (mAt ms (q.run - 1).toNat).t.slots (q.a).toNat).th) X1 Z (((ab.blk.grown0 V).grown0 gb).cell Z) Z k)) (yl Z (fun _ _ k => Xf Z Z Z E (Ys (c := (rAt (mAt ms (q.run - 1).toNat).t.slots (q.a).toNat).th - 1) Z Z (by omega) (by omega) (by omega) Z k)) (yl Z (fun _ _ k => Xf Z Z Z E (Xz Y2 Z Z fb gy (by omega) (by omega) Z k)) ?_))))))))))
 exact yl Z (fun _ _ k => Xf Z Z Z E (Xd (o' := dq) Y9 Z Z Z k)) (yl Z (fun _ gc k => Xf Z Z Z E (Xh (v := vi (mAt ms ((rAt (mAt ms (q.run - 1).toNat).t.slots (q.a).toNat).th - 1).toNat).t.kind) X1 Z ((X9 g7 gc) 0 _ Z) Z k)) Y5)
 intro k8 cl
 refine Xf Z Z Z E (Xl Ln (Xg Z (Xg Z Xk)) Z (V2 q.kind (mAt ms ((rAt (mAt ms (q.run - 1).toNat).t.slots (q.a).toNat).th - 1).toNat).t.kind _) ?_)
 rintro _ k9 ⟨rfl, cf⟩
 refine Xf Z Z Z E (Yl (b' := !kindFor q.kind (mAt ms ((rAt (mAt ms (q.run - 1).toNat).t.slots (q.a).toNat).th - 1).toNat).t.kind) Z Z Z (Xo (v := vb (!kindFor q.kind (mAt ms ((rAt (mAt ms (q.run - 1).toNat).t.slots (q.a).toNat).th - 1).toNat).t.kind)) Z E Z Z (Xb (v := vb (!kindFor q.kind (mAt ms ((rAt (mAt ms (q.run - 1).toNat).t.slots (q.a).toNat).th - 1).toNat).t.kind)) Z Z (Xf Z Z Z G (Xb (v := .slice (pa aq) 4 4) Z Z (Xf Z Z Z G (Yb (o' := 0) Ud Z Z (by omega) (by omega) Z Z (Xf Z Z Z G ?_))))))))
 have eg := ((bq.grown0 cl).grown0 cf)
 refine Xh (v := vb (need0 q.kind)) J4 Z (eg.cell Z) Z (Xf Z Z Z G (Xb (v := vb (need0 q.kind)) Z Z (Xf Z Z Z ad (Xd (o' := 2) Ux ae Z Z (Xf Z Z Z ad ?_)))))
 have eh := (((ab.blk.grown0 V).grown0 cl).grown0 cf)
 refine Xh (v := vb (rAt (mAt ms (q.run - 1).toNat).t.slots (q.a).toNat).rd) J4 Z (eh.cell Z) Z (Xf Z Z Z ad (Yl (b' := !(rAt (mAt ms (q.run - 1).toNat).t.slots (q.a).toNat).rd) Z Z Z (Xf Z Z Z G (Xs (v := vb (!(rAt (mAt ms (q.run - 1).toNat).t.slots (q.a).toNat).rd)) Z ad Z Z (Xo (v := vb (!(rAt (mAt ms (q.run - 1).toNat).t.slots (q.a).toNat).rd)) Z G Z Z (Xb (v := vb (!(rAt (mAt ms (q.run - 1).toNat).t.slots (q.a).toNat).rd)) Z Z (Xf Z Z Z ag (Xb (v := .slice (pa aq) 4 4) Z Z (Xf Z Z Z ag (Yb (o' := 1) Ud Z Z (by omega) (by omega) Z Z (Xf Z Z Z ag (Xh (v := vb (need1 q.kind)) J4 Z (eg.cell Z) Z ?_))))))))))))
 exact Xf Z Z Z ag (Xb (v := vb (need1 q.kind)) Z Z (Xf Z Z Z ba (Xd (o' := 3) Vk ae Z Z (Xf Z Z Z ba (Xh (v := vb (rAt (mAt ms (q.run - 1).toNat).t.slots (q.a).toNat).wr) J4 Z (eh.cell Z) Z (Xf Z Z Z ba (Yl (b' := !(rAt (mAt ms (q.run - 1).toNat).t.slots (q.a).toNat).wr) Z Z Z (Xf Z Z Z ag (Xs (v := vb (!(rAt (mAt ms (q.run - 1).toNat).t.slots (q.a).toNat).wr)) Z ba Z Z (Xo (v := vb (!(rAt (mAt ms (q.run - 1).toNat).t.slots (q.a).toNat).wr)) Z ag Z Z (Xc (Xu ⟨⟨a8, ar, bk, ae, Z, (congrArg Value.bool (by first | (simp only [O, E, G, bc, ad, ag, ct, ba, hT, b0, b1, b2, b3, b4, b5, b6, b7, b8, b9]; done) | simp [O, E, G, bc, ad, ag, ct, ba, hT]))⟩, (grown_trans cl cf)⟩))))))))))))
 obtain ⟨d7, kj, dr, fc, gz, g8⟩ := SlAt.at (TabAt.low ht be).1 (Yi (xg ms ((rAt (mAt ms (q.run - 1).toNat).t.slots (q.a).toNat).th - 1).toNat))
 have jt := TabLen.at hlen (xg ms ((rAt (mAt ms (q.run - 1).toNat).t.slots (q.a).toNat).th - 1).toNat)
 refine Yw (m := 13) (vals := [(25, pt J 0), (26, vi (rAt (mAt ms (q.run - 1).toNat).t.slots (q.a).toNat).th), (27, vb (decide ((rAt (mAt ms (q.run - 1).toNat).t.slots (q.a).toNat).th = 0))), (28, vb (decide ((rAt (mAt ms (q.run - 1).toNat).t.slots (q.a).toNat).th = 0))), (29, pt a9 0), (30, vi q.kind), (31, .slice a ms.length c), (32, pt J 0), (33, vi (rAt (mAt ms (q.run - 1).toNat).t.slots (q.a).toNat).th), (34, vi ((rAt (mAt ms (q.run - 1).toNat).t.slots (q.a).toNat).th - 1)), (35, pt d7 dr), (36, pt d7 dr), (37, vi (mAt ms ((rAt (mAt ms (q.run - 1).toNat).t.slots (q.a).toNat).th - 1).toNat).t.kind)]) (fun w' => bj.grownBy w' none) Yy (by kernel_rfl) (X6 _) ?_ ?_
 refine yl Z (fun _ _ k => Xd (o' := 0) Yz ae Z Z k) (yl Z (fun _ gf k => Xh (v := vi (rAt (mAt ms (q.run - 1).toNat).t.slots (q.a).toNat).th) X1 Z (((ab.blk.grown0 V).grown0 gf).cell Z) Z k) (yl Z (fun _ _ k => X3 (q := decide ((rAt (mAt ms (q.run - 1).toNat).t.slots (q.a).toNat).th = 0)) Z Z Z Z k) (yl Z (fun _ _ k => Xb (v := vb (decide ((rAt (mAt ms (q.run - 1).toNat).t.slots (q.a).toNat).th = 0))) Z Z k) (yl Z (fun _ _ k => Xf Z Z Z E (Xd (o' := 0) Ja ar Z Z k)) (yl Z (fun _ gg k => Xf Z Z Z E (Xh (v := vi q.kind) X1 Z (((bg.grown0 V).grown0 gg).cell Z) Z k)) (yl Z (fun _ _ k => Xf Z Z Z E (Xb (v := .slice a ms.length c) a8 Z k)) (yl Z (fun _ _ k => Xf Z Z Z E (Xd (o' := 0) Yz ae Z Z k)) (yl Z (fun _ gh k => Xf Z Z Z E (Xh (v := vi (rAt (mAt ms (q.run - 1).toNat).t.slots (q.a).toNat).th) X1 Z (((ab.blk.grown0 V).grown0 gh).cell Z) Z k)) (yl Z (fun _ _ k => Xf Z Z Z E (Ys (c := (rAt (mAt ms (q.run - 1).toNat).t.slots (q.a).toNat).th - 1) Z Z (by omega) (by omega) (by omega) Z k)) (yl Z (fun _ _ k => Xf Z Z Z E (Xz Y2 Z Z fc gz (by omega) (by omega) Z k)) ?_))))))))))
 exact yl Z (fun _ _ k => Xf Z Z Z E (Xd (o' := dr) Y9 Z Z Z k)) (yl Z (fun _ gi k => Xf Z Z Z E (Xh (v := vi (mAt ms ((rAt (mAt ms (q.run - 1).toNat).t.slots (q.a).toNat).th - 1).toNat).t.kind) X1 Z ((X9 g8 gi) 0 _ Z) Z k)) Y5)
 intro la cm
 refine Xf Z Z Z E (Xl Ln (Xg Z (Xg Z Xk)) Z (V2 q.kind (mAt ms ((rAt (mAt ms (q.run - 1).toNat).t.slots (q.a).toNat).th - 1).toNat).t.kind _) ?_)
 rintro _ lc ⟨rfl, cg⟩
 refine Xf Z Z Z E (Yl (b' := !kindFor q.kind (mAt ms ((rAt (mAt ms (q.run - 1).toNat).t.slots (q.a).toNat).th - 1).toNat).t.kind) Z Z Z (Xo (v := vb (!kindFor q.kind (mAt ms ((rAt (mAt ms (q.run - 1).toNat).t.slots (q.a).toNat).th - 1).toNat).t.kind)) Z E Z Z (Xb (v := vb (!kindFor q.kind (mAt ms ((rAt (mAt ms (q.run - 1).toNat).t.slots (q.a).toNat).th - 1).toNat).t.kind)) Z Z (Xf Z Z Z G (Xb (v := .slice (pa aq) 4 4) Z Z (Xf Z Z Z G (Yb (o' := 0) Ud Z Z (by omega) (by omega) Z Z (Xf Z Z Z G ?_))))))))
 have ei := ((bq.grown0 cm).grown0 cg)
 refine Xh (v := vb (need0 q.kind)) J4 Z (ei.cell Z) Z (Xf Z Z Z G (Xb (v := vb (need0 q.kind)) Z Z (Xf Z Z Z ad (Xd (o' := 2) Ux ae Z Z (Xf Z Z Z ad (Xh (v := vb (rAt (mAt ms (q.run - 1).toNat).t.slots (q.a).toNat).rd) J4 Z ((((ab.blk.grown0 V).grown0 cm).grown0 cg).cell Z) Z (Xf Z Z Z ad (Yl (b' := !(rAt (mAt ms (q.run - 1).toNat).t.slots (q.a).toNat).rd) Z Z Z (Xf Z Z Z G (Xs (v := vb (!(rAt (mAt ms (q.run - 1).toNat).t.slots (q.a).toNat).rd)) Z ad Z Z (Xo (v := vb (!(rAt (mAt ms (q.run - 1).toNat).t.slots (q.a).toNat).rd)) Z G Z Z (Xb (v := vb (!(rAt (mAt ms (q.run - 1).toNat).t.slots (q.a).toNat).rd)) Z Z ?_))))))))))))
 refine Xf Z Z Z ag (Xb (v := .slice (pa aq) 4 4) Z Z (Xf Z Z Z ag (Yb (o' := 1) Ud Z Z (by omega) (by omega) Z Z (Xf Z Z Z ag (Xh (v := vb (need1 q.kind)) J4 Z (ei.cell Z) Z (Xf Z Z Z ag (Xb (v := vb (need1 q.kind)) Z Z ?_)))))))
 iterate 3 refine Xi rfl rfl rfl ba rfl ?_
 exact Xf Z Z Z ag (Xo (v := vb false) Z ba Z Z (Xo (v := vb false) Z ag Z Z (Xc (Xu ⟨⟨a8, ar, bk, ae, Z, (congrArg Value.bool (by first | (simp only [O, E, G, bc, ad, ag, ct, ba, hT, b0, b1, b2, b3, b4, b5, b6, b7, b8, b9]; done) | simp [O, E, G, bc, ad, ag, ct, ba, hT]))⟩, (grown_trans cm cg)⟩))))
 rcases Yf (need1 q.kind) with bb | bb
 obtain ⟨d8, kk, dt, fd, g0, g9⟩ := SlAt.at (TabAt.low ht be).1 (Yi (xg ms ((rAt (mAt ms (q.run - 1).toNat).t.slots (q.a).toNat).th - 1).toNat))
 have ju := TabLen.at hlen (xg ms ((rAt (mAt ms (q.run - 1).toNat).t.slots (q.a).toNat).th - 1).toNat)
 refine Yw (m := 13) (vals := [(25, pt J 0), (26, vi (rAt (mAt ms (q.run - 1).toNat).t.slots (q.a).toNat).th), (27, vb (decide ((rAt (mAt ms (q.run - 1).toNat).t.slots (q.a).toNat).th = 0))), (28, vb (decide ((rAt (mAt ms (q.run - 1).toNat).t.slots (q.a).toNat).th = 0))), (29, pt a9 0), (30, vi q.kind), (31, .slice a ms.length c), (32, pt J 0), (33, vi (rAt (mAt ms (q.run - 1).toNat).t.slots (q.a).toNat).th), (34, vi ((rAt (mAt ms (q.run - 1).toNat).t.slots (q.a).toNat).th - 1)), (35, pt d8 dt), (36, pt d8 dt), (37, vi (mAt ms ((rAt (mAt ms (q.run - 1).toNat).t.slots (q.a).toNat).th - 1).toNat).t.kind)]) (fun w' => bj.grownBy w' none) Yy (by kernel_rfl) (X6 _) ?_ ?_
 refine yl Z (fun _ _ k => Xd (o' := 0) Yz ae Z Z k) (yl Z (fun _ gj k => Xh (v := vi (rAt (mAt ms (q.run - 1).toNat).t.slots (q.a).toNat).th) X1 Z (((ab.blk.grown0 V).grown0 gj).cell Z) Z k) (yl Z (fun _ _ k => X3 (q := decide ((rAt (mAt ms (q.run - 1).toNat).t.slots (q.a).toNat).th = 0)) Z Z Z Z k) (yl Z (fun _ _ k => Xb (v := vb (decide ((rAt (mAt ms (q.run - 1).toNat).t.slots (q.a).toNat).th = 0))) Z Z k) (yl Z (fun _ _ k => Xf Z Z Z E (Xd (o' := 0) Ja ar Z Z k)) (yl Z (fun _ gk k => Xf Z Z Z E (Xh (v := vi q.kind) X1 Z (((bg.grown0 V).grown0 gk).cell Z) Z k)) (yl Z (fun _ _ k => Xf Z Z Z E (Xb (v := .slice a ms.length c) a8 Z k)) (yl Z (fun _ _ k => Xf Z Z Z E (Xd (o' := 0) Yz ae Z Z k)) (yl Z (fun _ gl k => Xf Z Z Z E (Xh (v := vi (rAt (mAt ms (q.run - 1).toNat).t.slots (q.a).toNat).th) X1 Z (((ab.blk.grown0 V).grown0 gl).cell Z) Z k)) (yl Z (fun _ _ k => Xf Z Z Z E (Ys (c := (rAt (mAt ms (q.run - 1).toNat).t.slots (q.a).toNat).th - 1) Z Z (by omega) (by omega) (by omega) Z k)) (yl Z (fun _ _ k => Xf Z Z Z E (Xz Y2 Z Z fd g0 (by omega) (by omega) Z k)) ?_))))))))))
 exact yl Z (fun _ _ k => Xf Z Z Z E (Xd (o' := dt) Y9 Z Z Z k)) (yl Z (fun _ gm k => Xf Z Z Z E (Xh (v := vi (mAt ms ((rAt (mAt ms (q.run - 1).toNat).t.slots (q.a).toNat).th - 1).toNat).t.kind) X1 Z ((X9 g9 gm) 0 _ Z) Z k)) Y5)
 intro ld cn
 refine Xf Z Z Z E (Xl Ln (Xg Z (Xg Z Xk)) Z (V2 q.kind (mAt ms ((rAt (mAt ms (q.run - 1).toNat).t.slots (q.a).toNat).th - 1).toNat).t.kind _) ?_)
 rintro _ le ⟨rfl, cj⟩
 refine Xf Z Z Z E (Yl (b' := !kindFor q.kind (mAt ms ((rAt (mAt ms (q.run - 1).toNat).t.slots (q.a).toNat).th - 1).toNat).t.kind) Z Z Z (Xo (v := vb (!kindFor q.kind (mAt ms ((rAt (mAt ms (q.run - 1).toNat).t.slots (q.a).toNat).th - 1).toNat).t.kind)) Z E Z Z (Xb (v := vb (!kindFor q.kind (mAt ms ((rAt (mAt ms (q.run - 1).toNat).t.slots (q.a).toNat).th - 1).toNat).t.kind)) Z Z (Xf Z Z Z G (Xb (v := .slice (pa aq) 4 4) Z Z (Xf Z Z Z G (Yb (o' := 0) Ud Z Z (by omega) (by omega) Z Z (Xf Z Z Z G ?_))))))))
 have ej := ((bq.grown0 cn).grown0 cj)
 refine Xh (v := vb (need0 q.kind)) J4 Z (ej.cell Z) Z (Xf Z Z Z G (Xb (v := vb (need0 q.kind)) Z Z ?_))
 iterate 3 refine Xi rfl rfl rfl ad rfl ?_
 refine Xf Z Z Z G (Xo (v := vb false) Z ad Z Z (Xo (v := vb false) Z G Z Z (Xb (v := vb false) Z Z (Xf Z Z Z Z (Xb (v := .slice (pa aq) 4 4) Z Z (Xf Z Z Z Z (Yb (o' := 1) Ud Z Z (by omega) (by omega) Z Z (Xf Z Z Z Z (Xh (v := vb (need1 q.kind)) J4 Z (ej.cell Z) Z (Xf Z Z Z Z (Xb (v := vb (need1 q.kind)) Z Z (Xf Z Z Z bb ?_))))))))))))
 exact Xd (o' := 3) Vk ae Z Z (Xf Z Z Z bb (Xh (v := vb (rAt (mAt ms (q.run - 1).toNat).t.slots (q.a).toNat).wr) J4 Z ((((ab.blk.grown0 V).grown0 cn).grown0 cj).cell Z) Z (Xf Z Z Z bb (Yl (b' := !(rAt (mAt ms (q.run - 1).toNat).t.slots (q.a).toNat).wr) Z Z Z (Xf Z Z Z Z (Xs (v := vb (!(rAt (mAt ms (q.run - 1).toNat).t.slots (q.a).toNat).wr)) Z bb Z Z (Xo (v := vb (!(rAt (mAt ms (q.run - 1).toNat).t.slots (q.a).toNat).wr)) Z Z Z Z (Xc (Xu ⟨⟨a8, ar, bk, ae, Z, (congrArg Value.bool (by first | (simp only [O, E, G, bc, ad, bb, hT, b0, b1, b2, b3, b4, b5, b6, b7, b8, b9]; done) | simp [O, E, G, bc, ad, bb, hT]))⟩, (grown_trans cn cj)⟩)))))))))
 obtain ⟨d9, kl, du, fe, g1, ia⟩ := SlAt.at (TabAt.low ht be).1 (Yi (xg ms ((rAt (mAt ms (q.run - 1).toNat).t.slots (q.a).toNat).th - 1).toNat))
 have jv := TabLen.at hlen (xg ms ((rAt (mAt ms (q.run - 1).toNat).t.slots (q.a).toNat).th - 1).toNat)
 refine Yw (m := 13) (vals := [(25, pt J 0), (26, vi (rAt (mAt ms (q.run - 1).toNat).t.slots (q.a).toNat).th), (27, vb (decide ((rAt (mAt ms (q.run - 1).toNat).t.slots (q.a).toNat).th = 0))), (28, vb (decide ((rAt (mAt ms (q.run - 1).toNat).t.slots (q.a).toNat).th = 0))), (29, pt a9 0), (30, vi q.kind), (31, .slice a ms.length c), (32, pt J 0), (33, vi (rAt (mAt ms (q.run - 1).toNat).t.slots (q.a).toNat).th), (34, vi ((rAt (mAt ms (q.run - 1).toNat).t.slots (q.a).toNat).th - 1)), (35, pt d9 du), (36, pt d9 du), (37, vi (mAt ms ((rAt (mAt ms (q.run - 1).toNat).t.slots (q.a).toNat).th - 1).toNat).t.kind)]) (fun w' => bj.grownBy w' none) Yy (by kernel_rfl) (X6 _) ?_ ?_
 refine yl Z (fun _ _ k => Xd (o' := 0) Yz ae Z Z k) (yl Z (fun _ gp k => Xh (v := vi (rAt (mAt ms (q.run - 1).toNat).t.slots (q.a).toNat).th) X1 Z (((ab.blk.grown0 V).grown0 gp).cell Z) Z k) (yl Z (fun _ _ k => X3 (q := decide ((rAt (mAt ms (q.run - 1).toNat).t.slots (q.a).toNat).th = 0)) Z Z Z Z k) (yl Z (fun _ _ k => Xb (v := vb (decide ((rAt (mAt ms (q.run - 1).toNat).t.slots (q.a).toNat).th = 0))) Z Z k) (yl Z (fun _ _ k => Xf Z Z Z E (Xd (o' := 0) Ja ar Z Z k)) (yl Z (fun _ gq k => Xf Z Z Z E (Xh (v := vi q.kind) X1 Z (((bg.grown0 V).grown0 gq).cell Z) Z k)) (yl Z (fun _ _ k => Xf Z Z Z E (Xb (v := .slice a ms.length c) a8 Z k)) (yl Z (fun _ _ k => Xf Z Z Z E (Xd (o' := 0) Yz ae Z Z k)) (yl Z (fun _ gr k => Xf Z Z Z E (Xh (v := vi (rAt (mAt ms (q.run - 1).toNat).t.slots (q.a).toNat).th) X1 Z (((ab.blk.grown0 V).grown0 gr).cell Z) Z k)) (yl Z (fun _ _ k => Xf Z Z Z E (Ys (c := (rAt (mAt ms (q.run - 1).toNat).t.slots (q.a).toNat).th - 1) Z Z (by omega) (by omega) (by omega) Z k)) (yl Z (fun _ _ k => Xf Z Z Z E (Xz Y2 Z Z fe g1 (by omega) (by omega) Z k)) ?_))))))))))
 exact yl Z (fun _ _ k => Xf Z Z Z E (Xd (o' := du) Y9 Z Z Z k)) (yl Z (fun _ gt k => Xf Z Z Z E (Xh (v := vi (mAt ms ((rAt (mAt ms (q.run - 1).toNat).t.slots (q.a).toNat).th - 1).toNat).t.kind) X1 Z ((X9 ia gt) 0 _ Z) Z k)) Y5)
 intro lf di
 refine Xf Z Z Z E (Xl Ln (Xg Z (Xg Z Xk)) Z (V2 q.kind (mAt ms ((rAt (mAt ms (q.run - 1).toNat).t.slots (q.a).toNat).th - 1).toNat).t.kind _) ?_)
 rintro _ lg ⟨rfl, db⟩
 refine Xf Z Z Z E (Yl (b' := !kindFor q.kind (mAt ms ((rAt (mAt ms (q.run - 1).toNat).t.slots (q.a).toNat).th - 1).toNat).t.kind) Z Z Z (Xo (v := vb (!kindFor q.kind (mAt ms ((rAt (mAt ms (q.run - 1).toNat).t.slots (q.a).toNat).th - 1).toNat).t.kind)) Z E Z Z (Xb (v := vb (!kindFor q.kind (mAt ms ((rAt (mAt ms (q.run - 1).toNat).t.slots (q.a).toNat).th - 1).toNat).t.kind)) Z Z (Xf Z Z Z G (Xb (v := .slice (pa aq) 4 4) Z Z (Xf Z Z Z G (Yb (o' := 0) Ud Z Z (by omega) (by omega) Z Z (Xf Z Z Z G ?_))))))))
 have ek := ((bq.grown0 di).grown0 db)
 refine Xh (v := vb (need0 q.kind)) J4 Z (ek.cell Z) Z (Xf Z Z Z G (Xb (v := vb (need0 q.kind)) Z Z ?_))
 iterate 3 refine Xi rfl rfl rfl ad rfl ?_
 refine Xf Z Z Z G (Xo (v := vb false) Z ad Z Z (Xo (v := vb false) Z G Z Z (Xb (v := vb false) Z Z (Xf Z Z Z Z (Xb (v := .slice (pa aq) 4 4) Z Z (Xf Z Z Z Z (Yb (o' := 1) Ud Z Z (by omega) (by omega) Z Z (Xf Z Z Z Z (Xh (v := vb (need1 q.kind)) J4 Z (ek.cell Z) Z (Xf Z Z Z Z (Xb (v := vb (need1 q.kind)) Z Z ?_)))))))))))
 iterate 3 refine Xi rfl rfl rfl bb rfl ?_
 exact Xf Z Z Z Z (Xo (v := vb false) Z bb Z Z (Xo (v := vb false) Z Z Z Z (Xc (Xu ⟨⟨a8, ar, bk, ae, Z, (congrArg Value.bool (by first | (simp only [O, E, G, bc, ad, bb, hT, b0, b1, b2, b3, b4, b5, b6, b7, b8, b9]; done) | simp [O, E, G, bc, ad, bb, hT]))⟩, (grown_trans di db)⟩))))
 rintro j7 lh ⟨⟨bh, cz, ca, bi, c8, jg⟩, bw⟩
 have cc := low0 be bw
 refine Xy jg (fun ai => ?_) (fun ai => ?_)
 refine Xa (Xe (v := vi (-1)) Z Z (Xc (Xt (Yk (⟨vi (-1), Yp Z Z, ?_, cc⟩)))))
 exact congrArg (Value.int .i64) (Pb O ai)
 have am := Kq ai
 have an := Kq am
 have ao := Kq an
 have kc := of_decide_eq_false ao
 have ap := Kr an
 have au := Qx ap
 have av := Kr am
 have aw := Kr ai
 refine Xw (Xu (Xa (Xb (v := .slice a ms.length c) bh Z (Xd (o' := 1) Qv cz Z Z ?_))))
 have dk := ((bg.grown0 V).grown0 bw)
 refine Xh (v := vi q.run) X1 Z (dk.cell Z) Z (Xd (o' := 0) Yz bi Z Z ?_)
 have cx := ((ab.blk.grown0 V).grown0 bw)
 refine Xh (v := vi (rAt (mAt ms (q.run - 1).toNat).t.slots (q.a).toNat).th) X1 Z (cx.cell Z) Z (Xl Fz (Xg Z (Xg Z (Xg Z Xk))) Z (Nm q.run (rAt (mAt ms (q.run - 1).toNat).t.slots (q.a).toNat).th _ ms _ _ (TabAt.low ht cc) hlen (by omega) hT (by omega) (by omega)) ?_)
 rintro _ jk ⟨rfl, bf⟩
 have cd := low0 cc bf
 refine Xe (v := vb (sees (tabT ms) q.run (rAt (mAt ms (q.run - 1).toNat).t.slots (q.a).toNat).th)) Z Z (Xc (Xq (X7 (fun f' w' => (f' 0 = .slice a ms.length c ∧ f' 4 = vi 0 ∧ f' 5 = pt J 0 ∧ f' 7 = vb (sees (tabT ms) q.run (rAt (mAt ms (q.run - 1).toNat).t.slots (q.a).toNat).th) ∧ f' 87 = vb ((need0 q.kind && (!sees (tabT ms) q.run (rAt (mAt ms (q.run - 1).toNat).t.slots (q.a).toNat).th)) || (need1 q.kind && (!touches (tabT ms) q.run (rAt (mAt ms (q.run - 1).toNat).t.slots (q.a).toNat).th)))) ∧ jk.grownBy w' none) ?_ ?_)))
 refine Xb (v := .slice (pa aq) 4 4) c8 Z (Yb (o' := 2) Ud Z Z (by omega) (by omega) Z Z ?_)
 have co := ((bq.grown0 bw).grown0 bf)
 refine Xh (v := vb (need0 q.kind)) J4 Z (co.cell Z) Z (Xb (v := vb (need0 q.kind)) Z Z ?_)
 rcases Yf (need0 q.kind) with ah | ah
 refine Xf Z Z Z ah (Xb (v := vb (sees (tabT ms) q.run (rAt (mAt ms (q.run - 1).toNat).t.slots (q.a).toNat).th)) Z Z (Xf Z Z Z ah (Yl (b' := !sees (tabT ms) q.run (rAt (mAt ms (q.run - 1).toNat).t.slots (q.a).toNat).th) Z Z Z (Xs (v := vb (!sees (tabT ms) q.run (rAt (mAt ms (q.run - 1).toNat).t.slots (q.a).toNat).th)) Z ah Z Z (Xb (v := vb (!sees (tabT ms) q.run (rAt (mAt ms (q.run - 1).toNat).t.slots (q.a).toNat).th)) Z Z ?_)))))
 rcases Yf (!sees (tabT ms) q.run (rAt (mAt ms (q.run - 1).toNat).t.slots (q.a).toNat).th) with ac | ac
 have c9 := Q2 ac
 iterate 4 refine Xi rfl rfl rfl ac rfl ?_
 iterate 7 refine Y4 rfl rfl rfl rfl ?_
 exact Xi Z Z Z ac Z (Xs (v := vb true) Z ac Z Z (Xc ⟨⟨bh, ca, bi, Z, (congrArg Value.bool (by first | (simp only [ah, ac, c9, O, ai, am, an, ao, ap, au, av, aw, hT, b0, b1, b2, b3, b4, b5, b6, b7, b8, b9]; done) | simp [ah, ac, c9, O, ai, am, an, ao, ap, au, av, aw, hT]))⟩, (World.grownBy.refl _ _)⟩))
 have br := Qx ac
 refine Xf Z Z Z ac (Xb (v := .slice (pa aq) 4 4) c8 Z (Xf Z Z Z ac (Yb (o' := 3) Ud Z Z (by omega) (by omega) Z Z (Xf Z Z Z ac (Xh (v := vb (need1 q.kind)) J4 Z (co.cell Z) Z (Xf Z Z Z ac (Xb (v := vb (need1 q.kind)) Z Z ?_)))))))
 rcases Yf (need1 q.kind) with aj | aj
 refine Xf Z Z Z aj (Xb (v := .slice a ms.length c) bh Z (Xf Z Z Z aj (Xd (o' := 1) Qv cz Z Z (Xf Z Z Z aj (Xh (v := vi q.run) X1 Z ((dk.grown0 bf).cell Z) Z (Xf Z Z Z aj (Xd (o' := 0) Yz bi Z Z (Xf Z Z Z aj (Xh (v := vi (rAt (mAt ms (q.run - 1).toNat).t.slots (q.a).toNat).th) X1 Z ((cx.grown0 bf).cell Z) Z (Xf Z Z Z aj (Xl F4 (Xg Z (Xg Z (Xg Z Xk))) Z (G6 q.run (rAt (mAt ms (q.run - 1).toNat).t.slots (q.a).toNat).th _ ms _ _ (TabAt.low ht cd) hlen (by omega) hT (by omega) (by omega)) ?_)))))))))))
 rintro _ j3 ⟨rfl, dy⟩
 exact Xf Z Z Z aj (Yl (b' := !touches (tabT ms) q.run (rAt (mAt ms (q.run - 1).toNat).t.slots (q.a).toNat).th) Z Z Z (Xf Z Z Z ac (Xs (v := vb (!touches (tabT ms) q.run (rAt (mAt ms (q.run - 1).toNat).t.slots (q.a).toNat).th)) Z aj Z Z (Xo (v := vb (!touches (tabT ms) q.run (rAt (mAt ms (q.run - 1).toNat).t.slots (q.a).toNat).th)) Z ac Z Z (Xc ⟨⟨bh, ca, bi, Z, (congrArg Value.bool (by first | (simp only [ah, ac, br, aj, O, ai, am, an, ao, ap, au, av, aw, hT, b0, b1, b2, b3, b4, b5, b6, b7, b8, b9]; done) | simp [ah, ac, br, aj, O, ai, am, an, ao, ap, au, av, aw, hT]))⟩, dy⟩)))))
 iterate 7 refine Xi rfl rfl rfl aj rfl ?_
 exact Xf Z Z Z ac (Xo (v := vb false) Z aj Z Z (Xo (v := vb false) Z ac Z Z (Xc ⟨⟨bh, ca, bi, Z, (congrArg Value.bool (by first | (simp only [ah, ac, br, aj, O, ai, am, an, ao, ap, au, av, aw, hT, b0, b1, b2, b3, b4, b5, b6, b7, b8, b9]; done) | simp [ah, ac, br, aj, O, ai, am, an, ao, ap, au, av, aw, hT]))⟩, (World.grownBy.refl _ _)⟩)))
 refine Xi Z Z Z ah Z (Xi Z Z Z ah Z (Xo (v := vb false) Z ah Z Z (Xb (v := vb false) Z Z (Xf Z Z Z Z (Xb (v := .slice (pa aq) 4 4) c8 Z (Xf Z Z Z Z (Yb (o' := 3) Ud Z Z (by omega) (by omega) Z Z (Xf Z Z Z Z (Xh (v := vb (need1 q.kind)) J4 Z (co.cell Z) Z (Xf Z Z Z Z (Xb (v := vb (need1 q.kind)) Z Z ?_)))))))))))
 rcases Yf (need1 q.kind) with ak | ak
 refine Xf Z Z Z ak (Xb (v := .slice a ms.length c) bh Z (Xf Z Z Z ak (Xd (o' := 1) Qv cz Z Z (Xf Z Z Z ak (Xh (v := vi q.run) X1 Z ((dk.grown0 bf).cell Z) Z (Xf Z Z Z ak (Xd (o' := 0) Yz bi Z Z (Xf Z Z Z ak (Xh (v := vi (rAt (mAt ms (q.run - 1).toNat).t.slots (q.a).toNat).th) X1 Z ((cx.grown0 bf).cell Z) Z (Xf Z Z Z ak (Xl F4 (Xg Z (Xg Z (Xg Z Xk))) Z (G6 q.run (rAt (mAt ms (q.run - 1).toNat).t.slots (q.a).toNat).th _ ms _ _ (TabAt.low ht cd) hlen (by omega) hT (by omega) (by omega)) ?_)))))))))))
 rintro _ j4 ⟨rfl, dz⟩
 exact Xf Z Z Z ak (Yl (b' := !touches (tabT ms) q.run (rAt (mAt ms (q.run - 1).toNat).t.slots (q.a).toNat).th) Z Z Z (Xf Z Z Z Z (Xs (v := vb (!touches (tabT ms) q.run (rAt (mAt ms (q.run - 1).toNat).t.slots (q.a).toNat).th)) Z ak Z Z (Xo (v := vb (!touches (tabT ms) q.run (rAt (mAt ms (q.run - 1).toNat).t.slots (q.a).toNat).th)) Z Z Z Z (Xc ⟨⟨bh, ca, bi, Z, (congrArg Value.bool (by first | (simp only [ah, ak, O, ai, am, an, ao, ap, au, av, aw, hT, b0, b1, b2, b3, b4, b5, b6, b7, b8, b9]; done) | simp [ah, ak, O, ai, am, an, ao, ap, au, av, aw, hT]))⟩, dz⟩)))))
 iterate 7 refine Xi rfl rfl rfl ak rfl ?_
 exact Xf Z Z Z Z (Xo (v := vb false) Z ak Z Z (Xo (v := vb false) Z Z Z Z (Xc ⟨⟨bh, ca, bi, Z, (congrArg Value.bool (by first | (simp only [ah, ak, O, ai, am, an, ao, ap, au, av, aw, hT, b0, b1, b2, b3, b4, b5, b6, b7, b8, b9]; done) | simp [ah, ak, O, ai, am, an, ao, ap, au, av, aw, hT]))⟩, (World.grownBy.refl _ _)⟩)))
 rintro jy ib ⟨⟨eo, cy, ep, er, eu⟩, cw⟩
 have bv := low0 cd cw
 refine Xy eu (fun az => ?_) (fun az => ?_)
 refine Xa (Xe (v := vi (-2)) Z Z (Xc (Xt (Yk (⟨vi (-2), Yp Z Z, ?_, bv⟩)))))
 exact congrArg (Value.int .i64) (Tu O ai az)
 have bt := Kq az
 have bu := Kr az
 refine Xw (Xu (Xq (X7 (fun f' w' => (f' 4 = vi 0 ∧ f' 94 = vb (sees (tabT ms) q.run (rAt (mAt ms (q.run - 1).toNat).t.slots (q.a).toNat).th && (!live (tabT ms) (rAt (mAt ms (q.run - 1).toNat).t.slots (q.a).toNat)))) ∧ ib.grownBy w' none) ?_ ?_)))
 refine Xb (v := vb (sees (tabT ms) q.run (rAt (mAt ms (q.run - 1).toNat).t.slots (q.a).toNat).th)) er Z (Xb (v := vb (sees (tabT ms) q.run (rAt (mAt ms (q.run - 1).toNat).t.slots (q.a).toNat).th)) Z Z ?_)
 rcases Yf (sees (tabT ms) q.run (rAt (mAt ms (q.run - 1).toNat).t.slots (q.a).toNat).th) with al | al
 refine Xf Z Z Z al (Xb (v := .slice a ms.length c) eo Z (Xf Z Z Z al (Xp (vs := [vi (rAt (mAt ms (q.run - 1).toNat).t.slots (q.a).toNat).th, vi (rAt (mAt ms (q.run - 1).toNat).t.slots (q.a).toNat).ve, vb (rAt (mAt ms (q.run - 1).toNat).t.slots (q.a).toNat).rd, vb (rAt (mAt ms (q.run - 1).toNat).t.slots (q.a).toNat).wr, vb (rAt (mAt ms (q.run - 1).toNat).t.slots (q.a).toNat).wk]) Yx ep Z (((cx.grown0 bf).grown0 cw).rangeL 0 5 Z) Z (Xf Z Z Z al (Xl Fy (Xg Z (Xg Z Xk)) Z (Rz (rAt (mAt ms (q.run - 1).toNat).t.slots (q.a).toNat) (by omega) _ ms _ _ (TabAt.low ht bv) hlen (by omega)) ?_)))))
 rintro _ j5 ⟨rfl, d0⟩
 exact Xf Z Z Z al (Yl (b' := !live (tabT ms) (rAt (mAt ms (q.run - 1).toNat).t.slots (q.a).toNat)) Z Z Z (Xs (v := vb (!live (tabT ms) (rAt (mAt ms (q.run - 1).toNat).t.slots (q.a).toNat))) Z al Z Z (Xc ⟨⟨cy, (congrArg Value.bool (by first | (simp only [az, bt, bu, al, O, ai, am, an, ao, ap, au, av, aw, hT, b0, b1, b2, b3, b4, b5, b6, b7, b8, b9]; done) | simp [az, bt, bu, al, O, ai, am, an, ao, ap, au, av, aw, hT]))⟩, d0⟩)))
 iterate 4 refine Xi rfl rfl rfl al rfl ?_
 exact Xo (v := vb false) Z al Z Z (Xc ⟨⟨cy, (congrArg Value.bool (by first | (simp only [az, bt, bu, al, O, ai, am, an, ao, ap, au, av, aw, hT, b0, b1, b2, b3, b4, b5, b6, b7, b8, b9]; done) | simp [az, bt, bu, al, O, ai, am, an, ao, ap, au, av, aw, hT]))⟩, (World.grownBy.refl _ _)⟩)
 rintro jz j6 ⟨⟨jx, ew⟩, d1⟩
 have cv := low0 bv d1
 refine Xy ew (fun bl => ?_) (fun bl => ?_)
 have j1 := Uk bl
 have ex := Ul bl
 have j2 := Q2 ex
 refine Xa (Xe (v := vi (-3)) Z Z (Xc (Xt (Yk (⟨vi (-3), Yp Z Z, ?_, cv⟩)))))
 exact congrArg (Value.int .i64) (Tv O ai az bl)
 refine Xw (Xu (Xa (Xe (v := vi 0) Z Z (Xc (Xt (⟨vi 0, Yp Z Z, ?_, cv⟩))))))
 exact congrArg (Value.int .i64) (Tt O ai az bl)
end Go.Proofs.YtjpgffmkcmcolaaGreatDoor
end
section
namespace Go.Dw
structure Keeps (lo : Nat) (K : List TypeId) (w w' : World) : Prop where
  os : w'.os = w.os
  tape : w'.tape = w.tape
  output : w'.output = w.output
  size : w.heap.size ≤ w'.heap.size
  block : ∀ k, k < w.heap.size → (k < lo ∨ ∀ cs T p, w.heap[k]? = some (.cells cs T p) → T ∉ K) → w'.heap[k]? = w.heap[k]?
section
variable {lo : Nat} {K : List TypeId} {w w1 w2 : World}
theorem Keeps.of0 (hg : w.grownBy w1 none) : Keeps lo K w w1 := ⟨hg.os, hg.tape, hg.output, hg.size, fun k hk _ => hg.block k hk (by simp)⟩
theorem Keeps.refl (w : World) : Keeps lo K w w := Keeps.of0 (World.grownBy.refl w none)
theorem Keeps.trans (h : Keeps lo K w w1) (k : Keeps lo K w1 w2) : Keeps lo K w w2 :=
  ⟨k.os.trans h.os, k.tape.trans h.tape, k.output.trans h.output, Nat.le_trans h.size k.size, fun b hb hc => by
    have h1 := h.block b hb hc
    exact (k.block b (Nat.lt_of_lt_of_le hb h.size) (by rcases hc with h2 | h2; exact Or.inl h2; exact Or.inr (fun cs T p e => h2 cs T p (h1.symm.trans e)))).trans h1⟩
theorem Keeps.low (h : Keeps lo K w w1) (hg : w1.grownBy w2 none) : Keeps lo K w w2 := h.trans (Keeps.of0 hg)
theorem Keeps.put {B : Nat} {T : TypeId} {cs : Array Value} (h : Keeps lo K w w1) (hg : w1.grownBy w2 (some B)) (hb : Blk w1 B T cs) (hT : T ∈ K) (hl : lo ≤ B) : Keeps lo K w w2 := h.trans
  ⟨hg.os, hg.tape, hg.output, hg.size, fun k hk hc => hg.block k hk (by
    intro e
    have e : k = B := by simpa using e
    subst e
    rcases hc with h2 | h2
    · omega
    · exact h2 cs T (0, 0) hb hT)⟩
theorem Keeps.own {B sz cap n : Nat} {T : TypeId} {vs : List Value} (h : Keeps lo K w w1) (hg : w1.grownBy w2 (some B)) (ho : Own w1 B T sz cap n vs) (hT : T ∈ K) (hl : lo ≤ B) : Keeps lo K w w2 :=
  let ⟨_, _, hb, _⟩ := ho.blk; h.put hg hb hT hl
theorem Keeps.new {B : Nat} (h : Keeps lo K w w1) (hg : w1.grownBy w2 (some B)) (hl : w.heap.size ≤ B) : Keeps lo K w w2 :=
  ⟨hg.os.trans h.os, hg.tape.trans h.tape, hg.output.trans h.output, Nat.le_trans h.size hg.size, fun k hk hc => (hg.block k (Nat.lt_of_lt_of_le hk h.size) (Jy (show k ≠ B by omega))).trans (h.block k hk hc)⟩
theorem Keeps.grown {r : Option Nat} (hg : w.grownBy w1 r) (h : Keeps lo K w1 w2) (hl : w.heap.size ≤ lo) : w.grownBy w2 r :=
  ⟨h.os.trans hg.os, h.tape.trans hg.tape, h.output.trans hg.output, Nat.le_trans hg.size h.size, fun k hk hr => (h.block k (Nat.lt_of_lt_of_le hk hg.size) (Or.inl (by omega))).trans (hg.block k hk hr)⟩
end
section
variable {l sz cap n : Nat} {a : Option Addr} {U : TypeId} {us : List Value} {w w1 w2 : World}
theorem Pm {r : Option Nat} (h : w.grownBy w1 r) (hO : OwnN l w1 a U sz cap n us) (hg : w1.grownBy w2 (a.map (·.block))) (hl : w.heap.size ≤ l) : w.grownBy w2 r := by
  rcases hO.form with ⟨rfl, _⟩ | ⟨B, rfl, h2, _⟩
  · exact low0 h hg
  · exact low1 h hg (show w.heap.size ≤ B by omega)
theorem Keeps.newN {lo : Nat} {K : List TypeId} (h : Keeps lo K w w1) (hO : OwnN l w1 a U sz cap n us) (hg : w1.grownBy w2 (a.map (·.block))) (hl : w.heap.size ≤ l) : Keeps lo K w w2 := by
  rcases hO.form with ⟨rfl, _⟩ | ⟨B, rfl, h2, _⟩
  · exact h.low hg
  · exact h.new hg (show w.heap.size ≤ B by omega)
theorem Blk.typN {b : Nat} {T : TypeId} {cs : Array Value} (h : Blk w b T cs) (hO : OwnN l w a U sz cap n us) (hg : w.grownBy w1 (a.map (·.block))) (hT : T ≠ U) : Blk w1 b T cs := by
  rcases hO.form with ⟨rfl, _⟩ | ⟨B, rfl, h2, _, h3⟩
  · exact h.grown0 hg
  · refine h.grown hg (Jy (fun e => ?_))
    subst e
    obtain ⟨_, cur, hb, _⟩ := h3.blk
    have h1 : some (Obj.cells cs T (0, 0)) = some (Obj.cells cur U (0, 0)) := Eq.trans (Eq.symm h) hb
    simp only [Option.some.injEq, Obj.cells.injEq] at h1
    exact hT h1.2.1
theorem Own.typN {b s2 c2 n2 : Nat} {T : TypeId} {vs : List Value} (h : Own w b T s2 c2 n2 vs) (hO : OwnN l w a U sz cap n us) (hg : w.grownBy w1 (a.map (·.block))) (hT : T ≠ U) : Own w1 b T s2 c2 n2 vs := by
  obtain ⟨h1, cur, hb, h2, h3, h4, h5⟩ := h.blk
  exact Own.ofBlk h1 (hb.typN hO hg hT) h2 h3 h4 h5
end
structure RowS (TR TI lo : Nat) (w : World) (m : MTh) : Prop where
  s : ∃ (S : Nat) (xs : List Rt), m.sa = some ⟨S, 0, none⟩ ∧ lo ≤ S ∧ m.sc = m.t.slots.length ∧ xs.length = m.t.slots.length ∧ Blk w S TR (xs.flatMap Rt.cells).toArray
  q : ∃ (S : Nat) (xs : List Int), m.qa = some ⟨S, 0, none⟩ ∧ lo ≤ S ∧ m.qc = m.t.queue.length ∧ xs.length = m.t.queue.length ∧ Blk w S TI (xs.flatMap icell).toArray
  ls : m.t.slots.length ≤ 1048576
  lq : m.t.queue.length ≤ 1048576
def RowsS (TR TI lo : Nat) (w : World) (ms : List MTh) : Prop := ∀ m ∈ ms, RowS TR TI lo w m
theorem Sx {w : World} {b c : Nat} {T U : TypeId} {cs ds : Array Value} (h : Blk w b T cs) (k : Blk w c U ds) (hT : T ≠ U) : b ≠ c := fun e => by
  subst e
  have h1 : some (Obj.cells cs T (0, 0)) = some (Obj.cells ds U (0, 0)) := Eq.trans (Eq.symm h) k
  simp only [Option.some.injEq, Obj.cells.injEq] at h1
  exact hT h1.2.1
section
variable {TR TI lo : Nat} {w w' : World} {m : MTh} {ms : List MTh}
theorem RowS.step {b : Nat} {U : TypeId} {ds : Array Value} (h : RowS TR TI lo w m) (hg : w.grownBy w' (some b)) (k : Blk w b U ds) (h1 : TR ≠ U) (h2 : TI ≠ U) : RowS TR TI lo w' m := by
  obtain ⟨⟨S, xs, a1, a2, a3, a4, a5⟩, ⟨Q, ys, b1, b2, b3, b4, b5⟩, h3, h4⟩ := h
  exact ⟨⟨S, xs, a1, a2, a3, a4, a5.grown hg (Jy (Sx a5 k h1))⟩, ⟨Q, ys, b1, b2, b3, b4, b5.grown hg (Jy (Sx b5 k h2))⟩, h3, h4⟩
theorem RowS.low (h : RowS TR TI lo w m) (hg : w.grownBy w' none) : RowS TR TI lo w' m := by
  obtain ⟨⟨S, xs, a1, a2, a3, a4, a5⟩, ⟨Q, ys, b1, b2, b3, b4, b5⟩, h3, h4⟩ := h
  exact ⟨⟨S, xs, a1, a2, a3, a4, a5.grown0 hg⟩, ⟨Q, ys, b1, b2, b3, b4, b5.grown0 hg⟩, h3, h4⟩
theorem RowS.mono {lo' : Nat} (h : RowS TR TI lo w m) (hl : lo' ≤ lo) : RowS TR TI lo' w m := by
  obtain ⟨⟨S, xs, a1, a2, a3, a4, a5⟩, ⟨Q, ys, b1, b2, b3, b4, b5⟩, h3, h4⟩ := h
  exact ⟨⟨S, xs, a1, Nat.le_trans hl a2, a3, a4, a5⟩, ⟨Q, ys, b1, Nat.le_trans hl b2, b3, b4, b5⟩, h3, h4⟩
theorem RowsS.low (h : RowsS TR TI lo w ms) (hg : w.grownBy w' none) : RowsS TR TI lo w' ms := fun m hm => (h m hm).low hg
theorem RowsS.own {b sz cap n : Nat} {U : TypeId} {vs : List Value} (h : RowsS TR TI lo w ms) (hg : w.grownBy w' (some b)) (k : Own w b U sz cap n vs) (h1 : TR ≠ U) (h2 : TI ≠ U) : RowsS TR TI lo w' ms := fun m hm => let ⟨_, _, hb, _⟩ := k.blk; (h m hm).step hg hb h1 h2
theorem Te {b c sz cap n : Nat} {T U : TypeId} {vs : List Value} {ds : Array Value} (h : Own w b T sz cap n vs) (k : Blk w c U ds) (hT : T ≠ U) : b ≠ c := let ⟨_, _, hb, _⟩ := h.blk; Sx hb k hT
theorem RowsS.at (h : RowsS TR TI lo w ms) {i : Nat} (hi : i < ms.length) : RowS TR TI lo w (mAt ms i) := h _ (List.mem_of_getElem? (J5 hi))
theorem RowsS.set (h : RowsS TR TI lo w ms) {i : Nat} (hi : i < ms.length) {m' : MTh} (hq : m'.qa = (mAt ms i).qa ∧ m'.qc = (mAt ms i).qc ∧ m'.t.queue = (mAt ms i).t.queue) (hs : m'.sa = (mAt ms i).sa ∧ m'.sc = (mAt ms i).sc ∧ m'.t.slots = (mAt ms i).t.slots) : RowsS TR TI lo w (ms.set i m') := fun x hx => by
  rcases List.mem_or_eq_of_mem_set hx with h1 | rfl
  · exact h x h1
  · have h0 := h.at hi
    obtain ⟨h1, h2, h3⟩ := hq
    obtain ⟨h4, h5, h6⟩ := hs
    refine ⟨?_, ?_, ?_, ?_⟩
    · rw [h4, h5, h6]; exact h0.s
    · rw [h1, h2, h3]; exact h0.q
    · rw [h6]; exact h0.ls
    · rw [h3]; exact h0.lq
end
end Go.Dw
end
section
namespace Go.Dw
def setTh (ts : List Th) (k : Int) (t : Th) : List Th := ts.set (k - 1).toNat t
def setNum (ts : List Th) (k n : Int) : List Th := setTh ts k { thAt ts k with num := n }
def putSl (ts : List Th) (k j : Int) (x : Rt) : List Th := setTh ts k { thAt ts k with slots := (thAt ts k).slots.set j.toNat x }
def setQ (ts : List Th) (k : Int) (ns : List Int) : List Th := setTh ts k { thAt ts k with queue := ns }
def renewed (o : Th) : Th := { newTh o.kind o.lab o.to with ve := o.ve + 1 }
def fetched (x : Rt) (wk : Bool) : Rt := if wk = true then l2Less x true false false else x
def far (ts : List Th) (q : Cl) (r : Rt) : List Th × Int :=
  if q.kind = 1 then (ts, (thAt ts r.th).num)
  else if q.kind = 2 then (setNum ts r.th q.n, 0)
  else if q.kind = 4 then (putSl ts q.run q.b (fetched (slotAt ts r.th (q.n % 4)) r.wk), 0)
  else if q.kind = 5 then (putSl ts r.th (q.n % 4) (slotAt ts q.run q.b), 0)
  else if q.kind = 6 then (if (thAt ts r.th).queue.length < 3 then (setQ ts r.th ((thAt ts r.th).queue ++ [q.n]), 0) else (ts, -4))
  else if q.kind = 7 then (if (thAt ts r.th).queue.length = 0 then (ts, -4) else (setQ ts r.th ((thAt ts r.th).queue.drop 1), iAt (thAt ts r.th).queue 0))
  else if q.kind = 8 then (if (thAt ts r.th).ve < 5 then (setTh ts r.th (renewed (thAt ts r.th)), 0) else (ts, -4))
  else (setTh (setNum ts (thAt ts r.th).to (q.n % 2)) r.th { thAt ts r.th with num := min ((thAt ts r.th).num + 1) 99 }, 0)
def lessBits (r : Rt) (n : Int) : Rt := l2Less r (decide (n % 2 = 1)) (decide (n / 2 % 2 = 1)) (decide (n / 4 % 2 = 1))
def told (ts : List Th) (q : Cl) (r : Rt) : Int := if sees (far ts q r).1 q.run r.th = true then (far ts q r).2 else 0
def doCall (ts : List Th) (q : Cl) : List Th × Int :=
  if check1 ts q < 0 then (setNum ts q.run (check1 ts q), check1 ts q)
  else if q.kind = 3 then (setNum (putSl ts q.run q.b (lessBits (slotAt ts q.run q.a) q.n)) q.run (check1 ts q), check1 ts q)
  else if live ts (slotAt ts q.run q.a) = true then (setNum (far ts q (slotAt ts q.run q.a)).1 q.run (told ts q (slotAt ts q.run q.a)), told ts q (slotAt ts q.run q.a))
  else (setNum ts q.run (check1 ts q), check1 ts q)
def callDo (ts : List Th) (q : Cl) : List Th × Int := if callPoss ts q = true then doCall ts q else ([], -1)
section
variable {ts : List Th} {k : Int} {t t' : Th}
theorem L1 (h : 1 ≤ k ∧ k ≤ (ts.length : Int)) : ts[(k - 1).toNat]? = some (thAt ts k) := by
  unfold thAt
  rw [List.getD_eq_getElem?_getD, List.getElem?_eq_getElem (by omega)]
  rfl
theorem Ji (h : 1 ≤ k ∧ k ≤ (ts.length : Int)) (j : Int) (hj : 1 ≤ j) : thAt (setTh ts k t) j = if j = k then t else thAt ts j := by
  unfold thAt setTh
  rw [List.getD_eq_getElem?_getD, List.getD_eq_getElem?_getD, List.getElem?_set]
  by_cases e : j = k
  · subst e
    rw [if_pos rfl, if_pos rfl, if_pos (by omega)]
    rfl
  · rw [if_neg e, if_neg (by omega)]
theorem Jt : (setTh ts k t).length = ts.length := List.length_set ..
theorem Sa (h : 1 ≤ k ∧ k ≤ (ts.length : Int)) (hv : (thAt ts k).ve ≤ t.ve) {r : Rt} (hr : rightTo ts r = true) : rightTo (setTh ts k t) r = true := by
  unfold rightTo at hr ⊢
  rw [Bool.or_eq_true] at hr ⊢
  rcases hr with h0 | h0
  · exact Or.inl h0
  · rw [Bool.and_eq_true] at h0
    have h1 := Qu.1 h0.1
    have h2 := of_decide_eq_true h0.2
    refine Or.inr (Bool.and_eq_true_iff.2 ⟨?_, decide_eq_true ?_⟩)
    · rw [Jt]; exact h0.1
    · rw [Ji h r.th h1.1]
      split
      · rename_i e; rw [e] at h2; omega
      · exact h2
theorem S7 (h : 1 ≤ k ∧ k ≤ (ts.length : Int)) (hk : t.kind = (thAt ts k).kind) (j kd : Int) : kindAt (setTh ts k t) j kd = kindAt ts j kd := by
  unfold kindAt
  rw [Jt]
  by_cases hj : 1 ≤ j
  · rw [Ji h j hj]
    split
    · rename_i e; rw [hk, e]
    · rfl
  · have : inR j 1 (ts.length : Int) = false := by simp [inR]; omega
    rw [this]; rfl
theorem S5 (h : 1 ≤ k ∧ k ≤ (ts.length : Int)) (hk : t.kind = (thAt ts k).kind) (s : Th) : gateOk (setTh ts k t) s = gateOk ts s := by
  unfold gateOk
  rw [S7 h hk]
theorem Tj (hT : tableOk ts = true) {s : Th} (hs : s ∈ ts) : thingOk s = true ∧ gateOk ts s = true ∧ ∀ r ∈ s.slots, rightTo ts r = true := by
  rw [V1] at hT
  have h1 := List.all_eq_true.1 (Bool.and_eq_true_iff.1 hT).2 s hs
  unfold rowOk at h1
  rw [Bool.and_eq_true, Bool.and_eq_true] at h1
  exact ⟨h1.1.1, h1.1.2, fun r hr => List.all_eq_true.1 h1.2 r hr⟩
theorem Ur (hT : tableOk ts = true) (h : 1 ≤ k ∧ k ≤ (ts.length : Int)) : thingOk (thAt ts k) = true ∧ gateOk ts (thAt ts k) = true ∧ ∀ r ∈ (thAt ts k).slots, rightTo ts r = true :=
  Tj hT (List.mem_of_getElem? (L1 h))
theorem Gn (hT : tableOk ts = true) (h : 1 ≤ k ∧ k ≤ (ts.length : Int)) (hok : thingOk t = true) (hk : t.kind = (thAt ts k).kind) (hv : (thAt ts k).ve ≤ t.ve) (hto : t.to = (thAt ts k).to) (hs : ∀ r ∈ t.slots, rightTo ts r = true) : tableOk (setTh ts k t) = true := by
  have hT' := hT
  rw [V1] at hT ⊢
  rw [Bool.and_eq_true] at hT ⊢
  refine ⟨by rw [Jt]; exact hT.1, List.all_eq_true.2 fun s hs' => ?_⟩
  have key : thingOk s = true ∧ gateOk ts s = true ∧ ∀ r ∈ s.slots, rightTo ts r = true := by
    rcases List.mem_or_eq_of_mem_set hs' with h1 | rfl
    · exact Tj hT' h1
    · refine ⟨hok, ?_, hs⟩
      have h2 := (Ur hT' h).2.1
      unfold gateOk at h2 ⊢
      rw [hk, hto]; exact h2
  unfold rowOk
  rw [Bool.and_eq_true, Bool.and_eq_true]
  exact ⟨⟨key.1, by rw [S5 h hk]; exact key.2.1⟩, List.all_eq_true.2 fun r hr => Sa h hv (key.2.2 r hr)⟩
theorem H2 (hT : tableOk ts = true) (h : 1 ≤ k ∧ k ≤ (ts.length : Int)) {n : Int} (hn : numOk { thAt ts k with num := n } = true) : tableOk (setNum ts k n) = true := by
  have h1 := Ur hT h
  refine Gn hT h ?_ rfl (Int.le_refl _) rfl h1.2.2
  obtain ⟨p1, p2, p3, _, p5, p6, p7⟩ := Jg h1.1
  unfold thingOk
  simp only [Bool.and_eq_true]
  exact ⟨⟨⟨⟨⟨⟨p1, p2⟩, p3⟩, hn⟩, p5⟩, p6⟩, p7⟩
theorem Lz (hT : tableOk ts = true) (h : 1 ≤ k ∧ k ≤ (ts.length : Int)) (hk : (thAt ts k).kind = 2 ∨ (thAt ts k).kind = 3) {j : Int} {x : Rt} (hx : rightOk x = true) (hx2 : rightTo ts x = true) : tableOk (putSl ts k j x) = true := by
  have h1 := Ur hT h
  refine Gn hT h ?_ rfl (Int.le_refl _) rfl (fun r hr => ?_)
  · obtain ⟨p1, p2, p3, p4, p5, p6, p7⟩ := Jg h1.1
    unfold thingOk
    simp only [Bool.and_eq_true]
    refine ⟨⟨⟨⟨⟨⟨p1, p2⟩, p3⟩, p4⟩, ?_⟩, p6⟩, p7⟩
    unfold slotsOk at p5 ⊢
    rw [if_pos hk] at p5 ⊢
    rw [Bool.and_eq_true] at p5 ⊢
    refine ⟨by rw [List.length_set]; exact p5.1, List.all_eq_true.2 fun r hr => ?_⟩
    rcases List.mem_or_eq_of_mem_set hr with h2 | rfl
    · exact List.all_eq_true.1 p5.2 r h2
    · exact hx
  · rcases List.mem_or_eq_of_mem_set hr with h2 | rfl
    · exact h1.2.2 r h2
    · exact hx2
theorem T3 {r : Rt} {a b c : Bool} (h : rightOk r = true) : rightOk (l2Less r a b c) = true := by
  unfold l2Less
  split
  · exact h
  · rename_i h0
    unfold rightOk at h ⊢
    simp only [Bool.or_eq_true, Bool.and_eq_true, decide_eq_true_eq] at h ⊢
    rcases h with rfl | ⟨⟨h1, h2⟩, h3⟩
    · exact absurd rfl h0
    · refine Or.inr ⟨⟨h1, h2⟩, ?_⟩
      cases hw : r.wr <;> cases hk : r.wk <;> cases b <;> cases c <;> simp_all
theorem T4 {r : Rt} {a b c : Bool} (h : rightTo ts r = true) : rightTo ts (l2Less r a b c) = true := by
  unfold l2Less
  split
  · exact h
  · exact h
theorem V0 (hT : tableOk ts = true) (h : 1 ≤ k ∧ k ≤ (ts.length : Int)) (j : Int) : rightOk (slotAt ts k j) = true ∧ rightTo ts (slotAt ts k j) = true := by
  have h1 := Ur hT h
  unfold slotAt
  by_cases hj : j.toNat < (thAt ts k).slots.length
  · have h2 := List.mem_of_getElem? (V4 hj)
    exact ⟨List.all_eq_true.1 (L3 h1.1) _ h2, h1.2.2 _ h2⟩
  · have : rAt (thAt ts k).slots j.toNat = Rt.zero := by
      unfold rAt
      rw [List.getD_eq_getElem?_getD, List.getElem?_eq_none (by omega)]
      rfl
    rw [this]
    exact ⟨by decide, by simp [rightTo, Rt.zero]⟩
end
theorem Nt {ts : List Th} {k : Int} (hT : tableOk ts = true) (h : 1 ≤ k ∧ k ≤ (ts.length : Int)) (hk : (thAt ts k).kind = 4) {ns : List Int} (hl : ns.length ≤ 3) (hn : ns.all numQ = true) : tableOk (setQ ts k ns) = true := by
  have h1 := Ur hT h
  refine Gn hT h ?_ rfl (Int.le_refl _) rfl h1.2.2
  obtain ⟨p1, p2, p3, p4, p5, _, p7⟩ := Jg h1.1
  unfold thingOk
  simp only [Bool.and_eq_true]
  refine ⟨⟨⟨⟨⟨⟨p1, p2⟩, p3⟩, p4⟩, p5⟩, ?_⟩, p7⟩
  unfold queueOk
  simp only [hk, if_true, Bool.and_eq_true, decide_eq_true_eq]
  exact ⟨hl, hn⟩
theorem Hk {t : Th} (h : thingOk t = true) (hk : t.kind = 4) : t.queue.length ≤ 3 ∧ t.queue.all numQ = true := by
  have h6 := (Jg h).2.2.2.2.2.1
  unfold queueOk at h6
  rw [if_pos hk, Bool.and_eq_true] at h6
  exact ⟨of_decide_eq_true h6.1, h6.2⟩
theorem C8 {t : Th} (h : thingOk t = true) (hk : t.kind = 1 ∨ t.kind = 2 ∨ t.kind = 4) (hv : t.ve < 5) : thingOk (renewed t) = true := by
  obtain ⟨p1, p2, p3, _, _, _, p7⟩ := Jg h
  unfold versOk at p3
  rw [if_pos hk] at p3
  have p3 := Qu.1 p3
  unfold targetOk at p7
  rw [if_neg (by omega)] at p7
  have p7 := of_decide_eq_true p7
  unfold renewed newTh thingOk
  simp only [Bool.and_eq_true]
  refine ⟨⟨⟨⟨⟨⟨p1, p2⟩, ?_⟩, ?_⟩, ?_⟩, ?_⟩, ?_⟩
  · unfold versOk; rw [if_pos hk]; exact Qu.2 (show 0 ≤ t.ve + 1 ∧ t.ve + 1 ≤ 5 by omega)
  · unfold numOk
    simp only
    split
    · decide
    · split
      · decide
      · decide
  · unfold slotsOk has4
    rcases hk with e | e | e <;> simp [e] <;> decide
  · unfold queueOk
    simp
  · unfold targetOk; rw [if_neg (show ¬ t.kind = 5 by omega)]; exact decide_eq_true p7
theorem T8 {t : Th} (h : thingOk t = true) (hk : t.kind = 1 ∨ t.kind = 2 ∨ t.kind = 4) : newOk t.kind t.lab t.to = true := by
  obtain ⟨p1, p2, _, _, _, _, p7⟩ := Jg h
  unfold targetOk at p7
  rw [if_neg (by omega)] at p7
  have p7 := of_decide_eq_true p7
  unfold newOk newTh thingOk
  simp only [Bool.and_eq_true]
  refine ⟨⟨⟨⟨⟨⟨p1, p2⟩, ?_⟩, ?_⟩, ?_⟩, ?_⟩, ?_⟩
  · unfold versOk; rw [if_pos hk]; rfl
  · unfold numOk
    simp only
    split
    · decide
    · split
      · decide
      · decide
  · unfold slotsOk has4
    rcases hk with e | e | e <;> simp [e] <;> decide
  · unfold queueOk
    simp
  · unfold targetOk; rw [if_neg (show ¬ t.kind = 5 by omega)]; exact decide_eq_true p7
theorem Q0 {c k : Int} (h : kindFor c k = true) (hc : 1 ≤ c ∧ c ≤ 9) : (c = 1 → k = 1) ∧ (c = 2 → k = 1) ∧ (c = 4 → k = 2) ∧ (c = 5 → k = 2) ∧ (c = 6 → k = 4) ∧ (c = 7 → k = 4) ∧ (c = 8 → k = 1 ∨ k = 2 ∨ k = 4) ∧ (c = 9 → k = 5) := by
  unfold kindFor at h
  refine ⟨fun e => ?_, fun e => ?_, fun e => ?_, fun e => ?_, fun e => ?_, fun e => ?_, fun e => ?_, fun e => ?_⟩ <;> subst e <;> simp at h <;> omega
structure FarOk (ts : List Th) (q : Cl) (r : Rt) : Prop where
  tab : tableOk ts = true
  call : callOk q = true
  run : kindAt ts q.run 3 = true
  th : 1 ≤ r.th ∧ r.th ≤ (ts.length : Int)
  kind : kindFor q.kind (thAt ts r.th).kind = true
  copy : ¬ q.kind = 3
theorem Qn {ts : List Th} {k kd : Int} (h : kindAt ts k kd = true) : (1 ≤ k ∧ k ≤ (ts.length : Int)) ∧ (thAt ts k).kind = kd := by
  unfold kindAt at h
  rw [Bool.and_eq_true] at h
  exact ⟨Qu.1 h.1, of_decide_eq_true h.2⟩
theorem Mu {ts : List Th} {k kd : Int} (h : 1 ≤ k ∧ k ≤ (ts.length : Int)) (e : (thAt ts k).kind = kd) : kindAt ts k kd = true := by
  unfold kindAt
  rw [Bool.and_eq_true]
  exact ⟨Qu.2 h, decide_eq_true e⟩
theorem Uz {ts : List Th} (hT : tableOk ts = true) {k : Int} (h : 1 ≤ k ∧ k ≤ (ts.length : Int)) (hk : (thAt ts k).kind = 5) : kindAt ts (thAt ts k).to 1 = true := by
  have h1 := (Ur hT h).2.1
  unfold gateOk at h1
  simpa [hk] using h1
theorem Bl {α : Type} {p : α → Bool} {l : List α} (h : l.all p = true) (n : Nat) : (l.drop n).all p = true :=
  List.all_eq_true.2 fun x hx => List.all_eq_true.1 h x (List.mem_of_mem_drop hx)
theorem Nz : -4 ≤ (0 : Int) ∧ (0 : Int) ≤ 99 := ⟨by decide, by decide⟩
theorem Da : -4 ≤ (-4 : Int) ∧ (-4 : Int) ≤ 99 := ⟨by decide, by decide⟩
theorem Pf {ts : List Th} {q : Cl} {r : Rt} (h : FarOk ts q r) : tableOk (far ts q r).1 = true ∧ (far ts q r).1.length = ts.length ∧ (-4 ≤ (far ts q r).2 ∧ (far ts q r).2 ≤ 99) ∧ (∀ j, 1 ≤ j → (thAt (far ts q r).1 j).kind = (thAt ts j).kind) := by
  have hc := Yq h.call
  have hk := Q0 h.kind hc.1
  have hrun := Qn h.run
  have hrow := Ur h.tab h.th
  have hset : ∀ (t : Th) (k : Int), 1 ≤ k ∧ k ≤ (ts.length : Int) → t.kind = (thAt ts k).kind → ∀ j, 1 ≤ j → (thAt (setTh ts k t) j).kind = (thAt ts j).kind := fun t k hk' e j hj => by
    rw [Ji hk' j hj]
    split
    · rename_i e2; rw [e, e2]
    · rfl
  have hn := h.copy
  unfold far
  split
  · rename_i e
    refine ⟨h.tab, rfl, ?_, fun _ _ => rfl⟩
    have h4 := (Jg hrow.1).2.2.2.1
    unfold numOk at h4
    rw [if_pos (Or.inl (hk.1 e))] at h4
    have := Qu.1 h4
    exact ⟨by omega, this.2⟩
  split
  · rename_i e
    refine ⟨H2 h.tab h.th ?_, Jt, Nz, hset _ _ h.th rfl⟩
    unfold numOk
    rw [if_pos (Or.inl (hk.2.1 e))]
    exact Qu.2 (show 0 ≤ q.n ∧ q.n ≤ 99 by omega)
  split
  · rename_i e
    have h1 := V0 h.tab h.th (q.n % 4)
    refine ⟨Lz h.tab hrun.1 (Or.inr hrun.2) ?_ ?_, Jt, Nz, hset _ _ hrun.1 rfl⟩
    · unfold fetched; split
      · exact T3 h1.1
      · exact h1.1
    · unfold fetched; split
      · exact T4 h1.2
      · exact h1.2
  split
  · rename_i e
    have h1 := V0 h.tab hrun.1 q.b
    exact ⟨Lz h.tab h.th (Or.inl (hk.2.2.2.1 e)) h1.1 h1.2, Jt, Nz, hset _ _ h.th rfl⟩
  split
  · rename_i e
    have hp := Hk hrow.1 (hk.2.2.2.2.1 e)
    split
    · refine ⟨Nt h.tab h.th (hk.2.2.2.2.1 e) (by rw [List.length_append, List.length_singleton]; omega) ?_, Jt, Nz, hset _ _ h.th rfl⟩
      rw [List.all_append, hp.2]
      simp only [List.all_cons, List.all_nil, Bool.and_true, Bool.true_and]
      exact Qu.2 ⟨by omega, by omega⟩
    · exact ⟨h.tab, rfl, Da, fun _ _ => rfl⟩
  split
  · rename_i e
    have hp := Hk hrow.1 (hk.2.2.2.2.2.1 e)
    split
    · exact ⟨h.tab, rfl, Da, fun _ _ => rfl⟩
    · rename_i hl
      refine ⟨Nt h.tab h.th (hk.2.2.2.2.2.1 e) (by rw [List.length_drop]; omega) (Bl hp.2 1), Jt, ?_, hset _ _ h.th rfl⟩
      have := Qu.1 (List.all_eq_true.1 hp.2 _ (List.mem_of_getElem? (Ve (i := 0) (by omega))))
      exact ⟨by omega, this.2⟩
  split
  · rename_i e
    split
    · rename_i hv
      refine ⟨Gn h.tab h.th (C8 hrow.1 (hk.2.2.2.2.2.2.1 e) hv) rfl ?_ rfl ?_, Jt, Nz, hset _ _ h.th rfl⟩
      · show (thAt ts r.th).ve ≤ (thAt ts r.th).ve + 1
        omega
      · intro x hx
        have : x = Rt.zero := by
          unfold renewed newTh at hx
          simp only at hx
          split at hx
          · simp [zeros4] at hx; exact hx
          · cases hx
        subst this
        simp [rightTo, Rt.zero]
    · exact ⟨h.tab, rfl, Da, fun _ _ => rfl⟩
  · rename_i e1 e2 e4 e5 e6 e7 e8
    have e9 : q.kind = 9 := by omega
    have h5 := hk.2.2.2.2.2.2.2 e9
    have hg := Qn (Uz h.tab h.th h5)
    have hT1 : tableOk (setNum ts (thAt ts r.th).to (q.n % 2)) = true := by
      refine H2 h.tab hg.1 ?_
      unfold numOk
      rw [if_pos (Or.inl hg.2)]
      exact Qu.2 (show 0 ≤ q.n % 2 ∧ q.n % 2 ≤ 99 by omega)
    have hne : r.th ≠ (thAt ts r.th).to := fun e => by
      have := hg.2
      rw [← e, h5] at this
      omega
    have hsame : thAt (setNum ts (thAt ts r.th).to (q.n % 2)) r.th = thAt ts r.th := by
      unfold setNum
      rw [Ji hg.1 r.th h.th.1, if_neg hne]
    have hth : 1 ≤ r.th ∧ r.th ≤ ((setNum ts (thAt ts r.th).to (q.n % 2)).length : Int) := by
      unfold setNum; rw [Jt]; exact h.th
    have hfin := H2 hT1 hth (n := min ((thAt ts r.th).num + 1) 99) (by
      rw [hsame]
      unfold numOk
      rw [if_pos (Or.inr h5)]
      have h4 := (Jg hrow.1).2.2.2.1
      unfold numOk at h4
      rw [if_pos (Or.inr h5)] at h4
      have := Qu.1 h4
      exact Qu.2 (show 0 ≤ min ((thAt ts r.th).num + 1) 99 ∧ min ((thAt ts r.th).num + 1) 99 ≤ 99 by omega))
    unfold setNum at hfin
    rw [show thAt (setTh ts (thAt ts r.th).to { thAt ts (thAt ts r.th).to with num := q.n % 2 }) r.th = thAt ts r.th from hsame] at hfin
    refine ⟨hfin, by unfold setNum; rw [Jt, Jt], Nz, fun j hj => ?_⟩
    rw [Ji hth j hj]
    split
    · rename_i e; rw [e]
    · exact hset { thAt ts (thAt ts r.th).to with num := q.n % 2 } _ hg.1 rfl j hj
theorem Kj (ts : List Th) (q : Cl) : -3 ≤ check1 ts q ∧ check1 ts q ≤ 0 := by
  unfold check1
  split
  · omega
  · split
    · omega
    · split
      · omega
      · split <;> omega
theorem Vi {ts : List Th} {q : Cl} (hp : callPoss ts q = true) (h0 : ¬ check1 ts q < 0) (h3 : ¬ q.kind = 3) (hl : live ts (slotAt ts q.run q.a) = true) : FarOk ts q (slotAt ts q.run q.a) := by
  unfold callPoss at hp
  rw [Bool.and_eq_true, Bool.and_eq_true] at hp
  refine ⟨hp.1.1, hp.1.2, hp.2, ?_, ?_, h3⟩
  · unfold live at hl
    exact Qu.1 (Bool.and_eq_true_iff.1 hl).1
  · unfold check1 at h0
    rw [if_neg h3] at h0
    split at h0
    · exact absurd (by decide) h0
    · rename_i hc
      unfold chk1 at hc
      simp only [Bool.or_eq_true, Bool.not_eq_true', not_or] at hc
      simpa using hc.1.1.2
theorem Yh {ts : List Th} {q : Cl} (hp : callPoss ts q = true) : tableOk ts = true ∧ callOk q = true ∧ kindAt ts q.run 3 = true := by
  unfold callPoss at hp
  rw [Bool.and_eq_true, Bool.and_eq_true] at hp
  exact ⟨hp.1.1, hp.1.2, hp.2⟩
theorem N4 {ts : List Th} {k : Int} {t t' : Th} : setTh (setTh ts k t) k t' = setTh ts k t' := by
  unfold setTh
  rw [List.set_set]
theorem Sh {ts : List Th} {q : Cl} {r : Rt} (h : FarOk ts q r) : -4 ≤ told ts q r ∧ told ts q r ≤ 99 := by
  have := (Pf h).2.2.1
  unfold told
  split <;> omega
theorem Uj {ts : List Th} {q : Cl} (hp : callPoss ts q = true) : tableOk (doCall ts q).1 = true ∧ (doCall ts q).1.length = ts.length ∧ ∀ j, 1 ≤ j → (thAt (doCall ts q).1 j).kind = (thAt ts j).kind := by
  obtain ⟨hT, hc, hr⟩ := Yh hp
  have hrun := Qn hr
  have hrng := Kj ts q
  have run3 : ∀ (us : List Th) (n : Int), tableOk us = true → us.length = ts.length → (∀ j, 1 ≤ j → (thAt us j).kind = (thAt ts j).kind) → -4 ≤ n → n ≤ 99 →
      tableOk (setNum us q.run n) = true ∧ (setNum us q.run n).length = ts.length ∧ ∀ j, 1 ≤ j → (thAt (setNum us q.run n) j).kind = (thAt ts j).kind := fun us n h1 h2 h3 h4 h5 => by
    have hin : 1 ≤ q.run ∧ q.run ≤ (us.length : Int) := by rw [h2]; exact hrun.1
    have hk3 : (thAt us q.run).kind = 3 := (h3 _ hrun.1.1).trans hrun.2
    refine ⟨H2 h1 hin ?_, by unfold setNum; rw [Jt, h2], fun j hj => ?_⟩
    · unfold numOk
      rw [if_neg (by simp only; omega), if_pos hk3]
      exact Qu.2 ⟨h4, h5⟩
    · unfold setNum
      rw [Ji hin j hj]
      split
      · rename_i e; rw [e]; exact h3 _ hrun.1.1
      · exact h3 j hj
  unfold doCall
  split
  · exact run3 ts _ hT rfl (fun _ _ => rfl) (by omega) (by omega)
  · rename_i h0
    split
    · rename_i h3
      have h1 := V0 hT hrun.1 q.a
      refine run3 _ _ (Lz hT hrun.1 (Or.inr hrun.2) (T3 h1.1) (T4 h1.2)) Jt (fun j hj => ?_) (by omega) (by omega)
      unfold putSl
      rw [Ji hrun.1 j hj]
      split
      · rename_i e; rw [e]
      · rfl
    · rename_i h3
      split
      · rename_i hl
        have hf := Vi hp h0 h3 hl
        have hok := Pf hf
        have ht := Sh hf
        exact run3 _ _ hok.1 hok.2.1 hok.2.2.2 ht.1 ht.2
      · exact run3 ts _ hT rfl (fun _ _ => rfl) (by omega) (by omega)
end Go.Dw
end
section
namespace Go.Dw
structure KeepsI (lo hi : Nat) (K : List TypeId) (w w' : World) : Prop where
  os : w'.os = w.os
  tape : w'.tape = w.tape
  output : w'.output = w.output
  size : w.heap.size ≤ w'.heap.size
  block : ∀ k, k < w.heap.size → (k < lo ∨ hi ≤ k ∨ ∀ cs T p, w.heap[k]? = some (.cells cs T p) → T ∉ K) → w'.heap[k]? = w.heap[k]?
section
variable {lo hi : Nat} {K : List TypeId} {w w1 w2 : World}
theorem KeepsI.of0 (hg : w.grownBy w1 none) : KeepsI lo hi K w w1 := ⟨hg.os, hg.tape, hg.output, hg.size, fun k hk _ => hg.block k hk (by simp)⟩
theorem KeepsI.refl (w : World) : KeepsI lo hi K w w := KeepsI.of0 (World.grownBy.refl w none)
theorem KeepsI.trans (h : KeepsI lo hi K w w1) (k : KeepsI lo hi K w1 w2) : KeepsI lo hi K w w2 :=
  ⟨k.os.trans h.os, k.tape.trans h.tape, k.output.trans h.output, Nat.le_trans h.size k.size, fun b hb hc => by
    have h1 := h.block b hb hc
    exact (k.block b (Nat.lt_of_lt_of_le hb h.size) (by rcases hc with h2 | h2 | h2; exact Or.inl h2; exact Or.inr (Or.inl h2); exact Or.inr (Or.inr (fun cs T p e => h2 cs T p (h1.symm.trans e))))).trans h1⟩
theorem KeepsI.low (h : KeepsI lo hi K w w1) (hg : w1.grownBy w2 none) : KeepsI lo hi K w w2 := h.trans (KeepsI.of0 hg)
theorem KeepsI.own {B sz cap n : Nat} {T : TypeId} {vs : List Value} (h : KeepsI lo hi K w w1) (hg : w1.grownBy w2 (some B)) (ho : Own w1 B T sz cap n vs) (hT : T ∈ K) (hl : lo ≤ B) (hh : B < hi) : KeepsI lo hi K w w2 := h.trans
  ⟨hg.os, hg.tape, hg.output, hg.size, fun k hk hc => hg.block k hk (by
    intro e
    have e : k = B := by simpa using e
    subst e
    obtain ⟨_, cs, hb, _⟩ := ho.blk
    rcases hc with h2 | h2 | h2
    · omega
    · omega
    · exact h2 cs T (0, 0) hb hT)⟩
theorem KeepsI.new {B : Nat} (h : KeepsI lo hi K w w1) (hg : w1.grownBy w2 (some B)) (hl : w.heap.size ≤ B) : KeepsI lo hi K w w2 :=
  ⟨hg.os.trans h.os, hg.tape.trans h.tape, hg.output.trans h.output, Nat.le_trans h.size hg.size, fun k hk hc => (hg.block k (Nat.lt_of_lt_of_le hk h.size) (Jy (show k ≠ B by omega))).trans (h.block k hk hc)⟩
theorem KeepsI.newN {l sz cap n : Nat} {a : Option Addr} {U : TypeId} {us : List Value} (h : KeepsI lo hi K w w1) (hO : OwnN l w1 a U sz cap n us) (hg : w1.grownBy w2 (a.map (·.block))) (hl : w.heap.size ≤ l) : KeepsI lo hi K w w2 := by
  rcases hO.form with ⟨rfl, _⟩ | ⟨B, rfl, h2, _⟩
  · exact h.low hg
  · exact h.new hg (show w.heap.size ≤ B by omega)
theorem Vs {B : Nat} {T : TypeId} {cs : Array Value} (hn : NewB w1 w2 B T cs) (h : KeepsI lo hi K w w1) : w.heap.size ≤ B := Nat.le_trans h.size (Nat.le_of_eq hn.eq.symm)
theorem KeepsI.grown {r : Option Nat} (hg : w.grownBy w1 r) (h : KeepsI lo hi K w1 w2) (hl : w.heap.size ≤ lo) : w.grownBy w2 r :=
  ⟨h.os.trans hg.os, h.tape.trans hg.tape, h.output.trans hg.output, Nat.le_trans hg.size h.size, fun k hk hr => (h.block k (Nat.lt_of_lt_of_le hk hg.size) (Or.inl (by omega))).trans (hg.block k hk hr)⟩
theorem Blk.keepsI {b : Nat} {T : TypeId} {cs : Array Value} (h : Blk w b T cs) (hk : KeepsI lo hi K w w1) (ht : b < lo ∨ hi ≤ b ∨ T ∉ K) : Blk w1 b T cs := by
  have h1 : w.heap[b]? = some (.cells cs T (0, 0)) := h
  refine (hk.block b h.lt ?_).trans h1
  rcases ht with h2 | h2 | h2
  · exact Or.inl h2
  · exact Or.inr (Or.inl h2)
  · refine Or.inr (Or.inr (fun cs' T' p e => ?_))
    have := h1.symm.trans e
    simp only [Option.some.injEq, Obj.cells.injEq] at this
    rw [← this.2.1]; exact h2
theorem Own.keepsI {B sz cap n : Nat} {T : TypeId} {vs : List Value} (h : Own w B T sz cap n vs) (hk : KeepsI lo hi K w w1) (ht : B < lo ∨ hi ≤ B ∨ T ∉ K) : Own w1 B T sz cap n vs := by
  obtain ⟨h1, cur, hb, h2, h3, h4, h5⟩ := h.blk
  exact Own.ofBlk h1 (hb.keepsI hk ht) h2 h3 h4 h5
end
structure RowO (TR TI lo : Nat) (w : World) (m : MTh) : Prop where
  s : OwnN lo w m.sa TR 5 m.sc m.t.slots.length (m.t.slots.flatMap Rt.cells)
  q : OwnN lo w m.qa TI 1 m.qc m.t.queue.length (m.t.queue.flatMap icell)
structure RowsO (TR TI lo : Nat) (w : World) (ms : List MTh) : Prop where
  row : ∀ m ∈ ms, RowO TR TI lo w m
  apart : ∀ i j S, i < ms.length → j < ms.length → i ≠ j → (mAt ms i).sa = some ⟨S, 0, none⟩ → (mAt ms j).sa ≠ some ⟨S, 0, none⟩
def HiO (hi : Nat) (ms : List MTh) : Prop := ∀ m ∈ ms, ∀ c, (m.sa = some ⟨c, 0, none⟩ ∨ m.qa = some ⟨c, 0, none⟩) → c < hi
section
variable {TR TI lo : Nat} {w w' : World} {m : MTh} {ms : List MTh}
theorem OwnN.typB {l : Nat} {a : Option Addr} {T U : TypeId} {sz cap n B : Nat} {vs : List Value} {cs : Array Value} (h : OwnN l w a T sz cap n vs) (hg : w.grownBy w' (some B)) (k : Blk w B U cs) (hT : T ≠ U) : OwnN l w' a T sz cap n vs := by
  rcases h.form with ⟨rfl, rfl, rfl, rfl⟩ | ⟨C, rfl, h2, _, h3⟩
  · exact OwnN.nil
  · exact OwnN.of (h3.grown hg (Jy (Te h3 k hT))) h2
theorem RowO.low (h : RowO TR TI lo w m) (hg : w.grownBy w' none) : RowO TR TI lo w' m := ⟨h.s.grown0 hg, h.q.grown0 hg⟩
theorem RowO.lt {R : Nat} (h : RowO TR TI lo w m) (hg : w.grownBy w' (some R)) (hR : R < lo) : RowO TR TI lo w' m := ⟨h.s.grown_lt hg hR, h.q.grown_lt hg hR⟩
theorem RowO.typ {B U sz cap n : Nat} {us : List Value} (h : RowO TR TI lo w m) (hg : w.grownBy w' (some B)) (k : Own w B U sz cap n us) (h1 : TR ≠ U) (h2 : TI ≠ U) : RowO TR TI lo w' m := ⟨h.s.typ hg k h1, h.q.typ hg k h2⟩
theorem RowO.mono {lo' : Nat} (h : RowO TR TI lo w m) (hl : lo' ≤ lo) : RowO TR TI lo' w m := ⟨h.s.mono hl, h.q.mono hl⟩
theorem RowO.th (h : RowO TR TI lo w m) : ThAt w m := ⟨OwnN.sl Q7 (by omega) h.s, OwnN.sl Yv (by omega) h.q, OwnN.cap0 h.s, OwnN.cap0 h.q⟩
theorem RowO.g (h : RowO TR TI lo w m) : ThG lo w m := ⟨SlG.ownN Q7 (by omega) h.s, SlG.ownN Yv (by omega) h.q, OwnN.cap0 h.s, OwnN.cap0 h.q⟩
theorem RowsO.low (h : RowsO TR TI lo w ms) (hg : w.grownBy w' none) : RowsO TR TI lo w' ms := ⟨fun m hm => (h.row m hm).low hg, h.apart⟩
theorem RowsO.lt {R : Nat} (h : RowsO TR TI lo w ms) (hg : w.grownBy w' (some R)) (hR : R < lo) : RowsO TR TI lo w' ms := ⟨fun m hm => (h.row m hm).lt hg hR, h.apart⟩
theorem RowsO.own {B U sz cap n : Nat} {us : List Value} (h : RowsO TR TI lo w ms) (hg : w.grownBy w' (some B)) (k : Own w B U sz cap n us) (h1 : TR ≠ U) (h2 : TI ≠ U) : RowsO TR TI lo w' ms := ⟨fun m hm => (h.row m hm).typ hg k h1 h2, h.apart⟩
theorem RowsO.typB {B : Nat} {U : TypeId} {cs : Array Value} (h : RowsO TR TI lo w ms) (hg : w.grownBy w' (some B)) (k : Blk w B U cs) (h1 : TR ≠ U) (h2 : TI ≠ U) : RowsO TR TI lo w' ms := ⟨fun m hm => ⟨(h.row m hm).s.typB hg k h1, (h.row m hm).q.typB hg k h2⟩, h.apart⟩
theorem RowsO.mono {lo' : Nat} (h : RowsO TR TI lo w ms) (hl : lo' ≤ lo) : RowsO TR TI lo' w ms := ⟨fun m hm => (h.row m hm).mono hl, h.apart⟩
theorem RowsO.ge {b hi : Nat} (h : RowsO TR TI lo w ms) (hg : w.grownBy w' (some b)) (hH : HiO hi ms) (hb : hi ≤ b) : RowsO TR TI lo w' ms :=
  ⟨fun m hm => ⟨(h.row m hm).s.grown hg (fun B e => Jy (by have := hH m hm B (Or.inl e); omega)), (h.row m hm).q.grown hg (fun B e => Jy (by have := hH m hm B (Or.inr e); omega))⟩, h.apart⟩
theorem RowsO.newN {l U sz cap n hi : Nat} {a : Option Addr} {us : List Value} (h : RowsO TR TI lo w ms) (hO : OwnN l w a U sz cap n us) (hg : w.grownBy w' (a.map (·.block))) (hH : HiO hi ms) (hl : hi ≤ l) : RowsO TR TI lo w' ms := by
  rcases hO.form with ⟨rfl, _⟩ | ⟨B, rfl, h2, _⟩
  · exact h.low hg
  · exact h.ge hg hH (show hi ≤ B by omega)
theorem H3 {T sz cap n lo c : Nat} {a : Option Addr} {vs : List Value} (h : OwnN lo w a T sz cap n vs) (e : a = some ⟨c, 0, none⟩) : c < w.heap.size ∧ lo ≤ c := by
  rcases h.form with ⟨e2, _⟩ | ⟨B, e2, h2, h3, _⟩
  · rw [e2] at e; cases e
  · rw [e2] at e
    simp only [Option.some.injEq, Addr.mk.injEq, and_true] at e
    omega
theorem RowsO.hi (h : RowsO TR TI lo w ms) : HiO w.heap.size ms := fun m hm c hc => by
  rcases hc with e | e
  · exact (H3 (h.row m hm).s e).1
  · exact (H3 (h.row m hm).q e).1
theorem RowsO.at (h : RowsO TR TI lo w ms) {i : Nat} (hi : i < ms.length) : RowO TR TI lo w (mAt ms i) := h.row _ (List.mem_of_getElem? (J5 hi))
theorem RowsO.tab {B T cap : Nat} (h : RowsO TR TI lo w ms) (ho : Own w B T 8 cap ms.length (ms.flatMap MTh.cells)) : TabAt w (some ⟨B, 0, none⟩) ms := ⟨Own.sl Yo ho, fun m hm => (h.row m hm).th⟩
theorem RowsO.tabG {B T cap : Nat} (h : RowsO TR TI lo w ms) (ho : Own w B T 8 cap ms.length (ms.flatMap MTh.cells)) (hB : lo ≤ B) : TabG lo w (some ⟨B, 0, none⟩) ms := ⟨SlG.own Yo ho hB, fun m hm => (h.row m hm).g⟩
theorem RowsO.nil : RowsO TR TI lo w [] := ⟨(fun m hm => by cases hm), fun i j S hi => absurd hi (Nat.not_lt_zero _)⟩
theorem G7 {i j : Nat} (hi : i < ms.length) : mAt (ms.set i m) j = if j = i then m else mAt ms j := by
  unfold mAt
  rw [List.getD_eq_getElem?_getD, List.getD_eq_getElem?_getD, List.getElem?_set]
  by_cases e : j = i
  · subst e
    rw [if_pos rfl, if_pos rfl, if_pos hi]
    rfl
  · rw [if_neg e, if_neg (by omega)]
theorem Wb {α : Type} (f : MTh → α) {i j : Nat} {m2 : MTh} (hj : j < ms.length) (h : f m2 = f (mAt ms j)) : f (mAt (ms.set j m2) i) = f (mAt ms i) := by
  rw [G7 hj]
  split
  · rename_i e; rw [h, e]
  · rfl
theorem R1 {j : Nat} (hj : j < (ms ++ [m]).length) : mAt (ms ++ [m]) j = if j = ms.length then m else mAt ms j := by
  have hj' : j ≤ ms.length := by rw [List.length_append, List.length_singleton] at hj; omega
  unfold mAt
  rw [List.getD_eq_getElem?_getD, List.getD_eq_getElem?_getD]
  by_cases e : j = ms.length
  · subst e
    rw [if_pos rfl, List.getElem?_append_right (Nat.le_refl _), Nat.sub_self]
    rfl
  · rw [if_neg e, List.getElem?_append_left (by omega)]
theorem RowsO.snoc {hi : Nat} (h : RowsO TR TI lo w ms) (hm : RowO TR TI lo w m) (hH : HiO hi ms) (hS : ∀ S, m.sa = some ⟨S, 0, none⟩ → hi ≤ S) : RowsO TR TI lo w (ms ++ [m]) := by
  refine ⟨fun x hx => ?_, fun i j S hi' hj hne => ?_⟩
  · rcases List.mem_append.1 hx with h1 | h1
    · exact h.row x h1
    · simp at h1; subst h1; exact hm
  · rw [R1 hi', R1 hj]
    rw [List.length_append, List.length_singleton] at hi' hj
    split
    · rename_i e1
      rw [if_neg (by omega)]
      intro e2 e3
      have h1 := hS S e2
      have h2 := hH _ (List.mem_of_getElem? (J5 (show j < ms.length by omega))) S (Or.inl e3)
      omega
    · rename_i e1
      split
      · intro e2 e3
        have h1 := hS S e3
        have h2 := hH _ (List.mem_of_getElem? (J5 (show i < ms.length by omega))) S (Or.inl e2)
        omega
      · exact h.apart i j S (by omega) (by omega) hne
theorem RowsO.setr {i : Nat} (h : RowsO TR TI lo w ms) (hi : i < ms.length) {m' : MTh} (hm : RowO TR TI lo w m') (hS : ∀ S, m'.sa = some ⟨S, 0, none⟩ → (mAt ms i).sa = some ⟨S, 0, none⟩ ∨ ∀ x ∈ ms, x.sa ≠ some ⟨S, 0, none⟩) : RowsO TR TI lo w (ms.set i m') := by
  refine ⟨fun x hx => ?_, fun a b S ha hb hne => ?_⟩
  · rcases List.mem_or_eq_of_mem_set hx with h1 | rfl
    · exact h.row x h1
    · exact hm
  · rw [List.length_set] at ha hb
    rw [G7 hi, G7 hi]
    split
    · rename_i e1
      rw [if_neg (by omega)]
      intro e2
      rcases hS S e2 with h1 | h1
      · exact h.apart i b S hi hb (by omega) h1
      · exact h1 _ (List.mem_of_getElem? (J5 hb))
    · rename_i e1
      split
      · intro e2 e3
        rcases hS S e3 with h1 | h1
        · exact h.apart a i S ha hi (by omega) e2 h1
        · exact h1 _ (List.mem_of_getElem? (J5 ha)) e2
      · exact h.apart a b S ha hb hne
theorem RowsO.set {i : Nat} (h : RowsO TR TI lo w ms) (hi : i < ms.length) {m' : MTh} (hq : m'.qa = (mAt ms i).qa ∧ m'.qc = (mAt ms i).qc ∧ m'.t.queue = (mAt ms i).t.queue) (hs : m'.sa = (mAt ms i).sa ∧ m'.sc = (mAt ms i).sc ∧ m'.t.slots = (mAt ms i).t.slots) : RowsO TR TI lo w (ms.set i m') := by
  obtain ⟨h1, h2, h3⟩ := hq
  obtain ⟨h4, h5, h6⟩ := hs
  refine h.setr hi ⟨?_, ?_⟩ fun S e => Or.inl (by rw [← h4]; exact e)
  · rw [h4, h5, h6]; exact (h.at hi).s
  · rw [h1, h2, h3]; exact (h.at hi).q
theorem RowsO.setq {i : Nat} (h : RowsO TR TI lo w ms) (hi : i < ms.length) {m' : MTh} (hq : OwnN lo w m'.qa TI 1 m'.qc m'.t.queue.length (m'.t.queue.flatMap icell)) (hs : m'.sa = (mAt ms i).sa ∧ m'.sc = (mAt ms i).sc ∧ m'.t.slots = (mAt ms i).t.slots) : RowsO TR TI lo w (ms.set i m') := by
  obtain ⟨h4, h5, h6⟩ := hs
  refine h.setr hi ⟨?_, hq⟩ fun S e => Or.inl (by rw [← h4]; exact e)
  rw [h4, h5, h6]; exact (h.at hi).s
theorem RowsO.setn {i hi' : Nat} (h : RowsO TR TI lo w ms) (hi : i < ms.length) {m' : MTh} (hm : RowO TR TI lo w m') (hH : HiO hi' ms) (hS : ∀ S, m'.sa = some ⟨S, 0, none⟩ → hi' ≤ S) : RowsO TR TI lo w (ms.set i m') :=
  h.setr hi hm fun S e => Or.inr fun x hx e2 => by
    have h1 := hS S e
    have h2 := hH x hx S (Or.inl e2)
    omega
theorem RowsO.slot {i : Nat} (h : RowsO TR TI lo w ms) (hi : i < ms.length) (hs : 0 < (mAt ms i).t.slots.length) : ∃ S : Nat, (mAt ms i).sa = some ⟨S, 0, none⟩ ∧ lo ≤ S ∧ Own w S TR 5 (mAt ms i).sc (mAt ms i).t.slots.length ((mAt ms i).t.slots.flatMap Rt.cells) :=
  (h.at hi).s.some_ hs
end
def putS (m : MTh) (j : Nat) (x : Rt) : MTh := { m with t := { m.t with slots := m.t.slots.set j x } }
def putT (ms : List MTh) (i j : Nat) (x : Rt) : List MTh := ms.set i (putS (mAt ms i) j x)
theorem Lf {m : MTh} {j : Nat} {x : Rt} : (putS m j x).cells = m.cells := by simp [MTh.cells, putS]
theorem Yd {ms : List MTh} {i j : Nat} {x : Rt} : (putT ms i j x).length = ms.length := List.length_set ..
theorem B9 {ms : List MTh} {m' : MTh} : ∀ (i : Nat), i < ms.length → m'.cells = (mAt ms i).cells → (ms.set i m').flatMap MTh.cells = ms.flatMap MTh.cells := by
  induction ms with
  | nil => intro i hi; exact absurd hi (Nat.not_lt_zero _)
  | cons a l ih =>
    intro i hi e
    cases i with
    | zero => rw [List.set_cons_zero, List.flatMap_cons, List.flatMap_cons, e]; rfl
    | succ i =>
      rw [List.set_cons_succ, List.flatMap_cons, List.flatMap_cons, ih i (by simpa using hi) e]
theorem V9 {w : World} {B T cap : Nat} {ms : List MTh} {i j : Nat} {x : Rt} (h : Own w B T 8 cap ms.length (ms.flatMap MTh.cells)) (hi : i < ms.length) : Own w B T 8 cap (putT ms i j x).length ((putT ms i j x).flatMap MTh.cells) := by
  rw [Yd]
  unfold putT
  rw [B9 i hi Lf]
  exact h
theorem RowsO.put {TR TI lo : Nat} {w w' : World} {ms : List MTh} {i k S cap : Nat} {x : Rt} (h : RowsO TR TI lo w ms) (hi : i < ms.length) (hS : (mAt ms i).sa = some ⟨S, 0, none⟩) (hl : lo ≤ S)
    (ho : Own w S TR 5 cap (mAt ms i).t.slots.length ((mAt ms i).t.slots.flatMap Rt.cells)) (hc : cap = (mAt ms i).sc) (hO : Own w' S TR 5 cap ((mAt ms i).t.slots.set k x).length (((mAt ms i).t.slots.set k x).flatMap Rt.cells)) (hg : w.grownBy w' (some S)) (hT : TI ≠ TR) : RowsO TR TI lo w' (putT ms i k x) := by
  subst hc
  refine ⟨fun y hy => ?_, fun a b Z ha hb hne => ?_⟩
  · obtain ⟨j, hj, e⟩ := List.getElem_of_mem hy
    have hy' : y = mAt (putT ms i k x) j := by
      unfold mAt
      rw [List.getD_eq_getElem?_getD, List.getElem?_eq_getElem hj, e]
      rfl
    have hj' : j < ms.length := by rwa [Yd] at hj
    unfold putT at hy'
    rw [G7 hi] at hy'
    split at hy'
    · subst hy'
      refine ⟨?_, (h.at hi).q.typ hg ho hT⟩
      show OwnN lo w' (mAt ms i).sa TR 5 (mAt ms i).sc _ _
      rw [hS]
      exact OwnN.of hO hl
    · rename_i e2
      subst hy'
      refine ⟨(h.at hj').s.grown hg (fun Z hZ => Jy fun e3 => ?_), (h.at hj').q.typ hg ho hT⟩
      subst e3
      exact h.apart i j Z hi hj' (by omega) hS hZ
  · rw [Yd] at ha hb
    have hsa : ∀ j, (mAt (putT ms i k x) j).sa = (mAt ms j).sa := fun j => by
      unfold putT
      rw [G7 hi]
      split
      · rename_i e; rw [e]; rfl
      · rfl
    rw [hsa, hsa]
    exact h.apart a b Z ha hb hne
theorem Tf {ms : List MTh} {i j : Nat} {x : Rt} : (putT ms i j x).set i (putS (mAt ms i) j x) = putT ms i j x := by
  unfold putT
  rw [List.set_set]
theorem Ew {lo T sz cap n : Nat} {w : World} {a : Option Addr} {vs : List Value} (h : OwnN lo w a T sz cap n vs) : n ≤ cap := by
  rcases h.form with ⟨_, h2, _⟩ | ⟨_, _, _, _, h3⟩
  · omega
  · obtain ⟨_, _, _, h4, _⟩ := h3.blk
    exact h4
theorem TabLen.ok {ms : List MTh} (h : tableOk (tabT ms) = true) : TabLen ms := fun m hm => by
  have h1 := Jg (Tj h (List.mem_map.2 ⟨m, hm, rfl⟩)).1
  have h5 := h1.2.2.2.2.1
  have h6 := h1.2.2.2.2.2.1
  unfold slotsOk at h5
  unfold queueOk at h6
  constructor
  · split at h5
    · have := of_decide_eq_true (Bool.and_eq_true_iff.1 h5).1
      omega
    · have := of_decide_eq_true h5
      omega
  · split at h6
    · have := of_decide_eq_true (Bool.and_eq_true_iff.1 h6).1
      omega
    · have := of_decide_eq_true h6
      omega
theorem Sd {ms : List MTh} {i : Nat} {m : MTh} : tabT (ms.set i m) = (tabT ms).set i m.t := List.map_set ..
section
variable {ms : List MTh} {q : Cl} {r : Rt}
theorem Vw {k : Int} {m : MTh} : tabT (ms.set (k - 1).toNat m) = setTh (tabT ms) k m.t := Sd
theorem Hb {k j : Int} {x : Rt} : tabT (putT ms (k - 1).toNat j.toNat x) = putSl (tabT ms) k j x := by
  unfold putT
  rw [Vw]
  unfold putSl
  rw [← Qw]
  rfl
theorem Fh (h : decide (q.kind = 1) = true) : far (tabT ms) q r = (tabT ms, (mAt ms (r.th - 1).toNat).t.num) := by
  unfold far
  rw [if_pos (of_decide_eq_true h), Qw]
theorem Fi (h : decide (q.kind = 2) = true) {m : MTh} (hm : m.t = { (mAt ms (r.th - 1).toNat).t with num := q.n }) : far (tabT ms) q r = (tabT (ms.set (r.th - 1).toNat m), 0) := by
  have h := of_decide_eq_true h
  unfold far
  rw [if_neg (by omega), if_pos h, Vw, hm, Qw]
  rfl
theorem Tx (h : decide (q.kind = 4) = true) {x : Rt} (hx : x = fetched (rAt (mAt ms (r.th - 1).toNat).t.slots (q.n % 4).toNat) r.wk) : far (tabT ms) q r = (tabT (putT ms (q.run - 1).toNat q.b.toNat x), 0) := by
  have h := of_decide_eq_true h
  unfold far
  rw [if_neg (by omega), if_neg (by omega), if_pos h, Hb, hx, Jq]
theorem Fj (h : decide (q.kind = 5) = true) {x : Rt} (hx : x = rAt (mAt ms (q.run - 1).toNat).t.slots q.b.toNat) : far (tabT ms) q r = (tabT (putT ms (r.th - 1).toNat (q.n % 4).toNat x), 0) := by
  have h := of_decide_eq_true h
  unfold far
  rw [if_neg (by omega), if_neg (by omega), if_neg (by omega), if_pos h, Hb, hx, Jq]
theorem B5 (h : decide (q.kind = 6) = true) (hl : ¬ (mAt ms (r.th - 1).toNat).t.queue.length < 3) : far (tabT ms) q r = (tabT ms, -4) := by
  have h := of_decide_eq_true h
  unfold far
  rw [if_neg (by omega), if_neg (by omega), if_neg (by omega), if_neg (by omega), if_pos h, if_neg (by rw [← Qw]; exact hl)]
theorem Tz (h : decide (q.kind = 6) = true) (hl : (mAt ms (r.th - 1).toNat).t.queue.length < 3) {m : MTh} (hm : m.t = { (mAt ms (r.th - 1).toNat).t with queue := (mAt ms (r.th - 1).toNat).t.queue ++ [q.n] }) : far (tabT ms) q r = (tabT (ms.set (r.th - 1).toNat m), 0) := by
  have h := of_decide_eq_true h
  unfold far
  rw [if_neg (by omega), if_neg (by omega), if_neg (by omega), if_neg (by omega), if_pos h, if_pos (by rw [← Qw]; exact hl), Vw, hm, Qw]
  rfl
theorem B6 (h : decide (q.kind = 7) = true) (hl : (mAt ms (r.th - 1).toNat).t.queue.length = 0) : far (tabT ms) q r = (tabT ms, -4) := by
  have h := of_decide_eq_true h
  unfold far
  rw [if_neg (by omega), if_neg (by omega), if_neg (by omega), if_neg (by omega), if_neg (by omega), if_pos h, if_pos (by rw [← Qw]; exact hl)]
theorem T0 (h : decide (q.kind = 7) = true) (hl : ¬ (mAt ms (r.th - 1).toNat).t.queue.length = 0) {m : MTh} (hm : m.t = { (mAt ms (r.th - 1).toNat).t with queue := (mAt ms (r.th - 1).toNat).t.queue.drop 1 }) : far (tabT ms) q r = (tabT (ms.set (r.th - 1).toNat m), iAt (mAt ms (r.th - 1).toNat).t.queue 0) := by
  have h := of_decide_eq_true h
  unfold far
  rw [if_neg (by omega), if_neg (by omega), if_neg (by omega), if_neg (by omega), if_neg (by omega), if_pos h, if_neg (by rw [← Qw]; exact hl), Vw, hm, Qw]
  rfl
theorem S2 (h : decide (q.kind = 8) = true) (hl : ¬ (mAt ms (r.th - 1).toNat).t.ve < 5) : far (tabT ms) q r = (tabT ms, -4) := by
  have h := of_decide_eq_true h
  unfold far
  rw [if_neg (by omega), if_neg (by omega), if_neg (by omega), if_neg (by omega), if_neg (by omega), if_neg (by omega), if_pos h, if_neg (by rw [← Qw]; exact hl)]
theorem T1 (h : decide (q.kind = 8) = true) (hl : (mAt ms (r.th - 1).toNat).t.ve < 5) {m : MTh} (hm : m.t = renewed (mAt ms (r.th - 1).toNat).t) : far (tabT ms) q r = (tabT (ms.set (r.th - 1).toNat m), 0) := by
  have h := of_decide_eq_true h
  unfold far
  rw [if_neg (by omega), if_neg (by omega), if_neg (by omega), if_neg (by omega), if_neg (by omega), if_neg (by omega), if_pos h, if_pos (by rw [← Qw]; exact hl), Vw, hm, Qw]
theorem Fk (h : decide (q.kind = 9) = true) {m m2 : MTh} (h2 : m2.t = { (mAt ms ((mAt ms (r.th - 1).toNat).t.to - 1).toNat).t with num := q.n % 2 }) (hm : m.t = { (mAt ms (r.th - 1).toNat).t with num := min ((mAt ms (r.th - 1).toNat).t.num + 1) 99 }) :
    far (tabT ms) q r = (tabT ((ms.set ((mAt ms (r.th - 1).toNat).t.to - 1).toNat m2).set (r.th - 1).toNat m), 0) := by
  have h := of_decide_eq_true h
  unfold far
  rw [if_neg (by omega), if_neg (by omega), if_neg (by omega), if_neg (by omega), if_neg (by omega), if_neg (by omega), if_neg (by omega), Vw, Vw, hm, h2]
  simp only [Qw]
  rfl
theorem Nv {t : Th} (h : has4 t.kind = true) : (⟨t.kind, t.lab, t.ve + 1, 0, zeros4, [], t.to⟩ : Th) = renewed t := by unfold renewed newTh; rw [if_pos h]
theorem Nu {t : Th} (h : has4 t.kind = false) : (⟨t.kind, t.lab, t.ve + 1, 0, [], [], t.to⟩ : Th) = renewed t := by unfold renewed newTh; rw [if_neg (by rw [h]; exact Bool.false_ne_true)]
end
theorem Uu {t : Th} (h : thingOk t = true) : (0 ≤ t.ve ∧ t.ve ≤ 5) ∧ (-4 ≤ t.num ∧ t.num ≤ 99) := by
  have h3 := (Jg h).2.2.1
  have h4 := (Jg h).2.2.2.1
  unfold versOk at h3
  unfold numOk at h4
  constructor
  · split at h3
    · exact Qu.1 h3
    · have := of_decide_eq_true h3
      omega
  · split at h4
    · have := Qu.1 h4
      omega
    · split at h4
      · have := Qu.1 h4
        omega
      · have := of_decide_eq_true h4
        omega
section
variable {ms ms1 : List MTh} {q : Cl}
theorem Ec (hp : callPoss (tabT ms) q = true) (h0 : decide (check1 (tabT ms) q < 0) = false) (h3 : decide (q.kind = 3) = false) (hl : live (tabT ms) (rAt (mAt ms (q.run - 1).toNat).t.slots q.a.toNat) = true) : FarOk (tabT ms) q (rAt (mAt ms (q.run - 1).toNat).t.slots q.a.toNat) := by
  rw [Jq] at hl ⊢
  exact Vi hp (of_decide_eq_false h0) (of_decide_eq_false h3) hl
theorem Nq {k n : Int} {m : MTh} (hm : m.t = { (mAt ms (k - 1).toNat).t with num := n }) : tabT (ms.set (k - 1).toNat m) = setNum (tabT ms) k n := by
  rw [Vw, hm, Qw]
  rfl
theorem I3 (h : decide (check1 (tabT ms) q < 0) = true) {m : MTh} (hm : m.t = { (mAt ms (q.run - 1).toNat).t with num := check1 (tabT ms) q }) : doCall (tabT ms) q = (tabT (ms.set (q.run - 1).toNat m), check1 (tabT ms) q) := by
  unfold doCall
  rw [if_pos (of_decide_eq_true h), Nq hm]
theorem D6 (h : decide (check1 (tabT ms) q < 0) = false) (h3 : decide (q.kind = 3) = true) {x : Rt} (hx : x = lessBits (rAt (mAt ms (q.run - 1).toNat).t.slots q.a.toNat) q.n) {m : MTh} (hm : m.t = { (mAt (putT ms (q.run - 1).toNat q.b.toNat x) (q.run - 1).toNat).t with num := check1 (tabT ms) q }) :
    doCall (tabT ms) q = (tabT ((putT ms (q.run - 1).toNat q.b.toNat x).set (q.run - 1).toNat m), check1 (tabT ms) q) := by
  unfold doCall
  rw [if_neg (of_decide_eq_false h), if_pos (of_decide_eq_true h3), Nq hm, Hb, hx, Jq]
theorem D7 (h : decide (check1 (tabT ms) q < 0) = false) (h3 : decide (q.kind = 3) = false) (hl : live (tabT ms) (rAt (mAt ms (q.run - 1).toNat).t.slots q.a.toNat) = false) {m : MTh} (hm : m.t = { (mAt ms (q.run - 1).toNat).t with num := check1 (tabT ms) q }) : doCall (tabT ms) q = (tabT (ms.set (q.run - 1).toNat m), check1 (tabT ms) q) := by
  rw [Jq] at hl
  unfold doCall
  rw [if_neg (of_decide_eq_false h), if_neg (of_decide_eq_false h3), if_neg (by rw [hl]; exact Bool.false_ne_true), Nq hm]
theorem D9 (h : decide (check1 (tabT ms) q < 0) = false) (h3 : decide (q.kind = 3) = false) (hl : live (tabT ms) (rAt (mAt ms (q.run - 1).toNat).t.slots q.a.toNat) = true) (ht : tabT ms1 = (far (tabT ms) q (rAt (mAt ms (q.run - 1).toNat).t.slots q.a.toNat)).1)
    (hs : sees (tabT ms1) q.run (rAt (mAt ms (q.run - 1).toNat).t.slots q.a.toNat).th = true) {m : MTh} (hm : m.t = { (mAt ms1 (q.run - 1).toNat).t with num := (far (tabT ms) q (rAt (mAt ms (q.run - 1).toNat).t.slots q.a.toNat)).2 }) :
    doCall (tabT ms) q = (tabT (ms1.set (q.run - 1).toNat m), (far (tabT ms) q (rAt (mAt ms (q.run - 1).toNat).t.slots q.a.toNat)).2) := by
  have h1 := Nq (ms := ms1) hm
  rw [Jq] at hl ht hs h1 ⊢
  unfold doCall told
  rw [if_neg (of_decide_eq_false h), if_neg (of_decide_eq_false h3), if_pos hl, h1, ← ht, if_pos hs]
theorem Bz (h : decide (check1 (tabT ms) q < 0) = false) (h3 : decide (q.kind = 3) = false) (hl : live (tabT ms) (rAt (mAt ms (q.run - 1).toNat).t.slots q.a.toNat) = true) (ht : tabT ms1 = (far (tabT ms) q (rAt (mAt ms (q.run - 1).toNat).t.slots q.a.toNat)).1)
    (hs : sees (tabT ms1) q.run (rAt (mAt ms (q.run - 1).toNat).t.slots q.a.toNat).th = false) {m : MTh} (hm : m.t = { (mAt ms1 (q.run - 1).toNat).t with num := 0 }) :
    doCall (tabT ms) q = (tabT (ms1.set (q.run - 1).toNat m), 0) := by
  have h1 := Nq (ms := ms1) hm
  rw [Jq] at hl ht hs
  unfold doCall told
  rw [if_neg (of_decide_eq_false h), if_neg (of_decide_eq_false h3), if_pos hl, h1, ← ht, if_neg (by rw [hs]; exact Bool.false_ne_true)]
end
section
variable {P : Program} {n : Nat} {ops : Array Oper} {K : Fr → World → Prop} {l : List Oper} {f : Fr} {w : World} {ty : TypeId} {pos : String} {aft : Array Edge} {d : Nat}
theorem Mg {x y : Operand} {k : IntKind} {a b c : Int} {ts : Array TypeId} (hx : ev f x = .int k a) (hy : ev f y = .int k b) (hc : c = min a b) (hd : Nat.blt d n = true)
    (h : WpO P n ops K l (up f d (.int k c)) w) : WpO P n ops K (⟨some d, .call ⟨.builtin .min, #[x, y], ts⟩, ty, pos, aft, none⟩ :: l) f w := by
  refine Jo rfl hd (v := .int k c) (w' := w) ?_ h
  have e : (if b < a then b else a) = c := by rw [hc]; split <;> omega
  simp [execOp, resolve, invoke, builtin, hx, hy, Builtin.min_, Builtin.min2, e]
theorem Dy {α : Type} {g : α → List Value} {t e sz m c : Nat} {x y : Operand} {a : Option Addr} {k : IntKind} {xs : List α} (ht : P.underlying t = some (.slice e)) (hs : (P.info? e).map (·.size) = some sz) (hx : ev f x = .slice a m c) (hy : ev f y = .int k 1)
    (hm : m = xs.length) (h1 : 1 ≤ xs.length) (hc : xs.length ≤ c) (ha : SlAt w a sz (xs.map g)) (hd : Nat.blt d n = true)
    (hk : ∀ a', SlAt w (some a') sz ((xs.drop 1).map g) → WpO P n ops K l (up f d (.slice (some a') (xs.drop 1).length (c - 1))) w) : WpO P n ops K (⟨some d, .slice t x (some y) none none, ty, pos, aft, none⟩ :: l) f w := by
  subst hm
  have h10 : xs[0]? = some (xs[0]'(by omega)) := List.getElem?_eq_getElem _
  obtain ⟨b, o, rfl, _⟩ := ha 0 _ (Yi (g := g) h10)
  have hdl : (xs.drop 1).length = xs.length - 1 := List.length_drop
  have hb1 : (Instr.sliceBound (.int k 1) xs.length .sliceB).run P w = .ok 1 w := by
    have : (0 : Int) ≤ 1 ∧ (1 : Int) ≤ (xs.length : Int) := by omega
    simp [Instr.sliceBound, asIntOf, this]
  have h2 : (Instr.sliceBounds true xs.length c (some (.int k 1)) none none).run P w = .ok (1, xs.length, c) w := by
    simp [Instr.sliceBounds, hb1]
  cases hq : P.info? e with
  | none => rw [hq] at hs; cases hs
  | some i =>
    rw [hq] at hs
    simp only [Option.map_some, Option.some.injEq] at hs
    have hz : (sizeOf e).run P w = .ok i.size w := by simp [sizeOf, typeInfo, hq]
    have h3 : (Instr.slice t (.slice (some ⟨b, o, none⟩) xs.length c) (some (.int k 1)) none none).run P w = .ok (.slice (some (if c = 1 then ⟨b, o, none⟩ else (⟨b, o, none⟩ : Addr).add (1 * i.size))) (xs.length - 1) (c - 1)) w := by
      simp [Instr.slice, run_underlying ht, h2, hz]
      split <;> rfl
    have h4 : (Instr.sliceAt t (.slice (some ⟨b, o, none⟩) xs.length c) (some (.int k 1)) none none).run P w = .ok (.slice (some (if c = 1 then ⟨b, o, none⟩ else (⟨b, o, none⟩ : Addr).add (1 * i.size))) (xs.length - 1) (c - 1)) w := by
      simp [Instr.sliceAt, run_underlying ht, h3]
    have hk' := hk (if c = 1 then ⟨b, o, none⟩ else (⟨b, o, none⟩ : Addr).add (1 * i.size)) ?_
    · rw [hdl] at hk'
      exact Jo rfl hd (by simp only [execOp, hx, hy, Option.map_none, Option.map_some, Sem.run_bind, h4, Result.andThen_ok]; rfl) hk'
    · intro j z hj
      rw [List.map_drop, List.getElem?_drop] at hj
      obtain ⟨b2, o2, e2, hr⟩ := ha (1 + j) z hj
      simp only [Option.some.injEq, Addr.mk.injEq, and_true] at e2
      obtain ⟨rfl, rfl⟩ := e2
      by_cases hc1 : c = 1
      · have hlt := (List.getElem?_eq_some_iff.1 hj).1
        rw [List.length_map] at hlt
        omega
      · rw [if_neg hc1]
        refine ⟨b, o + sz, ?_, ?_⟩
        · unfold Addr.add
          rw [hs, Nat.one_mul]
          split
          · rename_i h0
            rw [h0]
            rfl
          · rfl
        · rw [show o + sz + j * sz = o + (1 + j) * sz by rw [Nat.add_mul, Nat.one_mul, Nat.add_assoc]]
          exact hr
theorem Qr {t e sz m b o o' : Nat} {x y : Operand} {k : IntKind} {i : Int} (ht : arrTy P t = some (m, e, sz)) (hx : ev f x = .pointer (some ⟨b, o, none⟩)) (hy : ev f y = .int k i) (h0 : 0 ≤ i) (h1 : i < m) (e1 : o + i.toNat * sz = o') (hd : Nat.blt d n = true) (h : WpO P n ops K l (up f d (.pointer (some ⟨b, o', none⟩))) w) :
    WpO P n ops K (⟨some d, .indexAddr t x y, ty, pos, aft, none⟩ :: l) f w := by
  obtain ⟨hu, inf, hq, hs⟩ := Wi ht
  exact Jo rfl hd (by simp [execOp, hx, hy, Instr.indexAt, run_underlying hu, asIntOf, h0, h1, sizeOf, typeInfo, hq, hs, Addr.add_mid, e1, Instr.sureAddr]) h
theorem L6 {x : Operand} {nm : String} {T : TypeId} {k : FuncId} {rv v0 : Value} {args : Array Operand} {tys : Array TypeId} {vs : List Value} {R : Value → World → Prop} (hk : goFn P k = true) (hx : ev f x = .iface T rv) (hm : ∀ w : World, (Go.method (P.types.size + Made.depth) T rv nm).run P w = .ok (k, v0) w) (ha : args.toList.map (ev f) = vs) (hd : Nat.blt d n = true)
    (hc : CallsR P k (v0 :: vs).toArray w R) (h : ∀ v w', R v w' → WpO P n ops K l (up f d v) w') : WpO P n ops K (⟨some d, .call ⟨.invoke x nm, args, tys⟩, ty, pos, aft, none⟩ :: l) f w :=
  Hn (R := R) (k := k) (args := (v0 :: vs).toArray) rfl hd (by
    have e : args.map (ev f) = vs.toArray := by rw [← ha]; apply Array.ext'; simp
    have e2 : (#[Value.iface T rv] ++ vs.toArray).extract 1 (#[Value.iface T rv] ++ vs.toArray).size = vs.toArray := by apply Array.ext'; simp
    have e3 : (#[v0] ++ vs.toArray) = (v0 :: vs).toArray := by apply Array.ext'; simp
    have e4 : (#[Value.iface T rv] ++ vs.toArray)[0]? = some (Value.iface T rv) := by simp
    simp only [execOp, resolve, invoke, callMethod, hx, e, e2, e4, Sem.run_bind, Sem.run_pure, run_program, Result.andThen_ok, hm, Gw hk, e3]) hc h
end
end Go.Dw
end
section
namespace Go.Proofs.YtjpgffmkcmcolaaGreatDoor
open Go.RowKit Go.Dw
set_option maxRecDepth 100000
set_option maxHeartbeats 4000000
set_option linter.unusedSimpArgs false
set_option linter.unusedVariables false
theorem Fx : goFn Tryz.prog 58 = true := by kernel_rfl
theorem Cw (w : World) (ms : List MTh) (a : Option Addr) (c : Nat) (ht : TabAt w a ms) (hlen : TabLen ms) (hn : ms.length ≤ 1048576) : CallsR Tryz.prog 35 #[.slice a ms.length c] w (fun v w' => ∃ (B cap : Nat) (ys : List MTh), v = .slice (pa B) ys.length cap ∧ tabT ys = tabT ms ∧ w.heap.size ≤ B ∧ Dw.Own w' B 38 8 cap ys.length (ys.flatMap MTh.cells) ∧ RowsO 42 3 w.heap.size w' ys ∧ w.grownBy w' none) := by
 refine Xx (n := 32) Tryz.func35 Z Tryz.ntmps35 Z ?_
 have cy := World.grownBy.refl w none
 refine Xa (Xe (v := .slice none 0 0) Z Z (Xc (Xa (Ya (ps := []) (e := 38) (cs := (([] : List MTh).flatMap MTh.cells).toArray) X8 (fun _ => by kernel_rfl) Z ?_))))
 intro bp dx ao
 have bl := Yj ao cy
 refine Xe (v := .slice (pa bp) 0 0) Z Z (Xc (Xq (Xa (Xe (v := vi 0) Z Z (Xc (Yc (Qm (fun mm f' w' => ∃ (k : Nat) (Bt : Nat) (ct : Nat) (ys : List MTh), mm = ms.length - k ∧ k ≤ ms.length ∧ ys.length = k ∧ tabT ys = (tabT ms).take k ∧ RowsO 42 3 w.heap.size w' ys ∧ Dw.Own w' Bt 38 8 ct ys.length (ys.flatMap MTh.cells) ∧ w.heap.size ≤ Bt ∧ f' 3 = .slice (pa Bt) ys.length ct ∧ f' 4 = vi (k : Int) ∧ f' 0 = .slice a ms.length c ∧ f' 2 = .slice none 0 0 ∧ w.grownBy w' none) (ms.length - 0) ⟨0, bp, 0, ([] : List MTh), Z, (Nat.zero_le _), Z, Z, RowsO.nil, (Own.rows Yo ao.blk (by simp)), bl, Z, Z, Z, Z, (low0 cy ao.grw)⟩ ?_)))))))
 rintro mm dq c9 ⟨k, Bt, ct, ys, dn, hk, hyk, hyt, hRO, hOt, hlBt, bv, av, aw, cx, aj⟩
 obtain ⟨hi, hhi⟩ : ∃ n, n = c9.heap.size := ⟨_, rfl⟩
 have an := RowsO.hi hRO
 rw [← hhi] at an
 have hhw : w.heap.size ≤ hi := by rw [hhi]; exact aj.size
 have du := hOt.lt
 refine Xq (Xa (Xb (v := vi (k : Int)) av Z (Xb (v := .slice a ms.length c) aw Z (Yu (by kernel_rfl) Z Z (Qa (q := decide ((k : Int) < (ms.length : Int))) Z Z Z Z (Xc (Xy Z (fun az => ?_) (fun az => ?_))))))))
 have dr := of_decide_eq_true az
 refine Xw (Xu (Xq (Yc (Xa (Xb (v := .slice a ms.length c) aw Z (Xb (v := vi (k : Int)) av Z ?_))))))
 obtain ⟨dp, dw, dv, cm, cv, cw⟩ := SlAt.at (TabAt.low ht aj).1 (Yi (xg ms k))
 have dk := TabLen.at hlen (xg ms k)
 refine Xz Y2 Z Z cm cv (by omega) (by omega) Z (Xp (vs := [vi (mAt ms k).t.kind, vi (mAt ms k).t.lab.s, vi (mAt ms k).t.lab.v, vi (mAt ms k).t.ve, vi (mAt ms k).t.num, .slice (mAt ms k).sa (mAt ms k).t.slots.length (mAt ms k).sc, .slice (mAt ms k).qa (mAt ms k).t.queue.length (mAt ms k).qc, vi (mAt ms k).t.to]) Y0 Z Z (Yr cw 0 8 Z) Z (Ye (cs := #[vi 0, vi 0, vi 0, vi 0, vi 0, .slice none 0 0, .slice none 0 0, vi 0]) Kw Z Z ?_))
 intro bq dy O
 have df := Yj O aj
 have cz : hi ≤ bq := nt (Nat.le_of_eq hhi) (Nat.le_of_eq O.eq.symm)
 have cd := Xr O (hOt).lt
 refine X0 (vs := [vi (mAt ms k).t.kind, vi (mAt ms k).t.lab.s, vi (mAt ms k).t.lab.v, vi (mAt ms k).t.ve, vi (mAt ms k).t.num, .slice (mAt ms k).sa (mAt ms k).t.slots.length (mAt ms k).sc, .slice (mAt ms k).qa (mAt ms k).t.queue.length (mAt ms k).qc, vi (mAt ms k).t.to]) (cs' := #[vi (mAt ms k).t.kind, vi (mAt ms k).t.lab.s, vi (mAt ms k).t.lab.v, vi (mAt ms k).t.ve, vi (mAt ms k).t.num, .slice (mAt ms k).sa (mAt ms k).t.slots.length (mAt ms k).sc, .slice (mAt ms k).qa (mAt ms k).t.queue.length (mAt ms k).qc, vi (mAt ms k).t.to]) Y0 Z Z Z (by simp [Value.oneCell']) O.blk (Nat.le_of_ble_eq_true Z) Z ?_
 intro dz ac
 have a9 := low1 (low0 aj O.grw) ac.grw (by omega)
 refine Xc (Xa (Ya (ps := []) (e := 42) (cs := (([] : List Rt).flatMap Rt.cells).toArray) X8 (fun _ => by kernel_rfl) Z ?_))
 intro br da G
 have dg := Yj G a9
 have bd : hi ≤ br := nt (nt (nt (Nat.le_of_eq hhi) O.grw.size) ac.grw.size) (Nat.le_of_eq G.eq.symm)
 have bw := ((hOt.grown0 O.grw).gn ac.grw)
 have ce := Xr G (bw).lt
 have bg := Xr G (ac.blk).lt
 have ap := low0 a9 G.grw
 refine Xd (o' := 5) Qj Z Z Z ?_
 have bx := (ac.blk.grown0 G.grw)
 refine Xh (v := .slice (mAt ms k).sa (mAt ms k).t.slots.length (mAt ms k).sc) Jh Z (bx.cell Z) Z (Jp (g := Rt.cells) (ys := ([])) (zs := (mAt ms k).t.slots) (lo := hi) T6 Z Q7 (by omega) Vy Z Z (OwnN.of (Own.rows Q7 G.blk (by simp)) bd) (TabAt.th (TabAt.low ht ap) (xg ms k)).1 (TabAt.th (TabAt.low ht ap) (xg ms k)).2.2.1 (by first | omega | exact Nat.le_of_ble_eq_true rfl | (simp only [List.length_nil, List.length_cons, List.length_append, List.length_replicate]; omega) | (simp only [List.length_drop, List.length_nil]; omega)) (by omega) (nt (nt (nt (Nat.le_of_eq hhi) O.grw.size) ac.grw.size) G.grw.size) Z ?_)
 intro ah V db a8 cn dl
 have af : World.grownBy da db (some br) := cn
 refine Xd (o' := 5) Qj Z Z Z ?_
 have bf := (bx.gn af)
 refine Yg (v := .slice ah (mAt ms k).t.slots.length V) (cs' := #[vi (mAt ms k).t.kind, vi (mAt ms k).t.lab.s, vi (mAt ms k).t.lab.v, vi (mAt ms k).t.ve, vi (mAt ms k).t.num, .slice ah (mAt ms k).t.slots.length V, .slice (mAt ms k).qa (mAt ms k).t.queue.length (mAt ms k).qc, vi (mAt ms k).t.to]) Jh Z Z Z bf (Nat.le_of_ble_eq_true Z) Z ?_
 intro d0 ad
 have ba := low1 (low1 ap af (by omega)) ad.grw (by omega)
 refine Xc (Xa (Ya (ps := []) (e := 3) (cs := (([] : List Int).flatMap icell).toArray) X8 (fun _ => by kernel_rfl) Z ?_))
 intro bt dc E
 have dh := Yj E ba
 have be : hi ≤ bt := nt (nt (nt (nt (nt (nt (Nat.le_of_eq hhi) O.grw.size) ac.grw.size) G.grw.size) af.size) ad.grw.size) (Nat.le_of_eq E.eq.symm)
 have bz := (((bw.grown0 G.grw).gn af).gn ad.grw)
 have cf := Xr E (bz).lt
 have bh := Xr E (ad.blk).lt
 have aq := low0 ba E.grw
 refine Xd (o' := 6) Qt Z Z Z ?_
 have ca := (ad.blk.grown0 E.grw)
 refine Xh (v := .slice (mAt ms k).qa (mAt ms k).t.queue.length (mAt ms k).qc) Js Z (ca.cell Z) Z (Jp (g := icell) (ys := ([])) (zs := (mAt ms k).t.queue) (lo := hi) V8 Z Yv (by omega) Kf Z Z (OwnN.of (Own.rows Yv E.blk (by simp)) be) (TabAt.th (TabAt.low ht aq) (xg ms k)).2.1 (TabAt.th (TabAt.low ht aq) (xg ms k)).2.2.2 (by first | omega | exact Nat.le_of_ble_eq_true rfl | (simp only [List.length_nil, List.length_cons, List.length_append, List.length_replicate]; omega) | (simp only [List.length_drop, List.length_nil]; omega)) (by omega) (nt (nt (nt (nt (nt (nt (Nat.le_of_eq hhi) O.grw.size) ac.grw.size) G.grw.size) af.size) ad.grw.size) E.grw.size) Z ?_)
 intro ai ab de cj co dm
 have ag : World.grownBy dc de (some bt) := co
 refine Xd (o' := 6) Qt Z Z Z ?_
 have au := (ca.gn ag)
 refine Yg (v := .slice ai (mAt ms k).t.queue.length ab) (cs' := #[vi (mAt ms k).t.kind, vi (mAt ms k).t.lab.s, vi (mAt ms k).t.lab.v, vi (mAt ms k).t.ve, vi (mAt ms k).t.num, .slice ah (mAt ms k).t.slots.length V, .slice ai (mAt ms k).t.queue.length ab, vi (mAt ms k).t.to]) Js Z Z Z au (Nat.le_of_ble_eq_true Z) Z ?_
 intro d1 ae
 have bb := low1 (low1 aq ag (by omega)) ae.grw (by omega)
 refine Xc (X2 (Xb (v := .slice (pa Bt) ys.length ct) bv Z (Xp (vs := [vi (mAt ms k).t.kind, vi (mAt ms k).t.lab.s, vi (mAt ms k).t.lab.v, vi (mAt ms k).t.ve, vi (mAt ms k).t.num, .slice ah (mAt ms k).t.slots.length V, .slice ai (mAt ms k).t.queue.length ab, vi (mAt ms k).t.to]) Y0 Z Z (ae.blk.rangeL 0 8 Z) Z (Ya (ps := [(0, .agg #[vi (mAt ms k).t.kind, vi (mAt ms k).t.lab.s, vi (mAt ms k).t.lab.v, vi (mAt ms k).t.ve, vi (mAt ms k).t.num, .slice ah (mAt ms k).t.slots.length V, .slice ai (mAt ms k).t.queue.length ab, vi (mAt ms k).t.to])]) (e := 38) (cs := (([(⟨⟨(mAt ms k).t.kind, (mAt ms k).t.lab, (mAt ms k).t.ve, (mAt ms k).t.num, (mAt ms k).t.slots, (mAt ms k).t.queue, (mAt ms k).t.to⟩, ah, V, ai, ab⟩ : MTh)] : List MTh).flatMap MTh.cells).toArray) (Xn Z X8) (fun _ => by kernel_rfl) Z ?_))))
 intro bu d2 J
 have di := Yj J bb
 have c8 : hi ≤ bu := nt (nt (nt (nt (nt (nt (nt (nt (nt (Nat.le_of_eq hhi) O.grw.size) ac.grw.size) G.grw.size) af.size) ad.grw.size) E.grw.size) ag.size) ae.grw.size) (Nat.le_of_eq J.eq.symm)
 have cc := (((bz.grown0 E.grw).gn ag).gn ae.grw)
 have cg := Xr J (cc).lt
 have bi := Xr J (ae.blk).lt
 have bc := low0 bb J.grw
 have am := (cc.grown0 J.grw)
 refine Uv (g := MTh.cells) (ys := ys) (zs := ([(⟨⟨(mAt ms k).t.kind, (mAt ms k).t.lab, (mAt ms k).t.ve, (mAt ms k).t.num, (mAt ms k).t.slots, (mAt ms k).t.queue, (mAt ms k).t.to⟩, ah, V, ai, ab⟩ : MTh)] : List MTh)) T5 Z Yo (by omega) Kv Z Z am (Jw Yo J.blk) (by simp only [List.length_cons, List.length_nil]; omega) (by omega) Z ?_
 intro al ar d3 ck ak bn
 have bm : w.heap.size ≤ al := by rcases bn with h | h; (rw [h]; exact hlBt); (rw [h]; exact bc.size)
 have bj : bq ≠ al := by have h := ((ae.blk.grown0 J.grw)).lt; omega
 have bk : bu ≠ al := by have h := (J.blk).lt; omega
 refine Xe (v := .slice (pa al) (ys ++ ([(⟨⟨(mAt ms k).t.kind, (mAt ms k).t.lab, (mAt ms k).t.ve, (mAt ms k).t.num, (mAt ms k).t.slots, (mAt ms k).t.queue, (mAt ms k).t.to⟩, ah, V, ai, ab⟩ : MTh)] : List MTh)).length ar) Z Z (Xc (Y7 (Xu (X2 (Xb (v := vi (k : Int)) av Z (Yn (c := (k : Int) + 1) Z Z (by omega) (by omega) (by omega) Z (Xe (v := vi ((k : Int) + 1)) Z Z (Xc (Xu ?_)))))))))
 have cl := (OwnN.typ ((OwnN.typB (OwnN.typ ((OwnN.typB a8 ad.grw bf (by decide)).grown0 E.grw) ag (Own.rows Yv E.blk (by simp)) (by decide)) ae.grw au (by decide)).grown0 J.grw) ak am (by decide))
 exact ⟨ms.length - (k + 1), by omega, (k + 1), al, ar, (ys ++ ([(⟨⟨(mAt ms k).t.kind, (mAt ms k).t.lab, (mAt ms k).t.ve, (mAt ms k).t.num, (mAt ms k).t.slots, (mAt ms k).t.queue, (mAt ms k).t.to⟩, ah, V, ai, ab⟩ : MTh)] : List MTh)), Z, (by omega), (by rw [List.length_append, hyk]; rfl), (Bg hyt (xg ms k) Z), (RowsO.snoc (RowsO.own (RowsO.low (RowsO.ge (RowsO.ge (RowsO.low (RowsO.ge (RowsO.ge (RowsO.low (RowsO.ge (RowsO.low hRO O.grw) ac.grw an (by omega)) G.grw) af an (by omega)) ad.grw an (by omega)) E.grw) ag an (by omega)) ae.grw an (by omega)) J.grw) ak am (by decide) (by decide)) ⟨OwnN.mono (OwnN.typ ((OwnN.typB (OwnN.typ ((OwnN.typB a8 ad.grw bf (by decide)).grown0 E.grw) ag (Own.rows Yv E.blk (by simp)) (by decide)) ae.grw au (by decide)).grown0 J.grw) ak am (by decide)) hhw, OwnN.mono (OwnN.typ ((OwnN.typB cj ae.grw au (by decide)).grown0 J.grw) ak am (by decide)) hhw⟩ an (fun S e => (H3 cl e).2)), ck, bm, Z, Z, aw, cx, (low1 bc ak (by omega))⟩
 have dt := of_decide_eq_false az
 exact Qe (Qb (Qb (Jm (Xu (Xa (Xb (v := .slice (pa Bt) ys.length ct) bv Z (Xe (v := .slice (pa Bt) ys.length ct) Z Z (Xc (Xt (⟨.slice (pa Bt) ys.length ct, Yp Z Z, Bt, ct, ys, Z, Dp hyt (by omega), hlBt, hOt, hRO, aj⟩))))))))))
theorem Cu (q : Cl) (r : Rt) (lo B cap : Nat) (ms : List MTh) (w : World) (hB : Dw.Own w B 38 8 cap ms.length (ms.flatMap MTh.cells)) (hR : RowsO 42 3 lo w ms) (hlo : lo ≤ B) (hi : Nat) (hH : HiO hi ms) (hBlt : B < hi) (hhi : hi ≤ w.heap.size) (hF : FarOk (tabT ms) q r) : CallsR Tryz.prog 60 #[.slice (pa B) ms.length cap, .agg #[vi q.kind, vi q.run, vi q.a, vi q.b, vi q.n], .agg #[vi r.th, vi r.ve, vb r.rd, vb r.wr, vb r.wk]] w (fun v w' => ∃ ms' : List MTh, v = vi (far (tabT ms) q r).2 ∧ ms'.length = ms.length ∧ Dw.Own w' B 38 8 cap ms'.length (ms'.flatMap MTh.cells) ∧ RowsO 42 3 lo w' ms' ∧ tabT ms' = (far (tabT ms) q r).1 ∧ KeepsI lo hi [38, 42, 3] w w') := by
 refine Xx (n := 143) Tryz.func60 Z Tryz.ntmps60 Z ?_
 have ob : KeepsI lo hi [38, 42, 3] w w := KeepsI.refl w
 have hlow : lo ≤ w.heap.size := by omega
 have hT := hF.tab
 have hco := Yq hF.call
 have hkp := (Y3 hF.run).1
 have h4 := Qp hT hF.run
 have hth := hF.th
 rw [Qd] at hth
 have hml := Jb hT
 have hkd := Q0 hF.kind hco.1
 rw [← Qw] at hkd
 have hrow := Ju hT (i := (r.th - 1).toNat) (by omega)
 have hln := TabLen.ok hT _ (List.mem_of_getElem? (xg ms (r.th - 1).toNat))
 have hcp := hF.copy
 have hve := Uu hrow
 refine Xa (Qf (v := .agg #[vi q.kind, vi q.run, vi q.a, vi q.b, vi q.n]) (cs := #[vi q.kind, vi q.run, vi q.a, vi q.b, vi q.n]) Z Z Z ?_)
 intro dl sq ae
 have qu := Vs ae ob
 have lv := Xr ae (hB).lt
 have fo := KeepsI.low ob ae.grw
 refine Qf (v := .agg #[vi r.th, vi r.ve, vb r.rd, vb r.wr, vb r.wk]) (cs := #[vi r.th, vi r.ve, vb r.rd, vb r.wr, vb r.wk]) Z Z Z ?_
 intro fc sr ab
 have qv := Vs ab fo
 have j8 := (hB.grown0 ae.grw)
 have lw := Xr ab (j8).lt
 have gy := Xr ab (ae.blk).lt
 have fp := KeepsI.low fo ab.grw
 refine Xe (v := vi 0) Z Z (Xc (Xa (Xb (v := .slice (pa B) ms.length cap) Z Z (Xd (o' := 0) Yz Z Z Z (Xh (v := vi r.th) X1 Z (ab.blk.cell Z) Z (Ys (c := r.th - 1) Z Z (by omega) (by omega) (by omega) Z (Yb (o' := (r.th - 1).toNat * 8) Y2 Z Z (by omega) (by omega) (by omega) Z ?_)))))))
 have gc := (j8.grown0 ab.grw)
 refine Xp (vs := [vi (mAt ms (r.th - 1).toNat).t.kind, vi (mAt ms (r.th - 1).toNat).t.lab.s, vi (mAt ms (r.th - 1).toNat).t.lab.v, vi (mAt ms (r.th - 1).toNat).t.ve, vi (mAt ms (r.th - 1).toNat).t.num, .slice (mAt ms (r.th - 1).toNat).sa (mAt ms (r.th - 1).toNat).t.slots.length (mAt ms (r.th - 1).toNat).sc, .slice (mAt ms (r.th - 1).toNat).qa (mAt ms (r.th - 1).toNat).t.queue.length (mAt ms (r.th - 1).toNat).qc, vi (mAt ms (r.th - 1).toNat).t.to]) Y0 Z Z (Yr (Own.range Yo gc (xg ms (r.th - 1).toNat)) 0 8 Z) Z (Ye (cs := #[vi 0, vi 0, vi 0, vi 0, vi 0, .slice none 0 0, .slice none 0 0, vi 0]) Kw Z Z ?_)
 intro dz su O
 have qw := Vs O fp
 have lx := Xr O (gc).lt
 have j9 := (ae.blk.grown0 ab.grw)
 have gz := Xr O (j9).lt
 have ib := Xr O (ab.blk).lt
 refine X0 (vs := [vi (mAt ms (r.th - 1).toNat).t.kind, vi (mAt ms (r.th - 1).toNat).t.lab.s, vi (mAt ms (r.th - 1).toNat).t.lab.v, vi (mAt ms (r.th - 1).toNat).t.ve, vi (mAt ms (r.th - 1).toNat).t.num, .slice (mAt ms (r.th - 1).toNat).sa (mAt ms (r.th - 1).toNat).t.slots.length (mAt ms (r.th - 1).toNat).sc, .slice (mAt ms (r.th - 1).toNat).qa (mAt ms (r.th - 1).toNat).t.queue.length (mAt ms (r.th - 1).toNat).qc, vi (mAt ms (r.th - 1).toNat).t.to]) (cs' := #[vi (mAt ms (r.th - 1).toNat).t.kind, vi (mAt ms (r.th - 1).toNat).t.lab.s, vi (mAt ms (r.th - 1).toNat).t.lab.v, vi (mAt ms (r.th - 1).toNat).t.ve, vi (mAt ms (r.th - 1).toNat).t.num, .slice (mAt ms (r.th - 1).toNat).sa (mAt ms (r.th - 1).toNat).t.slots.length (mAt ms (r.th - 1).toNat).sc, .slice (mAt ms (r.th - 1).toNat).qa (mAt ms (r.th - 1).toNat).t.queue.length (mAt ms (r.th - 1).toNat).qc, vi (mAt ms (r.th - 1).toNat).t.to]) Y0 Z Z Z (by simp [Value.oneCell']) O.blk (Nat.le_of_ble_eq_true Z) Z ?_
 intro sv V
 have fq := KeepsI.new (KeepsI.low fp O.grw) V.grw (by omega)
 refine Xc (Xa (Xb (v := .slice (pa B) ms.length cap) Z Z (Xd (o' := 1) Qv Z Z Z ?_)))
 have gf := ((j9.grown0 O.grw).gn V.grw)
 refine Xh (v := vi q.run) X1 Z (gf.cell Z) Z (Ys (c := q.run - 1) Z Z (by omega) (by omega) (by omega) Z (Yb (o' := (q.run - 1).toNat * 8) Y2 Z Z (by omega) (by omega) (by omega) Z ?_))
 have ar := ((gc.grown0 O.grw).gn V.grw)
 refine Xp (vs := [vi (mAt ms (q.run - 1).toNat).t.kind, vi (mAt ms (q.run - 1).toNat).t.lab.s, vi (mAt ms (q.run - 1).toNat).t.lab.v, vi (mAt ms (q.run - 1).toNat).t.ve, vi (mAt ms (q.run - 1).toNat).t.num, .slice (mAt ms (q.run - 1).toNat).sa (mAt ms (q.run - 1).toNat).t.slots.length (mAt ms (q.run - 1).toNat).sc, .slice (mAt ms (q.run - 1).toNat).qa (mAt ms (q.run - 1).toNat).t.queue.length (mAt ms (q.run - 1).toNat).qc, vi (mAt ms (q.run - 1).toNat).t.to]) Y0 Z Z (Yr (Own.range Yo ar (xg ms (q.run - 1).toNat)) 0 8 Z) Z (Ye (cs := #[vi 0, vi 0, vi 0, vi 0, vi 0, .slice none 0 0, .slice none 0 0, vi 0]) Kw Z Z ?_)
 intro fd sw E
 have qx := Vs E fq
 have ly := Xr E (ar).lt
 have g0 := Xr E (gf).lt
 have bf := ((ab.blk.grown0 O.grw).gn V.grw)
 have ic := Xr E (bf).lt
 have iq := Xr E (V.blk).lt
 refine X0 (vs := [vi (mAt ms (q.run - 1).toNat).t.kind, vi (mAt ms (q.run - 1).toNat).t.lab.s, vi (mAt ms (q.run - 1).toNat).t.lab.v, vi (mAt ms (q.run - 1).toNat).t.ve, vi (mAt ms (q.run - 1).toNat).t.num, .slice (mAt ms (q.run - 1).toNat).sa (mAt ms (q.run - 1).toNat).t.slots.length (mAt ms (q.run - 1).toNat).sc, .slice (mAt ms (q.run - 1).toNat).qa (mAt ms (q.run - 1).toNat).t.queue.length (mAt ms (q.run - 1).toNat).qc, vi (mAt ms (q.run - 1).toNat).t.to]) (cs' := #[vi (mAt ms (q.run - 1).toNat).t.kind, vi (mAt ms (q.run - 1).toNat).t.lab.s, vi (mAt ms (q.run - 1).toNat).t.lab.v, vi (mAt ms (q.run - 1).toNat).t.ve, vi (mAt ms (q.run - 1).toNat).t.num, .slice (mAt ms (q.run - 1).toNat).sa (mAt ms (q.run - 1).toNat).t.slots.length (mAt ms (q.run - 1).toNat).sc, .slice (mAt ms (q.run - 1).toNat).qa (mAt ms (q.run - 1).toNat).t.queue.length (mAt ms (q.run - 1).toNat).qc, vi (mAt ms (q.run - 1).toNat).t.to]) Y0 Z Z Z (by simp [Value.oneCell']) E.blk (Nat.le_of_ble_eq_true Z) Z ?_
 intro fb G
 have ac := KeepsI.new (KeepsI.low fq E.grw) G.grw (by omega)
 refine Xc (Xa (Xe (v := vi 0) Z Z (Xc (Xq (Xa (Xd (o' := 0) Ja Z Z Z ?_))))))
 have ao := ((gf.grown0 E.grw).gn G.grw)
 refine Xh (v := vi q.kind) X1 Z (ao.cell Z) Z (Xc (Yc (Xa (X3 (q := decide (q.kind = 1)) Z Z Z Z (Xe (v := vb (decide (q.kind = 1))) Z Z (Xc (Xy Z (fun eh => ?_) (fun eh => ?_))))))))
 have rq := of_decide_eq_true eh
 refine Xa (Xd (o' := 4) Q6 Z Z Z (Xh (v := vi (mAt ms (r.th - 1).toNat).t.num) X1 Z (((V.blk.grown0 E.grw).gn G.grw).cell Z) Z (Xe (v := vi (mAt ms (r.th - 1).toNat).t.num) Z Z (Xc (Xt (Qi (Yk ?_)))))))
 have hf : far (tabT ms) q r = (tabT (ms), (mAt ms (r.th - 1).toNat).t.num) := Fh eh
 exact ⟨vi (mAt ms (r.th - 1).toNat).t.num, Yp Z Z, ms, by rw [hf], by first | rfl | exact Yd | (simp only [List.length_set, Yd]), ((ar.grown0 E.grw).gn G.grw), (RowsO.typB (RowsO.low (RowsO.typB (RowsO.low (RowsO.low (RowsO.low hR ae.grw) ab.grw) O.grw) V.grw O.blk (by decide) (by decide)) E.grw) G.grw E.blk (by decide) (by decide)), by rw [hf], ac⟩
 have rr := of_decide_eq_false eh
 refine Xa (X3 (q := decide (q.kind = 2)) Z Z Z Z (Xe (v := vb (decide (q.kind = 2))) Z Z (Xc (Xy Z (fun ei => ?_) (fun ei => ?_)))))
 have ru := of_decide_eq_true ei
 refine X2 (Xd (o' := 4) Jk Z Z Z (Xh (v := vi q.n) X1 Z (ao.cell Z) Z (Xd (o' := 4) Q6 Z Z Z ?_)))
 have ka := ((V.blk.grown0 E.grw).gn G.grw)
 refine Yg (v := vi q.n) (cs' := #[vi (mAt ms (r.th - 1).toNat).t.kind, vi (mAt ms (r.th - 1).toNat).t.lab.s, vi (mAt ms (r.th - 1).toNat).t.lab.v, vi (mAt ms (r.th - 1).toNat).t.ve, vi q.n, .slice (mAt ms (r.th - 1).toNat).sa (mAt ms (r.th - 1).toNat).t.slots.length (mAt ms (r.th - 1).toNat).sc, .slice (mAt ms (r.th - 1).toNat).qa (mAt ms (r.th - 1).toNat).t.queue.length (mAt ms (r.th - 1).toNat).qc, vi (mAt ms (r.th - 1).toNat).t.to]) X1 Z Z Z ka (Nat.le_of_ble_eq_true Z) Z ?_
 intro sx ct
 refine Xc (Y7 (Xu (Xa (Xb (v := .slice (pa B) ms.length cap) Z Z (Xd (o' := 0) Yz Z Z Z (Xh (v := vi r.th) X1 Z ((((bf.grown0 E.grw).gn G.grw).gn ct.grw).cell Z) Z (Ys (c := r.th - 1) Z Z (by omega) (by omega) (by omega) Z (Xp (vs := [vi (mAt ms (r.th - 1).toNat).t.kind, vi (mAt ms (r.th - 1).toNat).t.lab.s, vi (mAt ms (r.th - 1).toNat).t.lab.v, vi (mAt ms (r.th - 1).toNat).t.ve, vi q.n, .slice (mAt ms (r.th - 1).toNat).sa (mAt ms (r.th - 1).toNat).t.slots.length (mAt ms (r.th - 1).toNat).sc, .slice (mAt ms (r.th - 1).toNat).qa (mAt ms (r.th - 1).toNat).t.queue.length (mAt ms (r.th - 1).toNat).qc, vi (mAt ms (r.th - 1).toNat).t.to]) Y0 Z Z (ct.blk.rangeL 0 8 Z) Z (Yb (o' := (r.th - 1).toNat * 8) Y2 Z Z (by omega) (by omega) (by omega) Z ?_)))))))))
 have gg := (((ar.grown0 E.grw).gn G.grw).gn ct.grw)
 refine Je (g := MTh.cells) (z' := (⟨⟨(mAt ms (r.th - 1).toNat).t.kind, (mAt ms (r.th - 1).toNat).t.lab, (mAt ms (r.th - 1).toNat).t.ve, q.n, (mAt ms (r.th - 1).toNat).t.slots, (mAt ms (r.th - 1).toNat).t.queue, (mAt ms (r.th - 1).toNat).t.to⟩, (mAt ms (r.th - 1).toNat).sa, (mAt ms (r.th - 1).toNat).sc, (mAt ms (r.th - 1).toNat).qa, (mAt ms (r.th - 1).toNat).qc⟩ : MTh)) Y0 Z Z (Kv _) Yo gg (by omega) Z ?_
 intro od kv fx
 have jj : RowsO 42 3 lo od (ms.set (r.th - 1).toNat (⟨⟨(mAt ms (r.th - 1).toNat).t.kind, (mAt ms (r.th - 1).toNat).t.lab, (mAt ms (r.th - 1).toNat).t.ve, q.n, (mAt ms (r.th - 1).toNat).t.slots, (mAt ms (r.th - 1).toNat).t.queue, (mAt ms (r.th - 1).toNat).t.to⟩, (mAt ms (r.th - 1).toNat).sa, (mAt ms (r.th - 1).toNat).sc, (mAt ms (r.th - 1).toNat).qa, (mAt ms (r.th - 1).toNat).qc⟩ : MTh)) := RowsO.set (RowsO.own (RowsO.typB (RowsO.typB (RowsO.low (RowsO.typB (RowsO.low (RowsO.low (RowsO.low hR ae.grw) ab.grw) O.grw) V.grw O.blk (by decide) (by decide)) E.grw) G.grw E.blk (by decide) (by decide)) ct.grw ka (by decide) (by decide)) fx gg (by decide) (by decide)) (lq (r.th - 1).toNat ms.length) ⟨rfl, rfl, rfl⟩ ⟨rfl, rfl, rfl⟩
 refine Xc (Xa (Xb (v := vi 0) Z Z (Xe (v := vi 0) Z Z (Xc (Xt ?_)))))
 have hf : far (tabT ms) q r = (tabT (ms.set (r.th - 1).toNat (⟨⟨(mAt ms (r.th - 1).toNat).t.kind, (mAt ms (r.th - 1).toNat).t.lab, (mAt ms (r.th - 1).toNat).t.ve, q.n, (mAt ms (r.th - 1).toNat).t.slots, (mAt ms (r.th - 1).toNat).t.queue, (mAt ms (r.th - 1).toNat).t.to⟩, (mAt ms (r.th - 1).toNat).sa, (mAt ms (r.th - 1).toNat).sc, (mAt ms (r.th - 1).toNat).qa, (mAt ms (r.th - 1).toNat).qc⟩ : MTh)), 0) := Fi ei rfl
 exact ⟨vi 0, Yp Z Z, ms.set (r.th - 1).toNat (⟨⟨(mAt ms (r.th - 1).toNat).t.kind, (mAt ms (r.th - 1).toNat).t.lab, (mAt ms (r.th - 1).toNat).t.ve, q.n, (mAt ms (r.th - 1).toNat).t.slots, (mAt ms (r.th - 1).toNat).t.queue, (mAt ms (r.th - 1).toNat).t.to⟩, (mAt ms (r.th - 1).toNat).sa, (mAt ms (r.th - 1).toNat).sc, (mAt ms (r.th - 1).toNat).qa, (mAt ms (r.th - 1).toNat).qc⟩ : MTh), by rw [hf], by first | rfl | exact Yd | (simp only [List.length_set, Yd]), kv, jj, by rw [hf], (KeepsI.own (KeepsI.new ac ct.grw (by omega)) fx gg (by decide) (by omega) (by omega))⟩
 have rx := of_decide_eq_false ei
 refine Xa (X3 (q := decide (q.kind = 4)) Z Z Z Z (Xe (v := vb (decide (q.kind = 4))) Z Z (Xc (Xy Z (fun dm => ?_) (fun dm => ?_)))))
 have q7 := of_decide_eq_true dm
 have hs4 : (mAt ms (r.th - 1).toNat).t.slots.length = 4 := U3 hrow (Or.inl (by omega))
 have ry := of_decide_eq_true dm
 refine Xa (Xd (o' := 5) Qj Z Z Z ?_)
 have kb := ((V.blk.grown0 E.grw).gn G.grw)
 refine Xh (v := .slice (mAt ms (r.th - 1).toNat).sa (mAt ms (r.th - 1).toNat).t.slots.length (mAt ms (r.th - 1).toNat).sc) Jh Z (kb.cell Z) Z (Xd (o' := 4) Jk Z Z Z (Xh (v := vi q.n) X1 Z (ao.cell Z) Z (Q8 (c := q.n % 4) Z Z (by omega) (by omega) (by omega) Z Z ?_)))
 have dn := (RowsO.typB (RowsO.low (RowsO.typB (RowsO.low (RowsO.low (RowsO.low hR ae.grw) ab.grw) O.grw) V.grw O.blk (by decide) (by decide)) E.grw) G.grw E.blk (by decide) (by decide))
 obtain ⟨rh, eu, qm, dr⟩ := RowsO.slot dn (lq (r.th - 1).toNat ms.length) (by omega)
 have qg := hH _ (List.mem_of_getElem? (xg ms (r.th - 1).toNat)) _ (Or.inl eu)
 have ey := ((ar.grown0 E.grw).gn G.grw)
 have qo := Vt ey dr (by decide)
 refine Xz Ka Z Z eu (Nat.zero_add _) (by omega) (by omega) Z (Xp (vs := [vi (rAt (mAt ms (r.th - 1).toNat).t.slots (q.n % 4).toNat).th, vi (rAt (mAt ms (r.th - 1).toNat).t.slots (q.n % 4).toNat).ve, vb (rAt (mAt ms (r.th - 1).toNat).t.slots (q.n % 4).toNat).rd, vb (rAt (mAt ms (r.th - 1).toNat).t.slots (q.n % 4).toNat).wr, vb (rAt (mAt ms (r.th - 1).toNat).t.slots (q.n % 4).toNat).wk]) Yx Z Z (Yr (Own.range Q7 dr (xr (mAt ms (r.th - 1).toNat).t.slots (q.n % 4).toNat)) 0 5 Z) Z (Ye (cs := #[vi 0, vi 0, vb false, vb false, vb false]) Kz Z Z ?_))
 intro rb sy ag
 have qy := Vs ag ac
 have lz := Xr ag (ey).lt
 have g1 := Xr ag (ao).lt
 have kc := ((bf.grown0 E.grw).gn G.grw)
 have ie := Xr ag (kc).lt
 have ir := Xr ag (kb).lt
 have i1 := Xr ag (G.blk).lt
 have je := Xr ag (dr).lt
 refine X0 (vs := [vi (rAt (mAt ms (r.th - 1).toNat).t.slots (q.n % 4).toNat).th, vi (rAt (mAt ms (r.th - 1).toNat).t.slots (q.n % 4).toNat).ve, vb (rAt (mAt ms (r.th - 1).toNat).t.slots (q.n % 4).toNat).rd, vb (rAt (mAt ms (r.th - 1).toNat).t.slots (q.n % 4).toNat).wr, vb (rAt (mAt ms (r.th - 1).toNat).t.slots (q.n % 4).toNat).wk]) (cs' := #[vi (rAt (mAt ms (r.th - 1).toNat).t.slots (q.n % 4).toNat).th, vi (rAt (mAt ms (r.th - 1).toNat).t.slots (q.n % 4).toNat).ve, vb (rAt (mAt ms (r.th - 1).toNat).t.slots (q.n % 4).toNat).rd, vb (rAt (mAt ms (r.th - 1).toNat).t.slots (q.n % 4).toNat).wr, vb (rAt (mAt ms (r.th - 1).toNat).t.slots (q.n % 4).toNat).wk]) Yx Z Z Z (by simp [Value.oneCell']) ag.blk (Nat.le_of_ble_eq_true Z) Z ?_
 intro s0 aq
 have fr := KeepsI.new (KeepsI.low ac ag.grw) aq.grw (by omega)
 refine Xc (Xq (Xa (Xd (o' := 4) K7 Z Z Z (Xh (v := vb r.wk) J4 Z (((kc.grown0 ag.grw).gn aq.grw).cell Z) Z (Xc (Xy Z (fun fe => ?_) (fun fe => ?_)))))))
 refine X2 (Xp (vs := [vi (rAt (mAt ms (r.th - 1).toNat).t.slots (q.n % 4).toNat).th, vi (rAt (mAt ms (r.th - 1).toNat).t.slots (q.n % 4).toNat).ve, vb (rAt (mAt ms (r.th - 1).toNat).t.slots (q.n % 4).toNat).rd, vb (rAt (mAt ms (r.th - 1).toNat).t.slots (q.n % 4).toNat).wr, vb (rAt (mAt ms (r.th - 1).toNat).t.slots (q.n % 4).toNat).wk]) Yx Z Z (aq.blk.rangeL 0 5 Z) Z (Xl Fx (Xg Z (Xg Z (Xg Z (Xg Z Xk)))) Z (Rw (rAt (mAt ms (r.th - 1).toNat).t.slots (q.n % 4).toNat) true false false _) ?_))
 rintro _ s1 ⟨rfl, cf⟩
 refine X0 (vs := [vi (l2Less (rAt (mAt ms (r.th - 1).toNat).t.slots (q.n % 4).toNat) true false false).th, vi (l2Less (rAt (mAt ms (r.th - 1).toNat).t.slots (q.n % 4).toNat) true false false).ve, vb (l2Less (rAt (mAt ms (r.th - 1).toNat).t.slots (q.n % 4).toNat) true false false).rd, vb (l2Less (rAt (mAt ms (r.th - 1).toNat).t.slots (q.n % 4).toNat) true false false).wr, vb (l2Less (rAt (mAt ms (r.th - 1).toNat).t.slots (q.n % 4).toNat) true false false).wk]) (cs' := #[vi (l2Less (rAt (mAt ms (r.th - 1).toNat).t.slots (q.n % 4).toNat) true false false).th, vi (l2Less (rAt (mAt ms (r.th - 1).toNat).t.slots (q.n % 4).toNat) true false false).ve, vb (l2Less (rAt (mAt ms (r.th - 1).toNat).t.slots (q.n % 4).toNat) true false false).rd, vb (l2Less (rAt (mAt ms (r.th - 1).toNat).t.slots (q.n % 4).toNat) true false false).wr, vb (l2Less (rAt (mAt ms (r.th - 1).toNat).t.slots (q.n % 4).toNat) true false false).wk]) Yx Z Z Z (by simp [Value.oneCell']) (aq.blk.grown0 cf) (Nat.le_of_ble_eq_true Z) Z ?_
 intro s3 cc
 refine Xc (Xu (Xa (Xd (o' := 5) Qj Z Z Z (Xh (v := .slice (mAt ms (q.run - 1).toNat).sa (mAt ms (q.run - 1).toNat).t.slots.length (mAt ms (q.run - 1).toNat).sc) Jh Z (((((G.blk.grown0 ag.grw).gn aq.grw).grown0 cf).gn cc.grw).cell Z) Z (Xd (o' := 3) K6 Z Z Z (Xh (v := vi q.b) X1 Z (((((ao.grown0 ag.grw).gn aq.grw).grown0 cf).gn cc.grw).cell Z) Z (Xp (vs := [vi (l2Less (rAt (mAt ms (r.th - 1).toNat).t.slots (q.n % 4).toNat) true false false).th, vi (l2Less (rAt (mAt ms (r.th - 1).toNat).t.slots (q.n % 4).toNat) true false false).ve, vb (l2Less (rAt (mAt ms (r.th - 1).toNat).t.slots (q.n % 4).toNat) true false false).rd, vb (l2Less (rAt (mAt ms (r.th - 1).toNat).t.slots (q.n % 4).toNat) true false false).wr, vb (l2Less (rAt (mAt ms (r.th - 1).toNat).t.slots (q.n % 4).toNat) true false false).wk]) Yx Z Z (cc.blk.rangeL 0 5 Z) Z ?_)))))))
 have ej := (RowsO.ge (RowsO.low (RowsO.ge (RowsO.low dn ag.grw) aq.grw hH (by omega)) cf) cc.grw hH (by omega))
 obtain ⟨ri, dt, jt, cj⟩ := RowsO.slot ej (lq (q.run - 1).toNat ms.length) (by omega)
 have qh := hH _ (List.mem_of_getElem? (xg ms (q.run - 1).toNat)) _ (Or.inl dt)
 have ke := ((((ey.grown0 ag.grw).gn aq.grw).grown0 cf).gn cc.grw)
 have qp := Vt ke cj (by decide)
 refine Xz Ka Z Z dt (Nat.zero_add _) (by omega) (by omega) Z (Je (g := Rt.cells) (z' := (l2Less (rAt (mAt ms (r.th - 1).toNat).t.slots (q.n % 4).toNat) true false false)) Yx Z Z (Vy _) Q7 cj (by omega) Z ?_)
 intro s4 kw d7
 refine Xc (Xa (Xe (v := vi 0) Z Z (Xc (Xt (Qi (Yk ?_))))))
 have hf : far (tabT ms) q r = (tabT (putT ms (q.run - 1).toNat (q.b).toNat (l2Less (rAt (mAt ms (r.th - 1).toNat).t.slots (q.n % 4).toNat) true false false)), 0) := Tx dm (by unfold fetched; simp [fe])
 exact ⟨vi 0, Yp Z Z, putT ms (q.run - 1).toNat (q.b).toNat (l2Less (rAt (mAt ms (r.th - 1).toNat).t.slots (q.n % 4).toNat) true false false), by rw [hf], by first | rfl | exact Yd | (simp only [List.length_set, Yd]), (V9 (i := (q.run - 1).toNat) (j := (q.b).toNat) (x := (l2Less (rAt (mAt ms (r.th - 1).toNat).t.slots (q.n % 4).toNat) true false false)) (ke.gn d7) (by omega)), (RowsO.put ej (lq (q.run - 1).toNat ms.length) dt jt cj Z kw d7 (by decide)), by rw [hf], (KeepsI.own (KeepsI.new (KeepsI.low fr cf) cc.grw (by omega)) d7 cj (by decide) (by omega) (by omega))⟩
 refine Xw (Xu (Xa (Xd (o' := 5) Qj Z Z Z (Xh (v := .slice (mAt ms (q.run - 1).toNat).sa (mAt ms (q.run - 1).toNat).t.slots.length (mAt ms (q.run - 1).toNat).sc) Jh Z (((G.blk.grown0 ag.grw).gn aq.grw).cell Z) Z (Xd (o' := 3) K6 Z Z Z (Xh (v := vi q.b) X1 Z (((ao.grown0 ag.grw).gn aq.grw).cell Z) Z (Xp (vs := [vi (rAt (mAt ms (r.th - 1).toNat).t.slots (q.n % 4).toNat).th, vi (rAt (mAt ms (r.th - 1).toNat).t.slots (q.n % 4).toNat).ve, vb (rAt (mAt ms (r.th - 1).toNat).t.slots (q.n % 4).toNat).rd, vb (rAt (mAt ms (r.th - 1).toNat).t.slots (q.n % 4).toNat).wr, vb (rAt (mAt ms (r.th - 1).toNat).t.slots (q.n % 4).toNat).wk]) Yx Z Z (aq.blk.rangeL 0 5 Z) Z ?_)))))))
 have ek := (RowsO.ge (RowsO.low dn ag.grw) aq.grw hH (by omega))
 obtain ⟨rj, du, ju, ck⟩ := RowsO.slot ek (lq (q.run - 1).toNat ms.length) (by omega)
 have qi := hH _ (List.mem_of_getElem? (xg ms (q.run - 1).toNat)) _ (Or.inl du)
 have kf := ((ey.grown0 ag.grw).gn aq.grw)
 have qq := Vt kf ck (by decide)
 refine Xz Ka Z Z du (Nat.zero_add _) (by omega) (by omega) Z (Je (g := Rt.cells) (z' := (rAt (mAt ms (r.th - 1).toNat).t.slots (q.n % 4).toNat)) Yx Z Z (Vy _) Q7 ck (by omega) Z ?_)
 intro s5 kx d8
 refine Xc (Xa (Xe (v := vi 0) Z Z (Xc (Xt (Qi (Yk ?_))))))
 have hf : far (tabT ms) q r = (tabT (putT ms (q.run - 1).toNat (q.b).toNat (rAt (mAt ms (r.th - 1).toNat).t.slots (q.n % 4).toNat)), 0) := Tx dm (by unfold fetched; simp [fe])
 exact ⟨vi 0, Yp Z Z, putT ms (q.run - 1).toNat (q.b).toNat (rAt (mAt ms (r.th - 1).toNat).t.slots (q.n % 4).toNat), by rw [hf], by first | rfl | exact Yd | (simp only [List.length_set, Yd]), (V9 (i := (q.run - 1).toNat) (j := (q.b).toNat) (x := (rAt (mAt ms (r.th - 1).toNat).t.slots (q.n % 4).toNat)) (kf.gn d8) (by omega)), (RowsO.put ek (lq (q.run - 1).toNat ms.length) du ju ck Z kx d8 (by decide)), by rw [hf], (KeepsI.own fr d8 ck (by decide) (by omega) (by omega))⟩
 have rz := of_decide_eq_false dm
 refine Xa (X3 (q := decide (q.kind = 5)) Z Z Z Z (Xe (v := vb (decide (q.kind = 5))) Z Z (Xc (Xy Z (fun d0 => ?_) (fun d0 => ?_)))))
 have q8 := of_decide_eq_true d0
 have hs4 : (mAt ms (r.th - 1).toNat).t.slots.length = 4 := U3 hrow (Or.inl (by omega))
 have r0 := of_decide_eq_true d0
 have dp := (RowsO.typB (RowsO.low (RowsO.typB (RowsO.low (RowsO.low (RowsO.low hR ae.grw) ab.grw) O.grw) V.grw O.blk (by decide) (by decide)) E.grw) G.grw E.blk (by decide) (by decide))
 obtain ⟨me, ew, qn, ep⟩ := RowsO.slot dp (lq (q.run - 1).toNat ms.length) (by omega)
 have qj := hH _ (List.mem_of_getElem? (xg ms (q.run - 1).toNat)) _ (Or.inl ew)
 have gh := ((ar.grown0 E.grw).gn G.grw)
 have qr := Vt gh ep (by decide)
 obtain ⟨rk, dv, jv, er⟩ := RowsO.slot dp (lq (r.th - 1).toNat ms.length) (by omega)
 have qk := hH _ (List.mem_of_getElem? (xg ms (r.th - 1).toNat)) _ (Or.inl dv)
 have qt := Vt gh er (by decide)
 refine Yw (m := 11) (vals := [(57, pt dz 5), (58, .slice (mAt ms (r.th - 1).toNat).sa (mAt ms (r.th - 1).toNat).t.slots.length (mAt ms (r.th - 1).toNat).sc), (59, pt dl 4), (60, vi q.n), (61, vi (q.n % 4)), (62, pt fd 5), (63, .slice (mAt ms (q.run - 1).toNat).sa (mAt ms (q.run - 1).toNat).t.slots.length (mAt ms (q.run - 1).toNat).sc), (64, pt dl 3), (65, vi q.b), (66, pt me ((q.b).toNat * 5)), (67, .agg #[vi (rAt (mAt ms (q.run - 1).toNat).t.slots (q.b).toNat).th, vi (rAt (mAt ms (q.run - 1).toNat).t.slots (q.b).toNat).ve, vb (rAt (mAt ms (q.run - 1).toNat).t.slots (q.b).toNat).rd, vb (rAt (mAt ms (q.run - 1).toNat).t.slots (q.b).toNat).wr, vb (rAt (mAt ms (q.run - 1).toNat).t.slots (q.b).toNat).wk])]) (fun w' => fb.grownBy w' none) Yy (by kernel_rfl) (X6 _) ?_ ?_
 refine yl Z (fun _ _ k => Xd (o' := 5) Qj Z Z Z k) (yl Z (fun _ lg k => Xh (v := .slice (mAt ms (r.th - 1).toNat).sa (mAt ms (r.th - 1).toNat).t.slots.length (mAt ms (r.th - 1).toNat).sc) Jh Z ((((V.blk.grown0 E.grw).gn G.grw).grown0 lg).cell Z) Z k) (yl Z (fun _ _ k => Xd (o' := 4) Jk Z Z Z k) (yl Z (fun _ lh k => Xh (v := vi q.n) X1 Z ((ao.grown0 lh).cell Z) Z k) (yl Z (fun _ _ k => Q8 (c := q.n % 4) Z Z (by omega) (by omega) (by omega) Z Z k) (yl Z (fun _ _ k => Xd (o' := 5) Qj Z Z Z k) (yl Z (fun _ li k => Xh (v := .slice (mAt ms (q.run - 1).toNat).sa (mAt ms (q.run - 1).toNat).t.slots.length (mAt ms (q.run - 1).toNat).sc) Jh Z ((G.blk.grown0 li).cell Z) Z k) (yl Z (fun _ _ k => Xd (o' := 3) K6 Z Z Z k) (yl Z (fun _ lj k => Xh (v := vi q.b) X1 Z ((ao.grown0 lj).cell Z) Z k) (yl Z (fun _ _ k => Xz Ka Z Z ew (Nat.zero_add _) (by omega) (by omega) Z k) (yl Z (fun _ lk k => Xp (vs := [vi (rAt (mAt ms (q.run - 1).toNat).t.slots (q.b).toNat).th, vi (rAt (mAt ms (q.run - 1).toNat).t.slots (q.b).toNat).ve, vb (rAt (mAt ms (q.run - 1).toNat).t.slots (q.b).toNat).rd, vb (rAt (mAt ms (q.run - 1).toNat).t.slots (q.b).toNat).wr, vb (rAt (mAt ms (q.run - 1).toNat).t.slots (q.b).toNat).wk]) Yx Z Z (Yr (Own.range Q7 (ep.grown0 lk) (xr (mAt ms (q.run - 1).toNat).t.slots (q.b).toNat)) 0 5 Z) Z k) ?_))))))))))
 exact Y5
 intro s6 cg
 refine Xz Ka Z Z dv (Nat.zero_add _) (by omega) (by omega) Z ?_
 have gi := (er.grown0 cg)
 refine Je (g := Rt.cells) (z' := (rAt (mAt ms (q.run - 1).toNat).t.slots (q.b).toNat)) Yx Z Z (Vy _) Q7 gi (by omega) Z ?_
 intro s7 ky cv
 have gj := V9 (i := (r.th - 1).toNat) (j := (q.n % 4).toNat) (x := (rAt (mAt ms (q.run - 1).toNat).t.slots (q.b).toNat)) ((gh.grown0 cg).gn cv) (by omega)
 refine Xc (Y7 (Xu (Xa (Xb (v := .slice (pa B) ms.length cap) Z Z (Xd (o' := 0) Yz Z Z Z (Xh (v := vi r.th) X1 Z (((((bf.grown0 E.grw).gn G.grw).grown0 cg).gn cv).cell Z) Z (Ys (c := r.th - 1) Z Z (by omega) (by omega) (by omega) Z (Xp (vs := [vi (mAt ms (r.th - 1).toNat).t.kind, vi (mAt ms (r.th - 1).toNat).t.lab.s, vi (mAt ms (r.th - 1).toNat).t.lab.v, vi (mAt ms (r.th - 1).toNat).t.ve, vi (mAt ms (r.th - 1).toNat).t.num, .slice (mAt ms (r.th - 1).toNat).sa (mAt ms (r.th - 1).toNat).t.slots.length (mAt ms (r.th - 1).toNat).sc, .slice (mAt ms (r.th - 1).toNat).qa (mAt ms (r.th - 1).toNat).t.queue.length (mAt ms (r.th - 1).toNat).qc, vi (mAt ms (r.th - 1).toNat).t.to]) Y0 Z Z (((((V.blk.grown0 E.grw).gn G.grw).grown0 cg).gn cv).rangeL 0 8 Z) Z (Yb (o' := (r.th - 1).toNat * 8) Y2 Z Z (by omega) (by omega) (by omega) Z (Je (g := MTh.cells) (z' := putS (mAt ms (r.th - 1).toNat) (q.n % 4).toNat (rAt (mAt ms (q.run - 1).toNat).t.slots (q.b).toNat)) Y0 Z (congrArg (fun l : List Value => Value.agg l.toArray) Lf.symm) (Kv _) Yo gj (by (simp only [List.length_set, Yd]; omega)) Z ?_))))))))))
 intro s8 kz fy
 have kg := kz
 rw [Tf] at kg
 refine Xc (Xa (Xb (v := vi 0) Z Z (Xe (v := vi 0) Z Z (Xc (Xt ?_)))))
 have hf : far (tabT ms) q r = (tabT (putT ms (r.th - 1).toNat (q.n % 4).toNat (rAt (mAt ms (q.run - 1).toNat).t.slots (q.b).toNat)), 0) := Fj d0 rfl
 exact ⟨vi 0, Yp Z Z, putT ms (r.th - 1).toNat (q.n % 4).toNat (rAt (mAt ms (q.run - 1).toNat).t.slots (q.b).toNat), by rw [hf], by first | rfl | exact Yd | (simp only [List.length_set, Yd]), kg, (RowsO.own (RowsO.put (RowsO.low dp cg) (lq (r.th - 1).toNat ms.length) dv jv gi Z ky cv (by decide)) fy gj (by decide) (by decide)), by rw [hf], (KeepsI.own (KeepsI.own (KeepsI.low ac cg) cv gi (by decide) (by omega) (by omega)) fy gj (by decide) (by omega) (by omega))⟩
 have r1 := of_decide_eq_false d0
 refine Xa (X3 (q := decide (q.kind = 6)) Z Z Z Z (Xe (v := vb (decide (q.kind = 6))) Z Z (Xc (Xy Z (fun d1 => ?_) (fun d1 => ?_)))))
 have r2 := of_decide_eq_true d1
 refine Xq (Xa (Xd (o' := 6) Qt Z Z Z ?_))
 have d4 := ((V.blk.grown0 E.grw).gn G.grw)
 refine Xh (v := .slice (mAt ms (r.th - 1).toNat).qa (mAt ms (r.th - 1).toNat).t.queue.length (mAt ms (r.th - 1).toNat).qc) Js Z (d4.cell Z) Z (Yu (by kernel_rfl) Z Z (V5 (q := decide (3 ≤ ((mAt ms (r.th - 1).toNat).t.queue.length : Int))) Z Z Z Z (Xc (Xy Z (fun ff => ?_) (fun ff => ?_)))))
 have r3 := of_decide_eq_true ff
 refine Xa (Xe (v := vi (-4)) Z Z (Xc (Xt (Yk (Qi (Yk ?_))))))
 have hf : far (tabT ms) q r = (tabT (ms), (-4)) := B5 d1 (by omega)
 exact ⟨vi (-4), Yp Z Z, ms, by rw [hf], by first | rfl | exact Yd | (simp only [List.length_set, Yd]), ((ar.grown0 E.grw).gn G.grw), (RowsO.typB (RowsO.low (RowsO.typB (RowsO.low (RowsO.low (RowsO.low hR ae.grw) ab.grw) O.grw) V.grw O.blk (by decide) (by decide)) E.grw) G.grw E.blk (by decide) (by decide)), by rw [hf], ac⟩
 have r4 := of_decide_eq_false ff
 refine Xw (Xu (Qy (m := 7) [[], [], [1], [0, 1, 2], [], [4], [4, 5], [0, 1, 2, 3, 4, 5, 6], [0, 1, 2, 3, 4, 5, 6, 7], [0, 1, 2, 3, 4, 5, 6, 7, 8]] (fun S F w' => ∃ (af : Nat) (aw : Option Addr) (ad : Nat) (ah : Nat), fb.grownBy w' none ∧ F 0 = .slice (pa B) ms.length cap ∧ F 4 = pt dl 0 ∧ F 5 = pt fc 0 ∧ F 6 = vi 0 ∧ F 7 = pt dz 0 ∧ F 9 = vi 0 ∧ (S 0 = true → F 75 = .slice (pa af) 0 0 ∧ w.heap.size ≤ af ∧ (S 3 = false → Blk w' af 3 (([] : List Int).flatMap icell).toArray) ∧ B < af ∧ dl < af ∧ fc < af ∧ dz < af ∧ fd < af ∧ fb.heap.size ≤ af ∧ af < w'.heap.size) ∧ (S 3 = true → F 78 = .slice aw (mAt ms (r.th - 1).toNat).t.queue.length ad ∧ OwnN w.heap.size w' aw 3 1 ad (mAt ms (r.th - 1).toNat).t.queue.length ((mAt ms (r.th - 1).toNat).t.queue.flatMap icell)) ∧ (S 6 = true → F 81 = .slice (pa ah) 1 1 ∧ w.heap.size ≤ ah ∧ Blk w' ah 3 (([q.n] : List Int).flatMap icell).toArray ∧ B < ah ∧ dl < ah ∧ fc < ah ∧ dz < ah ∧ fd < ah ∧ fb.heap.size ≤ ah) ∧ Vals S F [(1, 76, pt dz 6), (2, 77, .slice (mAt ms (r.th - 1).toNat).qa (mAt ms (r.th - 1).toNat).t.queue.length (mAt ms (r.th - 1).toNat).qc), (4, 79, pt dl 4), (5, 80, vi q.n)] ∧ (S 0 = true → S 6 = true → af ≠ ah)) Yy (by kernel_rfl) ⟨0, none, 0, 0, X6 _, Z, Z, Z, Z, Z, Z, Yt, Yt, Yt, J3 _, Yt⟩ ?_ ?_))
 refine Xj (fun S F s9 hS hbef hcl hI => ?_) ?_
 obtain ⟨af, aw, ad, ah, bi, mg, mh, ml, mm, mn, mo, bp, cn, bz, hvs, J⟩ := hI
 refine Ya (ps := []) (e := 3) (cs := (([] : List Int).flatMap icell).toArray) X8 (fun _ => by kernel_rfl) Z ?_
 intro ma tc au
 have jx := Vs au (KeepsI.low ac bi)
 have ef := Xr au ((((ar.grown0 E.grw).gn G.grw).grown0 bi)).lt
 have c8 := Xr au ((ao.grown0 bi)).lt
 have db := Xr au ((((bf.grown0 E.grw).gn G.grw).grown0 bi)).lt
 have df := Xr au ((d4.grown0 bi)).lt
 have di := Xr au ((G.blk.grown0 bi)).lt
 exact Xc ⟨ma, aw, ad, ah, (low0 bi au.grw), mg, mh, ml, mm, mn, mo, fun _ => ⟨Z, jx, fun _ => au.blk, ef, c8, db, df, di, (nt bi.size (Nat.le_of_eq au.eq.symm)), (au.blk).lt⟩, X5 3 hS hcl Z, fun h => let ⟨ox, oy, oz, o0, o1, o3, o4, o5, o6⟩ := bz h; ⟨ox, oy, (oz).grown0 au.grw, o0, o1, o3, o4, o5, o6⟩, Vals.keep hvs Z, fun _ h => let ⟨t3, t4, o7, t5, t6, t7, t8, t9, ua⟩ := bz h; Nat.ne_of_gt (nl (o7).lt (Nat.le_of_eq au.eq.symm))⟩
 refine Xj (fun S F td hS hbef hcl hI => ?_) ?_
 obtain ⟨af, aw, ad, ah, ll, mp, mq, mr, mt, j5, mu, bp, cn, bz, hvs, J⟩ := hI
 exact Xd (o' := 6) Qt j5 Z Z (Xc ⟨af, aw, ad, ah, ll, mp, mq, mr, mt, j5, mu, bp, X5 3 hS hcl Z, bz, Vals.up 0 hvs Z Z Z, J⟩)
 refine Xj (fun S F te hS hbef hcl hI => ?_) ?_
 obtain ⟨af, aw, ad, ah, f8, mv, mw, my, mz, m3, m4, bp, cn, bz, hvs, J⟩ := hI
 exact Xh (v := .slice (mAt ms (r.th - 1).toNat).qa (mAt ms (r.th - 1).toNat).t.queue.length (mAt ms (r.th - 1).toNat).qc) Js (Vals.at 0 hvs Z (Xm 1 hbef Z)) ((d4.grown0 f8).cell Z) Z (Xc ⟨af, aw, ad, ah, f8, mv, mw, my, mz, m3, m4, bp, X5 3 hS hcl Z, bz, Vals.up 1 hvs Z Z Z, J⟩)
 refine Xj (fun S F oe hS hbef hcl hI => ?_) ?_
 obtain ⟨af, aw, ad, ah, ed, m5, m6, m7, m8, m9, na, bp, cn, bz, hvs, J⟩ := hI
 obtain ⟨nb, ex, d5, ee, cz, da, de, dh, ga, gb⟩ := bp (Xm 0 hbef rfl)
 have em := (RowsO.low (RowsO.typB (RowsO.low (RowsO.typB (RowsO.low (RowsO.low (RowsO.low hR ae.grw) ab.grw) O.grw) V.grw O.blk (by decide) (by decide)) E.grw) G.grw E.blk (by decide) (by decide)) ed)
 refine Jp (g := icell) (ys := ([])) (zs := (mAt ms (r.th - 1).toNat).t.queue) (lo := w.heap.size) V8 Z Yv (by omega) Kf nb (Vals.at 1 hvs Z (Xm 2 hbef Z)) (OwnN.of (Own.rows Yv (d5 hS) (by simp)) ex) (RowO.th (RowsO.at em (lq (r.th - 1).toNat ms.length))).2.1 (RowO.th (RowsO.at em (lq (r.th - 1).toNat ms.length))).2.2.2 (by first | omega | exact Nat.le_of_ble_eq_true rfl | (simp only [List.length_nil, List.length_cons, List.length_append, List.length_replicate]; omega) | (simp only [List.length_drop, List.length_nil]; omega)) (by omega) (KeepsI.low ac ed).size Z ?_
 intro mf ji og k3 ld q2
 have d9 : World.grownBy oe og (some af) := ld
 exact Xc ⟨af, mf, ji, ah, (low1 ed d9 (by omega)), m5, m6, m7, m8, m9, na, fun h => let ⟨o8, o9, uc, pb, pc, pd, pe, pf, pg, ph⟩ := bp h; ⟨o8, o9, fun h => J8 h, pb, pc, pd, pe, pf, pg, (nl ph d9.size)⟩, fun _ => ⟨Z, k3⟩, fun h => let ⟨pi, pj, pk, pl, pm, pn, po, pp, pq⟩ := bz h; ⟨pi, pj, (pk).grown d9 (Jy (J (Xm 0 hbef Z) h).symm), pl, pm, pn, po, pp, pq⟩, Vals.keep hvs Z, J⟩
 refine Xj (fun S F tf hS hbef hcl hI => ?_) ?_
 obtain ⟨af, aw, ad, ah, lm, nc, j6, nd, ne, nf, ng, bp, cn, bz, hvs, J⟩ := hI
 exact Xd (o' := 4) Jk j6 Z Z (Xc ⟨af, aw, ad, ah, lm, nc, j6, nd, ne, nf, ng, bp, cn, X5 6 hS hcl Z, Vals.up 2 hvs Z Z Z, J⟩)
 refine Xj (fun S F tg hS hbef hcl hI => ?_) ?_
 obtain ⟨af, aw, ad, ah, f9, nh, ni, nj, nk, nn, no, bp, cn, bz, hvs, J⟩ := hI
 exact Xh (v := vi q.n) X1 (Vals.at 2 hvs Z (Xm 4 hbef Z)) ((ao.grown0 f9).cell Z) Z (Xc ⟨af, aw, ad, ah, f9, nh, ni, nj, nk, nn, no, bp, cn, X5 6 hS hcl Z, Vals.up 3 hvs Z Z Z, J⟩)
 refine Xj (fun S F ti hS hbef hcl hI => ?_) ?_
 obtain ⟨af, aw, ad, ah, bj, np, nq, nr, nu, nv, nw, bp, cn, bz, hvs, J⟩ := hI
 refine Ya (ps := [(0, vi q.n)]) (e := 3) (cs := (([q.n] : List Int).flatMap icell).toArray) (Xn (Vals.at 3 hvs Z (Xm 5 hbef Z)) X8) (fun _ => by kernel_rfl) Z ?_
 intro mb tj ap
 have jy := Vs ap (KeepsI.low ac bj)
 have eg := Xr ap ((((ar.grown0 E.grw).gn G.grw).grown0 bj)).lt
 have c9 := Xr ap ((ao.grown0 bj)).lt
 have dc := Xr ap ((((bf.grown0 E.grw).gn G.grw).grown0 bj)).lt
 have dg := Xr ap ((d4.grown0 bj)).lt
 have dk := Xr ap ((G.blk.grown0 bj)).lt
 exact Xc ⟨af, aw, ad, mb, (low0 bj ap.grw), np, nq, nr, nu, nv, nw, fun h => let ⟨pr, pu, pv, pw, px, py, pz, p0, p8, p9⟩ := bp h; ⟨pr, pu, fun hn => (pv hn).grown0 ap.grw, pw, px, py, pz, p0, p8, (nl p9 ap.grw.size)⟩, fun h => let ⟨qb, qd⟩ := cn h; ⟨qb, (qd).grown0 ap.grw⟩, fun _ => ⟨Z, jy, ap.blk, eg, c9, dc, dg, dk, (nt bj.size (Nat.le_of_eq ap.eq.symm))⟩, Vals.keep hvs Z, fun h _ => let ⟨ud, ue, uf, ug, uh, uj, uk, ul, um, qe⟩ := bp h; Nat.ne_of_lt (nl (qe) (Nat.le_of_eq ap.eq.symm))⟩
 exact Q5
 intro S F tk hall hI
 obtain ⟨af, aw, ad, ah, cy, nx, rn, ny, ro, j7, nz, bp, cn, bz, hvs, J⟩ := hI
 have ft := KeepsI.low ac cy
 obtain ⟨rp, ex, d5, ee, cz, da, de, dh, ga, gb⟩ := bp (hall 0 (by decide))
 obtain ⟨n5, k0⟩ := cn (hall 3 (by decide))
 obtain ⟨n7, qz, gx, l0, g2, ig, it, i2, oc⟩ := bz (hall 6 (by decide))
 have jf := J (hall 0 (by decide)) (hall 6 (by decide))
 have ca := k0
 refine Jp (g := icell) (ys := (mAt ms (r.th - 1).toNat).t.queue) (zs := ([q.n] : List Int)) (lo := w.heap.size) V8 Z Yv (by omega) Kf n5 n7 ca (Jw Yv gx) (fun h => by cases h) (by first | omega | exact Nat.le_of_ble_eq_true rfl | (simp only [List.length_nil, List.length_cons, List.length_append, List.length_replicate]; omega)) (by omega) (by first | exact ft.size | omega) Z ?_
 intro cl bb tl k4 cw q3
 refine Xd (o' := 6) Qt j7 Z Z ?_
 have gk := (Blk.typN (d4.grown0 cy) ca cw (by decide))
 refine Yg (v := .slice cl ((mAt ms (r.th - 1).toNat).t.queue ++ ([q.n] : List Int)).length bb) (cs' := #[vi (mAt ms (r.th - 1).toNat).t.kind, vi (mAt ms (r.th - 1).toNat).t.lab.s, vi (mAt ms (r.th - 1).toNat).t.lab.v, vi (mAt ms (r.th - 1).toNat).t.ve, vi (mAt ms (r.th - 1).toNat).t.num, .slice (mAt ms (r.th - 1).toNat).sa (mAt ms (r.th - 1).toNat).t.slots.length (mAt ms (r.th - 1).toNat).sc, .slice cl ((mAt ms (r.th - 1).toNat).t.queue ++ ([q.n] : List Int)).length bb, vi (mAt ms (r.th - 1).toNat).t.to]) Js Z Z Z gk (Nat.le_of_ble_eq_true Z) Z ?_
 intro tn cd
 refine Xc (Y7 (Xu (Xa (Xb (v := .slice (pa B) ms.length cap) nx Z (Xd (o' := 0) Yz ny Z Z (Xh (v := vi r.th) X1 Z (((Blk.typN (((bf.grown0 E.grw).gn G.grw).grown0 cy) ca cw (by decide)).gn cd.grw).cell Z) Z (Ys (c := r.th - 1) Z Z (by omega) (by omega) (by omega) Z (Xp (vs := [vi (mAt ms (r.th - 1).toNat).t.kind, vi (mAt ms (r.th - 1).toNat).t.lab.s, vi (mAt ms (r.th - 1).toNat).t.lab.v, vi (mAt ms (r.th - 1).toNat).t.ve, vi (mAt ms (r.th - 1).toNat).t.num, .slice (mAt ms (r.th - 1).toNat).sa (mAt ms (r.th - 1).toNat).t.slots.length (mAt ms (r.th - 1).toNat).sc, .slice cl ((mAt ms (r.th - 1).toNat).t.queue ++ ([q.n] : List Int)).length bb, vi (mAt ms (r.th - 1).toNat).t.to]) Y0 j7 Z (cd.blk.rangeL 0 8 Z) Z (Yb (o' := (r.th - 1).toNat * 8) Y2 Z Z (by omega) (by omega) (by omega) Z ?_)))))))))
 have ez := ((Own.typN (((ar.grown0 E.grw).gn G.grw).grown0 cy) ca cw (by decide)).gn cd.grw)
 refine Je (g := MTh.cells) (z' := (⟨⟨(mAt ms (r.th - 1).toNat).t.kind, (mAt ms (r.th - 1).toNat).t.lab, (mAt ms (r.th - 1).toNat).t.ve, (mAt ms (r.th - 1).toNat).t.num, (mAt ms (r.th - 1).toNat).t.slots, (mAt ms (r.th - 1).toNat).t.queue ++ ([q.n] : List Int), (mAt ms (r.th - 1).toNat).t.to⟩, (mAt ms (r.th - 1).toNat).sa, (mAt ms (r.th - 1).toNat).sc, cl, bb⟩ : MTh)) Y0 Z Z (Kv _) Yo ez (by omega) Z ?_
 intro oh k5 ea
 have jk : RowsO 42 3 lo oh (ms.set (r.th - 1).toNat (⟨⟨(mAt ms (r.th - 1).toNat).t.kind, (mAt ms (r.th - 1).toNat).t.lab, (mAt ms (r.th - 1).toNat).t.ve, (mAt ms (r.th - 1).toNat).t.num, (mAt ms (r.th - 1).toNat).t.slots, (mAt ms (r.th - 1).toNat).t.queue ++ ([q.n] : List Int), (mAt ms (r.th - 1).toNat).t.to⟩, (mAt ms (r.th - 1).toNat).sa, (mAt ms (r.th - 1).toNat).sc, cl, bb⟩ : MTh)) := RowsO.setq (RowsO.own (RowsO.typB (RowsO.newN (RowsO.low (RowsO.typB (RowsO.low (RowsO.typB (RowsO.low (RowsO.low (RowsO.low hR ae.grw) ab.grw) O.grw) V.grw O.blk (by decide) (by decide)) E.grw) G.grw E.blk (by decide) (by decide)) cy) ca cw hH (by omega)) cd.grw gk (by decide) (by decide)) ea ez (by decide) (by decide)) (lq (r.th - 1).toNat ms.length) (OwnN.mono (OwnN.typ (OwnN.typB k4 cd.grw gk (by decide)) ea ez (by decide)) hlow) ⟨rfl, rfl, rfl⟩
 refine Xc (Xa (Xb (v := vi 0) nz Z (Xe (v := vi 0) Z Z (Xc (Xt ?_)))))
 have hf : far (tabT ms) q r = (tabT (ms.set (r.th - 1).toNat (⟨⟨(mAt ms (r.th - 1).toNat).t.kind, (mAt ms (r.th - 1).toNat).t.lab, (mAt ms (r.th - 1).toNat).t.ve, (mAt ms (r.th - 1).toNat).t.num, (mAt ms (r.th - 1).toNat).t.slots, (mAt ms (r.th - 1).toNat).t.queue ++ ([q.n] : List Int), (mAt ms (r.th - 1).toNat).t.to⟩, (mAt ms (r.th - 1).toNat).sa, (mAt ms (r.th - 1).toNat).sc, cl, bb⟩ : MTh)), 0) := Tz d1 (by omega) rfl
 exact ⟨vi 0, Yp Z Z, ms.set (r.th - 1).toNat (⟨⟨(mAt ms (r.th - 1).toNat).t.kind, (mAt ms (r.th - 1).toNat).t.lab, (mAt ms (r.th - 1).toNat).t.ve, (mAt ms (r.th - 1).toNat).t.num, (mAt ms (r.th - 1).toNat).t.slots, (mAt ms (r.th - 1).toNat).t.queue ++ ([q.n] : List Int), (mAt ms (r.th - 1).toNat).t.to⟩, (mAt ms (r.th - 1).toNat).sa, (mAt ms (r.th - 1).toNat).sc, cl, bb⟩ : MTh), by rw [hf], by first | rfl | exact Yd | (simp only [List.length_set, Yd]), k5, jk, by rw [hf], (KeepsI.own (KeepsI.new (KeepsI.newN ft ca cw (by omega)) cd.grw (by omega)) ea ez (by decide) (by omega) (by omega))⟩
 have r5 := of_decide_eq_false d1
 refine Xa (X3 (q := decide (q.kind = 7)) Z Z Z Z (Xe (v := vb (decide (q.kind = 7))) Z Z (Xc (Xy Z (fun d2 => ?_) (fun d2 => ?_)))))
 have r6 := of_decide_eq_true d2
 refine Xq (Xa (Xd (o' := 6) Qt Z Z Z ?_))
 have e0 := ((V.blk.grown0 E.grw).gn G.grw)
 refine Xh (v := .slice (mAt ms (r.th - 1).toNat).qa (mAt ms (r.th - 1).toNat).t.queue.length (mAt ms (r.th - 1).toNat).qc) Js Z (e0.cell Z) Z (Yu (by kernel_rfl) Z Z (X3 (q := decide (((mAt ms (r.th - 1).toNat).t.queue.length : Int) = 0)) Z Z Z Z (Xc (Xy Z (fun fg => ?_) (fun fg => ?_)))))
 have r7 := of_decide_eq_true fg
 refine Xa (Xe (v := vi (-4)) Z Z (Xc (Xt (Yk (Qi (Yk ?_))))))
 have hf : far (tabT ms) q r = (tabT (ms), (-4)) := B6 d2 (by omega)
 exact ⟨vi (-4), Yp Z Z, ms, by rw [hf], by first | rfl | exact Yd | (simp only [List.length_set, Yd]), ((ar.grown0 E.grw).gn G.grw), (RowsO.typB (RowsO.low (RowsO.typB (RowsO.low (RowsO.low (RowsO.low hR ae.grw) ab.grw) O.grw) V.grw O.blk (by decide) (by decide)) E.grw) G.grw E.blk (by decide) (by decide)), by rw [hf], ac⟩
 have r8 := of_decide_eq_false fg
 refine Xw (Xu (Xa (Xd (o' := 6) Qt Z Z Z (Xh (v := .slice (mAt ms (r.th - 1).toNat).qa (mAt ms (r.th - 1).toNat).t.queue.length (mAt ms (r.th - 1).toNat).qc) Js Z (e0.cell Z) Z ?_))))
 have eo := (RowsO.typB (RowsO.low (RowsO.typB (RowsO.low (RowsO.low (RowsO.low hR ae.grw) ab.grw) O.grw) V.grw O.blk (by decide) (by decide)) E.grw) G.grw E.blk (by decide) (by decide))
 obtain ⟨rm, sp, so, lc, ln, lp⟩ := SlAt.at (RowO.th (RowsO.at eo (lq (r.th - 1).toNat ms.length))).2.1 (Yi (Ve (lq 0 (mAt ms (r.th - 1).toNat).t.queue.length)))
 refine Xz J6 Z Z lc ln (by omega) (by omega) Z (Xh (v := vi (iAt (mAt ms (r.th - 1).toNat).t.queue 0)) X1 Z (lp 0 _ Z) Z (Xe (v := vi (iAt (mAt ms (r.th - 1).toNat).t.queue 0)) Z Z (Xc (X2 (Ya (ps := []) (e := 3) (cs := (([] : List Int).flatMap icell).toArray) X8 (fun _ => by kernel_rfl) Z ?_)))))
 intro mc ol av
 have jz := Vs av ac
 have kh := ((ar.grown0 E.grw).gn G.grw)
 have l3 := Xr av (kh).lt
 have g3 := Xr av (ao).lt
 have ki := ((bf.grown0 E.grw).gn G.grw)
 have ii := Xr av (ki).lt
 have iu := Xr av (e0).lt
 have i3 := Xr av (G.blk).lt
 have fu := KeepsI.low ac av.grw
 refine Xd (o' := 6) Qt Z Z Z ?_
 have kj := (e0.grown0 av.grw)
 refine Xh (v := .slice (mAt ms (r.th - 1).toNat).qa (mAt ms (r.th - 1).toNat).t.queue.length (mAt ms (r.th - 1).toNat).qc) Js Z (kj.cell Z) Z ?_
 have dq := (RowsO.low eo av.grw)
 refine Dy (g := icell) (xs := (mAt ms (r.th - 1).toNat).t.queue) (e := 3) (sz := 1) (by kernel_rfl) (by kernel_rfl) Z Z Z (by omega) (Ew (RowsO.at dq (lq (r.th - 1).toNat ms.length)).q) (RowO.th (RowsO.at dq (lq (r.th - 1).toNat ms.length))).2.1 Z ?_
 intro rl lu
 refine Jp (g := icell) (ys := ([])) (zs := ((mAt ms (r.th - 1).toNat).t.queue.drop 1)) (lo := w.heap.size) V8 Z Yv (by omega) Kf Z Z (OwnN.of (Own.rows Yv av.blk (by simp)) jz) (SlAt.low lu (World.grownBy.refl _ _)) (fun h => by cases h) (by first | omega | exact Nat.le_of_ble_eq_true rfl | (simp only [List.length_nil, List.length_cons, List.length_append, List.length_replicate]; omega) | (simp only [List.length_drop, List.length_nil]; omega)) (by omega) fu.size Z ?_
 intro cm bc om k6 le q4
 have cx : World.grownBy ol om (some mc) := le
 refine Xd (o' := 6) Qt Z Z Z ?_
 have gl := (kj.gn cx)
 refine Yg (v := .slice cm ((mAt ms (r.th - 1).toNat).t.queue.drop 1).length bc) (cs' := #[vi (mAt ms (r.th - 1).toNat).t.kind, vi (mAt ms (r.th - 1).toNat).t.lab.s, vi (mAt ms (r.th - 1).toNat).t.lab.v, vi (mAt ms (r.th - 1).toNat).t.ve, vi (mAt ms (r.th - 1).toNat).t.num, .slice (mAt ms (r.th - 1).toNat).sa (mAt ms (r.th - 1).toNat).t.slots.length (mAt ms (r.th - 1).toNat).sc, .slice cm ((mAt ms (r.th - 1).toNat).t.queue.drop 1).length bc, vi (mAt ms (r.th - 1).toNat).t.to]) Js Z Z Z gl (Nat.le_of_ble_eq_true Z) Z ?_
 intro tp ce
 refine Xc (Y7 (Xu (Xa (Xb (v := .slice (pa B) ms.length cap) Z Z (Xd (o' := 0) Yz Z Z Z (Xh (v := vi r.th) X1 Z ((((ki.grown0 av.grw).gn cx).gn ce.grw).cell Z) Z (Ys (c := r.th - 1) Z Z (by omega) (by omega) (by omega) Z (Xp (vs := [vi (mAt ms (r.th - 1).toNat).t.kind, vi (mAt ms (r.th - 1).toNat).t.lab.s, vi (mAt ms (r.th - 1).toNat).t.lab.v, vi (mAt ms (r.th - 1).toNat).t.ve, vi (mAt ms (r.th - 1).toNat).t.num, .slice (mAt ms (r.th - 1).toNat).sa (mAt ms (r.th - 1).toNat).t.slots.length (mAt ms (r.th - 1).toNat).sc, .slice cm ((mAt ms (r.th - 1).toNat).t.queue.drop 1).length bc, vi (mAt ms (r.th - 1).toNat).t.to]) Y0 Z Z (ce.blk.rangeL 0 8 Z) Z (Yb (o' := (r.th - 1).toNat * 8) Y2 Z Z (by omega) (by omega) (by omega) Z ?_)))))))))
 have fa := (((kh.grown0 av.grw).gn cx).gn ce.grw)
 refine Je (g := MTh.cells) (z' := (⟨⟨(mAt ms (r.th - 1).toNat).t.kind, (mAt ms (r.th - 1).toNat).t.lab, (mAt ms (r.th - 1).toNat).t.ve, (mAt ms (r.th - 1).toNat).t.num, (mAt ms (r.th - 1).toNat).t.slots, (mAt ms (r.th - 1).toNat).t.queue.drop 1, (mAt ms (r.th - 1).toNat).t.to⟩, (mAt ms (r.th - 1).toNat).sa, (mAt ms (r.th - 1).toNat).sc, cm, bc⟩ : MTh)) Y0 Z Z (Kv _) Yo fa (by omega) Z ?_
 intro oo k7 eb
 have jl : RowsO 42 3 lo oo (ms.set (r.th - 1).toNat (⟨⟨(mAt ms (r.th - 1).toNat).t.kind, (mAt ms (r.th - 1).toNat).t.lab, (mAt ms (r.th - 1).toNat).t.ve, (mAt ms (r.th - 1).toNat).t.num, (mAt ms (r.th - 1).toNat).t.slots, (mAt ms (r.th - 1).toNat).t.queue.drop 1, (mAt ms (r.th - 1).toNat).t.to⟩, (mAt ms (r.th - 1).toNat).sa, (mAt ms (r.th - 1).toNat).sc, cm, bc⟩ : MTh)) := RowsO.setq (RowsO.own (RowsO.typB (RowsO.ge dq cx hH (by omega)) ce.grw gl (by decide) (by decide)) eb fa (by decide) (by decide)) (lq (r.th - 1).toNat ms.length) (OwnN.mono (OwnN.typ (OwnN.typB k6 ce.grw gl (by decide)) eb fa (by decide)) hlow) ⟨rfl, rfl, rfl⟩
 refine Xc (Xa (Xb (v := vi (iAt (mAt ms (r.th - 1).toNat).t.queue 0)) Z Z (Xe (v := vi (iAt (mAt ms (r.th - 1).toNat).t.queue 0)) Z Z (Xc (Xt ?_)))))
 have hf : far (tabT ms) q r = (tabT (ms.set (r.th - 1).toNat (⟨⟨(mAt ms (r.th - 1).toNat).t.kind, (mAt ms (r.th - 1).toNat).t.lab, (mAt ms (r.th - 1).toNat).t.ve, (mAt ms (r.th - 1).toNat).t.num, (mAt ms (r.th - 1).toNat).t.slots, (mAt ms (r.th - 1).toNat).t.queue.drop 1, (mAt ms (r.th - 1).toNat).t.to⟩, (mAt ms (r.th - 1).toNat).sa, (mAt ms (r.th - 1).toNat).sc, cm, bc⟩ : MTh)), (iAt (mAt ms (r.th - 1).toNat).t.queue 0)) := T0 d2 (by omega) rfl
 exact ⟨vi (iAt (mAt ms (r.th - 1).toNat).t.queue 0), Yp Z Z, ms.set (r.th - 1).toNat (⟨⟨(mAt ms (r.th - 1).toNat).t.kind, (mAt ms (r.th - 1).toNat).t.lab, (mAt ms (r.th - 1).toNat).t.ve, (mAt ms (r.th - 1).toNat).t.num, (mAt ms (r.th - 1).toNat).t.slots, (mAt ms (r.th - 1).toNat).t.queue.drop 1, (mAt ms (r.th - 1).toNat).t.to⟩, (mAt ms (r.th - 1).toNat).sa, (mAt ms (r.th - 1).toNat).sc, cm, bc⟩ : MTh), by rw [hf], by first | rfl | exact Yd | (simp only [List.length_set, Yd]), k7, jl, by rw [hf], (KeepsI.own (KeepsI.new (KeepsI.new fu cx (by omega)) ce.grw (by omega)) eb fa (by decide) (by omega) (by omega))⟩
 have r9 := of_decide_eq_false d2
 refine Xa (X3 (q := decide (q.kind = 8)) Z Z Z Z (Xe (v := vb (decide (q.kind = 8))) Z Z (Xc (Xy Z (fun co => ?_) (fun co => ?_)))))
 have q9 := of_decide_eq_true co
 have jw := T8 hrow (by omega)
 have sb := of_decide_eq_true co
 refine Xq (Xa (Xd (o' := 3) Jl Z Z Z ?_))
 have bq := ((V.blk.grown0 E.grw).gn G.grw)
 refine Xh (v := vi (mAt ms (r.th - 1).toNat).t.ve) X1 Z (bq.cell Z) Z (V5 (q := decide (5 ≤ (mAt ms (r.th - 1).toNat).t.ve)) Z Z Z Z (Xc (Xy Z (fun fh => ?_) (fun fh => ?_))))
 have sd := of_decide_eq_true fh
 refine Xa (Xe (v := vi (-4)) Z Z (Xc (Xt (Yk (Qi (Yk ?_))))))
 have hf : far (tabT ms) q r = (tabT (ms), (-4)) := S2 co (by omega)
 exact ⟨vi (-4), Yp Z Z, ms, by rw [hf], by first | rfl | exact Yd | (simp only [List.length_set, Yd]), ((ar.grown0 E.grw).gn G.grw), (RowsO.typB (RowsO.low (RowsO.typB (RowsO.low (RowsO.low (RowsO.low hR ae.grw) ab.grw) O.grw) V.grw O.blk (by decide) (by decide)) E.grw) G.grw E.blk (by decide) (by decide)), by rw [hf], ac⟩
 have se := of_decide_eq_false fh
 refine Xw (Xu (Xa (Xd (o' := 0) Y9 Z Z Z (Xh (v := vi (mAt ms (r.th - 1).toNat).t.kind) X1 Z (bq.cell Z) Z (Xd (o' := 1) Kd Z Z Z (Xp (vs := [vi (mAt ms (r.th - 1).toNat).t.lab.s, vi (mAt ms (r.th - 1).toNat).t.lab.v]) Kb Z Z (bq.rangeL 1 2 Z) Z (Xd (o' := 7) Kk Z Z Z (Xh (v := vi (mAt ms (r.th - 1).toNat).t.to) X1 Z (bq.cell Z) Z ?_))))))))
 rcases Yf ((decide ((mAt ms (r.th - 1).toNat).t.kind = 2)) || (decide ((mAt ms (r.th - 1).toNat).t.kind = 3))) with bx | bx
 have gm := ((ar.grown0 E.grw).gn G.grw)
 have gp := ((bf.grown0 E.grw).gn G.grw)
 have sf : thingOk (⟨(mAt ms (r.th - 1).toNat).t.kind, (mAt ms (r.th - 1).toNat).t.lab, 0, 0, zeros4, [], (mAt ms (r.th - 1).toNat).t.to⟩ : Th) = true := (Wt bx).symm.trans jw
 refine Xl Gq (Xg Z (Xg Z (Xg Z Xk))) Z (Ha (mAt ms (r.th - 1).toNat).t.kind (mAt ms (r.th - 1).toNat).t.to (mAt ms (r.th - 1).toNat).t.lab bx jw _) ?_
 rintro _ tq ⟨az, ak, a8, al, rfl, bk, fi, bl, fj, jg, bv⟩
 have fv := KeepsI.low ac bv
 have j1 := nt ac.size bk
 have l4 := nl (gm).lt bk
 have g5 := nl (ao).lt bk
 have ij := nl (gp).lt bk
 have iv := nl (bq).lt bk
 have i4 := nl (G.blk).lt bk
 have j2 := nt ac.size bl
 have l5 := nl (gm).lt bl
 have g6 := nl (ao).lt bl
 have ik := nl (gp).lt bl
 have iw := nl (bq).lt bl
 have i5 := nl (G.blk).lt bl
 refine Xb (v := .tuple #[.agg #[vi (mAt ms (r.th - 1).toNat).t.kind, vi (mAt ms (r.th - 1).toNat).t.lab.s, vi (mAt ms (r.th - 1).toNat).t.lab.v, vi 0, vi 0, .slice (pa az) 4 ak, .slice (pa a8) 0 al, vi (mAt ms (r.th - 1).toNat).t.to], vb true]) Z Z (X4 (v := .agg #[vi (mAt ms (r.th - 1).toNat).t.kind, vi (mAt ms (r.th - 1).toNat).t.lab.s, vi (mAt ms (r.th - 1).toNat).t.lab.v, vi 0, vi 0, .slice (pa az) 4 ak, .slice (pa a8) 0 al, vi (mAt ms (r.th - 1).toNat).t.to]) Z Z Z (X4 (v := vb true) Z Z Z (Ye (cs := #[vi 0, vi 0, vi 0, vi 0, vi 0, .slice none 0 0, .slice none 0 0, vi 0]) Kw Z Z ?_)))
 intro rf tr ai
 have q0 := Vs ai fv
 have kk := (gm.grown0 bv)
 have l6 := Xr ai (kk).lt
 have g7 := Xr ai ((ao.grown0 bv)).lt
 have kl := (gp.grown0 bv)
 have il := Xr ai (kl).lt
 have km := (bq.grown0 bv)
 have ix := Xr ai (km).lt
 have i6 := Xr ai ((G.blk.grown0 bv)).lt
 have jb := Xr ai (fj).lt
 have ja := Xr ai (fi).lt
 refine X0 (vs := [vi (mAt ms (r.th - 1).toNat).t.kind, vi (mAt ms (r.th - 1).toNat).t.lab.s, vi (mAt ms (r.th - 1).toNat).t.lab.v, vi 0, vi 0, .slice (pa az) 4 ak, .slice (pa a8) 0 al, vi (mAt ms (r.th - 1).toNat).t.to]) (cs' := #[vi (mAt ms (r.th - 1).toNat).t.kind, vi (mAt ms (r.th - 1).toNat).t.lab.s, vi (mAt ms (r.th - 1).toNat).t.lab.v, vi 0, vi 0, .slice (pa az) 4 ak, .slice (pa a8) 0 al, vi (mAt ms (r.th - 1).toNat).t.to]) Y0 Z Z Z (by simp [Value.oneCell']) ai.blk (Nat.le_of_ble_eq_true Z) Z ?_
 intro tt bd
 refine Xe (v := vb true) Z Z (Xc (Xa (Xd (o' := 3) Jl Z Z Z ?_)))
 have kn := ((km.grown0 ai.grw).gn bd.grw)
 refine Xh (v := vi (mAt ms (r.th - 1).toNat).t.ve) X1 Z (kn.cell Z) Z (Yn (c := (mAt ms (r.th - 1).toNat).t.ve + 1) Z Z (by omega) (by omega) (by omega) Z (Xd (o' := 3) Jl Z Z Z (Yg (v := vi ((mAt ms (r.th - 1).toNat).t.ve + 1)) (cs' := #[vi (mAt ms (r.th - 1).toNat).t.kind, vi (mAt ms (r.th - 1).toNat).t.lab.s, vi (mAt ms (r.th - 1).toNat).t.lab.v, vi ((mAt ms (r.th - 1).toNat).t.ve + 1), vi 0, .slice (pa az) 4 ak, .slice (pa a8) 0 al, vi (mAt ms (r.th - 1).toNat).t.to]) X1 Z Z Z bd.blk (Nat.le_of_ble_eq_true Z) Z ?_)))
 intro tu bg
 refine Xc (X2 (Xp (vs := [vi (mAt ms (r.th - 1).toNat).t.kind, vi (mAt ms (r.th - 1).toNat).t.lab.s, vi (mAt ms (r.th - 1).toNat).t.lab.v, vi ((mAt ms (r.th - 1).toNat).t.ve + 1), vi 0, .slice (pa az) 4 ak, .slice (pa a8) 0 al, vi (mAt ms (r.th - 1).toNat).t.to]) Y0 Z Z (bg.blk.rangeL 0 8 Z) Z ?_))
 have ko := (kn.gn bg.grw)
 refine X0 (vs := [vi (mAt ms (r.th - 1).toNat).t.kind, vi (mAt ms (r.th - 1).toNat).t.lab.s, vi (mAt ms (r.th - 1).toNat).t.lab.v, vi ((mAt ms (r.th - 1).toNat).t.ve + 1), vi 0, .slice (pa az) 4 ak, .slice (pa a8) 0 al, vi (mAt ms (r.th - 1).toNat).t.to]) (cs' := #[vi (mAt ms (r.th - 1).toNat).t.kind, vi (mAt ms (r.th - 1).toNat).t.lab.s, vi (mAt ms (r.th - 1).toNat).t.lab.v, vi ((mAt ms (r.th - 1).toNat).t.ve + 1), vi 0, .slice (pa az) 4 ak, .slice (pa a8) 0 al, vi (mAt ms (r.th - 1).toNat).t.to]) Y0 Z Z Z (by simp [Value.oneCell']) ko (Nat.le_of_ble_eq_true Z) Z ?_
 intro tv br
 refine Xc (Y7 (Xu (Xa (Xb (v := .slice (pa B) ms.length cap) Z Z (Xd (o' := 0) Yz Z Z Z (Xh (v := vi r.th) X1 Z (((((kl.grown0 ai.grw).gn bd.grw).gn bg.grw).gn br.grw).cell Z) Z (Ys (c := r.th - 1) Z Z (by omega) (by omega) (by omega) Z (Xp (vs := [vi (mAt ms (r.th - 1).toNat).t.kind, vi (mAt ms (r.th - 1).toNat).t.lab.s, vi (mAt ms (r.th - 1).toNat).t.lab.v, vi ((mAt ms (r.th - 1).toNat).t.ve + 1), vi 0, .slice (pa az) 4 ak, .slice (pa a8) 0 al, vi (mAt ms (r.th - 1).toNat).t.to]) Y0 Z Z (br.blk.rangeL 0 8 Z) Z (Yb (o' := (r.th - 1).toNat * 8) Y2 Z Z (by omega) (by omega) (by omega) Z ?_)))))))))
 have gq := ((((kk.grown0 ai.grw).gn bd.grw).gn bg.grw).gn br.grw)
 have jm := (RowsO.typB (RowsO.typB (RowsO.typB (RowsO.low (RowsO.low (RowsO.typB (RowsO.low (RowsO.typB (RowsO.low (RowsO.low (RowsO.low hR ae.grw) ab.grw) O.grw) V.grw O.blk (by decide) (by decide)) E.grw) G.grw E.blk (by decide) (by decide)) bv) ai.grw) bd.grw ai.blk (by decide) (by decide)) bg.grw bd.blk (by decide) (by decide)) br.grw ko (by decide) (by decide))
 refine Je (g := MTh.cells) (z' := (⟨⟨(mAt ms (r.th - 1).toNat).t.kind, (mAt ms (r.th - 1).toNat).t.lab, (mAt ms (r.th - 1).toNat).t.ve + 1, 0, zeros4, [], (mAt ms (r.th - 1).toNat).t.to⟩, some ⟨az, 0, none⟩, ak, some ⟨a8, 0, none⟩, al⟩ : MTh)) Y0 Z Z (Kv _) Yo gq (by omega) Z ?_
 intro oq k8 dw
 have jo : RowsO 42 3 lo oq (ms.set (r.th - 1).toNat (⟨⟨(mAt ms (r.th - 1).toNat).t.kind, (mAt ms (r.th - 1).toNat).t.lab, (mAt ms (r.th - 1).toNat).t.ve + 1, 0, zeros4, [], (mAt ms (r.th - 1).toNat).t.to⟩, some ⟨az, 0, none⟩, ak, some ⟨a8, 0, none⟩, al⟩ : MTh)) := RowsO.setn (RowsO.own jm dw gq (by decide) (by decide)) (lq (r.th - 1).toNat ms.length) ⟨(OwnN.mono (OwnN.of (((((fi.grown0 ai.grw).gn bd.grw).gn bg.grw).gn br.grw).gn dw) j1) hlow), (OwnN.mono (OwnN.of (((((fj.grown0 ai.grw).gn bd.grw).gn bg.grw).gn br.grw).gn dw) j2) hlow)⟩ hH (fun S e => by first | (cases e; done) | (simp only [Option.some.injEq, Addr.mk.injEq, and_true, reduceCtorEq] at e; omega))
 refine Xc (Xa (Xb (v := vi 0) Z Z (Xe (v := vi 0) Z Z (Xc (Xt ?_)))))
 have hf : far (tabT ms) q r = (tabT (ms.set (r.th - 1).toNat (⟨⟨(mAt ms (r.th - 1).toNat).t.kind, (mAt ms (r.th - 1).toNat).t.lab, (mAt ms (r.th - 1).toNat).t.ve + 1, 0, zeros4, [], (mAt ms (r.th - 1).toNat).t.to⟩, some ⟨az, 0, none⟩, ak, some ⟨a8, 0, none⟩, al⟩ : MTh)), 0) := T1 co (by omega) (Nv bx)
 exact ⟨vi 0, Yp Z Z, ms.set (r.th - 1).toNat (⟨⟨(mAt ms (r.th - 1).toNat).t.kind, (mAt ms (r.th - 1).toNat).t.lab, (mAt ms (r.th - 1).toNat).t.ve + 1, 0, zeros4, [], (mAt ms (r.th - 1).toNat).t.to⟩, some ⟨az, 0, none⟩, ak, some ⟨a8, 0, none⟩, al⟩ : MTh), by rw [hf], by first | rfl | exact Yd | (simp only [List.length_set, Yd]), k8, jo, by rw [hf], (KeepsI.own (KeepsI.new (KeepsI.new (KeepsI.new (KeepsI.low fv ai.grw) bd.grw (by omega)) bg.grw (by omega)) br.grw (by omega)) dw gq (by decide) (by omega) (by omega))⟩
 have n9 := Kq bx
 have sg := of_decide_eq_false n9
 have oa := Kr bx
 have sh := of_decide_eq_false oa
 have gr := ((ar.grown0 E.grw).gn G.grw)
 have gt := ((bf.grown0 E.grw).gn G.grw)
 have si : thingOk (⟨(mAt ms (r.th - 1).toNat).t.kind, (mAt ms (r.th - 1).toNat).t.lab, 0, 0, [], [], (mAt ms (r.th - 1).toNat).t.to⟩ : Th) = true := (Vx bx).symm.trans jw
 refine Xl Gq (Xg Z (Xg Z (Xg Z Xk))) Z (Vf (mAt ms (r.th - 1).toNat).t.kind (mAt ms (r.th - 1).toNat).t.to (mAt ms (r.th - 1).toNat).t.lab bx jw _) ?_
 rintro _ tw ⟨a9, am, ba, an, rfl, bm, fk, bn, fm, jh, bw⟩
 have fw := KeepsI.low ac bw
 have j3 := nt ac.size bm
 have l7 := nl (gr).lt bm
 have g8 := nl (ao).lt bm
 have im := nl (gt).lt bm
 have iy := nl (bq).lt bm
 have i7 := nl (G.blk).lt bm
 have j4 := nt ac.size bn
 have l8 := nl (gr).lt bn
 have g9 := nl (ao).lt bn
 have io := nl (gt).lt bn
 have iz := nl (bq).lt bn
 have i8 := nl (G.blk).lt bn
 refine Xb (v := .tuple #[.agg #[vi (mAt ms (r.th - 1).toNat).t.kind, vi (mAt ms (r.th - 1).toNat).t.lab.s, vi (mAt ms (r.th - 1).toNat).t.lab.v, vi 0, vi 0, .slice (pa a9) 0 am, .slice (pa ba) 0 an, vi (mAt ms (r.th - 1).toNat).t.to], vb true]) Z Z (X4 (v := .agg #[vi (mAt ms (r.th - 1).toNat).t.kind, vi (mAt ms (r.th - 1).toNat).t.lab.s, vi (mAt ms (r.th - 1).toNat).t.lab.v, vi 0, vi 0, .slice (pa a9) 0 am, .slice (pa ba) 0 an, vi (mAt ms (r.th - 1).toNat).t.to]) Z Z Z (X4 (v := vb true) Z Z Z (Ye (cs := #[vi 0, vi 0, vi 0, vi 0, vi 0, .slice none 0 0, .slice none 0 0, vi 0]) Kw Z Z ?_)))
 intro rg tx aj
 have q1 := Vs aj fw
 have kp := (gr.grown0 bw)
 have l9 := Xr aj (kp).lt
 have ia := Xr aj ((ao.grown0 bw)).lt
 have kq := (gt.grown0 bw)
 have ip := Xr aj (kq).lt
 have kr := (bq.grown0 bw)
 have i0 := Xr aj (kr).lt
 have i9 := Xr aj ((G.blk.grown0 bw)).lt
 have jd := Xr aj (fm).lt
 have jc := Xr aj (fk).lt
 refine X0 (vs := [vi (mAt ms (r.th - 1).toNat).t.kind, vi (mAt ms (r.th - 1).toNat).t.lab.s, vi (mAt ms (r.th - 1).toNat).t.lab.v, vi 0, vi 0, .slice (pa a9) 0 am, .slice (pa ba) 0 an, vi (mAt ms (r.th - 1).toNat).t.to]) (cs' := #[vi (mAt ms (r.th - 1).toNat).t.kind, vi (mAt ms (r.th - 1).toNat).t.lab.s, vi (mAt ms (r.th - 1).toNat).t.lab.v, vi 0, vi 0, .slice (pa a9) 0 am, .slice (pa ba) 0 an, vi (mAt ms (r.th - 1).toNat).t.to]) Y0 Z Z Z (by simp [Value.oneCell']) aj.blk (Nat.le_of_ble_eq_true Z) Z ?_
 intro tz be
 refine Xe (v := vb true) Z Z (Xc (Xa (Xd (o' := 3) Jl Z Z Z ?_)))
 have ks := ((kr.grown0 aj.grw).gn be.grw)
 refine Xh (v := vi (mAt ms (r.th - 1).toNat).t.ve) X1 Z (ks.cell Z) Z (Yn (c := (mAt ms (r.th - 1).toNat).t.ve + 1) Z Z (by omega) (by omega) (by omega) Z (Xd (o' := 3) Jl Z Z Z (Yg (v := vi ((mAt ms (r.th - 1).toNat).t.ve + 1)) (cs' := #[vi (mAt ms (r.th - 1).toNat).t.kind, vi (mAt ms (r.th - 1).toNat).t.lab.s, vi (mAt ms (r.th - 1).toNat).t.lab.v, vi ((mAt ms (r.th - 1).toNat).t.ve + 1), vi 0, .slice (pa a9) 0 am, .slice (pa ba) 0 an, vi (mAt ms (r.th - 1).toNat).t.to]) X1 Z Z Z be.blk (Nat.le_of_ble_eq_true Z) Z ?_)))
 intro t0 bh
 refine Xc (X2 (Xp (vs := [vi (mAt ms (r.th - 1).toNat).t.kind, vi (mAt ms (r.th - 1).toNat).t.lab.s, vi (mAt ms (r.th - 1).toNat).t.lab.v, vi ((mAt ms (r.th - 1).toNat).t.ve + 1), vi 0, .slice (pa a9) 0 am, .slice (pa ba) 0 an, vi (mAt ms (r.th - 1).toNat).t.to]) Y0 Z Z (bh.blk.rangeL 0 8 Z) Z ?_))
 have kt := (ks.gn bh.grw)
 refine X0 (vs := [vi (mAt ms (r.th - 1).toNat).t.kind, vi (mAt ms (r.th - 1).toNat).t.lab.s, vi (mAt ms (r.th - 1).toNat).t.lab.v, vi ((mAt ms (r.th - 1).toNat).t.ve + 1), vi 0, .slice (pa a9) 0 am, .slice (pa ba) 0 an, vi (mAt ms (r.th - 1).toNat).t.to]) (cs' := #[vi (mAt ms (r.th - 1).toNat).t.kind, vi (mAt ms (r.th - 1).toNat).t.lab.s, vi (mAt ms (r.th - 1).toNat).t.lab.v, vi ((mAt ms (r.th - 1).toNat).t.ve + 1), vi 0, .slice (pa a9) 0 am, .slice (pa ba) 0 an, vi (mAt ms (r.th - 1).toNat).t.to]) Y0 Z Z Z (by simp [Value.oneCell']) kt (Nat.le_of_ble_eq_true Z) Z ?_
 intro t1 bt
 refine Xc (Y7 (Xu (Xa (Xb (v := .slice (pa B) ms.length cap) Z Z (Xd (o' := 0) Yz Z Z Z (Xh (v := vi r.th) X1 Z (((((kq.grown0 aj.grw).gn be.grw).gn bh.grw).gn bt.grw).cell Z) Z (Ys (c := r.th - 1) Z Z (by omega) (by omega) (by omega) Z (Xp (vs := [vi (mAt ms (r.th - 1).toNat).t.kind, vi (mAt ms (r.th - 1).toNat).t.lab.s, vi (mAt ms (r.th - 1).toNat).t.lab.v, vi ((mAt ms (r.th - 1).toNat).t.ve + 1), vi 0, .slice (pa a9) 0 am, .slice (pa ba) 0 an, vi (mAt ms (r.th - 1).toNat).t.to]) Y0 Z Z (bt.blk.rangeL 0 8 Z) Z (Yb (o' := (r.th - 1).toNat * 8) Y2 Z Z (by omega) (by omega) (by omega) Z ?_)))))))))
 have gu := ((((kp.grown0 aj.grw).gn be.grw).gn bh.grw).gn bt.grw)
 have jp := (RowsO.typB (RowsO.typB (RowsO.typB (RowsO.low (RowsO.low (RowsO.typB (RowsO.low (RowsO.typB (RowsO.low (RowsO.low (RowsO.low hR ae.grw) ab.grw) O.grw) V.grw O.blk (by decide) (by decide)) E.grw) G.grw E.blk (by decide) (by decide)) bw) aj.grw) be.grw aj.blk (by decide) (by decide)) bh.grw be.blk (by decide) (by decide)) bt.grw kt (by decide) (by decide))
 refine Je (g := MTh.cells) (z' := (⟨⟨(mAt ms (r.th - 1).toNat).t.kind, (mAt ms (r.th - 1).toNat).t.lab, (mAt ms (r.th - 1).toNat).t.ve + 1, 0, [], [], (mAt ms (r.th - 1).toNat).t.to⟩, some ⟨a9, 0, none⟩, am, some ⟨ba, 0, none⟩, an⟩ : MTh)) Y0 Z Z (Kv _) Yo gu (by omega) Z ?_
 intro ot k9 dx
 have jq : RowsO 42 3 lo ot (ms.set (r.th - 1).toNat (⟨⟨(mAt ms (r.th - 1).toNat).t.kind, (mAt ms (r.th - 1).toNat).t.lab, (mAt ms (r.th - 1).toNat).t.ve + 1, 0, [], [], (mAt ms (r.th - 1).toNat).t.to⟩, some ⟨a9, 0, none⟩, am, some ⟨ba, 0, none⟩, an⟩ : MTh)) := RowsO.setn (RowsO.own jp dx gu (by decide) (by decide)) (lq (r.th - 1).toNat ms.length) ⟨(OwnN.mono (OwnN.of (((((fk.grown0 aj.grw).gn be.grw).gn bh.grw).gn bt.grw).gn dx) j3) hlow), (OwnN.mono (OwnN.of (((((fm.grown0 aj.grw).gn be.grw).gn bh.grw).gn bt.grw).gn dx) j4) hlow)⟩ hH (fun S e => by first | (cases e; done) | (simp only [Option.some.injEq, Addr.mk.injEq, and_true, reduceCtorEq] at e; omega))
 refine Xc (Xa (Xb (v := vi 0) Z Z (Xe (v := vi 0) Z Z (Xc (Xt ?_)))))
 have hf : far (tabT ms) q r = (tabT (ms.set (r.th - 1).toNat (⟨⟨(mAt ms (r.th - 1).toNat).t.kind, (mAt ms (r.th - 1).toNat).t.lab, (mAt ms (r.th - 1).toNat).t.ve + 1, 0, [], [], (mAt ms (r.th - 1).toNat).t.to⟩, some ⟨a9, 0, none⟩, am, some ⟨ba, 0, none⟩, an⟩ : MTh)), 0) := T1 co (by omega) (Nu bx)
 exact ⟨vi 0, Yp Z Z, ms.set (r.th - 1).toNat (⟨⟨(mAt ms (r.th - 1).toNat).t.kind, (mAt ms (r.th - 1).toNat).t.lab, (mAt ms (r.th - 1).toNat).t.ve + 1, 0, [], [], (mAt ms (r.th - 1).toNat).t.to⟩, some ⟨a9, 0, none⟩, am, some ⟨ba, 0, none⟩, an⟩ : MTh), by rw [hf], by first | rfl | exact Yd | (simp only [List.length_set, Yd]), k9, jq, by rw [hf], (KeepsI.own (KeepsI.new (KeepsI.new (KeepsI.new (KeepsI.low fw aj.grw) be.grw (by omega)) bh.grw (by omega)) bt.grw (by omega)) dx gu (by decide) (by omega) (by omega))⟩
 have sk := of_decide_eq_false co
 refine Xa (X3 (q := decide (q.kind = 9)) Z Z Z Z (Xe (v := vb (decide (q.kind = 9))) Z Z (Xc (Xy Z (fun d3 => ?_) (fun d3 => ?_)))))
 have ra := of_decide_eq_true d3
 have q6 := Y3 (Uz hT (by rw [Qd]; omega) (by rw [← Qw]; omega))
 rw [← Qw] at q6
 have sm := of_decide_eq_true d3
 refine Xa (Xd (o' := 4) Q6 Z Z Z ?_)
 have gv := ((V.blk.grown0 E.grw).gn G.grw)
 refine Xh (v := vi (mAt ms (r.th - 1).toNat).t.num) X1 Z (gv.cell Z) Z (Yn (c := (mAt ms (r.th - 1).toNat).t.num + 1) Z Z (by omega) (by omega) (by omega) Z (Mg (c := min ((mAt ms (r.th - 1).toNat).t.num + 1) 99) Z Z Z Z (Xd (o' := 4) Q6 Z Z Z (Yg (v := vi (min ((mAt ms (r.th - 1).toNat).t.num + 1) 99)) (cs' := #[vi (mAt ms (r.th - 1).toNat).t.kind, vi (mAt ms (r.th - 1).toNat).t.lab.s, vi (mAt ms (r.th - 1).toNat).t.lab.v, vi (mAt ms (r.th - 1).toNat).t.ve, vi (min ((mAt ms (r.th - 1).toNat).t.num + 1) 99), .slice (mAt ms (r.th - 1).toNat).sa (mAt ms (r.th - 1).toNat).t.slots.length (mAt ms (r.th - 1).toNat).sc, .slice (mAt ms (r.th - 1).toNat).qa (mAt ms (r.th - 1).toNat).t.queue.length (mAt ms (r.th - 1).toNat).qc, vi (mAt ms (r.th - 1).toNat).t.to]) X1 Z Z Z gv (Nat.le_of_ble_eq_true Z) Z ?_))))
 intro t2 bu
 refine Xc (X2 (Xb (v := .slice (pa B) ms.length cap) Z Z (Xd (o' := 7) Kk Z Z Z (Xh (v := vi (mAt ms (r.th - 1).toNat).t.to) X1 Z (bu.blk.cell Z) Z (Ys (c := (mAt ms (r.th - 1).toNat).t.to - 1) Z Z (by omega) (by omega) (by omega) Z (Xd (o' := 4) Jk Z Z Z (Xh (v := vi q.n) X1 Z ((ao.gn bu.grw).cell Z) Z (Q8 (c := q.n % 2) Z Z (by omega) (by omega) (by omega) Z Z (Yb (o' := ((mAt ms (r.th - 1).toNat).t.to - 1).toNat * 8) Y2 Z Z (by omega) (by omega) (by omega) Z (Xd (o' := ((mAt ms (r.th - 1).toNat).t.to - 1).toNat * 8 + 4) Q6 Z Z Z ?_))))))))))
 have gw := (((ar.grown0 E.grw).gn G.grw).gn bu.grw)
 refine Jj (g := MTh.cells) (j := 4) (z := (mAt ms ((mAt ms (r.th - 1).toNat).t.to - 1).toNat)) (z' := (⟨⟨(mAt ms ((mAt ms (r.th - 1).toNat).t.to - 1).toNat).t.kind, (mAt ms ((mAt ms (r.th - 1).toNat).t.to - 1).toNat).t.lab, (mAt ms ((mAt ms (r.th - 1).toNat).t.to - 1).toNat).t.ve, q.n % 2, (mAt ms ((mAt ms (r.th - 1).toNat).t.to - 1).toNat).t.slots, (mAt ms ((mAt ms (r.th - 1).toNat).t.to - 1).toNat).t.queue, (mAt ms ((mAt ms (r.th - 1).toNat).t.to - 1).toNat).t.to⟩, (mAt ms ((mAt ms (r.th - 1).toNat).t.to - 1).toNat).sa, (mAt ms ((mAt ms (r.th - 1).toNat).t.to - 1).toNat).sc, (mAt ms ((mAt ms (r.th - 1).toNat).t.to - 1).toNat).qa, (mAt ms ((mAt ms (r.th - 1).toNat).t.to - 1).toNat).qc⟩ : MTh)) (v := vi (q.n % 2)) X1 Z Z Z Yo gw (xg ms ((mAt ms (r.th - 1).toNat).t.to - 1).toNat) (by omega) Z Z ?_
 intro ou d6 dy
 have jr : RowsO 42 3 lo ou (ms.set ((mAt ms (r.th - 1).toNat).t.to - 1).toNat (⟨⟨(mAt ms ((mAt ms (r.th - 1).toNat).t.to - 1).toNat).t.kind, (mAt ms ((mAt ms (r.th - 1).toNat).t.to - 1).toNat).t.lab, (mAt ms ((mAt ms (r.th - 1).toNat).t.to - 1).toNat).t.ve, q.n % 2, (mAt ms ((mAt ms (r.th - 1).toNat).t.to - 1).toNat).t.slots, (mAt ms ((mAt ms (r.th - 1).toNat).t.to - 1).toNat).t.queue, (mAt ms ((mAt ms (r.th - 1).toNat).t.to - 1).toNat).t.to⟩, (mAt ms ((mAt ms (r.th - 1).toNat).t.to - 1).toNat).sa, (mAt ms ((mAt ms (r.th - 1).toNat).t.to - 1).toNat).sc, (mAt ms ((mAt ms (r.th - 1).toNat).t.to - 1).toNat).qa, (mAt ms ((mAt ms (r.th - 1).toNat).t.to - 1).toNat).qc⟩ : MTh)) := RowsO.set (RowsO.own (RowsO.typB (RowsO.typB (RowsO.low (RowsO.typB (RowsO.low (RowsO.low (RowsO.low hR ae.grw) ab.grw) O.grw) V.grw O.blk (by decide) (by decide)) E.grw) G.grw E.blk (by decide) (by decide)) bu.grw gv (by decide) (by decide)) dy gw (by decide) (by decide)) (lq ((mAt ms (r.th - 1).toNat).t.to - 1).toNat ms.length) ⟨rfl, rfl, rfl⟩ ⟨rfl, rfl, rfl⟩
 refine Xc (Y7 (Xu (Xa (Xb (v := .slice (pa B) ms.length cap) Z Z (Xd (o' := 0) Yz Z Z Z (Xh (v := vi r.th) X1 Z (((((bf.grown0 E.grw).gn G.grw).gn bu.grw).gn dy).cell Z) Z (Ys (c := r.th - 1) Z Z (by omega) (by omega) (by omega) Z (Xp (vs := [vi (mAt ms (r.th - 1).toNat).t.kind, vi (mAt ms (r.th - 1).toNat).t.lab.s, vi (mAt ms (r.th - 1).toNat).t.lab.v, vi (mAt ms (r.th - 1).toNat).t.ve, vi (min ((mAt ms (r.th - 1).toNat).t.num + 1) 99), .slice (mAt ms (r.th - 1).toNat).sa (mAt ms (r.th - 1).toNat).t.slots.length (mAt ms (r.th - 1).toNat).sc, .slice (mAt ms (r.th - 1).toNat).qa (mAt ms (r.th - 1).toNat).t.queue.length (mAt ms (r.th - 1).toNat).qc, vi (mAt ms (r.th - 1).toNat).t.to]) Y0 Z Z ((bu.blk.gn dy).rangeL 0 8 Z) Z (Yb (o' := (r.th - 1).toNat * 8) Y2 Z Z (by omega) (by omega) (by omega) Z (Je (g := MTh.cells) (z' := (⟨⟨(mAt ms (r.th - 1).toNat).t.kind, (mAt ms (r.th - 1).toNat).t.lab, (mAt ms (r.th - 1).toNat).t.ve, min ((mAt ms (r.th - 1).toNat).t.num + 1) 99, (mAt ms (r.th - 1).toNat).t.slots, (mAt ms (r.th - 1).toNat).t.queue, (mAt ms (r.th - 1).toNat).t.to⟩, (mAt ms (r.th - 1).toNat).sa, (mAt ms (r.th - 1).toNat).sc, (mAt ms (r.th - 1).toNat).qa, (mAt ms (r.th - 1).toNat).qc⟩ : MTh)) Y0 Z Z (Kv _) Yo d6 (by (simp only [List.length_set, Yd]; omega)) Z ?_))))))))))
 intro ov la fz
 have js : RowsO 42 3 lo ov ((ms.set ((mAt ms (r.th - 1).toNat).t.to - 1).toNat (⟨⟨(mAt ms ((mAt ms (r.th - 1).toNat).t.to - 1).toNat).t.kind, (mAt ms ((mAt ms (r.th - 1).toNat).t.to - 1).toNat).t.lab, (mAt ms ((mAt ms (r.th - 1).toNat).t.to - 1).toNat).t.ve, q.n % 2, (mAt ms ((mAt ms (r.th - 1).toNat).t.to - 1).toNat).t.slots, (mAt ms ((mAt ms (r.th - 1).toNat).t.to - 1).toNat).t.queue, (mAt ms ((mAt ms (r.th - 1).toNat).t.to - 1).toNat).t.to⟩, (mAt ms ((mAt ms (r.th - 1).toNat).t.to - 1).toNat).sa, (mAt ms ((mAt ms (r.th - 1).toNat).t.to - 1).toNat).sc, (mAt ms ((mAt ms (r.th - 1).toNat).t.to - 1).toNat).qa, (mAt ms ((mAt ms (r.th - 1).toNat).t.to - 1).toNat).qc⟩ : MTh)).set (r.th - 1).toNat (⟨⟨(mAt ms (r.th - 1).toNat).t.kind, (mAt ms (r.th - 1).toNat).t.lab, (mAt ms (r.th - 1).toNat).t.ve, min ((mAt ms (r.th - 1).toNat).t.num + 1) 99, (mAt ms (r.th - 1).toNat).t.slots, (mAt ms (r.th - 1).toNat).t.queue, (mAt ms (r.th - 1).toNat).t.to⟩, (mAt ms (r.th - 1).toNat).sa, (mAt ms (r.th - 1).toNat).sc, (mAt ms (r.th - 1).toNat).qa, (mAt ms (r.th - 1).toNat).qc⟩ : MTh)) := RowsO.set (RowsO.own jr fz d6 (by decide) (by decide)) (show (r.th - 1).toNat < (ms.set ((mAt ms (r.th - 1).toNat).t.to - 1).toNat (⟨⟨(mAt ms ((mAt ms (r.th - 1).toNat).t.to - 1).toNat).t.kind, (mAt ms ((mAt ms (r.th - 1).toNat).t.to - 1).toNat).t.lab, (mAt ms ((mAt ms (r.th - 1).toNat).t.to - 1).toNat).t.ve, q.n % 2, (mAt ms ((mAt ms (r.th - 1).toNat).t.to - 1).toNat).t.slots, (mAt ms ((mAt ms (r.th - 1).toNat).t.to - 1).toNat).t.queue, (mAt ms ((mAt ms (r.th - 1).toNat).t.to - 1).toNat).t.to⟩, (mAt ms ((mAt ms (r.th - 1).toNat).t.to - 1).toNat).sa, (mAt ms ((mAt ms (r.th - 1).toNat).t.to - 1).toNat).sc, (mAt ms ((mAt ms (r.th - 1).toNat).t.to - 1).toNat).qa, (mAt ms ((mAt ms (r.th - 1).toNat).t.to - 1).toNat).qc⟩ : MTh)).length by (simp only [List.length_set, Yd]; omega)) ⟨(Wb (i := (r.th - 1).toNat) (m2 := (⟨⟨(mAt ms ((mAt ms (r.th - 1).toNat).t.to - 1).toNat).t.kind, (mAt ms ((mAt ms (r.th - 1).toNat).t.to - 1).toNat).t.lab, (mAt ms ((mAt ms (r.th - 1).toNat).t.to - 1).toNat).t.ve, q.n % 2, (mAt ms ((mAt ms (r.th - 1).toNat).t.to - 1).toNat).t.slots, (mAt ms ((mAt ms (r.th - 1).toNat).t.to - 1).toNat).t.queue, (mAt ms ((mAt ms (r.th - 1).toNat).t.to - 1).toNat).t.to⟩, (mAt ms ((mAt ms (r.th - 1).toNat).t.to - 1).toNat).sa, (mAt ms ((mAt ms (r.th - 1).toNat).t.to - 1).toNat).sc, (mAt ms ((mAt ms (r.th - 1).toNat).t.to - 1).toNat).qa, (mAt ms ((mAt ms (r.th - 1).toNat).t.to - 1).toNat).qc⟩ : MTh)) MTh.qa (lq ((mAt ms (r.th - 1).toNat).t.to - 1).toNat ms.length) rfl).symm, (Wb (i := (r.th - 1).toNat) (m2 := (⟨⟨(mAt ms ((mAt ms (r.th - 1).toNat).t.to - 1).toNat).t.kind, (mAt ms ((mAt ms (r.th - 1).toNat).t.to - 1).toNat).t.lab, (mAt ms ((mAt ms (r.th - 1).toNat).t.to - 1).toNat).t.ve, q.n % 2, (mAt ms ((mAt ms (r.th - 1).toNat).t.to - 1).toNat).t.slots, (mAt ms ((mAt ms (r.th - 1).toNat).t.to - 1).toNat).t.queue, (mAt ms ((mAt ms (r.th - 1).toNat).t.to - 1).toNat).t.to⟩, (mAt ms ((mAt ms (r.th - 1).toNat).t.to - 1).toNat).sa, (mAt ms ((mAt ms (r.th - 1).toNat).t.to - 1).toNat).sc, (mAt ms ((mAt ms (r.th - 1).toNat).t.to - 1).toNat).qa, (mAt ms ((mAt ms (r.th - 1).toNat).t.to - 1).toNat).qc⟩ : MTh)) MTh.qc (lq ((mAt ms (r.th - 1).toNat).t.to - 1).toNat ms.length) rfl).symm, (Wb (i := (r.th - 1).toNat) (m2 := (⟨⟨(mAt ms ((mAt ms (r.th - 1).toNat).t.to - 1).toNat).t.kind, (mAt ms ((mAt ms (r.th - 1).toNat).t.to - 1).toNat).t.lab, (mAt ms ((mAt ms (r.th - 1).toNat).t.to - 1).toNat).t.ve, q.n % 2, (mAt ms ((mAt ms (r.th - 1).toNat).t.to - 1).toNat).t.slots, (mAt ms ((mAt ms (r.th - 1).toNat).t.to - 1).toNat).t.queue, (mAt ms ((mAt ms (r.th - 1).toNat).t.to - 1).toNat).t.to⟩, (mAt ms ((mAt ms (r.th - 1).toNat).t.to - 1).toNat).sa, (mAt ms ((mAt ms (r.th - 1).toNat).t.to - 1).toNat).sc, (mAt ms ((mAt ms (r.th - 1).toNat).t.to - 1).toNat).qa, (mAt ms ((mAt ms (r.th - 1).toNat).t.to - 1).toNat).qc⟩ : MTh)) (fun m => m.t.queue) (lq ((mAt ms (r.th - 1).toNat).t.to - 1).toNat ms.length) rfl).symm⟩ ⟨(Wb (i := (r.th - 1).toNat) (m2 := (⟨⟨(mAt ms ((mAt ms (r.th - 1).toNat).t.to - 1).toNat).t.kind, (mAt ms ((mAt ms (r.th - 1).toNat).t.to - 1).toNat).t.lab, (mAt ms ((mAt ms (r.th - 1).toNat).t.to - 1).toNat).t.ve, q.n % 2, (mAt ms ((mAt ms (r.th - 1).toNat).t.to - 1).toNat).t.slots, (mAt ms ((mAt ms (r.th - 1).toNat).t.to - 1).toNat).t.queue, (mAt ms ((mAt ms (r.th - 1).toNat).t.to - 1).toNat).t.to⟩, (mAt ms ((mAt ms (r.th - 1).toNat).t.to - 1).toNat).sa, (mAt ms ((mAt ms (r.th - 1).toNat).t.to - 1).toNat).sc, (mAt ms ((mAt ms (r.th - 1).toNat).t.to - 1).toNat).qa, (mAt ms ((mAt ms (r.th - 1).toNat).t.to - 1).toNat).qc⟩ : MTh)) MTh.sa (lq ((mAt ms (r.th - 1).toNat).t.to - 1).toNat ms.length) rfl).symm, (Wb (i := (r.th - 1).toNat) (m2 := (⟨⟨(mAt ms ((mAt ms (r.th - 1).toNat).t.to - 1).toNat).t.kind, (mAt ms ((mAt ms (r.th - 1).toNat).t.to - 1).toNat).t.lab, (mAt ms ((mAt ms (r.th - 1).toNat).t.to - 1).toNat).t.ve, q.n % 2, (mAt ms ((mAt ms (r.th - 1).toNat).t.to - 1).toNat).t.slots, (mAt ms ((mAt ms (r.th - 1).toNat).t.to - 1).toNat).t.queue, (mAt ms ((mAt ms (r.th - 1).toNat).t.to - 1).toNat).t.to⟩, (mAt ms ((mAt ms (r.th - 1).toNat).t.to - 1).toNat).sa, (mAt ms ((mAt ms (r.th - 1).toNat).t.to - 1).toNat).sc, (mAt ms ((mAt ms (r.th - 1).toNat).t.to - 1).toNat).qa, (mAt ms ((mAt ms (r.th - 1).toNat).t.to - 1).toNat).qc⟩ : MTh)) MTh.sc (lq ((mAt ms (r.th - 1).toNat).t.to - 1).toNat ms.length) rfl).symm, (Wb (i := (r.th - 1).toNat) (m2 := (⟨⟨(mAt ms ((mAt ms (r.th - 1).toNat).t.to - 1).toNat).t.kind, (mAt ms ((mAt ms (r.th - 1).toNat).t.to - 1).toNat).t.lab, (mAt ms ((mAt ms (r.th - 1).toNat).t.to - 1).toNat).t.ve, q.n % 2, (mAt ms ((mAt ms (r.th - 1).toNat).t.to - 1).toNat).t.slots, (mAt ms ((mAt ms (r.th - 1).toNat).t.to - 1).toNat).t.queue, (mAt ms ((mAt ms (r.th - 1).toNat).t.to - 1).toNat).t.to⟩, (mAt ms ((mAt ms (r.th - 1).toNat).t.to - 1).toNat).sa, (mAt ms ((mAt ms (r.th - 1).toNat).t.to - 1).toNat).sc, (mAt ms ((mAt ms (r.th - 1).toNat).t.to - 1).toNat).qa, (mAt ms ((mAt ms (r.th - 1).toNat).t.to - 1).toNat).qc⟩ : MTh)) (fun m => m.t.slots) (lq ((mAt ms (r.th - 1).toNat).t.to - 1).toNat ms.length) rfl).symm⟩
 refine Xc (Xa (Xb (v := vi 0) Z Z (Xe (v := vi 0) Z Z (Xc (Xt ?_)))))
 have hf : far (tabT ms) q r = (tabT ((ms.set ((mAt ms (r.th - 1).toNat).t.to - 1).toNat (⟨⟨(mAt ms ((mAt ms (r.th - 1).toNat).t.to - 1).toNat).t.kind, (mAt ms ((mAt ms (r.th - 1).toNat).t.to - 1).toNat).t.lab, (mAt ms ((mAt ms (r.th - 1).toNat).t.to - 1).toNat).t.ve, q.n % 2, (mAt ms ((mAt ms (r.th - 1).toNat).t.to - 1).toNat).t.slots, (mAt ms ((mAt ms (r.th - 1).toNat).t.to - 1).toNat).t.queue, (mAt ms ((mAt ms (r.th - 1).toNat).t.to - 1).toNat).t.to⟩, (mAt ms ((mAt ms (r.th - 1).toNat).t.to - 1).toNat).sa, (mAt ms ((mAt ms (r.th - 1).toNat).t.to - 1).toNat).sc, (mAt ms ((mAt ms (r.th - 1).toNat).t.to - 1).toNat).qa, (mAt ms ((mAt ms (r.th - 1).toNat).t.to - 1).toNat).qc⟩ : MTh)).set (r.th - 1).toNat (⟨⟨(mAt ms (r.th - 1).toNat).t.kind, (mAt ms (r.th - 1).toNat).t.lab, (mAt ms (r.th - 1).toNat).t.ve, min ((mAt ms (r.th - 1).toNat).t.num + 1) 99, (mAt ms (r.th - 1).toNat).t.slots, (mAt ms (r.th - 1).toNat).t.queue, (mAt ms (r.th - 1).toNat).t.to⟩, (mAt ms (r.th - 1).toNat).sa, (mAt ms (r.th - 1).toNat).sc, (mAt ms (r.th - 1).toNat).qa, (mAt ms (r.th - 1).toNat).qc⟩ : MTh)), 0) := Fk d3 rfl rfl
 exact ⟨vi 0, Yp Z Z, (ms.set ((mAt ms (r.th - 1).toNat).t.to - 1).toNat (⟨⟨(mAt ms ((mAt ms (r.th - 1).toNat).t.to - 1).toNat).t.kind, (mAt ms ((mAt ms (r.th - 1).toNat).t.to - 1).toNat).t.lab, (mAt ms ((mAt ms (r.th - 1).toNat).t.to - 1).toNat).t.ve, q.n % 2, (mAt ms ((mAt ms (r.th - 1).toNat).t.to - 1).toNat).t.slots, (mAt ms ((mAt ms (r.th - 1).toNat).t.to - 1).toNat).t.queue, (mAt ms ((mAt ms (r.th - 1).toNat).t.to - 1).toNat).t.to⟩, (mAt ms ((mAt ms (r.th - 1).toNat).t.to - 1).toNat).sa, (mAt ms ((mAt ms (r.th - 1).toNat).t.to - 1).toNat).sc, (mAt ms ((mAt ms (r.th - 1).toNat).t.to - 1).toNat).qa, (mAt ms ((mAt ms (r.th - 1).toNat).t.to - 1).toNat).qc⟩ : MTh)).set (r.th - 1).toNat (⟨⟨(mAt ms (r.th - 1).toNat).t.kind, (mAt ms (r.th - 1).toNat).t.lab, (mAt ms (r.th - 1).toNat).t.ve, min ((mAt ms (r.th - 1).toNat).t.num + 1) 99, (mAt ms (r.th - 1).toNat).t.slots, (mAt ms (r.th - 1).toNat).t.queue, (mAt ms (r.th - 1).toNat).t.to⟩, (mAt ms (r.th - 1).toNat).sa, (mAt ms (r.th - 1).toNat).sc, (mAt ms (r.th - 1).toNat).qa, (mAt ms (r.th - 1).toNat).qc⟩ : MTh), by rw [hf], by first | rfl | exact Yd | (simp only [List.length_set, Yd]), la, js, by rw [hf], (KeepsI.own (KeepsI.own (KeepsI.new ac bu.grw (by omega)) dy gw (by decide) (by omega) (by omega)) fz d6 (by decide) (by omega) (by omega))⟩
 have sn := of_decide_eq_false d3
 refine Xw (Y7 (Xu (Xa (Xb (v := .slice (pa B) ms.length cap) Z Z (Xd (o' := 0) Yz Z Z Z (Xh (v := vi r.th) X1 Z (((bf.grown0 E.grw).gn G.grw).cell Z) Z (Ys (c := r.th - 1) Z Z (by omega) (by omega) (by omega) Z (Xp (vs := [vi (mAt ms (r.th - 1).toNat).t.kind, vi (mAt ms (r.th - 1).toNat).t.lab.s, vi (mAt ms (r.th - 1).toNat).t.lab.v, vi (mAt ms (r.th - 1).toNat).t.ve, vi (mAt ms (r.th - 1).toNat).t.num, .slice (mAt ms (r.th - 1).toNat).sa (mAt ms (r.th - 1).toNat).t.slots.length (mAt ms (r.th - 1).toNat).sc, .slice (mAt ms (r.th - 1).toNat).qa (mAt ms (r.th - 1).toNat).t.queue.length (mAt ms (r.th - 1).toNat).qc, vi (mAt ms (r.th - 1).toNat).t.to]) Y0 Z Z (((V.blk.grown0 E.grw).gn G.grw).rangeL 0 8 Z) Z (Yb (o' := (r.th - 1).toNat * 8) Y2 Z Z (by omega) (by omega) (by omega) Z ?_)))))))))
 have ku := ((ar.grown0 E.grw).gn G.grw)
 refine Je (g := MTh.cells) (z' := (mAt ms (r.th - 1).toNat)) Y0 Z Z (Kv _) Yo ku (by omega) Z ?_
 intro ow q5 lf
 have qf : RowsO 42 3 lo ow (ms.set (r.th - 1).toNat (mAt ms (r.th - 1).toNat)) := RowsO.set (RowsO.own (RowsO.typB (RowsO.low (RowsO.typB (RowsO.low (RowsO.low (RowsO.low hR ae.grw) ab.grw) O.grw) V.grw O.blk (by decide) (by decide)) E.grw) G.grw E.blk (by decide) (by decide)) lf ku (by decide) (by decide)) (lq (r.th - 1).toNat ms.length) ⟨rfl, rfl, rfl⟩ ⟨rfl, rfl, rfl⟩
 refine Xc (Xa (Xb (v := vi 0) Z Z (Xe (v := vi 0) Z Z (Xc (Xt ?_)))))
 exfalso; omega
end Go.Proofs.YtjpgffmkcmcolaaGreatDoor
end
section
namespace Go.Proofs.YtjpgffmkcmcolaaGreatDoor
open Go.RowKit Go.Dw
set_option maxRecDepth 100000
set_option maxHeartbeats 4000000
set_option linter.unusedSimpArgs false
set_option linter.unusedVariables false
theorem Fw : goFn Tryz.prog 56 = true := by kernel_rfl
theorem Zi : goFn Tryz.prog 60 = true := by kernel_rfl
end Go.Proofs.YtjpgffmkcmcolaaGreatDoor
end
