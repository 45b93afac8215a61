/- Laws and walks: my templates, and what a program of mine (gen.py) printed out of the functions; only what the row reaches. -/
import Derived.Test.YtlhhijnmacogcaaGreatDoorT42
section
namespace Go.Proofs.YtlhhijnmacogcaaGreatDoor
open Go.RowKit Go.Dw
set_option maxRecDepth 100000
set_option maxHeartbeats 4000000
set_option linter.unusedSimpArgs false
set_option linter.unusedVariables false
theorem Vm (q k : Int) (w : World) : CallsR Tryz.prog 53 #[vi q, vi k] w (fun v w' => v = vb (kindFor q k) ∧ w.grownBy w' none) := by
 refine Xx (n := 35) Tryz.func53 Z Tryz.ntmps53 Z ?_
 have ai := World.grownBy.refl w none
 refine Xa (Xe (v := vb false) Z Z (Xb (Xq (Xa (Xd (v := vi q) Z Z (Xb (X9 (Xq (Xa (X6 (q := decide (q = 1)) Z Z Z Z (Xe (v := vb (decide (q = 1))) Z Z (Xb ?_))))))))))))
 refine X0 Z (fun J => ?_) (fun J => ?_)
 have an := of_decide_eq_true J
 refine Xz (Xu (Qa Z J (Xa (Xd (v := vi k) Z Z (X6 (q := decide (k = 1)) Z Z Z Z (Xe (v := vb (decide (k = 1))) Z Z (Xb (Xt (Qn (Yk (⟨vb (decide (k = 1)), Yt Z Z, ?_, ai⟩)))))))))))
 · first | (simp [kindFor, an]; done) | (unfold kindFor; repeat (first | rw [if_pos (by omega)] | rw [if_neg (by omega)]))
 have O := of_decide_eq_false J
 refine X2 (X6 (q := decide (q = 2)) Z Z Z Z (Xe (v := vb (decide (q = 2))) Z Z (Xb (Xu (X0 Z (fun ac => ?_) (fun ac => ?_))))))
 have ao := of_decide_eq_true ac
 refine Xa (Xd (v := vi k) Z Z (X6 (q := decide (k = 1)) Z Z Z Z (Xe (v := vb (decide (k = 1))) Z Z (Xb (Xt (Qn (Yk (⟨vb (decide (k = 1)), Yt Z Z, ?_, ai⟩))))))))
 · first | (simp [kindFor, O, ao]; done) | (unfold kindFor; repeat (first | rw [if_pos (by omega)] | rw [if_neg (by omega)]))
 have ad := of_decide_eq_false ac
 refine Xq (Xa (X6 (q := decide (q = 4)) Z Z Z Z (Xe (v := vb (decide (q = 4))) Z Z (Xb (X0 Z (fun V => ?_) (fun V => ?_))))))
 have ap := of_decide_eq_true V
 refine Xz (Xu (Qa Z V (Xa (Xd (v := vi k) Z Z (X6 (q := decide (k = 2)) Z Z Z Z (Xe (v := vb (decide (k = 2))) Z Z (Xb (Xt (Qn (Yk (⟨vb (decide (k = 2)), Yt Z Z, ?_, ai⟩)))))))))))
 · first | (simp [kindFor, O, ad, ap]; done) | (unfold kindFor; repeat (first | rw [if_pos (by omega)] | rw [if_neg (by omega)]))
 have ah := of_decide_eq_false V
 refine X2 (X6 (q := decide (q = 5)) Z Z Z Z (Xe (v := vb (decide (q = 5))) Z Z (Xb (Xu (X0 Z (fun ae => ?_) (fun ae => ?_))))))
 have aq := of_decide_eq_true ae
 refine Xa (Xd (v := vi k) Z Z (X6 (q := decide (k = 2)) Z Z Z Z (Xe (v := vb (decide (k = 2))) Z Z (Xb (Xt (Qn (Yk (⟨vb (decide (k = 2)), Yt Z Z, ?_, ai⟩))))))))
 · first | (simp [kindFor, O, ad, ah, aq]; done) | (unfold kindFor; repeat (first | rw [if_pos (by omega)] | rw [if_neg (by omega)]))
 have aj := of_decide_eq_false ae
 refine Xq (Xa (X6 (q := decide (q = 6)) Z Z Z Z (Xe (v := vb (decide (q = 6))) Z Z (Xb (X0 Z (fun ab => ?_) (fun ab => ?_))))))
 have ar := of_decide_eq_true ab
 refine Xz (Xu (Qa Z ab (Xa (Xd (v := vi k) Z Z (X6 (q := decide (k = 4)) Z Z Z Z (Xe (v := vb (decide (k = 4))) Z Z (Xb (Xt (Qn (Yk (⟨vb (decide (k = 4)), Yt Z Z, ?_, ai⟩)))))))))))
 · first | (simp [kindFor, O, ad, ah, aj, ar]; done) | (unfold kindFor; repeat (first | rw [if_pos (by omega)] | rw [if_neg (by omega)]))
 have ak := of_decide_eq_false ab
 refine X2 (X6 (q := decide (q = 7)) Z Z Z Z (Xe (v := vb (decide (q = 7))) Z Z (Xb (Xu (X0 Z (fun af => ?_) (fun af => ?_))))))
 have au := of_decide_eq_true af
 refine Xa (Xd (v := vi k) Z Z (X6 (q := decide (k = 4)) Z Z Z Z (Xe (v := vb (decide (k = 4))) Z Z (Xb (Xt (Qn (Yk (⟨vb (decide (k = 4)), Yt Z Z, ?_, ai⟩))))))))
 · first | (simp [kindFor, O, ad, ah, aj, ak, au]; done) | (unfold kindFor; repeat (first | rw [if_pos (by omega)] | rw [if_neg (by omega)]))
 have al := of_decide_eq_false af
 refine Xa (X6 (q := decide (q = 9)) Z Z Z Z (Xe (v := vb (decide (q = 9))) Z Z (Xb (X0 Z (fun ag => ?_) (fun ag => ?_)))))
 have av := of_decide_eq_true ag
 refine Xa (Xd (v := vi k) Z Z (X6 (q := decide (k = 5)) Z Z Z Z (Xe (v := vb (decide (k = 5))) Z Z (Xb (Xt (Qn (Yk (⟨vb (decide (k = 5)), Yt Z Z, ?_, ai⟩))))))))
 · first | (simp [kindFor, O, ad, ah, aj, ak, al, av]; done) | (unfold kindFor; repeat (first | rw [if_pos (by omega)] | rw [if_neg (by omega)]))
 have aw := of_decide_eq_false ag
 refine Xz (Y3 (Xu (Ya (fun f' w' => (f' 4 = vb (((decide (k = 1)) || (decide (k = 2))) || (decide (k = 4)))) ∧ w = w') ?_ ?_)))
 refine Xd (v := vi k) Z Z (X6 (q := decide (k = 1)) Z Z Z Z (Xd (v := vb (decide (k = 1))) Z Z ?_))
 rcases Yg (decide (k = 1)) with E | E
 have a8 := of_decide_eq_true E
 exact Xj Z Z Z E Z (Xj Z Z Z E Z (Xw (v := vb true) Z E Z Z (Xd (v := vb true) Z Z (Xj Z Z Z Z Z (Xj Z Z Z Z Z (Xw (v := vb true) Z Z Z Z (Xe (v := vb true) Z Z (Xb ⟨(cB (by simp [J, ac, V, ae, ab, af, ag, E])), Z⟩))))))))
 have a9 := of_decide_eq_false E
 refine Xg Z Z Z E (Xd (v := vi k) Z Z (Xg Z Z Z E (X6 (q := decide (k = 2)) Z Z Z Z (Xp (v := vb (decide (k = 2))) Z E Z Z (Xd (v := vb (decide (k = 2))) Z Z ?_)))))
 rcases Yg (decide (k = 2)) with G | G
 have ba := of_decide_eq_true G
 exact Xj Z Z Z G Z (Xj Z Z Z G Z (Xw (v := vb true) Z G Z Z (Xe (v := vb true) Z Z (Xb ⟨(cB (by simp [J, ac, V, ae, ab, af, ag, E, G])), Z⟩))))
 have bb := of_decide_eq_false G
 exact Xg Z Z Z G (Xd (v := vi k) Z Z (Xg Z Z Z G (X6 (q := decide (k = 4)) Z Z Z Z (Xp (v := vb (decide (k = 4))) Z G Z Z (Xe (v := vb (decide (k = 4))) Z Z (Xb ⟨(cB (by simp [J, ac, V, ae, ab, af, ag, E, G])), Z⟩))))))
 rintro az bc ⟨am, rfl⟩
 refine Xt (⟨vb (((decide (k = 1)) || (decide (k = 2))) || (decide (k = 4))), Yt Z am, ?_, ai⟩)
 · first | (simp [kindFor, O, ad, ah, aj, ak, al, aw]; done) | (unfold kindFor; repeat (first | rw [if_pos (by omega)] | rw [if_neg (by omega)]))
theorem Rq (r : Rt) (hr : -9223372036854775807 ≤ r.th) (w : World) (ms : List MTh) (a : Option Addr) (c : Nat) (ht : TabAt w a ms) (hlen : TabLen ms) (hn : ms.length ≤ 1048576) : CallsR Tryz.prog 57 #[.slice a ms.length c, .agg #[vi r.th, vi r.ve, vb r.rd, vb r.wr, vb r.wk]] w (fun v w' => v = vb (live (tabT ms) r) ∧ w.grownBy w' none) := by
 refine Xx (n := 22) Tryz.func57 Z Tryz.ntmps57 Z ?_
 have av := World.grownBy.refl w none
 refine Xa (Y7 (v := .agg #[vi r.th, vi r.ve, vb r.rd, vb r.wr, vb r.wk]) (cs := #[vi r.th, vi r.ve, vb r.rd, vb r.wr, vb r.wk]) Z Z Z ?_)
 intro J ab G
 have aw := Yd G av
 have O := low0 av G.grw
 refine Xe (v := vb false) Z Z (Xb (Kj (fun f' w' => (f' 4 = vb (inR r.th 1 (ms.length : Int) && (decide ((mj ms r.th).t.ve = r.ve)))) ∧ ab.grownBy w' none) ?_ ?_))
 rcases Yg (inR r.th 1 (ms.length : Int)) with E | E
 have a8 := Qi.1 E
 obtain ⟨ac, ba, V, ad, aq, ar⟩ := SlAt.at (TabAt.low ht O).1 (Yp (xg ms (r.th - 1).toNat))
 have az := TabLen.at hlen (xg ms (r.th - 1).toNat)
 refine Yy (m := 15) (vals := [(5, pt J 0), (6, vi r.th), (7, .slice a ms.length c), (8, vi (ms.length : Int)), (9, vb (inR r.th 1 (ms.length : Int))), (10, vb (inR r.th 1 (ms.length : Int))), (11, .slice a ms.length c), (12, pt J 0), (13, vi r.th), (14, vi (r.th - 1)), (15, pt ac V), (16, pt ac (V + 3)), (17, vi (mj ms r.th).t.ve), (18, pt J 1), (19, vi r.ve)]) (fun w' => ab.grownBy w' none) Yz (by kernel_rfl) (X8 _) ?_ ?_
 refine yl Z (fun _ _ k => Xc (o' := 0) Yo Z Z Z k) (yl Z (fun _ ah k => Xh (v := vi r.th) X1 Z ((G.blk.grown0 ah).cell Z) Z k) (yl Z (fun _ _ k => Xd (v := .slice a ms.length c) Z Z k) (yl Z (fun _ _ k => Y1 (by kernel_rfl) Z Z k) ?_)))
 refine Qh Z (fun bb ai => ?_) ?_
 refine Xn K0 (Xf Z (Xf Z (Xf Z Xm))) Z (Kk r.th 1 (ms.length : Int) _) ?_
 rintro _ bc ⟨rfl, ae⟩
 exact Xb ⟨Z, (grown_trans ai ae)⟩
 exact yl Z (fun _ _ k => Xd (v := vb (inR r.th 1 (ms.length : Int))) Z Z k) (yl Z (fun _ _ k => Xg Z Z Z E (Xd (v := .slice a ms.length c) Z Z k)) (yl Z (fun _ _ k => Xg Z Z Z E (Xc (o' := 0) Yo Z Z Z k)) (yl Z (fun _ aj k => Xg Z Z Z E (Xh (v := vi r.th) X1 Z ((G.blk.grown0 aj).cell Z) Z k)) (yl Z (fun _ _ k => Xg Z Z Z E (Yr (c := r.th - 1) Z Z (by omega) (by omega) (by omega) Z k)) (yl Z (fun _ _ k => Xg Z Z Z E (X3 Qc Z Z ad aq (by omega) (by omega) Z k)) (yl Z (fun _ _ k => Xg Z Z Z E (Xc (o' := V + 3) Qz Z Z Z k)) (yl Z (fun _ ak k => Xg Z Z Z E (Xh (v := vi (mj ms r.th).t.ve) X1 Z ((Yi ar ak) 3 _ Z) Z k)) (yl Z (fun _ _ k => Xg Z Z Z E (Xc (o' := 1) Kv Z Z Z k)) (yl Z (fun _ al k => Xg Z Z Z E (Xh (v := vi r.ve) X1 Z ((G.blk.grown0 al).cell Z) Z k)) Y8)))))))))
 intro bd am
 exact Xg Z Z Z E (X6 (q := decide ((mj ms r.th).t.ve = r.ve)) Z Z Z Z (Xw (v := vb (decide ((mj ms r.th).t.ve = r.ve))) Z E Z Z (Xe (v := vb (decide ((mj ms r.th).t.ve = r.ve))) Z Z (Xb (Xu ⟨(cB (by simp [E])), am⟩)))))
 refine Yy (m := 15) (vals := [(5, pt J 0), (6, vi r.th), (7, .slice a ms.length c), (8, vi (ms.length : Int)), (9, vb (inR r.th 1 (ms.length : Int))), (10, vb (inR r.th 1 (ms.length : Int))), (11, undef), (12, undef), (13, undef), (14, undef), (15, undef), (16, undef), (17, undef), (18, undef), (19, undef)]) (fun w' => ab.grownBy w' none) Yz (by kernel_rfl) (X8 _) ?_ ?_
 refine yl Z (fun _ _ k => Xc (o' := 0) Yo Z Z Z k) (yl Z (fun _ an k => Xh (v := vi r.th) X1 Z ((G.blk.grown0 an).cell Z) Z k) (yl Z (fun _ _ k => Xd (v := .slice a ms.length c) Z Z k) (yl Z (fun _ _ k => Y1 (by kernel_rfl) Z Z k) ?_)))
 refine Qh Z (fun be ao => ?_) ?_
 refine Xn K0 (Xf Z (Xf Z (Xf Z Xm))) Z (Kk r.th 1 (ms.length : Int) _) ?_
 rintro _ bf ⟨rfl, af⟩
 exact Xb ⟨Z, (grown_trans ao af)⟩
 exact yl Z (fun _ _ k => Xd (v := vb (inR r.th 1 (ms.length : Int))) Z Z k) (yl Z (fun _ _ k => Xj Z Z Z E Z k) (yl Z (fun _ _ k => Xj Z Z Z E Z k) (yl Z (fun _ _ k => Xj Z Z Z E Z k) (yl Z (fun _ _ k => Xj Z Z Z E Z k) (yl Z (fun _ _ k => Xj Z Z Z E Z k) (yl Z (fun _ _ k => Xj Z Z Z E Z k) (yl Z (fun _ _ k => Xj Z Z Z E Z k) (yl Z (fun _ _ k => Xj Z Z Z E Z k) (yl Z (fun _ _ k => Xj Z Z Z E Z k) Y8)))))))))
 intro bg ap
 exact Xj Z Z Z E Z (Xp (v := vb false) Z E Z Z (Xe (v := vb false) Z Z (Xb (Xu ⟨(cB (by simp [E])), ap⟩))))
 rintro a9 bh ⟨au, ag⟩
 refine Xt (⟨vb (inR r.th 1 (ms.length : Int) && (decide ((mj ms r.th).t.ve = r.ve))), Yt Z au, ?_, (low0 O ag)⟩)
 exact cB Ip
theorem Ik (p : Int) (hp : 0 ≤ p ∧ p ≤ 999999990000) (lo R : Nat) (bs : List Int) (a : Option Addr) (c : Nat) (w : World) (hR : Blk w R 76 #[.slice a bs.length c, vi p]) (hlo : lo ≤ R) (hs : SlLt lo w a 1 (bs.map bcell)) (hb : ∀ b ∈ bs, 0 ≤ b ∧ b ≤ 255) (hn : bs.length ≤ 1048576) (ms : List MTh) (ta : Option Addr) (tc tlo : Nat) (hG : TabG tlo w ta ms) (hRl : R < tlo) (hlen : TabLen ms) (hmn : 1 ≤ ms.length ∧ ms.length ≤ 8) : CallsR Tryz.prog 51 #[pt R 0, .slice ta ms.length tc] w (fun v w' => ∃ (k : Int) (p' : Int), v = vi k ∧ (1 ≤ k ∧ k ≤ (ms.length : Int)) ∧ p ≤ p' ∧ p' ≤ p + 20 ∧ Blk w' R 76 #[.slice a bs.length c, vi p'] ∧ w.grownBy w' (some R)) := by
 refine Xx (n := 34) Tryz.func51 Z Tryz.ntmps51 Z ?_
 have hRlt := hR.lt
 obtain ⟨hi, hhi⟩ : ∃ n, n = w.heap.size := ⟨_, rfl⟩
 have hTH := TabG.hi hG
 rw [← hhi] at hTH
 refine Xa (Xe (v := vi 0) Z Z (Xb (Xq (Xa (Xe (v := vi 0) Z Z (Xb (X9 (Ql (fun mm f' w' => ∃ (i : Nat) (p1 : Int), mm = 6 - i ∧ i ≤ 6 ∧ (p ≤ p1 ∧ p1 ≤ p + 2 * (i : Int)) ∧ TabG tlo w' ta ms ∧ hi ≤ w'.heap.size ∧ f' 5 = vi (i : Int) ∧ f' 0 = pt R 0 ∧ f' 1 = .slice ta ms.length tc ∧ w.grownBy w' (some R) ∧ Blk w' R 76 #[.slice a bs.length c, vi p1]) (6 - 0) ⟨0, p, Z, (Nat.zero_le _), (by omega), hG, (Nat.le_of_eq hhi), Z, Z, Z, (World.grownBy.refl w (some R)), hR⟩ ?_))))))))
 rintro mm bk bu ⟨i, p1, bi, ca, hpp, hGl, hhs, am, V, ab, J, an⟩
 refine Xq (Xa (Xd (v := vi (i : Int)) am Z (Qg (q := decide ((i : Int) < 6)) Z Z Z Z (Xd (v := vb (decide ((i : Int) < 6))) Z Z ?_))))
 rcases Yg (decide ((i : Int) < 6)) with G | G
 have bl := of_decide_eq_true G
 refine Xg Z Z Z G (Xd (v := pt R 0) V Z (Xg Z Z Z G (Xn Qo (Xf Z (Xf Z Xm)) Z (Qb p1 24 (by omega) _ R bs _ _ _ an (by omega) (SlLt.low1 hs J hlo) (by first | exact hb | exact fun b h => hb b (List.mem_of_mem_take h)) (by first | omega | (rw [List.length_take]; omega))) ?_)))
 rintro _ bv ⟨ao, rfl, ba, bb, ak, ac⟩
 have O := grown_trans J ac
 refine Xg Z Z Z G (Jm (q := decide (0 < ao)) Z Z Z Z (Xw (v := vb (decide (0 < ao))) Z G Z Z (Xb (X0 Z (fun ah => ?_) (fun ah => ?_)))))
 have bm := of_decide_eq_true ah
 refine Xz (Xu (Xq (X9 (Xa (Xd (v := pt R 0) V Z (Xd (v := .slice ta ms.length tc) ab Z (Y1 (by kernel_rfl) Z Z (Xn Qo (Xf Z (Xf Z Xm)) Z (Qb (p1 + 1) (ms.length : Int) (by omega) _ R bs _ _ _ ak (by omega) (SlLt.low1 hs O hlo) (by first | exact hb | exact fun b h => hb b (List.mem_of_mem_take h)) (by first | omega | (rw [List.length_take]; omega))) ?_))))))))
 rintro _ bw ⟨E, rfl, bc, bd, al, ad⟩
 have aj := grown_trans O ad
 refine Yl (c := 1 + E) Z Z (by omega) (by omega) (by omega) Z (Xe (v := vi (1 + E)) Z Z (Xb (Xa (Xd (v := .slice ta ms.length tc) ab Z (Xd (v := vi (1 + E)) Z Z (Yr (c := (1 + E) - 1) Z Z (by omega) (by omega) (by omega) Z ?_))))))
 have ae := (TabG.lt (TabG.lt hGl ac (by omega)) ad (by omega))
 obtain ⟨bj, bt, a8, ap, au, av⟩ := SlAt.at (TabG.at ae).1 (Yp (xg ms ((1 + E) - 1).toNat))
 have a9 := TabLen.at hlen (xg ms ((1 + E) - 1).toNat)
 refine X3 Qc Z Z ap au (by omega) (by omega) Z (Xc (o' := a8) Qd Z Z Z (Xh (v := vi (mj ms (1 + E)).t.kind) X1 Z (av 0 _ Z) Z (X6 (q := decide ((mj ms (1 + E)).t.kind = 3)) Z Z Z Z (Xb (X0 Z (fun ai => ?_) (fun ai => ?_))))))
 have bn := of_decide_eq_true ai
 refine Xa (Xd (v := vi (1 + E)) Z Z (Xe (v := vi (1 + E)) Z Z (Xb (Xt (Qn (Yk (Yk (Qn (Yk ?_)))))))))
 refine ⟨vi (1 + E), Yt Z Z, (1 + E), (p1 + 1 + 1), Z, by omega, by omega, by omega, al, aj⟩
 have bp := of_decide_eq_false ai
 exact Xz (Y3 (Xu (X2 (Xd (v := vi (i : Int)) am Z (Yl (c := (i : Int) + 1) Z Z (by omega) (by omega) (by omega) Z (Xe (v := vi ((i : Int) + 1)) Z Z (Xb (Xu (⟨6 - (i + 1), by omega, (i + 1), (p1 + 1 + 1), Z, (by omega), (by omega), ae, (nt (nt hhs ac.size) ad.size), Z, V, ab, aj, al⟩)))))))))
 have bq := of_decide_eq_false ah
 refine Qf (Y9 (Y9 (Jh (Xu (Xa (Xd (v := pt R 0) V Z (Xd (v := .slice ta ms.length tc) ab Z (Y1 (by kernel_rfl) Z Z (Xn Qo (Xf Z (Xf Z Xm)) Z (Qb (p1 + 1) (ms.length : Int) (by omega) _ R bs _ _ _ ak (by omega) (SlLt.low1 hs O hlo) (by first | exact hb | exact fun b h => hb b (List.mem_of_mem_take h)) (by first | omega | (rw [List.length_take]; omega))) ?_)))))))))
 rintro _ bx ⟨af, rfl, be, bf, aw, aq⟩
 refine Yl (c := 1 + af) Z Z (by omega) (by omega) (by omega) Z (Xe (v := vi (1 + af)) Z Z (Xb (Xt ?_)))
 refine ⟨vi (1 + af), Yt Z Z, (1 + af), (p1 + 1 + 1), Z, by omega, by omega, by omega, aw, (grown_trans O aq)⟩
 have br := of_decide_eq_false G
 iterate 3 refine Xj rfl rfl rfl G rfl ?_
 refine Xp (v := vb false) Z G Z Z (Xb (Y4 Z Z (Qf (Y9 (Y9 (Jh (Xu (Xa (Xd (v := pt R 0) V Z (Xd (v := .slice ta ms.length tc) ab Z (Y1 (by kernel_rfl) Z Z (Xn Qo (Xf Z (Xf Z Xm)) Z (Qb p1 (ms.length : Int) (by omega) _ R bs _ _ _ an (by omega) (SlLt.low1 hs J hlo) (by first | exact hb | exact fun b h => hb b (List.mem_of_mem_take h)) (by first | omega | (rw [List.length_take]; omega))) ?_))))))))))))
 rintro _ bz ⟨ag, rfl, bg, bh, az, ar⟩
 refine Yl (c := 1 + ag) Z Z (by omega) (by omega) (by omega) Z (Xe (v := vi (1 + ag)) Z Z (Xb (Xt ?_)))
 refine ⟨vi (1 + ag), Yt Z Z, (1 + ag), (p1 + 1), Z, by omega, by omega, by omega, az, (grown_trans J ar)⟩
theorem L7 (p : Int) (hp : 0 ≤ p ∧ p ≤ 999999980000) (lo R : Nat) (bs : List Int) (a : Option Addr) (c : Nat) (w : World) (hR : Blk w R 76 #[.slice a bs.length c, vi p]) (hlo : lo ≤ R) (hs : SlLt lo w a 1 (bs.map bcell)) (hb : ∀ b ∈ bs, 0 ≤ b ∧ b ≤ 255) (hn : bs.length ≤ 1048576) (ms : List MTh) (ta : Option Addr) (tc tlo : Nat) (hG : TabG tlo w ta ms) (hRl : R < tlo) (hlen : TabLen ms) (hmn : 1 ≤ ms.length ∧ ms.length ≤ 8) : CallsR Tryz.prog 27 #[pt R 0, .slice ta ms.length tc] w (fun v w' => ∃ (q : Cl) (p' : Int), v = .agg #[vi q.kind, vi q.run, vi q.a, vi q.b, vi q.n] ∧ ((0 ≤ q.kind ∧ q.kind ≤ 10) ∧ (1 ≤ q.run ∧ q.run ≤ (ms.length : Int)) ∧ (-1 ≤ q.a ∧ q.a ≤ 4) ∧ (0 ≤ q.b ∧ q.b ≤ 3) ∧ -1 ≤ q.n ∧ q.n ≤ 100) ∧ p ≤ p' ∧ p' ≤ p + 60 ∧ Blk w' R 76 #[.slice a bs.length c, vi p'] ∧ w.grownBy w' (some R)) := by
 refine Xx (n := 114) Tryz.func27 Z Tryz.ntmps27 Z ?_
 have tu := World.grownBy.refl w (some R)
 have hRlt := hR.lt
 obtain ⟨hi, hhi⟩ : ∃ n, n = w.heap.size := ⟨_, rfl⟩
 have hTH := TabG.hi hG
 rw [← hhi] at hTH
 refine Xa (Yf (cs := #[vi 0, vi 0, vi 0, vi 0, vi 0]) Ho Z Z ?_)
 intro ei z6 bx
 have va := Yd bx tu
 have tv : hi ≤ ei := nt (Nat.le_of_eq hhi) (Nat.le_of_eq bx.eq.symm)
 have qm := Xo bx (hR).lt
 have ji := low0 tu bx.grw
 refine Xb (Xa (Xd (v := pt R 0) Z Z (Xn Qo (Xf Z (Xf Z Xm)) Z (Qb p 9 (by omega) _ R bs _ _ _ (hR.grown0 bx.grw) (by omega) (SlLt.low1 hs ji hlo) (by first | exact hb | exact fun b h => hb b (List.mem_of_mem_take h)) (by first | omega | (rw [List.length_take]; omega))) ?_)))
 rintro _ z7 ⟨em, rfl, wa, wb, pz, d8⟩
 have jj := grown_trans ji d8
 refine Yl (c := 1 + em) Z Z (by omega) (by omega) (by omega) Z (Xd (v := pt R 0) Z Z (Xd (v := .slice ta ms.length tc) Z Z ?_))
 have ic := (TabG.lt (TabG.low hG bx.grw) d8 (by omega))
 refine Xn Xcp (Xf Z (Xf Z Xm)) Z (Ik (p + 1) (by omega) _ R bs _ _ _ pz (by omega) (SlLt.low1 hs jj hlo) (by first | exact hb | exact fun b h => hb b (List.mem_of_mem_take h)) (by first | omega | (rw [List.length_take]; omega)) ms _ _ _ ic (by omega) hlen (by omega)) ?_
 rintro _ z8 ⟨E, ez, rfl, xm, xk, xl, p0, d9⟩
 have jk := grown_trans jj d9
 refine Xd (v := pt R 0) Z Z (Xn Qo (Xf Z (Xf Z Xm)) Z (Qb ez 4 (by omega) _ R bs _ _ _ p0 (by omega) (SlLt.low1 hs jk hlo) (by first | exact hb | exact fun b h => hb b (List.mem_of_mem_take h)) (by first | omega | (rw [List.length_take]; omega))) ?_)
 rintro _ z9 ⟨gb, rfl, wc, wd, p8, ea⟩
 have jl := grown_trans jk ea
 refine Xd (v := pt R 0) Z Z (Xn Qo (Xf Z (Xf Z Xm)) Z (Qb (ez + 1) 4 (by omega) _ R bs _ _ _ p8 (by omega) (SlLt.low1 hs jl hlo) (by first | exact hb | exact fun b h => hb b (List.mem_of_mem_take h)) (by first | omega | (rw [List.length_take]; omega))) ?_)
 rintro _ Aa ⟨G, rfl, we, wg, p9, eb⟩
 have jm := grown_trans jl eb
 refine Xd (v := pt R 0) Z Z (Xn Qo (Xf Z (Xf Z Xm)) Z (Qb (ez + 1 + 1) 20 (by omega) _ R bs _ _ _ p9 (by omega) (SlLt.low1 hs jm hlo) (by first | exact hb | exact fun b h => hb b (List.mem_of_mem_take h)) (by first | omega | (rw [List.length_take]; omega))) ?_)
 rintro _ Ab ⟨J, rfl, wh, wi, kz, ed⟩
 have jo := grown_trans jm ed
 refine Yv (ps := [(0, vi (1 + em)), (1, vi E), (2, vi gb), (3, vi G), (4, vi J)]) (v := .agg #[vi (1 + em), vi E, vi gb, vi G, vi J]) (Xk Z (Xk Z (Xk Z (Xk Z (Xk Z X5))))) (by kernel_rfl) Z (Yf (cs := #[vi 0, vi 0, vi 0, vi 0, vi 0]) Ho Z Z ?_)
 intro ce Ac bq
 have vc := Yd bq jo
 have tw : hi ≤ ce := nt (nt (nt (nt (nt (nt (nt (Nat.le_of_eq hhi) bx.grw.size) d8.size) d9.size) ea.size) eb.size) ed.size) (Nat.le_of_eq bq.eq.symm)
 have qn := Xo bq (kz).lt
 have nf := (((((bx.blk.gn d8).gn d9).gn ea).gn eb).gn ed)
 have lm := Xo bq (nf).lt
 refine Xy (vs := [vi (1 + em), vi E, vi gb, vi G, vi J]) (cs' := #[vi (1 + em), vi E, vi gb, vi G, vi J]) Y6 Z Z Z (by simp [Value.oneCell']) bq.blk (Nat.le_of_ble_eq_true Z) Z ?_
 intro Ad de
 refine Xb (Xq (Xa (Xe (v := vi 0) Z Z (Xb (X9 (Ql (fun mm f' w' => ∃ (i : Nat) (p1 : Int) (kk : Int) (aa : Int), mm = 6 - i ∧ i ≤ 6 ∧ (ez + 1 + 1 + 1 ≤ p1 ∧ p1 ≤ (ez + 1 + 1 + 1) + 3 * (i : Int)) ∧ (1 ≤ kk ∧ kk ≤ 9) ∧ (0 ≤ aa ∧ aa ≤ 3) ∧ TabG tlo w' ta ms ∧ hi ≤ w'.heap.size ∧ f' 6 = vi (i : Int) ∧ f' 0 = pt R 0 ∧ f' 1 = .slice ta ms.length tc ∧ f' 4 = pt ei 0 ∧ f' 5 = pt ce 0 ∧ w.grownBy w' (some R) ∧ Blk w' ei 25 #[vi 0, vi 0, vi 0, vi 0, vi 0] ∧ Blk w' ce 25 #[vi kk, vi E, vi aa, vi G, vi J] ∧ Blk w' R 76 #[.slice a bs.length c, vi p1]) (6 - 0) ⟨0, (ez + 1 + 1 + 1), (1 + em), gb, Z, (Nat.zero_le _), (by omega), (by omega), (by omega), (TabG.ge (TabG.low (TabG.lt (TabG.lt (TabG.lt (TabG.lt ic d9 (by omega)) ea (by omega)) eb (by omega)) ed (by omega)) bq.grw) de.grw hTH (by omega)), (nt (nt (nt (nt (nt (nt (nt (nt (Nat.le_of_eq hhi) bx.grw.size) d8.size) d9.size) ea.size) eb.size) ed.size) bq.grw.size) de.grw.size), Z, Z, Z, Z, Z, (low1 (low0 jo bq.grw) de.grw (by omega)), ((nf.grown0 bq.grw).gn de.grw), de.blk, ((kz.grown0 bq.grw).gn de.grw)⟩ ?_))))))
 rintro mm za Ae ⟨i, p1, kk, aa, xj, B1, hpp, hkk, haa, hGl, hhs, nb, ao, i5, ad, ae, fu, ak, dc, ng⟩
 refine Xq (Xa (Xd (v := vi (i : Int)) nb Z (Qg (q := decide ((i : Int) < 6)) Z Z Z Z (Xd (v := vb (decide ((i : Int) < 6))) Z Z ?_))))
 rcases Yg (decide ((i : Int) < 6)) with cf | cf
 have zc := of_decide_eq_true cf
 refine Xg Z Z Z cf (Xd (v := pt R 0) ao Z (Xg Z Z Z cf (Xn Qo (Xf Z (Xf Z Xm)) Z (Qb p1 6 (by omega) _ R bs _ _ _ ng (by omega) (SlLt.low1 hs fu hlo) (by first | exact hb | exact fun b h => hb b (List.mem_of_mem_take h)) (by first | omega | (rw [List.length_take]; omega))) ?_)))
 rintro _ Af ⟨i0, rfl, wj, wl, dl, O⟩
 have gx := grown_trans fu O
 refine Xg Z Z Z cf (Jm (q := decide (0 < i0)) Z Z Z Z (Xw (v := vb (decide (0 < i0))) Z cf Z Z (Xd (v := vb (decide (0 < i0))) Z Z ?_)))
 rcases Yg (decide (0 < i0)) with bw | bw
 have zd := of_decide_eq_true bw
 refine Xg Z Z Z bw (Xd (v := .slice ta ms.length tc) i5 Z (Xg Z Z Z bw (Xc (o' := 1) Q5 ae Z Z (Xg Z Z Z bw ?_))))
 have eo := (dc.gn O)
 refine Xh (v := vi E) X1 Z (eo.cell Z) Z (Xg Z Z Z bw ?_)
 have ie := (TabG.lt hGl O (by omega))
 refine Xn F8 (Xf Z (Xf Z Xm)) Z (Ld E (by omega) _ ms _ _ (TabG.at ie) hlen (by omega)) ?_
 rintro _ og ⟨rfl, V⟩
 have dh := low0 gx V
 refine Xw (v := vb (kindAt (tabT ms) E 3)) Z bw Z Z (Xd (v := vb (kindAt (tabT ms) E 3)) Z Z ?_)
 rcases Yg (kindAt (tabT ms) E 3) with bc | bc
 refine Xg Z Z Z bc (Xd (v := .slice ta ms.length tc) i5 Z (Xg Z Z Z bc (Xc (o' := 1) Q5 ae Z Z (Xg Z Z Z bc ?_))))
 have a9 := (eo.grown0 V)
 refine Xh (v := vi E) X1 Z (a9.cell Z) Z (Xg Z Z Z bc (Yr (c := E - 1) Z Z (by omega) (by omega) (by omega) Z (Xg Z Z Z bc ?_)))
 have dx := (TabG.low ie V)
 obtain ⟨m9, z0, i3, jh, j2, j3⟩ := SlAt.at (TabG.at dx).1 (Yp (xg ms (E - 1).toNat))
 have vn := TabLen.at hlen (xg ms (E - 1).toNat)
 refine X3 Qc Z Z jh j2 (by omega) (by omega) Z (Xg Z Z Z bc (Xc (o' := i3 + 5) Qj Z Z Z (Xg Z Z Z bc (Xh (v := .slice (mj ms E).sa (mj ms E).t.slots.length (mj ms E).sc) Jd Z (j3 5 _ Z) Z (Xg Z Z Z bc (Y1 (by kernel_rfl) Z Z (Xg Z Z Z bc (X6 (q := decide (((mj ms E).t.slots.length : Int) = 4)) Z Z Z Z (Xw (v := vb (decide (((mj ms E).t.slots.length : Int) = 4))) Z bc Z Z (Xb (X0 Z (fun ek => ?_) (fun ek => ?_))))))))))))
 have ze := of_decide_eq_true ek
 refine Xz (Xu (Xq (X9 (Xq ?_))))
 obtain ⟨ri, z2, uk, ow, pv, px⟩ := SlAt.at (TabAt.th (TabG.at dx) (xg ms (E - 1).toNat)).1 (Yp (xr (mj ms E).t.slots (aa).toNat))
 refine Qv (m := 12) [[], [], [1], [1, 2], [0, 1, 2, 3], [0, 1, 2, 3, 4], [0, 1, 2, 3, 4, 5], [], [7], [0, 1, 2, 3, 4, 5, 6, 7, 8], [0, 1, 2, 3, 4, 5, 6, 7, 8, 9], [], [0, 1, 2, 3, 4, 5, 6, 7, 8, 9, 10, 11]] (fun S F w' => ∃ (ac : Nat), og.grownBy w' none ∧ F 0 = pt R 0 ∧ F 1 = .slice ta ms.length tc ∧ F 4 = pt ei 0 ∧ F 5 = pt ce 0 ∧ F 6 = vi (i : Int) ∧ (S 11 = true → F 7 = pt ac 0 ∧ w.heap.size ≤ ac ∧ Blk w' ac 33 #[vi 0, vi 0, vb false, vb false, vb false] ∧ ei < ac ∧ ce < ac ∧ R < ac ∧ og.heap.size ≤ ac) ∧ Vals S F [(0, 47, .slice ta ms.length tc), (1, 48, pt ce 1), (2, 49, vi E), (3, 50, vi (E - 1)), (4, 51, pt m9 i3), (5, 52, pt m9 (i3 + 5)), (6, 53, .slice (mj ms E).sa (mj ms E).t.slots.length (mj ms E).sc), (7, 54, pt ce 2), (8, 55, vi aa), (9, 56, pt ri uk), (10, 57, .agg #[vi (rAt (mj ms E).t.slots (aa).toNat).th, vi (rAt (mj ms E).t.slots (aa).toNat).ve, vb (rAt (mj ms E).t.slots (aa).toNat).rd, vb (rAt (mj ms E).t.slots (aa).toNat).wr, vb (rAt (mj ms E).t.slots (aa).toNat).wk])]) Yz (by kernel_rfl) ⟨0, X8 _, ao, i5, ad, ae, nb, Ym, J2 _⟩ ?_ ?_
 refine Xi (fun S F Ag hS hbef hcl hI => ?_) ?_
 obtain ⟨ac, o1, rj, nc, rk, rl, rm, aj, hvs⟩ := hI
 exact Xd (v := .slice ta ms.length tc) nc Z (Xb ⟨ac, o1, rj, nc, rk, rl, rm, aj, Vals.up 0 hvs Z Z Z⟩)
 refine Xi (fun S F Ah hS hbef hcl hI => ?_) ?_
 obtain ⟨ac, o3, rn, ro, rp, nd, rq, aj, hvs⟩ := hI
 exact Xc (o' := 1) Q5 nd Z Z (Xb ⟨ac, o3, rn, ro, rp, nd, rq, aj, Vals.up 1 hvs Z Z Z⟩)
 refine Xi (fun S F Ai hS hbef hcl hI => ?_) ?_
 obtain ⟨ac, jx, rr, ru, rx, ry, rz, aj, hvs⟩ := hI
 exact Xh (v := vi E) X1 (Vals.at 1 hvs Z (Xl 1 hbef Z)) ((a9.grown0 jx).cell Z) Z (Xb ⟨ac, jx, rr, ru, rx, ry, rz, aj, Vals.up 2 hvs Z Z Z⟩)
 refine Xi (fun S F Aj hS hbef hcl hI => ?_) ?_
 obtain ⟨ac, o4, r0, r1, r2, r5, r6, aj, hvs⟩ := hI
 exact Yr (c := E - 1) (Vals.at 2 hvs Z (Xl 2 hbef Z)) Z (by omega) (by omega) (by omega) Z (Xb ⟨ac, o4, r0, r1, r2, r5, r6, aj, Vals.up 3 hvs Z Z Z⟩)
 refine Xi (fun S F Ak hS hbef hcl hI => ?_) ?_
 obtain ⟨ac, o5, r7, r8, r9, sb, sd, aj, hvs⟩ := hI
 exact X3 Qc (Vals.at 0 hvs Z (Xl 0 hbef Z)) (Vals.at 3 hvs Z (Xl 3 hbef Z)) jh j2 (by omega) (by omega) Z (Xb ⟨ac, o5, r7, r8, r9, sb, sd, aj, Vals.up 4 hvs Z Z Z⟩)
 refine Xi (fun S F Al hS hbef hcl hI => ?_) ?_
 obtain ⟨ac, o6, se, sf, sg, sh, si, aj, hvs⟩ := hI
 exact Xc (o' := i3 + 5) Qj (Vals.at 4 hvs Z (Xl 4 hbef Z)) Z Z (Xb ⟨ac, o6, se, sf, sg, sh, si, aj, Vals.up 5 hvs Z Z Z⟩)
 refine Xi (fun S F Am hS hbef hcl hI => ?_) ?_
 obtain ⟨ac, jy, sk, sm, sn, so, sp, aj, hvs⟩ := hI
 exact Xh (v := .slice (mj ms E).sa (mj ms E).t.slots.length (mj ms E).sc) Jd (Vals.at 5 hvs Z (Xl 5 hbef Z)) ((Yi j3 jy) 5 _ Z) Z (Xb ⟨ac, jy, sk, sm, sn, so, sp, aj, Vals.up 6 hvs Z Z Z⟩)
 refine Xi (fun S F An hS hbef hcl hI => ?_) ?_
 obtain ⟨ac, o7, sq, sr, su, ne, sv, aj, hvs⟩ := hI
 exact Xc (o' := 2) Kr ne Z Z (Xb ⟨ac, o7, sq, sr, su, ne, sv, aj, Vals.up 7 hvs Z Z Z⟩)
 refine Xi (fun S F Ao hS hbef hcl hI => ?_) ?_
 obtain ⟨ac, jz, sw, sy, s0, s1, s3, aj, hvs⟩ := hI
 exact Xh (v := vi aa) X1 (Vals.at 7 hvs Z (Xl 7 hbef Z)) ((a9.grown0 jz).cell Z) Z (Xb ⟨ac, jz, sw, sy, s0, s1, s3, aj, Vals.up 8 hvs Z Z Z⟩)
 refine Xi (fun S F Ap hS hbef hcl hI => ?_) ?_
 obtain ⟨ac, o8, s4, s5, s6, s7, s8, aj, hvs⟩ := hI
 exact X3 J9 (Vals.at 6 hvs Z (Xl 6 hbef Z)) (Vals.at 8 hvs Z (Xl 8 hbef Z)) ow pv (by omega) (by omega) Z (Xb ⟨ac, o8, s4, s5, s6, s7, s8, aj, Vals.up 9 hvs Z Z Z⟩)
 refine Xi (fun S F Aq hS hbef hcl hI => ?_) ?_
 obtain ⟨ac, j1, s9, td, te, tf, tg, aj, hvs⟩ := hI
 exact Xr (vs := [vi (rAt (mj ms E).t.slots (aa).toNat).th, vi (rAt (mj ms E).t.slots (aa).toNat).ve, vb (rAt (mj ms E).t.slots (aa).toNat).rd, vb (rAt (mj ms E).t.slots (aa).toNat).wr, vb (rAt (mj ms E).t.slots (aa).toNat).wk]) Y0 (Vals.at 9 hvs Z (Xl 9 hbef Z)) Z (Y2 (Yi px j1) 0 5 Z) Z (Xb ⟨ac, j1, s9, td, te, tf, tg, aj, Vals.up 10 hvs Z Z Z⟩)
 refine Xi (fun S F Ar hS hbef hcl hI => ?_) ?_
 obtain ⟨ac, cz, ti, tj, tk, tl, tn, aj, hvs⟩ := hI
 refine Yf (cs := #[vi 0, vi 0, vb false, vb false, vb false]) K3 Z Z ?_
 intro m8 As cg
 have mg := Yd cg (low0 dh cz)
 have tx : hi ≤ m8 := nt (nt (nt (nt hhs O.size) V.size) cz.size) (Nat.le_of_eq cg.eq.symm)
 have eg := Xo cg ((((ak.gn O).grown0 V).grown0 cz)).lt
 have eh := Xo cg ((a9.grown0 cz)).lt
 have ia := Xo cg (((dl.grown0 V).grown0 cz)).lt
 exact Xb ⟨m8, (low0 cz cg.grw), ti, tj, tk, tl, tn, fun _ => ⟨Z, mg, cg.blk, eg, eh, ia, (nt cz.size (Nat.le_of_eq cg.eq.symm))⟩, Vals.keep hvs Z⟩
 exact Jb
 intro S F At hall hI
 obtain ⟨ac, af, i6, ej, i7, d6, i8, aj, hvs⟩ := hI
 obtain ⟨ib, vd, k0, ln, l3, qo, t9⟩ := aj (hall 11 (by decide))
 refine Xy (vs := [vi (rAt (mj ms E).t.slots (aa).toNat).th, vi (rAt (mj ms E).t.slots (aa).toNat).ve, vb (rAt (mj ms E).t.slots (aa).toNat).rd, vb (rAt (mj ms E).t.slots (aa).toNat).wr, vb (rAt (mj ms E).t.slots (aa).toNat).wk]) (cs' := #[vi (rAt (mj ms E).t.slots (aa).toNat).th, vi (rAt (mj ms E).t.slots (aa).toNat).ve, vb (rAt (mj ms E).t.slots (aa).toNat).rd, vb (rAt (mj ms E).t.slots (aa).toNat).wr, vb (rAt (mj ms E).t.slots (aa).toNat).wk]) Y0 ib (Vals.at 10 hvs Z (hall 10 (by decide))) Z (by simp [Value.oneCell']) k0 (Nat.le_of_ble_eq_true Z) Z ?_
 intro i4 ab
 refine Xb (Xu (Xq (Kj (fun f' w' => (f' 0 = pt R 0 ∧ f' 1 = .slice ta ms.length tc ∧ f' 4 = pt ei 0 ∧ f' 5 = pt ce 0 ∧ f' 6 = vi (i : Int) ∧ f' 79 = vb ((decide (kk = 3)) || (inR (rAt (mj ms E).t.slots (aa).toNat).th 1 (ms.length : Int) && kindFor kk (mj ms (rAt (mj ms E).t.slots (aa).toNat).th).t.kind))) ∧ i4.grownBy w' none) ?_ ?_)))
 rcases Yg (decide (kk = 3)) with ag | ag
 have zf := of_decide_eq_true ag
 refine Yy (m := 19) (vals := [(58, pt ce 0), (59, vi kk), (60, vb (decide (kk = 3))), (61, vb (decide (kk = 3))), (62, undef), (63, undef), (64, undef), (65, undef), (66, undef), (67, undef), (68, undef), (69, undef), (70, undef), (71, undef), (72, undef), (73, undef), (74, undef), (75, undef), (76, undef)]) (fun w' => i4.grownBy w' none) Yz (by kernel_rfl) (X8 _) ?_ ?_
 refine yl Z (fun _ _ k => Xc (o' := 0) Ji d6 Z Z k) (yl Z (fun _ o9 k => Xh (v := vi kk) X1 Z ((((a9.grown0 af).gn ab.grw).grown0 o9).cell Z) Z k) (yl Z (fun _ _ k => X6 (q := decide (kk = 3)) Z Z Z Z k) (yl Z (fun _ _ k => Xd (v := vb (decide (kk = 3))) Z Z k) (yl Z (fun _ _ k => Xj Z Z Z ag Z k) (yl Z (fun _ _ k => Xj Z Z Z ag Z k) (yl Z (fun _ _ k => Xj Z Z Z ag Z k) (yl Z (fun _ _ k => Xj Z Z Z ag Z k) (yl Z (fun _ _ k => Xj Z Z Z ag Z k) (yl Z (fun _ _ k => Xj Z Z Z ag Z k) (yl Z (fun _ _ k => Yu Z Z Z Z k) ?_))))))))))
 exact yl Z (fun _ _ k => Yu Z Z Z Z k) (yl Z (fun _ _ k => Yu Z Z Z Z k) (yl Z (fun _ _ k => Yu Z Z Z Z k) (yl Z (fun _ _ k => Yu Z Z Z Z k) (yl Z (fun _ _ k => Yu Z Z Z Z k) (yl Z (fun _ _ k => Yu Z Z Z Z k) (yl Z (fun _ _ k => Yu Z Z Z Z k) (yl Z (fun _ _ k => Yu Z Z Z Z k) Y8)))))))
 intro Au pb
 exact Yu Z Z Z Z (Xj Z Z Z ag Z (Xw (v := vb true) Z ag Z Z (Xb (Xu ⟨⟨i6, ej, i7, d6, i8, (cB (by simp [cf, bw, bc, ek, ag]))⟩, pb⟩))))
 have zg := of_decide_eq_false ag
 rcases Yg (inR (rAt (mj ms E).t.slots (aa).toNat).th 1 (ms.length : Int)) with ai | ai
 have xn := Qi.1 ai
 have mf := (TabG.ge (TabG.low dx af) ab.grw hTH (by omega))
 obtain ⟨na, z3, ll, ox, pw, py⟩ := SlAt.at (TabG.at mf).1 (Yp (xg ms ((rAt (mj ms E).t.slots (aa).toNat).th - 1).toNat))
 have vo := TabLen.at hlen (xg ms ((rAt (mj ms E).t.slots (aa).toNat).th - 1).toNat)
 refine Yy (m := 19) (vals := [(58, pt ce 0), (59, vi kk), (60, vb (decide (kk = 3))), (61, vb (decide (kk = 3))), (62, pt ac 0), (63, vi (rAt (mj ms E).t.slots (aa).toNat).th), (64, .slice ta ms.length tc), (65, vi (ms.length : Int)), (66, vb (inR (rAt (mj ms E).t.slots (aa).toNat).th 1 (ms.length : Int))), (67, vb (inR (rAt (mj ms E).t.slots (aa).toNat).th 1 (ms.length : Int))), (68, pt ce 0), (69, vi kk), (70, .slice ta ms.length tc), (71, pt ac 0), (72, vi (rAt (mj ms E).t.slots (aa).toNat).th), (73, vi ((rAt (mj ms E).t.slots (aa).toNat).th - 1)), (74, pt na ll), (75, pt na ll), (76, vi (mj ms (rAt (mj ms E).t.slots (aa).toNat).th).t.kind)]) (fun w' => i4.grownBy w' none) Yz (by kernel_rfl) (X8 _) ?_ ?_
 refine yl Z (fun _ _ k => Xc (o' := 0) Ji d6 Z Z k) (yl Z (fun _ pc k => Xh (v := vi kk) X1 Z ((((a9.grown0 af).gn ab.grw).grown0 pc).cell Z) Z k) (yl Z (fun _ _ k => X6 (q := decide (kk = 3)) Z Z Z Z k) (yl Z (fun _ _ k => Xd (v := vb (decide (kk = 3))) Z Z k) (yl Z (fun _ _ k => Xg Z Z Z ag (Xc (o' := 0) Yo ib Z Z k)) (yl Z (fun _ pd k => Xg Z Z Z ag (Xh (v := vi (rAt (mj ms E).t.slots (aa).toNat).th) X1 Z ((ab.blk.grown0 pd).cell Z) Z k)) (yl Z (fun _ _ k => Xg Z Z Z ag (Xd (v := .slice ta ms.length tc) ej Z k)) (yl Z (fun _ _ k => Xg Z Z Z ag (Y1 (by kernel_rfl) Z Z k)) ?_)))))))
 refine Qh Z (fun Av pe => ?_) ?_
 refine Xg Z Z Z ag (Xn K0 (Xf Z (Xf Z (Xf Z Xm))) Z (Kk (rAt (mj ms E).t.slots (aa).toNat).th 1 (ms.length : Int) _) ?_)
 rintro _ Aw ⟨rfl, oy⟩
 exact Xb ⟨Z, (grown_trans pe oy)⟩
 exact yl Z (fun _ _ k => Xg Z Z Z ag (Xd (v := vb (inR (rAt (mj ms E).t.slots (aa).toNat).th 1 (ms.length : Int))) Z Z k)) (yl Z (fun _ _ k => Xg Z Z Z ai (Xc (o' := 0) Ji d6 Z Z k)) (yl Z (fun _ pf k => Xg Z Z Z ai (Xh (v := vi kk) X1 Z ((((a9.grown0 af).gn ab.grw).grown0 pf).cell Z) Z k)) (yl Z (fun _ _ k => Xg Z Z Z ai (Xd (v := .slice ta ms.length tc) ej Z k)) (yl Z (fun _ _ k => Xg Z Z Z ai (Xc (o' := 0) Yo ib Z Z k)) (yl Z (fun _ pg k => Xg Z Z Z ai (Xh (v := vi (rAt (mj ms E).t.slots (aa).toNat).th) X1 Z ((ab.blk.grown0 pg).cell Z) Z k)) (yl Z (fun _ _ k => Xg Z Z Z ai (Yr (c := (rAt (mj ms E).t.slots (aa).toNat).th - 1) Z Z (by omega) (by omega) (by omega) Z k)) (yl Z (fun _ _ k => Xg Z Z Z ai (X3 Qc Z Z ox pw (by omega) (by omega) Z k)) (yl Z (fun _ _ k => Xg Z Z Z ai (Xc (o' := ll) Qd Z Z Z k)) (yl Z (fun _ ph k => Xg Z Z Z ai (Xh (v := vi (mj ms (rAt (mj ms E).t.slots (aa).toNat).th).t.kind) X1 Z ((Yi py ph) 0 _ Z) Z k)) Y8)))))))))
 intro Ax pi
 refine Xg Z Z Z ai (Xn La (Xf Z (Xf Z Xm)) Z (Vm kk (mj ms (rAt (mj ms E).t.slots (aa).toNat).th).t.kind _) ?_)
 rintro _ Ay ⟨rfl, oz⟩
 exact Xg Z Z Z ag (Xw (v := vb (kindFor kk (mj ms (rAt (mj ms E).t.slots (aa).toNat).th).t.kind)) Z ai Z Z (Xp (v := vb (kindFor kk (mj ms (rAt (mj ms E).t.slots (aa).toNat).th).t.kind)) Z ag Z Z (Xb (Xu ⟨⟨i6, ej, i7, d6, i8, (cB (by simp [cf, bw, bc, ek, ag, ai]))⟩, (grown_trans pi oz)⟩))))
 refine Yy (m := 19) (vals := [(58, pt ce 0), (59, vi kk), (60, vb (decide (kk = 3))), (61, vb (decide (kk = 3))), (62, pt ac 0), (63, vi (rAt (mj ms E).t.slots (aa).toNat).th), (64, .slice ta ms.length tc), (65, vi (ms.length : Int)), (66, vb (inR (rAt (mj ms E).t.slots (aa).toNat).th 1 (ms.length : Int))), (67, vb (inR (rAt (mj ms E).t.slots (aa).toNat).th 1 (ms.length : Int))), (68, undef), (69, undef), (70, undef), (71, undef), (72, undef), (73, undef), (74, undef), (75, undef), (76, undef)]) (fun w' => i4.grownBy w' none) Yz (by kernel_rfl) (X8 _) ?_ ?_
 refine yl Z (fun _ _ k => Xc (o' := 0) Ji d6 Z Z k) (yl Z (fun _ pj k => Xh (v := vi kk) X1 Z ((((a9.grown0 af).gn ab.grw).grown0 pj).cell Z) Z k) (yl Z (fun _ _ k => X6 (q := decide (kk = 3)) Z Z Z Z k) (yl Z (fun _ _ k => Xd (v := vb (decide (kk = 3))) Z Z k) (yl Z (fun _ _ k => Xg Z Z Z ag (Xc (o' := 0) Yo ib Z Z k)) (yl Z (fun _ pk k => Xg Z Z Z ag (Xh (v := vi (rAt (mj ms E).t.slots (aa).toNat).th) X1 Z ((ab.blk.grown0 pk).cell Z) Z k)) (yl Z (fun _ _ k => Xg Z Z Z ag (Xd (v := .slice ta ms.length tc) ej Z k)) (yl Z (fun _ _ k => Xg Z Z Z ag (Y1 (by kernel_rfl) Z Z k)) ?_)))))))
 refine Qh Z (fun Az pl => ?_) ?_
 refine Xg Z Z Z ag (Xn K0 (Xf Z (Xf Z (Xf Z Xm))) Z (Kk (rAt (mj ms E).t.slots (aa).toNat).th 1 (ms.length : Int) _) ?_)
 rintro _ A0 ⟨rfl, o0⟩
 exact Xb ⟨Z, (grown_trans pl o0)⟩
 exact yl Z (fun _ _ k => Xg Z Z Z ag (Xd (v := vb (inR (rAt (mj ms E).t.slots (aa).toNat).th 1 (ms.length : Int))) Z Z k)) (yl Z (fun _ _ k => Xj Z Z Z ai Z k) (yl Z (fun _ _ k => Xj Z Z Z ai Z k) (yl Z (fun _ _ k => Xj Z Z Z ai Z k) (yl Z (fun _ _ k => Xj Z Z Z ai Z k) (yl Z (fun _ _ k => Xj Z Z Z ai Z k) (yl Z (fun _ _ k => Xj Z Z Z ai Z k) (yl Z (fun _ _ k => Xj Z Z Z ai Z k) (yl Z (fun _ _ k => Xj Z Z Z ai Z k) (yl Z (fun _ _ k => Xj Z Z Z ai Z k) Y8)))))))))
 intro A1 pm
 exact Xj Z Z Z ai Z (Xg Z Z Z ag (Xp (v := vb false) Z ai Z Z (Xp (v := vb false) Z ag Z Z (Xb (Xu ⟨⟨i6, ej, i7, d6, i8, (cB (by simp [cf, bw, bc, ek, ag, ai]))⟩, pm⟩)))))
 rintro zb A2 ⟨⟨d7, tp, db, ct, tq, tr⟩, ah⟩
 have fv := low0 (low1 (low0 dh af) ab.grw (by omega)) ah
 refine X0 tr (fun i9 => ?_) (fun i9 => ?_)
 refine Qf (Y9 (Xcd (by decide) (Y9 (Y9 (Jh (Xu (Xq (Xa (Xd (v := pt R 0) d7 Z (Xn Qo (Xf Z (Xf Z Xm)) Z (Qb (p1 + 1) 50 (by omega) _ R bs _ _ _ ((((dl.grown0 V).grown0 af).gn ab.grw).grown0 ah) (by omega) (SlLt.low1 hs fv hlo) (by first | exact hb | exact fun b h => hb b (List.mem_of_mem_take h)) (by first | omega | (rw [List.length_take]; omega))) ?_))))))))))
 rintro _ A3 ⟨ep, rfl, wm, wn, c8, an⟩
 have cv := grown_trans fv an
 refine Xb (X9 (Xa (X6 (q := decide (ep = 0)) Z Z Z Z (Xe (v := vb (decide (ep = 0))) Z Z (Xb (X0 Z (fun ja => ?_) (fun ja => ?_)))))))
 have zh := of_decide_eq_true ja
 refine X2 (X7 (ps := [(0, vi 0), (1, vi 10)]) (e := 3) (cs := (([0, 10] : List Int).flatMap icell).toArray) (Xk Z (Xk Z X5)) (fun _ => by kernel_rfl) Z ?_)
 intro q8 A4 bd
 have vf := Yd bd cv
 have tz : hi ≤ q8 := nt (nt (nt (nt (nt (nt (nt hhs O.size) V.size) af.size) ab.grw.size) ah.size) an.size) (Nat.le_of_eq bd.eq.symm)
 have nh := ((((((ak.gn O).grown0 V).grown0 af).gn ab.grw).grown0 ah).gn an)
 have lp := Xo bd (nh).lt
 have ni := ((((a9.grown0 af).gn ab.grw).grown0 ah).gn an)
 have l4 := Xo bd (ni).lt
 have qp := Xo bd (c8).lt
 have mb := Xo bd (((ab.blk.grown0 ah).gn an)).lt
 have jp := low0 cv bd.grw
 refine Xd (v := pt R 0) d7 Z (Xn Qo (Xf Z (Xf Z Xm)) Z (Qb (p1 + 1 + 1) 2 (by omega) _ R bs _ _ _ (c8.grown0 bd.grw) (by omega) (SlLt.low1 hs jp hlo) (by first | exact hb | exact fun b h => hb b (List.mem_of_mem_take h)) (by first | omega | (rw [List.length_take]; omega))) ?_)
 rintro _ A5 ⟨ks, rfl, wo, wq, qb, fw⟩
 refine X4 (o' := (ks).toNat * 1) J4 Z Z (by omega) (by omega) (by omega) Z ?_
 obtain ⟨cj, j4⟩ := Ja (l := ([0, 10] : List Int)) (i := (ks).toNat) (lq (ks).toNat 2)
 have pn := List.mem_of_getElem? j4
 simp only [List.mem_cons, List.not_mem_nil, or_false] at pn
 refine Xh (v := vi cj) X1 Z ((Qs Yq (bd.blk.gn fw) j4) 0 _ Z) Z (Xc (o' := 0) Ji ct Z Z (Yc (v := vi cj) (cs' := #[vi cj, vi E, vi aa, vi G, vi J]) X1 Z Z Z ((ni.grown0 bd.grw).gn fw) (Nat.le_of_ble_eq_true Z) Z ?_))
 intro A6 fm
 refine Xb (Y3 (Xu (Xa (Xr (vs := [vi cj, vi E, vi aa, vi G, vi J]) Y6 ct Z (fm.blk.rangeL 0 5 Z) Z (Xy (vs := [vi cj, vi E, vi aa, vi G, vi J]) (cs' := #[vi cj, vi E, vi aa, vi G, vi J]) Y6 db Z Z (by simp [Value.oneCell']) (((nh.grown0 bd.grw).gn fw).gn fm.grw) (Nat.le_of_ble_eq_true Z) Z ?_)))))
 intro A7 gm
 refine Xb (Xt ?_)
 refine ⟨.agg #[vi cj, vi E, vi aa, vi G, vi J], Jt Z (Yh (vs := [vi cj, vi E, vi aa, vi G, vi J]) Y6 db Z (gm.blk.rangeL 0 5 Z)), ⟨cj, E, aa, G, J⟩, (p1 + 1 + 1 + 1), Z, ⟨⟨show (0 : Int) ≤ cj by omega, show cj ≤ (10 : Int) by omega⟩, ⟨show (1 : Int) ≤ E by omega, show E ≤ (ms.length : Int) by omega⟩, ⟨show (-1 : Int) ≤ aa by omega, show aa ≤ (4 : Int) by omega⟩, ⟨show (0 : Int) ≤ G by omega, show G ≤ (3 : Int) by omega⟩, show (-1 : Int) ≤ J by omega, show J ≤ (100 : Int) by omega⟩, by omega, by omega, ((qb.gn fm.grw).gn gm.grw), (low1 (low1 (grown_trans jp fw) fm.grw (by omega)) gm.grw (by omega))⟩
 have zi := of_decide_eq_false ja
 refine Xa (X6 (q := decide (ep = 1)) Z Z Z Z (Xe (v := vb (decide (ep = 1))) Z Z (Xb (X0 Z (fun jb => ?_) (fun jb => ?_)))))
 have zj := of_decide_eq_true jb
 refine X2 (X7 (ps := [(0, vi (-1)), (1, vi 4)]) (e := 3) (cs := (([(-1), 4] : List Int).flatMap icell).toArray) (Xk Z (Xk Z X5)) (fun _ => by kernel_rfl) Z ?_)
 intro q9 A8 be
 have vg := Yd be cv
 have t0 : hi ≤ q9 := nt (nt (nt (nt (nt (nt (nt hhs O.size) V.size) af.size) ab.grw.size) ah.size) an.size) (Nat.le_of_eq be.eq.symm)
 have nj := ((((((ak.gn O).grown0 V).grown0 af).gn ab.grw).grown0 ah).gn an)
 have lu := Xo be (nj).lt
 have nk := ((((a9.grown0 af).gn ab.grw).grown0 ah).gn an)
 have l5 := Xo be (nk).lt
 have qq := Xo be (c8).lt
 have mc := Xo be (((ab.blk.grown0 ah).gn an)).lt
 have jq := low0 cv be.grw
 refine Xd (v := pt R 0) d7 Z (Xn Qo (Xf Z (Xf Z Xm)) Z (Qb (p1 + 1 + 1) 2 (by omega) _ R bs _ _ _ (c8.grown0 be.grw) (by omega) (SlLt.low1 hs jq hlo) (by first | exact hb | exact fun b h => hb b (List.mem_of_mem_take h)) (by first | omega | (rw [List.length_take]; omega))) ?_)
 rintro _ A9 ⟨kt, rfl, ws, wt, qd, fx⟩
 refine X4 (o' := (kt).toNat * 1) J4 Z Z (by omega) (by omega) (by omega) Z ?_
 obtain ⟨ck, j5⟩ := Ja (l := ([(-1), 4] : List Int)) (i := (kt).toNat) (lq (kt).toNat 2)
 have po := List.mem_of_getElem? j5
 simp only [List.mem_cons, List.not_mem_nil, or_false] at po
 refine Xh (v := vi ck) X1 Z ((Qs Yq (be.blk.gn fx) j5) 0 _ Z) Z (Xc (o' := 2) Kr ct Z Z (Yc (v := vi ck) (cs' := #[vi kk, vi E, vi ck, vi G, vi J]) X1 Z Z Z ((nk.grown0 be.grw).gn fx) (Nat.le_of_ble_eq_true Z) Z ?_))
 intro Ba fo
 refine Xb (Y3 (Xu (Xa (Xr (vs := [vi kk, vi E, vi ck, vi G, vi J]) Y6 ct Z (fo.blk.rangeL 0 5 Z) Z (Xy (vs := [vi kk, vi E, vi ck, vi G, vi J]) (cs' := #[vi kk, vi E, vi ck, vi G, vi J]) Y6 db Z Z (by simp [Value.oneCell']) (((nj.grown0 be.grw).gn fx).gn fo.grw) (Nat.le_of_ble_eq_true Z) Z ?_)))))
 intro Bb gp
 refine Xb (Xt ?_)
 refine ⟨.agg #[vi kk, vi E, vi ck, vi G, vi J], Jt Z (Yh (vs := [vi kk, vi E, vi ck, vi G, vi J]) Y6 db Z (gp.blk.rangeL 0 5 Z)), ⟨kk, E, ck, G, J⟩, (p1 + 1 + 1 + 1), Z, ⟨⟨show (0 : Int) ≤ kk by omega, show kk ≤ (10 : Int) by omega⟩, ⟨show (1 : Int) ≤ E by omega, show E ≤ (ms.length : Int) by omega⟩, ⟨show (-1 : Int) ≤ ck by omega, show ck ≤ (4 : Int) by omega⟩, ⟨show (0 : Int) ≤ G by omega, show G ≤ (3 : Int) by omega⟩, show (-1 : Int) ≤ J by omega, show J ≤ (100 : Int) by omega⟩, by omega, by omega, ((qd.gn fo.grw).gn gp.grw), (low1 (low1 (grown_trans jq fx) fo.grw (by omega)) gp.grw (by omega))⟩
 have zk := of_decide_eq_false jb
 refine Xa (X6 (q := decide (ep = 2)) Z Z Z Z (Xe (v := vb (decide (ep = 2))) Z Z (Xb (X0 Z (fun jc => ?_) (fun jc => ?_)))))
 have zl := of_decide_eq_true jc
 refine X2 (X7 (ps := [(0, vi (-1)), (1, vi 100)]) (e := 3) (cs := (([(-1), 100] : List Int).flatMap icell).toArray) (Xk Z (Xk Z X5)) (fun _ => by kernel_rfl) Z ?_)
 intro ra Bc bf
 have vh := Yd bf cv
 have t4 : hi ≤ ra := nt (nt (nt (nt (nt (nt (nt hhs O.size) V.size) af.size) ab.grw.size) ah.size) an.size) (Nat.le_of_eq bf.eq.symm)
 have nn := ((((((ak.gn O).grown0 V).grown0 af).gn ab.grw).grown0 ah).gn an)
 have lv := Xo bf (nn).lt
 have no := ((((a9.grown0 af).gn ab.grw).grown0 ah).gn an)
 have l6 := Xo bf (no).lt
 have qr := Xo bf (c8).lt
 have me := Xo bf (((ab.blk.grown0 ah).gn an)).lt
 have jr := low0 cv bf.grw
 refine Xd (v := pt R 0) d7 Z (Xn Qo (Xf Z (Xf Z Xm)) Z (Qb (p1 + 1 + 1) 2 (by omega) _ R bs _ _ _ (c8.grown0 bf.grw) (by omega) (SlLt.low1 hs jr hlo) (by first | exact hb | exact fun b h => hb b (List.mem_of_mem_take h)) (by first | omega | (rw [List.length_take]; omega))) ?_)
 rintro _ Bd ⟨ku, rfl, wu, wv, qe, fy⟩
 refine X4 (o' := (ku).toNat * 1) J4 Z Z (by omega) (by omega) (by omega) Z ?_
 obtain ⟨cl, j6⟩ := Ja (l := ([(-1), 100] : List Int)) (i := (ku).toNat) (lq (ku).toNat 2)
 have pp := List.mem_of_getElem? j6
 simp only [List.mem_cons, List.not_mem_nil, or_false] at pp
 refine Xh (v := vi cl) X1 Z ((Qs Yq (bf.blk.gn fy) j6) 0 _ Z) Z (Xc (o' := 4) Js ct Z Z (Yc (v := vi cl) (cs' := #[vi kk, vi E, vi aa, vi G, vi cl]) X1 Z Z Z ((no.grown0 bf.grw).gn fy) (Nat.le_of_ble_eq_true Z) Z ?_))
 intro Be fp
 refine Xb (Y3 (Xu (Xa (Xr (vs := [vi kk, vi E, vi aa, vi G, vi cl]) Y6 ct Z (fp.blk.rangeL 0 5 Z) Z (Xy (vs := [vi kk, vi E, vi aa, vi G, vi cl]) (cs' := #[vi kk, vi E, vi aa, vi G, vi cl]) Y6 db Z Z (by simp [Value.oneCell']) (((nn.grown0 bf.grw).gn fy).gn fp.grw) (Nat.le_of_ble_eq_true Z) Z ?_)))))
 intro Bf gq
 refine Xb (Xt ?_)
 refine ⟨.agg #[vi kk, vi E, vi aa, vi G, vi cl], Jt Z (Yh (vs := [vi kk, vi E, vi aa, vi G, vi cl]) Y6 db Z (gq.blk.rangeL 0 5 Z)), ⟨kk, E, aa, G, cl⟩, (p1 + 1 + 1 + 1), Z, ⟨⟨show (0 : Int) ≤ kk by omega, show kk ≤ (10 : Int) by omega⟩, ⟨show (1 : Int) ≤ E by omega, show E ≤ (ms.length : Int) by omega⟩, ⟨show (-1 : Int) ≤ aa by omega, show aa ≤ (4 : Int) by omega⟩, ⟨show (0 : Int) ≤ G by omega, show G ≤ (3 : Int) by omega⟩, show (-1 : Int) ≤ cl by omega, show cl ≤ (100 : Int) by omega⟩, by omega, by omega, ((qe.gn fp.grw).gn gq.grw), (low1 (low1 (grown_trans jr fy) fp.grw (by omega)) gq.grw (by omega))⟩
 have zm := of_decide_eq_false jc
 refine Xz (Y3 (Xu (Xa (Xr (vs := [vi kk, vi E, vi aa, vi G, vi J]) Y6 ct Z (((((a9.grown0 af).gn ab.grw).grown0 ah).gn an).rangeL 0 5 Z) Z (Xy (vs := [vi kk, vi E, vi aa, vi G, vi J]) (cs' := #[vi kk, vi E, vi aa, vi G, vi J]) Y6 db Z Z (by simp [Value.oneCell']) ((((((ak.gn O).grown0 V).grown0 af).gn ab.grw).grown0 ah).gn an) (Nat.le_of_ble_eq_true Z) Z ?_)))))
 intro Bg gr
 refine Xb (Xt ?_)
 refine ⟨.agg #[vi kk, vi E, vi aa, vi G, vi J], Jt Z (Yh (vs := [vi kk, vi E, vi aa, vi G, vi J]) Y6 db Z (gr.blk.rangeL 0 5 Z)), ⟨kk, E, aa, G, J⟩, (p1 + 1 + 1), Z, ⟨⟨show (0 : Int) ≤ kk by omega, show kk ≤ (10 : Int) by omega⟩, ⟨show (1 : Int) ≤ E by omega, show E ≤ (ms.length : Int) by omega⟩, ⟨show (-1 : Int) ≤ aa by omega, show aa ≤ (4 : Int) by omega⟩, ⟨show (0 : Int) ≤ G by omega, show G ≤ (3 : Int) by omega⟩, show (-1 : Int) ≤ J by omega, show J ≤ (100 : Int) by omega⟩, by omega, by omega, (c8.gn gr.grw), (low1 cv gr.grw (by omega))⟩
 have tt := Kl i9
 have zn := of_decide_eq_false tt
 have zo := Km i9
 refine Xz (Xu (Xa (Xd (v := pt R 0) d7 Z (Xn Qo (Xf Z (Xf Z Xm)) Z (Qb (p1 + 1) 4 (by omega) _ R bs _ _ _ ((((dl.grown0 V).grown0 af).gn ab.grw).grown0 ah) (by omega) (SlLt.low1 hs fv hlo) (by first | exact hb | exact fun b h => hb b (List.mem_of_mem_take h)) (by first | omega | (rw [List.length_take]; omega))) ?_))))
 rintro _ Bh ⟨i1, rfl, ww, wx, qf, ee⟩
 refine Xc (o' := 2) Kr ct Z Z (Yc (v := vi i1) (cs' := #[vi kk, vi E, vi i1, vi G, vi J]) X1 Z Z Z ((((a9.grown0 af).gn ab.grw).grown0 ah).gn ee) (Nat.le_of_ble_eq_true Z) Z ?_)
 intro Bi df
 have js := low1 (grown_trans fv ee) df.grw (by omega)
 refine Xb (X2 (Xd (v := pt R 0) d7 Z (Xn Qo (Xf Z (Xf Z Xm)) Z (Qb (p1 + 1 + 1) 9 (by omega) _ R bs _ _ _ (qf.gn df.grw) (by omega) (SlLt.low1 hs js hlo) (by first | exact hb | exact fun b h => hb b (List.mem_of_mem_take h)) (by first | omega | (rw [List.length_take]; omega))) ?_)))
 rintro _ Bj ⟨i2, rfl, wy, wz, qg, ef⟩
 refine Yl (c := 1 + i2) Z Z (by omega) (by omega) (by omega) Z (Xc (o' := 0) Ji ct Z Z (Yc (v := vi (1 + i2)) (cs' := #[vi (1 + i2), vi E, vi i1, vi G, vi J]) X1 Z Z Z (df.blk.gn ef) (Nat.le_of_ble_eq_true Z) Z ?_))
 intro Bk dg
 exact Xb (Y3 (Xu (X2 (Xd (v := vi (i : Int)) tq Z (Yl (c := (i : Int) + 1) Z Z (by omega) (by omega) (by omega) Z (Xe (v := vi ((i : Int) + 1)) Z Z (Xb (Xu (⟨6 - (i + 1), by omega, (i + 1), (p1 + 1 + 1 + 1), (1 + i2), i1, Z, (by omega), (by omega), (by omega), (by omega), (TabG.ge (TabG.lt (TabG.ge (TabG.lt (TabG.low (TabG.ge (TabG.low dx af) ab.grw hTH (by omega)) ah) ee (by omega)) df.grw hTH (by omega)) ef (by omega)) dg.grw hTH (by omega)), (nt (nt (nt (nt (nt (nt (nt (nt (nt hhs O.size) V.size) af.size) ab.grw.size) ah.size) ee.size) df.grw.size) ef.size) dg.grw.size), Z, d7, tp, db, ct, (low1 (grown_trans js ef) dg.grw (by omega)), (((((((((ak.gn O).grown0 V).grown0 af).gn ab.grw).grown0 ah).gn ee).gn df.grw).gn ef).gn dg.grw), dg.blk, (qg.gn dg.grw)⟩)))))))))
 have zp := of_decide_eq_false ek
 refine Qf (Y9 (Y9 (Jh (Xu (Xq (Xa (Xd (v := pt R 0) ao Z (Xn Qo (Xf Z (Xf Z Xm)) Z (Qb (p1 + 1) 50 (by omega) _ R bs _ _ _ (dl.grown0 V) (by omega) (SlLt.low1 hs dh hlo) (by first | exact hb | exact fun b h => hb b (List.mem_of_mem_take h)) (by first | omega | (rw [List.length_take]; omega))) ?_))))))))
 rintro _ Bl ⟨eu, rfl, w5, w7, c9, ba⟩
 have cw := grown_trans dh ba
 refine Xb (X9 (Xa (X6 (q := decide (eu = 0)) Z Z Z Z (Xe (v := vb (decide (eu = 0))) Z Z (Xb (X0 Z (fun jd => ?_) (fun jd => ?_)))))))
 have zq := of_decide_eq_true jd
 refine X2 (X7 (ps := [(0, vi 0), (1, vi 10)]) (e := 3) (cs := (([0, 10] : List Int).flatMap icell).toArray) (Xk Z (Xk Z X5)) (fun _ => by kernel_rfl) Z ?_)
 intro rb Bm br
 have vj := Yd br cw
 have t5 : hi ≤ rb := nt (nt (nt (nt hhs O.size) V.size) ba.size) (Nat.le_of_eq br.eq.symm)
 have np := (((ak.gn O).grown0 V).gn ba)
 have lw := Xo br (np).lt
 have nq := (a9.gn ba)
 have l7 := Xo br (nq).lt
 have qt := Xo br (c9).lt
 have jt := low0 cw br.grw
 refine Xd (v := pt R 0) ao Z (Xn Qo (Xf Z (Xf Z Xm)) Z (Qb (p1 + 1 + 1) 2 (by omega) _ R bs _ _ _ (c9.grown0 br.grw) (by omega) (SlLt.low1 hs jt hlo) (by first | exact hb | exact fun b h => hb b (List.mem_of_mem_take h)) (by first | omega | (rw [List.length_take]; omega))) ?_)
 rintro _ Bn ⟨kv, rfl, w8, w9, qh, fz⟩
 refine X4 (o' := (kv).toNat * 1) J4 Z Z (by omega) (by omega) (by omega) Z ?_
 obtain ⟨cm, j7⟩ := Ja (l := ([0, 10] : List Int)) (i := (kv).toNat) (lq (kv).toNat 2)
 have pq := List.mem_of_getElem? j7
 simp only [List.mem_cons, List.not_mem_nil, or_false] at pq
 refine Xh (v := vi cm) X1 Z ((Qs Yq (br.blk.gn fz) j7) 0 _ Z) Z (Xc (o' := 0) Ji ae Z Z (Yc (v := vi cm) (cs' := #[vi cm, vi E, vi aa, vi G, vi J]) X1 Z Z Z ((nq.grown0 br.grw).gn fz) (Nat.le_of_ble_eq_true Z) Z ?_))
 intro Bo fq
 refine Xb (Y3 (Xu (Xa (Xr (vs := [vi cm, vi E, vi aa, vi G, vi J]) Y6 ae Z (fq.blk.rangeL 0 5 Z) Z (Xy (vs := [vi cm, vi E, vi aa, vi G, vi J]) (cs' := #[vi cm, vi E, vi aa, vi G, vi J]) Y6 ad Z Z (by simp [Value.oneCell']) (((np.grown0 br.grw).gn fz).gn fq.grw) (Nat.le_of_ble_eq_true Z) Z ?_)))))
 intro Bp gt
 refine Xb (Xt ?_)
 refine ⟨.agg #[vi cm, vi E, vi aa, vi G, vi J], Jt Z (Yh (vs := [vi cm, vi E, vi aa, vi G, vi J]) Y6 ad Z (gt.blk.rangeL 0 5 Z)), ⟨cm, E, aa, G, J⟩, (p1 + 1 + 1 + 1), Z, ⟨⟨show (0 : Int) ≤ cm by omega, show cm ≤ (10 : Int) by omega⟩, ⟨show (1 : Int) ≤ E by omega, show E ≤ (ms.length : Int) by omega⟩, ⟨show (-1 : Int) ≤ aa by omega, show aa ≤ (4 : Int) by omega⟩, ⟨show (0 : Int) ≤ G by omega, show G ≤ (3 : Int) by omega⟩, show (-1 : Int) ≤ J by omega, show J ≤ (100 : Int) by omega⟩, by omega, by omega, ((qh.gn fq.grw).gn gt.grw), (low1 (low1 (grown_trans jt fz) fq.grw (by omega)) gt.grw (by omega))⟩
 have zr := of_decide_eq_false jd
 refine Xa (X6 (q := decide (eu = 1)) Z Z Z Z (Xe (v := vb (decide (eu = 1))) Z Z (Xb (X0 Z (fun je => ?_) (fun je => ?_)))))
 have zu := of_decide_eq_true je
 refine X2 (X7 (ps := [(0, vi (-1)), (1, vi 4)]) (e := 3) (cs := (([(-1), 4] : List Int).flatMap icell).toArray) (Xk Z (Xk Z X5)) (fun _ => by kernel_rfl) Z ?_)
 intro rf Bq bt
 have vk := Yd bt cw
 have t6 : hi ≤ rf := nt (nt (nt (nt hhs O.size) V.size) ba.size) (Nat.le_of_eq bt.eq.symm)
 have nr := (((ak.gn O).grown0 V).gn ba)
 have ly := Xo bt (nr).lt
 have nu := (a9.gn ba)
 have l8 := Xo bt (nu).lt
 have qu := Xo bt (c9).lt
 have ju := low0 cw bt.grw
 refine Xd (v := pt R 0) ao Z (Xn Qo (Xf Z (Xf Z Xm)) Z (Qb (p1 + 1 + 1) 2 (by omega) _ R bs _ _ _ (c9.grown0 bt.grw) (by omega) (SlLt.low1 hs ju hlo) (by first | exact hb | exact fun b h => hb b (List.mem_of_mem_take h)) (by first | omega | (rw [List.length_take]; omega))) ?_)
 rintro _ Br ⟨kw, rfl, xa, xb, qi, f8⟩
 refine X4 (o' := (kw).toNat * 1) J4 Z Z (by omega) (by omega) (by omega) Z ?_
 obtain ⟨cn, j8⟩ := Ja (l := ([(-1), 4] : List Int)) (i := (kw).toNat) (lq (kw).toNat 2)
 have pr := List.mem_of_getElem? j8
 simp only [List.mem_cons, List.not_mem_nil, or_false] at pr
 refine Xh (v := vi cn) X1 Z ((Qs Yq (bt.blk.gn f8) j8) 0 _ Z) Z (Xc (o' := 2) Kr ae Z Z (Yc (v := vi cn) (cs' := #[vi kk, vi E, vi cn, vi G, vi J]) X1 Z Z Z ((nu.grown0 bt.grw).gn f8) (Nat.le_of_ble_eq_true Z) Z ?_))
 intro Bs fr
 refine Xb (Y3 (Xu (Xa (Xr (vs := [vi kk, vi E, vi cn, vi G, vi J]) Y6 ae Z (fr.blk.rangeL 0 5 Z) Z (Xy (vs := [vi kk, vi E, vi cn, vi G, vi J]) (cs' := #[vi kk, vi E, vi cn, vi G, vi J]) Y6 ad Z Z (by simp [Value.oneCell']) (((nr.grown0 bt.grw).gn f8).gn fr.grw) (Nat.le_of_ble_eq_true Z) Z ?_)))))
 intro Bt gu
 refine Xb (Xt ?_)
 refine ⟨.agg #[vi kk, vi E, vi cn, vi G, vi J], Jt Z (Yh (vs := [vi kk, vi E, vi cn, vi G, vi J]) Y6 ad Z (gu.blk.rangeL 0 5 Z)), ⟨kk, E, cn, G, J⟩, (p1 + 1 + 1 + 1), Z, ⟨⟨show (0 : Int) ≤ kk by omega, show kk ≤ (10 : Int) by omega⟩, ⟨show (1 : Int) ≤ E by omega, show E ≤ (ms.length : Int) by omega⟩, ⟨show (-1 : Int) ≤ cn by omega, show cn ≤ (4 : Int) by omega⟩, ⟨show (0 : Int) ≤ G by omega, show G ≤ (3 : Int) by omega⟩, show (-1 : Int) ≤ J by omega, show J ≤ (100 : Int) by omega⟩, by omega, by omega, ((qi.gn fr.grw).gn gu.grw), (low1 (low1 (grown_trans ju f8) fr.grw (by omega)) gu.grw (by omega))⟩
 have zv := of_decide_eq_false je
 refine Xa (X6 (q := decide (eu = 2)) Z Z Z Z (Xe (v := vb (decide (eu = 2))) Z Z (Xb (X0 Z (fun jf => ?_) (fun jf => ?_)))))
 have zw := of_decide_eq_true jf
 refine X2 (X7 (ps := [(0, vi (-1)), (1, vi 100)]) (e := 3) (cs := (([(-1), 100] : List Int).flatMap icell).toArray) (Xk Z (Xk Z X5)) (fun _ => by kernel_rfl) Z ?_)
 intro rg Bu bu
 have vl := Yd bu cw
 have t7 : hi ≤ rg := nt (nt (nt (nt hhs O.size) V.size) ba.size) (Nat.le_of_eq bu.eq.symm)
 have nv := (((ak.gn O).grown0 V).gn ba)
 have lz := Xo bu (nv).lt
 have nw := (a9.gn ba)
 have l9 := Xo bu (nw).lt
 have qv := Xo bu (c9).lt
 have jv := low0 cw bu.grw
 refine Xd (v := pt R 0) ao Z (Xn Qo (Xf Z (Xf Z Xm)) Z (Qb (p1 + 1 + 1) 2 (by omega) _ R bs _ _ _ (c9.grown0 bu.grw) (by omega) (SlLt.low1 hs jv hlo) (by first | exact hb | exact fun b h => hb b (List.mem_of_mem_take h)) (by first | omega | (rw [List.length_take]; omega))) ?_)
 rintro _ Bv ⟨kx, rfl, xc, xd, qj, f9⟩
 refine X4 (o' := (kx).toNat * 1) J4 Z Z (by omega) (by omega) (by omega) Z ?_
 obtain ⟨co, j9⟩ := Ja (l := ([(-1), 100] : List Int)) (i := (kx).toNat) (lq (kx).toNat 2)
 have pu := List.mem_of_getElem? j9
 simp only [List.mem_cons, List.not_mem_nil, or_false] at pu
 refine Xh (v := vi co) X1 Z ((Qs Yq (bu.blk.gn f9) j9) 0 _ Z) Z (Xc (o' := 4) Js ae Z Z (Yc (v := vi co) (cs' := #[vi kk, vi E, vi aa, vi G, vi co]) X1 Z Z Z ((nw.grown0 bu.grw).gn f9) (Nat.le_of_ble_eq_true Z) Z ?_))
 intro Bw ft
 refine Xb (Y3 (Xu (Xa (Xr (vs := [vi kk, vi E, vi aa, vi G, vi co]) Y6 ae Z (ft.blk.rangeL 0 5 Z) Z (Xy (vs := [vi kk, vi E, vi aa, vi G, vi co]) (cs' := #[vi kk, vi E, vi aa, vi G, vi co]) Y6 ad Z Z (by simp [Value.oneCell']) (((nv.grown0 bu.grw).gn f9).gn ft.grw) (Nat.le_of_ble_eq_true Z) Z ?_)))))
 intro Bx gv
 refine Xb (Xt ?_)
 refine ⟨.agg #[vi kk, vi E, vi aa, vi G, vi co], Jt Z (Yh (vs := [vi kk, vi E, vi aa, vi G, vi co]) Y6 ad Z (gv.blk.rangeL 0 5 Z)), ⟨kk, E, aa, G, co⟩, (p1 + 1 + 1 + 1), Z, ⟨⟨show (0 : Int) ≤ kk by omega, show kk ≤ (10 : Int) by omega⟩, ⟨show (1 : Int) ≤ E by omega, show E ≤ (ms.length : Int) by omega⟩, ⟨show (-1 : Int) ≤ aa by omega, show aa ≤ (4 : Int) by omega⟩, ⟨show (0 : Int) ≤ G by omega, show G ≤ (3 : Int) by omega⟩, show (-1 : Int) ≤ co by omega, show co ≤ (100 : Int) by omega⟩, by omega, by omega, ((qj.gn ft.grw).gn gv.grw), (low1 (low1 (grown_trans jv f9) ft.grw (by omega)) gv.grw (by omega))⟩
 have zy := of_decide_eq_false jf
 refine Xz (Y3 (Xu (Xa (Xr (vs := [vi kk, vi E, vi aa, vi G, vi J]) Y6 ae Z ((a9.gn ba).rangeL 0 5 Z) Z (Xy (vs := [vi kk, vi E, vi aa, vi G, vi J]) (cs' := #[vi kk, vi E, vi aa, vi G, vi J]) Y6 ad Z Z (by simp [Value.oneCell']) (((ak.gn O).grown0 V).gn ba) (Nat.le_of_ble_eq_true Z) Z ?_)))))
 intro By gw
 refine Xb (Xt ?_)
 refine ⟨.agg #[vi kk, vi E, vi aa, vi G, vi J], Jt Z (Yh (vs := [vi kk, vi E, vi aa, vi G, vi J]) Y6 ad Z (gw.blk.rangeL 0 5 Z)), ⟨kk, E, aa, G, J⟩, (p1 + 1 + 1), Z, ⟨⟨show (0 : Int) ≤ kk by omega, show kk ≤ (10 : Int) by omega⟩, ⟨show (1 : Int) ≤ E by omega, show E ≤ (ms.length : Int) by omega⟩, ⟨show (-1 : Int) ≤ aa by omega, show aa ≤ (4 : Int) by omega⟩, ⟨show (0 : Int) ≤ G by omega, show G ≤ (3 : Int) by omega⟩, show (-1 : Int) ≤ J by omega, show J ≤ (100 : Int) by omega⟩, by omega, by omega, (c9.gn gw.grw), (low1 cw gw.grw (by omega))⟩
 iterate 9 refine Xj rfl rfl rfl bc rfl ?_
 refine Xp (v := vb false) Z bc Z Z (Xb (Y4 Z Z (Qf (Y9 (Y9 (Jh (Xu (Xq (Xa (Xd (v := pt R 0) ao Z (Xn Qo (Xf Z (Xf Z Xm)) Z (Qb (p1 + 1) 50 (by omega) _ R bs _ _ _ (dl.grown0 V) (by omega) (SlLt.low1 hs dh hlo) (by first | exact hb | exact fun b h => hb b (List.mem_of_mem_take h)) (by first | omega | (rw [List.length_take]; omega))) ?_)))))))))))
 rintro _ Bz ⟨ew, rfl, xe, xf, da, bb⟩
 have cy := grown_trans dh bb
 refine Xb (X9 (Xa (X6 (q := decide (ew = 0)) Z Z Z Z (Xe (v := vb (decide (ew = 0))) Z Z (Xb (X0 Z (fun jg => ?_) (fun jg => ?_)))))))
 have zz := of_decide_eq_true jg
 refine X2 (X7 (ps := [(0, vi 0), (1, vi 10)]) (e := 3) (cs := (([0, 10] : List Int).flatMap icell).toArray) (Xk Z (Xk Z X5)) (fun _ => by kernel_rfl) Z ?_)
 intro rh B0 bv
 have vm := Yd bv cy
 have t8 : hi ≤ rh := nt (nt (nt (nt hhs O.size) V.size) bb.size) (Nat.le_of_eq bv.eq.symm)
 have nx := (((ak.gn O).grown0 V).gn bb)
 have l0 := Xo bv (nx).lt
 have ny := ((eo.grown0 V).gn bb)
 have ma := Xo bv (ny).lt
 have qw := Xo bv (da).lt
 have jw := low0 cy bv.grw
 refine Xd (v := pt R 0) ao Z (Xn Qo (Xf Z (Xf Z Xm)) Z (Qb (p1 + 1 + 1) 2 (by omega) _ R bs _ _ _ (da.grown0 bv.grw) (by omega) (SlLt.low1 hs jw hlo) (by first | exact hb | exact fun b h => hb b (List.mem_of_mem_take h)) (by first | omega | (rw [List.length_take]; omega))) ?_)
 rintro _ xp ⟨ky, rfl, xh, xi, qk, ga⟩
 refine X4 (o' := (ky).toNat * 1) J4 Z Z (by omega) (by omega) (by omega) Z ?_
 obtain ⟨bg, iq⟩ := Ja (l := ([0, 10] : List Int)) (i := (ky).toNat) (lq (ky).toNat 2)
 have mh := List.mem_of_getElem? iq
 simp only [List.mem_cons, List.not_mem_nil, or_false] at mh
 refine Xh (v := vi bg) X1 Z ((Qs Yq (bv.blk.gn ga) iq) 0 _ Z) Z (Xc (o' := 0) Ji ae Z Z (Yc (v := vi bg) (cs' := #[vi bg, vi E, vi aa, vi G, vi J]) X1 Z Z Z ((ny.grown0 bv.grw).gn ga) (Nat.le_of_ble_eq_true Z) Z ?_))
 intro xq dm
 refine Xb (Y3 (Xu (Xa (Xr (vs := [vi bg, vi E, vi aa, vi G, vi J]) Y6 ae Z (dm.blk.rangeL 0 5 Z) Z (Xy (vs := [vi bg, vi E, vi aa, vi G, vi J]) (cs' := #[vi bg, vi E, vi aa, vi G, vi J]) Y6 ad Z Z (by simp [Value.oneCell']) (((nx.grown0 bv.grw).gn ga).gn dm.grw) (Nat.le_of_ble_eq_true Z) Z ?_)))))
 intro xu e0
 refine Xb (Xt ?_)
 refine ⟨.agg #[vi bg, vi E, vi aa, vi G, vi J], Jt Z (Yh (vs := [vi bg, vi E, vi aa, vi G, vi J]) Y6 ad Z (e0.blk.rangeL 0 5 Z)), ⟨bg, E, aa, G, J⟩, (p1 + 1 + 1 + 1), Z, ⟨⟨show (0 : Int) ≤ bg by omega, show bg ≤ (10 : Int) by omega⟩, ⟨show (1 : Int) ≤ E by omega, show E ≤ (ms.length : Int) by omega⟩, ⟨show (-1 : Int) ≤ aa by omega, show aa ≤ (4 : Int) by omega⟩, ⟨show (0 : Int) ≤ G by omega, show G ≤ (3 : Int) by omega⟩, show (-1 : Int) ≤ J by omega, show J ≤ (100 : Int) by omega⟩, by omega, by omega, ((qk.gn dm.grw).gn e0.grw), (low1 (low1 (grown_trans jw ga) dm.grw (by omega)) e0.grw (by omega))⟩
 have vp := of_decide_eq_false jg
 refine Xa (X6 (q := decide (ew = 1)) Z Z Z Z (Xe (v := vb (decide (ew = 1))) Z Z (Xb (X0 Z (fun gc => ?_) (fun gc => ?_)))))
 have vq := of_decide_eq_true gc
 refine X2 (X7 (ps := [(0, vi (-1)), (1, vi 4)]) (e := 3) (cs := (([(-1), 4] : List Int).flatMap icell).toArray) (Xk Z (Xk Z X5)) (fun _ => by kernel_rfl) Z ?_)
 intro oh xv ap
 have ua := Yd ap cy
 have qx : hi ≤ oh := nt (nt (nt (nt hhs O.size) V.size) bb.size) (Nat.le_of_eq ap.eq.symm)
 have ka := (((ak.gn O).grown0 V).gn bb)
 have k4 := Xo ap (ka).lt
 have kb := ((eo.grown0 V).gn bb)
 have ld := Xo ap (kb).lt
 have n5 := Xo ap (da).lt
 have ig := low0 cy ap.grw
 refine Xd (v := pt R 0) ao Z (Xn Qo (Xf Z (Xf Z Xm)) Z (Qb (p1 + 1 + 1) 2 (by omega) _ R bs _ _ _ (da.grown0 ap.grw) (by omega) (SlLt.low1 hs ig hlo) (by first | exact hb | exact fun b h => hb b (List.mem_of_mem_take h)) (by first | omega | (rw [List.length_take]; omega))) ?_)
 rintro _ xw ⟨gy, rfl, ul, um, mv, dy⟩
 refine X4 (o' := (gy).toNat * 1) J4 Z Z (by omega) (by omega) (by omega) Z ?_
 obtain ⟨bh, ir⟩ := Ja (l := ([(-1), 4] : List Int)) (i := (gy).toNat) (lq (gy).toNat 2)
 have ml := List.mem_of_getElem? ir
 simp only [List.mem_cons, List.not_mem_nil, or_false] at ml
 refine Xh (v := vi bh) X1 Z ((Qs Yq (ap.blk.gn dy) ir) 0 _ Z) Z (Xc (o' := 2) Kr ae Z Z (Yc (v := vi bh) (cs' := #[vi kk, vi E, vi bh, vi G, vi J]) X1 Z Z Z ((kb.grown0 ap.grw).gn dy) (Nat.le_of_ble_eq_true Z) Z ?_))
 intro xx dn
 refine Xb (Y3 (Xu (Xa (Xr (vs := [vi kk, vi E, vi bh, vi G, vi J]) Y6 ae Z (dn.blk.rangeL 0 5 Z) Z (Xy (vs := [vi kk, vi E, vi bh, vi G, vi J]) (cs' := #[vi kk, vi E, vi bh, vi G, vi J]) Y6 ad Z Z (by simp [Value.oneCell']) (((ka.grown0 ap.grw).gn dy).gn dn.grw) (Nat.le_of_ble_eq_true Z) Z ?_)))))
 intro xy fa
 refine Xb (Xt ?_)
 refine ⟨.agg #[vi kk, vi E, vi bh, vi G, vi J], Jt Z (Yh (vs := [vi kk, vi E, vi bh, vi G, vi J]) Y6 ad Z (fa.blk.rangeL 0 5 Z)), ⟨kk, E, bh, G, J⟩, (p1 + 1 + 1 + 1), Z, ⟨⟨show (0 : Int) ≤ kk by omega, show kk ≤ (10 : Int) by omega⟩, ⟨show (1 : Int) ≤ E by omega, show E ≤ (ms.length : Int) by omega⟩, ⟨show (-1 : Int) ≤ bh by omega, show bh ≤ (4 : Int) by omega⟩, ⟨show (0 : Int) ≤ G by omega, show G ≤ (3 : Int) by omega⟩, show (-1 : Int) ≤ J by omega, show J ≤ (100 : Int) by omega⟩, by omega, by omega, ((mv.gn dn.grw).gn fa.grw), (low1 (low1 (grown_trans ig dy) dn.grw (by omega)) fa.grw (by omega))⟩
 have vr := of_decide_eq_false gc
 refine Xa (X6 (q := decide (ew = 2)) Z Z Z Z (Xe (v := vb (decide (ew = 2))) Z Z (Xb (X0 Z (fun gf => ?_) (fun gf => ?_)))))
 have vt := of_decide_eq_true gf
 refine X2 (X7 (ps := [(0, vi (-1)), (1, vi 100)]) (e := 3) (cs := (([(-1), 100] : List Int).flatMap icell).toArray) (Xk Z (Xk Z X5)) (fun _ => by kernel_rfl) Z ?_)
 intro ol xz aq
 have uc := Yd aq cy
 have qy : hi ≤ ol := nt (nt (nt (nt hhs O.size) V.size) bb.size) (Nat.le_of_eq aq.eq.symm)
 have kc := (((ak.gn O).grown0 V).gn bb)
 have k5 := Xo aq (kc).lt
 have ke := ((eo.grown0 V).gn bb)
 have le := Xo aq (ke).lt
 have n7 := Xo aq (da).lt
 have ii := low0 cy aq.grw
 refine Xd (v := pt R 0) ao Z (Xn Qo (Xf Z (Xf Z Xm)) Z (Qb (p1 + 1 + 1) 2 (by omega) _ R bs _ _ _ (da.grown0 aq.grw) (by omega) (SlLt.low1 hs ii hlo) (by first | exact hb | exact fun b h => hb b (List.mem_of_mem_take h)) (by first | omega | (rw [List.length_take]; omega))) ?_)
 rintro _ x0 ⟨gz, rfl, un, uo, mw, dz⟩
 refine X4 (o' := (gz).toNat * 1) J4 Z Z (by omega) (by omega) (by omega) Z ?_
 obtain ⟨bi, it⟩ := Ja (l := ([(-1), 100] : List Int)) (i := (gz).toNat) (lq (gz).toNat 2)
 have mn := List.mem_of_getElem? it
 simp only [List.mem_cons, List.not_mem_nil, or_false] at mn
 refine Xh (v := vi bi) X1 Z ((Qs Yq (aq.blk.gn dz) it) 0 _ Z) Z (Xc (o' := 4) Js ae Z Z (Yc (v := vi bi) (cs' := #[vi kk, vi E, vi aa, vi G, vi bi]) X1 Z Z Z ((ke.grown0 aq.grw).gn dz) (Nat.le_of_ble_eq_true Z) Z ?_))
 intro x3 dp
 refine Xb (Y3 (Xu (Xa (Xr (vs := [vi kk, vi E, vi aa, vi G, vi bi]) Y6 ae Z (dp.blk.rangeL 0 5 Z) Z (Xy (vs := [vi kk, vi E, vi aa, vi G, vi bi]) (cs' := #[vi kk, vi E, vi aa, vi G, vi bi]) Y6 ad Z Z (by simp [Value.oneCell']) (((kc.grown0 aq.grw).gn dz).gn dp.grw) (Nat.le_of_ble_eq_true Z) Z ?_)))))
 intro x9 fb
 refine Xb (Xt ?_)
 refine ⟨.agg #[vi kk, vi E, vi aa, vi G, vi bi], Jt Z (Yh (vs := [vi kk, vi E, vi aa, vi G, vi bi]) Y6 ad Z (fb.blk.rangeL 0 5 Z)), ⟨kk, E, aa, G, bi⟩, (p1 + 1 + 1 + 1), Z, ⟨⟨show (0 : Int) ≤ kk by omega, show kk ≤ (10 : Int) by omega⟩, ⟨show (1 : Int) ≤ E by omega, show E ≤ (ms.length : Int) by omega⟩, ⟨show (-1 : Int) ≤ aa by omega, show aa ≤ (4 : Int) by omega⟩, ⟨show (0 : Int) ≤ G by omega, show G ≤ (3 : Int) by omega⟩, show (-1 : Int) ≤ bi by omega, show bi ≤ (100 : Int) by omega⟩, by omega, by omega, ((mw.gn dp.grw).gn fb.grw), (low1 (low1 (grown_trans ii dz) dp.grw (by omega)) fb.grw (by omega))⟩
 have vu := of_decide_eq_false gf
 refine Xz (Y3 (Xu (Xa (Xr (vs := [vi kk, vi E, vi aa, vi G, vi J]) Y6 ae Z (((eo.grown0 V).gn bb).rangeL 0 5 Z) Z (Xy (vs := [vi kk, vi E, vi aa, vi G, vi J]) (cs' := #[vi kk, vi E, vi aa, vi G, vi J]) Y6 ad Z Z (by simp [Value.oneCell']) (((ak.gn O).grown0 V).gn bb) (Nat.le_of_ble_eq_true Z) Z ?_)))))
 intro ya fc
 refine Xb (Xt ?_)
 refine ⟨.agg #[vi kk, vi E, vi aa, vi G, vi J], Jt Z (Yh (vs := [vi kk, vi E, vi aa, vi G, vi J]) Y6 ad Z (fc.blk.rangeL 0 5 Z)), ⟨kk, E, aa, G, J⟩, (p1 + 1 + 1), Z, ⟨⟨show (0 : Int) ≤ kk by omega, show kk ≤ (10 : Int) by omega⟩, ⟨show (1 : Int) ≤ E by omega, show E ≤ (ms.length : Int) by omega⟩, ⟨show (-1 : Int) ≤ aa by omega, show aa ≤ (4 : Int) by omega⟩, ⟨show (0 : Int) ≤ G by omega, show G ≤ (3 : Int) by omega⟩, show (-1 : Int) ≤ J by omega, show J ≤ (100 : Int) by omega⟩, by omega, by omega, (da.gn fc.grw), (low1 cy fc.grw (by omega))⟩
 have vv := of_decide_eq_false bw
 iterate 4 refine Xj rfl rfl rfl bw rfl ?_
 refine Xp (v := vb false) Z bw Z Z (Xd (v := vb false) Z Z ?_)
 iterate 9 refine Xj rfl rfl rfl rfl rfl ?_
 refine Xp (v := vb false) Z Z Z Z (Xb (Y4 Z Z (Qf (Y9 (Y9 (Jh (Xu (Xq (Xa (Xd (v := pt R 0) ao Z (Xn Qo (Xf Z (Xf Z Xm)) Z (Qb (p1 + 1) 50 (by omega) _ R bs _ _ _ dl (by omega) (SlLt.low1 hs gx hlo) (by first | exact hb | exact fun b h => hb b (List.mem_of_mem_take h)) (by first | omega | (rw [List.length_take]; omega))) ?_)))))))))))
 rintro _ yb ⟨di, rfl, ut, uu, cc, al⟩
 have bz := grown_trans gx al
 refine Xb (X9 (Xa (X6 (q := decide (di = 0)) Z Z Z Z (Xe (v := vb (decide (di = 0))) Z Z (Xb (X0 Z (fun gg => ?_) (fun gg => ?_)))))))
 have vw := of_decide_eq_true gg
 refine X2 (X7 (ps := [(0, vi 0), (1, vi 10)]) (e := 3) (cs := (([0, 10] : List Int).flatMap icell).toArray) (Xk Z (Xk Z X5)) (fun _ => by kernel_rfl) Z ?_)
 intro om yc ar
 have ud := Yd ar bz
 have qz : hi ≤ om := nt (nt (nt hhs O.size) al.size) (Nat.le_of_eq ar.eq.symm)
 have kf := ((ak.gn O).gn al)
 have k6 := Xo ar (kf).lt
 have kg := ((dc.gn O).gn al)
 have lf := Xo ar (kg).lt
 have n9 := Xo ar (cc).lt
 have ij := low0 bz ar.grw
 refine Xd (v := pt R 0) ao Z (Xn Qo (Xf Z (Xf Z Xm)) Z (Qb (p1 + 1 + 1) 2 (by omega) _ R bs _ _ _ (cc.grown0 ar.grw) (by omega) (SlLt.low1 hs ij hlo) (by first | exact hb | exact fun b h => hb b (List.mem_of_mem_take h)) (by first | omega | (rw [List.length_take]; omega))) ?_)
 rintro _ yd ⟨g0, rfl, uv, uw, my, d0⟩
 refine X4 (o' := (g0).toNat * 1) J4 Z Z (by omega) (by omega) (by omega) Z ?_
 obtain ⟨bj, iu⟩ := Ja (l := ([0, 10] : List Int)) (i := (g0).toNat) (lq (g0).toNat 2)
 have mo := List.mem_of_getElem? iu
 simp only [List.mem_cons, List.not_mem_nil, or_false] at mo
 refine Xh (v := vi bj) X1 Z ((Qs Yq (ar.blk.gn d0) iu) 0 _ Z) Z (Xc (o' := 0) Ji ae Z Z (Yc (v := vi bj) (cs' := #[vi bj, vi E, vi aa, vi G, vi J]) X1 Z Z Z ((kg.grown0 ar.grw).gn d0) (Nat.le_of_ble_eq_true Z) Z ?_))
 intro ye dq
 refine Xb (Y3 (Xu (Xa (Xr (vs := [vi bj, vi E, vi aa, vi G, vi J]) Y6 ae Z (dq.blk.rangeL 0 5 Z) Z (Xy (vs := [vi bj, vi E, vi aa, vi G, vi J]) (cs' := #[vi bj, vi E, vi aa, vi G, vi J]) Y6 ad Z Z (by simp [Value.oneCell']) (((kf.grown0 ar.grw).gn d0).gn dq.grw) (Nat.le_of_ble_eq_true Z) Z ?_)))))
 intro yf fd
 refine Xb (Xt ?_)
 refine ⟨.agg #[vi bj, vi E, vi aa, vi G, vi J], Jt Z (Yh (vs := [vi bj, vi E, vi aa, vi G, vi J]) Y6 ad Z (fd.blk.rangeL 0 5 Z)), ⟨bj, E, aa, G, J⟩, (p1 + 1 + 1 + 1), Z, ⟨⟨show (0 : Int) ≤ bj by omega, show bj ≤ (10 : Int) by omega⟩, ⟨show (1 : Int) ≤ E by omega, show E ≤ (ms.length : Int) by omega⟩, ⟨show (-1 : Int) ≤ aa by omega, show aa ≤ (4 : Int) by omega⟩, ⟨show (0 : Int) ≤ G by omega, show G ≤ (3 : Int) by omega⟩, show (-1 : Int) ≤ J by omega, show J ≤ (100 : Int) by omega⟩, by omega, by omega, ((my.gn dq.grw).gn fd.grw), (low1 (low1 (grown_trans ij d0) dq.grw (by omega)) fd.grw (by omega))⟩
 have vx := of_decide_eq_false gg
 refine Xa (X6 (q := decide (di = 1)) Z Z Z Z (Xe (v := vb (decide (di = 1))) Z Z (Xb (X0 Z (fun gh => ?_) (fun gh => ?_)))))
 have vy := of_decide_eq_true gh
 refine X2 (X7 (ps := [(0, vi (-1)), (1, vi 4)]) (e := 3) (cs := (([(-1), 4] : List Int).flatMap icell).toArray) (Xk Z (Xk Z X5)) (fun _ => by kernel_rfl) Z ?_)
 intro oo yg au
 have ue := Yd au bz
 have q0 : hi ≤ oo := nt (nt (nt hhs O.size) al.size) (Nat.le_of_eq au.eq.symm)
 have kh := ((ak.gn O).gn al)
 have k7 := Xo au (kh).lt
 have ki := ((dc.gn O).gn al)
 have lg := Xo au (ki).lt
 have oa := Xo au (cc).lt
 have ik := low0 bz au.grw
 refine Xd (v := pt R 0) ao Z (Xn Qo (Xf Z (Xf Z Xm)) Z (Qb (p1 + 1 + 1) 2 (by omega) _ R bs _ _ _ (cc.grown0 au.grw) (by omega) (SlLt.low1 hs ik hlo) (by first | exact hb | exact fun b h => hb b (List.mem_of_mem_take h)) (by first | omega | (rw [List.length_take]; omega))) ?_)
 rintro _ yh ⟨g5, rfl, ux, uy, mz, d1⟩
 refine X4 (o' := (g5).toNat * 1) J4 Z Z (by omega) (by omega) (by omega) Z ?_
 obtain ⟨bk, iv⟩ := Ja (l := ([(-1), 4] : List Int)) (i := (g5).toNat) (lq (g5).toNat 2)
 have mp := List.mem_of_getElem? iv
 simp only [List.mem_cons, List.not_mem_nil, or_false] at mp
 refine Xh (v := vi bk) X1 Z ((Qs Yq (au.blk.gn d1) iv) 0 _ Z) Z (Xc (o' := 2) Kr ae Z Z (Yc (v := vi bk) (cs' := #[vi kk, vi E, vi bk, vi G, vi J]) X1 Z Z Z ((ki.grown0 au.grw).gn d1) (Nat.le_of_ble_eq_true Z) Z ?_))
 intro yi dr
 refine Xb (Y3 (Xu (Xa (Xr (vs := [vi kk, vi E, vi bk, vi G, vi J]) Y6 ae Z (dr.blk.rangeL 0 5 Z) Z (Xy (vs := [vi kk, vi E, vi bk, vi G, vi J]) (cs' := #[vi kk, vi E, vi bk, vi G, vi J]) Y6 ad Z Z (by simp [Value.oneCell']) (((kh.grown0 au.grw).gn d1).gn dr.grw) (Nat.le_of_ble_eq_true Z) Z ?_)))))
 intro yj fe
 refine Xb (Xt ?_)
 refine ⟨.agg #[vi kk, vi E, vi bk, vi G, vi J], Jt Z (Yh (vs := [vi kk, vi E, vi bk, vi G, vi J]) Y6 ad Z (fe.blk.rangeL 0 5 Z)), ⟨kk, E, bk, G, J⟩, (p1 + 1 + 1 + 1), Z, ⟨⟨show (0 : Int) ≤ kk by omega, show kk ≤ (10 : Int) by omega⟩, ⟨show (1 : Int) ≤ E by omega, show E ≤ (ms.length : Int) by omega⟩, ⟨show (-1 : Int) ≤ bk by omega, show bk ≤ (4 : Int) by omega⟩, ⟨show (0 : Int) ≤ G by omega, show G ≤ (3 : Int) by omega⟩, show (-1 : Int) ≤ J by omega, show J ≤ (100 : Int) by omega⟩, by omega, by omega, ((mz.gn dr.grw).gn fe.grw), (low1 (low1 (grown_trans ik d1) dr.grw (by omega)) fe.grw (by omega))⟩
 have vz := of_decide_eq_false gh
 refine Xa (X6 (q := decide (di = 2)) Z Z Z Z (Xe (v := vb (decide (di = 2))) Z Z (Xb (X0 Z (fun gi => ?_) (fun gi => ?_)))))
 have v1 := of_decide_eq_true gi
 refine X2 (X7 (ps := [(0, vi (-1)), (1, vi 100)]) (e := 3) (cs := (([(-1), 100] : List Int).flatMap icell).toArray) (Xk Z (Xk Z X5)) (fun _ => by kernel_rfl) Z ?_)
 intro oq yk av
 have uf := Yd av bz
 have q4 : hi ≤ oq := nt (nt (nt hhs O.size) al.size) (Nat.le_of_eq av.eq.symm)
 have kj := ((ak.gn O).gn al)
 have k8 := Xo av (kj).lt
 have kl := ((dc.gn O).gn al)
 have lh := Xo av (kl).lt
 have ob := Xo av (cc).lt
 have il := low0 bz av.grw
 refine Xd (v := pt R 0) ao Z (Xn Qo (Xf Z (Xf Z Xm)) Z (Qb (p1 + 1 + 1) 2 (by omega) _ R bs _ _ _ (cc.grown0 av.grw) (by omega) (SlLt.low1 hs il hlo) (by first | exact hb | exact fun b h => hb b (List.mem_of_mem_take h)) (by first | omega | (rw [List.length_take]; omega))) ?_)
 rintro _ ym ⟨g6, rfl, uz, u0, m4, d2⟩
 refine X4 (o' := (g6).toNat * 1) J4 Z Z (by omega) (by omega) (by omega) Z ?_
 obtain ⟨bl, iw⟩ := Ja (l := ([(-1), 100] : List Int)) (i := (g6).toNat) (lq (g6).toNat 2)
 have mq := List.mem_of_getElem? iw
 simp only [List.mem_cons, List.not_mem_nil, or_false] at mq
 refine Xh (v := vi bl) X1 Z ((Qs Yq (av.blk.gn d2) iw) 0 _ Z) Z (Xc (o' := 4) Js ae Z Z (Yc (v := vi bl) (cs' := #[vi kk, vi E, vi aa, vi G, vi bl]) X1 Z Z Z ((kl.grown0 av.grw).gn d2) (Nat.le_of_ble_eq_true Z) Z ?_))
 intro yn dt
 refine Xb (Y3 (Xu (Xa (Xr (vs := [vi kk, vi E, vi aa, vi G, vi bl]) Y6 ae Z (dt.blk.rangeL 0 5 Z) Z (Xy (vs := [vi kk, vi E, vi aa, vi G, vi bl]) (cs' := #[vi kk, vi E, vi aa, vi G, vi bl]) Y6 ad Z Z (by simp [Value.oneCell']) (((kj.grown0 av.grw).gn d2).gn dt.grw) (Nat.le_of_ble_eq_true Z) Z ?_)))))
 intro yo ff
 refine Xb (Xt ?_)
 refine ⟨.agg #[vi kk, vi E, vi aa, vi G, vi bl], Jt Z (Yh (vs := [vi kk, vi E, vi aa, vi G, vi bl]) Y6 ad Z (ff.blk.rangeL 0 5 Z)), ⟨kk, E, aa, G, bl⟩, (p1 + 1 + 1 + 1), Z, ⟨⟨show (0 : Int) ≤ kk by omega, show kk ≤ (10 : Int) by omega⟩, ⟨show (1 : Int) ≤ E by omega, show E ≤ (ms.length : Int) by omega⟩, ⟨show (-1 : Int) ≤ aa by omega, show aa ≤ (4 : Int) by omega⟩, ⟨show (0 : Int) ≤ G by omega, show G ≤ (3 : Int) by omega⟩, show (-1 : Int) ≤ bl by omega, show bl ≤ (100 : Int) by omega⟩, by omega, by omega, ((m4.gn dt.grw).gn ff.grw), (low1 (low1 (grown_trans il d2) dt.grw (by omega)) ff.grw (by omega))⟩
 have v2 := of_decide_eq_false gi
 refine Xz (Y3 (Xu (Xa (Xr (vs := [vi kk, vi E, vi aa, vi G, vi J]) Y6 ae Z (((dc.gn O).gn al).rangeL 0 5 Z) Z (Xy (vs := [vi kk, vi E, vi aa, vi G, vi J]) (cs' := #[vi kk, vi E, vi aa, vi G, vi J]) Y6 ad Z Z (by simp [Value.oneCell']) ((ak.gn O).gn al) (Nat.le_of_ble_eq_true Z) Z ?_)))))
 intro yp fg
 refine Xb (Xt ?_)
 refine ⟨.agg #[vi kk, vi E, vi aa, vi G, vi J], Jt Z (Yh (vs := [vi kk, vi E, vi aa, vi G, vi J]) Y6 ad Z (fg.blk.rangeL 0 5 Z)), ⟨kk, E, aa, G, J⟩, (p1 + 1 + 1), Z, ⟨⟨show (0 : Int) ≤ kk by omega, show kk ≤ (10 : Int) by omega⟩, ⟨show (1 : Int) ≤ E by omega, show E ≤ (ms.length : Int) by omega⟩, ⟨show (-1 : Int) ≤ aa by omega, show aa ≤ (4 : Int) by omega⟩, ⟨show (0 : Int) ≤ G by omega, show G ≤ (3 : Int) by omega⟩, show (-1 : Int) ≤ J by omega, show J ≤ (100 : Int) by omega⟩, by omega, by omega, (cc.gn fg.grw), (low1 bz fg.grw (by omega))⟩
 have v3 := of_decide_eq_false cf
 iterate 3 refine Xj rfl rfl rfl cf rfl ?_
 refine Xp (v := vb false) Z cf Z Z (Xd (v := vb false) Z Z ?_)
 iterate 4 refine Xj rfl rfl rfl rfl rfl ?_
 refine Xp (v := vb false) Z Z Z Z (Xd (v := vb false) Z Z ?_)
 iterate 9 refine Xj rfl rfl rfl rfl rfl ?_
 refine Xp (v := vb false) Z Z Z Z (Xb (Y4 Z Z (Qf (Y9 (Y9 (Jh (Xu (Xq (Xa (Xd (v := pt R 0) ao Z (Xn Qo (Xf Z (Xf Z Xm)) Z (Qb p1 50 (by omega) _ R bs _ _ _ ng (by omega) (SlLt.low1 hs fu hlo) (by first | exact hb | exact fun b h => hb b (List.mem_of_mem_take h)) (by first | omega | (rw [List.length_take]; omega))) ?_)))))))))))
 rintro _ yq ⟨dk, rfl, u1, u2, cd, am⟩
 have ca := grown_trans fu am
 refine Xb (X9 (Xa (X6 (q := decide (dk = 0)) Z Z Z Z (Xe (v := vb (decide (dk = 0))) Z Z (Xb (X0 Z (fun gj => ?_) (fun gj => ?_)))))))
 have v4 := of_decide_eq_true gj
 refine X2 (X7 (ps := [(0, vi 0), (1, vi 10)]) (e := 3) (cs := (([0, 10] : List Int).flatMap icell).toArray) (Xk Z (Xk Z X5)) (fun _ => by kernel_rfl) Z ?_)
 intro ot yr aw
 have ug := Yd aw ca
 have q5 : hi ≤ ot := nt (nt hhs am.size) (Nat.le_of_eq aw.eq.symm)
 have km := (ak.gn am)
 have k9 := Xo aw (km).lt
 have kn := (dc.gn am)
 have li := Xo aw (kn).lt
 have oc := Xo aw (cd).lt
 have im := low0 ca aw.grw
 refine Xd (v := pt R 0) ao Z (Xn Qo (Xf Z (Xf Z Xm)) Z (Qb (p1 + 1) 2 (by omega) _ R bs _ _ _ (cd.grown0 aw.grw) (by omega) (SlLt.low1 hs im hlo) (by first | exact hb | exact fun b h => hb b (List.mem_of_mem_take h)) (by first | omega | (rw [List.length_take]; omega))) ?_)
 rintro _ yu ⟨g7, rfl, u3, u4, m5, d3⟩
 refine X4 (o' := (g7).toNat * 1) J4 Z Z (by omega) (by omega) (by omega) Z ?_
 obtain ⟨bm, ix⟩ := Ja (l := ([0, 10] : List Int)) (i := (g7).toNat) (lq (g7).toNat 2)
 have mr := List.mem_of_getElem? ix
 simp only [List.mem_cons, List.not_mem_nil, or_false] at mr
 refine Xh (v := vi bm) X1 Z ((Qs Yq (aw.blk.gn d3) ix) 0 _ Z) Z (Xc (o' := 0) Ji ae Z Z (Yc (v := vi bm) (cs' := #[vi bm, vi E, vi aa, vi G, vi J]) X1 Z Z Z ((kn.grown0 aw.grw).gn d3) (Nat.le_of_ble_eq_true Z) Z ?_))
 intro yv du
 refine Xb (Y3 (Xu (Xa (Xr (vs := [vi bm, vi E, vi aa, vi G, vi J]) Y6 ae Z (du.blk.rangeL 0 5 Z) Z (Xy (vs := [vi bm, vi E, vi aa, vi G, vi J]) (cs' := #[vi bm, vi E, vi aa, vi G, vi J]) Y6 ad Z Z (by simp [Value.oneCell']) (((km.grown0 aw.grw).gn d3).gn du.grw) (Nat.le_of_ble_eq_true Z) Z ?_)))))
 intro yw fh
 refine Xb (Xt ?_)
 refine ⟨.agg #[vi bm, vi E, vi aa, vi G, vi J], Jt Z (Yh (vs := [vi bm, vi E, vi aa, vi G, vi J]) Y6 ad Z (fh.blk.rangeL 0 5 Z)), ⟨bm, E, aa, G, J⟩, (p1 + 1 + 1), Z, ⟨⟨show (0 : Int) ≤ bm by omega, show bm ≤ (10 : Int) by omega⟩, ⟨show (1 : Int) ≤ E by omega, show E ≤ (ms.length : Int) by omega⟩, ⟨show (-1 : Int) ≤ aa by omega, show aa ≤ (4 : Int) by omega⟩, ⟨show (0 : Int) ≤ G by omega, show G ≤ (3 : Int) by omega⟩, show (-1 : Int) ≤ J by omega, show J ≤ (100 : Int) by omega⟩, by omega, by omega, ((m5.gn du.grw).gn fh.grw), (low1 (low1 (grown_trans im d3) du.grw (by omega)) fh.grw (by omega))⟩
 have v5 := of_decide_eq_false gj
 refine Xa (X6 (q := decide (dk = 1)) Z Z Z Z (Xe (v := vb (decide (dk = 1))) Z Z (Xb (X0 Z (fun gk => ?_) (fun gk => ?_)))))
 have v6 := of_decide_eq_true gk
 refine X2 (X7 (ps := [(0, vi (-1)), (1, vi 4)]) (e := 3) (cs := (([(-1), 4] : List Int).flatMap icell).toArray) (Xk Z (Xk Z X5)) (fun _ => by kernel_rfl) Z ?_)
 intro ou yx az
 have uh := Yd az ca
 have q6 : hi ≤ ou := nt (nt hhs am.size) (Nat.le_of_eq az.eq.symm)
 have ko := (ak.gn am)
 have la := Xo az (ko).lt
 have kp := (dc.gn am)
 have lj := Xo az (kp).lt
 have od := Xo az (cd).lt
 have io := low0 ca az.grw
 refine Xd (v := pt R 0) ao Z (Xn Qo (Xf Z (Xf Z Xm)) Z (Qb (p1 + 1) 2 (by omega) _ R bs _ _ _ (cd.grown0 az.grw) (by omega) (SlLt.low1 hs io hlo) (by first | exact hb | exact fun b h => hb b (List.mem_of_mem_take h)) (by first | omega | (rw [List.length_take]; omega))) ?_)
 rintro _ yy ⟨g8, rfl, u5, u6, m6, d4⟩
 refine X4 (o' := (g8).toNat * 1) J4 Z Z (by omega) (by omega) (by omega) Z ?_
 obtain ⟨bn, iy⟩ := Ja (l := ([(-1), 4] : List Int)) (i := (g8).toNat) (lq (g8).toNat 2)
 have mt := List.mem_of_getElem? iy
 simp only [List.mem_cons, List.not_mem_nil, or_false] at mt
 refine Xh (v := vi bn) X1 Z ((Qs Yq (az.blk.gn d4) iy) 0 _ Z) Z (Xc (o' := 2) Kr ae Z Z (Yc (v := vi bn) (cs' := #[vi kk, vi E, vi bn, vi G, vi J]) X1 Z Z Z ((kp.grown0 az.grw).gn d4) (Nat.le_of_ble_eq_true Z) Z ?_))
 intro yz dv
 refine Xb (Y3 (Xu (Xa (Xr (vs := [vi kk, vi E, vi bn, vi G, vi J]) Y6 ae Z (dv.blk.rangeL 0 5 Z) Z (Xy (vs := [vi kk, vi E, vi bn, vi G, vi J]) (cs' := #[vi kk, vi E, vi bn, vi G, vi J]) Y6 ad Z Z (by simp [Value.oneCell']) (((ko.grown0 az.grw).gn d4).gn dv.grw) (Nat.le_of_ble_eq_true Z) Z ?_)))))
 intro y2 fi
 refine Xb (Xt ?_)
 refine ⟨.agg #[vi kk, vi E, vi bn, vi G, vi J], Jt Z (Yh (vs := [vi kk, vi E, vi bn, vi G, vi J]) Y6 ad Z (fi.blk.rangeL 0 5 Z)), ⟨kk, E, bn, G, J⟩, (p1 + 1 + 1), Z, ⟨⟨show (0 : Int) ≤ kk by omega, show kk ≤ (10 : Int) by omega⟩, ⟨show (1 : Int) ≤ E by omega, show E ≤ (ms.length : Int) by omega⟩, ⟨show (-1 : Int) ≤ bn by omega, show bn ≤ (4 : Int) by omega⟩, ⟨show (0 : Int) ≤ G by omega, show G ≤ (3 : Int) by omega⟩, show (-1 : Int) ≤ J by omega, show J ≤ (100 : Int) by omega⟩, by omega, by omega, ((m6.gn dv.grw).gn fi.grw), (low1 (low1 (grown_trans io d4) dv.grw (by omega)) fi.grw (by omega))⟩
 have v7 := of_decide_eq_false gk
 refine Xa (X6 (q := decide (dk = 2)) Z Z Z Z (Xe (v := vb (decide (dk = 2))) Z Z (Xb (X0 Z (fun gl => ?_) (fun gl => ?_)))))
 have v8 := of_decide_eq_true gl
 refine X2 (X7 (ps := [(0, vi (-1)), (1, vi 100)]) (e := 3) (cs := (([(-1), 100] : List Int).flatMap icell).toArray) (Xk Z (Xk Z X5)) (fun _ => by kernel_rfl) Z ?_)
 intro ov y3 a8
 have uj := Yd a8 ca
 have q7 : hi ≤ ov := nt (nt hhs am.size) (Nat.le_of_eq a8.eq.symm)
 have kq := (ak.gn am)
 have lc := Xo a8 (kq).lt
 have kr := (dc.gn am)
 have lk := Xo a8 (kr).lt
 have oe := Xo a8 (cd).lt
 have ip := low0 ca a8.grw
 refine Xd (v := pt R 0) ao Z (Xn Qo (Xf Z (Xf Z Xm)) Z (Qb (p1 + 1) 2 (by omega) _ R bs _ _ _ (cd.grown0 a8.grw) (by omega) (SlLt.low1 hs ip hlo) (by first | exact hb | exact fun b h => hb b (List.mem_of_mem_take h)) (by first | omega | (rw [List.length_take]; omega))) ?_)
 rintro _ y6 ⟨g9, rfl, u7, u9, m7, d5⟩
 refine X4 (o' := (g9).toNat * 1) J4 Z Z (by omega) (by omega) (by omega) Z ?_
 obtain ⟨bp, iz⟩ := Ja (l := ([(-1), 100] : List Int)) (i := (g9).toNat) (lq (g9).toNat 2)
 have mu := List.mem_of_getElem? iz
 simp only [List.mem_cons, List.not_mem_nil, or_false] at mu
 refine Xh (v := vi bp) X1 Z ((Qs Yq (a8.blk.gn d5) iz) 0 _ Z) Z (Xc (o' := 4) Js ae Z Z (Yc (v := vi bp) (cs' := #[vi kk, vi E, vi aa, vi G, vi bp]) X1 Z Z Z ((kr.grown0 a8.grw).gn d5) (Nat.le_of_ble_eq_true Z) Z ?_))
 intro y7 dw
 refine Xb (Y3 (Xu (Xa (Xr (vs := [vi kk, vi E, vi aa, vi G, vi bp]) Y6 ae Z (dw.blk.rangeL 0 5 Z) Z (Xy (vs := [vi kk, vi E, vi aa, vi G, vi bp]) (cs' := #[vi kk, vi E, vi aa, vi G, vi bp]) Y6 ad Z Z (by simp [Value.oneCell']) (((kq.grown0 a8.grw).gn d5).gn dw.grw) (Nat.le_of_ble_eq_true Z) Z ?_)))))
 intro y8 fj
 refine Xb (Xt ?_)
 refine ⟨.agg #[vi kk, vi E, vi aa, vi G, vi bp], Jt Z (Yh (vs := [vi kk, vi E, vi aa, vi G, vi bp]) Y6 ad Z (fj.blk.rangeL 0 5 Z)), ⟨kk, E, aa, G, bp⟩, (p1 + 1 + 1), Z, ⟨⟨show (0 : Int) ≤ kk by omega, show kk ≤ (10 : Int) by omega⟩, ⟨show (1 : Int) ≤ E by omega, show E ≤ (ms.length : Int) by omega⟩, ⟨show (-1 : Int) ≤ aa by omega, show aa ≤ (4 : Int) by omega⟩, ⟨show (0 : Int) ≤ G by omega, show G ≤ (3 : Int) by omega⟩, show (-1 : Int) ≤ bp by omega, show bp ≤ (100 : Int) by omega⟩, by omega, by omega, ((m7.gn dw.grw).gn fj.grw), (low1 (low1 (grown_trans ip d5) dw.grw (by omega)) fj.grw (by omega))⟩
 have v9 := of_decide_eq_false gl
 refine Xz (Y3 (Xu (Xa (Xr (vs := [vi kk, vi E, vi aa, vi G, vi J]) Y6 ae Z ((dc.gn am).rangeL 0 5 Z) Z (Xy (vs := [vi kk, vi E, vi aa, vi G, vi J]) (cs' := #[vi kk, vi E, vi aa, vi G, vi J]) Y6 ad Z Z (by simp [Value.oneCell']) (ak.gn am) (Nat.le_of_ble_eq_true Z) Z ?_)))))
 intro y9 fk
 refine Xb (Xt ?_)
 refine ⟨.agg #[vi kk, vi E, vi aa, vi G, vi J], Jt Z (Yh (vs := [vi kk, vi E, vi aa, vi G, vi J]) Y6 ad Z (fk.blk.rangeL 0 5 Z)), ⟨kk, E, aa, G, J⟩, (p1 + 1), Z, ⟨⟨show (0 : Int) ≤ kk by omega, show kk ≤ (10 : Int) by omega⟩, ⟨show (1 : Int) ≤ E by omega, show E ≤ (ms.length : Int) by omega⟩, ⟨show (-1 : Int) ≤ aa by omega, show aa ≤ (4 : Int) by omega⟩, ⟨show (0 : Int) ≤ G by omega, show G ≤ (3 : Int) by omega⟩, show (-1 : Int) ≤ J by omega, show J ≤ (100 : Int) by omega⟩, by omega, by omega, (cd.gn fk.grw), (low1 ca fk.grw (by omega))⟩
end Go.Proofs.YtlhhijnmacogcaaGreatDoor
end
section
namespace Go.Proofs.YtlhhijnmacogcaaGreatDoor
open Go.RowKit Go.Dw
set_option maxRecDepth 100000
set_option maxHeartbeats 4000000
set_option linter.unusedSimpArgs false
set_option linter.unusedVariables false
theorem Vw : elemSz Tryz.prog 110 = some 1 := by kernel_rfl
theorem Xag : goFn Tryz.prog 57 = true := by kernel_rfl
theorem Xah : goFn Tryz.prog 59 = true := by kernel_rfl
theorem Xc2 : goFn Tryz.prog 82 = true := by kernel_rfl
theorem Xan : goFn Tryz.prog 83 = true := by kernel_rfl
theorem Sn (q : Int) (w : World) : CallsR Tryz.prog 82 #[vi q] w (fun v w' => ∃ B : Nat, v = .slice (pa B) 4 4 ∧ w.heap.size ≤ B ∧ Blk w' B 4 #[vb (need0 q), vb (need1 q), vb (need0 q), vb (need1 q)] ∧ w.grownBy w' none) := by
 refine Xx (n := 12) Tryz.func82 Z Tryz.ntmps82 Z ?_
 have G := World.grownBy.refl w none
 refine Xa (Xe (v := .slice none 0 0) Z Z (Xb (Xq (Xa (Xd (v := vi q) Z Z (Xb (X9 (Xq (Xa (X6 (q := decide (q = 1)) Z Z Z Z (Xe (v := vb (decide (q = 1))) Z Z (Xb ?_))))))))))))
 refine X0 Z (fun ac => ?_) (fun ac => ?_)
 have ao := of_decide_eq_true ac
 refine Xz (Xu (Qa Z ac (Xa (X7 (ps := [(0, vb true), (1, vb false), (2, vb true), (3, vb false)]) (e := 4) (cs := #[vb true, vb false, vb true, vb false]) (Xk Z (Xk Z (Xk Z (Xk Z X5)))) (fun _ => by kernel_rfl) Z ?_))))
 intro ae au J
 have ak := Yd J G
 refine Xe (v := .slice (pa ae) 4 4) Z Z (Xb (Xt (Qn (Yk ?_))))
 have e0 : need0 q = true := by unfold need0; simp [ao]
 have e1 : need1 q = false := by unfold need1; simp [ao]
 refine ⟨.slice (pa ae) 4 4, Yt Z Z, ae, Z, ak, ?_, (low0 G J.grw)⟩
 rw [e0, e1]
 exact J.blk
 have E := of_decide_eq_false ac
 refine X2 (X6 (q := decide (q = 4)) Z Z Z Z (Xe (v := vb (decide (q = 4))) Z Z (Xb (Xu (X0 Z (fun ai => ?_) (fun ai => ?_))))))
 have ap := of_decide_eq_true ai
 refine Xa (X7 (ps := [(0, vb true), (1, vb false), (2, vb true), (3, vb false)]) (e := 4) (cs := #[vb true, vb false, vb true, vb false]) (Xk Z (Xk Z (Xk Z (Xk Z X5)))) (fun _ => by kernel_rfl) Z ?_)
 intro af av O
 have al := Yd O G
 refine Xe (v := .slice (pa af) 4 4) Z Z (Xb (Xt (Qn (Yk ?_))))
 have e0 : need0 q = true := by unfold need0; simp [E, ap]
 have e1 : need1 q = false := by unfold need1; simp [E, ap]
 refine ⟨.slice (pa af) 4 4, Yt Z Z, af, Z, al, ?_, (low0 G O.grw)⟩
 rw [e0, e1]
 exact O.blk
 have ad := of_decide_eq_false ai
 refine Xa (X6 (q := decide (q = 7)) Z Z Z Z (Xe (v := vb (decide (q = 7))) Z Z (Xb (X0 Z (fun aj => ?_) (fun aj => ?_)))))
 have aq := of_decide_eq_true aj
 refine Xa (X7 (ps := [(0, vb true), (1, vb true), (2, vb true), (3, vb true)]) (e := 4) (cs := #[vb true, vb true, vb true, vb true]) (Xk Z (Xk Z (Xk Z (Xk Z X5)))) (fun _ => by kernel_rfl) Z ?_)
 intro ag aw V
 have am := Yd V G
 refine Xe (v := .slice (pa ag) 4 4) Z Z (Xb (Xt (Qn (Yk ?_))))
 have e0 : need0 q = true := by unfold need0; simp [E, ad, aq]
 have e1 : need1 q = true := by unfold need1; simp [E, ad, aq]
 refine ⟨.slice (pa ag) 4 4, Yt Z Z, ag, Z, am, ?_, (low0 G V.grw)⟩
 rw [e0, e1]
 exact V.blk
 have ar := of_decide_eq_false aj
 refine Xz (Y3 (Xu (Xa (X7 (ps := [(0, vb false), (1, vb true), (2, vb false), (3, vb true)]) (e := 4) (cs := #[vb false, vb true, vb false, vb true]) (Xk Z (Xk Z (Xk Z (Xk Z X5)))) (fun _ => by kernel_rfl) Z ?_))))
 intro ah az ab
 have an := Yd ab G
 refine Xe (v := .slice (pa ah) 4 4) Z Z (Xb (Xt ?_))
 have e0 : need0 q = false := by unfold need0; simp [E, ad, ar]
 have e1 : need1 q = true := by unfold need1; simp [E, ad, ar]
 refine ⟨.slice (pa ah) 4 4, Yt Z Z, ah, Z, an, ?_, (low0 G ab.grw)⟩
 rw [e0, e1]
 exact ab.blk
theorem Lc (q : Cl) (w : World) (ms : List MTh) (a : Option Addr) (c : Nat) (ht : TabAt w a ms) (hlen : TabLen ms) (hn : ms.length ≤ 1048576) (hT : tableOk (tabT ms) = true) (hc : callOk q = true) (hk : kindAt (tabT ms) q.run 3 = true) : CallsR Tryz.prog 54 #[.slice a ms.length c, .agg #[vi q.kind, vi q.run, vi q.a, vi q.b, vi q.n]] w (fun v w' => v = vi (check1 (tabT ms) q) ∧ w.grownBy w' none) := by
 refine Xx (n := 95) Tryz.func54 Z Tryz.ntmps54 Z ?_
 have jp := World.grownBy.refl w none
 have hco := Yx hc
 have hkp := (Qe hk).1
 have h4 := Qt hT hk
 refine Xa (Y7 (v := .agg #[vi q.kind, vi q.run, vi q.a, vi q.b, vi q.n]) (cs := #[vi q.kind, vi q.run, vi q.a, vi q.b, vi q.n]) Z Z Z ?_)
 intro a9 eo bd
 have jt := Yd bd jp
 have bn := low0 jp bd.grw
 refine Xe (v := vi 0) Z Z (Xb (Xq (Xa (Xc (o' := 0) Ji Z Z Z (Xh (v := vi q.kind) X1 Z (bd.blk.cell Z) Z (X6 (q := decide (q.kind = 3)) Z Z Z Z (Xb (X0 Z (fun O => ?_) (fun O => ?_)))))))))
 have kg := of_decide_eq_true O
 refine Xa (Xe (v := vi 0) Z Z (Xb (Xt (Yk (⟨vi 0, Yt Z Z, ?_, bn⟩)))))
 exact congrArg (Value.int .i64) (H5 O)
 have kh := of_decide_eq_false O
 refine Xz (Xu (Xq ?_))
 obtain ⟨d4, kl, dn, fb, gy, ia⟩ := SlAt.at (TabAt.low ht bn).1 (Yp (xg ms (q.run - 1).toNat))
 have jw := TabLen.at hlen (xg ms (q.run - 1).toNat)
 obtain ⟨io, km, jr, fc, gz, ib⟩ := SlAt.at (TabAt.th (TabAt.low ht bn) (xg ms (q.run - 1).toNat)).1 (Yp (xr (mAt ms (q.run - 1).toNat).t.slots (q.a).toNat))
 have j4 := Us hT (lq (q.run - 1).toNat ms.length) (lq (q.a).toNat (mAt ms (q.run - 1).toNat).t.slots.length)
 refine Qv (m := 12) [[], [], [1], [1, 2], [0, 1, 2, 3], [0, 1, 2, 3, 4], [0, 1, 2, 3, 4, 5], [], [7], [0, 1, 2, 3, 4, 5, 6, 7, 8], [0, 1, 2, 3, 4, 5, 6, 7, 8, 9], [], [0, 1, 2, 3, 4, 5, 6, 7, 8, 9, 10, 11]] (fun S F w' => ∃ (J : Nat), eo.grownBy w' none ∧ F 0 = .slice a ms.length c ∧ F 3 = pt a9 0 ∧ F 4 = vi 0 ∧ (S 11 = true → F 5 = pt J 0 ∧ w.heap.size ≤ J ∧ Blk w' J 33 #[vi 0, vi 0, vb false, vb false, vb false] ∧ a9 < J ∧ eo.heap.size ≤ J) ∧ Vals S F [(0, 11, .slice a ms.length c), (1, 12, pt a9 1), (2, 13, vi q.run), (3, 14, vi (q.run - 1)), (4, 15, pt d4 dn), (5, 16, pt d4 (dn + 5)), (6, 17, .slice (mAt ms (q.run - 1).toNat).sa (mAt ms (q.run - 1).toNat).t.slots.length (mAt ms (q.run - 1).toNat).sc), (7, 18, pt a9 2), (8, 19, vi q.a), (9, 20, pt io jr), (10, 21, .agg #[vi (rAt (mAt ms (q.run - 1).toNat).t.slots (q.a).toNat).th, vi (rAt (mAt ms (q.run - 1).toNat).t.slots (q.a).toNat).ve, vb (rAt (mAt ms (q.run - 1).toNat).t.slots (q.a).toNat).rd, vb (rAt (mAt ms (q.run - 1).toNat).t.slots (q.a).toNat).wr, vb (rAt (mAt ms (q.run - 1).toNat).t.slots (q.a).toNat).wk])]) Yz (by kernel_rfl) ⟨0, X8 _, Z, Z, Z, Ym, J2 _⟩ ?_ ?_
 refine Xi (fun S F kt hS hbef hcl hI => ?_) ?_
 obtain ⟨J, fk, eb, ip, iq, af, hvs⟩ := hI
 exact Xd (v := .slice a ms.length c) eb Z (Xb ⟨J, fk, eb, ip, iq, af, Vals.up 0 hvs Z Z Z⟩)
 refine Xi (fun S F ku hS hbef hcl hI => ?_) ?_
 obtain ⟨J, fm, ir, ed, it, af, hvs⟩ := hI
 exact Xc (o' := 1) Q5 ed Z Z (Xb ⟨J, fm, ir, ed, it, af, Vals.up 1 hvs Z Z Z⟩)
 refine Xi (fun S F kv hS hbef hcl hI => ?_) ?_
 obtain ⟨J, de, iu, iv, iw, af, hvs⟩ := hI
 exact Xh (v := vi q.run) X1 (Vals.at 1 hvs Z (Xl 1 hbef Z)) ((bd.blk.grown0 de).cell Z) Z (Xb ⟨J, de, iu, iv, iw, af, Vals.up 2 hvs Z Z Z⟩)
 refine Xi (fun S F kw hS hbef hcl hI => ?_) ?_
 obtain ⟨J, fo, ix, iy, iz, af, hvs⟩ := hI
 exact Yr (c := q.run - 1) (Vals.at 2 hvs Z (Xl 2 hbef Z)) Z (by omega) (by omega) (by omega) Z (Xb ⟨J, fo, ix, iy, iz, af, Vals.up 3 hvs Z Z Z⟩)
 refine Xi (fun S F kx hS hbef hcl hI => ?_) ?_
 obtain ⟨J, fp, i0, i1, i2, af, hvs⟩ := hI
 exact X3 Qc (Vals.at 0 hvs Z (Xl 0 hbef Z)) (Vals.at 3 hvs Z (Xl 3 hbef Z)) fb gy (by omega) (by omega) Z (Xb ⟨J, fp, i0, i1, i2, af, Vals.up 4 hvs Z Z Z⟩)
 refine Xi (fun S F ky hS hbef hcl hI => ?_) ?_
 obtain ⟨J, fq, i3, i4, i5, af, hvs⟩ := hI
 exact Xc (o' := dn + 5) Qj (Vals.at 4 hvs Z (Xl 4 hbef Z)) Z Z (Xb ⟨J, fq, i3, i4, i5, af, Vals.up 5 hvs Z Z Z⟩)
 refine Xi (fun S F kz hS hbef hcl hI => ?_) ?_
 obtain ⟨J, df, i6, i7, i8, af, hvs⟩ := hI
 exact Xh (v := .slice (mAt ms (q.run - 1).toNat).sa (mAt ms (q.run - 1).toNat).t.slots.length (mAt ms (q.run - 1).toNat).sc) Jd (Vals.at 5 hvs Z (Xl 5 hbef Z)) ((Yi ia df) 5 _ Z) Z (Xb ⟨J, df, i6, i7, i8, af, Vals.up 6 hvs Z Z Z⟩)
 refine Xi (fun S F k0 hS hbef hcl hI => ?_) ?_
 obtain ⟨J, fr, i9, ee, ja, af, hvs⟩ := hI
 exact Xc (o' := 2) Kr ee Z Z (Xb ⟨J, fr, i9, ee, ja, af, Vals.up 7 hvs Z Z Z⟩)
 refine Xi (fun S F k4 hS hbef hcl hI => ?_) ?_
 obtain ⟨J, dg, jb, jc, jd, af, hvs⟩ := hI
 exact Xh (v := vi q.a) X1 (Vals.at 7 hvs Z (Xl 7 hbef Z)) ((bd.blk.grown0 dg).cell Z) Z (Xb ⟨J, dg, jb, jc, jd, af, Vals.up 8 hvs Z Z Z⟩)
 refine Xi (fun S F k5 hS hbef hcl hI => ?_) ?_
 obtain ⟨J, ft, je, jf, jg, af, hvs⟩ := hI
 exact X3 J9 (Vals.at 6 hvs Z (Xl 6 hbef Z)) (Vals.at 8 hvs Z (Xl 8 hbef Z)) fc gz (by omega) (by omega) Z (Xb ⟨J, ft, je, jf, jg, af, Vals.up 9 hvs Z Z Z⟩)
 refine Xi (fun S F k6 hS hbef hcl hI => ?_) ?_
 obtain ⟨J, dh, jh, ji, jj, af, hvs⟩ := hI
 exact Xr (vs := [vi (rAt (mAt ms (q.run - 1).toNat).t.slots (q.a).toNat).th, vi (rAt (mAt ms (q.run - 1).toNat).t.slots (q.a).toNat).ve, vb (rAt (mAt ms (q.run - 1).toNat).t.slots (q.a).toNat).rd, vb (rAt (mAt ms (q.run - 1).toNat).t.slots (q.a).toNat).wr, vb (rAt (mAt ms (q.run - 1).toNat).t.slots (q.a).toNat).wk]) Y0 (Vals.at 9 hvs Z (Xl 9 hbef Z)) Z (Y2 (Yi ib dh) 0 5 Z) Z (Xb ⟨J, dh, jh, ji, jj, af, Vals.up 10 hvs Z Z Z⟩)
 refine Xi (fun S F k7 hS hbef hcl hI => ?_) ?_
 obtain ⟨J, bz, jk, jl, jm, af, hvs⟩ := hI
 refine Yf (cs := #[vi 0, vi 0, vb false, vb false, vb false]) K3 Z Z ?_
 intro im k8 bm
 have d3 := Yd bm (low0 bn bz)
 have bp := Xo bm ((bd.blk.grown0 bz)).lt
 exact Xb ⟨im, (low0 bz bm.grw), jk, jl, jm, fun _ => ⟨Z, d3, bm.blk, bp, (nt bz.size (Nat.le_of_eq bm.eq.symm))⟩, Vals.keep hvs Z⟩
 exact Jb
 intro S F k9 hall hI
 obtain ⟨J, di, a8, ar, bk, af, hvs⟩ := hI
 obtain ⟨ae, ju, dm, dw, jq⟩ := af (hall 11 (by decide))
 refine Xy (vs := [vi (rAt (mAt ms (q.run - 1).toNat).t.slots (q.a).toNat).th, vi (rAt (mAt ms (q.run - 1).toNat).t.slots (q.a).toNat).ve, vb (rAt (mAt ms (q.run - 1).toNat).t.slots (q.a).toNat).rd, vb (rAt (mAt ms (q.run - 1).toNat).t.slots (q.a).toNat).wr, vb (rAt (mAt ms (q.run - 1).toNat).t.slots (q.a).toNat).wk]) (cs' := #[vi (rAt (mAt ms (q.run - 1).toNat).t.slots (q.a).toNat).th, vi (rAt (mAt ms (q.run - 1).toNat).t.slots (q.a).toNat).ve, vb (rAt (mAt ms (q.run - 1).toNat).t.slots (q.a).toNat).rd, vb (rAt (mAt ms (q.run - 1).toNat).t.slots (q.a).toNat).wr, vb (rAt (mAt ms (q.run - 1).toNat).t.slots (q.a).toNat).wk]) Y0 ae (Vals.at 10 hvs Z (hall 10 (by decide))) Z (by simp [Value.oneCell']) dm (Nat.le_of_ble_eq_true Z) Z ?_
 intro la ab
 have db := low1 (low0 bn di) ab.grw (by omega)
 refine Xb (Xu (Xa (Xc (o' := 0) Ji ar Z Z ?_)))
 have bg := ((bd.blk.grown0 di).gn ab.grw)
 refine Xh (v := vi q.kind) X1 Z (bg.cell Z) Z (Xn Xc2 (Xf Z Xm) Z (Sn q.kind _) ?_)
 rintro _ bj ⟨aq, rfl, bx, bq, V⟩
 have be := low0 db V
 have jv := nt db.size bx
 have dx := nl (bg).lt bx
 have dy := nl (ab.blk).lt bx
 refine Xe (v := .slice (pa aq) 4 4) Z Z (Xb (Xq (Kj (fun f' w' => (f' 0 = .slice a ms.length c ∧ f' 3 = pt a9 0 ∧ f' 4 = vi 0 ∧ f' 5 = pt J 0 ∧ f' 6 = .slice (pa aq) 4 4 ∧ f' 60 = vb ((((decide ((rAt (mAt ms (q.run - 1).toNat).t.slots (q.a).toNat).th = 0)) || (!kindFor q.kind (mAt ms ((rAt (mAt ms (q.run - 1).toNat).t.slots (q.a).toNat).th - 1).toNat).t.kind)) || (need0 q.kind && (!(rAt (mAt ms (q.run - 1).toNat).t.slots (q.a).toNat).rd))) || (need1 q.kind && (!(rAt (mAt ms (q.run - 1).toNat).t.slots (q.a).toNat).wr)))) ∧ bj.grownBy w' none) ?_ ?_)))
 rcases Yg (decide ((rAt (mAt ms (q.run - 1).toNat).t.slots (q.a).toNat).th = 0)) with E | E
 have ki := of_decide_eq_true E
 refine Yy (m := 13) (vals := [(25, pt J 0), (26, vi (rAt (mAt ms (q.run - 1).toNat).t.slots (q.a).toNat).th), (27, vb (decide ((rAt (mAt ms (q.run - 1).toNat).t.slots (q.a).toNat).th = 0))), (28, vb (decide ((rAt (mAt ms (q.run - 1).toNat).t.slots (q.a).toNat).th = 0))), (29, undef), (30, undef), (31, undef), (32, undef), (33, undef), (34, undef), (35, undef), (36, undef), (37, undef)]) (fun w' => bj.grownBy w' none) Yz (by kernel_rfl) (X8 _) ?_ ?_
 refine yl Z (fun _ _ k => Xc (o' := 0) Yo ae Z Z k) (yl Z (fun _ fu k => Xh (v := vi (rAt (mAt ms (q.run - 1).toNat).t.slots (q.a).toNat).th) X1 Z (((ab.blk.grown0 V).grown0 fu).cell Z) Z k) (yl Z (fun _ _ k => X6 (q := decide ((rAt (mAt ms (q.run - 1).toNat).t.slots (q.a).toNat).th = 0)) Z Z Z Z k) (yl Z (fun _ _ k => Xd (v := vb (decide ((rAt (mAt ms (q.run - 1).toNat).t.slots (q.a).toNat).th = 0))) Z Z k) (yl Z (fun _ _ k => Xj Z Z Z E Z k) (yl Z (fun _ _ k => Xj Z Z Z E Z k) (yl Z (fun _ _ k => Xj Z Z Z E Z k) (yl Z (fun _ _ k => Xj Z Z Z E Z k) (yl Z (fun _ _ k => Xj Z Z Z E Z k) (yl Z (fun _ _ k => Xj Z Z Z E Z k) (yl Z (fun _ _ k => Xj Z Z Z E Z k) ?_))))))))))
 exact yl Z (fun _ _ k => Xj Z Z Z E Z k) (yl Z (fun _ _ k => Xj Z Z Z E Z k) Y8)
 intro lc fv
 refine Xj Z Z Z E Z (Xj Z Z Z E Z (Xw (v := vb true) Z E Z Z (Xd (v := vb true) Z Z ?_)))
 iterate 4 refine Xj rfl rfl rfl rfl rfl ?_
 iterate 3 refine Yu rfl rfl rfl rfl ?_
 refine Xj Z Z Z Z Z (Xw (v := vb true) Z Z Z Z (Xd (v := vb true) Z Z ?_))
 iterate 4 refine Xj rfl rfl rfl rfl rfl ?_
 iterate 3 refine Yu rfl rfl rfl rfl ?_
 exact Xj Z Z Z Z Z (Xw (v := vb true) Z Z Z Z (Xb (Xu ⟨⟨a8, ar, bk, ae, Z, (congrArg Value.bool (by first | (simp only [O, E, hT, b0, b1, b2, b3, b4, b5, b6, b7, b8, b9]; done) | simp [O, E, hT]))⟩, fv⟩)))
 have kj := of_decide_eq_false E
 rcases Yg (!kindFor q.kind (mAt ms ((rAt (mAt ms (q.run - 1).toNat).t.slots (q.a).toNat).th - 1).toNat).t.kind) with G | G
 have ef := Jr G
 obtain ⟨d5, kn, dp, fd, g0, ic⟩ := SlAt.at (TabAt.low ht be).1 (Yp (xg ms ((rAt (mAt ms (q.run - 1).toNat).t.slots (q.a).toNat).th - 1).toNat))
 have jx := TabLen.at hlen (xg ms ((rAt (mAt ms (q.run - 1).toNat).t.slots (q.a).toNat).th - 1).toNat)
 refine Yy (m := 13) (vals := [(25, pt J 0), (26, vi (rAt (mAt ms (q.run - 1).toNat).t.slots (q.a).toNat).th), (27, vb (decide ((rAt (mAt ms (q.run - 1).toNat).t.slots (q.a).toNat).th = 0))), (28, vb (decide ((rAt (mAt ms (q.run - 1).toNat).t.slots (q.a).toNat).th = 0))), (29, pt a9 0), (30, vi q.kind), (31, .slice a ms.length c), (32, pt J 0), (33, vi (rAt (mAt ms (q.run - 1).toNat).t.slots (q.a).toNat).th), (34, vi ((rAt (mAt ms (q.run - 1).toNat).t.slots (q.a).toNat).th - 1)), (35, pt d5 dp), (36, pt d5 dp), (37, vi (mAt ms ((rAt (mAt ms (q.run - 1).toNat).t.slots (q.a).toNat).th - 1).toNat).t.kind)]) (fun w' => bj.grownBy w' none) Yz (by kernel_rfl) (X8 _) ?_ ?_
 refine yl Z (fun _ _ k => Xc (o' := 0) Yo ae Z Z k) (yl Z (fun _ fw k => Xh (v := vi (rAt (mAt ms (q.run - 1).toNat).t.slots (q.a).toNat).th) X1 Z (((ab.blk.grown0 V).grown0 fw).cell Z) Z k) (yl Z (fun _ _ k => X6 (q := decide ((rAt (mAt ms (q.run - 1).toNat).t.slots (q.a).toNat).th = 0)) Z Z Z Z k) (yl Z (fun _ _ k => Xd (v := vb (decide ((rAt (mAt ms (q.run - 1).toNat).t.slots (q.a).toNat).th = 0))) Z Z k) (yl Z (fun _ _ k => Xg Z Z Z E (Xc (o' := 0) Ji ar Z Z k)) (yl Z (fun _ fx k => Xg Z Z Z E (Xh (v := vi q.kind) X1 Z (((bg.grown0 V).grown0 fx).cell Z) Z k)) (yl Z (fun _ _ k => Xg Z Z Z E (Xd (v := .slice a ms.length c) a8 Z k)) (yl Z (fun _ _ k => Xg Z Z Z E (Xc (o' := 0) Yo ae Z Z k)) (yl Z (fun _ fy k => Xg Z Z Z E (Xh (v := vi (rAt (mAt ms (q.run - 1).toNat).t.slots (q.a).toNat).th) X1 Z (((ab.blk.grown0 V).grown0 fy).cell Z) Z k)) (yl Z (fun _ _ k => Xg Z Z Z E (Yr (c := (rAt (mAt ms (q.run - 1).toNat).t.slots (q.a).toNat).th - 1) Z Z (by omega) (by omega) (by omega) Z k)) (yl Z (fun _ _ k => Xg Z Z Z E (X3 Qc Z Z fd g0 (by omega) (by omega) Z k)) ?_))))))))))
 exact yl Z (fun _ _ k => Xg Z Z Z E (Xc (o' := dp) Qd Z Z Z k)) (yl Z (fun _ fz k => Xg Z Z Z E (Xh (v := vi (mAt ms ((rAt (mAt ms (q.run - 1).toNat).t.slots (q.a).toNat).th - 1).toNat).t.kind) X1 Z ((Yi ic fz) 0 _ Z) Z k)) Y8)
 intro ld f8
 refine Xg Z Z Z E (Xn La (Xf Z (Xf Z Xm)) Z (Vm q.kind (mAt ms ((rAt (mAt ms (q.run - 1).toNat).t.slots (q.a).toNat).th - 1).toNat).t.kind _) ?_)
 rintro _ le ⟨rfl, fj⟩
 refine Xg Z Z Z E (Yn (b' := !kindFor q.kind (mAt ms ((rAt (mAt ms (q.run - 1).toNat).t.slots (q.a).toNat).th - 1).toNat).t.kind) Z Z Z (Xp (v := vb (!kindFor q.kind (mAt ms ((rAt (mAt ms (q.run - 1).toNat).t.slots (q.a).toNat).th - 1).toNat).t.kind)) Z E Z Z (Xd (v := vb (!kindFor q.kind (mAt ms ((rAt (mAt ms (q.run - 1).toNat).t.slots (q.a).toNat).th - 1).toNat).t.kind)) Z Z ?_)))
 iterate 4 refine Xj rfl rfl rfl G rfl ?_
 iterate 3 refine Yu rfl rfl rfl rfl ?_
 refine Xj Z Z Z G Z (Xw (v := vb true) Z G Z Z (Xd (v := vb true) Z Z ?_))
 iterate 4 refine Xj rfl rfl rfl rfl rfl ?_
 iterate 3 refine Yu rfl rfl rfl rfl ?_
 exact Xj Z Z Z Z Z (Xw (v := vb true) Z Z Z Z (Xb (Xu ⟨⟨a8, ar, bk, ae, Z, (congrArg Value.bool (by first | (simp only [O, E, G, ef, hT, b0, b1, b2, b3, b4, b5, b6, b7, b8, b9]; done) | simp [O, E, G, ef, hT]))⟩, (grown_trans f8 fj)⟩)))
 have bc := Q3 G
 rcases Yg (need0 q.kind) with ad | ad
 rcases Yg (!(rAt (mAt ms (q.run - 1).toNat).t.slots (q.a).toNat).rd) with ag | ag
 have eg := Jr ag
 obtain ⟨d6, ko, dq, fe, g5, ie⟩ := SlAt.at (TabAt.low ht be).1 (Yp (xg ms ((rAt (mAt ms (q.run - 1).toNat).t.slots (q.a).toNat).th - 1).toNat))
 have jy := TabLen.at hlen (xg ms ((rAt (mAt ms (q.run - 1).toNat).t.slots (q.a).toNat).th - 1).toNat)
 refine Yy (m := 13) (vals := [(25, pt J 0), (26, vi (rAt (mAt ms (q.run - 1).toNat).t.slots (q.a).toNat).th), (27, vb (decide ((rAt (mAt ms (q.run - 1).toNat).t.slots (q.a).toNat).th = 0))), (28, vb (decide ((rAt (mAt ms (q.run - 1).toNat).t.slots (q.a).toNat).th = 0))), (29, pt a9 0), (30, vi q.kind), (31, .slice a ms.length c), (32, pt J 0), (33, vi (rAt (mAt ms (q.run - 1).toNat).t.slots (q.a).toNat).th), (34, vi ((rAt (mAt ms (q.run - 1).toNat).t.slots (q.a).toNat).th - 1)), (35, pt d6 dq), (36, pt d6 dq), (37, vi (mAt ms ((rAt (mAt ms (q.run - 1).toNat).t.slots (q.a).toNat).th - 1).toNat).t.kind)]) (fun w' => bj.grownBy w' none) Yz (by kernel_rfl) (X8 _) ?_ ?_
 refine yl Z (fun _ _ k => Xc (o' := 0) Yo ae Z Z k) (yl Z (fun _ f9 k => Xh (v := vi (rAt (mAt ms (q.run - 1).toNat).t.slots (q.a).toNat).th) X1 Z (((ab.blk.grown0 V).grown0 f9).cell Z) Z k) (yl Z (fun _ _ k => X6 (q := decide ((rAt (mAt ms (q.run - 1).toNat).t.slots (q.a).toNat).th = 0)) Z Z Z Z k) (yl Z (fun _ _ k => Xd (v := vb (decide ((rAt (mAt ms (q.run - 1).toNat).t.slots (q.a).toNat).th = 0))) Z Z k) (yl Z (fun _ _ k => Xg Z Z Z E (Xc (o' := 0) Ji ar Z Z k)) (yl Z (fun _ ga k => Xg Z Z Z E (Xh (v := vi q.kind) X1 Z (((bg.grown0 V).grown0 ga).cell Z) Z k)) (yl Z (fun _ _ k => Xg Z Z Z E (Xd (v := .slice a ms.length c) a8 Z k)) (yl Z (fun _ _ k => Xg Z Z Z E (Xc (o' := 0) Yo ae Z Z k)) (yl Z (fun _ gb k => Xg Z Z Z E (Xh (v := vi (rAt (mAt ms (q.run - 1).toNat).t.slots (q.a).toNat).th) X1 Z (((ab.blk.grown0 V).grown0 gb).cell Z) Z k)) (yl Z (fun _ _ k => Xg Z Z Z E (Yr (c := (rAt (mAt ms (q.run - 1).toNat).t.slots (q.a).toNat).th - 1) Z Z (by omega) (by omega) (by omega) Z k)) (yl Z (fun _ _ k => Xg Z Z Z E (X3 Qc Z Z fe g5 (by omega) (by omega) Z k)) ?_))))))))))
 exact yl Z (fun _ _ k => Xg Z Z Z E (Xc (o' := dq) Qd Z Z Z k)) (yl Z (fun _ gc k => Xg Z Z Z E (Xh (v := vi (mAt ms ((rAt (mAt ms (q.run - 1).toNat).t.slots (q.a).toNat).th - 1).toNat).t.kind) X1 Z ((Yi ie gc) 0 _ Z) Z k)) Y8)
 intro lf ck
 refine Xg Z Z Z E (Xn La (Xf Z (Xf Z Xm)) Z (Vm q.kind (mAt ms ((rAt (mAt ms (q.run - 1).toNat).t.slots (q.a).toNat).th - 1).toNat).t.kind _) ?_)
 rintro _ lg ⟨rfl, ce⟩
 refine Xg Z Z Z E (Yn (b' := !kindFor q.kind (mAt ms ((rAt (mAt ms (q.run - 1).toNat).t.slots (q.a).toNat).th - 1).toNat).t.kind) Z Z Z (Xp (v := vb (!kindFor q.kind (mAt ms ((rAt (mAt ms (q.run - 1).toNat).t.slots (q.a).toNat).th - 1).toNat).t.kind)) Z E Z Z (Xd (v := vb (!kindFor q.kind (mAt ms ((rAt (mAt ms (q.run - 1).toNat).t.slots (q.a).toNat).th - 1).toNat).t.kind)) Z Z (Xg Z Z Z G (Xd (v := .slice (pa aq) 4 4) Z Z (Xg Z Z Z G (X4 (o' := 0) Vw Z Z (by omega) (by omega) Z Z (Xg Z Z Z G (Xh (v := vb (need0 q.kind)) Jw Z (((bq.grown0 ck).grown0 ce).cell Z) Z (Xg Z Z Z G (Xd (v := vb (need0 q.kind)) Z Z (Xg Z Z Z ad ?_))))))))))))
 refine Xc (o' := 2) Ub ae Z Z (Xg Z Z Z ad (Xh (v := vb (rAt (mAt ms (q.run - 1).toNat).t.slots (q.a).toNat).rd) Jw Z ((((ab.blk.grown0 V).grown0 ck).grown0 ce).cell Z) Z (Xg Z Z Z ad (Yn (b' := !(rAt (mAt ms (q.run - 1).toNat).t.slots (q.a).toNat).rd) Z Z Z (Xg Z Z Z G (Xw (v := vb (!(rAt (mAt ms (q.run - 1).toNat).t.slots (q.a).toNat).rd)) Z ad Z Z (Xp (v := vb (!(rAt (mAt ms (q.run - 1).toNat).t.slots (q.a).toNat).rd)) Z G Z Z (Xd (v := vb (!(rAt (mAt ms (q.run - 1).toNat).t.slots (q.a).toNat).rd)) Z Z ?_))))))))
 iterate 4 refine Xj rfl rfl rfl ag rfl ?_
 iterate 3 refine Yu rfl rfl rfl rfl ?_
 exact Xj Z Z Z ag Z (Xw (v := vb true) Z ag Z Z (Xb (Xu ⟨⟨a8, ar, bk, ae, Z, (congrArg Value.bool (by first | (simp only [O, E, G, bc, ad, ag, eg, hT, b0, b1, b2, b3, b4, b5, b6, b7, b8, b9]; done) | simp [O, E, G, bc, ad, ag, eg, hT]))⟩, (grown_trans ck ce)⟩)))
 have ct := Q3 ag
 rcases Yg (need1 q.kind) with ba | ba
 obtain ⟨d7, kp, dr, ff, g6, ig⟩ := SlAt.at (TabAt.low ht be).1 (Yp (xg ms ((rAt (mAt ms (q.run - 1).toNat).t.slots (q.a).toNat).th - 1).toNat))
 have jz := TabLen.at hlen (xg ms ((rAt (mAt ms (q.run - 1).toNat).t.slots (q.a).toNat).th - 1).toNat)
 refine Yy (m := 13) (vals := [(25, pt J 0), (26, vi (rAt (mAt ms (q.run - 1).toNat).t.slots (q.a).toNat).th), (27, vb (decide ((rAt (mAt ms (q.run - 1).toNat).t.slots (q.a).toNat).th = 0))), (28, vb (decide ((rAt (mAt ms (q.run - 1).toNat).t.slots (q.a).toNat).th = 0))), (29, pt a9 0), (30, vi q.kind), (31, .slice a ms.length c), (32, pt J 0), (33, vi (rAt (mAt ms (q.run - 1).toNat).t.slots (q.a).toNat).th), (34, vi ((rAt (mAt ms (q.run - 1).toNat).t.slots (q.a).toNat).th - 1)), (35, pt d7 dr), (36, pt d7 dr), (37, vi (mAt ms ((rAt (mAt ms (q.run - 1).toNat).t.slots (q.a).toNat).th - 1).toNat).t.kind)]) (fun w' => bj.grownBy w' none) Yz (by kernel_rfl) (X8 _) ?_ ?_
 refine yl Z (fun _ _ k => Xc (o' := 0) Yo ae Z Z k) (yl Z (fun _ gf k => Xh (v := vi (rAt (mAt ms (q.run - 1).toNat).t.slots (q.a).toNat).th) X1 Z (((ab.blk.grown0 V).grown0 gf).cell Z) Z k) (yl Z (fun _ _ k => X6 (q := decide ((rAt (mAt ms (q.run - 1).toNat).t.slots (q.a).toNat).th = 0)) Z Z Z Z k) (yl Z (fun _ _ k => Xd (v := vb (decide ((rAt (mAt ms (q.run - 1).toNat).t.slots (q.a).toNat).th = 0))) Z Z k) (yl Z (fun _ _ k => Xg Z Z Z E (Xc (o' := 0) Ji ar Z Z k)) (yl Z (fun _ gg k => Xg Z Z Z E (Xh (v := vi q.kind) X1 Z (((bg.grown0 V).grown0 gg).cell Z) Z k)) (yl Z (fun _ _ k => Xg Z Z Z E (Xd (v := .slice a ms.length c) a8 Z k)) (yl Z (fun _ _ k => Xg Z Z Z E (Xc (o' := 0) Yo ae Z Z k)) (yl Z (fun _ gh k => Xg Z Z Z E (Xh (v := vi (rAt (mAt ms (q.run - 1).toNat).t.slots (q.a).toNat).th) X1 Z (((ab.blk.grown0 V).grown0 gh).cell Z) Z k)) (yl Z (fun _ _ k => Xg Z Z Z E (Yr (c := (rAt (mAt ms (q.run - 1).toNat).t.slots (q.a).toNat).th - 1) Z Z (by omega) (by omega) (by omega) Z k)) (yl Z (fun _ _ k => Xg Z Z Z E (X3 Qc Z Z ff g6 (by omega) (by omega) Z k)) ?_))))))))))
 exact yl Z (fun _ _ k => Xg Z Z Z E (Xc (o' := dr) Qd Z Z Z k)) (yl Z (fun _ gi k => Xg Z Z Z E (Xh (v := vi (mAt ms ((rAt (mAt ms (q.run - 1).toNat).t.slots (q.a).toNat).th - 1).toNat).t.kind) X1 Z ((Yi ig gi) 0 _ Z) Z k)) Y8)
 intro lh cl
 refine Xg Z Z Z E (Xn La (Xf Z (Xf Z Xm)) Z (Vm q.kind (mAt ms ((rAt (mAt ms (q.run - 1).toNat).t.slots (q.a).toNat).th - 1).toNat).t.kind _) ?_)
 rintro _ li ⟨rfl, cf⟩
 refine Xg Z Z Z E (Yn (b' := !kindFor q.kind (mAt ms ((rAt (mAt ms (q.run - 1).toNat).t.slots (q.a).toNat).th - 1).toNat).t.kind) Z Z Z (Xp (v := vb (!kindFor q.kind (mAt ms ((rAt (mAt ms (q.run - 1).toNat).t.slots (q.a).toNat).th - 1).toNat).t.kind)) Z E Z Z (Xd (v := vb (!kindFor q.kind (mAt ms ((rAt (mAt ms (q.run - 1).toNat).t.slots (q.a).toNat).th - 1).toNat).t.kind)) Z Z (Xg Z Z Z G (Xd (v := .slice (pa aq) 4 4) Z Z (Xg Z Z Z G (X4 (o' := 0) Vw Z Z (by omega) (by omega) Z Z (Xg Z Z Z G ?_))))))))
 have eh := ((bq.grown0 cl).grown0 cf)
 refine Xh (v := vb (need0 q.kind)) Jw Z (eh.cell Z) Z (Xg Z Z Z G (Xd (v := vb (need0 q.kind)) Z Z (Xg Z Z Z ad (Xc (o' := 2) Ub ae Z Z (Xg Z Z Z ad ?_)))))
 have ei := (((ab.blk.grown0 V).grown0 cl).grown0 cf)
 refine Xh (v := vb (rAt (mAt ms (q.run - 1).toNat).t.slots (q.a).toNat).rd) Jw Z (ei.cell Z) Z (Xg Z Z Z ad (Yn (b' := !(rAt (mAt ms (q.run - 1).toNat).t.slots (q.a).toNat).rd) Z Z Z (Xg Z Z Z G (Xw (v := vb (!(rAt (mAt ms (q.run - 1).toNat).t.slots (q.a).toNat).rd)) Z ad Z Z (Xp (v := vb (!(rAt (mAt ms (q.run - 1).toNat).t.slots (q.a).toNat).rd)) Z G Z Z (Xd (v := vb (!(rAt (mAt ms (q.run - 1).toNat).t.slots (q.a).toNat).rd)) Z Z (Xg Z Z Z ag (Xd (v := .slice (pa aq) 4 4) Z Z (Xg Z Z Z ag (X4 (o' := 1) Vw Z Z (by omega) (by omega) Z Z (Xg Z Z Z ag (Xh (v := vb (need1 q.kind)) Jw Z (eh.cell Z) Z ?_))))))))))))
 exact Xg Z Z Z ag (Xd (v := vb (need1 q.kind)) Z Z (Xg Z Z Z ba (Xc (o' := 3) Vd ae Z Z (Xg Z Z Z ba (Xh (v := vb (rAt (mAt ms (q.run - 1).toNat).t.slots (q.a).toNat).wr) Jw Z (ei.cell Z) Z (Xg Z Z Z ba (Yn (b' := !(rAt (mAt ms (q.run - 1).toNat).t.slots (q.a).toNat).wr) Z Z Z (Xg Z Z Z ag (Xw (v := vb (!(rAt (mAt ms (q.run - 1).toNat).t.slots (q.a).toNat).wr)) Z ba Z Z (Xp (v := vb (!(rAt (mAt ms (q.run - 1).toNat).t.slots (q.a).toNat).wr)) Z ag Z Z (Xb (Xu ⟨⟨a8, ar, bk, ae, Z, (congrArg Value.bool (by first | (simp only [O, E, G, bc, ad, ag, ct, ba, hT, b0, b1, b2, b3, b4, b5, b6, b7, b8, b9]; done) | simp [O, E, G, bc, ad, ag, ct, ba, hT]))⟩, (grown_trans cl cf)⟩))))))))))))
 obtain ⟨d8, kq, dt, fg, g7, ii⟩ := SlAt.at (TabAt.low ht be).1 (Yp (xg ms ((rAt (mAt ms (q.run - 1).toNat).t.slots (q.a).toNat).th - 1).toNat))
 have j1 := TabLen.at hlen (xg ms ((rAt (mAt ms (q.run - 1).toNat).t.slots (q.a).toNat).th - 1).toNat)
 refine Yy (m := 13) (vals := [(25, pt J 0), (26, vi (rAt (mAt ms (q.run - 1).toNat).t.slots (q.a).toNat).th), (27, vb (decide ((rAt (mAt ms (q.run - 1).toNat).t.slots (q.a).toNat).th = 0))), (28, vb (decide ((rAt (mAt ms (q.run - 1).toNat).t.slots (q.a).toNat).th = 0))), (29, pt a9 0), (30, vi q.kind), (31, .slice a ms.length c), (32, pt J 0), (33, vi (rAt (mAt ms (q.run - 1).toNat).t.slots (q.a).toNat).th), (34, vi ((rAt (mAt ms (q.run - 1).toNat).t.slots (q.a).toNat).th - 1)), (35, pt d8 dt), (36, pt d8 dt), (37, vi (mAt ms ((rAt (mAt ms (q.run - 1).toNat).t.slots (q.a).toNat).th - 1).toNat).t.kind)]) (fun w' => bj.grownBy w' none) Yz (by kernel_rfl) (X8 _) ?_ ?_
 refine yl Z (fun _ _ k => Xc (o' := 0) Yo ae Z Z k) (yl Z (fun _ gj k => Xh (v := vi (rAt (mAt ms (q.run - 1).toNat).t.slots (q.a).toNat).th) X1 Z (((ab.blk.grown0 V).grown0 gj).cell Z) Z k) (yl Z (fun _ _ k => X6 (q := decide ((rAt (mAt ms (q.run - 1).toNat).t.slots (q.a).toNat).th = 0)) Z Z Z Z k) (yl Z (fun _ _ k => Xd (v := vb (decide ((rAt (mAt ms (q.run - 1).toNat).t.slots (q.a).toNat).th = 0))) Z Z k) (yl Z (fun _ _ k => Xg Z Z Z E (Xc (o' := 0) Ji ar Z Z k)) (yl Z (fun _ gk k => Xg Z Z Z E (Xh (v := vi q.kind) X1 Z (((bg.grown0 V).grown0 gk).cell Z) Z k)) (yl Z (fun _ _ k => Xg Z Z Z E (Xd (v := .slice a ms.length c) a8 Z k)) (yl Z (fun _ _ k => Xg Z Z Z E (Xc (o' := 0) Yo ae Z Z k)) (yl Z (fun _ gl k => Xg Z Z Z E (Xh (v := vi (rAt (mAt ms (q.run - 1).toNat).t.slots (q.a).toNat).th) X1 Z (((ab.blk.grown0 V).grown0 gl).cell Z) Z k)) (yl Z (fun _ _ k => Xg Z Z Z E (Yr (c := (rAt (mAt ms (q.run - 1).toNat).t.slots (q.a).toNat).th - 1) Z Z (by omega) (by omega) (by omega) Z k)) (yl Z (fun _ _ k => Xg Z Z Z E (X3 Qc Z Z fg g7 (by omega) (by omega) Z k)) ?_))))))))))
 exact yl Z (fun _ _ k => Xg Z Z Z E (Xc (o' := dt) Qd Z Z Z k)) (yl Z (fun _ gm k => Xg Z Z Z E (Xh (v := vi (mAt ms ((rAt (mAt ms (q.run - 1).toNat).t.slots (q.a).toNat).th - 1).toNat).t.kind) X1 Z ((Yi ii gm) 0 _ Z) Z k)) Y8)
 intro lj cm
 refine Xg Z Z Z E (Xn La (Xf Z (Xf Z Xm)) Z (Vm q.kind (mAt ms ((rAt (mAt ms (q.run - 1).toNat).t.slots (q.a).toNat).th - 1).toNat).t.kind _) ?_)
 rintro _ lk ⟨rfl, cg⟩
 refine Xg Z Z Z E (Yn (b' := !kindFor q.kind (mAt ms ((rAt (mAt ms (q.run - 1).toNat).t.slots (q.a).toNat).th - 1).toNat).t.kind) Z Z Z (Xp (v := vb (!kindFor q.kind (mAt ms ((rAt (mAt ms (q.run - 1).toNat).t.slots (q.a).toNat).th - 1).toNat).t.kind)) Z E Z Z (Xd (v := vb (!kindFor q.kind (mAt ms ((rAt (mAt ms (q.run - 1).toNat).t.slots (q.a).toNat).th - 1).toNat).t.kind)) Z Z (Xg Z Z Z G (Xd (v := .slice (pa aq) 4 4) Z Z (Xg Z Z Z G (X4 (o' := 0) Vw Z Z (by omega) (by omega) Z Z (Xg Z Z Z G ?_))))))))
 have ej := ((bq.grown0 cm).grown0 cg)
 refine Xh (v := vb (need0 q.kind)) Jw Z (ej.cell Z) Z (Xg Z Z Z G (Xd (v := vb (need0 q.kind)) Z Z (Xg Z Z Z ad (Xc (o' := 2) Ub ae Z Z (Xg Z Z Z ad (Xh (v := vb (rAt (mAt ms (q.run - 1).toNat).t.slots (q.a).toNat).rd) Jw Z ((((ab.blk.grown0 V).grown0 cm).grown0 cg).cell Z) Z (Xg Z Z Z ad (Yn (b' := !(rAt (mAt ms (q.run - 1).toNat).t.slots (q.a).toNat).rd) Z Z Z (Xg Z Z Z G (Xw (v := vb (!(rAt (mAt ms (q.run - 1).toNat).t.slots (q.a).toNat).rd)) Z ad Z Z (Xp (v := vb (!(rAt (mAt ms (q.run - 1).toNat).t.slots (q.a).toNat).rd)) Z G Z Z (Xd (v := vb (!(rAt (mAt ms (q.run - 1).toNat).t.slots (q.a).toNat).rd)) Z Z ?_))))))))))))
 refine Xg Z Z Z ag (Xd (v := .slice (pa aq) 4 4) Z Z (Xg Z Z Z ag (X4 (o' := 1) Vw Z Z (by omega) (by omega) Z Z (Xg Z Z Z ag (Xh (v := vb (need1 q.kind)) Jw Z (ej.cell Z) Z (Xg Z Z Z ag (Xd (v := vb (need1 q.kind)) Z Z ?_)))))))
 iterate 3 refine Xj rfl rfl rfl ba rfl ?_
 exact Xg Z Z Z ag (Xp (v := vb false) Z ba Z Z (Xp (v := vb false) Z ag Z Z (Xb (Xu ⟨⟨a8, ar, bk, ae, Z, (congrArg Value.bool (by first | (simp only [O, E, G, bc, ad, ag, ct, ba, hT, b0, b1, b2, b3, b4, b5, b6, b7, b8, b9]; done) | simp [O, E, G, bc, ad, ag, ct, ba, hT]))⟩, (grown_trans cm cg)⟩))))
 rcases Yg (need1 q.kind) with bb | bb
 obtain ⟨d9, kr, du, fh, g8, ij⟩ := SlAt.at (TabAt.low ht be).1 (Yp (xg ms ((rAt (mAt ms (q.run - 1).toNat).t.slots (q.a).toNat).th - 1).toNat))
 have j2 := TabLen.at hlen (xg ms ((rAt (mAt ms (q.run - 1).toNat).t.slots (q.a).toNat).th - 1).toNat)
 refine Yy (m := 13) (vals := [(25, pt J 0), (26, vi (rAt (mAt ms (q.run - 1).toNat).t.slots (q.a).toNat).th), (27, vb (decide ((rAt (mAt ms (q.run - 1).toNat).t.slots (q.a).toNat).th = 0))), (28, vb (decide ((rAt (mAt ms (q.run - 1).toNat).t.slots (q.a).toNat).th = 0))), (29, pt a9 0), (30, vi q.kind), (31, .slice a ms.length c), (32, pt J 0), (33, vi (rAt (mAt ms (q.run - 1).toNat).t.slots (q.a).toNat).th), (34, vi ((rAt (mAt ms (q.run - 1).toNat).t.slots (q.a).toNat).th - 1)), (35, pt d9 du), (36, pt d9 du), (37, vi (mAt ms ((rAt (mAt ms (q.run - 1).toNat).t.slots (q.a).toNat).th - 1).toNat).t.kind)]) (fun w' => bj.grownBy w' none) Yz (by kernel_rfl) (X8 _) ?_ ?_
 refine yl Z (fun _ _ k => Xc (o' := 0) Yo ae Z Z k) (yl Z (fun _ gp k => Xh (v := vi (rAt (mAt ms (q.run - 1).toNat).t.slots (q.a).toNat).th) X1 Z (((ab.blk.grown0 V).grown0 gp).cell Z) Z k) (yl Z (fun _ _ k => X6 (q := decide ((rAt (mAt ms (q.run - 1).toNat).t.slots (q.a).toNat).th = 0)) Z Z Z Z k) (yl Z (fun _ _ k => Xd (v := vb (decide ((rAt (mAt ms (q.run - 1).toNat).t.slots (q.a).toNat).th = 0))) Z Z k) (yl Z (fun _ _ k => Xg Z Z Z E (Xc (o' := 0) Ji ar Z Z k)) (yl Z (fun _ gq k => Xg Z Z Z E (Xh (v := vi q.kind) X1 Z (((bg.grown0 V).grown0 gq).cell Z) Z k)) (yl Z (fun _ _ k => Xg Z Z Z E (Xd (v := .slice a ms.length c) a8 Z k)) (yl Z (fun _ _ k => Xg Z Z Z E (Xc (o' := 0) Yo ae Z Z k)) (yl Z (fun _ gr k => Xg Z Z Z E (Xh (v := vi (rAt (mAt ms (q.run - 1).toNat).t.slots (q.a).toNat).th) X1 Z (((ab.blk.grown0 V).grown0 gr).cell Z) Z k)) (yl Z (fun _ _ k => Xg Z Z Z E (Yr (c := (rAt (mAt ms (q.run - 1).toNat).t.slots (q.a).toNat).th - 1) Z Z (by omega) (by omega) (by omega) Z k)) (yl Z (fun _ _ k => Xg Z Z Z E (X3 Qc Z Z fh g8 (by omega) (by omega) Z k)) ?_))))))))))
 exact yl Z (fun _ _ k => Xg Z Z Z E (Xc (o' := du) Qd Z Z Z k)) (yl Z (fun _ gt k => Xg Z Z Z E (Xh (v := vi (mAt ms ((rAt (mAt ms (q.run - 1).toNat).t.slots (q.a).toNat).th - 1).toNat).t.kind) X1 Z ((Yi ij gt) 0 _ Z) Z k)) Y8)
 intro ll cn
 refine Xg Z Z Z E (Xn La (Xf Z (Xf Z Xm)) Z (Vm q.kind (mAt ms ((rAt (mAt ms (q.run - 1).toNat).t.slots (q.a).toNat).th - 1).toNat).t.kind _) ?_)
 rintro _ lm ⟨rfl, cj⟩
 refine Xg Z Z Z E (Yn (b' := !kindFor q.kind (mAt ms ((rAt (mAt ms (q.run - 1).toNat).t.slots (q.a).toNat).th - 1).toNat).t.kind) Z Z Z (Xp (v := vb (!kindFor q.kind (mAt ms ((rAt (mAt ms (q.run - 1).toNat).t.slots (q.a).toNat).th - 1).toNat).t.kind)) Z E Z Z (Xd (v := vb (!kindFor q.kind (mAt ms ((rAt (mAt ms (q.run - 1).toNat).t.slots (q.a).toNat).th - 1).toNat).t.kind)) Z Z (Xg Z Z Z G (Xd (v := .slice (pa aq) 4 4) Z Z (Xg Z Z Z G (X4 (o' := 0) Vw Z Z (by omega) (by omega) Z Z (Xg Z Z Z G ?_))))))))
 have ek := ((bq.grown0 cn).grown0 cj)
 refine Xh (v := vb (need0 q.kind)) Jw Z (ek.cell Z) Z (Xg Z Z Z G (Xd (v := vb (need0 q.kind)) Z Z ?_))
 iterate 3 refine Xj rfl rfl rfl ad rfl ?_
 refine Xg Z Z Z G (Xp (v := vb false) Z ad Z Z (Xp (v := vb false) Z G Z Z (Xd (v := vb false) Z Z (Xg Z Z Z Z (Xd (v := .slice (pa aq) 4 4) Z Z (Xg Z Z Z Z (X4 (o' := 1) Vw Z Z (by omega) (by omega) Z Z (Xg Z Z Z Z (Xh (v := vb (need1 q.kind)) Jw Z (ek.cell Z) Z (Xg Z Z Z Z (Xd (v := vb (need1 q.kind)) Z Z (Xg Z Z Z bb ?_))))))))))))
 exact Xc (o' := 3) Vd ae Z Z (Xg Z Z Z bb (Xh (v := vb (rAt (mAt ms (q.run - 1).toNat).t.slots (q.a).toNat).wr) Jw Z ((((ab.blk.grown0 V).grown0 cn).grown0 cj).cell Z) Z (Xg Z Z Z bb (Yn (b' := !(rAt (mAt ms (q.run - 1).toNat).t.slots (q.a).toNat).wr) Z Z Z (Xg Z Z Z Z (Xw (v := vb (!(rAt (mAt ms (q.run - 1).toNat).t.slots (q.a).toNat).wr)) Z bb Z Z (Xp (v := vb (!(rAt (mAt ms (q.run - 1).toNat).t.slots (q.a).toNat).wr)) Z Z Z Z (Xb (Xu ⟨⟨a8, ar, bk, ae, Z, (congrArg Value.bool (by first | (simp only [O, E, G, bc, ad, bb, hT, b0, b1, b2, b3, b4, b5, b6, b7, b8, b9]; done) | simp [O, E, G, bc, ad, bb, hT]))⟩, (grown_trans cn cj)⟩)))))))))
 obtain ⟨ea, ks, dv, fi, g9, ik⟩ := SlAt.at (TabAt.low ht be).1 (Yp (xg ms ((rAt (mAt ms (q.run - 1).toNat).t.slots (q.a).toNat).th - 1).toNat))
 have j3 := TabLen.at hlen (xg ms ((rAt (mAt ms (q.run - 1).toNat).t.slots (q.a).toNat).th - 1).toNat)
 refine Yy (m := 13) (vals := [(25, pt J 0), (26, vi (rAt (mAt ms (q.run - 1).toNat).t.slots (q.a).toNat).th), (27, vb (decide ((rAt (mAt ms (q.run - 1).toNat).t.slots (q.a).toNat).th = 0))), (28, vb (decide ((rAt (mAt ms (q.run - 1).toNat).t.slots (q.a).toNat).th = 0))), (29, pt a9 0), (30, vi q.kind), (31, .slice a ms.length c), (32, pt J 0), (33, vi (rAt (mAt ms (q.run - 1).toNat).t.slots (q.a).toNat).th), (34, vi ((rAt (mAt ms (q.run - 1).toNat).t.slots (q.a).toNat).th - 1)), (35, pt ea dv), (36, pt ea dv), (37, vi (mAt ms ((rAt (mAt ms (q.run - 1).toNat).t.slots (q.a).toNat).th - 1).toNat).t.kind)]) (fun w' => bj.grownBy w' none) Yz (by kernel_rfl) (X8 _) ?_ ?_
 refine yl Z (fun _ _ k => Xc (o' := 0) Yo ae Z Z k) (yl Z (fun _ gu k => Xh (v := vi (rAt (mAt ms (q.run - 1).toNat).t.slots (q.a).toNat).th) X1 Z (((ab.blk.grown0 V).grown0 gu).cell Z) Z k) (yl Z (fun _ _ k => X6 (q := decide ((rAt (mAt ms (q.run - 1).toNat).t.slots (q.a).toNat).th = 0)) Z Z Z Z k) (yl Z (fun _ _ k => Xd (v := vb (decide ((rAt (mAt ms (q.run - 1).toNat).t.slots (q.a).toNat).th = 0))) Z Z k) (yl Z (fun _ _ k => Xg Z Z Z E (Xc (o' := 0) Ji ar Z Z k)) (yl Z (fun _ gv k => Xg Z Z Z E (Xh (v := vi q.kind) X1 Z (((bg.grown0 V).grown0 gv).cell Z) Z k)) (yl Z (fun _ _ k => Xg Z Z Z E (Xd (v := .slice a ms.length c) a8 Z k)) (yl Z (fun _ _ k => Xg Z Z Z E (Xc (o' := 0) Yo ae Z Z k)) (yl Z (fun _ gw k => Xg Z Z Z E (Xh (v := vi (rAt (mAt ms (q.run - 1).toNat).t.slots (q.a).toNat).th) X1 Z (((ab.blk.grown0 V).grown0 gw).cell Z) Z k)) (yl Z (fun _ _ k => Xg Z Z Z E (Yr (c := (rAt (mAt ms (q.run - 1).toNat).t.slots (q.a).toNat).th - 1) Z Z (by omega) (by omega) (by omega) Z k)) (yl Z (fun _ _ k => Xg Z Z Z E (X3 Qc Z Z fi g9 (by omega) (by omega) Z k)) ?_))))))))))
 exact yl Z (fun _ _ k => Xg Z Z Z E (Xc (o' := dv) Qd Z Z Z k)) (yl Z (fun _ gx k => Xg Z Z Z E (Xh (v := vi (mAt ms ((rAt (mAt ms (q.run - 1).toNat).t.slots (q.a).toNat).th - 1).toNat).t.kind) X1 Z ((Yi ik gx) 0 _ Z) Z k)) Y8)
 intro ln dk
 refine Xg Z Z Z E (Xn La (Xf Z (Xf Z Xm)) Z (Vm q.kind (mAt ms ((rAt (mAt ms (q.run - 1).toNat).t.slots (q.a).toNat).th - 1).toNat).t.kind _) ?_)
 rintro _ lp ⟨rfl, dc⟩
 refine Xg Z Z Z E (Yn (b' := !kindFor q.kind (mAt ms ((rAt (mAt ms (q.run - 1).toNat).t.slots (q.a).toNat).th - 1).toNat).t.kind) Z Z Z (Xp (v := vb (!kindFor q.kind (mAt ms ((rAt (mAt ms (q.run - 1).toNat).t.slots (q.a).toNat).th - 1).toNat).t.kind)) Z E Z Z (Xd (v := vb (!kindFor q.kind (mAt ms ((rAt (mAt ms (q.run - 1).toNat).t.slots (q.a).toNat).th - 1).toNat).t.kind)) Z Z (Xg Z Z Z G (Xd (v := .slice (pa aq) 4 4) Z Z (Xg Z Z Z G (X4 (o' := 0) Vw Z Z (by omega) (by omega) Z Z (Xg Z Z Z G ?_))))))))
 have em := ((bq.grown0 dk).grown0 dc)
 refine Xh (v := vb (need0 q.kind)) Jw Z (em.cell Z) Z (Xg Z Z Z G (Xd (v := vb (need0 q.kind)) Z Z ?_))
 iterate 3 refine Xj rfl rfl rfl ad rfl ?_
 refine Xg Z Z Z G (Xp (v := vb false) Z ad Z Z (Xp (v := vb false) Z G Z Z (Xd (v := vb false) Z Z (Xg Z Z Z Z (Xd (v := .slice (pa aq) 4 4) Z Z (Xg Z Z Z Z (X4 (o' := 1) Vw Z Z (by omega) (by omega) Z Z (Xg Z Z Z Z (Xh (v := vb (need1 q.kind)) Jw Z (em.cell Z) Z (Xg Z Z Z Z (Xd (v := vb (need1 q.kind)) Z Z ?_)))))))))))
 iterate 3 refine Xj rfl rfl rfl bb rfl ?_
 exact Xg Z Z Z Z (Xp (v := vb false) Z bb Z Z (Xp (v := vb false) Z Z Z Z (Xb (Xu ⟨⟨a8, ar, bk, ae, Z, (congrArg Value.bool (by first | (simp only [O, E, G, bc, ad, bb, hT, b0, b1, b2, b3, b4, b5, b6, b7, b8, b9]; done) | simp [O, E, G, bc, ad, bb, hT]))⟩, (grown_trans dk dc)⟩))))
 rintro kf lu ⟨⟨bh, c8, ca, bi, c9, jo⟩, bw⟩
 have cc := low0 be bw
 refine X0 jo (fun ai => ?_) (fun ai => ?_)
 refine Xa (Xe (v := vi (-1)) Z Z (Xb (Xt (Yk (⟨vi (-1), Yt Z Z, ?_, cc⟩)))))
 exact congrArg (Value.int .i64) (Nw O ai)
 have am := Kl ai
 have an := Kl am
 have ao := Kl an
 have kk := of_decide_eq_false ao
 have ap := Km an
 have au := Q3 ap
 have av := Km am
 have aw := Km ai
 refine Xz (Xu (Xa (Xd (v := .slice a ms.length c) bh Z (Xc (o' := 1) Q5 c8 Z Z ?_))))
 have dl := ((bg.grown0 V).grown0 bw)
 refine Xh (v := vi q.run) X1 Z (dl.cell Z) Z (Xc (o' := 0) Yo bi Z Z ?_)
 have cy := ((ab.blk.grown0 V).grown0 bw)
 refine Xh (v := vi (rAt (mAt ms (q.run - 1).toNat).t.slots (q.a).toNat).th) X1 Z (cy.cell Z) Z (Xn Xah (Xf Z (Xf Z (Xf Z Xm))) Z (L6 q.run (rAt (mAt ms (q.run - 1).toNat).t.slots (q.a).toNat).th _ ms _ _ (TabAt.low ht cc) hlen (by omega) hT (by omega) (by omega)) ?_)
 rintro _ js ⟨rfl, bf⟩
 have cd := low0 cc bf
 refine Xe (v := vb (sees (tabT ms) q.run (rAt (mAt ms (q.run - 1).toNat).t.slots (q.a).toNat).th)) Z Z (Xb (Xq (Ya (fun f' w' => (f' 0 = .slice a ms.length c ∧ f' 4 = vi 0 ∧ f' 5 = pt J 0 ∧ f' 7 = vb (sees (tabT ms) q.run (rAt (mAt ms (q.run - 1).toNat).t.slots (q.a).toNat).th) ∧ f' 87 = vb ((need0 q.kind && (!sees (tabT ms) q.run (rAt (mAt ms (q.run - 1).toNat).t.slots (q.a).toNat).th)) || (need1 q.kind && (!touches (tabT ms) q.run (rAt (mAt ms (q.run - 1).toNat).t.slots (q.a).toNat).th)))) ∧ js.grownBy w' none) ?_ ?_)))
 refine Xd (v := .slice (pa aq) 4 4) c9 Z (X4 (o' := 2) Vw Z Z (by omega) (by omega) Z Z ?_)
 have co := ((bq.grown0 bw).grown0 bf)
 refine Xh (v := vb (need0 q.kind)) Jw Z (co.cell Z) Z (Xd (v := vb (need0 q.kind)) Z Z ?_)
 rcases Yg (need0 q.kind) with ah | ah
 refine Xg Z Z Z ah (Xd (v := vb (sees (tabT ms) q.run (rAt (mAt ms (q.run - 1).toNat).t.slots (q.a).toNat).th)) Z Z (Xg Z Z Z ah (Yn (b' := !sees (tabT ms) q.run (rAt (mAt ms (q.run - 1).toNat).t.slots (q.a).toNat).th) Z Z Z (Xw (v := vb (!sees (tabT ms) q.run (rAt (mAt ms (q.run - 1).toNat).t.slots (q.a).toNat).th)) Z ah Z Z (Xd (v := vb (!sees (tabT ms) q.run (rAt (mAt ms (q.run - 1).toNat).t.slots (q.a).toNat).th)) Z Z ?_)))))
 rcases Yg (!sees (tabT ms) q.run (rAt (mAt ms (q.run - 1).toNat).t.slots (q.a).toNat).th) with ac | ac
 have da := Jr ac
 iterate 4 refine Xj rfl rfl rfl ac rfl ?_
 iterate 7 refine Yu rfl rfl rfl rfl ?_
 exact Xj Z Z Z ac Z (Xw (v := vb true) Z ac Z Z (Xb ⟨⟨bh, ca, bi, Z, (congrArg Value.bool (by first | (simp only [ah, ac, da, O, ai, am, an, ao, ap, au, av, aw, hT, b0, b1, b2, b3, b4, b5, b6, b7, b8, b9]; done) | simp [ah, ac, da, O, ai, am, an, ao, ap, au, av, aw, hT]))⟩, (World.grownBy.refl _ _)⟩))
 have br := Q3 ac
 refine Xg Z Z Z ac (Xd (v := .slice (pa aq) 4 4) c9 Z (Xg Z Z Z ac (X4 (o' := 3) Vw Z Z (by omega) (by omega) Z Z (Xg Z Z Z ac (Xh (v := vb (need1 q.kind)) Jw Z (co.cell Z) Z (Xg Z Z Z ac (Xd (v := vb (need1 q.kind)) Z Z ?_)))))))
 rcases Yg (need1 q.kind) with aj | aj
 refine Xg Z Z Z aj (Xd (v := .slice a ms.length c) bh Z (Xg Z Z Z aj (Xc (o' := 1) Q5 c8 Z Z (Xg Z Z Z aj (Xh (v := vi q.run) X1 Z ((dl.grown0 bf).cell Z) Z (Xg Z Z Z aj (Xc (o' := 0) Yo bi Z Z (Xg Z Z Z aj (Xh (v := vi (rAt (mAt ms (q.run - 1).toNat).t.slots (q.a).toNat).th) X1 Z ((cy.grown0 bf).cell Z) Z (Xg Z Z Z aj (Xn Xan (Xf Z (Xf Z (Xf Z Xm))) Z (Gq q.run (rAt (mAt ms (q.run - 1).toNat).t.slots (q.a).toNat).th _ ms _ _ (TabAt.low ht cd) hlen (by omega) hT (by omega) (by omega)) ?_)))))))))))
 rintro _ ka ⟨rfl, dz⟩
 exact Xg Z Z Z aj (Yn (b' := !touches (tabT ms) q.run (rAt (mAt ms (q.run - 1).toNat).t.slots (q.a).toNat).th) Z Z Z (Xg Z Z Z ac (Xw (v := vb (!touches (tabT ms) q.run (rAt (mAt ms (q.run - 1).toNat).t.slots (q.a).toNat).th)) Z aj Z Z (Xp (v := vb (!touches (tabT ms) q.run (rAt (mAt ms (q.run - 1).toNat).t.slots (q.a).toNat).th)) Z ac Z Z (Xb ⟨⟨bh, ca, bi, Z, (congrArg Value.bool (by first | (simp only [ah, ac, br, aj, O, ai, am, an, ao, ap, au, av, aw, hT, b0, b1, b2, b3, b4, b5, b6, b7, b8, b9]; done) | simp [ah, ac, br, aj, O, ai, am, an, ao, ap, au, av, aw, hT]))⟩, dz⟩)))))
 iterate 7 refine Xj rfl rfl rfl aj rfl ?_
 exact Xg Z Z Z ac (Xp (v := vb false) Z aj Z Z (Xp (v := vb false) Z ac Z Z (Xb ⟨⟨bh, ca, bi, Z, (congrArg Value.bool (by first | (simp only [ah, ac, br, aj, O, ai, am, an, ao, ap, au, av, aw, hT, b0, b1, b2, b3, b4, b5, b6, b7, b8, b9]; done) | simp [ah, ac, br, aj, O, ai, am, an, ao, ap, au, av, aw, hT]))⟩, (World.grownBy.refl _ _)⟩)))
 refine Xj Z Z Z ah Z (Xj Z Z Z ah Z (Xp (v := vb false) Z ah Z Z (Xd (v := vb false) Z Z (Xg Z Z Z Z (Xd (v := .slice (pa aq) 4 4) c9 Z (Xg Z Z Z Z (X4 (o' := 3) Vw Z Z (by omega) (by omega) Z Z (Xg Z Z Z Z (Xh (v := vb (need1 q.kind)) Jw Z (co.cell Z) Z (Xg Z Z Z Z (Xd (v := vb (need1 q.kind)) Z Z ?_)))))))))))
 rcases Yg (need1 q.kind) with ak | ak
 refine Xg Z Z Z ak (Xd (v := .slice a ms.length c) bh Z (Xg Z Z Z ak (Xc (o' := 1) Q5 c8 Z Z (Xg Z Z Z ak (Xh (v := vi q.run) X1 Z ((dl.grown0 bf).cell Z) Z (Xg Z Z Z ak (Xc (o' := 0) Yo bi Z Z (Xg Z Z Z ak (Xh (v := vi (rAt (mAt ms (q.run - 1).toNat).t.slots (q.a).toNat).th) X1 Z ((cy.grown0 bf).cell Z) Z (Xg Z Z Z ak (Xn Xan (Xf Z (Xf Z (Xf Z Xm))) Z (Gq q.run (rAt (mAt ms (q.run - 1).toNat).t.slots (q.a).toNat).th _ ms _ _ (TabAt.low ht cd) hlen (by omega) hT (by omega) (by omega)) ?_)))))))))))
 rintro _ kb ⟨rfl, d0⟩
 exact Xg Z Z Z ak (Yn (b' := !touches (tabT ms) q.run (rAt (mAt ms (q.run - 1).toNat).t.slots (q.a).toNat).th) Z Z Z (Xg Z Z Z Z (Xw (v := vb (!touches (tabT ms) q.run (rAt (mAt ms (q.run - 1).toNat).t.slots (q.a).toNat).th)) Z ak Z Z (Xp (v := vb (!touches (tabT ms) q.run (rAt (mAt ms (q.run - 1).toNat).t.slots (q.a).toNat).th)) Z Z Z Z (Xb ⟨⟨bh, ca, bi, Z, (congrArg Value.bool (by first | (simp only [ah, ak, O, ai, am, an, ao, ap, au, av, aw, hT, b0, b1, b2, b3, b4, b5, b6, b7, b8, b9]; done) | simp [ah, ak, O, ai, am, an, ao, ap, au, av, aw, hT]))⟩, d0⟩)))))
 iterate 7 refine Xj rfl rfl rfl ak rfl ?_
 exact Xg Z Z Z Z (Xp (v := vb false) Z ak Z Z (Xp (v := vb false) Z Z Z Z (Xb ⟨⟨bh, ca, bi, Z, (congrArg Value.bool (by first | (simp only [ah, ak, O, ai, am, an, ao, ap, au, av, aw, hT, b0, b1, b2, b3, b4, b5, b6, b7, b8, b9]; done) | simp [ah, ak, O, ai, am, an, ao, ap, au, av, aw, hT]))⟩, (World.grownBy.refl _ _)⟩)))
 rintro j6 il ⟨⟨ep, cz, eu, ew, ez⟩, cw⟩
 have bv := low0 cd cw
 refine X0 ez (fun az => ?_) (fun az => ?_)
 refine Xa (Xe (v := vi (-2)) Z Z (Xb (Xt (Yk (⟨vi (-2), Yt Z Z, ?_, bv⟩)))))
 exact congrArg (Value.int .i64) (S7 O ai az)
 have bt := Kl az
 have bu := Km az
 refine Xz (Xu (Xq (Ya (fun f' w' => (f' 4 = vi 0 ∧ f' 94 = vb (sees (tabT ms) q.run (rAt (mAt ms (q.run - 1).toNat).t.slots (q.a).toNat).th && (!live (tabT ms) (rAt (mAt ms (q.run - 1).toNat).t.slots (q.a).toNat)))) ∧ il.grownBy w' none) ?_ ?_)))
 refine Xd (v := vb (sees (tabT ms) q.run (rAt (mAt ms (q.run - 1).toNat).t.slots (q.a).toNat).th)) ew Z (Xd (v := vb (sees (tabT ms) q.run (rAt (mAt ms (q.run - 1).toNat).t.slots (q.a).toNat).th)) Z Z ?_)
 rcases Yg (sees (tabT ms) q.run (rAt (mAt ms (q.run - 1).toNat).t.slots (q.a).toNat).th) with al | al
 refine Xg Z Z Z al (Xd (v := .slice a ms.length c) ep Z (Xg Z Z Z al (Xr (vs := [vi (rAt (mAt ms (q.run - 1).toNat).t.slots (q.a).toNat).th, vi (rAt (mAt ms (q.run - 1).toNat).t.slots (q.a).toNat).ve, vb (rAt (mAt ms (q.run - 1).toNat).t.slots (q.a).toNat).rd, vb (rAt (mAt ms (q.run - 1).toNat).t.slots (q.a).toNat).wr, vb (rAt (mAt ms (q.run - 1).toNat).t.slots (q.a).toNat).wk]) Y0 eu Z (((cy.grown0 bf).grown0 cw).rangeL 0 5 Z) Z (Xg Z Z Z al (Xn Xag (Xf Z (Xf Z Xm)) Z (Rq (rAt (mAt ms (q.run - 1).toNat).t.slots (q.a).toNat) (by omega) _ ms _ _ (TabAt.low ht bv) hlen (by omega)) ?_)))))
 rintro _ kc ⟨rfl, d1⟩
 exact Xg Z Z Z al (Yn (b' := !live (tabT ms) (rAt (mAt ms (q.run - 1).toNat).t.slots (q.a).toNat)) Z Z Z (Xw (v := vb (!live (tabT ms) (rAt (mAt ms (q.run - 1).toNat).t.slots (q.a).toNat))) Z al Z Z (Xb ⟨⟨cz, (congrArg Value.bool (by first | (simp only [az, bt, bu, al, O, ai, am, an, ao, ap, au, av, aw, hT, b0, b1, b2, b3, b4, b5, b6, b7, b8, b9]; done) | simp [az, bt, bu, al, O, ai, am, an, ao, ap, au, av, aw, hT]))⟩, d1⟩)))
 iterate 4 refine Xj rfl rfl rfl al rfl ?_
 exact Xp (v := vb false) Z al Z Z (Xb ⟨⟨cz, (congrArg Value.bool (by first | (simp only [az, bt, bu, al, O, ai, am, an, ao, ap, au, av, aw, hT, b0, b1, b2, b3, b4, b5, b6, b7, b8, b9]; done) | simp [az, bt, bu, al, O, ai, am, an, ao, ap, au, av, aw, hT]))⟩, (World.grownBy.refl _ _)⟩)
 rintro j7 ke ⟨⟨j5, e0⟩, d2⟩
 have cv := low0 bv d2
 refine X0 e0 (fun bl => ?_) (fun bl => ?_)
 have j8 := L0 bl
 have fa := L1 bl
 have j9 := Jr fa
 refine Xa (Xe (v := vi (-3)) Z Z (Xb (Xt (Yk (⟨vi (-3), Yt Z Z, ?_, cv⟩)))))
 exact congrArg (Value.int .i64) (S8 O ai az bl)
 refine Xz (Xu (Xa (Xe (v := vi 0) Z Z (Xb (Xt (⟨vi 0, Yt Z Z, ?_, cv⟩))))))
 exact congrArg (Value.int .i64) (S6 O ai az bl)
end Go.Proofs.YtlhhijnmacogcaaGreatDoor
end
section
namespace Go.Dw
structure Keeps (lo : Nat) (K : List TypeId) (w w' : World) : Prop where
  os : w'.os = w.os
  tape : w'.tape = w.tape
  output : w'.output = w.output
  size : w.heap.size ≤ w'.heap.size
  block : ∀ k, k < w.heap.size → (k < lo ∨ ∀ cs T p, w.heap[k]? = some (.cells cs T p) → T ∉ K) → w'.heap[k]? = w.heap[k]?
section
variable {lo : Nat} {K : List TypeId} {w w1 w2 : World}
theorem Keeps.of0 (hg : w.grownBy w1 none) : Keeps lo K w w1 := ⟨hg.os, hg.tape, hg.output, hg.size, fun k hk _ => hg.block k hk (by simp)⟩
theorem Keeps.refl (w : World) : Keeps lo K w w := Keeps.of0 (World.grownBy.refl w none)
theorem Keeps.trans (h : Keeps lo K w w1) (k : Keeps lo K w1 w2) : Keeps lo K w w2 :=
  ⟨k.os.trans h.os, k.tape.trans h.tape, k.output.trans h.output, Nat.le_trans h.size k.size, fun b hb hc => by
    have h1 := h.block b hb hc
    exact (k.block b (Nat.lt_of_lt_of_le hb h.size) (by rcases hc with h2 | h2; exact Or.inl h2; exact Or.inr (fun cs T p e => h2 cs T p (h1.symm.trans e)))).trans h1⟩
theorem Keeps.low (h : Keeps lo K w w1) (hg : w1.grownBy w2 none) : Keeps lo K w w2 := h.trans (Keeps.of0 hg)
theorem Keeps.put {B : Nat} {T : TypeId} {cs : Array Value} (h : Keeps lo K w w1) (hg : w1.grownBy w2 (some B)) (hb : Blk w1 B T cs) (hT : T ∈ K) (hl : lo ≤ B) : Keeps lo K w w2 := h.trans
  ⟨hg.os, hg.tape, hg.output, hg.size, fun k hk hc => hg.block k hk (by
    intro e
    have e : k = B := by simpa using e
    subst e
    rcases hc with h2 | h2
    · omega
    · exact h2 cs T (0, 0) hb hT)⟩
theorem Keeps.own {B sz cap n : Nat} {T : TypeId} {vs : List Value} (h : Keeps lo K w w1) (hg : w1.grownBy w2 (some B)) (ho : Own w1 B T sz cap n vs) (hT : T ∈ K) (hl : lo ≤ B) : Keeps lo K w w2 :=
  let ⟨_, _, hb, _⟩ := ho.blk; h.put hg hb hT hl
theorem Keeps.new {B : Nat} (h : Keeps lo K w w1) (hg : w1.grownBy w2 (some B)) (hl : w.heap.size ≤ B) : Keeps lo K w w2 :=
  ⟨hg.os.trans h.os, hg.tape.trans h.tape, hg.output.trans h.output, Nat.le_trans h.size hg.size, fun k hk hc => (hg.block k (Nat.lt_of_lt_of_le hk h.size) (Jj (show k ≠ B by omega))).trans (h.block k hk hc)⟩
theorem Keeps.grown {r : Option Nat} (hg : w.grownBy w1 r) (h : Keeps lo K w1 w2) (hl : w.heap.size ≤ lo) : w.grownBy w2 r :=
  ⟨h.os.trans hg.os, h.tape.trans hg.tape, h.output.trans hg.output, Nat.le_trans hg.size h.size, fun k hk hr => (h.block k (Nat.lt_of_lt_of_le hk hg.size) (Or.inl (by omega))).trans (hg.block k hk hr)⟩
end
section
variable {l sz cap n : Nat} {a : Option Addr} {U : TypeId} {us : List Value} {w w1 w2 : World}
theorem N8 {r : Option Nat} (h : w.grownBy w1 r) (hO : OwnN l w1 a U sz cap n us) (hg : w1.grownBy w2 (a.map (·.block))) (hl : w.heap.size ≤ l) : w.grownBy w2 r := by
  rcases hO.form with ⟨rfl, _⟩ | ⟨B, rfl, h2, _⟩
  · exact low0 h hg
  · exact low1 h hg (show w.heap.size ≤ B by omega)
theorem Keeps.newN {lo : Nat} {K : List TypeId} (h : Keeps lo K w w1) (hO : OwnN l w1 a U sz cap n us) (hg : w1.grownBy w2 (a.map (·.block))) (hl : w.heap.size ≤ l) : Keeps lo K w w2 := by
  rcases hO.form with ⟨rfl, _⟩ | ⟨B, rfl, h2, _⟩
  · exact h.low hg
  · exact h.new hg (show w.heap.size ≤ B by omega)
theorem Blk.typN {b : Nat} {T : TypeId} {cs : Array Value} (h : Blk w b T cs) (hO : OwnN l w a U sz cap n us) (hg : w.grownBy w1 (a.map (·.block))) (hT : T ≠ U) : Blk w1 b T cs := by
  rcases hO.form with ⟨rfl, _⟩ | ⟨B, rfl, h2, _, h3⟩
  · exact h.grown0 hg
  · refine h.grown hg (Jj (fun e => ?_))
    subst e
    obtain ⟨_, cur, hb, _⟩ := h3.blk
    have h1 : some (Obj.cells cs T (0, 0)) = some (Obj.cells cur U (0, 0)) := Eq.trans (Eq.symm h) hb
    simp only [Option.some.injEq, Obj.cells.injEq] at h1
    exact hT h1.2.1
theorem Own.typN {b s2 c2 n2 : Nat} {T : TypeId} {vs : List Value} (h : Own w b T s2 c2 n2 vs) (hO : OwnN l w a U sz cap n us) (hg : w.grownBy w1 (a.map (·.block))) (hT : T ≠ U) : Own w1 b T s2 c2 n2 vs := by
  obtain ⟨h1, cur, hb, h2, h3, h4, h5⟩ := h.blk
  exact Own.ofBlk h1 (hb.typN hO hg hT) h2 h3 h4 h5
end
structure RowS (TR TI lo : Nat) (w : World) (m : MTh) : Prop where
  s : ∃ (S : Nat) (xs : List Rt), m.sa = some ⟨S, 0, none⟩ ∧ lo ≤ S ∧ m.sc = m.t.slots.length ∧ xs.length = m.t.slots.length ∧ Blk w S TR (xs.flatMap Rt.cells).toArray
  q : ∃ (S : Nat) (xs : List Int), m.qa = some ⟨S, 0, none⟩ ∧ lo ≤ S ∧ m.qc = m.t.queue.length ∧ xs.length = m.t.queue.length ∧ Blk w S TI (xs.flatMap icell).toArray
  ls : m.t.slots.length ≤ 1048576
  lq : m.t.queue.length ≤ 1048576
def RowsS (TR TI lo : Nat) (w : World) (ms : List MTh) : Prop := ∀ m ∈ ms, RowS TR TI lo w m
theorem Se {w : World} {b c : Nat} {T U : TypeId} {cs ds : Array Value} (h : Blk w b T cs) (k : Blk w c U ds) (hT : T ≠ U) : b ≠ c := fun e => by
  subst e
  have h1 : some (Obj.cells cs T (0, 0)) = some (Obj.cells ds U (0, 0)) := Eq.trans (Eq.symm h) k
  simp only [Option.some.injEq, Obj.cells.injEq] at h1
  exact hT h1.2.1
section
variable {TR TI lo : Nat} {w w' : World} {m : MTh} {ms : List MTh}
theorem RowS.step {b : Nat} {U : TypeId} {ds : Array Value} (h : RowS TR TI lo w m) (hg : w.grownBy w' (some b)) (k : Blk w b U ds) (h1 : TR ≠ U) (h2 : TI ≠ U) : RowS TR TI lo w' m := by
  obtain ⟨⟨S, xs, a1, a2, a3, a4, a5⟩, ⟨Q, ys, b1, b2, b3, b4, b5⟩, h3, h4⟩ := h
  exact ⟨⟨S, xs, a1, a2, a3, a4, a5.grown hg (Jj (Se a5 k h1))⟩, ⟨Q, ys, b1, b2, b3, b4, b5.grown hg (Jj (Se b5 k h2))⟩, h3, h4⟩
theorem RowS.low (h : RowS TR TI lo w m) (hg : w.grownBy w' none) : RowS TR TI lo w' m := by
  obtain ⟨⟨S, xs, a1, a2, a3, a4, a5⟩, ⟨Q, ys, b1, b2, b3, b4, b5⟩, h3, h4⟩ := h
  exact ⟨⟨S, xs, a1, a2, a3, a4, a5.grown0 hg⟩, ⟨Q, ys, b1, b2, b3, b4, b5.grown0 hg⟩, h3, h4⟩
theorem RowS.mono {lo' : Nat} (h : RowS TR TI lo w m) (hl : lo' ≤ lo) : RowS TR TI lo' w m := by
  obtain ⟨⟨S, xs, a1, a2, a3, a4, a5⟩, ⟨Q, ys, b1, b2, b3, b4, b5⟩, h3, h4⟩ := h
  exact ⟨⟨S, xs, a1, Nat.le_trans hl a2, a3, a4, a5⟩, ⟨Q, ys, b1, Nat.le_trans hl b2, b3, b4, b5⟩, h3, h4⟩
theorem RowsS.low (h : RowsS TR TI lo w ms) (hg : w.grownBy w' none) : RowsS TR TI lo w' ms := fun m hm => (h m hm).low hg
theorem RowsS.own {b sz cap n : Nat} {U : TypeId} {vs : List Value} (h : RowsS TR TI lo w ms) (hg : w.grownBy w' (some b)) (k : Own w b U sz cap n vs) (h1 : TR ≠ U) (h2 : TI ≠ U) : RowsS TR TI lo w' ms := fun m hm => let ⟨_, _, hb, _⟩ := k.blk; (h m hm).step hg hb h1 h2
theorem Ss {b c sz cap n : Nat} {T U : TypeId} {vs : List Value} {ds : Array Value} (h : Own w b T sz cap n vs) (k : Blk w c U ds) (hT : T ≠ U) : b ≠ c := let ⟨_, _, hb, _⟩ := h.blk; Se hb k hT
theorem RowsS.at (h : RowsS TR TI lo w ms) {i : Nat} (hi : i < ms.length) : RowS TR TI lo w (mAt ms i) := h _ (List.mem_of_getElem? (Q0 hi))
theorem RowsS.set (h : RowsS TR TI lo w ms) {i : Nat} (hi : i < ms.length) {m' : MTh} (hq : m'.qa = (mAt ms i).qa ∧ m'.qc = (mAt ms i).qc ∧ m'.t.queue = (mAt ms i).t.queue) (hs : m'.sa = (mAt ms i).sa ∧ m'.sc = (mAt ms i).sc ∧ m'.t.slots = (mAt ms i).t.slots) : RowsS TR TI lo w (ms.set i m') := fun x hx => by
  rcases List.mem_or_eq_of_mem_set hx with h1 | rfl
  · exact h x h1
  · have h0 := h.at hi
    obtain ⟨h1, h2, h3⟩ := hq
    obtain ⟨h4, h5, h6⟩ := hs
    refine ⟨?_, ?_, ?_, ?_⟩
    · rw [h4, h5, h6]; exact h0.s
    · rw [h1, h2, h3]; exact h0.q
    · rw [h6]; exact h0.ls
    · rw [h3]; exact h0.lq
end
end Go.Dw
end
section
namespace Go.Dw
def setTh (ts : List Th) (k : Int) (t : Th) : List Th := ts.set (k - 1).toNat t
def setNum (ts : List Th) (k n : Int) : List Th := setTh ts k { thAt ts k with num := n }
def putSl (ts : List Th) (k j : Int) (x : Rt) : List Th := setTh ts k { thAt ts k with slots := (thAt ts k).slots.set j.toNat x }
def setQ (ts : List Th) (k : Int) (ns : List Int) : List Th := setTh ts k { thAt ts k with queue := ns }
def renewed (o : Th) : Th := { newTh o.kind o.lab o.to with ve := o.ve + 1 }
def fetched (x : Rt) (wk : Bool) : Rt := if wk = true then l2Less x true false false else x
def far (ts : List Th) (q : Cl) (r : Rt) : List Th × Int :=
  if q.kind = 1 then (ts, (thAt ts r.th).num)
  else if q.kind = 2 then (setNum ts r.th q.n, 0)
  else if q.kind = 4 then (putSl ts q.run q.b (fetched (slotAt ts r.th (q.n % 4)) r.wk), 0)
  else if q.kind = 5 then (putSl ts r.th (q.n % 4) (slotAt ts q.run q.b), 0)
  else if q.kind = 6 then (if (thAt ts r.th).queue.length < 3 then (setQ ts r.th ((thAt ts r.th).queue ++ [q.n]), 0) else (ts, -4))
  else if q.kind = 7 then (if (thAt ts r.th).queue.length = 0 then (ts, -4) else (setQ ts r.th ((thAt ts r.th).queue.drop 1), iAt (thAt ts r.th).queue 0))
  else if q.kind = 8 then (if (thAt ts r.th).ve < 5 then (setTh ts r.th (renewed (thAt ts r.th)), 0) else (ts, -4))
  else (setTh (setNum ts (thAt ts r.th).to (q.n % 2)) r.th { thAt ts r.th with num := min ((thAt ts r.th).num + 1) 99 }, 0)
def lessBits (r : Rt) (n : Int) : Rt := l2Less r (decide (n % 2 = 1)) (decide (n / 2 % 2 = 1)) (decide (n / 4 % 2 = 1))
def told (ts : List Th) (q : Cl) (r : Rt) : Int := if sees (far ts q r).1 q.run r.th = true then (far ts q r).2 else 0
def doCall (ts : List Th) (q : Cl) : List Th × Int :=
  if check1 ts q < 0 then (setNum ts q.run (check1 ts q), check1 ts q)
  else if q.kind = 3 then (setNum (putSl ts q.run q.b (lessBits (slotAt ts q.run q.a) q.n)) q.run (check1 ts q), check1 ts q)
  else if live ts (slotAt ts q.run q.a) = true then (setNum (far ts q (slotAt ts q.run q.a)).1 q.run (told ts q (slotAt ts q.run q.a)), told ts q (slotAt ts q.run q.a))
  else (setNum ts q.run (check1 ts q), check1 ts q)
def callDo (ts : List Th) (q : Cl) : List Th × Int := if callPoss ts q = true then doCall ts q else ([], -1)
section
variable {ts : List Th} {k : Int} {t t' : Th}
theorem Ll (h : 1 ≤ k ∧ k ≤ (ts.length : Int)) : ts[(k - 1).toNat]? = some (thAt ts k) := by
  unfold thAt
  rw [List.getD_eq_getElem?_getD, List.getElem?_eq_getElem (by omega)]
  rfl
theorem Jf (h : 1 ≤ k ∧ k ≤ (ts.length : Int)) (j : Int) (hj : 1 ≤ j) : thAt (setTh ts k t) j = if j = k then t else thAt ts j := by
  unfold thAt setTh
  rw [List.getD_eq_getElem?_getD, List.getD_eq_getElem?_getD, List.getElem?_set]
  by_cases e : j = k
  · subst e
    rw [if_pos rfl, if_pos rfl, if_pos (by omega)]
    rfl
  · rw [if_neg e, if_neg (by omega)]
theorem Qu : (setTh ts k t).length = ts.length := List.length_set ..
theorem Ry (h : 1 ≤ k ∧ k ≤ (ts.length : Int)) (hv : (thAt ts k).ve ≤ t.ve) {r : Rt} (hr : rightTo ts r = true) : rightTo (setTh ts k t) r = true := by
  unfold rightTo at hr ⊢
  rw [Bool.or_eq_true] at hr ⊢
  rcases hr with h0 | h0
  · exact Or.inl h0
  · rw [Bool.and_eq_true] at h0
    have h1 := Qi.1 h0.1
    have h2 := of_decide_eq_true h0.2
    refine Or.inr (Bool.and_eq_true_iff.2 ⟨?_, decide_eq_true ?_⟩)
    · rw [Qu]; exact h0.1
    · rw [Jf h r.th h1.1]
      split
      · rename_i e; rw [e] at h2; omega
      · exact h2
theorem Sm (h : 1 ≤ k ∧ k ≤ (ts.length : Int)) (hk : t.kind = (thAt ts k).kind) (j kd : Int) : kindAt (setTh ts k t) j kd = kindAt ts j kd := by
  unfold kindAt
  rw [Qu]
  by_cases hj : 1 ≤ j
  · rw [Jf h j hj]
    split
    · rename_i e; rw [hk, e]
    · rfl
  · have : inR j 1 (ts.length : Int) = false := by simp [inR]; omega
    rw [this]; rfl
theorem Sk (h : 1 ≤ k ∧ k ≤ (ts.length : Int)) (hk : t.kind = (thAt ts k).kind) (s : Th) : gateOk (setTh ts k t) s = gateOk ts s := by
  unfold gateOk
  rw [Sm h hk]
theorem Sx (hT : tableOk ts = true) {s : Th} (hs : s ∈ ts) : thingOk s = true ∧ gateOk ts s = true ∧ ∀ r ∈ s.slots, rightTo ts r = true := by
  rw [Vi] at hT
  have h1 := List.all_eq_true.1 (Bool.and_eq_true_iff.1 hT).2 s hs
  unfold rowOk at h1
  rw [Bool.and_eq_true, Bool.and_eq_true] at h1
  exact ⟨h1.1.1, h1.1.2, fun r hr => List.all_eq_true.1 h1.2 r hr⟩
theorem Vh (hT : tableOk ts = true) (h : 1 ≤ k ∧ k ≤ (ts.length : Int)) : thingOk (thAt ts k) = true ∧ gateOk ts (thAt ts k) = true ∧ ∀ r ∈ (thAt ts k).slots, rightTo ts r = true :=
  Sx hT (List.mem_of_getElem? (Ll h))
theorem W3 (hT : tableOk ts = true) (h : 1 ≤ k ∧ k ≤ (ts.length : Int)) (hok : thingOk t = true) (hk : t.kind = (thAt ts k).kind) (hv : (thAt ts k).ve ≤ t.ve) (hto : t.to = (thAt ts k).to) (hs : ∀ r ∈ t.slots, rightTo ts r = true) : tableOk (setTh ts k t) = true := by
  have hT' := hT
  rw [Vi] at hT ⊢
  rw [Bool.and_eq_true] at hT ⊢
  refine ⟨by rw [Qu]; exact hT.1, List.all_eq_true.2 fun s hs' => ?_⟩
  have key : thingOk s = true ∧ gateOk ts s = true ∧ ∀ r ∈ s.slots, rightTo ts r = true := by
    rcases List.mem_or_eq_of_mem_set hs' with h1 | rfl
    · exact Sx hT' h1
    · refine ⟨hok, ?_, hs⟩
      have h2 := (Vh hT' h).2.1
      unfold gateOk at h2 ⊢
      rw [hk, hto]; exact h2
  unfold rowOk
  rw [Bool.and_eq_true, Bool.and_eq_true]
  exact ⟨⟨key.1, by rw [Sk h hk]; exact key.2.1⟩, List.all_eq_true.2 fun r hr => Ry h hv (key.2.2 r hr)⟩
theorem Gs (hT : tableOk ts = true) (h : 1 ≤ k ∧ k ≤ (ts.length : Int)) {n : Int} (hn : numOk { thAt ts k with num := n } = true) : tableOk (setNum ts k n) = true := by
  have h1 := Vh hT h
  refine W3 hT h ?_ rfl (Int.le_refl _) rfl h1.2.2
  obtain ⟨p1, p2, p3, _, p5, p6, p7⟩ := Qp h1.1
  unfold thingOk
  simp only [Bool.and_eq_true]
  exact ⟨⟨⟨⟨⟨⟨p1, p2⟩, p3⟩, hn⟩, p5⟩, p6⟩, p7⟩
theorem Gx (hT : tableOk ts = true) (h : 1 ≤ k ∧ k ≤ (ts.length : Int)) (hk : (thAt ts k).kind = 2 ∨ (thAt ts k).kind = 3) {j : Int} {x : Rt} (hx : rightOk x = true) (hx2 : rightTo ts x = true) : tableOk (putSl ts k j x) = true := by
  have h1 := Vh hT h
  refine W3 hT h ?_ rfl (Int.le_refl _) rfl (fun r hr => ?_)
  · obtain ⟨p1, p2, p3, p4, p5, p6, p7⟩ := Qp h1.1
    unfold thingOk
    simp only [Bool.and_eq_true]
    refine ⟨⟨⟨⟨⟨⟨p1, p2⟩, p3⟩, p4⟩, ?_⟩, p6⟩, p7⟩
    unfold slotsOk at p5 ⊢
    rw [if_pos hk] at p5 ⊢
    rw [Bool.and_eq_true] at p5 ⊢
    refine ⟨by rw [List.length_set]; exact p5.1, List.all_eq_true.2 fun r hr => ?_⟩
    rcases List.mem_or_eq_of_mem_set hr with h2 | rfl
    · exact List.all_eq_true.1 p5.2 r h2
    · exact hx
  · rcases List.mem_or_eq_of_mem_set hr with h2 | rfl
    · exact h1.2.2 r h2
    · exact hx2
theorem N5 {r : Rt} {a b c : Bool} (h : rightOk r = true) : rightOk (l2Less r a b c) = true := by
  unfold l2Less
  split
  · exact h
  · rename_i h0
    unfold rightOk at h ⊢
    simp only [Bool.or_eq_true, Bool.and_eq_true, decide_eq_true_eq] at h ⊢
    rcases h with rfl | ⟨⟨h1, h2⟩, h3⟩
    · exact absurd rfl h0
    · refine Or.inr ⟨⟨h1, h2⟩, ?_⟩
      cases hw : r.wr <;> cases hk : r.wk <;> cases b <;> cases c <;> simp_all
theorem N6 {r : Rt} {a b c : Bool} (h : rightTo ts r = true) : rightTo ts (l2Less r a b c) = true := by
  unfold l2Less
  split
  · exact h
  · exact h
theorem Kx (hT : tableOk ts = true) (h : 1 ≤ k ∧ k ≤ (ts.length : Int)) (j : Int) : rightOk (slotAt ts k j) = true ∧ rightTo ts (slotAt ts k j) = true := by
  have h1 := Vh hT h
  unfold slotAt
  by_cases hj : j.toNat < (thAt ts k).slots.length
  · have h2 := List.mem_of_getElem? (Vg hj)
    exact ⟨List.all_eq_true.1 (Ln h1.1) _ h2, h1.2.2 _ h2⟩
  · have : rAt (thAt ts k).slots j.toNat = Rt.zero := by
      unfold rAt
      rw [List.getD_eq_getElem?_getD, List.getElem?_eq_none (by omega)]
      rfl
    rw [this]
    exact ⟨by decide, by simp [rightTo, Rt.zero]⟩
end
theorem Nb {ts : List Th} {k : Int} (hT : tableOk ts = true) (h : 1 ≤ k ∧ k ≤ (ts.length : Int)) (hk : (thAt ts k).kind = 4) {ns : List Int} (hl : ns.length ≤ 3) (hn : ns.all numQ = true) : tableOk (setQ ts k ns) = true := by
  have h1 := Vh hT h
  refine W3 hT h ?_ rfl (Int.le_refl _) rfl h1.2.2
  obtain ⟨p1, p2, p3, p4, p5, _, p7⟩ := Qp h1.1
  unfold thingOk
  simp only [Bool.and_eq_true]
  refine ⟨⟨⟨⟨⟨⟨p1, p2⟩, p3⟩, p4⟩, p5⟩, ?_⟩, p7⟩
  unfold queueOk
  simp only [hk, if_true, Bool.and_eq_true, decide_eq_true_eq]
  exact ⟨hl, hn⟩
theorem Pa {t : Th} (h : thingOk t = true) (hk : t.kind = 4) : t.queue.length ≤ 3 ∧ t.queue.all numQ = true := by
  have h6 := (Qp h).2.2.2.2.2.1
  unfold queueOk at h6
  rw [if_pos hk, Bool.and_eq_true] at h6
  exact ⟨of_decide_eq_true h6.1, h6.2⟩
theorem Iw {t : Th} (h : thingOk t = true) (hk : t.kind = 1 ∨ t.kind = 2 ∨ t.kind = 4) (hv : t.ve < 5) : thingOk (renewed t) = true := by
  obtain ⟨p1, p2, p3, _, _, _, p7⟩ := Qp h
  unfold versOk at p3
  rw [if_pos hk] at p3
  have p3 := Qi.1 p3
  unfold targetOk at p7
  rw [if_neg (by omega)] at p7
  have p7 := of_decide_eq_true p7
  unfold renewed newTh thingOk
  simp only [Bool.and_eq_true]
  refine ⟨⟨⟨⟨⟨⟨p1, p2⟩, ?_⟩, ?_⟩, ?_⟩, ?_⟩, ?_⟩
  · unfold versOk; rw [if_pos hk]; exact Qi.2 (show 0 ≤ t.ve + 1 ∧ t.ve + 1 ≤ 5 by omega)
  · unfold numOk
    simp only
    split
    · decide
    · split
      · decide
      · decide
  · unfold slotsOk has4
    rcases hk with e | e | e <;> simp [e] <;> decide
  · unfold queueOk
    simp
  · unfold targetOk; rw [if_neg (show ¬ t.kind = 5 by omega)]; exact decide_eq_true p7
theorem Pd {t : Th} (h : thingOk t = true) (hk : t.kind = 1 ∨ t.kind = 2 ∨ t.kind = 4) : newOk t.kind t.lab t.to = true := by
  obtain ⟨p1, p2, _, _, _, _, p7⟩ := Qp h
  unfold targetOk at p7
  rw [if_neg (by omega)] at p7
  have p7 := of_decide_eq_true p7
  unfold newOk newTh thingOk
  simp only [Bool.and_eq_true]
  refine ⟨⟨⟨⟨⟨⟨p1, p2⟩, ?_⟩, ?_⟩, ?_⟩, ?_⟩, ?_⟩
  · unfold versOk; rw [if_pos hk]; rfl
  · unfold numOk
    simp only
    split
    · decide
    · split
      · decide
      · decide
  · unfold slotsOk has4
    rcases hk with e | e | e <;> simp [e] <;> decide
  · unfold queueOk
    simp
  · unfold targetOk; rw [if_neg (show ¬ t.kind = 5 by omega)]; exact decide_eq_true p7
theorem Q2 {c k : Int} (h : kindFor c k = true) (hc : 1 ≤ c ∧ c ≤ 9) : (c = 1 → k = 1) ∧ (c = 2 → k = 1) ∧ (c = 4 → k = 2) ∧ (c = 5 → k = 2) ∧ (c = 6 → k = 4) ∧ (c = 7 → k = 4) ∧ (c = 8 → k = 1 ∨ k = 2 ∨ k = 4) ∧ (c = 9 → k = 5) := by
  unfold kindFor at h
  refine ⟨fun e => ?_, fun e => ?_, fun e => ?_, fun e => ?_, fun e => ?_, fun e => ?_, fun e => ?_, fun e => ?_⟩ <;> subst e <;> simp at h <;> omega
structure FarOk (ts : List Th) (q : Cl) (r : Rt) : Prop where
  tab : tableOk ts = true
  call : callOk q = true
  run : kindAt ts q.run 3 = true
  th : 1 ≤ r.th ∧ r.th ≤ (ts.length : Int)
  kind : kindFor q.kind (thAt ts r.th).kind = true
  copy : ¬ q.kind = 3
theorem Qr {ts : List Th} {k kd : Int} (h : kindAt ts k kd = true) : (1 ≤ k ∧ k ≤ (ts.length : Int)) ∧ (thAt ts k).kind = kd := by
  unfold kindAt at h
  rw [Bool.and_eq_true] at h
  exact ⟨Qi.1 h.1, of_decide_eq_true h.2⟩
theorem Ul {ts : List Th} {k kd : Int} (h : 1 ≤ k ∧ k ≤ (ts.length : Int)) (e : (thAt ts k).kind = kd) : kindAt ts k kd = true := by
  unfold kindAt
  rw [Bool.and_eq_true]
  exact ⟨Qi.2 h, decide_eq_true e⟩
theorem W0 {ts : List Th} (hT : tableOk ts = true) {k : Int} (h : 1 ≤ k ∧ k ≤ (ts.length : Int)) (hk : (thAt ts k).kind = 5) : kindAt ts (thAt ts k).to 1 = true := by
  have h1 := (Vh hT h).2.1
  unfold gateOk at h1
  simpa [hk] using h1
theorem Mr {α : Type} {p : α → Bool} {l : List α} (h : l.all p = true) (n : Nat) : (l.drop n).all p = true :=
  List.all_eq_true.2 fun x hx => List.all_eq_true.1 h x (List.mem_of_mem_drop hx)
theorem Nj : -4 ≤ (0 : Int) ∧ (0 : Int) ≤ 99 := ⟨by decide, by decide⟩
theorem Iy : -4 ≤ (-4 : Int) ∧ (-4 : Int) ≤ 99 := ⟨by decide, by decide⟩
theorem N0 {ts : List Th} {q : Cl} {r : Rt} (h : FarOk ts q r) : tableOk (far ts q r).1 = true ∧ (far ts q r).1.length = ts.length ∧ (-4 ≤ (far ts q r).2 ∧ (far ts q r).2 ≤ 99) ∧ (∀ j, 1 ≤ j → (thAt (far ts q r).1 j).kind = (thAt ts j).kind) := by
  have hc := Yx h.call
  have hk := Q2 h.kind hc.1
  have hrun := Qr h.run
  have hrow := Vh h.tab h.th
  have hset : ∀ (t : Th) (k : Int), 1 ≤ k ∧ k ≤ (ts.length : Int) → t.kind = (thAt ts k).kind → ∀ j, 1 ≤ j → (thAt (setTh ts k t) j).kind = (thAt ts j).kind := fun t k hk' e j hj => by
    rw [Jf hk' j hj]
    split
    · rename_i e2; rw [e, e2]
    · rfl
  have hn := h.copy
  unfold far
  split
  · rename_i e
    refine ⟨h.tab, rfl, ?_, fun _ _ => rfl⟩
    have h4 := (Qp hrow.1).2.2.2.1
    unfold numOk at h4
    rw [if_pos (Or.inl (hk.1 e))] at h4
    have := Qi.1 h4
    exact ⟨by omega, this.2⟩
  split
  · rename_i e
    refine ⟨Gs h.tab h.th ?_, Qu, Nj, hset _ _ h.th rfl⟩
    unfold numOk
    rw [if_pos (Or.inl (hk.2.1 e))]
    exact Qi.2 (show 0 ≤ q.n ∧ q.n ≤ 99 by omega)
  split
  · rename_i e
    have h1 := Kx h.tab h.th (q.n % 4)
    refine ⟨Gx h.tab hrun.1 (Or.inr hrun.2) ?_ ?_, Qu, Nj, hset _ _ hrun.1 rfl⟩
    · unfold fetched; split
      · exact N5 h1.1
      · exact h1.1
    · unfold fetched; split
      · exact N6 h1.2
      · exact h1.2
  split
  · rename_i e
    have h1 := Kx h.tab hrun.1 q.b
    exact ⟨Gx h.tab h.th (Or.inl (hk.2.2.2.1 e)) h1.1 h1.2, Qu, Nj, hset _ _ h.th rfl⟩
  split
  · rename_i e
    have hp := Pa hrow.1 (hk.2.2.2.2.1 e)
    split
    · refine ⟨Nb h.tab h.th (hk.2.2.2.2.1 e) (by rw [List.length_append, List.length_singleton]; omega) ?_, Qu, Nj, hset _ _ h.th rfl⟩
      rw [List.all_append, hp.2]
      simp only [List.all_cons, List.all_nil, Bool.and_true, Bool.true_and]
      exact Qi.2 ⟨by omega, by omega⟩
    · exact ⟨h.tab, rfl, Iy, fun _ _ => rfl⟩
  split
  · rename_i e
    have hp := Pa hrow.1 (hk.2.2.2.2.2.1 e)
    split
    · exact ⟨h.tab, rfl, Iy, fun _ _ => rfl⟩
    · rename_i hl
      refine ⟨Nb h.tab h.th (hk.2.2.2.2.2.1 e) (by rw [List.length_drop]; omega) (Mr hp.2 1), Qu, ?_, hset _ _ h.th rfl⟩
      have := Qi.1 (List.all_eq_true.1 hp.2 _ (List.mem_of_getElem? (Gm (i := 0) (by omega))))
      exact ⟨by omega, this.2⟩
  split
  · rename_i e
    split
    · rename_i hv
      refine ⟨W3 h.tab h.th (Iw hrow.1 (hk.2.2.2.2.2.2.1 e) hv) rfl ?_ rfl ?_, Qu, Nj, hset _ _ h.th rfl⟩
      · show (thAt ts r.th).ve ≤ (thAt ts r.th).ve + 1
        omega
      · intro x hx
        have : x = Rt.zero := by
          unfold renewed newTh at hx
          simp only at hx
          split at hx
          · simp [zeros4] at hx; exact hx
          · cases hx
        subst this
        simp [rightTo, Rt.zero]
    · exact ⟨h.tab, rfl, Iy, fun _ _ => rfl⟩
  · rename_i e1 e2 e4 e5 e6 e7 e8
    have e9 : q.kind = 9 := by omega
    have h5 := hk.2.2.2.2.2.2.2 e9
    have hg := Qr (W0 h.tab h.th h5)
    have hT1 : tableOk (setNum ts (thAt ts r.th).to (q.n % 2)) = true := by
      refine Gs h.tab hg.1 ?_
      unfold numOk
      rw [if_pos (Or.inl hg.2)]
      exact Qi.2 (show 0 ≤ q.n % 2 ∧ q.n % 2 ≤ 99 by omega)
    have hne : r.th ≠ (thAt ts r.th).to := fun e => by
      have := hg.2
      rw [← e, h5] at this
      omega
    have hsame : thAt (setNum ts (thAt ts r.th).to (q.n % 2)) r.th = thAt ts r.th := by
      unfold setNum
      rw [Jf hg.1 r.th h.th.1, if_neg hne]
    have hth : 1 ≤ r.th ∧ r.th ≤ ((setNum ts (thAt ts r.th).to (q.n % 2)).length : Int) := by
      unfold setNum; rw [Qu]; exact h.th
    have hfin := Gs hT1 hth (n := min ((thAt ts r.th).num + 1) 99) (by
      rw [hsame]
      unfold numOk
      rw [if_pos (Or.inr h5)]
      have h4 := (Qp hrow.1).2.2.2.1
      unfold numOk at h4
      rw [if_pos (Or.inr h5)] at h4
      have := Qi.1 h4
      exact Qi.2 (show 0 ≤ min ((thAt ts r.th).num + 1) 99 ∧ min ((thAt ts r.th).num + 1) 99 ≤ 99 by omega))
    unfold setNum at hfin
    rw [show thAt (setTh ts (thAt ts r.th).to { thAt ts (thAt ts r.th).to with num := q.n % 2 }) r.th = thAt ts r.th from hsame] at hfin
    refine ⟨hfin, by unfold setNum; rw [Qu, Qu], Nj, fun j hj => ?_⟩
    rw [Jf hth j hj]
    split
    · rename_i e; rw [e]
    · exact hset { thAt ts (thAt ts r.th).to with num := q.n % 2 } _ hg.1 rfl j hj
theorem Kh (ts : List Th) (q : Cl) : -3 ≤ check1 ts q ∧ check1 ts q ≤ 0 := by
  unfold check1
  split
  · omega
  · split
    · omega
    · split
      · omega
      · split <;> omega
theorem Gk {ts : List Th} {q : Cl} (hp : callPoss ts q = true) (h0 : ¬ check1 ts q < 0) (h3 : ¬ q.kind = 3) (hl : live ts (slotAt ts q.run q.a) = true) : FarOk ts q (slotAt ts q.run q.a) := by
  unfold callPoss at hp
  rw [Bool.and_eq_true, Bool.and_eq_true] at hp
  refine ⟨hp.1.1, hp.1.2, hp.2, ?_, ?_, h3⟩
  · unfold live at hl
    exact Qi.1 (Bool.and_eq_true_iff.1 hl).1
  · unfold check1 at h0
    rw [if_neg h3] at h0
    split at h0
    · exact absurd (by decide) h0
    · rename_i hc
      unfold chk1 at hc
      simp only [Bool.or_eq_true, Bool.not_eq_true', not_or] at hc
      simpa using hc.1.1.2
theorem Yw {ts : List Th} {q : Cl} (hp : callPoss ts q = true) : tableOk ts = true ∧ callOk q = true ∧ kindAt ts q.run 3 = true := by
  unfold callPoss at hp
  rw [Bool.and_eq_true, Bool.and_eq_true] at hp
  exact ⟨hp.1.1, hp.1.2, hp.2⟩
theorem Np {ts : List Th} {k : Int} {t t' : Th} : setTh (setTh ts k t) k t' = setTh ts k t' := by
  unfold setTh
  rw [List.set_set]
theorem Oi {ts : List Th} {q : Cl} {r : Rt} (h : FarOk ts q r) : -4 ≤ told ts q r ∧ told ts q r ≤ 99 := by
  have := (N0 h).2.2.1
  unfold told
  split <;> omega
theorem V1 {ts : List Th} {q : Cl} (hp : callPoss ts q = true) : tableOk (doCall ts q).1 = true ∧ (doCall ts q).1.length = ts.length ∧ ∀ j, 1 ≤ j → (thAt (doCall ts q).1 j).kind = (thAt ts j).kind := by
  obtain ⟨hT, hc, hr⟩ := Yw hp
  have hrun := Qr hr
  have hrng := Kh ts q
  have run3 : ∀ (us : List Th) (n : Int), tableOk us = true → us.length = ts.length → (∀ j, 1 ≤ j → (thAt us j).kind = (thAt ts j).kind) → -4 ≤ n → n ≤ 99 →
      tableOk (setNum us q.run n) = true ∧ (setNum us q.run n).length = ts.length ∧ ∀ j, 1 ≤ j → (thAt (setNum us q.run n) j).kind = (thAt ts j).kind := fun us n h1 h2 h3 h4 h5 => by
    have hin : 1 ≤ q.run ∧ q.run ≤ (us.length : Int) := by rw [h2]; exact hrun.1
    have hk3 : (thAt us q.run).kind = 3 := (h3 _ hrun.1.1).trans hrun.2
    refine ⟨Gs h1 hin ?_, by unfold setNum; rw [Qu, h2], fun j hj => ?_⟩
    · unfold numOk
      rw [if_neg (by simp only; omega), if_pos hk3]
      exact Qi.2 ⟨h4, h5⟩
    · unfold setNum
      rw [Jf hin j hj]
      split
      · rename_i e; rw [e]; exact h3 _ hrun.1.1
      · exact h3 j hj
  unfold doCall
  split
  · exact run3 ts _ hT rfl (fun _ _ => rfl) (by omega) (by omega)
  · rename_i h0
    split
    · rename_i h3
      have h1 := Kx hT hrun.1 q.a
      refine run3 _ _ (Gx hT hrun.1 (Or.inr hrun.2) (N5 h1.1) (N6 h1.2)) Qu (fun j hj => ?_) (by omega) (by omega)
      unfold putSl
      rw [Jf hrun.1 j hj]
      split
      · rename_i e; rw [e]
      · rfl
    · rename_i h3
      split
      · rename_i hl
        have hf := Gk hp h0 h3 hl
        have hok := N0 hf
        have ht := Oi hf
        exact run3 _ _ hok.1 hok.2.1 hok.2.2.2 ht.1 ht.2
      · exact run3 ts _ hT rfl (fun _ _ => rfl) (by omega) (by omega)
end Go.Dw
end
section
namespace Go.Dw
structure KeepsI (lo hi : Nat) (K : List TypeId) (w w' : World) : Prop where
  os : w'.os = w.os
  tape : w'.tape = w.tape
  output : w'.output = w.output
  size : w.heap.size ≤ w'.heap.size
  block : ∀ k, k < w.heap.size → (k < lo ∨ hi ≤ k ∨ ∀ cs T p, w.heap[k]? = some (.cells cs T p) → T ∉ K) → w'.heap[k]? = w.heap[k]?
section
variable {lo hi : Nat} {K : List TypeId} {w w1 w2 : World}
theorem KeepsI.of0 (hg : w.grownBy w1 none) : KeepsI lo hi K w w1 := ⟨hg.os, hg.tape, hg.output, hg.size, fun k hk _ => hg.block k hk (by simp)⟩
theorem KeepsI.refl (w : World) : KeepsI lo hi K w w := KeepsI.of0 (World.grownBy.refl w none)
theorem KeepsI.trans (h : KeepsI lo hi K w w1) (k : KeepsI lo hi K w1 w2) : KeepsI lo hi K w w2 :=
  ⟨k.os.trans h.os, k.tape.trans h.tape, k.output.trans h.output, Nat.le_trans h.size k.size, fun b hb hc => by
    have h1 := h.block b hb hc
    exact (k.block b (Nat.lt_of_lt_of_le hb h.size) (by rcases hc with h2 | h2 | h2; exact Or.inl h2; exact Or.inr (Or.inl h2); exact Or.inr (Or.inr (fun cs T p e => h2 cs T p (h1.symm.trans e))))).trans h1⟩
theorem KeepsI.low (h : KeepsI lo hi K w w1) (hg : w1.grownBy w2 none) : KeepsI lo hi K w w2 := h.trans (KeepsI.of0 hg)
theorem KeepsI.own {B sz cap n : Nat} {T : TypeId} {vs : List Value} (h : KeepsI lo hi K w w1) (hg : w1.grownBy w2 (some B)) (ho : Own w1 B T sz cap n vs) (hT : T ∈ K) (hl : lo ≤ B) (hh : B < hi) : KeepsI lo hi K w w2 := h.trans
  ⟨hg.os, hg.tape, hg.output, hg.size, fun k hk hc => hg.block k hk (by
    intro e
    have e : k = B := by simpa using e
    subst e
    obtain ⟨_, cs, hb, _⟩ := ho.blk
    rcases hc with h2 | h2 | h2
    · omega
    · omega
    · exact h2 cs T (0, 0) hb hT)⟩
theorem KeepsI.new {B : Nat} (h : KeepsI lo hi K w w1) (hg : w1.grownBy w2 (some B)) (hl : w.heap.size ≤ B) : KeepsI lo hi K w w2 :=
  ⟨hg.os.trans h.os, hg.tape.trans h.tape, hg.output.trans h.output, Nat.le_trans h.size hg.size, fun k hk hc => (hg.block k (Nat.lt_of_lt_of_le hk h.size) (Jj (show k ≠ B by omega))).trans (h.block k hk hc)⟩
theorem KeepsI.newN {l sz cap n : Nat} {a : Option Addr} {U : TypeId} {us : List Value} (h : KeepsI lo hi K w w1) (hO : OwnN l w1 a U sz cap n us) (hg : w1.grownBy w2 (a.map (·.block))) (hl : w.heap.size ≤ l) : KeepsI lo hi K w w2 := by
  rcases hO.form with ⟨rfl, _⟩ | ⟨B, rfl, h2, _⟩
  · exact h.low hg
  · exact h.new hg (show w.heap.size ≤ B by omega)
theorem K8 {B : Nat} {T : TypeId} {cs : Array Value} (hn : NewB w1 w2 B T cs) (h : KeepsI lo hi K w w1) : w.heap.size ≤ B := Nat.le_trans h.size (Nat.le_of_eq hn.eq.symm)
theorem KeepsI.grown {r : Option Nat} (hg : w.grownBy w1 r) (h : KeepsI lo hi K w1 w2) (hl : w.heap.size ≤ lo) : w.grownBy w2 r :=
  ⟨h.os.trans hg.os, h.tape.trans hg.tape, h.output.trans hg.output, Nat.le_trans hg.size h.size, fun k hk hr => (h.block k (Nat.lt_of_lt_of_le hk hg.size) (Or.inl (by omega))).trans (hg.block k hk hr)⟩
theorem Blk.keepsI {b : Nat} {T : TypeId} {cs : Array Value} (h : Blk w b T cs) (hk : KeepsI lo hi K w w1) (ht : b < lo ∨ hi ≤ b ∨ T ∉ K) : Blk w1 b T cs := by
  have h1 : w.heap[b]? = some (.cells cs T (0, 0)) := h
  refine (hk.block b h.lt ?_).trans h1
  rcases ht with h2 | h2 | h2
  · exact Or.inl h2
  · exact Or.inr (Or.inl h2)
  · refine Or.inr (Or.inr (fun cs' T' p e => ?_))
    have := h1.symm.trans e
    simp only [Option.some.injEq, Obj.cells.injEq] at this
    rw [← this.2.1]; exact h2
theorem Own.keepsI {B sz cap n : Nat} {T : TypeId} {vs : List Value} (h : Own w B T sz cap n vs) (hk : KeepsI lo hi K w w1) (ht : B < lo ∨ hi ≤ B ∨ T ∉ K) : Own w1 B T sz cap n vs := by
  obtain ⟨h1, cur, hb, h2, h3, h4, h5⟩ := h.blk
  exact Own.ofBlk h1 (hb.keepsI hk ht) h2 h3 h4 h5
end
structure RowO (TR TI lo : Nat) (w : World) (m : MTh) : Prop where
  s : OwnN lo w m.sa TR 5 m.sc m.t.slots.length (m.t.slots.flatMap Rt.cells)
  q : OwnN lo w m.qa TI 1 m.qc m.t.queue.length (m.t.queue.flatMap icell)
structure RowsO (TR TI lo : Nat) (w : World) (ms : List MTh) : Prop where
  row : ∀ m ∈ ms, RowO TR TI lo w m
  apart : ∀ i j S, i < ms.length → j < ms.length → i ≠ j → (mAt ms i).sa = some ⟨S, 0, none⟩ → (mAt ms j).sa ≠ some ⟨S, 0, none⟩
def HiO (hi : Nat) (ms : List MTh) : Prop := ∀ m ∈ ms, ∀ c, (m.sa = some ⟨c, 0, none⟩ ∨ m.qa = some ⟨c, 0, none⟩) → c < hi
section
variable {TR TI lo : Nat} {w w' : World} {m : MTh} {ms : List MTh}
theorem OwnN.typB {l : Nat} {a : Option Addr} {T U : TypeId} {sz cap n B : Nat} {vs : List Value} {cs : Array Value} (h : OwnN l w a T sz cap n vs) (hg : w.grownBy w' (some B)) (k : Blk w B U cs) (hT : T ≠ U) : OwnN l w' a T sz cap n vs := by
  rcases h.form with ⟨rfl, rfl, rfl, rfl⟩ | ⟨C, rfl, h2, _, h3⟩
  · exact OwnN.nil
  · exact OwnN.of (h3.grown hg (Jj (Ss h3 k hT))) h2
theorem RowO.low (h : RowO TR TI lo w m) (hg : w.grownBy w' none) : RowO TR TI lo w' m := ⟨h.s.grown0 hg, h.q.grown0 hg⟩
theorem RowO.lt {R : Nat} (h : RowO TR TI lo w m) (hg : w.grownBy w' (some R)) (hR : R < lo) : RowO TR TI lo w' m := ⟨h.s.grown_lt hg hR, h.q.grown_lt hg hR⟩
theorem RowO.typ {B U sz cap n : Nat} {us : List Value} (h : RowO TR TI lo w m) (hg : w.grownBy w' (some B)) (k : Own w B U sz cap n us) (h1 : TR ≠ U) (h2 : TI ≠ U) : RowO TR TI lo w' m := ⟨h.s.typ hg k h1, h.q.typ hg k h2⟩
theorem RowO.mono {lo' : Nat} (h : RowO TR TI lo w m) (hl : lo' ≤ lo) : RowO TR TI lo' w m := ⟨h.s.mono hl, h.q.mono hl⟩
theorem RowO.th (h : RowO TR TI lo w m) : ThAt w m := ⟨OwnN.sl Qx (by omega) h.s, OwnN.sl Yq (by omega) h.q, OwnN.cap0 h.s, OwnN.cap0 h.q⟩
theorem RowO.g (h : RowO TR TI lo w m) : ThG lo w m := ⟨SlG.ownN Qx (by omega) h.s, SlG.ownN Yq (by omega) h.q, OwnN.cap0 h.s, OwnN.cap0 h.q⟩
theorem RowsO.low (h : RowsO TR TI lo w ms) (hg : w.grownBy w' none) : RowsO TR TI lo w' ms := ⟨fun m hm => (h.row m hm).low hg, h.apart⟩
theorem RowsO.lt {R : Nat} (h : RowsO TR TI lo w ms) (hg : w.grownBy w' (some R)) (hR : R < lo) : RowsO TR TI lo w' ms := ⟨fun m hm => (h.row m hm).lt hg hR, h.apart⟩
theorem RowsO.own {B U sz cap n : Nat} {us : List Value} (h : RowsO TR TI lo w ms) (hg : w.grownBy w' (some B)) (k : Own w B U sz cap n us) (h1 : TR ≠ U) (h2 : TI ≠ U) : RowsO TR TI lo w' ms := ⟨fun m hm => (h.row m hm).typ hg k h1 h2, h.apart⟩
theorem RowsO.typB {B : Nat} {U : TypeId} {cs : Array Value} (h : RowsO TR TI lo w ms) (hg : w.grownBy w' (some B)) (k : Blk w B U cs) (h1 : TR ≠ U) (h2 : TI ≠ U) : RowsO TR TI lo w' ms := ⟨fun m hm => ⟨(h.row m hm).s.typB hg k h1, (h.row m hm).q.typB hg k h2⟩, h.apart⟩
theorem RowsO.mono {lo' : Nat} (h : RowsO TR TI lo w ms) (hl : lo' ≤ lo) : RowsO TR TI lo' w ms := ⟨fun m hm => (h.row m hm).mono hl, h.apart⟩
theorem RowsO.ge {b hi : Nat} (h : RowsO TR TI lo w ms) (hg : w.grownBy w' (some b)) (hH : HiO hi ms) (hb : hi ≤ b) : RowsO TR TI lo w' ms :=
  ⟨fun m hm => ⟨(h.row m hm).s.grown hg (fun B e => Jj (by have := hH m hm B (Or.inl e); omega)), (h.row m hm).q.grown hg (fun B e => Jj (by have := hH m hm B (Or.inr e); omega))⟩, h.apart⟩
theorem RowsO.newN {l U sz cap n hi : Nat} {a : Option Addr} {us : List Value} (h : RowsO TR TI lo w ms) (hO : OwnN l w a U sz cap n us) (hg : w.grownBy w' (a.map (·.block))) (hH : HiO hi ms) (hl : hi ≤ l) : RowsO TR TI lo w' ms := by
  rcases hO.form with ⟨rfl, _⟩ | ⟨B, rfl, h2, _⟩
  · exact h.low hg
  · exact h.ge hg hH (show hi ≤ B by omega)
theorem Hr {T sz cap n lo c : Nat} {a : Option Addr} {vs : List Value} (h : OwnN lo w a T sz cap n vs) (e : a = some ⟨c, 0, none⟩) : c < w.heap.size ∧ lo ≤ c := by
  rcases h.form with ⟨e2, _⟩ | ⟨B, e2, h2, h3, _⟩
  · rw [e2] at e; cases e
  · rw [e2] at e
    simp only [Option.some.injEq, Addr.mk.injEq, and_true] at e
    omega
theorem RowsO.hi (h : RowsO TR TI lo w ms) : HiO w.heap.size ms := fun m hm c hc => by
  rcases hc with e | e
  · exact (Hr (h.row m hm).s e).1
  · exact (Hr (h.row m hm).q e).1
theorem RowsO.at (h : RowsO TR TI lo w ms) {i : Nat} (hi : i < ms.length) : RowO TR TI lo w (mAt ms i) := h.row _ (List.mem_of_getElem? (Q0 hi))
theorem RowsO.tab {B T cap : Nat} (h : RowsO TR TI lo w ms) (ho : Own w B T 8 cap ms.length (ms.flatMap MTh.cells)) : TabAt w (some ⟨B, 0, none⟩) ms := ⟨Own.sl Yj ho, fun m hm => (h.row m hm).th⟩
theorem RowsO.tabG {B T cap : Nat} (h : RowsO TR TI lo w ms) (ho : Own w B T 8 cap ms.length (ms.flatMap MTh.cells)) (hB : lo ≤ B) : TabG lo w (some ⟨B, 0, none⟩) ms := ⟨SlG.own Yj ho hB, fun m hm => (h.row m hm).g⟩
theorem RowsO.nil : RowsO TR TI lo w [] := ⟨(fun m hm => by cases hm), fun i j S hi => absurd hi (Nat.not_lt_zero _)⟩
theorem Gr {i j : Nat} (hi : i < ms.length) : mAt (ms.set i m) j = if j = i then m else mAt ms j := by
  unfold mAt
  rw [List.getD_eq_getElem?_getD, List.getD_eq_getElem?_getD, List.getElem?_set]
  by_cases e : j = i
  · subst e
    rw [if_pos rfl, if_pos rfl, if_pos hi]
    rfl
  · rw [if_neg e, if_neg (by omega)]
theorem Uo {α : Type} (f : MTh → α) {i j : Nat} {m2 : MTh} (hj : j < ms.length) (h : f m2 = f (mAt ms j)) : f (mAt (ms.set j m2) i) = f (mAt ms i) := by
  rw [Gr hj]
  split
  · rename_i e; rw [h, e]
  · rfl
theorem Rs {j : Nat} (hj : j < (ms ++ [m]).length) : mAt (ms ++ [m]) j = if j = ms.length then m else mAt ms j := by
  have hj' : j ≤ ms.length := by rw [List.length_append, List.length_singleton] at hj; omega
  unfold mAt
  rw [List.getD_eq_getElem?_getD, List.getD_eq_getElem?_getD]
  by_cases e : j = ms.length
  · subst e
    rw [if_pos rfl, List.getElem?_append_right (Nat.le_refl _), Nat.sub_self]
    rfl
  · rw [if_neg e, List.getElem?_append_left (by omega)]
theorem RowsO.snoc {hi : Nat} (h : RowsO TR TI lo w ms) (hm : RowO TR TI lo w m) (hH : HiO hi ms) (hS : ∀ S, m.sa = some ⟨S, 0, none⟩ → hi ≤ S) : RowsO TR TI lo w (ms ++ [m]) := by
  refine ⟨fun x hx => ?_, fun i j S hi' hj hne => ?_⟩
  · rcases List.mem_append.1 hx with h1 | h1
    · exact h.row x h1
    · simp at h1; subst h1; exact hm
  · rw [Rs hi', Rs hj]
    rw [List.length_append, List.length_singleton] at hi' hj
    split
    · rename_i e1
      rw [if_neg (by omega)]
      intro e2 e3
      have h1 := hS S e2
      have h2 := hH _ (List.mem_of_getElem? (Q0 (show j < ms.length by omega))) S (Or.inl e3)
      omega
    · rename_i e1
      split
      · intro e2 e3
        have h1 := hS S e3
        have h2 := hH _ (List.mem_of_getElem? (Q0 (show i < ms.length by omega))) S (Or.inl e2)
        omega
      · exact h.apart i j S (by omega) (by omega) hne
theorem RowsO.setr {i : Nat} (h : RowsO TR TI lo w ms) (hi : i < ms.length) {m' : MTh} (hm : RowO TR TI lo w m') (hS : ∀ S, m'.sa = some ⟨S, 0, none⟩ → (mAt ms i).sa = some ⟨S, 0, none⟩ ∨ ∀ x ∈ ms, x.sa ≠ some ⟨S, 0, none⟩) : RowsO TR TI lo w (ms.set i m') := by
  refine ⟨fun x hx => ?_, fun a b S ha hb hne => ?_⟩
  · rcases List.mem_or_eq_of_mem_set hx with h1 | rfl
    · exact h.row x h1
    · exact hm
  · rw [List.length_set] at ha hb
    rw [Gr hi, Gr hi]
    split
    · rename_i e1
      rw [if_neg (by omega)]
      intro e2
      rcases hS S e2 with h1 | h1
      · exact h.apart i b S hi hb (by omega) h1
      · exact h1 _ (List.mem_of_getElem? (Q0 hb))
    · rename_i e1
      split
      · intro e2 e3
        rcases hS S e3 with h1 | h1
        · exact h.apart a i S ha hi (by omega) e2 h1
        · exact h1 _ (List.mem_of_getElem? (Q0 ha)) e2
      · exact h.apart a b S ha hb hne
theorem RowsO.set {i : Nat} (h : RowsO TR TI lo w ms) (hi : i < ms.length) {m' : MTh} (hq : m'.qa = (mAt ms i).qa ∧ m'.qc = (mAt ms i).qc ∧ m'.t.queue = (mAt ms i).t.queue) (hs : m'.sa = (mAt ms i).sa ∧ m'.sc = (mAt ms i).sc ∧ m'.t.slots = (mAt ms i).t.slots) : RowsO TR TI lo w (ms.set i m') := by
  obtain ⟨h1, h2, h3⟩ := hq
  obtain ⟨h4, h5, h6⟩ := hs
  refine h.setr hi ⟨?_, ?_⟩ fun S e => Or.inl (by rw [← h4]; exact e)
  · rw [h4, h5, h6]; exact (h.at hi).s
  · rw [h1, h2, h3]; exact (h.at hi).q
theorem RowsO.setq {i : Nat} (h : RowsO TR TI lo w ms) (hi : i < ms.length) {m' : MTh} (hq : OwnN lo w m'.qa TI 1 m'.qc m'.t.queue.length (m'.t.queue.flatMap icell)) (hs : m'.sa = (mAt ms i).sa ∧ m'.sc = (mAt ms i).sc ∧ m'.t.slots = (mAt ms i).t.slots) : RowsO TR TI lo w (ms.set i m') := by
  obtain ⟨h4, h5, h6⟩ := hs
  refine h.setr hi ⟨?_, hq⟩ fun S e => Or.inl (by rw [← h4]; exact e)
  rw [h4, h5, h6]; exact (h.at hi).s
theorem RowsO.setn {i hi' : Nat} (h : RowsO TR TI lo w ms) (hi : i < ms.length) {m' : MTh} (hm : RowO TR TI lo w m') (hH : HiO hi' ms) (hS : ∀ S, m'.sa = some ⟨S, 0, none⟩ → hi' ≤ S) : RowsO TR TI lo w (ms.set i m') :=
  h.setr hi hm fun S e => Or.inr fun x hx e2 => by
    have h1 := hS S e
    have h2 := hH x hx S (Or.inl e2)
    omega
theorem RowsO.slot {i : Nat} (h : RowsO TR TI lo w ms) (hi : i < ms.length) (hs : 0 < (mAt ms i).t.slots.length) : ∃ S : Nat, (mAt ms i).sa = some ⟨S, 0, none⟩ ∧ lo ≤ S ∧ Own w S TR 5 (mAt ms i).sc (mAt ms i).t.slots.length ((mAt ms i).t.slots.flatMap Rt.cells) :=
  (h.at hi).s.some_ hs
end
def putS (m : MTh) (j : Nat) (x : Rt) : MTh := { m with t := { m.t with slots := m.t.slots.set j x } }
def putT (ms : List MTh) (i j : Nat) (x : Rt) : List MTh := ms.set i (putS (mAt ms i) j x)
theorem H4 {m : MTh} {j : Nat} {x : Rt} : (putS m j x).cells = m.cells := by simp [MTh.cells, putS]
theorem Yb {ms : List MTh} {i j : Nat} {x : Rt} : (putT ms i j x).length = ms.length := List.length_set ..
theorem Fu {ms : List MTh} {m' : MTh} : ∀ (i : Nat), i < ms.length → m'.cells = (mAt ms i).cells → (ms.set i m').flatMap MTh.cells = ms.flatMap MTh.cells := by
  induction ms with
  | nil => intro i hi; exact absurd hi (Nat.not_lt_zero _)
  | cons a l ih =>
    intro i hi e
    cases i with
    | zero => rw [List.set_cons_zero, List.flatMap_cons, List.flatMap_cons, e]; rfl
    | succ i =>
      rw [List.set_cons_succ, List.flatMap_cons, List.flatMap_cons, ih i (by simpa using hi) e]
theorem Vt {w : World} {B T cap : Nat} {ms : List MTh} {i j : Nat} {x : Rt} (h : Own w B T 8 cap ms.length (ms.flatMap MTh.cells)) (hi : i < ms.length) : Own w B T 8 cap (putT ms i j x).length ((putT ms i j x).flatMap MTh.cells) := by
  rw [Yb]
  unfold putT
  rw [Fu i hi H4]
  exact h
theorem RowsO.put {TR TI lo : Nat} {w w' : World} {ms : List MTh} {i k S cap : Nat} {x : Rt} (h : RowsO TR TI lo w ms) (hi : i < ms.length) (hS : (mAt ms i).sa = some ⟨S, 0, none⟩) (hl : lo ≤ S)
    (ho : Own w S TR 5 cap (mAt ms i).t.slots.length ((mAt ms i).t.slots.flatMap Rt.cells)) (hc : cap = (mAt ms i).sc) (hO : Own w' S TR 5 cap ((mAt ms i).t.slots.set k x).length (((mAt ms i).t.slots.set k x).flatMap Rt.cells)) (hg : w.grownBy w' (some S)) (hT : TI ≠ TR) : RowsO TR TI lo w' (putT ms i k x) := by
  subst hc
  refine ⟨fun y hy => ?_, fun a b Z ha hb hne => ?_⟩
  · obtain ⟨j, hj, e⟩ := List.getElem_of_mem hy
    have hy' : y = mAt (putT ms i k x) j := by
      unfold mAt
      rw [List.getD_eq_getElem?_getD, List.getElem?_eq_getElem hj, e]
      rfl
    have hj' : j < ms.length := by rwa [Yb] at hj
    unfold putT at hy'
    rw [Gr hi] at hy'
    split at hy'
    · subst hy'
      refine ⟨?_, (h.at hi).q.typ hg ho hT⟩
      show OwnN lo w' (mAt ms i).sa TR 5 (mAt ms i).sc _ _
      rw [hS]
      exact OwnN.of hO hl
    · rename_i e2
      subst hy'
      refine ⟨(h.at hj').s.grown hg (fun Z hZ => Jj fun e3 => ?_), (h.at hj').q.typ hg ho hT⟩
      subst e3
      exact h.apart i j Z hi hj' (by omega) hS hZ
  · rw [Yb] at ha hb
    have hsa : ∀ j, (mAt (putT ms i k x) j).sa = (mAt ms j).sa := fun j => by
      unfold putT
      rw [Gr hi]
      split
      · rename_i e; rw [e]; rfl
      · rfl
    rw [hsa, hsa]
    exact h.apart a b Z ha hb hne
theorem Su {ms : List MTh} {i j : Nat} {x : Rt} : (putT ms i j x).set i (putS (mAt ms i) j x) = putT ms i j x := by
  unfold putT
  rw [List.set_set]
theorem Zh {lo T sz cap n : Nat} {w : World} {a : Option Addr} {vs : List Value} (h : OwnN lo w a T sz cap n vs) : n ≤ cap := by
  rcases h.form with ⟨_, h2, _⟩ | ⟨_, _, _, _, h3⟩
  · omega
  · obtain ⟨_, _, _, h4, _⟩ := h3.blk
    exact h4
theorem TabLen.ok {ms : List MTh} (h : tableOk (tabT ms) = true) : TabLen ms := fun m hm => by
  have h1 := Qp (Sx h (List.mem_map.2 ⟨m, hm, rfl⟩)).1
  have h5 := h1.2.2.2.2.1
  have h6 := h1.2.2.2.2.2.1
  unfold slotsOk at h5
  unfold queueOk at h6
  constructor
  · split at h5
    · have := of_decide_eq_true (Bool.and_eq_true_iff.1 h5).1
      omega
    · have := of_decide_eq_true h5
      omega
  · split at h6
    · have := of_decide_eq_true (Bool.and_eq_true_iff.1 h6).1
      omega
    · have := of_decide_eq_true h6
      omega
theorem Gy {ms : List MTh} {i : Nat} {m : MTh} : tabT (ms.set i m) = (tabT ms).set i m.t := List.map_set ..
section
variable {ms : List MTh} {q : Cl} {r : Rt}
theorem Vc {k : Int} {m : MTh} : tabT (ms.set (k - 1).toNat m) = setTh (tabT ms) k m.t := Gy
theorem Gz {k j : Int} {x : Rt} : tabT (putT ms (k - 1).toNat j.toNat x) = putSl (tabT ms) k j x := by
  unfold putT
  rw [Vc]
  unfold putSl
  rw [← Qk]
  rfl
theorem Zz (h : decide (q.kind = 1) = true) : far (tabT ms) q r = (tabT ms, (mAt ms (r.th - 1).toNat).t.num) := by
  unfold far
  rw [if_pos (of_decide_eq_true h), Qk]
theorem Z0 (h : decide (q.kind = 2) = true) {m : MTh} (hm : m.t = { (mAt ms (r.th - 1).toNat).t with num := q.n }) : far (tabT ms) q r = (tabT (ms.set (r.th - 1).toNat m), 0) := by
  have h := of_decide_eq_true h
  unfold far
  rw [if_neg (by omega), if_pos h, Vc, hm, Qk]
  rfl
theorem Ta (h : decide (q.kind = 4) = true) {x : Rt} (hx : x = fetched (rAt (mAt ms (r.th - 1).toNat).t.slots (q.n % 4).toNat) r.wk) : far (tabT ms) q r = (tabT (putT ms (q.run - 1).toNat q.b.toNat x), 0) := by
  have h := of_decide_eq_true h
  unfold far
  rw [if_neg (by omega), if_neg (by omega), if_pos h, Gz, hx, Je]
theorem Z1 (h : decide (q.kind = 5) = true) {x : Rt} (hx : x = rAt (mAt ms (q.run - 1).toNat).t.slots q.b.toNat) : far (tabT ms) q r = (tabT (putT ms (r.th - 1).toNat (q.n % 4).toNat x), 0) := by
  have h := of_decide_eq_true h
  unfold far
  rw [if_neg (by omega), if_neg (by omega), if_neg (by omega), if_pos h, Gz, hx, Je]
theorem M7 (h : decide (q.kind = 6) = true) (hl : ¬ (mAt ms (r.th - 1).toNat).t.queue.length < 3) : far (tabT ms) q r = (tabT ms, -4) := by
  have h := of_decide_eq_true h
  unfold far
  rw [if_neg (by omega), if_neg (by omega), if_neg (by omega), if_neg (by omega), if_pos h, if_neg (by rw [← Qk]; exact hl)]
theorem Tb (h : decide (q.kind = 6) = true) (hl : (mAt ms (r.th - 1).toNat).t.queue.length < 3) {m : MTh} (hm : m.t = { (mAt ms (r.th - 1).toNat).t with queue := (mAt ms (r.th - 1).toNat).t.queue ++ [q.n] }) : far (tabT ms) q r = (tabT (ms.set (r.th - 1).toNat m), 0) := by
  have h := of_decide_eq_true h
  unfold far
  rw [if_neg (by omega), if_neg (by omega), if_neg (by omega), if_neg (by omega), if_pos h, if_pos (by rw [← Qk]; exact hl), Vc, hm, Qk]
  rfl
theorem M8 (h : decide (q.kind = 7) = true) (hl : (mAt ms (r.th - 1).toNat).t.queue.length = 0) : far (tabT ms) q r = (tabT ms, -4) := by
  have h := of_decide_eq_true h
  unfold far
  rw [if_neg (by omega), if_neg (by omega), if_neg (by omega), if_neg (by omega), if_neg (by omega), if_pos h, if_pos (by rw [← Qk]; exact hl)]
theorem Tc (h : decide (q.kind = 7) = true) (hl : ¬ (mAt ms (r.th - 1).toNat).t.queue.length = 0) {m : MTh} (hm : m.t = { (mAt ms (r.th - 1).toNat).t with queue := (mAt ms (r.th - 1).toNat).t.queue.drop 1 }) : far (tabT ms) q r = (tabT (ms.set (r.th - 1).toNat m), iAt (mAt ms (r.th - 1).toNat).t.queue 0) := by
  have h := of_decide_eq_true h
  unfold far
  rw [if_neg (by omega), if_neg (by omega), if_neg (by omega), if_neg (by omega), if_neg (by omega), if_pos h, if_neg (by rw [← Qk]; exact hl), Vc, hm, Qk]
  rfl
theorem Si (h : decide (q.kind = 8) = true) (hl : ¬ (mAt ms (r.th - 1).toNat).t.ve < 5) : far (tabT ms) q r = (tabT ms, -4) := by
  have h := of_decide_eq_true h
  unfold far
  rw [if_neg (by omega), if_neg (by omega), if_neg (by omega), if_neg (by omega), if_neg (by omega), if_neg (by omega), if_pos h, if_neg (by rw [← Qk]; exact hl)]
theorem Td (h : decide (q.kind = 8) = true) (hl : (mAt ms (r.th - 1).toNat).t.ve < 5) {m : MTh} (hm : m.t = renewed (mAt ms (r.th - 1).toNat).t) : far (tabT ms) q r = (tabT (ms.set (r.th - 1).toNat m), 0) := by
  have h := of_decide_eq_true h
  unfold far
  rw [if_neg (by omega), if_neg (by omega), if_neg (by omega), if_neg (by omega), if_neg (by omega), if_neg (by omega), if_pos h, if_pos (by rw [← Qk]; exact hl), Vc, hm, Qk]
theorem Z2 (h : decide (q.kind = 9) = true) {m m2 : MTh} (h2 : m2.t = { (mAt ms ((mAt ms (r.th - 1).toNat).t.to - 1).toNat).t with num := q.n % 2 }) (hm : m.t = { (mAt ms (r.th - 1).toNat).t with num := min ((mAt ms (r.th - 1).toNat).t.num + 1) 99 }) :
    far (tabT ms) q r = (tabT ((ms.set ((mAt ms (r.th - 1).toNat).t.to - 1).toNat m2).set (r.th - 1).toNat m), 0) := by
  have h := of_decide_eq_true h
  unfold far
  rw [if_neg (by omega), if_neg (by omega), if_neg (by omega), if_neg (by omega), if_neg (by omega), if_neg (by omega), if_neg (by omega), Vc, Vc, hm, h2]
  simp only [Qk]
  rfl
theorem Nf {t : Th} (h : has4 t.kind = true) : (⟨t.kind, t.lab, t.ve + 1, 0, zeros4, [], t.to⟩ : Th) = renewed t := by unfold renewed newTh; rw [if_pos h]
theorem Nd {t : Th} (h : has4 t.kind = false) : (⟨t.kind, t.lab, t.ve + 1, 0, [], [], t.to⟩ : Th) = renewed t := by unfold renewed newTh; rw [if_neg (by rw [h]; exact Bool.false_ne_true)]
end
theorem V8 {t : Th} (h : thingOk t = true) : (0 ≤ t.ve ∧ t.ve ≤ 5) ∧ (-4 ≤ t.num ∧ t.num ≤ 99) := by
  have h3 := (Qp h).2.2.1
  have h4 := (Qp h).2.2.2.1
  unfold versOk at h3
  unfold numOk at h4
  constructor
  · split at h3
    · exact Qi.1 h3
    · have := of_decide_eq_true h3
      omega
  · split at h4
    · have := Qi.1 h4
      omega
    · split at h4
      · have := Qi.1 h4
        omega
      · have := of_decide_eq_true h4
        omega
section
variable {ms ms1 : List MTh} {q : Cl}
theorem O1 (hp : callPoss (tabT ms) q = true) (h0 : decide (check1 (tabT ms) q < 0) = false) (h3 : decide (q.kind = 3) = false) (hl : live (tabT ms) (rAt (mAt ms (q.run - 1).toNat).t.slots q.a.toNat) = true) : FarOk (tabT ms) q (rAt (mAt ms (q.run - 1).toNat).t.slots q.a.toNat) := by
  rw [Je] at hl ⊢
  exact Gk hp (of_decide_eq_false h0) (of_decide_eq_false h3) hl
theorem L8 {k n : Int} {m : MTh} (hm : m.t = { (mAt ms (k - 1).toNat).t with num := n }) : tabT (ms.set (k - 1).toNat m) = setNum (tabT ms) k n := by
  rw [Vc, hm, Qk]
  rfl
theorem Xbh (h : decide (check1 (tabT ms) q < 0) = true) {m : MTh} (hm : m.t = { (mAt ms (q.run - 1).toNat).t with num := check1 (tabT ms) q }) : doCall (tabT ms) q = (tabT (ms.set (q.run - 1).toNat m), check1 (tabT ms) q) := by
  unfold doCall
  rw [if_pos (of_decide_eq_true h), L8 hm]
theorem Ox (h : decide (check1 (tabT ms) q < 0) = false) (h3 : decide (q.kind = 3) = true) {x : Rt} (hx : x = lessBits (rAt (mAt ms (q.run - 1).toNat).t.slots q.a.toNat) q.n) {m : MTh} (hm : m.t = { (mAt (putT ms (q.run - 1).toNat q.b.toNat x) (q.run - 1).toNat).t with num := check1 (tabT ms) q }) :
    doCall (tabT ms) q = (tabT ((putT ms (q.run - 1).toNat q.b.toNat x).set (q.run - 1).toNat m), check1 (tabT ms) q) := by
  unfold doCall
  rw [if_neg (of_decide_eq_false h), if_pos (of_decide_eq_true h3), L8 hm, Gz, hx, Je]
theorem Oy (h : decide (check1 (tabT ms) q < 0) = false) (h3 : decide (q.kind = 3) = false) (hl : live (tabT ms) (rAt (mAt ms (q.run - 1).toNat).t.slots q.a.toNat) = false) {m : MTh} (hm : m.t = { (mAt ms (q.run - 1).toNat).t with num := check1 (tabT ms) q }) : doCall (tabT ms) q = (tabT (ms.set (q.run - 1).toNat m), check1 (tabT ms) q) := by
  rw [Je] at hl
  unfold doCall
  rw [if_neg (of_decide_eq_false h), if_neg (of_decide_eq_false h3), if_neg (by rw [hl]; exact Bool.false_ne_true), L8 hm]
theorem Oz (h : decide (check1 (tabT ms) q < 0) = false) (h3 : decide (q.kind = 3) = false) (hl : live (tabT ms) (rAt (mAt ms (q.run - 1).toNat).t.slots q.a.toNat) = true) (ht : tabT ms1 = (far (tabT ms) q (rAt (mAt ms (q.run - 1).toNat).t.slots q.a.toNat)).1)
    (hs : sees (tabT ms1) q.run (rAt (mAt ms (q.run - 1).toNat).t.slots q.a.toNat).th = true) {m : MTh} (hm : m.t = { (mAt ms1 (q.run - 1).toNat).t with num := (far (tabT ms) q (rAt (mAt ms (q.run - 1).toNat).t.slots q.a.toNat)).2 }) :
    doCall (tabT ms) q = (tabT (ms1.set (q.run - 1).toNat m), (far (tabT ms) q (rAt (mAt ms (q.run - 1).toNat).t.slots q.a.toNat)).2) := by
  have h1 := L8 (ms := ms1) hm
  rw [Je] at hl ht hs h1 ⊢
  unfold doCall told
  rw [if_neg (of_decide_eq_false h), if_neg (of_decide_eq_false h3), if_pos hl, h1, ← ht, if_pos hs]
theorem M2 (h : decide (check1 (tabT ms) q < 0) = false) (h3 : decide (q.kind = 3) = false) (hl : live (tabT ms) (rAt (mAt ms (q.run - 1).toNat).t.slots q.a.toNat) = true) (ht : tabT ms1 = (far (tabT ms) q (rAt (mAt ms (q.run - 1).toNat).t.slots q.a.toNat)).1)
    (hs : sees (tabT ms1) q.run (rAt (mAt ms (q.run - 1).toNat).t.slots q.a.toNat).th = false) {m : MTh} (hm : m.t = { (mAt ms1 (q.run - 1).toNat).t with num := 0 }) :
    doCall (tabT ms) q = (tabT (ms1.set (q.run - 1).toNat m), 0) := by
  have h1 := L8 (ms := ms1) hm
  rw [Je] at hl ht hs
  unfold doCall told
  rw [if_neg (of_decide_eq_false h), if_neg (of_decide_eq_false h3), if_pos hl, h1, ← ht, if_neg (by rw [hs]; exact Bool.false_ne_true)]
end
section
variable {P : Program} {n : Nat} {ops : Array Oper} {K : Fr → World → Prop} {l : List Oper} {f : Fr} {w : World} {ty : TypeId} {pos : String} {aft : Array Edge} {d : Nat}
theorem Pr {x y : Operand} {k : IntKind} {a b c : Int} {ts : Array TypeId} (hx : ev f x = .int k a) (hy : ev f y = .int k b) (hc : c = min a b) (hd : Nat.blt d n = true)
    (h : WpO P n ops K l (up f d (.int k c)) w) : WpO P n ops K (⟨some d, .call ⟨.builtin .min, #[x, y], ts⟩, ty, pos, aft, none⟩ :: l) f w := by
  refine Jc rfl hd (v := .int k c) (w' := w) ?_ h
  have e : (if b < a then b else a) = c := by rw [hc]; split <;> omega
  simp [execOp, resolve, invoke, builtin, hx, hy, Builtin.min_, Builtin.min2, e]
theorem On {α : Type} {g : α → List Value} {t e sz m c : Nat} {x y : Operand} {a : Option Addr} {k : IntKind} {xs : List α} (ht : P.underlying t = some (.slice e)) (hs : (P.info? e).map (·.size) = some sz) (hx : ev f x = .slice a m c) (hy : ev f y = .int k 1)
    (hm : m = xs.length) (h1 : 1 ≤ xs.length) (hc : xs.length ≤ c) (ha : SlAt w a sz (xs.map g)) (hd : Nat.blt d n = true)
    (hk : ∀ a', SlAt w (some a') sz ((xs.drop 1).map g) → WpO P n ops K l (up f d (.slice (some a') (xs.drop 1).length (c - 1))) w) : WpO P n ops K (⟨some d, .slice t x (some y) none none, ty, pos, aft, none⟩ :: l) f w := by
  subst hm
  have h10 : xs[0]? = some (xs[0]'(by omega)) := List.getElem?_eq_getElem _
  obtain ⟨b, o, rfl, _⟩ := ha 0 _ (Yp (g := g) h10)
  have hdl : (xs.drop 1).length = xs.length - 1 := List.length_drop
  have hb1 : (Instr.sliceBound (.int k 1) xs.length .sliceB).run P w = .ok 1 w := by
    have : (0 : Int) ≤ 1 ∧ (1 : Int) ≤ (xs.length : Int) := by omega
    simp [Instr.sliceBound, asIntOf, this]
  have h2 : (Instr.sliceBounds true xs.length c (some (.int k 1)) none none).run P w = .ok (1, xs.length, c) w := by
    simp [Instr.sliceBounds, hb1]
  cases hq : P.info? e with
  | none => rw [hq] at hs; cases hs
  | some i =>
    rw [hq] at hs
    simp only [Option.map_some, Option.some.injEq] at hs
    have hz : (sizeOf e).run P w = .ok i.size w := by simp [sizeOf, typeInfo, hq]
    have h3 : (Instr.slice t (.slice (some ⟨b, o, none⟩) xs.length c) (some (.int k 1)) none none).run P w = .ok (.slice (some (if c = 1 then ⟨b, o, none⟩ else (⟨b, o, none⟩ : Addr).add (1 * i.size))) (xs.length - 1) (c - 1)) w := by
      simp [Instr.slice, run_underlying ht, h2, hz]
      split <;> rfl
    have h4 : (Instr.sliceAt t (.slice (some ⟨b, o, none⟩) xs.length c) (some (.int k 1)) none none).run P w = .ok (.slice (some (if c = 1 then ⟨b, o, none⟩ else (⟨b, o, none⟩ : Addr).add (1 * i.size))) (xs.length - 1) (c - 1)) w := by
      simp [Instr.sliceAt, run_underlying ht, h3]
    have hk' := hk (if c = 1 then ⟨b, o, none⟩ else (⟨b, o, none⟩ : Addr).add (1 * i.size)) ?_
    · rw [hdl] at hk'
      exact Jc rfl hd (by simp only [execOp, hx, hy, Option.map_none, Option.map_some, Sem.run_bind, h4, Result.andThen_ok]; rfl) hk'
    · intro j z hj
      rw [List.map_drop, List.getElem?_drop] at hj
      obtain ⟨b2, o2, e2, hr⟩ := ha (1 + j) z hj
      simp only [Option.some.injEq, Addr.mk.injEq, and_true] at e2
      obtain ⟨rfl, rfl⟩ := e2
      by_cases hc1 : c = 1
      · have hlt := (List.getElem?_eq_some_iff.1 hj).1
        rw [List.length_map] at hlt
        omega
      · rw [if_neg hc1]
        refine ⟨b, o + sz, ?_, ?_⟩
        · unfold Addr.add
          rw [hs, Nat.one_mul]
          split
          · rename_i h0
            rw [h0]
            rfl
          · rfl
        · rw [show o + sz + j * sz = o + (1 + j) * sz by rw [Nat.add_mul, Nat.one_mul, Nat.add_assoc]]
          exact hr
theorem Qm {t e sz m b o o' : Nat} {x y : Operand} {k : IntKind} {i : Int} (ht : arrTy P t = some (m, e, sz)) (hx : ev f x = .pointer (some ⟨b, o, none⟩)) (hy : ev f y = .int k i) (h0 : 0 ≤ i) (h1 : i < m) (e1 : o + i.toNat * sz = o') (hd : Nat.blt d n = true) (h : WpO P n ops K l (up f d (.pointer (some ⟨b, o', none⟩))) w) :
    WpO P n ops K (⟨some d, .indexAddr t x y, ty, pos, aft, none⟩ :: l) f w := by
  obtain ⟨hu, inf, hq, hs⟩ := Uw ht
  exact Jc rfl hd (by simp [execOp, hx, hy, Instr.indexAt, run_underlying hu, asIntOf, h0, h1, sizeOf, typeInfo, hq, hs, Addr.add_mid, e1, Instr.sureAddr]) h
theorem Lq {x : Operand} {nm : String} {T : TypeId} {k : FuncId} {rv v0 : Value} {args : Array Operand} {tys : Array TypeId} {vs : List Value} {R : Value → World → Prop} (hk : goFn P k = true) (hx : ev f x = .iface T rv) (hm : ∀ w : World, (Go.method (P.types.size + Made.depth) T rv nm).run P w = .ok (k, v0) w) (ha : args.toList.map (ev f) = vs) (hd : Nat.blt d n = true)
    (hc : CallsR P k (v0 :: vs).toArray w R) (h : ∀ v w', R v w' → WpO P n ops K l (up f d v) w') : WpO P n ops K (⟨some d, .call ⟨.invoke x nm, args, tys⟩, ty, pos, aft, none⟩ :: l) f w :=
  Ha (R := R) (k := k) (args := (v0 :: vs).toArray) rfl hd (by
    have e : args.map (ev f) = vs.toArray := by rw [← ha]; apply Array.ext'; simp
    have e2 : (#[Value.iface T rv] ++ vs.toArray).extract 1 (#[Value.iface T rv] ++ vs.toArray).size = vs.toArray := by apply Array.ext'; simp
    have e3 : (#[v0] ++ vs.toArray) = (v0 :: vs).toArray := by apply Array.ext'; simp
    have e4 : (#[Value.iface T rv] ++ vs.toArray)[0]? = some (Value.iface T rv) := by simp
    simp only [execOp, resolve, invoke, callMethod, hx, e, e2, e4, Sem.run_bind, Sem.run_pure, run_program, Result.andThen_ok, hm, Gb hk, e3]) hc h
end
end Go.Dw
end
section
namespace Go.Proofs.YtlhhijnmacogcaaGreatDoor
open Go.RowKit Go.Dw
set_option maxRecDepth 100000
set_option maxHeartbeats 4000000
set_option linter.unusedSimpArgs false
set_option linter.unusedVariables false
theorem Xaf : goFn Tryz.prog 56 = true := by kernel_rfl
theorem Ii (w : World) (ms : List MTh) (a : Option Addr) (c : Nat) (ht : TabAt w a ms) (hlen : TabLen ms) (hn : ms.length ≤ 1048576) : CallsR Tryz.prog 34 #[.slice a ms.length c] w (fun v w' => ∃ (B cap : Nat) (ys : List MTh), v = .slice (pa B) ys.length cap ∧ tabT ys = tabT ms ∧ w.heap.size ≤ B ∧ Dw.Own w' B 39 8 cap ys.length (ys.flatMap MTh.cells) ∧ RowsO 33 3 w.heap.size w' ys ∧ w.grownBy w' none) := by
 refine Xx (n := 32) Tryz.func34 Z Tryz.ntmps34 Z ?_
 have cz := World.grownBy.refl w none
 refine Xa (Xe (v := .slice none 0 0) Z Z (Xb (Xa (X7 (ps := []) (e := 39) (cs := (([] : List MTh).flatMap MTh.cells).toArray) X5 (fun _ => by kernel_rfl) Z ?_))))
 intro bp dy ao
 have bl := Yd ao cz
 refine Xe (v := .slice (pa bp) 0 0) Z Z (Xb (Xq (Xa (Xe (v := vi 0) Z Z (Xb (X9 (Ql (fun mm f' w' => ∃ (k : Nat) (Bt : Nat) (ct : Nat) (ys : List MTh), mm = ms.length - k ∧ k ≤ ms.length ∧ ys.length = k ∧ tabT ys = (tabT ms).take k ∧ RowsO 33 3 w.heap.size w' ys ∧ Dw.Own w' Bt 39 8 ct ys.length (ys.flatMap MTh.cells) ∧ w.heap.size ≤ Bt ∧ f' 3 = .slice (pa Bt) ys.length ct ∧ f' 4 = vi (k : Int) ∧ f' 0 = .slice a ms.length c ∧ f' 2 = .slice none 0 0 ∧ w.grownBy w' none) (ms.length - 0) ⟨0, bp, 0, ([] : List MTh), Z, (Nat.zero_le _), Z, Z, RowsO.nil, (Own.rows Yj ao.blk (by simp)), bl, Z, Z, Z, Z, (low0 cz ao.grw)⟩ ?_)))))))
 rintro mm dr da ⟨k, Bt, ct, ys, dp, hk, hyk, hyt, hRO, hOt, hlBt, bv, av, aw, cy, aj⟩
 obtain ⟨hi, hhi⟩ : ∃ n, n = da.heap.size := ⟨_, rfl⟩
 have an := RowsO.hi hRO
 rw [← hhi] at an
 have hhw : w.heap.size ≤ hi := by rw [hhi]; exact aj.size
 have dv := hOt.lt
 refine Xq (Xa (Xd (v := vi (k : Int)) av Z (Xd (v := .slice a ms.length c) aw Z (Y1 (by kernel_rfl) Z Z (Qg (q := decide ((k : Int) < (ms.length : Int))) Z Z Z Z (Xb (X0 Z (fun az => ?_) (fun az => ?_))))))))
 have dt := of_decide_eq_true az
 refine Xz (Xu (Xq (X9 (Xa (Xd (v := .slice a ms.length c) aw Z (Xd (v := vi (k : Int)) av Z ?_))))))
 obtain ⟨dq, dx, dw, cm, cv, cw⟩ := SlAt.at (TabAt.low ht aj).1 (Yp (xg ms k))
 have dl := TabLen.at hlen (xg ms k)
 refine X3 Qc Z Z cm cv (by omega) (by omega) Z (Xr (vs := [vi (mAt ms k).t.kind, vi (mAt ms k).t.lab.s, vi (mAt ms k).t.lab.v, vi (mAt ms k).t.ve, vi (mAt ms k).t.num, .slice (mAt ms k).sa (mAt ms k).t.slots.length (mAt ms k).sc, .slice (mAt ms k).qa (mAt ms k).t.queue.length (mAt ms k).qc, vi (mAt ms k).t.to]) Ys Z Z (Y2 cw 0 8 Z) Z (Yf (cs := #[vi 0, vi 0, vi 0, vi 0, vi 0, .slice none 0 0, .slice none 0 0, vi 0]) Ka Z Z ?_))
 intro bq dz O
 have dg := Yd O aj
 have c8 : hi ≤ bq := nt (Nat.le_of_eq hhi) (Nat.le_of_eq O.eq.symm)
 have cd := Xo O (hOt).lt
 refine Xy (vs := [vi (mAt ms k).t.kind, vi (mAt ms k).t.lab.s, vi (mAt ms k).t.lab.v, vi (mAt ms k).t.ve, vi (mAt ms k).t.num, .slice (mAt ms k).sa (mAt ms k).t.slots.length (mAt ms k).sc, .slice (mAt ms k).qa (mAt ms k).t.queue.length (mAt ms k).qc, vi (mAt ms k).t.to]) (cs' := #[vi (mAt ms k).t.kind, vi (mAt ms k).t.lab.s, vi (mAt ms k).t.lab.v, vi (mAt ms k).t.ve, vi (mAt ms k).t.num, .slice (mAt ms k).sa (mAt ms k).t.slots.length (mAt ms k).sc, .slice (mAt ms k).qa (mAt ms k).t.queue.length (mAt ms k).qc, vi (mAt ms k).t.to]) Ys Z Z Z (by simp [Value.oneCell']) O.blk (Nat.le_of_ble_eq_true Z) Z ?_
 intro d0 ac
 have a9 := low1 (low0 aj O.grw) ac.grw (by omega)
 refine Xb (Xa (X7 (ps := []) (e := 33) (cs := (([] : List Rt).flatMap Rt.cells).toArray) X5 (fun _ => by kernel_rfl) Z ?_))
 intro br db G
 have dh := Yd G a9
 have bd : hi ≤ br := nt (nt (nt (Nat.le_of_eq hhi) O.grw.size) ac.grw.size) (Nat.le_of_eq G.eq.symm)
 have bw := ((hOt.grown0 O.grw).gn ac.grw)
 have ce := Xo G (bw).lt
 have bg := Xo G (ac.blk).lt
 have ap := low0 a9 G.grw
 refine Xc (o' := 5) Qj Z Z Z ?_
 have bx := (ac.blk.grown0 G.grw)
 refine Xh (v := .slice (mAt ms k).sa (mAt ms k).t.slots.length (mAt ms k).sc) Jd Z (bx.cell Z) Z (Jg (g := Rt.cells) (ys := ([])) (zs := (mAt ms k).t.slots) (lo := hi) Ti Z Qx (by omega) Vf Z Z (OwnN.of (Own.rows Qx G.blk (by simp)) bd) (TabAt.th (TabAt.low ht ap) (xg ms k)).1 (TabAt.th (TabAt.low ht ap) (xg ms k)).2.2.1 (by first | omega | exact Nat.le_of_ble_eq_true rfl | (simp only [List.length_nil, List.length_cons, List.length_append, List.length_replicate]; omega) | (simp only [List.length_drop, List.length_nil]; omega)) (by omega) (nt (nt (nt (Nat.le_of_eq hhi) O.grw.size) ac.grw.size) G.grw.size) Z ?_)
 intro ah V dc a8 cn dm
 have af : World.grownBy db dc (some br) := cn
 refine Xc (o' := 5) Qj Z Z Z ?_
 have bf := (bx.gn af)
 refine Yc (v := .slice ah (mAt ms k).t.slots.length V) (cs' := #[vi (mAt ms k).t.kind, vi (mAt ms k).t.lab.s, vi (mAt ms k).t.lab.v, vi (mAt ms k).t.ve, vi (mAt ms k).t.num, .slice ah (mAt ms k).t.slots.length V, .slice (mAt ms k).qa (mAt ms k).t.queue.length (mAt ms k).qc, vi (mAt ms k).t.to]) Jd Z Z Z bf (Nat.le_of_ble_eq_true Z) Z ?_
 intro d1 ad
 have ba := low1 (low1 ap af (by omega)) ad.grw (by omega)
 refine Xb (Xa (X7 (ps := []) (e := 3) (cs := (([] : List Int).flatMap icell).toArray) X5 (fun _ => by kernel_rfl) Z ?_))
 intro bt de E
 have di := Yd E ba
 have be : hi ≤ bt := nt (nt (nt (nt (nt (nt (Nat.le_of_eq hhi) O.grw.size) ac.grw.size) G.grw.size) af.size) ad.grw.size) (Nat.le_of_eq E.eq.symm)
 have bz := (((bw.grown0 G.grw).gn af).gn ad.grw)
 have cf := Xo E (bz).lt
 have bh := Xo E (ad.blk).lt
 have aq := low0 ba E.grw
 refine Xc (o' := 6) Qq Z Z Z ?_
 have ca := (ad.blk.grown0 E.grw)
 refine Xh (v := .slice (mAt ms k).qa (mAt ms k).t.queue.length (mAt ms k).qc) Ju Z (ca.cell Z) Z (Jg (g := icell) (ys := ([])) (zs := (mAt ms k).t.queue) (lo := hi) Vs Z Yq (by omega) Jz Z Z (OwnN.of (Own.rows Yq E.blk (by simp)) be) (TabAt.th (TabAt.low ht aq) (xg ms k)).2.1 (TabAt.th (TabAt.low ht aq) (xg ms k)).2.2.2 (by first | omega | exact Nat.le_of_ble_eq_true rfl | (simp only [List.length_nil, List.length_cons, List.length_append, List.length_replicate]; omega) | (simp only [List.length_drop, List.length_nil]; omega)) (by omega) (nt (nt (nt (nt (nt (nt (Nat.le_of_eq hhi) O.grw.size) ac.grw.size) G.grw.size) af.size) ad.grw.size) E.grw.size) Z ?_)
 intro ai ab df cj co dn
 have ag : World.grownBy de df (some bt) := co
 refine Xc (o' := 6) Qq Z Z Z ?_
 have au := (ca.gn ag)
 refine Yc (v := .slice ai (mAt ms k).t.queue.length ab) (cs' := #[vi (mAt ms k).t.kind, vi (mAt ms k).t.lab.s, vi (mAt ms k).t.lab.v, vi (mAt ms k).t.ve, vi (mAt ms k).t.num, .slice ah (mAt ms k).t.slots.length V, .slice ai (mAt ms k).t.queue.length ab, vi (mAt ms k).t.to]) Ju Z Z Z au (Nat.le_of_ble_eq_true Z) Z ?_
 intro d2 ae
 have bb := low1 (low1 aq ag (by omega)) ae.grw (by omega)
 refine Xb (X2 (Xd (v := .slice (pa Bt) ys.length ct) bv Z (Xr (vs := [vi (mAt ms k).t.kind, vi (mAt ms k).t.lab.s, vi (mAt ms k).t.lab.v, vi (mAt ms k).t.ve, vi (mAt ms k).t.num, .slice ah (mAt ms k).t.slots.length V, .slice ai (mAt ms k).t.queue.length ab, vi (mAt ms k).t.to]) Ys Z Z (ae.blk.rangeL 0 8 Z) Z (X7 (ps := [(0, .agg #[vi (mAt ms k).t.kind, vi (mAt ms k).t.lab.s, vi (mAt ms k).t.lab.v, vi (mAt ms k).t.ve, vi (mAt ms k).t.num, .slice ah (mAt ms k).t.slots.length V, .slice ai (mAt ms k).t.queue.length ab, vi (mAt ms k).t.to])]) (e := 39) (cs := (([(⟨⟨(mAt ms k).t.kind, (mAt ms k).t.lab, (mAt ms k).t.ve, (mAt ms k).t.num, (mAt ms k).t.slots, (mAt ms k).t.queue, (mAt ms k).t.to⟩, ah, V, ai, ab⟩ : MTh)] : List MTh).flatMap MTh.cells).toArray) (Xk Z X5) (fun _ => by kernel_rfl) Z ?_))))
 intro bu d3 J
 have dk := Yd J bb
 have c9 : hi ≤ bu := nt (nt (nt (nt (nt (nt (nt (nt (nt (Nat.le_of_eq hhi) O.grw.size) ac.grw.size) G.grw.size) af.size) ad.grw.size) E.grw.size) ag.size) ae.grw.size) (Nat.le_of_eq J.eq.symm)
 have cc := (((bz.grown0 E.grw).gn ag).gn ae.grw)
 have cg := Xo J (cc).lt
 have bi := Xo J (ae.blk).lt
 have bc := low0 bb J.grw
 have am := (cc.grown0 J.grw)
 refine V9 (g := MTh.cells) (ys := ys) (zs := ([(⟨⟨(mAt ms k).t.kind, (mAt ms k).t.lab, (mAt ms k).t.ve, (mAt ms k).t.num, (mAt ms k).t.slots, (mAt ms k).t.queue, (mAt ms k).t.to⟩, ah, V, ai, ab⟩ : MTh)] : List MTh)) Tg Z Yj (by omega) Ke Z Z am (Jo Yj J.blk) (by simp only [List.length_cons, List.length_nil]; omega) (by omega) Z ?_
 intro al ar d4 ck ak bn
 have bm : w.heap.size ≤ al := by rcases bn with h | h; (rw [h]; exact hlBt); (rw [h]; exact bc.size)
 have bj : bq ≠ al := by have h := ((ae.blk.grown0 J.grw)).lt; omega
 have bk : bu ≠ al := by have h := (J.blk).lt; omega
 refine Xe (v := .slice (pa al) (ys ++ ([(⟨⟨(mAt ms k).t.kind, (mAt ms k).t.lab, (mAt ms k).t.ve, (mAt ms k).t.num, (mAt ms k).t.slots, (mAt ms k).t.queue, (mAt ms k).t.to⟩, ah, V, ai, ab⟩ : MTh)] : List MTh)).length ar) Z Z (Xb (Y3 (Xu (X2 (Xd (v := vi (k : Int)) av Z (Yl (c := (k : Int) + 1) Z Z (by omega) (by omega) (by omega) Z (Xe (v := vi ((k : Int) + 1)) Z Z (Xb (Xu ?_)))))))))
 have cl := (OwnN.typ ((OwnN.typB (OwnN.typ ((OwnN.typB a8 ad.grw bf (by decide)).grown0 E.grw) ag (Own.rows Yq E.blk (by simp)) (by decide)) ae.grw au (by decide)).grown0 J.grw) ak am (by decide))
 exact ⟨ms.length - (k + 1), by omega, (k + 1), al, ar, (ys ++ ([(⟨⟨(mAt ms k).t.kind, (mAt ms k).t.lab, (mAt ms k).t.ve, (mAt ms k).t.num, (mAt ms k).t.slots, (mAt ms k).t.queue, (mAt ms k).t.to⟩, ah, V, ai, ab⟩ : MTh)] : List MTh)), Z, (by omega), (by rw [List.length_append, hyk]; rfl), (Ml hyt (xg ms k) Z), (RowsO.snoc (RowsO.own (RowsO.low (RowsO.ge (RowsO.ge (RowsO.low (RowsO.ge (RowsO.ge (RowsO.low (RowsO.ge (RowsO.low hRO O.grw) ac.grw an (by omega)) G.grw) af an (by omega)) ad.grw an (by omega)) E.grw) ag an (by omega)) ae.grw an (by omega)) J.grw) ak am (by decide) (by decide)) ⟨OwnN.mono (OwnN.typ ((OwnN.typB (OwnN.typ ((OwnN.typB a8 ad.grw bf (by decide)).grown0 E.grw) ag (Own.rows Yq E.blk (by simp)) (by decide)) ae.grw au (by decide)).grown0 J.grw) ak am (by decide)) hhw, OwnN.mono (OwnN.typ ((OwnN.typB cj ae.grw au (by decide)).grown0 J.grw) ak am (by decide)) hhw⟩ an (fun S e => (Hr cl e).2)), ck, bm, Z, Z, aw, cy, (low1 bc ak (by omega))⟩
 have du := of_decide_eq_false az
 exact Qf (Y9 (Y9 (Jh (Xu (Xa (Xd (v := .slice (pa Bt) ys.length ct) bv Z (Xe (v := .slice (pa Bt) ys.length ct) Z Z (Xb (Xt (⟨.slice (pa Bt) ys.length ct, Yt Z Z, Bt, ct, ys, Z, Od hyt (by omega), hlBt, hOt, hRO, aj⟩))))))))))
theorem Ig (q : Cl) (r : Rt) (lo B cap : Nat) (ms : List MTh) (w : World) (hB : Dw.Own w B 39 8 cap ms.length (ms.flatMap MTh.cells)) (hR : RowsO 33 3 lo w ms) (hlo : lo ≤ B) (hi : Nat) (hH : HiO hi ms) (hBlt : B < hi) (hhi : hi ≤ w.heap.size) (hF : FarOk (tabT ms) q r) : CallsR Tryz.prog 58 #[.slice (pa B) ms.length cap, .agg #[vi q.kind, vi q.run, vi q.a, vi q.b, vi q.n], .agg #[vi r.th, vi r.ve, vb r.rd, vb r.wr, vb r.wk]] w (fun v w' => ∃ ms' : List MTh, v = vi (far (tabT ms) q r).2 ∧ ms'.length = ms.length ∧ Dw.Own w' B 39 8 cap ms'.length (ms'.flatMap MTh.cells) ∧ RowsO 33 3 lo w' ms' ∧ tabT ms' = (far (tabT ms) q r).1 ∧ KeepsI lo hi [39, 33, 3] w w') := by
 refine Xx (n := 143) Tryz.func58 Z Tryz.ntmps58 Z ?_
 have ou : KeepsI lo hi [39, 33, 3] w w := KeepsI.refl w
 have hlow : lo ≤ w.heap.size := by omega
 have hT := hF.tab
 have hco := Yx hF.call
 have hkp := (Qe hF.run).1
 have h4 := Qt hT hF.run
 have hth := hF.th
 rw [Y5] at hth
 have hml := Jk hT
 have hkd := Q2 hF.kind hco.1
 rw [← Qk] at hkd
 have hrow := Jl hT (i := (r.th - 1).toNat) (by omega)
 have hln := TabLen.ok hT _ (List.mem_of_getElem? (xg ms (r.th - 1).toNat))
 have hcp := hF.copy
 have hve := V8 hrow
 refine Xa (Y7 (v := .agg #[vi q.kind, vi q.run, vi q.a, vi q.b, vi q.n]) (cs := #[vi q.kind, vi q.run, vi q.a, vi q.b, vi q.n]) Z Z Z ?_)
 intro dm td ae
 have q8 := K8 ae ou
 have l6 := Xo ae (hB).lt
 have ft := KeepsI.low ou ae.grw
 refine Y7 (v := .agg #[vi r.th, vi r.ve, vb r.rd, vb r.wr, vb r.wk]) (cs := #[vi r.th, vi r.ve, vb r.rd, vb r.wr, vb r.wk]) Z Z Z ?_
 intro fg te ab
 have q9 := K8 ab ft
 have kg := (hB.grown0 ae.grw)
 have l7 := Xo ab (kg).lt
 have g6 := Xo ab (ae.blk).lt
 have fu := KeepsI.low ft ab.grw
 refine Xe (v := vi 0) Z Z (Xb (Xa (Xd (v := .slice (pa B) ms.length cap) Z Z (Xc (o' := 0) Yo Z Z Z (Xh (v := vi r.th) X1 Z (ab.blk.cell Z) Z (Yr (c := r.th - 1) Z Z (by omega) (by omega) (by omega) Z (X4 (o' := (r.th - 1).toNat * 8) Qc Z Z (by omega) (by omega) (by omega) Z ?_)))))))
 have gi := (kg.grown0 ab.grw)
 refine Xr (vs := [vi (mAt ms (r.th - 1).toNat).t.kind, vi (mAt ms (r.th - 1).toNat).t.lab.s, vi (mAt ms (r.th - 1).toNat).t.lab.v, vi (mAt ms (r.th - 1).toNat).t.ve, vi (mAt ms (r.th - 1).toNat).t.num, .slice (mAt ms (r.th - 1).toNat).sa (mAt ms (r.th - 1).toNat).t.slots.length (mAt ms (r.th - 1).toNat).sc, .slice (mAt ms (r.th - 1).toNat).qa (mAt ms (r.th - 1).toNat).t.queue.length (mAt ms (r.th - 1).toNat).qc, vi (mAt ms (r.th - 1).toNat).t.to]) Ys Z Z (Y2 (Own.range Yj gi (xg ms (r.th - 1).toNat)) 0 8 Z) Z (Yf (cs := #[vi 0, vi 0, vi 0, vi 0, vi 0, .slice none 0 0, .slice none 0 0, vi 0]) Ka Z Z ?_)
 intro d0 tf O
 have ra := K8 O fu
 have l8 := Xo O (gi).lt
 have kh := (ae.blk.grown0 ab.grw)
 have g7 := Xo O (kh).lt
 have il := Xo O (ab.blk).lt
 refine Xy (vs := [vi (mAt ms (r.th - 1).toNat).t.kind, vi (mAt ms (r.th - 1).toNat).t.lab.s, vi (mAt ms (r.th - 1).toNat).t.lab.v, vi (mAt ms (r.th - 1).toNat).t.ve, vi (mAt ms (r.th - 1).toNat).t.num, .slice (mAt ms (r.th - 1).toNat).sa (mAt ms (r.th - 1).toNat).t.slots.length (mAt ms (r.th - 1).toNat).sc, .slice (mAt ms (r.th - 1).toNat).qa (mAt ms (r.th - 1).toNat).t.queue.length (mAt ms (r.th - 1).toNat).qc, vi (mAt ms (r.th - 1).toNat).t.to]) (cs' := #[vi (mAt ms (r.th - 1).toNat).t.kind, vi (mAt ms (r.th - 1).toNat).t.lab.s, vi (mAt ms (r.th - 1).toNat).t.lab.v, vi (mAt ms (r.th - 1).toNat).t.ve, vi (mAt ms (r.th - 1).toNat).t.num, .slice (mAt ms (r.th - 1).toNat).sa (mAt ms (r.th - 1).toNat).t.slots.length (mAt ms (r.th - 1).toNat).sc, .slice (mAt ms (r.th - 1).toNat).qa (mAt ms (r.th - 1).toNat).t.queue.length (mAt ms (r.th - 1).toNat).qc, vi (mAt ms (r.th - 1).toNat).t.to]) Ys Z Z Z (by simp [Value.oneCell']) O.blk (Nat.le_of_ble_eq_true Z) Z ?_
 intro tg V
 have fv := KeepsI.new (KeepsI.low fu O.grw) V.grw (by omega)
 refine Xb (Xa (Xd (v := .slice (pa B) ms.length cap) Z Z (Xc (o' := 1) Q5 Z Z Z ?_)))
 have gj := ((kh.grown0 O.grw).gn V.grw)
 refine Xh (v := vi q.run) X1 Z (gj.cell Z) Z (Yr (c := q.run - 1) Z Z (by omega) (by omega) (by omega) Z (X4 (o' := (q.run - 1).toNat * 8) Qc Z Z (by omega) (by omega) (by omega) Z ?_))
 have ar := ((gi.grown0 O.grw).gn V.grw)
 refine Xr (vs := [vi (mAt ms (q.run - 1).toNat).t.kind, vi (mAt ms (q.run - 1).toNat).t.lab.s, vi (mAt ms (q.run - 1).toNat).t.lab.v, vi (mAt ms (q.run - 1).toNat).t.ve, vi (mAt ms (q.run - 1).toNat).t.num, .slice (mAt ms (q.run - 1).toNat).sa (mAt ms (q.run - 1).toNat).t.slots.length (mAt ms (q.run - 1).toNat).sc, .slice (mAt ms (q.run - 1).toNat).qa (mAt ms (q.run - 1).toNat).t.queue.length (mAt ms (q.run - 1).toNat).qc, vi (mAt ms (q.run - 1).toNat).t.to]) Ys Z Z (Y2 (Own.range Yj ar (xg ms (q.run - 1).toNat)) 0 8 Z) Z (Yf (cs := #[vi 0, vi 0, vi 0, vi 0, vi 0, .slice none 0 0, .slice none 0 0, vi 0]) Ka Z Z ?_)
 intro fh ti E
 have rb := K8 E fv
 have l9 := Xo E (ar).lt
 have g8 := Xo E (gj).lt
 have bf := ((ab.blk.grown0 O.grw).gn V.grw)
 have im := Xo E (bf).lt
 have iy := Xo E (V.blk).lt
 refine Xy (vs := [vi (mAt ms (q.run - 1).toNat).t.kind, vi (mAt ms (q.run - 1).toNat).t.lab.s, vi (mAt ms (q.run - 1).toNat).t.lab.v, vi (mAt ms (q.run - 1).toNat).t.ve, vi (mAt ms (q.run - 1).toNat).t.num, .slice (mAt ms (q.run - 1).toNat).sa (mAt ms (q.run - 1).toNat).t.slots.length (mAt ms (q.run - 1).toNat).sc, .slice (mAt ms (q.run - 1).toNat).qa (mAt ms (q.run - 1).toNat).t.queue.length (mAt ms (q.run - 1).toNat).qc, vi (mAt ms (q.run - 1).toNat).t.to]) (cs' := #[vi (mAt ms (q.run - 1).toNat).t.kind, vi (mAt ms (q.run - 1).toNat).t.lab.s, vi (mAt ms (q.run - 1).toNat).t.lab.v, vi (mAt ms (q.run - 1).toNat).t.ve, vi (mAt ms (q.run - 1).toNat).t.num, .slice (mAt ms (q.run - 1).toNat).sa (mAt ms (q.run - 1).toNat).t.slots.length (mAt ms (q.run - 1).toNat).sc, .slice (mAt ms (q.run - 1).toNat).qa (mAt ms (q.run - 1).toNat).t.queue.length (mAt ms (q.run - 1).toNat).qc, vi (mAt ms (q.run - 1).toNat).t.to]) Ys Z Z Z (by simp [Value.oneCell']) E.blk (Nat.le_of_ble_eq_true Z) Z ?_
 intro ff G
 have ac := KeepsI.new (KeepsI.low fv E.grw) G.grw (by omega)
 refine Xb (Xa (Xe (v := vi 0) Z Z (Xb (Xq (Xa (Xc (o' := 0) Ji Z Z Z ?_))))))
 have ao := ((gj.grown0 E.grw).gn G.grw)
 refine Xh (v := vi q.kind) X1 Z (ao.cell Z) Z (Xb (X9 (Xa (X6 (q := decide (q.kind = 1)) Z Z Z Z (Xe (v := vb (decide (q.kind = 1))) Z Z (Xb (X0 Z (fun ei => ?_) (fun ei => ?_))))))))
 have sb := of_decide_eq_true ei
 refine Xa (Xc (o' := 4) Qw Z Z Z (Xh (v := vi (mAt ms (r.th - 1).toNat).t.num) X1 Z (((V.blk.grown0 E.grw).gn G.grw).cell Z) Z (Xe (v := vi (mAt ms (r.th - 1).toNat).t.num) Z Z (Xb (Xt (Qn (Yk ?_)))))))
 have hf : far (tabT ms) q r = (tabT (ms), (mAt ms (r.th - 1).toNat).t.num) := Zz ei
 exact ⟨vi (mAt ms (r.th - 1).toNat).t.num, Yt Z Z, ms, by rw [hf], by first | rfl | exact Yb | (simp only [List.length_set, Yb]), ((ar.grown0 E.grw).gn G.grw), (RowsO.typB (RowsO.low (RowsO.typB (RowsO.low (RowsO.low (RowsO.low hR ae.grw) ab.grw) O.grw) V.grw O.blk (by decide) (by decide)) E.grw) G.grw E.blk (by decide) (by decide)), by rw [hf], ac⟩
 have sd := of_decide_eq_false ei
 refine Xa (X6 (q := decide (q.kind = 2)) Z Z Z Z (Xe (v := vb (decide (q.kind = 2))) Z Z (Xb (X0 Z (fun ej => ?_) (fun ej => ?_)))))
 have se := of_decide_eq_true ej
 refine X2 (Xc (o' := 4) Js Z Z Z (Xh (v := vi q.n) X1 Z (ao.cell Z) Z (Xc (o' := 4) Qw Z Z Z ?_)))
 have ki := ((V.blk.grown0 E.grw).gn G.grw)
 refine Yc (v := vi q.n) (cs' := #[vi (mAt ms (r.th - 1).toNat).t.kind, vi (mAt ms (r.th - 1).toNat).t.lab.s, vi (mAt ms (r.th - 1).toNat).t.lab.v, vi (mAt ms (r.th - 1).toNat).t.ve, vi q.n, .slice (mAt ms (r.th - 1).toNat).sa (mAt ms (r.th - 1).toNat).t.slots.length (mAt ms (r.th - 1).toNat).sc, .slice (mAt ms (r.th - 1).toNat).qa (mAt ms (r.th - 1).toNat).t.queue.length (mAt ms (r.th - 1).toNat).qc, vi (mAt ms (r.th - 1).toNat).t.to]) X1 Z Z Z ki (Nat.le_of_ble_eq_true Z) Z ?_
 intro tj ct
 refine Xb (Y3 (Xu (Xa (Xd (v := .slice (pa B) ms.length cap) Z Z (Xc (o' := 0) Yo Z Z Z (Xh (v := vi r.th) X1 Z ((((bf.grown0 E.grw).gn G.grw).gn ct.grw).cell Z) Z (Yr (c := r.th - 1) Z Z (by omega) (by omega) (by omega) Z (Xr (vs := [vi (mAt ms (r.th - 1).toNat).t.kind, vi (mAt ms (r.th - 1).toNat).t.lab.s, vi (mAt ms (r.th - 1).toNat).t.lab.v, vi (mAt ms (r.th - 1).toNat).t.ve, vi q.n, .slice (mAt ms (r.th - 1).toNat).sa (mAt ms (r.th - 1).toNat).t.slots.length (mAt ms (r.th - 1).toNat).sc, .slice (mAt ms (r.th - 1).toNat).qa (mAt ms (r.th - 1).toNat).t.queue.length (mAt ms (r.th - 1).toNat).qc, vi (mAt ms (r.th - 1).toNat).t.to]) Ys Z Z (ct.blk.rangeL 0 8 Z) Z (X4 (o' := (r.th - 1).toNat * 8) Qc Z Z (by omega) (by omega) (by omega) Z ?_)))))))))
 have gk := (((ar.grown0 E.grw).gn G.grw).gn ct.grw)
 refine Qy (g := MTh.cells) (z' := (⟨⟨(mAt ms (r.th - 1).toNat).t.kind, (mAt ms (r.th - 1).toNat).t.lab, (mAt ms (r.th - 1).toNat).t.ve, q.n, (mAt ms (r.th - 1).toNat).t.slots, (mAt ms (r.th - 1).toNat).t.queue, (mAt ms (r.th - 1).toNat).t.to⟩, (mAt ms (r.th - 1).toNat).sa, (mAt ms (r.th - 1).toNat).sc, (mAt ms (r.th - 1).toNat).qa, (mAt ms (r.th - 1).toNat).qc⟩ : MTh)) Ys Z Z (Ke _) Yj gk (by omega) Z ?_
 intro ow k5 f9
 have jr : RowsO 33 3 lo ow (ms.set (r.th - 1).toNat (⟨⟨(mAt ms (r.th - 1).toNat).t.kind, (mAt ms (r.th - 1).toNat).t.lab, (mAt ms (r.th - 1).toNat).t.ve, q.n, (mAt ms (r.th - 1).toNat).t.slots, (mAt ms (r.th - 1).toNat).t.queue, (mAt ms (r.th - 1).toNat).t.to⟩, (mAt ms (r.th - 1).toNat).sa, (mAt ms (r.th - 1).toNat).sc, (mAt ms (r.th - 1).toNat).qa, (mAt ms (r.th - 1).toNat).qc⟩ : MTh)) := RowsO.set (RowsO.own (RowsO.typB (RowsO.typB (RowsO.low (RowsO.typB (RowsO.low (RowsO.low (RowsO.low hR ae.grw) ab.grw) O.grw) V.grw O.blk (by decide) (by decide)) E.grw) G.grw E.blk (by decide) (by decide)) ct.grw ki (by decide) (by decide)) f9 gk (by decide) (by decide)) (lq (r.th - 1).toNat ms.length) ⟨rfl, rfl, rfl⟩ ⟨rfl, rfl, rfl⟩
 refine Xb (Xa (Xd (v := vi 0) Z Z (Xe (v := vi 0) Z Z (Xb (Xt ?_)))))
 have hf : far (tabT ms) q r = (tabT (ms.set (r.th - 1).toNat (⟨⟨(mAt ms (r.th - 1).toNat).t.kind, (mAt ms (r.th - 1).toNat).t.lab, (mAt ms (r.th - 1).toNat).t.ve, q.n, (mAt ms (r.th - 1).toNat).t.slots, (mAt ms (r.th - 1).toNat).t.queue, (mAt ms (r.th - 1).toNat).t.to⟩, (mAt ms (r.th - 1).toNat).sa, (mAt ms (r.th - 1).toNat).sc, (mAt ms (r.th - 1).toNat).qa, (mAt ms (r.th - 1).toNat).qc⟩ : MTh)), 0) := Z0 ej rfl
 exact ⟨vi 0, Yt Z Z, ms.set (r.th - 1).toNat (⟨⟨(mAt ms (r.th - 1).toNat).t.kind, (mAt ms (r.th - 1).toNat).t.lab, (mAt ms (r.th - 1).toNat).t.ve, q.n, (mAt ms (r.th - 1).toNat).t.slots, (mAt ms (r.th - 1).toNat).t.queue, (mAt ms (r.th - 1).toNat).t.to⟩, (mAt ms (r.th - 1).toNat).sa, (mAt ms (r.th - 1).toNat).sc, (mAt ms (r.th - 1).toNat).qa, (mAt ms (r.th - 1).toNat).qc⟩ : MTh), by rw [hf], by first | rfl | exact Yb | (simp only [List.length_set, Yb]), k5, jr, by rw [hf], (KeepsI.own (KeepsI.new ac ct.grw (by omega)) f9 gk (by decide) (by omega) (by omega))⟩
 have sf := of_decide_eq_false ej
 refine Xa (X6 (q := decide (q.kind = 4)) Z Z Z Z (Xe (v := vb (decide (q.kind = 4))) Z Z (Xb (X0 Z (fun dn => ?_) (fun dn => ?_)))))
 have ro := of_decide_eq_true dn
 have hs4 : (mAt ms (r.th - 1).toNat).t.slots.length = 4 := G0 hrow (Or.inl (by omega))
 have sg := of_decide_eq_true dn
 refine Xa (Xc (o' := 5) Qj Z Z Z ?_)
 have kj := ((V.blk.grown0 E.grw).gn G.grw)
 refine Xh (v := .slice (mAt ms (r.th - 1).toNat).sa (mAt ms (r.th - 1).toNat).t.slots.length (mAt ms (r.th - 1).toNat).sc) Jd Z (kj.cell Z) Z (Xc (o' := 4) Js Z Z Z (Xh (v := vi q.n) X1 Z (ao.cell Z) Z (Q9 (c := q.n % 4) Z Z (by omega) (by omega) (by omega) Z Z ?_)))
 have dp := (RowsO.typB (RowsO.low (RowsO.typB (RowsO.low (RowsO.low (RowsO.low hR ae.grw) ab.grw) O.grw) V.grw O.blk (by decide) (by decide)) E.grw) G.grw E.blk (by decide) (by decide))
 obtain ⟨rz, ez, qy, dt⟩ := RowsO.slot dp (lq (r.th - 1).toNat ms.length) (by omega)
 have qt := hH _ (List.mem_of_getElem? (xg ms (r.th - 1).toNat)) _ (Or.inl ez)
 have fb := ((ar.grown0 E.grw).gn G.grw)
 have q0 := K9 fb dt (by decide)
 refine X3 J9 Z Z ez (Nat.zero_add _) (by omega) (by omega) Z (Xr (vs := [vi (rAt (mAt ms (r.th - 1).toNat).t.slots (q.n % 4).toNat).th, vi (rAt (mAt ms (r.th - 1).toNat).t.slots (q.n % 4).toNat).ve, vb (rAt (mAt ms (r.th - 1).toNat).t.slots (q.n % 4).toNat).rd, vb (rAt (mAt ms (r.th - 1).toNat).t.slots (q.n % 4).toNat).wr, vb (rAt (mAt ms (r.th - 1).toNat).t.slots (q.n % 4).toNat).wk]) Y0 Z Z (Y2 (Own.range Qx dt (xr (mAt ms (r.th - 1).toNat).t.slots (q.n % 4).toNat)) 0 5 Z) Z (Yf (cs := #[vi 0, vi 0, vb false, vb false, vb false]) K3 Z Z ?_))
 intro ru tk ag
 have rf := K8 ag ac
 have ma := Xo ag (fb).lt
 have g9 := Xo ag (ao).lt
 have kk := ((bf.grown0 E.grw).gn G.grw)
 have io := Xo ag (kk).lt
 have iz := Xo ag (kj).lt
 have i8 := Xo ag (G.blk).lt
 have jl := Xo ag (dt).lt
 refine Xy (vs := [vi (rAt (mAt ms (r.th - 1).toNat).t.slots (q.n % 4).toNat).th, vi (rAt (mAt ms (r.th - 1).toNat).t.slots (q.n % 4).toNat).ve, vb (rAt (mAt ms (r.th - 1).toNat).t.slots (q.n % 4).toNat).rd, vb (rAt (mAt ms (r.th - 1).toNat).t.slots (q.n % 4).toNat).wr, vb (rAt (mAt ms (r.th - 1).toNat).t.slots (q.n % 4).toNat).wk]) (cs' := #[vi (rAt (mAt ms (r.th - 1).toNat).t.slots (q.n % 4).toNat).th, vi (rAt (mAt ms (r.th - 1).toNat).t.slots (q.n % 4).toNat).ve, vb (rAt (mAt ms (r.th - 1).toNat).t.slots (q.n % 4).toNat).rd, vb (rAt (mAt ms (r.th - 1).toNat).t.slots (q.n % 4).toNat).wr, vb (rAt (mAt ms (r.th - 1).toNat).t.slots (q.n % 4).toNat).wk]) Y0 Z Z Z (by simp [Value.oneCell']) ag.blk (Nat.le_of_ble_eq_true Z) Z ?_
 intro tl aq
 have fw := KeepsI.new (KeepsI.low ac ag.grw) aq.grw (by omega)
 refine Xb (Xq (Xa (Xc (o' := 4) Ve Z Z Z (Xh (v := vb r.wk) Jw Z (((kk.grown0 ag.grw).gn aq.grw).cell Z) Z (Xb (X0 Z (fun fi => ?_) (fun fi => ?_)))))))
 refine X2 (Xr (vs := [vi (rAt (mAt ms (r.th - 1).toNat).t.slots (q.n % 4).toNat).th, vi (rAt (mAt ms (r.th - 1).toNat).t.slots (q.n % 4).toNat).ve, vb (rAt (mAt ms (r.th - 1).toNat).t.slots (q.n % 4).toNat).rd, vb (rAt (mAt ms (r.th - 1).toNat).t.slots (q.n % 4).toNat).wr, vb (rAt (mAt ms (r.th - 1).toNat).t.slots (q.n % 4).toNat).wk]) Y0 Z Z (aq.blk.rangeL 0 5 Z) Z (Xn Xaf (Xf Z (Xf Z (Xf Z (Xf Z Xm)))) Z (Rn (rAt (mAt ms (r.th - 1).toNat).t.slots (q.n % 4).toNat) true false false _) ?_))
 rintro _ tn ⟨rfl, cf⟩
 refine Xy (vs := [vi (l2Less (rAt (mAt ms (r.th - 1).toNat).t.slots (q.n % 4).toNat) true false false).th, vi (l2Less (rAt (mAt ms (r.th - 1).toNat).t.slots (q.n % 4).toNat) true false false).ve, vb (l2Less (rAt (mAt ms (r.th - 1).toNat).t.slots (q.n % 4).toNat) true false false).rd, vb (l2Less (rAt (mAt ms (r.th - 1).toNat).t.slots (q.n % 4).toNat) true false false).wr, vb (l2Less (rAt (mAt ms (r.th - 1).toNat).t.slots (q.n % 4).toNat) true false false).wk]) (cs' := #[vi (l2Less (rAt (mAt ms (r.th - 1).toNat).t.slots (q.n % 4).toNat) true false false).th, vi (l2Less (rAt (mAt ms (r.th - 1).toNat).t.slots (q.n % 4).toNat) true false false).ve, vb (l2Less (rAt (mAt ms (r.th - 1).toNat).t.slots (q.n % 4).toNat) true false false).rd, vb (l2Less (rAt (mAt ms (r.th - 1).toNat).t.slots (q.n % 4).toNat) true false false).wr, vb (l2Less (rAt (mAt ms (r.th - 1).toNat).t.slots (q.n % 4).toNat) true false false).wk]) Y0 Z Z Z (by simp [Value.oneCell']) (aq.blk.grown0 cf) (Nat.le_of_ble_eq_true Z) Z ?_
 intro tp cc
 refine Xb (Xu (Xa (Xc (o' := 5) Qj Z Z Z (Xh (v := .slice (mAt ms (q.run - 1).toNat).sa (mAt ms (q.run - 1).toNat).t.slots.length (mAt ms (q.run - 1).toNat).sc) Jd Z (((((G.blk.grown0 ag.grw).gn aq.grw).grown0 cf).gn cc.grw).cell Z) Z (Xc (o' := 3) Vo Z Z Z (Xh (v := vi q.b) X1 Z (((((ao.grown0 ag.grw).gn aq.grw).grown0 cf).gn cc.grw).cell Z) Z (Xr (vs := [vi (l2Less (rAt (mAt ms (r.th - 1).toNat).t.slots (q.n % 4).toNat) true false false).th, vi (l2Less (rAt (mAt ms (r.th - 1).toNat).t.slots (q.n % 4).toNat) true false false).ve, vb (l2Less (rAt (mAt ms (r.th - 1).toNat).t.slots (q.n % 4).toNat) true false false).rd, vb (l2Less (rAt (mAt ms (r.th - 1).toNat).t.slots (q.n % 4).toNat) true false false).wr, vb (l2Less (rAt (mAt ms (r.th - 1).toNat).t.slots (q.n % 4).toNat) true false false).wk]) Y0 Z Z (cc.blk.rangeL 0 5 Z) Z ?_)))))))
 have ek := (RowsO.ge (RowsO.low (RowsO.ge (RowsO.low dp ag.grw) aq.grw hH (by omega)) cf) cc.grw hH (by omega))
 obtain ⟨r0, du, j1, cj⟩ := RowsO.slot ek (lq (q.run - 1).toNat ms.length) (by omega)
 have qu := hH _ (List.mem_of_getElem? (xg ms (q.run - 1).toNat)) _ (Or.inl du)
 have kl := ((((fb.grown0 ag.grw).gn aq.grw).grown0 cf).gn cc.grw)
 have q4 := K9 kl cj (by decide)
 refine X3 J9 Z Z du (Nat.zero_add _) (by omega) (by omega) Z (Qy (g := Rt.cells) (z' := (l2Less (rAt (mAt ms (r.th - 1).toNat).t.slots (q.n % 4).toNat) true false false)) Y0 Z Z (Vf _) Qx cj (by omega) Z ?_)
 intro tq k6 d8
 refine Xb (Xa (Xe (v := vi 0) Z Z (Xb (Xt (Qn (Yk ?_))))))
 have hf : far (tabT ms) q r = (tabT (putT ms (q.run - 1).toNat (q.b).toNat (l2Less (rAt (mAt ms (r.th - 1).toNat).t.slots (q.n % 4).toNat) true false false)), 0) := Ta dn (by unfold fetched; simp [fi])
 exact ⟨vi 0, Yt Z Z, putT ms (q.run - 1).toNat (q.b).toNat (l2Less (rAt (mAt ms (r.th - 1).toNat).t.slots (q.n % 4).toNat) true false false), by rw [hf], by first | rfl | exact Yb | (simp only [List.length_set, Yb]), (Vt (i := (q.run - 1).toNat) (j := (q.b).toNat) (x := (l2Less (rAt (mAt ms (r.th - 1).toNat).t.slots (q.n % 4).toNat) true false false)) (kl.gn d8) (by omega)), (RowsO.put ek (lq (q.run - 1).toNat ms.length) du j1 cj Z k6 d8 (by decide)), by rw [hf], (KeepsI.own (KeepsI.new (KeepsI.low fw cf) cc.grw (by omega)) d8 cj (by decide) (by omega) (by omega))⟩
 refine Xz (Xu (Xa (Xc (o' := 5) Qj Z Z Z (Xh (v := .slice (mAt ms (q.run - 1).toNat).sa (mAt ms (q.run - 1).toNat).t.slots.length (mAt ms (q.run - 1).toNat).sc) Jd Z (((G.blk.grown0 ag.grw).gn aq.grw).cell Z) Z (Xc (o' := 3) Vo Z Z Z (Xh (v := vi q.b) X1 Z (((ao.grown0 ag.grw).gn aq.grw).cell Z) Z (Xr (vs := [vi (rAt (mAt ms (r.th - 1).toNat).t.slots (q.n % 4).toNat).th, vi (rAt (mAt ms (r.th - 1).toNat).t.slots (q.n % 4).toNat).ve, vb (rAt (mAt ms (r.th - 1).toNat).t.slots (q.n % 4).toNat).rd, vb (rAt (mAt ms (r.th - 1).toNat).t.slots (q.n % 4).toNat).wr, vb (rAt (mAt ms (r.th - 1).toNat).t.slots (q.n % 4).toNat).wk]) Y0 Z Z (aq.blk.rangeL 0 5 Z) Z ?_)))))))
 have em := (RowsO.ge (RowsO.low dp ag.grw) aq.grw hH (by omega))
 obtain ⟨r1, dv, j2, ck⟩ := RowsO.slot em (lq (q.run - 1).toNat ms.length) (by omega)
 have qv := hH _ (List.mem_of_getElem? (xg ms (q.run - 1).toNat)) _ (Or.inl dv)
 have km := ((fb.grown0 ag.grw).gn aq.grw)
 have q5 := K9 km ck (by decide)
 refine X3 J9 Z Z dv (Nat.zero_add _) (by omega) (by omega) Z (Qy (g := Rt.cells) (z' := (rAt (mAt ms (r.th - 1).toNat).t.slots (q.n % 4).toNat)) Y0 Z Z (Vf _) Qx ck (by omega) Z ?_)
 intro tr k7 d9
 refine Xb (Xa (Xe (v := vi 0) Z Z (Xb (Xt (Qn (Yk ?_))))))
 have hf : far (tabT ms) q r = (tabT (putT ms (q.run - 1).toNat (q.b).toNat (rAt (mAt ms (r.th - 1).toNat).t.slots (q.n % 4).toNat)), 0) := Ta dn (by unfold fetched; simp [fi])
 exact ⟨vi 0, Yt Z Z, putT ms (q.run - 1).toNat (q.b).toNat (rAt (mAt ms (r.th - 1).toNat).t.slots (q.n % 4).toNat), by rw [hf], by first | rfl | exact Yb | (simp only [List.length_set, Yb]), (Vt (i := (q.run - 1).toNat) (j := (q.b).toNat) (x := (rAt (mAt ms (r.th - 1).toNat).t.slots (q.n % 4).toNat)) (km.gn d9) (by omega)), (RowsO.put em (lq (q.run - 1).toNat ms.length) dv j2 ck Z k7 d9 (by decide)), by rw [hf], (KeepsI.own fw d9 ck (by decide) (by omega) (by omega))⟩
 have sh := of_decide_eq_false dn
 refine Xa (X6 (q := decide (q.kind = 5)) Z Z Z Z (Xe (v := vb (decide (q.kind = 5))) Z Z (Xb (X0 Z (fun d1 => ?_) (fun d1 => ?_)))))
 have rp := of_decide_eq_true d1
 have hs4 : (mAt ms (r.th - 1).toNat).t.slots.length = 4 := G0 hrow (Or.inl (by omega))
 have si := of_decide_eq_true d1
 have dq := (RowsO.typB (RowsO.low (RowsO.typB (RowsO.low (RowsO.low (RowsO.low hR ae.grw) ab.grw) O.grw) V.grw O.blk (by decide) (by decide)) E.grw) G.grw E.blk (by decide) (by decide))
 obtain ⟨mq, e0, qz, eu⟩ := RowsO.slot dq (lq (q.run - 1).toNat ms.length) (by omega)
 have qw := hH _ (List.mem_of_getElem? (xg ms (q.run - 1).toNat)) _ (Or.inl e0)
 have gl := ((ar.grown0 E.grw).gn G.grw)
 have q6 := K9 gl eu (by decide)
 obtain ⟨r2, dw, j3, ew⟩ := RowsO.slot dq (lq (r.th - 1).toNat ms.length) (by omega)
 have qx := hH _ (List.mem_of_getElem? (xg ms (r.th - 1).toNat)) _ (Or.inl dw)
 have q7 := K9 gl ew (by decide)
 refine Yy (m := 11) (vals := [(57, pt d0 5), (58, .slice (mAt ms (r.th - 1).toNat).sa (mAt ms (r.th - 1).toNat).t.slots.length (mAt ms (r.th - 1).toNat).sc), (59, pt dm 4), (60, vi q.n), (61, vi (q.n % 4)), (62, pt fh 5), (63, .slice (mAt ms (q.run - 1).toNat).sa (mAt ms (q.run - 1).toNat).t.slots.length (mAt ms (q.run - 1).toNat).sc), (64, pt dm 3), (65, vi q.b), (66, pt mq ((q.b).toNat * 5)), (67, .agg #[vi (rAt (mAt ms (q.run - 1).toNat).t.slots (q.b).toNat).th, vi (rAt (mAt ms (q.run - 1).toNat).t.slots (q.b).toNat).ve, vb (rAt (mAt ms (q.run - 1).toNat).t.slots (q.b).toNat).rd, vb (rAt (mAt ms (q.run - 1).toNat).t.slots (q.b).toNat).wr, vb (rAt (mAt ms (q.run - 1).toNat).t.slots (q.b).toNat).wk])]) (fun w' => ff.grownBy w' none) Yz (by kernel_rfl) (X8 _) ?_ ?_
 refine yl Z (fun _ _ k => Xc (o' := 5) Qj Z Z Z k) (yl Z (fun _ lp k => Xh (v := .slice (mAt ms (r.th - 1).toNat).sa (mAt ms (r.th - 1).toNat).t.slots.length (mAt ms (r.th - 1).toNat).sc) Jd Z ((((V.blk.grown0 E.grw).gn G.grw).grown0 lp).cell Z) Z k) (yl Z (fun _ _ k => Xc (o' := 4) Js Z Z Z k) (yl Z (fun _ lu k => Xh (v := vi q.n) X1 Z ((ao.grown0 lu).cell Z) Z k) (yl Z (fun _ _ k => Q9 (c := q.n % 4) Z Z (by omega) (by omega) (by omega) Z Z k) (yl Z (fun _ _ k => Xc (o' := 5) Qj Z Z Z k) (yl Z (fun _ lv k => Xh (v := .slice (mAt ms (q.run - 1).toNat).sa (mAt ms (q.run - 1).toNat).t.slots.length (mAt ms (q.run - 1).toNat).sc) Jd Z ((G.blk.grown0 lv).cell Z) Z k) (yl Z (fun _ _ k => Xc (o' := 3) Vo Z Z Z k) (yl Z (fun _ lw k => Xh (v := vi q.b) X1 Z ((ao.grown0 lw).cell Z) Z k) (yl Z (fun _ _ k => X3 J9 Z Z e0 (Nat.zero_add _) (by omega) (by omega) Z k) (yl Z (fun _ ly k => Xr (vs := [vi (rAt (mAt ms (q.run - 1).toNat).t.slots (q.b).toNat).th, vi (rAt (mAt ms (q.run - 1).toNat).t.slots (q.b).toNat).ve, vb (rAt (mAt ms (q.run - 1).toNat).t.slots (q.b).toNat).rd, vb (rAt (mAt ms (q.run - 1).toNat).t.slots (q.b).toNat).wr, vb (rAt (mAt ms (q.run - 1).toNat).t.slots (q.b).toNat).wk]) Y0 Z Z (Y2 (Own.range Qx (eu.grown0 ly) (xr (mAt ms (q.run - 1).toNat).t.slots (q.b).toNat)) 0 5 Z) Z k) ?_))))))))))
 exact Y8
 intro tt cg
 refine X3 J9 Z Z dw (Nat.zero_add _) (by omega) (by omega) Z ?_
 have gm := (ew.grown0 cg)
 refine Qy (g := Rt.cells) (z' := (rAt (mAt ms (q.run - 1).toNat).t.slots (q.b).toNat)) Y0 Z Z (Vf _) Qx gm (by omega) Z ?_
 intro tu k8 cv
 have gp := Vt (i := (r.th - 1).toNat) (j := (q.n % 4).toNat) (x := (rAt (mAt ms (q.run - 1).toNat).t.slots (q.b).toNat)) ((gl.grown0 cg).gn cv) (by omega)
 refine Xb (Y3 (Xu (Xa (Xd (v := .slice (pa B) ms.length cap) Z Z (Xc (o' := 0) Yo Z Z Z (Xh (v := vi r.th) X1 Z (((((bf.grown0 E.grw).gn G.grw).grown0 cg).gn cv).cell Z) Z (Yr (c := r.th - 1) Z Z (by omega) (by omega) (by omega) Z (Xr (vs := [vi (mAt ms (r.th - 1).toNat).t.kind, vi (mAt ms (r.th - 1).toNat).t.lab.s, vi (mAt ms (r.th - 1).toNat).t.lab.v, vi (mAt ms (r.th - 1).toNat).t.ve, vi (mAt ms (r.th - 1).toNat).t.num, .slice (mAt ms (r.th - 1).toNat).sa (mAt ms (r.th - 1).toNat).t.slots.length (mAt ms (r.th - 1).toNat).sc, .slice (mAt ms (r.th - 1).toNat).qa (mAt ms (r.th - 1).toNat).t.queue.length (mAt ms (r.th - 1).toNat).qc, vi (mAt ms (r.th - 1).toNat).t.to]) Ys Z Z (((((V.blk.grown0 E.grw).gn G.grw).grown0 cg).gn cv).rangeL 0 8 Z) Z (X4 (o' := (r.th - 1).toNat * 8) Qc Z Z (by omega) (by omega) (by omega) Z (Qy (g := MTh.cells) (z' := putS (mAt ms (r.th - 1).toNat) (q.n % 4).toNat (rAt (mAt ms (q.run - 1).toNat).t.slots (q.b).toNat)) Ys Z (congrArg (fun l : List Value => Value.agg l.toArray) H4.symm) (Ke _) Yj gp (by (simp only [List.length_set, Yb]; omega)) Z ?_))))))))))
 intro tv k9 ga
 have kn := k9
 rw [Su] at kn
 refine Xb (Xa (Xd (v := vi 0) Z Z (Xe (v := vi 0) Z Z (Xb (Xt ?_)))))
 have hf : far (tabT ms) q r = (tabT (putT ms (r.th - 1).toNat (q.n % 4).toNat (rAt (mAt ms (q.run - 1).toNat).t.slots (q.b).toNat)), 0) := Z1 d1 rfl
 exact ⟨vi 0, Yt Z Z, putT ms (r.th - 1).toNat (q.n % 4).toNat (rAt (mAt ms (q.run - 1).toNat).t.slots (q.b).toNat), by rw [hf], by first | rfl | exact Yb | (simp only [List.length_set, Yb]), kn, (RowsO.own (RowsO.put (RowsO.low dq cg) (lq (r.th - 1).toNat ms.length) dw j3 gm Z k8 cv (by decide)) ga gp (by decide) (by decide)), by rw [hf], (KeepsI.own (KeepsI.own (KeepsI.low ac cg) cv gm (by decide) (by omega) (by omega)) ga gp (by decide) (by omega) (by omega))⟩
 have sk := of_decide_eq_false d1
 refine Xa (X6 (q := decide (q.kind = 6)) Z Z Z Z (Xe (v := vb (decide (q.kind = 6))) Z Z (Xb (X0 Z (fun d2 => ?_) (fun d2 => ?_)))))
 have sm := of_decide_eq_true d2
 refine Xq (Xa (Xc (o' := 6) Qq Z Z Z ?_))
 have d5 := ((V.blk.grown0 E.grw).gn G.grw)
 refine Xh (v := .slice (mAt ms (r.th - 1).toNat).qa (mAt ms (r.th - 1).toNat).t.queue.length (mAt ms (r.th - 1).toNat).qc) Ju Z (d5.cell Z) Z (Y1 (by kernel_rfl) Z Z (V0 (q := decide (3 ≤ ((mAt ms (r.th - 1).toNat).t.queue.length : Int))) Z Z Z Z (Xb (X0 Z (fun fj => ?_) (fun fj => ?_)))))
 have sn := of_decide_eq_true fj
 refine Xa (Xe (v := vi (-4)) Z Z (Xb (Xt (Yk (Qn (Yk ?_))))))
 have hf : far (tabT ms) q r = (tabT (ms), (-4)) := M7 d2 (by omega)
 exact ⟨vi (-4), Yt Z Z, ms, by rw [hf], by first | rfl | exact Yb | (simp only [List.length_set, Yb]), ((ar.grown0 E.grw).gn G.grw), (RowsO.typB (RowsO.low (RowsO.typB (RowsO.low (RowsO.low (RowsO.low hR ae.grw) ab.grw) O.grw) V.grw O.blk (by decide) (by decide)) E.grw) G.grw E.blk (by decide) (by decide)), by rw [hf], ac⟩
 have so := of_decide_eq_false fj
 refine Xz (Xu (Qv (m := 7) [[], [], [1], [0, 1, 2], [], [4], [4, 5], [0, 1, 2, 3, 4, 5, 6], [0, 1, 2, 3, 4, 5, 6, 7], [0, 1, 2, 3, 4, 5, 6, 7, 8]] (fun S F w' => ∃ (af : Nat) (aw : Option Addr) (ad : Nat) (ah : Nat), ff.grownBy w' none ∧ F 0 = .slice (pa B) ms.length cap ∧ F 4 = pt dm 0 ∧ F 5 = pt fg 0 ∧ F 6 = vi 0 ∧ F 7 = pt d0 0 ∧ F 9 = vi 0 ∧ (S 0 = true → F 75 = .slice (pa af) 0 0 ∧ w.heap.size ≤ af ∧ (S 3 = false → Blk w' af 3 (([] : List Int).flatMap icell).toArray) ∧ B < af ∧ dm < af ∧ fg < af ∧ d0 < af ∧ fh < af ∧ ff.heap.size ≤ af ∧ af < w'.heap.size) ∧ (S 3 = true → F 78 = .slice aw (mAt ms (r.th - 1).toNat).t.queue.length ad ∧ OwnN w.heap.size w' aw 3 1 ad (mAt ms (r.th - 1).toNat).t.queue.length ((mAt ms (r.th - 1).toNat).t.queue.flatMap icell)) ∧ (S 6 = true → F 81 = .slice (pa ah) 1 1 ∧ w.heap.size ≤ ah ∧ Blk w' ah 3 (([q.n] : List Int).flatMap icell).toArray ∧ B < ah ∧ dm < ah ∧ fg < ah ∧ d0 < ah ∧ fh < ah ∧ ff.heap.size ≤ ah) ∧ Vals S F [(1, 76, pt d0 6), (2, 77, .slice (mAt ms (r.th - 1).toNat).qa (mAt ms (r.th - 1).toNat).t.queue.length (mAt ms (r.th - 1).toNat).qc), (4, 79, pt dm 4), (5, 80, vi q.n)] ∧ (S 0 = true → S 6 = true → af ≠ ah)) Yz (by kernel_rfl) ⟨0, none, 0, 0, X8 _, Z, Z, Z, Z, Z, Z, Ym, Ym, Ym, J2 _, Ym⟩ ?_ ?_))
 refine Xi (fun S F tw hS hbef hcl hI => ?_) ?_
 obtain ⟨af, aw, ad, ah, bi, mt, mu, mv, mw, my, mz, bp, cn, bz, hvs, J⟩ := hI
 refine X7 (ps := []) (e := 3) (cs := (([] : List Int).flatMap icell).toArray) X5 (fun _ => by kernel_rfl) Z ?_
 intro mn tx au
 have j5 := K8 au (KeepsI.low ac bi)
 have eg := Xo au ((((ar.grown0 E.grw).gn G.grw).grown0 bi)).lt
 have c9 := Xo au ((ao.grown0 bi)).lt
 have dc := Xo au ((((bf.grown0 E.grw).gn G.grw).grown0 bi)).lt
 have dg := Xo au ((d5.grown0 bi)).lt
 have dk := Xo au ((G.blk.grown0 bi)).lt
 exact Xb ⟨mn, aw, ad, ah, (low0 bi au.grw), mt, mu, mv, mw, my, mz, fun _ => ⟨Z, j5, fun _ => au.blk, eg, c9, dc, dg, dk, (nt bi.size (Nat.le_of_eq au.eq.symm)), (au.blk).lt⟩, Xv 3 hS hcl Z, fun h => let ⟨o9, pb, pc, pd, pe, pf, pg, ph, pi⟩ := bz h; ⟨o9, pb, (pc).grown0 au.grw, pd, pe, pf, pg, ph, pi⟩, Vals.keep hvs Z, fun _ h => let ⟨ut, uu, pj, uv, uw, ux, uy, uz, u0⟩ := bz h; Nat.ne_of_gt (nl (pj).lt (Nat.le_of_eq au.eq.symm))⟩
 refine Xi (fun S F tz hS hbef hcl hI => ?_) ?_
 obtain ⟨af, aw, ad, ah, lz, m4, m5, m6, m7, kc, m8, bp, cn, bz, hvs, J⟩ := hI
 exact Xc (o' := 6) Qq kc Z Z (Xb ⟨af, aw, ad, ah, lz, m4, m5, m6, m7, kc, m8, bp, Xv 3 hS hcl Z, bz, Vals.up 0 hvs Z Z Z, J⟩)
 refine Xi (fun S F t0 hS hbef hcl hI => ?_) ?_
 obtain ⟨af, aw, ad, ah, gc, m9, na, nb, nc, nd, ne, bp, cn, bz, hvs, J⟩ := hI
 exact Xh (v := .slice (mAt ms (r.th - 1).toNat).qa (mAt ms (r.th - 1).toNat).t.queue.length (mAt ms (r.th - 1).toNat).qc) Ju (Vals.at 0 hvs Z (Xl 1 hbef Z)) ((d5.grown0 gc).cell Z) Z (Xb ⟨af, aw, ad, ah, gc, m9, na, nb, nc, nd, ne, bp, Xv 3 hS hcl Z, bz, Vals.up 1 hvs Z Z Z, J⟩)
 refine Xi (fun S F ox hS hbef hcl hI => ?_) ?_
 obtain ⟨af, aw, ad, ah, ee, nf, ng, nh, ni, nj, nk, bp, cn, bz, hvs, J⟩ := hI
 obtain ⟨nn, fa, d6, ef, c8, db, df, di, gg, gh⟩ := bp (Xl 0 hbef rfl)
 have eo := (RowsO.low (RowsO.typB (RowsO.low (RowsO.typB (RowsO.low (RowsO.low (RowsO.low hR ae.grw) ab.grw) O.grw) V.grw O.blk (by decide) (by decide)) E.grw) G.grw E.blk (by decide) (by decide)) ee)
 refine Jg (g := icell) (ys := ([])) (zs := (mAt ms (r.th - 1).toNat).t.queue) (lo := w.heap.size) Vs Z Yq (by omega) Jz nn (Vals.at 1 hvs Z (Xl 2 hbef Z)) (OwnN.of (Own.rows Yq (d6 hS) (by simp)) fa) (RowO.th (RowsO.at eo (lq (r.th - 1).toNat ms.length))).2.1 (RowO.th (RowsO.at eo (lq (r.th - 1).toNat ms.length))).2.2.2 (by first | omega | exact Nat.le_of_ble_eq_true rfl | (simp only [List.length_nil, List.length_cons, List.length_append, List.length_replicate]; omega) | (simp only [List.length_drop, List.length_nil]; omega)) (by omega) (KeepsI.low ac ee).size Z ?_
 intro mr jq oy lc ll rj
 have ea : World.grownBy ox oy (some af) := ll
 exact Xb ⟨af, mr, jq, ah, (low1 ee ea (by omega)), nf, ng, nh, ni, nj, nk, fun h => let ⟨pk, pl, u1, pm, pn, po, pp, pq, pr, pu⟩ := bp h; ⟨pk, pl, fun h => Jq h, pm, pn, po, pp, pq, pr, (nl pu ea.size)⟩, fun _ => ⟨Z, lc⟩, fun h => let ⟨pv, pw, px, py, pz, p0, p8, p9, qb⟩ := bz h; ⟨pv, pw, (px).grown ea (Jj (J (Xl 0 hbef Z) h).symm), py, pz, p0, p8, p9, qb⟩, Vals.keep hvs Z, J⟩
 refine Xi (fun S F t4 hS hbef hcl hI => ?_) ?_
 obtain ⟨af, aw, ad, ah, l0, no, ke, np, nq, nr, nu, bp, cn, bz, hvs, J⟩ := hI
 exact Xc (o' := 4) Js ke Z Z (Xb ⟨af, aw, ad, ah, l0, no, ke, np, nq, nr, nu, bp, cn, Xv 6 hS hcl Z, Vals.up 2 hvs Z Z Z, J⟩)
 refine Xi (fun S F t5 hS hbef hcl hI => ?_) ?_
 obtain ⟨af, aw, ad, ah, gf, nv, nw, nx, ny, n5, n7, bp, cn, bz, hvs, J⟩ := hI
 exact Xh (v := vi q.n) X1 (Vals.at 2 hvs Z (Xl 4 hbef Z)) ((ao.grown0 gf).cell Z) Z (Xb ⟨af, aw, ad, ah, gf, nv, nw, nx, ny, n5, n7, bp, cn, Xv 6 hS hcl Z, Vals.up 3 hvs Z Z Z, J⟩)
 refine Xi (fun S F t6 hS hbef hcl hI => ?_) ?_
 obtain ⟨af, aw, ad, ah, bj, n9, oa, ob, oc, od, oe, bp, cn, bz, hvs, J⟩ := hI
 refine X7 (ps := [(0, vi q.n)]) (e := 3) (cs := (([q.n] : List Int).flatMap icell).toArray) (Xk (Vals.at 3 hvs Z (Xl 5 hbef Z)) X5) (fun _ => by kernel_rfl) Z ?_
 intro mo t7 ap
 have j6 := K8 ap (KeepsI.low ac bj)
 have eh := Xo ap ((((ar.grown0 E.grw).gn G.grw).grown0 bj)).lt
 have da := Xo ap ((ao.grown0 bj)).lt
 have de := Xo ap ((((bf.grown0 E.grw).gn G.grw).grown0 bj)).lt
 have dh := Xo ap ((d5.grown0 bj)).lt
 have dl := Xo ap ((G.blk.grown0 bj)).lt
 exact Xb ⟨af, aw, ad, mo, (low0 bj ap.grw), n9, oa, ob, oc, od, oe, fun h => let ⟨qd, qe, qf, qg, qh, qi, qj, qk, qm, qn⟩ := bp h; ⟨qd, qe, fun hn => (qf hn).grown0 ap.grw, qg, qh, qi, qj, qk, qm, (nl qn ap.grw.size)⟩, fun h => let ⟨qo, qp⟩ := cn h; ⟨qo, (qp).grown0 ap.grw⟩, fun _ => ⟨Z, j6, ap.blk, eh, da, de, dh, dl, (nt bj.size (Nat.le_of_eq ap.eq.symm))⟩, Vals.keep hvs Z, fun h _ => let ⟨u2, u3, u4, u5, u6, u7, u9, va, vc, qq⟩ := bp h; Nat.ne_of_lt (nl (qq) (Nat.le_of_eq ap.eq.symm))⟩
 exact Jb
 intro S F t8 hall hI
 obtain ⟨af, aw, ad, ah, cz, og, r7, oh, r8, kf, ol, bp, cn, bz, hvs, J⟩ := hI
 have fx := KeepsI.low ac cz
 obtain ⟨r9, fa, d6, ef, c8, db, df, di, gg, gh⟩ := bp (hall 0 (by decide))
 obtain ⟨om, la⟩ := cn (hall 3 (by decide))
 obtain ⟨oo, rg, g5, mb, ia, ip, i0, i9, ov⟩ := bz (hall 6 (by decide))
 have jm := J (hall 0 (by decide)) (hall 6 (by decide))
 have ca := la
 refine Jg (g := icell) (ys := (mAt ms (r.th - 1).toNat).t.queue) (zs := ([q.n] : List Int)) (lo := w.heap.size) Vs Z Yq (by omega) Jz om oo ca (Jo Yq g5) (fun h => by cases h) (by first | omega | exact Nat.le_of_ble_eq_true rfl | (simp only [List.length_nil, List.length_cons, List.length_append, List.length_replicate]; omega)) (by omega) (by first | exact fx.size | omega) Z ?_
 intro cl bb t9 ld cw rk
 refine Xc (o' := 6) Qq kf Z Z ?_
 have gq := (Blk.typN (d5.grown0 cz) ca cw (by decide))
 refine Yc (v := .slice cl ((mAt ms (r.th - 1).toNat).t.queue ++ ([q.n] : List Int)).length bb) (cs' := #[vi (mAt ms (r.th - 1).toNat).t.kind, vi (mAt ms (r.th - 1).toNat).t.lab.s, vi (mAt ms (r.th - 1).toNat).t.lab.v, vi (mAt ms (r.th - 1).toNat).t.ve, vi (mAt ms (r.th - 1).toNat).t.num, .slice (mAt ms (r.th - 1).toNat).sa (mAt ms (r.th - 1).toNat).t.slots.length (mAt ms (r.th - 1).toNat).sc, .slice cl ((mAt ms (r.th - 1).toNat).t.queue ++ ([q.n] : List Int)).length bb, vi (mAt ms (r.th - 1).toNat).t.to]) Ju Z Z Z gq (Nat.le_of_ble_eq_true Z) Z ?_
 intro ua cd
 refine Xb (Y3 (Xu (Xa (Xd (v := .slice (pa B) ms.length cap) og Z (Xc (o' := 0) Yo oh Z Z (Xh (v := vi r.th) X1 Z (((Blk.typN (((bf.grown0 E.grw).gn G.grw).grown0 cz) ca cw (by decide)).gn cd.grw).cell Z) Z (Yr (c := r.th - 1) Z Z (by omega) (by omega) (by omega) Z (Xr (vs := [vi (mAt ms (r.th - 1).toNat).t.kind, vi (mAt ms (r.th - 1).toNat).t.lab.s, vi (mAt ms (r.th - 1).toNat).t.lab.v, vi (mAt ms (r.th - 1).toNat).t.ve, vi (mAt ms (r.th - 1).toNat).t.num, .slice (mAt ms (r.th - 1).toNat).sa (mAt ms (r.th - 1).toNat).t.slots.length (mAt ms (r.th - 1).toNat).sc, .slice cl ((mAt ms (r.th - 1).toNat).t.queue ++ ([q.n] : List Int)).length bb, vi (mAt ms (r.th - 1).toNat).t.to]) Ys kf Z (cd.blk.rangeL 0 8 Z) Z (X4 (o' := (r.th - 1).toNat * 8) Qc Z Z (by omega) (by omega) (by omega) Z ?_)))))))))
 have fc := ((Own.typN (((ar.grown0 E.grw).gn G.grw).grown0 cz) ca cw (by decide)).gn cd.grw)
 refine Qy (g := MTh.cells) (z' := (⟨⟨(mAt ms (r.th - 1).toNat).t.kind, (mAt ms (r.th - 1).toNat).t.lab, (mAt ms (r.th - 1).toNat).t.ve, (mAt ms (r.th - 1).toNat).t.num, (mAt ms (r.th - 1).toNat).t.slots, (mAt ms (r.th - 1).toNat).t.queue ++ ([q.n] : List Int), (mAt ms (r.th - 1).toNat).t.to⟩, (mAt ms (r.th - 1).toNat).sa, (mAt ms (r.th - 1).toNat).sc, cl, bb⟩ : MTh)) Ys Z Z (Ke _) Yj fc (by omega) Z ?_
 intro oz le eb
 have js : RowsO 33 3 lo oz (ms.set (r.th - 1).toNat (⟨⟨(mAt ms (r.th - 1).toNat).t.kind, (mAt ms (r.th - 1).toNat).t.lab, (mAt ms (r.th - 1).toNat).t.ve, (mAt ms (r.th - 1).toNat).t.num, (mAt ms (r.th - 1).toNat).t.slots, (mAt ms (r.th - 1).toNat).t.queue ++ ([q.n] : List Int), (mAt ms (r.th - 1).toNat).t.to⟩, (mAt ms (r.th - 1).toNat).sa, (mAt ms (r.th - 1).toNat).sc, cl, bb⟩ : MTh)) := RowsO.setq (RowsO.own (RowsO.typB (RowsO.newN (RowsO.low (RowsO.typB (RowsO.low (RowsO.typB (RowsO.low (RowsO.low (RowsO.low hR ae.grw) ab.grw) O.grw) V.grw O.blk (by decide) (by decide)) E.grw) G.grw E.blk (by decide) (by decide)) cz) ca cw hH (by omega)) cd.grw gq (by decide) (by decide)) eb fc (by decide) (by decide)) (lq (r.th - 1).toNat ms.length) (OwnN.mono (OwnN.typ (OwnN.typB ld cd.grw gq (by decide)) eb fc (by decide)) hlow) ⟨rfl, rfl, rfl⟩
 refine Xb (Xa (Xd (v := vi 0) ol Z (Xe (v := vi 0) Z Z (Xb (Xt ?_)))))
 have hf : far (tabT ms) q r = (tabT (ms.set (r.th - 1).toNat (⟨⟨(mAt ms (r.th - 1).toNat).t.kind, (mAt ms (r.th - 1).toNat).t.lab, (mAt ms (r.th - 1).toNat).t.ve, (mAt ms (r.th - 1).toNat).t.num, (mAt ms (r.th - 1).toNat).t.slots, (mAt ms (r.th - 1).toNat).t.queue ++ ([q.n] : List Int), (mAt ms (r.th - 1).toNat).t.to⟩, (mAt ms (r.th - 1).toNat).sa, (mAt ms (r.th - 1).toNat).sc, cl, bb⟩ : MTh)), 0) := Tb d2 (by omega) rfl
 exact ⟨vi 0, Yt Z Z, ms.set (r.th - 1).toNat (⟨⟨(mAt ms (r.th - 1).toNat).t.kind, (mAt ms (r.th - 1).toNat).t.lab, (mAt ms (r.th - 1).toNat).t.ve, (mAt ms (r.th - 1).toNat).t.num, (mAt ms (r.th - 1).toNat).t.slots, (mAt ms (r.th - 1).toNat).t.queue ++ ([q.n] : List Int), (mAt ms (r.th - 1).toNat).t.to⟩, (mAt ms (r.th - 1).toNat).sa, (mAt ms (r.th - 1).toNat).sc, cl, bb⟩ : MTh), by rw [hf], by first | rfl | exact Yb | (simp only [List.length_set, Yb]), le, js, by rw [hf], (KeepsI.own (KeepsI.new (KeepsI.newN fx ca cw (by omega)) cd.grw (by omega)) eb fc (by decide) (by omega) (by omega))⟩
 have sp := of_decide_eq_false d2
 refine Xa (X6 (q := decide (q.kind = 7)) Z Z Z Z (Xe (v := vb (decide (q.kind = 7))) Z Z (Xb (X0 Z (fun d3 => ?_) (fun d3 => ?_)))))
 have sq := of_decide_eq_true d3
 refine Xq (Xa (Xc (o' := 6) Qq Z Z Z ?_))
 have fd := ((V.blk.grown0 E.grw).gn G.grw)
 refine Xh (v := .slice (mAt ms (r.th - 1).toNat).qa (mAt ms (r.th - 1).toNat).t.queue.length (mAt ms (r.th - 1).toNat).qc) Ju Z (fd.cell Z) Z (Y1 (by kernel_rfl) Z Z (X6 (q := decide (((mAt ms (r.th - 1).toNat).t.queue.length : Int) = 0)) Z Z Z Z (Xb (X0 Z (fun fk => ?_) (fun fk => ?_)))))
 have sr := of_decide_eq_true fk
 refine Xa (Xe (v := vi (-4)) Z Z (Xb (Xt (Yk (Qn (Yk ?_))))))
 have hf : far (tabT ms) q r = (tabT (ms), (-4)) := M8 d3 (by omega)
 exact ⟨vi (-4), Yt Z Z, ms, by rw [hf], by first | rfl | exact Yb | (simp only [List.length_set, Yb]), ((ar.grown0 E.grw).gn G.grw), (RowsO.typB (RowsO.low (RowsO.typB (RowsO.low (RowsO.low (RowsO.low hR ae.grw) ab.grw) O.grw) V.grw O.blk (by decide) (by decide)) E.grw) G.grw E.blk (by decide) (by decide)), by rw [hf], ac⟩
 have su := of_decide_eq_false fk
 refine Xz (Xu (Xa (Xc (o' := 6) Qq Z Z Z (Xh (v := .slice (mAt ms (r.th - 1).toNat).qa (mAt ms (r.th - 1).toNat).t.queue.length (mAt ms (r.th - 1).toNat).qc) Ju Z (fd.cell Z) Z ?_))))
 have ep := (RowsO.typB (RowsO.low (RowsO.typB (RowsO.low (RowsO.low (RowsO.low hR ae.grw) ab.grw) O.grw) V.grw O.blk (by decide) (by decide)) E.grw) G.grw E.blk (by decide) (by decide))
 obtain ⟨r6, tc, s9, lk, l3, l4⟩ := SlAt.at (RowO.th (RowsO.at ep (lq (r.th - 1).toNat ms.length))).2.1 (Yp (Gm (lq 0 (mAt ms (r.th - 1).toNat).t.queue.length)))
 refine X3 J4 Z Z lk l3 (by omega) (by omega) Z (Xh (v := vi (iAt (mAt ms (r.th - 1).toNat).t.queue 0)) X1 Z (l4 0 _ Z) Z (Xe (v := vi (iAt (mAt ms (r.th - 1).toNat).t.queue 0)) Z Z (Xb (X2 (X7 (ps := []) (e := 3) (cs := (([] : List Int).flatMap icell).toArray) X5 (fun _ => by kernel_rfl) Z ?_)))))
 intro mp o0 av
 have j7 := K8 av ac
 have ko := ((ar.grown0 E.grw).gn G.grw)
 have mc := Xo av (ko).lt
 have ib := Xo av (ao).lt
 have kp := ((bf.grown0 E.grw).gn G.grw)
 have iq := Xo av (kp).lt
 have i1 := Xo av (fd).lt
 have ja := Xo av (G.blk).lt
 have fy := KeepsI.low ac av.grw
 refine Xc (o' := 6) Qq Z Z Z ?_
 have kq := (fd.grown0 av.grw)
 refine Xh (v := .slice (mAt ms (r.th - 1).toNat).qa (mAt ms (r.th - 1).toNat).t.queue.length (mAt ms (r.th - 1).toNat).qc) Ju Z (kq.cell Z) Z ?_
 have dr := (RowsO.low ep av.grw)
 refine On (g := icell) (xs := (mAt ms (r.th - 1).toNat).t.queue) (e := 3) (sz := 1) (by kernel_rfl) (by kernel_rfl) Z Z Z (by omega) (Zh (RowsO.at dr (lq (r.th - 1).toNat ms.length)).q) (RowO.th (RowsO.at dr (lq (r.th - 1).toNat ms.length))).2.1 Z ?_
 intro r5 l5
 refine Jg (g := icell) (ys := ([])) (zs := ((mAt ms (r.th - 1).toNat).t.queue.drop 1)) (lo := w.heap.size) Vs Z Yq (by omega) Jz Z Z (OwnN.of (Own.rows Yq av.blk (by simp)) j7) (SlAt.low l5 (World.grownBy.refl _ _)) (fun h => by cases h) (by first | omega | exact Nat.le_of_ble_eq_true rfl | (simp only [List.length_nil, List.length_cons, List.length_append, List.length_replicate]; omega) | (simp only [List.length_drop, List.length_nil]; omega)) (by omega) fy.size Z ?_
 intro cm bc o1 lf lm rl
 have cy : World.grownBy o0 o1 (some mp) := lm
 refine Xc (o' := 6) Qq Z Z Z ?_
 have gr := (kq.gn cy)
 refine Yc (v := .slice cm ((mAt ms (r.th - 1).toNat).t.queue.drop 1).length bc) (cs' := #[vi (mAt ms (r.th - 1).toNat).t.kind, vi (mAt ms (r.th - 1).toNat).t.lab.s, vi (mAt ms (r.th - 1).toNat).t.lab.v, vi (mAt ms (r.th - 1).toNat).t.ve, vi (mAt ms (r.th - 1).toNat).t.num, .slice (mAt ms (r.th - 1).toNat).sa (mAt ms (r.th - 1).toNat).t.slots.length (mAt ms (r.th - 1).toNat).sc, .slice cm ((mAt ms (r.th - 1).toNat).t.queue.drop 1).length bc, vi (mAt ms (r.th - 1).toNat).t.to]) Ju Z Z Z gr (Nat.le_of_ble_eq_true Z) Z ?_
 intro uc ce
 refine Xb (Y3 (Xu (Xa (Xd (v := .slice (pa B) ms.length cap) Z Z (Xc (o' := 0) Yo Z Z Z (Xh (v := vi r.th) X1 Z ((((kp.grown0 av.grw).gn cy).gn ce.grw).cell Z) Z (Yr (c := r.th - 1) Z Z (by omega) (by omega) (by omega) Z (Xr (vs := [vi (mAt ms (r.th - 1).toNat).t.kind, vi (mAt ms (r.th - 1).toNat).t.lab.s, vi (mAt ms (r.th - 1).toNat).t.lab.v, vi (mAt ms (r.th - 1).toNat).t.ve, vi (mAt ms (r.th - 1).toNat).t.num, .slice (mAt ms (r.th - 1).toNat).sa (mAt ms (r.th - 1).toNat).t.slots.length (mAt ms (r.th - 1).toNat).sc, .slice cm ((mAt ms (r.th - 1).toNat).t.queue.drop 1).length bc, vi (mAt ms (r.th - 1).toNat).t.to]) Ys Z Z (ce.blk.rangeL 0 8 Z) Z (X4 (o' := (r.th - 1).toNat * 8) Qc Z Z (by omega) (by omega) (by omega) Z ?_)))))))))
 have fe := (((ko.grown0 av.grw).gn cy).gn ce.grw)
 refine Qy (g := MTh.cells) (z' := (⟨⟨(mAt ms (r.th - 1).toNat).t.kind, (mAt ms (r.th - 1).toNat).t.lab, (mAt ms (r.th - 1).toNat).t.ve, (mAt ms (r.th - 1).toNat).t.num, (mAt ms (r.th - 1).toNat).t.slots, (mAt ms (r.th - 1).toNat).t.queue.drop 1, (mAt ms (r.th - 1).toNat).t.to⟩, (mAt ms (r.th - 1).toNat).sa, (mAt ms (r.th - 1).toNat).sc, cm, bc⟩ : MTh)) Ys Z Z (Ke _) Yj fe (by omega) Z ?_
 intro o3 lg ed
 have jt : RowsO 33 3 lo o3 (ms.set (r.th - 1).toNat (⟨⟨(mAt ms (r.th - 1).toNat).t.kind, (mAt ms (r.th - 1).toNat).t.lab, (mAt ms (r.th - 1).toNat).t.ve, (mAt ms (r.th - 1).toNat).t.num, (mAt ms (r.th - 1).toNat).t.slots, (mAt ms (r.th - 1).toNat).t.queue.drop 1, (mAt ms (r.th - 1).toNat).t.to⟩, (mAt ms (r.th - 1).toNat).sa, (mAt ms (r.th - 1).toNat).sc, cm, bc⟩ : MTh)) := RowsO.setq (RowsO.own (RowsO.typB (RowsO.ge dr cy hH (by omega)) ce.grw gr (by decide) (by decide)) ed fe (by decide) (by decide)) (lq (r.th - 1).toNat ms.length) (OwnN.mono (OwnN.typ (OwnN.typB lf ce.grw gr (by decide)) ed fe (by decide)) hlow) ⟨rfl, rfl, rfl⟩
 refine Xb (Xa (Xd (v := vi (iAt (mAt ms (r.th - 1).toNat).t.queue 0)) Z Z (Xe (v := vi (iAt (mAt ms (r.th - 1).toNat).t.queue 0)) Z Z (Xb (Xt ?_)))))
 have hf : far (tabT ms) q r = (tabT (ms.set (r.th - 1).toNat (⟨⟨(mAt ms (r.th - 1).toNat).t.kind, (mAt ms (r.th - 1).toNat).t.lab, (mAt ms (r.th - 1).toNat).t.ve, (mAt ms (r.th - 1).toNat).t.num, (mAt ms (r.th - 1).toNat).t.slots, (mAt ms (r.th - 1).toNat).t.queue.drop 1, (mAt ms (r.th - 1).toNat).t.to⟩, (mAt ms (r.th - 1).toNat).sa, (mAt ms (r.th - 1).toNat).sc, cm, bc⟩ : MTh)), (iAt (mAt ms (r.th - 1).toNat).t.queue 0)) := Tc d3 (by omega) rfl
 exact ⟨vi (iAt (mAt ms (r.th - 1).toNat).t.queue 0), Yt Z Z, ms.set (r.th - 1).toNat (⟨⟨(mAt ms (r.th - 1).toNat).t.kind, (mAt ms (r.th - 1).toNat).t.lab, (mAt ms (r.th - 1).toNat).t.ve, (mAt ms (r.th - 1).toNat).t.num, (mAt ms (r.th - 1).toNat).t.slots, (mAt ms (r.th - 1).toNat).t.queue.drop 1, (mAt ms (r.th - 1).toNat).t.to⟩, (mAt ms (r.th - 1).toNat).sa, (mAt ms (r.th - 1).toNat).sc, cm, bc⟩ : MTh), by rw [hf], by first | rfl | exact Yb | (simp only [List.length_set, Yb]), lg, jt, by rw [hf], (KeepsI.own (KeepsI.new (KeepsI.new fy cy (by omega)) ce.grw (by omega)) ed fe (by decide) (by omega) (by omega))⟩
 have sv := of_decide_eq_false d3
 refine Xa (X6 (q := decide (q.kind = 8)) Z Z Z Z (Xe (v := vb (decide (q.kind = 8))) Z Z (Xb (X0 Z (fun co => ?_) (fun co => ?_)))))
 have rq := of_decide_eq_true co
 have j4 := Pd hrow (by omega)
 have sw := of_decide_eq_true co
 refine Xq (Xa (Xc (o' := 3) Qz Z Z Z ?_))
 have bq := ((V.blk.grown0 E.grw).gn G.grw)
 refine Xh (v := vi (mAt ms (r.th - 1).toNat).t.ve) X1 Z (bq.cell Z) Z (V0 (q := decide (5 ≤ (mAt ms (r.th - 1).toNat).t.ve)) Z Z Z Z (Xb (X0 Z (fun fm => ?_) (fun fm => ?_))))
 have sy := of_decide_eq_true fm
 refine Xa (Xe (v := vi (-4)) Z Z (Xb (Xt (Yk (Qn (Yk ?_))))))
 have hf : far (tabT ms) q r = (tabT (ms), (-4)) := Si co (by omega)
 exact ⟨vi (-4), Yt Z Z, ms, by rw [hf], by first | rfl | exact Yb | (simp only [List.length_set, Yb]), ((ar.grown0 E.grw).gn G.grw), (RowsO.typB (RowsO.low (RowsO.typB (RowsO.low (RowsO.low (RowsO.low hR ae.grw) ab.grw) O.grw) V.grw O.blk (by decide) (by decide)) E.grw) G.grw E.blk (by decide) (by decide)), by rw [hf], ac⟩
 have s0 := of_decide_eq_false fm
 refine Xz (Xu (Xa (Xc (o' := 0) Qd Z Z Z (Xh (v := vi (mAt ms (r.th - 1).toNat).t.kind) X1 Z (bq.cell Z) Z (Xc (o' := 1) Ki Z Z Z (Xr (vs := [vi (mAt ms (r.th - 1).toNat).t.lab.s, vi (mAt ms (r.th - 1).toNat).t.lab.v]) J6 Z Z (bq.rangeL 1 2 Z) Z (Xc (o' := 7) J5 Z Z Z (Xh (v := vi (mAt ms (r.th - 1).toNat).t.to) X1 Z (bq.cell Z) Z ?_))))))))
 rcases Yg ((decide ((mAt ms (r.th - 1).toNat).t.kind = 2)) || (decide ((mAt ms (r.th - 1).toNat).t.kind = 3))) with bx | bx
 have gt := ((ar.grown0 E.grw).gn G.grw)
 have gu := ((bf.grown0 E.grw).gn G.grw)
 have s1 : thingOk (⟨(mAt ms (r.th - 1).toNat).t.kind, (mAt ms (r.th - 1).toNat).t.lab, 0, 0, zeros4, [], (mAt ms (r.th - 1).toNat).t.to⟩ : Th) = true := (Ud bx).symm.trans j4
 refine Xn W6 (Xf Z (Xf Z (Xf Z Xm))) Z (Gw (mAt ms (r.th - 1).toNat).t.kind (mAt ms (r.th - 1).toNat).t.to (mAt ms (r.th - 1).toNat).t.lab bx j4 _) ?_
 rintro _ ud ⟨az, ak, a8, al, rfl, bk, fo, bl, fp, jo, bv⟩
 have fz := KeepsI.low ac bv
 have j8 := nt ac.size bk
 have me := nl (gt).lt bk
 have ic := nl (ao).lt bk
 have ir := nl (gu).lt bk
 have i2 := nl (bq).lt bk
 have jb := nl (G.blk).lt bk
 have j9 := nt ac.size bl
 have mf := nl (gt).lt bl
 have ie := nl (ao).lt bl
 have it := nl (gu).lt bl
 have i3 := nl (bq).lt bl
 have jc := nl (G.blk).lt bl
 refine Xd (v := .tuple #[.agg #[vi (mAt ms (r.th - 1).toNat).t.kind, vi (mAt ms (r.th - 1).toNat).t.lab.s, vi (mAt ms (r.th - 1).toNat).t.lab.v, vi 0, vi 0, .slice (pa az) 4 ak, .slice (pa a8) 0 al, vi (mAt ms (r.th - 1).toNat).t.to], vb true]) Z Z (Ye (v := .agg #[vi (mAt ms (r.th - 1).toNat).t.kind, vi (mAt ms (r.th - 1).toNat).t.lab.s, vi (mAt ms (r.th - 1).toNat).t.lab.v, vi 0, vi 0, .slice (pa az) 4 ak, .slice (pa a8) 0 al, vi (mAt ms (r.th - 1).toNat).t.to]) Z Z Z (Ye (v := vb true) Z Z Z (Yf (cs := #[vi 0, vi 0, vi 0, vi 0, vi 0, .slice none 0 0, .slice none 0 0, vi 0]) Ka Z Z ?_)))
 intro rx ue ai
 have rh := K8 ai fz
 have kr := (gt.grown0 bv)
 have mg := Xo ai (kr).lt
 have ig := Xo ai ((ao.grown0 bv)).lt
 have ks := (gu.grown0 bv)
 have iu := Xo ai (ks).lt
 have kt := (bq.grown0 bv)
 have i4 := Xo ai (kt).lt
 have jd := Xo ai ((G.blk.grown0 bv)).lt
 have ji := Xo ai (fp).lt
 have jh := Xo ai (fo).lt
 refine Xy (vs := [vi (mAt ms (r.th - 1).toNat).t.kind, vi (mAt ms (r.th - 1).toNat).t.lab.s, vi (mAt ms (r.th - 1).toNat).t.lab.v, vi 0, vi 0, .slice (pa az) 4 ak, .slice (pa a8) 0 al, vi (mAt ms (r.th - 1).toNat).t.to]) (cs' := #[vi (mAt ms (r.th - 1).toNat).t.kind, vi (mAt ms (r.th - 1).toNat).t.lab.s, vi (mAt ms (r.th - 1).toNat).t.lab.v, vi 0, vi 0, .slice (pa az) 4 ak, .slice (pa a8) 0 al, vi (mAt ms (r.th - 1).toNat).t.to]) Ys Z Z Z (by simp [Value.oneCell']) ai.blk (Nat.le_of_ble_eq_true Z) Z ?_
 intro uf bd
 refine Xe (v := vb true) Z Z (Xb (Xa (Xc (o' := 3) Qz Z Z Z ?_)))
 have ku := ((kt.grown0 ai.grw).gn bd.grw)
 refine Xh (v := vi (mAt ms (r.th - 1).toNat).t.ve) X1 Z (ku.cell Z) Z (Yl (c := (mAt ms (r.th - 1).toNat).t.ve + 1) Z Z (by omega) (by omega) (by omega) Z (Xc (o' := 3) Qz Z Z Z (Yc (v := vi ((mAt ms (r.th - 1).toNat).t.ve + 1)) (cs' := #[vi (mAt ms (r.th - 1).toNat).t.kind, vi (mAt ms (r.th - 1).toNat).t.lab.s, vi (mAt ms (r.th - 1).toNat).t.lab.v, vi ((mAt ms (r.th - 1).toNat).t.ve + 1), vi 0, .slice (pa az) 4 ak, .slice (pa a8) 0 al, vi (mAt ms (r.th - 1).toNat).t.to]) X1 Z Z Z bd.blk (Nat.le_of_ble_eq_true Z) Z ?_)))
 intro ug bg
 refine Xb (X2 (Xr (vs := [vi (mAt ms (r.th - 1).toNat).t.kind, vi (mAt ms (r.th - 1).toNat).t.lab.s, vi (mAt ms (r.th - 1).toNat).t.lab.v, vi ((mAt ms (r.th - 1).toNat).t.ve + 1), vi 0, .slice (pa az) 4 ak, .slice (pa a8) 0 al, vi (mAt ms (r.th - 1).toNat).t.to]) Ys Z Z (bg.blk.rangeL 0 8 Z) Z ?_))
 have kv := (ku.gn bg.grw)
 refine Xy (vs := [vi (mAt ms (r.th - 1).toNat).t.kind, vi (mAt ms (r.th - 1).toNat).t.lab.s, vi (mAt ms (r.th - 1).toNat).t.lab.v, vi ((mAt ms (r.th - 1).toNat).t.ve + 1), vi 0, .slice (pa az) 4 ak, .slice (pa a8) 0 al, vi (mAt ms (r.th - 1).toNat).t.to]) (cs' := #[vi (mAt ms (r.th - 1).toNat).t.kind, vi (mAt ms (r.th - 1).toNat).t.lab.s, vi (mAt ms (r.th - 1).toNat).t.lab.v, vi ((mAt ms (r.th - 1).toNat).t.ve + 1), vi 0, .slice (pa az) 4 ak, .slice (pa a8) 0 al, vi (mAt ms (r.th - 1).toNat).t.to]) Ys Z Z Z (by simp [Value.oneCell']) kv (Nat.le_of_ble_eq_true Z) Z ?_
 intro uh br
 refine Xb (Y3 (Xu (Xa (Xd (v := .slice (pa B) ms.length cap) Z Z (Xc (o' := 0) Yo Z Z Z (Xh (v := vi r.th) X1 Z (((((ks.grown0 ai.grw).gn bd.grw).gn bg.grw).gn br.grw).cell Z) Z (Yr (c := r.th - 1) Z Z (by omega) (by omega) (by omega) Z (Xr (vs := [vi (mAt ms (r.th - 1).toNat).t.kind, vi (mAt ms (r.th - 1).toNat).t.lab.s, vi (mAt ms (r.th - 1).toNat).t.lab.v, vi ((mAt ms (r.th - 1).toNat).t.ve + 1), vi 0, .slice (pa az) 4 ak, .slice (pa a8) 0 al, vi (mAt ms (r.th - 1).toNat).t.to]) Ys Z Z (br.blk.rangeL 0 8 Z) Z (X4 (o' := (r.th - 1).toNat * 8) Qc Z Z (by omega) (by omega) (by omega) Z ?_)))))))))
 have gv := ((((kr.grown0 ai.grw).gn bd.grw).gn bg.grw).gn br.grw)
 have ju := (RowsO.typB (RowsO.typB (RowsO.typB (RowsO.low (RowsO.low (RowsO.typB (RowsO.low (RowsO.typB (RowsO.low (RowsO.low (RowsO.low hR ae.grw) ab.grw) O.grw) V.grw O.blk (by decide) (by decide)) E.grw) G.grw E.blk (by decide) (by decide)) bv) ai.grw) bd.grw ai.blk (by decide) (by decide)) bg.grw bd.blk (by decide) (by decide)) br.grw kv (by decide) (by decide))
 refine Qy (g := MTh.cells) (z' := (⟨⟨(mAt ms (r.th - 1).toNat).t.kind, (mAt ms (r.th - 1).toNat).t.lab, (mAt ms (r.th - 1).toNat).t.ve + 1, 0, zeros4, [], (mAt ms (r.th - 1).toNat).t.to⟩, some ⟨az, 0, none⟩, ak, some ⟨a8, 0, none⟩, al⟩ : MTh)) Ys Z Z (Ke _) Yj gv (by omega) Z ?_
 intro o4 lh dx
 have jv : RowsO 33 3 lo o4 (ms.set (r.th - 1).toNat (⟨⟨(mAt ms (r.th - 1).toNat).t.kind, (mAt ms (r.th - 1).toNat).t.lab, (mAt ms (r.th - 1).toNat).t.ve + 1, 0, zeros4, [], (mAt ms (r.th - 1).toNat).t.to⟩, some ⟨az, 0, none⟩, ak, some ⟨a8, 0, none⟩, al⟩ : MTh)) := RowsO.setn (RowsO.own ju dx gv (by decide) (by decide)) (lq (r.th - 1).toNat ms.length) ⟨(OwnN.mono (OwnN.of (((((fo.grown0 ai.grw).gn bd.grw).gn bg.grw).gn br.grw).gn dx) j8) hlow), (OwnN.mono (OwnN.of (((((fp.grown0 ai.grw).gn bd.grw).gn bg.grw).gn br.grw).gn dx) j9) hlow)⟩ hH (fun S e => by first | (cases e; done) | (simp only [Option.some.injEq, Addr.mk.injEq, and_true, reduceCtorEq] at e; omega))
 refine Xb (Xa (Xd (v := vi 0) Z Z (Xe (v := vi 0) Z Z (Xb (Xt ?_)))))
 have hf : far (tabT ms) q r = (tabT (ms.set (r.th - 1).toNat (⟨⟨(mAt ms (r.th - 1).toNat).t.kind, (mAt ms (r.th - 1).toNat).t.lab, (mAt ms (r.th - 1).toNat).t.ve + 1, 0, zeros4, [], (mAt ms (r.th - 1).toNat).t.to⟩, some ⟨az, 0, none⟩, ak, some ⟨a8, 0, none⟩, al⟩ : MTh)), 0) := Td co (by omega) (Nf bx)
 exact ⟨vi 0, Yt Z Z, ms.set (r.th - 1).toNat (⟨⟨(mAt ms (r.th - 1).toNat).t.kind, (mAt ms (r.th - 1).toNat).t.lab, (mAt ms (r.th - 1).toNat).t.ve + 1, 0, zeros4, [], (mAt ms (r.th - 1).toNat).t.to⟩, some ⟨az, 0, none⟩, ak, some ⟨a8, 0, none⟩, al⟩ : MTh), by rw [hf], by first | rfl | exact Yb | (simp only [List.length_set, Yb]), lh, jv, by rw [hf], (KeepsI.own (KeepsI.new (KeepsI.new (KeepsI.new (KeepsI.low fz ai.grw) bd.grw (by omega)) bg.grw (by omega)) br.grw (by omega)) dx gv (by decide) (by omega) (by omega))⟩
 have oq := Kl bx
 have s3 := of_decide_eq_false oq
 have ot := Km bx
 have s4 := of_decide_eq_false ot
 have gw := ((ar.grown0 E.grw).gn G.grw)
 have gx := ((bf.grown0 E.grw).gn G.grw)
 have s5 : thingOk (⟨(mAt ms (r.th - 1).toNat).t.kind, (mAt ms (r.th - 1).toNat).t.lab, 0, 0, [], [], (mAt ms (r.th - 1).toNat).t.to⟩ : Th) = true := (K4 bx).symm.trans j4
 refine Xn W6 (Xf Z (Xf Z (Xf Z Xm))) Z (Kw (mAt ms (r.th - 1).toNat).t.kind (mAt ms (r.th - 1).toNat).t.to (mAt ms (r.th - 1).toNat).t.lab bx j4 _) ?_
 rintro _ uj ⟨a9, am, ba, an, rfl, bm, fq, bn, fr, jp, bw⟩
 have f8 := KeepsI.low ac bw
 have ka := nt ac.size bm
 have mh := nl (gw).lt bm
 have ii := nl (ao).lt bm
 have iv := nl (gx).lt bm
 have i5 := nl (bq).lt bm
 have je := nl (G.blk).lt bm
 have kb := nt ac.size bn
 have ml := nl (gw).lt bn
 have ij := nl (ao).lt bn
 have iw := nl (gx).lt bn
 have i6 := nl (bq).lt bn
 have jf := nl (G.blk).lt bn
 refine Xd (v := .tuple #[.agg #[vi (mAt ms (r.th - 1).toNat).t.kind, vi (mAt ms (r.th - 1).toNat).t.lab.s, vi (mAt ms (r.th - 1).toNat).t.lab.v, vi 0, vi 0, .slice (pa a9) 0 am, .slice (pa ba) 0 an, vi (mAt ms (r.th - 1).toNat).t.to], vb true]) Z Z (Ye (v := .agg #[vi (mAt ms (r.th - 1).toNat).t.kind, vi (mAt ms (r.th - 1).toNat).t.lab.s, vi (mAt ms (r.th - 1).toNat).t.lab.v, vi 0, vi 0, .slice (pa a9) 0 am, .slice (pa ba) 0 an, vi (mAt ms (r.th - 1).toNat).t.to]) Z Z Z (Ye (v := vb true) Z Z Z (Yf (cs := #[vi 0, vi 0, vi 0, vi 0, vi 0, .slice none 0 0, .slice none 0 0, vi 0]) Ka Z Z ?_)))
 intro ry uk aj
 have ri := K8 aj f8
 have kw := (gw.grown0 bw)
 have mm := Xo aj (kw).lt
 have ik := Xo aj ((ao.grown0 bw)).lt
 have kx := (gx.grown0 bw)
 have ix := Xo aj (kx).lt
 have ky := (bq.grown0 bw)
 have i7 := Xo aj (ky).lt
 have jg := Xo aj ((G.blk.grown0 bw)).lt
 have jk := Xo aj (fr).lt
 have jj := Xo aj (fq).lt
 refine Xy (vs := [vi (mAt ms (r.th - 1).toNat).t.kind, vi (mAt ms (r.th - 1).toNat).t.lab.s, vi (mAt ms (r.th - 1).toNat).t.lab.v, vi 0, vi 0, .slice (pa a9) 0 am, .slice (pa ba) 0 an, vi (mAt ms (r.th - 1).toNat).t.to]) (cs' := #[vi (mAt ms (r.th - 1).toNat).t.kind, vi (mAt ms (r.th - 1).toNat).t.lab.s, vi (mAt ms (r.th - 1).toNat).t.lab.v, vi 0, vi 0, .slice (pa a9) 0 am, .slice (pa ba) 0 an, vi (mAt ms (r.th - 1).toNat).t.to]) Ys Z Z Z (by simp [Value.oneCell']) aj.blk (Nat.le_of_ble_eq_true Z) Z ?_
 intro ul be
 refine Xe (v := vb true) Z Z (Xb (Xa (Xc (o' := 3) Qz Z Z Z ?_)))
 have kz := ((ky.grown0 aj.grw).gn be.grw)
 refine Xh (v := vi (mAt ms (r.th - 1).toNat).t.ve) X1 Z (kz.cell Z) Z (Yl (c := (mAt ms (r.th - 1).toNat).t.ve + 1) Z Z (by omega) (by omega) (by omega) Z (Xc (o' := 3) Qz Z Z Z (Yc (v := vi ((mAt ms (r.th - 1).toNat).t.ve + 1)) (cs' := #[vi (mAt ms (r.th - 1).toNat).t.kind, vi (mAt ms (r.th - 1).toNat).t.lab.s, vi (mAt ms (r.th - 1).toNat).t.lab.v, vi ((mAt ms (r.th - 1).toNat).t.ve + 1), vi 0, .slice (pa a9) 0 am, .slice (pa ba) 0 an, vi (mAt ms (r.th - 1).toNat).t.to]) X1 Z Z Z be.blk (Nat.le_of_ble_eq_true Z) Z ?_)))
 intro um bh
 refine Xb (X2 (Xr (vs := [vi (mAt ms (r.th - 1).toNat).t.kind, vi (mAt ms (r.th - 1).toNat).t.lab.s, vi (mAt ms (r.th - 1).toNat).t.lab.v, vi ((mAt ms (r.th - 1).toNat).t.ve + 1), vi 0, .slice (pa a9) 0 am, .slice (pa ba) 0 an, vi (mAt ms (r.th - 1).toNat).t.to]) Ys Z Z (bh.blk.rangeL 0 8 Z) Z ?_))
 have k0 := (kz.gn bh.grw)
 refine Xy (vs := [vi (mAt ms (r.th - 1).toNat).t.kind, vi (mAt ms (r.th - 1).toNat).t.lab.s, vi (mAt ms (r.th - 1).toNat).t.lab.v, vi ((mAt ms (r.th - 1).toNat).t.ve + 1), vi 0, .slice (pa a9) 0 am, .slice (pa ba) 0 an, vi (mAt ms (r.th - 1).toNat).t.to]) (cs' := #[vi (mAt ms (r.th - 1).toNat).t.kind, vi (mAt ms (r.th - 1).toNat).t.lab.s, vi (mAt ms (r.th - 1).toNat).t.lab.v, vi ((mAt ms (r.th - 1).toNat).t.ve + 1), vi 0, .slice (pa a9) 0 am, .slice (pa ba) 0 an, vi (mAt ms (r.th - 1).toNat).t.to]) Ys Z Z Z (by simp [Value.oneCell']) k0 (Nat.le_of_ble_eq_true Z) Z ?_
 intro un bt
 refine Xb (Y3 (Xu (Xa (Xd (v := .slice (pa B) ms.length cap) Z Z (Xc (o' := 0) Yo Z Z Z (Xh (v := vi r.th) X1 Z (((((kx.grown0 aj.grw).gn be.grw).gn bh.grw).gn bt.grw).cell Z) Z (Yr (c := r.th - 1) Z Z (by omega) (by omega) (by omega) Z (Xr (vs := [vi (mAt ms (r.th - 1).toNat).t.kind, vi (mAt ms (r.th - 1).toNat).t.lab.s, vi (mAt ms (r.th - 1).toNat).t.lab.v, vi ((mAt ms (r.th - 1).toNat).t.ve + 1), vi 0, .slice (pa a9) 0 am, .slice (pa ba) 0 an, vi (mAt ms (r.th - 1).toNat).t.to]) Ys Z Z (bt.blk.rangeL 0 8 Z) Z (X4 (o' := (r.th - 1).toNat * 8) Qc Z Z (by omega) (by omega) (by omega) Z ?_)))))))))
 have gy := ((((kw.grown0 aj.grw).gn be.grw).gn bh.grw).gn bt.grw)
 have jw := (RowsO.typB (RowsO.typB (RowsO.typB (RowsO.low (RowsO.low (RowsO.typB (RowsO.low (RowsO.typB (RowsO.low (RowsO.low (RowsO.low hR ae.grw) ab.grw) O.grw) V.grw O.blk (by decide) (by decide)) E.grw) G.grw E.blk (by decide) (by decide)) bw) aj.grw) be.grw aj.blk (by decide) (by decide)) bh.grw be.blk (by decide) (by decide)) bt.grw k0 (by decide) (by decide))
 refine Qy (g := MTh.cells) (z' := (⟨⟨(mAt ms (r.th - 1).toNat).t.kind, (mAt ms (r.th - 1).toNat).t.lab, (mAt ms (r.th - 1).toNat).t.ve + 1, 0, [], [], (mAt ms (r.th - 1).toNat).t.to⟩, some ⟨a9, 0, none⟩, am, some ⟨ba, 0, none⟩, an⟩ : MTh)) Ys Z Z (Ke _) Yj gy (by omega) Z ?_
 intro o5 li dy
 have jx : RowsO 33 3 lo o5 (ms.set (r.th - 1).toNat (⟨⟨(mAt ms (r.th - 1).toNat).t.kind, (mAt ms (r.th - 1).toNat).t.lab, (mAt ms (r.th - 1).toNat).t.ve + 1, 0, [], [], (mAt ms (r.th - 1).toNat).t.to⟩, some ⟨a9, 0, none⟩, am, some ⟨ba, 0, none⟩, an⟩ : MTh)) := RowsO.setn (RowsO.own jw dy gy (by decide) (by decide)) (lq (r.th - 1).toNat ms.length) ⟨(OwnN.mono (OwnN.of (((((fq.grown0 aj.grw).gn be.grw).gn bh.grw).gn bt.grw).gn dy) ka) hlow), (OwnN.mono (OwnN.of (((((fr.grown0 aj.grw).gn be.grw).gn bh.grw).gn bt.grw).gn dy) kb) hlow)⟩ hH (fun S e => by first | (cases e; done) | (simp only [Option.some.injEq, Addr.mk.injEq, and_true, reduceCtorEq] at e; omega))
 refine Xb (Xa (Xd (v := vi 0) Z Z (Xe (v := vi 0) Z Z (Xb (Xt ?_)))))
 have hf : far (tabT ms) q r = (tabT (ms.set (r.th - 1).toNat (⟨⟨(mAt ms (r.th - 1).toNat).t.kind, (mAt ms (r.th - 1).toNat).t.lab, (mAt ms (r.th - 1).toNat).t.ve + 1, 0, [], [], (mAt ms (r.th - 1).toNat).t.to⟩, some ⟨a9, 0, none⟩, am, some ⟨ba, 0, none⟩, an⟩ : MTh)), 0) := Td co (by omega) (Nd bx)
 exact ⟨vi 0, Yt Z Z, ms.set (r.th - 1).toNat (⟨⟨(mAt ms (r.th - 1).toNat).t.kind, (mAt ms (r.th - 1).toNat).t.lab, (mAt ms (r.th - 1).toNat).t.ve + 1, 0, [], [], (mAt ms (r.th - 1).toNat).t.to⟩, some ⟨a9, 0, none⟩, am, some ⟨ba, 0, none⟩, an⟩ : MTh), by rw [hf], by first | rfl | exact Yb | (simp only [List.length_set, Yb]), li, jx, by rw [hf], (KeepsI.own (KeepsI.new (KeepsI.new (KeepsI.new (KeepsI.low f8 aj.grw) be.grw (by omega)) bh.grw (by omega)) bt.grw (by omega)) dy gy (by decide) (by omega) (by omega))⟩
 have s6 := of_decide_eq_false co
 refine Xa (X6 (q := decide (q.kind = 9)) Z Z Z Z (Xe (v := vb (decide (q.kind = 9))) Z Z (Xb (X0 Z (fun d4 => ?_) (fun d4 => ?_)))))
 have rr := of_decide_eq_true d4
 have rn := Qe (W0 hT (by rw [Y5]; omega) (by rw [← Qk]; omega))
 rw [← Qk] at rn
 have s7 := of_decide_eq_true d4
 refine Xa (Xc (o' := 4) Qw Z Z Z ?_)
 have gz := ((V.blk.grown0 E.grw).gn G.grw)
 refine Xh (v := vi (mAt ms (r.th - 1).toNat).t.num) X1 Z (gz.cell Z) Z (Yl (c := (mAt ms (r.th - 1).toNat).t.num + 1) Z Z (by omega) (by omega) (by omega) Z (Pr (c := min ((mAt ms (r.th - 1).toNat).t.num + 1) 99) Z Z Z Z (Xc (o' := 4) Qw Z Z Z (Yc (v := vi (min ((mAt ms (r.th - 1).toNat).t.num + 1) 99)) (cs' := #[vi (mAt ms (r.th - 1).toNat).t.kind, vi (mAt ms (r.th - 1).toNat).t.lab.s, vi (mAt ms (r.th - 1).toNat).t.lab.v, vi (mAt ms (r.th - 1).toNat).t.ve, vi (min ((mAt ms (r.th - 1).toNat).t.num + 1) 99), .slice (mAt ms (r.th - 1).toNat).sa (mAt ms (r.th - 1).toNat).t.slots.length (mAt ms (r.th - 1).toNat).sc, .slice (mAt ms (r.th - 1).toNat).qa (mAt ms (r.th - 1).toNat).t.queue.length (mAt ms (r.th - 1).toNat).qc, vi (mAt ms (r.th - 1).toNat).t.to]) X1 Z Z Z gz (Nat.le_of_ble_eq_true Z) Z ?_))))
 intro uo bu
 refine Xb (X2 (Xd (v := .slice (pa B) ms.length cap) Z Z (Xc (o' := 7) J5 Z Z Z (Xh (v := vi (mAt ms (r.th - 1).toNat).t.to) X1 Z (bu.blk.cell Z) Z (Yr (c := (mAt ms (r.th - 1).toNat).t.to - 1) Z Z (by omega) (by omega) (by omega) Z (Xc (o' := 4) Js Z Z Z (Xh (v := vi q.n) X1 Z ((ao.gn bu.grw).cell Z) Z (Q9 (c := q.n % 2) Z Z (by omega) (by omega) (by omega) Z Z (X4 (o' := ((mAt ms (r.th - 1).toNat).t.to - 1).toNat * 8) Qc Z Z (by omega) (by omega) (by omega) Z (Xc (o' := ((mAt ms (r.th - 1).toNat).t.to - 1).toNat * 8 + 4) Qw Z Z Z ?_))))))))))
 have g0 := (((ar.grown0 E.grw).gn G.grw).gn bu.grw)
 refine Q7 (g := MTh.cells) (j := 4) (z := (mAt ms ((mAt ms (r.th - 1).toNat).t.to - 1).toNat)) (z' := (⟨⟨(mAt ms ((mAt ms (r.th - 1).toNat).t.to - 1).toNat).t.kind, (mAt ms ((mAt ms (r.th - 1).toNat).t.to - 1).toNat).t.lab, (mAt ms ((mAt ms (r.th - 1).toNat).t.to - 1).toNat).t.ve, q.n % 2, (mAt ms ((mAt ms (r.th - 1).toNat).t.to - 1).toNat).t.slots, (mAt ms ((mAt ms (r.th - 1).toNat).t.to - 1).toNat).t.queue, (mAt ms ((mAt ms (r.th - 1).toNat).t.to - 1).toNat).t.to⟩, (mAt ms ((mAt ms (r.th - 1).toNat).t.to - 1).toNat).sa, (mAt ms ((mAt ms (r.th - 1).toNat).t.to - 1).toNat).sc, (mAt ms ((mAt ms (r.th - 1).toNat).t.to - 1).toNat).qa, (mAt ms ((mAt ms (r.th - 1).toNat).t.to - 1).toNat).qc⟩ : MTh)) (v := vi (q.n % 2)) X1 Z Z Z Yj g0 (xg ms ((mAt ms (r.th - 1).toNat).t.to - 1).toNat) (by omega) Z Z ?_
 intro o6 d7 dz
 have jy : RowsO 33 3 lo o6 (ms.set ((mAt ms (r.th - 1).toNat).t.to - 1).toNat (⟨⟨(mAt ms ((mAt ms (r.th - 1).toNat).t.to - 1).toNat).t.kind, (mAt ms ((mAt ms (r.th - 1).toNat).t.to - 1).toNat).t.lab, (mAt ms ((mAt ms (r.th - 1).toNat).t.to - 1).toNat).t.ve, q.n % 2, (mAt ms ((mAt ms (r.th - 1).toNat).t.to - 1).toNat).t.slots, (mAt ms ((mAt ms (r.th - 1).toNat).t.to - 1).toNat).t.queue, (mAt ms ((mAt ms (r.th - 1).toNat).t.to - 1).toNat).t.to⟩, (mAt ms ((mAt ms (r.th - 1).toNat).t.to - 1).toNat).sa, (mAt ms ((mAt ms (r.th - 1).toNat).t.to - 1).toNat).sc, (mAt ms ((mAt ms (r.th - 1).toNat).t.to - 1).toNat).qa, (mAt ms ((mAt ms (r.th - 1).toNat).t.to - 1).toNat).qc⟩ : MTh)) := RowsO.set (RowsO.own (RowsO.typB (RowsO.typB (RowsO.low (RowsO.typB (RowsO.low (RowsO.low (RowsO.low hR ae.grw) ab.grw) O.grw) V.grw O.blk (by decide) (by decide)) E.grw) G.grw E.blk (by decide) (by decide)) bu.grw gz (by decide) (by decide)) dz g0 (by decide) (by decide)) (lq ((mAt ms (r.th - 1).toNat).t.to - 1).toNat ms.length) ⟨rfl, rfl, rfl⟩ ⟨rfl, rfl, rfl⟩
 refine Xb (Y3 (Xu (Xa (Xd (v := .slice (pa B) ms.length cap) Z Z (Xc (o' := 0) Yo Z Z Z (Xh (v := vi r.th) X1 Z (((((bf.grown0 E.grw).gn G.grw).gn bu.grw).gn dz).cell Z) Z (Yr (c := r.th - 1) Z Z (by omega) (by omega) (by omega) Z (Xr (vs := [vi (mAt ms (r.th - 1).toNat).t.kind, vi (mAt ms (r.th - 1).toNat).t.lab.s, vi (mAt ms (r.th - 1).toNat).t.lab.v, vi (mAt ms (r.th - 1).toNat).t.ve, vi (min ((mAt ms (r.th - 1).toNat).t.num + 1) 99), .slice (mAt ms (r.th - 1).toNat).sa (mAt ms (r.th - 1).toNat).t.slots.length (mAt ms (r.th - 1).toNat).sc, .slice (mAt ms (r.th - 1).toNat).qa (mAt ms (r.th - 1).toNat).t.queue.length (mAt ms (r.th - 1).toNat).qc, vi (mAt ms (r.th - 1).toNat).t.to]) Ys Z Z ((bu.blk.gn dz).rangeL 0 8 Z) Z (X4 (o' := (r.th - 1).toNat * 8) Qc Z Z (by omega) (by omega) (by omega) Z (Qy (g := MTh.cells) (z' := (⟨⟨(mAt ms (r.th - 1).toNat).t.kind, (mAt ms (r.th - 1).toNat).t.lab, (mAt ms (r.th - 1).toNat).t.ve, min ((mAt ms (r.th - 1).toNat).t.num + 1) 99, (mAt ms (r.th - 1).toNat).t.slots, (mAt ms (r.th - 1).toNat).t.queue, (mAt ms (r.th - 1).toNat).t.to⟩, (mAt ms (r.th - 1).toNat).sa, (mAt ms (r.th - 1).toNat).sc, (mAt ms (r.th - 1).toNat).qa, (mAt ms (r.th - 1).toNat).qc⟩ : MTh)) Ys Z Z (Ke _) Yj d7 (by (simp only [List.length_set, Yb]; omega)) Z ?_))))))))))
 intro o7 lj gb
 have jz : RowsO 33 3 lo o7 ((ms.set ((mAt ms (r.th - 1).toNat).t.to - 1).toNat (⟨⟨(mAt ms ((mAt ms (r.th - 1).toNat).t.to - 1).toNat).t.kind, (mAt ms ((mAt ms (r.th - 1).toNat).t.to - 1).toNat).t.lab, (mAt ms ((mAt ms (r.th - 1).toNat).t.to - 1).toNat).t.ve, q.n % 2, (mAt ms ((mAt ms (r.th - 1).toNat).t.to - 1).toNat).t.slots, (mAt ms ((mAt ms (r.th - 1).toNat).t.to - 1).toNat).t.queue, (mAt ms ((mAt ms (r.th - 1).toNat).t.to - 1).toNat).t.to⟩, (mAt ms ((mAt ms (r.th - 1).toNat).t.to - 1).toNat).sa, (mAt ms ((mAt ms (r.th - 1).toNat).t.to - 1).toNat).sc, (mAt ms ((mAt ms (r.th - 1).toNat).t.to - 1).toNat).qa, (mAt ms ((mAt ms (r.th - 1).toNat).t.to - 1).toNat).qc⟩ : MTh)).set (r.th - 1).toNat (⟨⟨(mAt ms (r.th - 1).toNat).t.kind, (mAt ms (r.th - 1).toNat).t.lab, (mAt ms (r.th - 1).toNat).t.ve, min ((mAt ms (r.th - 1).toNat).t.num + 1) 99, (mAt ms (r.th - 1).toNat).t.slots, (mAt ms (r.th - 1).toNat).t.queue, (mAt ms (r.th - 1).toNat).t.to⟩, (mAt ms (r.th - 1).toNat).sa, (mAt ms (r.th - 1).toNat).sc, (mAt ms (r.th - 1).toNat).qa, (mAt ms (r.th - 1).toNat).qc⟩ : MTh)) := RowsO.set (RowsO.own jy gb d7 (by decide) (by decide)) (show (r.th - 1).toNat < (ms.set ((mAt ms (r.th - 1).toNat).t.to - 1).toNat (⟨⟨(mAt ms ((mAt ms (r.th - 1).toNat).t.to - 1).toNat).t.kind, (mAt ms ((mAt ms (r.th - 1).toNat).t.to - 1).toNat).t.lab, (mAt ms ((mAt ms (r.th - 1).toNat).t.to - 1).toNat).t.ve, q.n % 2, (mAt ms ((mAt ms (r.th - 1).toNat).t.to - 1).toNat).t.slots, (mAt ms ((mAt ms (r.th - 1).toNat).t.to - 1).toNat).t.queue, (mAt ms ((mAt ms (r.th - 1).toNat).t.to - 1).toNat).t.to⟩, (mAt ms ((mAt ms (r.th - 1).toNat).t.to - 1).toNat).sa, (mAt ms ((mAt ms (r.th - 1).toNat).t.to - 1).toNat).sc, (mAt ms ((mAt ms (r.th - 1).toNat).t.to - 1).toNat).qa, (mAt ms ((mAt ms (r.th - 1).toNat).t.to - 1).toNat).qc⟩ : MTh)).length by (simp only [List.length_set, Yb]; omega)) ⟨(Uo (i := (r.th - 1).toNat) (m2 := (⟨⟨(mAt ms ((mAt ms (r.th - 1).toNat).t.to - 1).toNat).t.kind, (mAt ms ((mAt ms (r.th - 1).toNat).t.to - 1).toNat).t.lab, (mAt ms ((mAt ms (r.th - 1).toNat).t.to - 1).toNat).t.ve, q.n % 2, (mAt ms ((mAt ms (r.th - 1).toNat).t.to - 1).toNat).t.slots, (mAt ms ((mAt ms (r.th - 1).toNat).t.to - 1).toNat).t.queue, (mAt ms ((mAt ms (r.th - 1).toNat).t.to - 1).toNat).t.to⟩, (mAt ms ((mAt ms (r.th - 1).toNat).t.to - 1).toNat).sa, (mAt ms ((mAt ms (r.th - 1).toNat).t.to - 1).toNat).sc, (mAt ms ((mAt ms (r.th - 1).toNat).t.to - 1).toNat).qa, (mAt ms ((mAt ms (r.th - 1).toNat).t.to - 1).toNat).qc⟩ : MTh)) MTh.qa (lq ((mAt ms (r.th - 1).toNat).t.to - 1).toNat ms.length) rfl).symm, (Uo (i := (r.th - 1).toNat) (m2 := (⟨⟨(mAt ms ((mAt ms (r.th - 1).toNat).t.to - 1).toNat).t.kind, (mAt ms ((mAt ms (r.th - 1).toNat).t.to - 1).toNat).t.lab, (mAt ms ((mAt ms (r.th - 1).toNat).t.to - 1).toNat).t.ve, q.n % 2, (mAt ms ((mAt ms (r.th - 1).toNat).t.to - 1).toNat).t.slots, (mAt ms ((mAt ms (r.th - 1).toNat).t.to - 1).toNat).t.queue, (mAt ms ((mAt ms (r.th - 1).toNat).t.to - 1).toNat).t.to⟩, (mAt ms ((mAt ms (r.th - 1).toNat).t.to - 1).toNat).sa, (mAt ms ((mAt ms (r.th - 1).toNat).t.to - 1).toNat).sc, (mAt ms ((mAt ms (r.th - 1).toNat).t.to - 1).toNat).qa, (mAt ms ((mAt ms (r.th - 1).toNat).t.to - 1).toNat).qc⟩ : MTh)) MTh.qc (lq ((mAt ms (r.th - 1).toNat).t.to - 1).toNat ms.length) rfl).symm, (Uo (i := (r.th - 1).toNat) (m2 := (⟨⟨(mAt ms ((mAt ms (r.th - 1).toNat).t.to - 1).toNat).t.kind, (mAt ms ((mAt ms (r.th - 1).toNat).t.to - 1).toNat).t.lab, (mAt ms ((mAt ms (r.th - 1).toNat).t.to - 1).toNat).t.ve, q.n % 2, (mAt ms ((mAt ms (r.th - 1).toNat).t.to - 1).toNat).t.slots, (mAt ms ((mAt ms (r.th - 1).toNat).t.to - 1).toNat).t.queue, (mAt ms ((mAt ms (r.th - 1).toNat).t.to - 1).toNat).t.to⟩, (mAt ms ((mAt ms (r.th - 1).toNat).t.to - 1).toNat).sa, (mAt ms ((mAt ms (r.th - 1).toNat).t.to - 1).toNat).sc, (mAt ms ((mAt ms (r.th - 1).toNat).t.to - 1).toNat).qa, (mAt ms ((mAt ms (r.th - 1).toNat).t.to - 1).toNat).qc⟩ : MTh)) (fun m => m.t.queue) (lq ((mAt ms (r.th - 1).toNat).t.to - 1).toNat ms.length) rfl).symm⟩ ⟨(Uo (i := (r.th - 1).toNat) (m2 := (⟨⟨(mAt ms ((mAt ms (r.th - 1).toNat).t.to - 1).toNat).t.kind, (mAt ms ((mAt ms (r.th - 1).toNat).t.to - 1).toNat).t.lab, (mAt ms ((mAt ms (r.th - 1).toNat).t.to - 1).toNat).t.ve, q.n % 2, (mAt ms ((mAt ms (r.th - 1).toNat).t.to - 1).toNat).t.slots, (mAt ms ((mAt ms (r.th - 1).toNat).t.to - 1).toNat).t.queue, (mAt ms ((mAt ms (r.th - 1).toNat).t.to - 1).toNat).t.to⟩, (mAt ms ((mAt ms (r.th - 1).toNat).t.to - 1).toNat).sa, (mAt ms ((mAt ms (r.th - 1).toNat).t.to - 1).toNat).sc, (mAt ms ((mAt ms (r.th - 1).toNat).t.to - 1).toNat).qa, (mAt ms ((mAt ms (r.th - 1).toNat).t.to - 1).toNat).qc⟩ : MTh)) MTh.sa (lq ((mAt ms (r.th - 1).toNat).t.to - 1).toNat ms.length) rfl).symm, (Uo (i := (r.th - 1).toNat) (m2 := (⟨⟨(mAt ms ((mAt ms (r.th - 1).toNat).t.to - 1).toNat).t.kind, (mAt ms ((mAt ms (r.th - 1).toNat).t.to - 1).toNat).t.lab, (mAt ms ((mAt ms (r.th - 1).toNat).t.to - 1).toNat).t.ve, q.n % 2, (mAt ms ((mAt ms (r.th - 1).toNat).t.to - 1).toNat).t.slots, (mAt ms ((mAt ms (r.th - 1).toNat).t.to - 1).toNat).t.queue, (mAt ms ((mAt ms (r.th - 1).toNat).t.to - 1).toNat).t.to⟩, (mAt ms ((mAt ms (r.th - 1).toNat).t.to - 1).toNat).sa, (mAt ms ((mAt ms (r.th - 1).toNat).t.to - 1).toNat).sc, (mAt ms ((mAt ms (r.th - 1).toNat).t.to - 1).toNat).qa, (mAt ms ((mAt ms (r.th - 1).toNat).t.to - 1).toNat).qc⟩ : MTh)) MTh.sc (lq ((mAt ms (r.th - 1).toNat).t.to - 1).toNat ms.length) rfl).symm, (Uo (i := (r.th - 1).toNat) (m2 := (⟨⟨(mAt ms ((mAt ms (r.th - 1).toNat).t.to - 1).toNat).t.kind, (mAt ms ((mAt ms (r.th - 1).toNat).t.to - 1).toNat).t.lab, (mAt ms ((mAt ms (r.th - 1).toNat).t.to - 1).toNat).t.ve, q.n % 2, (mAt ms ((mAt ms (r.th - 1).toNat).t.to - 1).toNat).t.slots, (mAt ms ((mAt ms (r.th - 1).toNat).t.to - 1).toNat).t.queue, (mAt ms ((mAt ms (r.th - 1).toNat).t.to - 1).toNat).t.to⟩, (mAt ms ((mAt ms (r.th - 1).toNat).t.to - 1).toNat).sa, (mAt ms ((mAt ms (r.th - 1).toNat).t.to - 1).toNat).sc, (mAt ms ((mAt ms (r.th - 1).toNat).t.to - 1).toNat).qa, (mAt ms ((mAt ms (r.th - 1).toNat).t.to - 1).toNat).qc⟩ : MTh)) (fun m => m.t.slots) (lq ((mAt ms (r.th - 1).toNat).t.to - 1).toNat ms.length) rfl).symm⟩
 refine Xb (Xa (Xd (v := vi 0) Z Z (Xe (v := vi 0) Z Z (Xb (Xt ?_)))))
 have hf : far (tabT ms) q r = (tabT ((ms.set ((mAt ms (r.th - 1).toNat).t.to - 1).toNat (⟨⟨(mAt ms ((mAt ms (r.th - 1).toNat).t.to - 1).toNat).t.kind, (mAt ms ((mAt ms (r.th - 1).toNat).t.to - 1).toNat).t.lab, (mAt ms ((mAt ms (r.th - 1).toNat).t.to - 1).toNat).t.ve, q.n % 2, (mAt ms ((mAt ms (r.th - 1).toNat).t.to - 1).toNat).t.slots, (mAt ms ((mAt ms (r.th - 1).toNat).t.to - 1).toNat).t.queue, (mAt ms ((mAt ms (r.th - 1).toNat).t.to - 1).toNat).t.to⟩, (mAt ms ((mAt ms (r.th - 1).toNat).t.to - 1).toNat).sa, (mAt ms ((mAt ms (r.th - 1).toNat).t.to - 1).toNat).sc, (mAt ms ((mAt ms (r.th - 1).toNat).t.to - 1).toNat).qa, (mAt ms ((mAt ms (r.th - 1).toNat).t.to - 1).toNat).qc⟩ : MTh)).set (r.th - 1).toNat (⟨⟨(mAt ms (r.th - 1).toNat).t.kind, (mAt ms (r.th - 1).toNat).t.lab, (mAt ms (r.th - 1).toNat).t.ve, min ((mAt ms (r.th - 1).toNat).t.num + 1) 99, (mAt ms (r.th - 1).toNat).t.slots, (mAt ms (r.th - 1).toNat).t.queue, (mAt ms (r.th - 1).toNat).t.to⟩, (mAt ms (r.th - 1).toNat).sa, (mAt ms (r.th - 1).toNat).sc, (mAt ms (r.th - 1).toNat).qa, (mAt ms (r.th - 1).toNat).qc⟩ : MTh)), 0) := Z2 d4 rfl rfl
 exact ⟨vi 0, Yt Z Z, (ms.set ((mAt ms (r.th - 1).toNat).t.to - 1).toNat (⟨⟨(mAt ms ((mAt ms (r.th - 1).toNat).t.to - 1).toNat).t.kind, (mAt ms ((mAt ms (r.th - 1).toNat).t.to - 1).toNat).t.lab, (mAt ms ((mAt ms (r.th - 1).toNat).t.to - 1).toNat).t.ve, q.n % 2, (mAt ms ((mAt ms (r.th - 1).toNat).t.to - 1).toNat).t.slots, (mAt ms ((mAt ms (r.th - 1).toNat).t.to - 1).toNat).t.queue, (mAt ms ((mAt ms (r.th - 1).toNat).t.to - 1).toNat).t.to⟩, (mAt ms ((mAt ms (r.th - 1).toNat).t.to - 1).toNat).sa, (mAt ms ((mAt ms (r.th - 1).toNat).t.to - 1).toNat).sc, (mAt ms ((mAt ms (r.th - 1).toNat).t.to - 1).toNat).qa, (mAt ms ((mAt ms (r.th - 1).toNat).t.to - 1).toNat).qc⟩ : MTh)).set (r.th - 1).toNat (⟨⟨(mAt ms (r.th - 1).toNat).t.kind, (mAt ms (r.th - 1).toNat).t.lab, (mAt ms (r.th - 1).toNat).t.ve, min ((mAt ms (r.th - 1).toNat).t.num + 1) 99, (mAt ms (r.th - 1).toNat).t.slots, (mAt ms (r.th - 1).toNat).t.queue, (mAt ms (r.th - 1).toNat).t.to⟩, (mAt ms (r.th - 1).toNat).sa, (mAt ms (r.th - 1).toNat).sc, (mAt ms (r.th - 1).toNat).qa, (mAt ms (r.th - 1).toNat).qc⟩ : MTh), by rw [hf], by first | rfl | exact Yb | (simp only [List.length_set, Yb]), lj, jz, by rw [hf], (KeepsI.own (KeepsI.own (KeepsI.new ac bu.grw (by omega)) dz g0 (by decide) (by omega) (by omega)) gb d7 (by decide) (by omega) (by omega))⟩
 have s8 := of_decide_eq_false d4
 refine Xz (Y3 (Xu (Xa (Xd (v := .slice (pa B) ms.length cap) Z Z (Xc (o' := 0) Yo Z Z Z (Xh (v := vi r.th) X1 Z (((bf.grown0 E.grw).gn G.grw).cell Z) Z (Yr (c := r.th - 1) Z Z (by omega) (by omega) (by omega) Z (Xr (vs := [vi (mAt ms (r.th - 1).toNat).t.kind, vi (mAt ms (r.th - 1).toNat).t.lab.s, vi (mAt ms (r.th - 1).toNat).t.lab.v, vi (mAt ms (r.th - 1).toNat).t.ve, vi (mAt ms (r.th - 1).toNat).t.num, .slice (mAt ms (r.th - 1).toNat).sa (mAt ms (r.th - 1).toNat).t.slots.length (mAt ms (r.th - 1).toNat).sc, .slice (mAt ms (r.th - 1).toNat).qa (mAt ms (r.th - 1).toNat).t.queue.length (mAt ms (r.th - 1).toNat).qc, vi (mAt ms (r.th - 1).toNat).t.to]) Ys Z Z (((V.blk.grown0 E.grw).gn G.grw).rangeL 0 8 Z) Z (X4 (o' := (r.th - 1).toNat * 8) Qc Z Z (by omega) (by omega) (by omega) Z ?_)))))))))
 have k4 := ((ar.grown0 E.grw).gn G.grw)
 refine Qy (g := MTh.cells) (z' := (mAt ms (r.th - 1).toNat)) Ys Z Z (Ke _) Yj k4 (by omega) Z ?_
 intro o8 rm ln
 have qr : RowsO 33 3 lo o8 (ms.set (r.th - 1).toNat (mAt ms (r.th - 1).toNat)) := RowsO.set (RowsO.own (RowsO.typB (RowsO.low (RowsO.typB (RowsO.low (RowsO.low (RowsO.low hR ae.grw) ab.grw) O.grw) V.grw O.blk (by decide) (by decide)) E.grw) G.grw E.blk (by decide) (by decide)) ln k4 (by decide) (by decide)) (lq (r.th - 1).toNat ms.length) ⟨rfl, rfl, rfl⟩ ⟨rfl, rfl, rfl⟩
 refine Xb (Xa (Xd (v := vi 0) Z Z (Xe (v := vi 0) Z Z (Xb (Xt ?_)))))
 exfalso; omega
end Go.Proofs.YtlhhijnmacogcaaGreatDoor
end
section
namespace Go.Proofs.YtlhhijnmacogcaaGreatDoor
open Go.RowKit Go.Dw
set_option maxRecDepth 100000
set_option maxHeartbeats 4000000
set_option linter.unusedSimpArgs false
set_option linter.unusedVariables false
theorem Xae : goFn Tryz.prog 54 = true := by kernel_rfl
theorem Xcq : goFn Tryz.prog 58 = true := by kernel_rfl
end Go.Proofs.YtlhhijnmacogcaaGreatDoor
end
