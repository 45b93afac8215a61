/- Laws and walks: my templates, and what a program of mine (gen.py) printed out of the functions; only what the row reaches. -/
import Derived.Test.YtfoplmgoiblkgaaDoorCR3
section
namespace Go.Proofs.YtfoplmgoiblkgaaDoor
open Go.RowKit Go.Dw
set_option maxRecDepth 100000
set_option maxHeartbeats 4000000
set_option linter.unusedSimpArgs false
set_option linter.unusedVariables false
theorem Nl (p : Int) (hp : 0 ≤ p ∧ p ≤ 999999980000) (lo R : Nat) (bs : List Int) (a : Option Addr) (c : Nat) (w : World) (hR : Blk w R 108 #[.slice a bs.length c, .int .i64 p]) (hlo : lo ≤ R) (hs : SlLt lo w a 1 (bs.map bcell)) (hb : ∀ b ∈ bs, 0 ≤ b ∧ b ≤ 255) (hn : bs.length ≤ 1048576) (ms : List MTh) (ta : Option Addr) (tc tlo : Nat) (hG : TabG tlo w ta ms) (hRl : R < tlo) (hlen : TabLen ms) (hmn : 1 ≤ ms.length ∧ ms.length ≤ 8) : CallsR Tryd.prog 31 #[.pointer (some ⟨R, 0, none⟩), .slice ta ms.length tc] w (fun v w' => ∃ (q : Cl) (p' : Int), v = .agg #[.int .i64 q.kind, .int .i64 q.run, .int .i64 q.a, .int .i64 q.b, .int .i64 q.n] ∧ ((0 ≤ q.kind ∧ q.kind ≤ 10) ∧ (1 ≤ q.run ∧ q.run ≤ (ms.length : Int)) ∧ (-1 ≤ q.a ∧ q.a ≤ 4) ∧ (0 ≤ q.b ∧ q.b ≤ 3) ∧ -1 ≤ q.n ∧ q.n ≤ 100) ∧ p ≤ p' ∧ p' ≤ p + 60 ∧ Blk w' R 108 #[.slice a bs.length c, .int .i64 p'] ∧ w.grownBy w' (some R)) := by
 refine X0 (n := 114) Tryd.func31 rfl Tryd.ntmps31 rfl ?_
 have hb0 := World.grownBy.refl w (some R)
 have hRlt := hR.lt
 obtain ⟨hi, hhi⟩ : ∃ n, n = w.heap.size := ⟨_, rfl⟩
 have hTH := TabG.hi hG
 rw [← hhi] at hTH
 refine Xb ?_
 refine Yj (cs := #[.int .i64 0, .int .i64 0, .int .i64 0, .int .i64 0, .int .i64 0]) Vw rfl rfl ?_
 intro B101 w102 hN103
 have hlB101 := Yf hN103 hb0
 have hhiB101 : hi ≤ B101 := Nat.le_trans (Nat.le_of_eq hhi) (Nat.le_of_eq hN103.eq.symm)
 have lt_R_B101 := Xq hN103 (hR).lt
 have hb104 := low0 hb0 hN103.grw
 refine Xa ?_
 refine Xb ?_
 refine Xc (v := .pointer (some ⟨R, 0, none⟩)) rfl rfl ?_
 have k105 := (hR.grown0 hN103.grw)
 refine Xn (vs := [.pointer (some ⟨R, 0, none⟩), .int .i64 9]) Y1 (Xg rfl (Xg rfl Xm)) rfl (Yr p 9 (by omega) _ R bs _ _ _ k105 (by omega) (SlLt.low1 hs hb104 hlo) (by first | exact hb | exact fun b h => hb b (List.mem_of_mem_take h)) (by first | omega | (rw [List.length_take]; omega))) ?_
 rintro _ w111 ⟨k106, rfl, hk107, hk108, kR109, hg110⟩
 have hb112 := grown_trans hb104 hg110
 refine Yx (c := 1 + k106) rfl rfl (by omega) (by omega) (by omega) rfl ?_
 refine Xc (v := .pointer (some ⟨R, 0, none⟩)) rfl rfl ?_
 refine Xc (v := .slice ta ms.length tc) rfl rfl ?_
 have hTG113 := (TabG.lt (TabG.low hG hN103.grw) hg110 (by omega))
 refine Xn (vs := [.pointer (some ⟨R, 0, none⟩), .slice ta ms.length tc]) Mj (Xg rfl (Xg rfl Xm)) rfl (Re (p + 1) (by omega) _ R bs _ _ _ kR109 (by omega) (SlLt.low1 hs hb112 hlo) (by first | exact hb | exact fun b h => hb b (List.mem_of_mem_take h)) (by first | omega | (rw [List.length_take]; omega)) ms _ _ _ hTG113 (by omega) hlen (by omega)) ?_
 rintro _ w120 ⟨k114, p115, rfl, hq121, hp116, hp117, kR118, hg119⟩
 have hb122 := grown_trans hb112 hg119
 refine Xc (v := .pointer (some ⟨R, 0, none⟩)) rfl rfl ?_
 refine Xn (vs := [.pointer (some ⟨R, 0, none⟩), .int .i64 4]) Y1 (Xg rfl (Xg rfl Xm)) rfl (Yr p115 4 (by omega) _ R bs _ _ _ kR118 (by omega) (SlLt.low1 hs hb122 hlo) (by first | exact hb | exact fun b h => hb b (List.mem_of_mem_take h)) (by first | omega | (rw [List.length_take]; omega))) ?_
 rintro _ w128 ⟨k123, rfl, hk124, hk125, kR126, hg127⟩
 have hb129 := grown_trans hb122 hg127
 refine Xc (v := .pointer (some ⟨R, 0, none⟩)) rfl rfl ?_
 refine Xn (vs := [.pointer (some ⟨R, 0, none⟩), .int .i64 4]) Y1 (Xg rfl (Xg rfl Xm)) rfl (Yr (p115 + 1) 4 (by omega) _ R bs _ _ _ kR126 (by omega) (SlLt.low1 hs hb129 hlo) (by first | exact hb | exact fun b h => hb b (List.mem_of_mem_take h)) (by first | omega | (rw [List.length_take]; omega))) ?_
 rintro _ w135 ⟨k130, rfl, hk131, hk132, kR133, hg134⟩
 have hb136 := grown_trans hb129 hg134
 refine Xc (v := .pointer (some ⟨R, 0, none⟩)) rfl rfl ?_
 refine Xn (vs := [.pointer (some ⟨R, 0, none⟩), .int .i64 20]) Y1 (Xg rfl (Xg rfl Xm)) rfl (Yr (p115 + 1 + 1) 20 (by omega) _ R bs _ _ _ kR133 (by omega) (SlLt.low1 hs hb136 hlo) (by first | exact hb | exact fun b h => hb b (List.mem_of_mem_take h)) (by first | omega | (rw [List.length_take]; omega))) ?_
 rintro _ w142 ⟨k137, rfl, hk138, hk139, kR140, hg141⟩
 have hb143 := grown_trans hb136 hg141
 refine Yw (ps := [(0, .int .i64 (1 + k106)), (1, .int .i64 k114), (2, .int .i64 k123), (3, .int .i64 k130), (4, .int .i64 k137)]) (v := .agg #[.int .i64 (1 + k106), .int .i64 k114, .int .i64 k123, .int .i64 k130, .int .i64 k137]) (Xp rfl (Xp rfl (Xp rfl (Xp rfl (Xp rfl X9))))) (by kernel_rfl) rfl ?_
 refine Yj (cs := #[.int .i64 0, .int .i64 0, .int .i64 0, .int .i64 0, .int .i64 0]) Vw rfl rfl ?_
 intro B144 w145 hN146
 have hlB144 := Yf hN146 hb143
 have hhiB144 : hi ≤ B144 := Nat.le_trans (Nat.le_trans (Nat.le_trans (Nat.le_trans (Nat.le_trans (Nat.le_trans (Nat.le_trans (Nat.le_of_eq hhi) hN103.grw.size) hg110.size) hg119.size) hg127.size) hg134.size) hg141.size) (Nat.le_of_eq hN146.eq.symm)
 have lt_R_B144 := Xq hN146 (kR140).lt
 have k147 := (((((hN103.blk.grown hg110 (Xf (by omega))).grown hg119 (Xf (by omega))).grown hg127 (Xf (by omega))).grown hg134 (Xf (by omega))).grown hg141 (Xf (by omega)))
 have lt_B101_B144 := Xq hN146 (k147).lt
 have hb148 := low0 hb143 hN146.grw
 refine Xz (vs := [.int .i64 (1 + k106), .int .i64 k114, .int .i64 k123, .int .i64 k130, .int .i64 k137]) (cs' := #[.int .i64 (1 + k106), .int .i64 k114, .int .i64 k123, .int .i64 k130, .int .i64 k137]) Yv rfl rfl rfl (by simp [Value.oneCell']) hN146.blk (Nat.le_of_ble_eq_true rfl) rfl ?_
 intro w149 hS150
 have hb151 := low1 hb148 hS150.grw (by omega)
 refine Xa ?_
 refine Xt ?_
 refine Xb ?_
 refine Xh (v := .int .i64 0) rfl rfl ?_
 refine Xa ?_
 refine Ye ?_
 have hTG152 := (TabG.ge (TabG.low (TabG.lt (TabG.lt (TabG.lt (TabG.lt hTG113 hg119 (by omega)) hg127 (by omega)) hg134 (by omega)) hg141 (by omega)) hN146.grw) hS150.grw hTH (by omega))
 have k153 := ((k147.grown0 hN146.grw).grown hS150.grw (Xf (by omega)))
 have k154 := ((kR140.grown0 hN146.grw).grown hS150.grw (Xf (by omega)))
 refine Zd (fun mm f' w' => ∃ (i : Nat) (p1 : Int) (kk : Int) (aa : Int), mm = 6 - i ∧ i ≤ 6 ∧ (p115 + 1 + 1 + 1 ≤ p1 ∧ p1 ≤ (p115 + 1 + 1 + 1) + 3 * (i : Int)) ∧ (1 ≤ kk ∧ kk ≤ 9) ∧ (0 ≤ aa ∧ aa ≤ 3) ∧ TabG tlo w' ta ms ∧ hi ≤ w'.heap.size ∧ f' 6 = .int .i64 (i : Int) ∧ f' 0 = .pointer (some ⟨R, 0, none⟩) ∧ f' 1 = .slice ta ms.length tc ∧ f' 4 = .pointer (some ⟨B101, 0, none⟩) ∧ f' 5 = .pointer (some ⟨B144, 0, none⟩) ∧ w.grownBy w' (some R) ∧ Blk w' B101 29 #[.int .i64 0, .int .i64 0, .int .i64 0, .int .i64 0, .int .i64 0] ∧ Blk w' B144 29 #[.int .i64 kk, .int .i64 k114, .int .i64 aa, .int .i64 k130, .int .i64 k137] ∧ Blk w' R 108 #[.slice a bs.length c, .int .i64 p1]) (6 - 0) ⟨0, (p115 + 1 + 1 + 1), (1 + k106), k123, rfl, (Nat.zero_le _), (by omega), (by omega), (by omega), hTG152, (Nat.le_trans (Nat.le_trans (Nat.le_trans (Nat.le_trans (Nat.le_trans (Nat.le_trans (Nat.le_trans (Nat.le_trans (Nat.le_of_eq hhi) hN103.grw.size) hg110.size) hg119.size) hg127.size) hg134.size) hg141.size) hN146.grw.size) hS150.grw.size), rfl, rfl, rfl, rfl, rfl, hb151, k153, hS150.blk, k154⟩ ?_
 rintro mm f155 w156 ⟨i, p1, kk, aa, hm158, hi6, hpp, hkk, haa, hGl, hhs, e159, e160, e161, e162, e163, hb157, k164, k165, k166⟩
 refine Xt ?_
 refine Xb ?_
 refine Xc (v := .int .i64 (i : Int)) e159 rfl ?_
 refine Y4 (q := decide ((i : Int) < 6)) rfl rfl rfl rfl ?_
 refine Xc (v := .bool (decide ((i : Int) < 6))) rfl rfl ?_
 rcases Yb (decide ((i : Int) < 6)) with h190 | h190
 ·
  have h191 := of_decide_eq_true h190
  refine Xe rfl rfl rfl h190 ?_
  refine Xc (v := .pointer (some ⟨R, 0, none⟩)) e160 rfl ?_
  refine Xe rfl rfl rfl h190 ?_
  refine Xn (vs := [.pointer (some ⟨R, 0, none⟩), .int .i64 6]) Y1 (Xg rfl (Xg rfl Xm)) rfl (Yr p1 6 (by omega) _ R bs _ _ _ k166 (by omega) (SlLt.low1 hs hb157 hlo) (by first | exact hb | exact fun b h => hb b (List.mem_of_mem_take h)) (by first | omega | (rw [List.length_take]; omega))) ?_
  rintro _ w197 ⟨k192, rfl, hk193, hk194, kR195, hg196⟩
  have hb198 := grown_trans hb157 hg196
  refine Xe rfl rfl rfl h190 ?_
  refine Zq (q := decide (0 < k192)) rfl rfl rfl rfl ?_
  refine Xr (v := .bool (decide (0 < k192))) rfl h190 rfl rfl ?_
  refine Xc (v := .bool (decide (0 < k192))) rfl rfl ?_
  rcases Yb (decide (0 < k192)) with h199 | h199
  ·
   have h200 := of_decide_eq_true h199
   refine Xe rfl rfl rfl h199 ?_
   refine Xc (v := .slice ta ms.length tc) e161 rfl ?_
   refine Xe rfl rfl rfl h199 ?_
   refine Xd (o' := 1) Zk e163 rfl rfl ?_
   refine Xe rfl rfl rfl h199 ?_
   have k201 := (k165.grown hg196 (Xf (by omega)))
   refine Xi (v := .int .i64 k114) X3 rfl (k201.cell rfl) rfl ?_
   refine Xe rfl rfl rfl h199 ?_
   have hTG202 := (TabG.lt hGl hg196 (by omega))
   refine Xn (vs := [.slice ta ms.length tc, .int .i64 k114]) Te (Xg rfl (Xg rfl Xm)) rfl (G6 k114 (by omega) _ ms _ _ (TabG.at hTG202) hlen (by omega)) ?_
   rintro _ w203 ⟨rfl, hg204⟩
   have hb205 := low0 hb198 hg204
   refine Xr (v := .bool (kindAt (tabT ms) k114 3)) rfl h199 rfl rfl ?_
   refine Xc (v := .bool (kindAt (tabT ms) k114 3)) rfl rfl ?_
   rcases Yb (kindAt (tabT ms) k114 3) with h206 | h206
   ·
    refine Xe rfl rfl rfl h206 ?_
    refine Xc (v := .slice ta ms.length tc) e161 rfl ?_
    refine Xe rfl rfl rfl h206 ?_
    refine Xd (o' := 1) Zk e163 rfl rfl ?_
    refine Xe rfl rfl rfl h206 ?_
    have k207 := (k201.grown0 hg204)
    refine Xi (v := .int .i64 k114) X3 rfl (k207.cell rfl) rfl ?_
    refine Xe rfl rfl rfl h206 ?_
    refine Y3 (c := k114 - 1) rfl rfl (by omega) (by omega) (by omega) rfl ?_
    refine Xe rfl rfl rfl h206 ?_
    have hTG216 := (TabG.low hTG202 hg204)
    obtain ⟨b210, q211, o212, ha213, ho214, hr215⟩ := SlAt.at (TabG.at hTG216).1 (Yn (Ya (show (k114 - 1).toNat < ms.length by omega)))
    have hle217 := TabLen.at hlen (Ya (show (k114 - 1).toNat < ms.length by omega))
    refine Yd Zl rfl rfl ha213 ho214 (by omega) (by omega) rfl ?_
    refine Xe rfl rfl rfl h206 ?_
    refine Xd (o' := o212 + 5) Zt rfl rfl rfl ?_
    refine Xe rfl rfl rfl h206 ?_
    refine Xi (v := .slice ((mAt ms ((k114 - 1).toNat)).sa) ((mAt ms ((k114 - 1).toNat)).t.slots.length) ((mAt ms ((k114 - 1).toNat)).sc)) Qq rfl (hr215 5 _ rfl) rfl ?_
    refine Xe rfl rfl rfl h206 ?_
    refine Ym (by kernel_rfl) rfl rfl ?_
    refine Xe rfl rfl rfl h206 ?_
    refine X4 (q := decide (((mAt ms ((k114 - 1).toNat)).t.slots.length : Int) = 4)) rfl rfl rfl rfl ?_
    refine Xr (v := .bool (decide (((mAt ms ((k114 - 1).toNat)).t.slots.length : Int) = 4))) rfl h206 rfl rfl ?_
    refine Xa ?_
    refine Xw rfl (fun h218 => ?_) (fun h218 => ?_)
    ·
     have h219 := of_decide_eq_true h218
     refine Xy ?_
     refine Xv ?_
     refine Xt ?_
     refine Ye ?_
     refine Xt ?_
     obtain ⟨b256, q257, o258, ha259, ho260, hr261⟩ := SlAt.at (TabAt.th (TabG.at hTG216) (Ya (show (k114 - 1).toNat < ms.length by omega))).1 (Yn (Qg (show (aa).toNat < (mAt ms ((k114 - 1).toNat)).t.slots.length by omega)))
     refine Qs (m := 12) [[], [], [1], [1, 2], [0, 1, 2, 3], [0, 1, 2, 3, 4], [0, 1, 2, 3, 4, 5], [], [7], [0, 1, 2, 3, 4, 5, 6, 7, 8], [0, 1, 2, 3, 4, 5, 6, 7, 8, 9], [], [0, 1, 2, 3, 4, 5, 6, 7, 8, 9, 10, 11]] (fun S F w' => ∃ (B268 : Nat), w203.grownBy w' none ∧ F 0 = .pointer (some ⟨R, 0, none⟩) ∧ F 1 = .slice ta ms.length tc ∧ F 4 = .pointer (some ⟨B101, 0, none⟩) ∧ F 5 = .pointer (some ⟨B144, 0, none⟩) ∧ F 6 = .int .i64 (i : Int) ∧ (S 0 = true → F 47 = .slice ta ms.length tc) ∧ (S 1 = true → F 48 = .pointer (some ⟨B144, 1, none⟩)) ∧ (S 2 = true → F 49 = .int .i64 k114) ∧ (S 3 = true → F 50 = .int .i64 (k114 - 1)) ∧ (S 4 = true → F 51 = .pointer (some ⟨b210, o212, none⟩)) ∧ (S 5 = true → F 52 = .pointer (some ⟨b210, o212 + 5, none⟩)) ∧ (S 6 = true → F 53 = .slice ((mAt ms ((k114 - 1).toNat)).sa) ((mAt ms ((k114 - 1).toNat)).t.slots.length) ((mAt ms ((k114 - 1).toNat)).sc)) ∧ (S 7 = true → F 54 = .pointer (some ⟨B144, 2, none⟩)) ∧ (S 8 = true → F 55 = .int .i64 aa) ∧ (S 9 = true → F 56 = .pointer (some ⟨b256, o258, none⟩)) ∧ (S 10 = true → F 57 = .agg #[.int .i64 ((rAt (mAt ms ((k114 - 1).toNat)).t.slots ((aa).toNat)).th), .int .i64 ((rAt (mAt ms ((k114 - 1).toNat)).t.slots ((aa).toNat)).ve), .bool ((rAt (mAt ms ((k114 - 1).toNat)).t.slots ((aa).toNat)).rd), .bool ((rAt (mAt ms ((k114 - 1).toNat)).t.slots ((aa).toNat)).wr), .bool ((rAt (mAt ms ((k114 - 1).toNat)).t.slots ((aa).toNat)).wk)]) ∧ (S 11 = true → F 7 = .pointer (some ⟨B268, 0, none⟩) ∧ w.heap.size ≤ B268 ∧ Blk w' B268 37 #[.int .i64 0, .int .i64 0, .bool false, .bool false, .bool false] ∧ B101 < B268 ∧ B144 < B268 ∧ R < B268 ∧ w203.heap.size ≤ B268)) Zi (by kernel_rfl) ⟨0, Yl _, e160, e161, e162, e163, e159, fun h => X5 h, fun h => X5 h, fun h => X5 h, fun h => X5 h, fun h => X5 h, fun h => X5 h, fun h => X5 h, fun h => X5 h, fun h => X5 h, fun h => X5 h, fun h => X5 h, fun h => X5 h⟩ ?_ ?_
     ·
      refine X6 (fun S F w274 hS hbef hcl hI => ?_) ?_
      ·
       obtain ⟨B268, hi275, e276, e277, e278, e279, e280, c_0, c_1, c_2, c_3, c_4, c_5, c_6, c_7, c_8, c_9, c_10, c_11⟩ := hI
       have hb281 := low0 hb205 hi275
       refine Xc (v := .slice ta ms.length tc) e277 rfl ?_
       exact Xa ⟨B268, hi275, e276, e277, e278, e279, e280, fun _ => rfl, c_1, c_2, c_3, fun h => Xx 4 hS hcl rfl h, fun h => Xx 5 hS hcl rfl h, fun h => Xx 6 hS hcl rfl h, c_7, c_8, fun h => Xx 9 hS hcl rfl h, fun h => Xx 10 hS hcl rfl h, c_11⟩
      refine X6 (fun S F w282 hS hbef hcl hI => ?_) ?_
      ·
       obtain ⟨B268, hi283, e284, e285, e286, e287, e288, c_0, c_1, c_2, c_3, c_4, c_5, c_6, c_7, c_8, c_9, c_10, c_11⟩ := hI
       have hb289 := low0 hb205 hi283
       refine Xd (o' := 1) Zk e287 rfl rfl ?_
       exact Xa ⟨B268, hi283, e284, e285, e286, e287, e288, c_0, fun _ => rfl, fun h => Xx 2 hS hcl rfl h, fun h => Xx 3 hS hcl rfl h, fun h => Xx 4 hS hcl rfl h, fun h => Xx 5 hS hcl rfl h, fun h => Xx 6 hS hcl rfl h, c_7, c_8, fun h => Xx 9 hS hcl rfl h, fun h => Xx 10 hS hcl rfl h, c_11⟩
      refine X6 (fun S F w290 hS hbef hcl hI => ?_) ?_
      ·
       obtain ⟨B268, hi291, e292, e293, e294, e295, e296, c_0, c_1, c_2, c_3, c_4, c_5, c_6, c_7, c_8, c_9, c_10, c_11⟩ := hI
       have hb297 := low0 hb205 hi291
       obtain e298 := c_1 (Xo 1 hbef rfl)
       have k299 := (k207.grown0 hi291)
       refine Xi (v := .int .i64 k114) X3 e298 (k299.cell rfl) rfl ?_
       exact Xa ⟨B268, hi291, e292, e293, e294, e295, e296, c_0, c_1, fun _ => rfl, fun h => Xx 3 hS hcl rfl h, fun h => Xx 4 hS hcl rfl h, fun h => Xx 5 hS hcl rfl h, fun h => Xx 6 hS hcl rfl h, c_7, c_8, fun h => Xx 9 hS hcl rfl h, fun h => Xx 10 hS hcl rfl h, c_11⟩
      refine X6 (fun S F w300 hS hbef hcl hI => ?_) ?_
      ·
       obtain ⟨B268, hi301, e302, e303, e304, e305, e306, c_0, c_1, c_2, c_3, c_4, c_5, c_6, c_7, c_8, c_9, c_10, c_11⟩ := hI
       have hb307 := low0 hb205 hi301
       obtain e308 := c_1 (Xo 1 hbef rfl)
       obtain e309 := c_2 (Xo 2 hbef rfl)
       refine Y3 (c := k114 - 1) e309 rfl (by omega) (by omega) (by omega) rfl ?_
       exact Xa ⟨B268, hi301, e302, e303, e304, e305, e306, c_0, c_1, c_2, fun _ => rfl, fun h => Xx 4 hS hcl rfl h, fun h => Xx 5 hS hcl rfl h, fun h => Xx 6 hS hcl rfl h, c_7, c_8, fun h => Xx 9 hS hcl rfl h, fun h => Xx 10 hS hcl rfl h, c_11⟩
      refine X6 (fun S F w310 hS hbef hcl hI => ?_) ?_
      ·
       obtain ⟨B268, hi311, e312, e313, e314, e315, e316, c_0, c_1, c_2, c_3, c_4, c_5, c_6, c_7, c_8, c_9, c_10, c_11⟩ := hI
       have hb317 := low0 hb205 hi311
       obtain e318 := c_0 (Xo 0 hbef rfl)
       obtain e319 := c_1 (Xo 1 hbef rfl)
       obtain e320 := c_2 (Xo 2 hbef rfl)
       obtain e321 := c_3 (Xo 3 hbef rfl)
       refine Yd Zl e318 e321 ha213 ho214 (by omega) (by omega) rfl ?_
       exact Xa ⟨B268, hi311, e312, e313, e314, e315, e316, c_0, c_1, c_2, c_3, fun _ => rfl, fun h => Xx 5 hS hcl rfl h, fun h => Xx 6 hS hcl rfl h, c_7, c_8, fun h => Xx 9 hS hcl rfl h, fun h => Xx 10 hS hcl rfl h, c_11⟩
      refine X6 (fun S F w322 hS hbef hcl hI => ?_) ?_
      ·
       obtain ⟨B268, hi323, e324, e325, e326, e327, e328, c_0, c_1, c_2, c_3, c_4, c_5, c_6, c_7, c_8, c_9, c_10, c_11⟩ := hI
       have hb329 := low0 hb205 hi323
       obtain e330 := c_0 (Xo 0 hbef rfl)
       obtain e331 := c_1 (Xo 1 hbef rfl)
       obtain e332 := c_2 (Xo 2 hbef rfl)
       obtain e333 := c_3 (Xo 3 hbef rfl)
       obtain e334 := c_4 (Xo 4 hbef rfl)
       refine Xd (o' := o212 + 5) Zt e334 rfl rfl ?_
       exact Xa ⟨B268, hi323, e324, e325, e326, e327, e328, c_0, c_1, c_2, c_3, c_4, fun _ => rfl, fun h => Xx 6 hS hcl rfl h, c_7, c_8, fun h => Xx 9 hS hcl rfl h, fun h => Xx 10 hS hcl rfl h, c_11⟩
      refine X6 (fun S F w335 hS hbef hcl hI => ?_) ?_
      ·
       obtain ⟨B268, hi336, e337, e338, e339, e340, e341, c_0, c_1, c_2, c_3, c_4, c_5, c_6, c_7, c_8, c_9, c_10, c_11⟩ := hI
       have hb342 := low0 hb205 hi336
       obtain e343 := c_0 (Xo 0 hbef rfl)
       obtain e344 := c_1 (Xo 1 hbef rfl)
       obtain e345 := c_2 (Xo 2 hbef rfl)
       obtain e346 := c_3 (Xo 3 hbef rfl)
       obtain e347 := c_4 (Xo 4 hbef rfl)
       obtain e348 := c_5 (Xo 5 hbef rfl)
       refine Xi (v := .slice ((mAt ms ((k114 - 1).toNat)).sa) ((mAt ms ((k114 - 1).toNat)).t.slots.length) ((mAt ms ((k114 - 1).toNat)).sc)) Qq e348 ((Yo hr215 hi336) 5 _ rfl) rfl ?_
       exact Xa ⟨B268, hi336, e337, e338, e339, e340, e341, c_0, c_1, c_2, c_3, c_4, c_5, fun _ => rfl, c_7, c_8, fun h => Xx 9 hS hcl rfl h, fun h => Xx 10 hS hcl rfl h, c_11⟩
      refine X6 (fun S F w349 hS hbef hcl hI => ?_) ?_
      ·
       obtain ⟨B268, hi350, e351, e352, e353, e354, e355, c_0, c_1, c_2, c_3, c_4, c_5, c_6, c_7, c_8, c_9, c_10, c_11⟩ := hI
       have hb356 := low0 hb205 hi350
       refine Xd (o' := 2) Qt e354 rfl rfl ?_
       exact Xa ⟨B268, hi350, e351, e352, e353, e354, e355, c_0, c_1, c_2, c_3, c_4, c_5, c_6, fun _ => rfl, fun h => Xx 8 hS hcl rfl h, fun h => Xx 9 hS hcl rfl h, fun h => Xx 10 hS hcl rfl h, c_11⟩
      refine X6 (fun S F w357 hS hbef hcl hI => ?_) ?_
      ·
       obtain ⟨B268, hi358, e359, e360, e361, e362, e363, c_0, c_1, c_2, c_3, c_4, c_5, c_6, c_7, c_8, c_9, c_10, c_11⟩ := hI
       have hb364 := low0 hb205 hi358
       obtain e365 := c_7 (Xo 7 hbef rfl)
       have k366 := (k207.grown0 hi358)
       refine Xi (v := .int .i64 aa) X3 e365 (k366.cell rfl) rfl ?_
       exact Xa ⟨B268, hi358, e359, e360, e361, e362, e363, c_0, c_1, c_2, c_3, c_4, c_5, c_6, c_7, fun _ => rfl, fun h => Xx 9 hS hcl rfl h, fun h => Xx 10 hS hcl rfl h, c_11⟩
      refine X6 (fun S F w367 hS hbef hcl hI => ?_) ?_
      ·
       obtain ⟨B268, hi368, e369, e370, e371, e372, e373, c_0, c_1, c_2, c_3, c_4, c_5, c_6, c_7, c_8, c_9, c_10, c_11⟩ := hI
       have hb374 := low0 hb205 hi368
       obtain e375 := c_0 (Xo 0 hbef rfl)
       obtain e376 := c_1 (Xo 1 hbef rfl)
       obtain e377 := c_2 (Xo 2 hbef rfl)
       obtain e378 := c_3 (Xo 3 hbef rfl)
       obtain e379 := c_4 (Xo 4 hbef rfl)
       obtain e380 := c_5 (Xo 5 hbef rfl)
       obtain e381 := c_6 (Xo 6 hbef rfl)
       obtain e382 := c_7 (Xo 7 hbef rfl)
       obtain e383 := c_8 (Xo 8 hbef rfl)
       refine Yd Ka e381 e383 ha259 ho260 (by omega) (by omega) rfl ?_
       exact Xa ⟨B268, hi368, e369, e370, e371, e372, e373, c_0, c_1, c_2, c_3, c_4, c_5, c_6, c_7, c_8, fun _ => rfl, fun h => Xx 10 hS hcl rfl h, c_11⟩
      refine X6 (fun S F w384 hS hbef hcl hI => ?_) ?_
      ·
       obtain ⟨B268, hi385, e386, e387, e388, e389, e390, c_0, c_1, c_2, c_3, c_4, c_5, c_6, c_7, c_8, c_9, c_10, c_11⟩ := hI
       have hb391 := low0 hb205 hi385
       obtain e392 := c_0 (Xo 0 hbef rfl)
       obtain e393 := c_1 (Xo 1 hbef rfl)
       obtain e394 := c_2 (Xo 2 hbef rfl)
       obtain e395 := c_3 (Xo 3 hbef rfl)
       obtain e396 := c_4 (Xo 4 hbef rfl)
       obtain e397 := c_5 (Xo 5 hbef rfl)
       obtain e398 := c_6 (Xo 6 hbef rfl)
       obtain e399 := c_7 (Xo 7 hbef rfl)
       obtain e400 := c_8 (Xo 8 hbef rfl)
       obtain e401 := c_9 (Xo 9 hbef rfl)
       refine Xu (vs := [.int .i64 ((rAt (mAt ms ((k114 - 1).toNat)).t.slots ((aa).toNat)).th), .int .i64 ((rAt (mAt ms ((k114 - 1).toNat)).t.slots ((aa).toNat)).ve), .bool ((rAt (mAt ms ((k114 - 1).toNat)).t.slots ((aa).toNat)).rd), .bool ((rAt (mAt ms ((k114 - 1).toNat)).t.slots ((aa).toNat)).wr), .bool ((rAt (mAt ms ((k114 - 1).toNat)).t.slots ((aa).toNat)).wk)]) Y8 e401 rfl (Za (Yo hr261 hi385) 0 5 rfl) rfl ?_
       exact Xa ⟨B268, hi385, e386, e387, e388, e389, e390, c_0, c_1, c_2, c_3, c_4, c_5, c_6, c_7, c_8, c_9, fun _ => rfl, c_11⟩
      refine X6 (fun S F w402 hS hbef hcl hI => ?_) ?_
      ·
       obtain ⟨B268, hi403, e404, e405, e406, e407, e408, c_0, c_1, c_2, c_3, c_4, c_5, c_6, c_7, c_8, c_9, c_10, c_11⟩ := hI
       have hb409 := low0 hb205 hi403
       refine Yj (cs := #[.int .i64 0, .int .i64 0, .bool false, .bool false, .bool false]) J3 rfl rfl ?_
       intro B410 w411 hN412
       have hlB410 := Yf hN412 hb409
       have hhiB410 : hi ≤ B410 := Nat.le_trans (Nat.le_trans (Nat.le_trans (Nat.le_trans hhs hg196.size) hg204.size) hi403.size) (Nat.le_of_eq hN412.eq.symm)
       have k413 := (((k164.grown hg196 (Xf (by omega))).grown0 hg204).grown0 hi403)
       have lt_B101_B410 := Xq hN412 (k413).lt
       have k414 := (k207.grown0 hi403)
       have lt_B144_B410 := Xq hN412 (k414).lt
       have k415 := ((kR195.grown0 hg204).grown0 hi403)
       have lt_R_B410 := Xq hN412 (k415).lt
       have hb416 := low0 hb409 hN412.grw
       exact Xa ⟨B410, (low0 hi403 hN412.grw), e404, e405, e406, e407, e408, c_0, c_1, c_2, c_3, c_4, c_5, c_6, c_7, c_8, c_9, c_10, fun _ => ⟨rfl, hlB410, hN412.blk, lt_B101_B410, lt_B144_B410, lt_R_B410, (Nat.le_trans hi403.size (Nat.le_of_eq hN412.eq.symm))⟩⟩
      exact Q5
     ·
      intro S F w417 hall hI
      obtain ⟨B268, hi418, e419, e420, e421, e422, e423, c_0, c_1, c_2, c_3, c_4, c_5, c_6, c_7, c_8, c_9, c_10, c_11⟩ := hI
      have hb424 := low0 hb205 hi418
      obtain e425 := c_0 (hall 0 (by decide))
      obtain e426 := c_1 (hall 1 (by decide))
      obtain e427 := c_2 (hall 2 (by decide))
      obtain e428 := c_3 (hall 3 (by decide))
      obtain e429 := c_4 (hall 4 (by decide))
      obtain e430 := c_5 (hall 5 (by decide))
      obtain e431 := c_6 (hall 6 (by decide))
      obtain e432 := c_7 (hall 7 (by decide))
      obtain e433 := c_8 (hall 8 (by decide))
      obtain e434 := c_9 (hall 9 (by decide))
      obtain e435 := c_10 (hall 10 (by decide))
      obtain ⟨e436, hlB268, kb_B268, lt_B101_B268, lt_B144_B268, lt_R_B268, hk_B268⟩ := c_11 (hall 11 (by decide))
      refine Xz (vs := [.int .i64 ((rAt (mAt ms ((k114 - 1).toNat)).t.slots ((aa).toNat)).th), .int .i64 ((rAt (mAt ms ((k114 - 1).toNat)).t.slots ((aa).toNat)).ve), .bool ((rAt (mAt ms ((k114 - 1).toNat)).t.slots ((aa).toNat)).rd), .bool ((rAt (mAt ms ((k114 - 1).toNat)).t.slots ((aa).toNat)).wr), .bool ((rAt (mAt ms ((k114 - 1).toNat)).t.slots ((aa).toNat)).wk)]) (cs' := #[.int .i64 ((rAt (mAt ms ((k114 - 1).toNat)).t.slots ((aa).toNat)).th), .int .i64 ((rAt (mAt ms ((k114 - 1).toNat)).t.slots ((aa).toNat)).ve), .bool ((rAt (mAt ms ((k114 - 1).toNat)).t.slots ((aa).toNat)).rd), .bool ((rAt (mAt ms ((k114 - 1).toNat)).t.slots ((aa).toNat)).wr), .bool ((rAt (mAt ms ((k114 - 1).toNat)).t.slots ((aa).toNat)).wk)]) Y8 e436 e435 rfl (by simp [Value.oneCell']) kb_B268 (Nat.le_of_ble_eq_true rfl) rfl ?_
      intro w437 hS438
      have hb439 := low1 hb424 hS438.grw (by omega)
      refine Xa ?_
      refine Xv ?_
      refine Xt ?_
      refine Q0 (fun f' w' => (f' 0 = .pointer (some ⟨R, 0, none⟩) ∧ f' 1 = .slice ta ms.length tc ∧ f' 4 = .pointer (some ⟨B101, 0, none⟩) ∧ f' 5 = .pointer (some ⟨B144, 0, none⟩) ∧ f' 6 = .int .i64 (i : Int) ∧ f' 79 = .bool ((decide (kk = 3)) || (inR ((rAt (mAt ms ((k114 - 1).toNat)).t.slots ((aa).toNat)).th) 1 (ms.length : Int) && kindFor kk ((mAt ms ((((rAt (mAt ms ((k114 - 1).toNat)).t.slots ((aa).toNat)).th) - 1).toNat)).t.kind)))) ∧ w437.grownBy w' none) ?_ ?_
      ·
       rcases Yb (decide (kk = 3)) with h461 | h461
       ·
        have h462 := of_decide_eq_true h461
        refine Ze (m := 19) (vals := [(58, .pointer (some ⟨B144, 0, none⟩)), (59, .int .i64 kk), (60, .bool (decide (kk = 3))), (61, .bool (decide (kk = 3))), (62, undef), (63, undef), (64, undef), (65, undef), (66, undef), (67, undef), (68, undef), (69, undef), (70, undef), (71, undef), (72, undef), (73, undef), (74, undef), (75, undef), (76, undef)]) (fun w' => w437.grownBy w' none) Zi (by kernel_rfl) (Yl _) ?_ ?_
        ·
         refine Xj rfl (fun w466 hi467 => ?_) ?_
         ·
          have hb468 := low0 hb439 hi467
          refine Xd (o' := 0) Zm e422 rfl rfl ?_
          exact Xa ⟨rfl, hi467⟩
         refine Xj rfl (fun w469 hi470 => ?_) ?_
         ·
          have hb471 := low0 hb439 hi470
          have k472 := (((k207.grown0 hi418).grown hS438.grw (Xf (by omega))).grown0 hi470)
          refine Xi (v := .int .i64 kk) X3 rfl (k472.cell rfl) rfl ?_
          exact Xa ⟨rfl, hi470⟩
         refine Xj rfl (fun w473 hi474 => ?_) ?_
         ·
          have hb475 := low0 hb439 hi474
          refine X4 (q := decide (kk = 3)) rfl rfl rfl rfl ?_
          exact Xa ⟨rfl, hi474⟩
         refine Xj rfl (fun w476 hi477 => ?_) ?_
         ·
          have hb478 := low0 hb439 hi477
          refine Xc (v := .bool (decide (kk = 3))) rfl rfl ?_
          exact Xa ⟨rfl, hi477⟩
         refine Xj rfl (fun w479 hi480 => ?_) ?_
         ·
          have hb481 := low0 hb439 hi480
          refine Xk rfl rfl rfl h461 rfl ?_
          exact Xa ⟨rfl, hi480⟩
         refine Xj rfl (fun w482 hi483 => ?_) ?_
         ·
          have hb484 := low0 hb439 hi483
          refine Xk rfl rfl rfl h461 rfl ?_
          exact Xa ⟨rfl, hi483⟩
         refine Xj rfl (fun w485 hi486 => ?_) ?_
         ·
          have hb487 := low0 hb439 hi486
          refine Xk rfl rfl rfl h461 rfl ?_
          exact Xa ⟨rfl, hi486⟩
         refine Xj rfl (fun w488 hi489 => ?_) ?_
         ·
          have hb490 := low0 hb439 hi489
          refine Xk rfl rfl rfl h461 rfl ?_
          exact Xa ⟨rfl, hi489⟩
         refine Xj rfl (fun w491 hi492 => ?_) ?_
         ·
          have hb493 := low0 hb439 hi492
          refine Xk rfl rfl rfl h461 rfl ?_
          exact Xa ⟨rfl, hi492⟩
         refine Xj rfl (fun w494 hi495 => ?_) ?_
         ·
          have hb496 := low0 hb439 hi495
          refine Xk rfl rfl rfl h461 rfl ?_
          exact Xa ⟨rfl, hi495⟩
         refine Xj rfl (fun w497 hi498 => ?_) ?_
         ·
          have hb499 := low0 hb439 hi498
          refine Yg rfl rfl rfl rfl ?_
          exact Xa ⟨rfl, hi498⟩
         refine Xj rfl (fun w500 hi501 => ?_) ?_
         ·
          have hb502 := low0 hb439 hi501
          refine Yg rfl rfl rfl rfl ?_
          exact Xa ⟨rfl, hi501⟩
         refine Xj rfl (fun w503 hi504 => ?_) ?_
         ·
          have hb505 := low0 hb439 hi504
          refine Yg rfl rfl rfl rfl ?_
          exact Xa ⟨rfl, hi504⟩
         refine Xj rfl (fun w506 hi507 => ?_) ?_
         ·
          have hb508 := low0 hb439 hi507
          refine Yg rfl rfl rfl rfl ?_
          exact Xa ⟨rfl, hi507⟩
         refine Xj rfl (fun w509 hi510 => ?_) ?_
         ·
          have hb511 := low0 hb439 hi510
          refine Yg rfl rfl rfl rfl ?_
          exact Xa ⟨rfl, hi510⟩
         refine Xj rfl (fun w512 hi513 => ?_) ?_
         ·
          have hb514 := low0 hb439 hi513
          refine Yg rfl rfl rfl rfl ?_
          exact Xa ⟨rfl, hi513⟩
         refine Xj rfl (fun w515 hi516 => ?_) ?_
         ·
          have hb517 := low0 hb439 hi516
          refine Yg rfl rfl rfl rfl ?_
          exact Xa ⟨rfl, hi516⟩
         refine Xj rfl (fun w518 hi519 => ?_) ?_
         ·
          have hb520 := low0 hb439 hi519
          refine Yg rfl rfl rfl rfl ?_
          exact Xa ⟨rfl, hi519⟩
         refine Xj rfl (fun w521 hi522 => ?_) ?_
         ·
          have hb523 := low0 hb439 hi522
          refine Yg rfl rfl rfl rfl ?_
          exact Xa ⟨rfl, hi522⟩
         exact Zj
        ·
         intro w524 hi525
         have hb526 := low0 hb439 hi525
         refine Yg rfl rfl rfl rfl ?_
         refine Xk rfl rfl rfl h461 rfl ?_
         refine Xr (v := .bool true) rfl h461 rfl rfl ?_
         exact Xa (Xv ⟨⟨e419, e420, e421, e422, e423, (congrArg Value.bool (by first | (simp only [h190, h199, h206, h218, h461, b0, b1, b2, b3, b4, b5, b6, b7, b8, b9]; done) | simp [h190, h199, h206, h218, h461]))⟩, hi525⟩)
       ·
        have h527 := of_decide_eq_false h461
        rcases Yb (inR ((rAt (mAt ms ((k114 - 1).toNat)).t.slots ((aa).toNat)).th) 1 (ms.length : Int)) with h532 | h532
        ·
         have hr533 := Zb.1 h532
         have hTG567 := (TabG.ge (TabG.low hTG216 hi418) hS438.grw hTH (by omega))
         obtain ⟨b561, q562, o563, ha564, ho565, hr566⟩ := SlAt.at (TabG.at hTG567).1 (Yn (Ya (show (((rAt (mAt ms ((k114 - 1).toNat)).t.slots ((aa).toNat)).th) - 1).toNat < ms.length by omega)))
         have hle568 := TabLen.at hlen (Ya (show (((rAt (mAt ms ((k114 - 1).toNat)).t.slots ((aa).toNat)).th) - 1).toNat < ms.length by omega))
         refine Ze (m := 19) (vals := [(58, .pointer (some ⟨B144, 0, none⟩)), (59, .int .i64 kk), (60, .bool (decide (kk = 3))), (61, .bool (decide (kk = 3))), (62, .pointer (some ⟨B268, 0, none⟩)), (63, .int .i64 ((rAt (mAt ms ((k114 - 1).toNat)).t.slots ((aa).toNat)).th)), (64, .slice ta ms.length tc), (65, .int .i64 (ms.length : Int)), (66, .bool (inR ((rAt (mAt ms ((k114 - 1).toNat)).t.slots ((aa).toNat)).th) 1 (ms.length : Int))), (67, .bool (inR ((rAt (mAt ms ((k114 - 1).toNat)).t.slots ((aa).toNat)).th) 1 (ms.length : Int))), (68, .pointer (some ⟨B144, 0, none⟩)), (69, .int .i64 kk), (70, .slice ta ms.length tc), (71, .pointer (some ⟨B268, 0, none⟩)), (72, .int .i64 ((rAt (mAt ms ((k114 - 1).toNat)).t.slots ((aa).toNat)).th)), (73, .int .i64 (((rAt (mAt ms ((k114 - 1).toNat)).t.slots ((aa).toNat)).th) - 1)), (74, .pointer (some ⟨b561, o563, none⟩)), (75, .pointer (some ⟨b561, o563, none⟩)), (76, .int .i64 ((mAt ms ((((rAt (mAt ms ((k114 - 1).toNat)).t.slots ((aa).toNat)).th) - 1).toNat)).t.kind))]) (fun w' => w437.grownBy w' none) Zi (by kernel_rfl) (Yl _) ?_ ?_
         ·
          refine Xj rfl (fun w578 hi579 => ?_) ?_
          ·
           have hb580 := low0 hb439 hi579
           refine Xd (o' := 0) Zm e422 rfl rfl ?_
           exact Xa ⟨rfl, hi579⟩
          refine Xj rfl (fun w581 hi582 => ?_) ?_
          ·
           have hb583 := low0 hb439 hi582
           have k584 := (((k207.grown0 hi418).grown hS438.grw (Xf (by omega))).grown0 hi582)
           refine Xi (v := .int .i64 kk) X3 rfl (k584.cell rfl) rfl ?_
           exact Xa ⟨rfl, hi582⟩
          refine Xj rfl (fun w585 hi586 => ?_) ?_
          ·
           have hb587 := low0 hb439 hi586
           refine X4 (q := decide (kk = 3)) rfl rfl rfl rfl ?_
           exact Xa ⟨rfl, hi586⟩
          refine Xj rfl (fun w588 hi589 => ?_) ?_
          ·
           have hb590 := low0 hb439 hi589
           refine Xc (v := .bool (decide (kk = 3))) rfl rfl ?_
           exact Xa ⟨rfl, hi589⟩
          refine Xj rfl (fun w591 hi592 => ?_) ?_
          ·
           have hb593 := low0 hb439 hi592
           refine Xe rfl rfl rfl h461 ?_
           refine Xd (o' := 0) Yp e436 rfl rfl ?_
           exact Xa ⟨rfl, hi592⟩
          refine Xj rfl (fun w594 hi595 => ?_) ?_
          ·
           have hb596 := low0 hb439 hi595
           refine Xe rfl rfl rfl h461 ?_
           have k597 := (hS438.blk.grown0 hi595)
           refine Xi (v := .int .i64 ((rAt (mAt ms ((k114 - 1).toNat)).t.slots ((aa).toNat)).th)) X3 rfl (k597.cell rfl) rfl ?_
           exact Xa ⟨rfl, hi595⟩
          refine Xj rfl (fun w598 hi599 => ?_) ?_
          ·
           have hb600 := low0 hb439 hi599
           refine Xe rfl rfl rfl h461 ?_
           refine Xc (v := .slice ta ms.length tc) e420 rfl ?_
           exact Xa ⟨rfl, hi599⟩
          refine Xj rfl (fun w601 hi602 => ?_) ?_
          ·
           have hb603 := low0 hb439 hi602
           refine Xe rfl rfl rfl h461 ?_
           refine Ym (by kernel_rfl) rfl rfl ?_
           exact Xa ⟨rfl, hi602⟩
          refine Xj rfl (fun w604 hi605 => ?_) ?_
          ·
           have hb606 := low0 hb439 hi605
           refine Xe rfl rfl rfl h461 ?_
           refine Xn (vs := [.int .i64 ((rAt (mAt ms ((k114 - 1).toNat)).t.slots ((aa).toNat)).th), .int .i64 1, .int .i64 (ms.length : Int)]) Q4 (Xg rfl (Xg rfl (Xg rfl Xm))) rfl (Qk ((rAt (mAt ms ((k114 - 1).toNat)).t.slots ((aa).toNat)).th) 1 (ms.length : Int) _) ?_
           rintro _ w607 ⟨rfl, hg608⟩
           have hb609 := low0 hb606 hg608
           exact Xa ⟨rfl, (grown_trans hi605 hg608)⟩
          refine Xj rfl (fun w610 hi611 => ?_) ?_
          ·
           have hb612 := low0 hb439 hi611
           refine Xe rfl rfl rfl h461 ?_
           refine Xc (v := .bool (inR ((rAt (mAt ms ((k114 - 1).toNat)).t.slots ((aa).toNat)).th) 1 (ms.length : Int))) rfl rfl ?_
           exact Xa ⟨rfl, hi611⟩
          refine Xj rfl (fun w613 hi614 => ?_) ?_
          ·
           have hb615 := low0 hb439 hi614
           refine Xe rfl rfl rfl h532 ?_
           refine Xd (o' := 0) Zm e422 rfl rfl ?_
           exact Xa ⟨rfl, hi614⟩
          refine Xj rfl (fun w616 hi617 => ?_) ?_
          ·
           have hb618 := low0 hb439 hi617
           refine Xe rfl rfl rfl h532 ?_
           have k619 := (((k207.grown0 hi418).grown hS438.grw (Xf (by omega))).grown0 hi617)
           refine Xi (v := .int .i64 kk) X3 rfl (k619.cell rfl) rfl ?_
           exact Xa ⟨rfl, hi617⟩
          refine Xj rfl (fun w620 hi621 => ?_) ?_
          ·
           have hb622 := low0 hb439 hi621
           refine Xe rfl rfl rfl h532 ?_
           refine Xc (v := .slice ta ms.length tc) e420 rfl ?_
           exact Xa ⟨rfl, hi621⟩
          refine Xj rfl (fun w623 hi624 => ?_) ?_
          ·
           have hb625 := low0 hb439 hi624
           refine Xe rfl rfl rfl h532 ?_
           refine Xd (o' := 0) Yp e436 rfl rfl ?_
           exact Xa ⟨rfl, hi624⟩
          refine Xj rfl (fun w626 hi627 => ?_) ?_
          ·
           have hb628 := low0 hb439 hi627
           refine Xe rfl rfl rfl h532 ?_
           have k629 := (hS438.blk.grown0 hi627)
           refine Xi (v := .int .i64 ((rAt (mAt ms ((k114 - 1).toNat)).t.slots ((aa).toNat)).th)) X3 rfl (k629.cell rfl) rfl ?_
           exact Xa ⟨rfl, hi627⟩
          refine Xj rfl (fun w630 hi631 => ?_) ?_
          ·
           have hb632 := low0 hb439 hi631
           refine Xe rfl rfl rfl h532 ?_
           refine Y3 (c := ((rAt (mAt ms ((k114 - 1).toNat)).t.slots ((aa).toNat)).th) - 1) rfl rfl (by omega) (by omega) (by omega) rfl ?_
           exact Xa ⟨rfl, hi631⟩
          refine Xj rfl (fun w633 hi634 => ?_) ?_
          ·
           have hb635 := low0 hb439 hi634
           refine Xe rfl rfl rfl h532 ?_
           refine Yd Zl rfl rfl ha564 ho565 (by omega) (by omega) rfl ?_
           exact Xa ⟨rfl, hi634⟩
          refine Xj rfl (fun w636 hi637 => ?_) ?_
          ·
           have hb638 := low0 hb439 hi637
           refine Xe rfl rfl rfl h532 ?_
           refine Xd (o' := o563) Yt rfl rfl rfl ?_
           exact Xa ⟨rfl, hi637⟩
          refine Xj rfl (fun w639 hi640 => ?_) ?_
          ·
           have hb641 := low0 hb439 hi640
           refine Xe rfl rfl rfl h532 ?_
           refine Xi (v := .int .i64 ((mAt ms ((((rAt (mAt ms ((k114 - 1).toNat)).t.slots ((aa).toNat)).th) - 1).toNat)).t.kind)) X3 rfl ((Yo hr566 hi640) 0 _ rfl) rfl ?_
           exact Xa ⟨rfl, hi640⟩
          exact Zj
         ·
          intro w642 hi643
          have hb644 := low0 hb439 hi643
          refine Xe rfl rfl rfl h532 ?_
          refine Xn (vs := [.int .i64 kk, .int .i64 ((mAt ms ((((rAt (mAt ms ((k114 - 1).toNat)).t.slots ((aa).toNat)).th) - 1).toNat)).t.kind)]) U7 (Xg rfl (Xg rfl Xm)) rfl (Jf kk ((mAt ms ((((rAt (mAt ms ((k114 - 1).toNat)).t.slots ((aa).toNat)).th) - 1).toNat)).t.kind) _) ?_
          rintro _ w645 ⟨rfl, hg646⟩
          have hb647 := low0 hb644 hg646
          refine Xe rfl rfl rfl h461 ?_
          refine Xr (v := .bool (kindFor kk ((mAt ms ((((rAt (mAt ms ((k114 - 1).toNat)).t.slots ((aa).toNat)).th) - 1).toNat)).t.kind))) rfl h532 rfl rfl ?_
          refine Xl (v := .bool (kindFor kk ((mAt ms ((((rAt (mAt ms ((k114 - 1).toNat)).t.slots ((aa).toNat)).th) - 1).toNat)).t.kind))) rfl h461 rfl rfl ?_
          exact Xa (Xv ⟨⟨e419, e420, e421, e422, e423, (congrArg Value.bool (by first | (simp only [h190, h199, h206, h218, h461, h532, b0, b1, b2, b3, b4, b5, b6, b7, b8, b9]; done) | simp [h190, h199, h206, h218, h461, h532]))⟩, (grown_trans hi643 hg646)⟩)
        ·
         refine Ze (m := 19) (vals := [(58, .pointer (some ⟨B144, 0, none⟩)), (59, .int .i64 kk), (60, .bool (decide (kk = 3))), (61, .bool (decide (kk = 3))), (62, .pointer (some ⟨B268, 0, none⟩)), (63, .int .i64 ((rAt (mAt ms ((k114 - 1).toNat)).t.slots ((aa).toNat)).th)), (64, .slice ta ms.length tc), (65, .int .i64 (ms.length : Int)), (66, .bool (inR ((rAt (mAt ms ((k114 - 1).toNat)).t.slots ((aa).toNat)).th) 1 (ms.length : Int))), (67, .bool (inR ((rAt (mAt ms ((k114 - 1).toNat)).t.slots ((aa).toNat)).th) 1 (ms.length : Int))), (68, undef), (69, undef), (70, undef), (71, undef), (72, undef), (73, undef), (74, undef), (75, undef), (76, undef)]) (fun w' => w437.grownBy w' none) Zi (by kernel_rfl) (Yl _) ?_ ?_
         ·
          refine Xj rfl (fun w660 hi661 => ?_) ?_
          ·
           have hb662 := low0 hb439 hi661
           refine Xd (o' := 0) Zm e422 rfl rfl ?_
           exact Xa ⟨rfl, hi661⟩
          refine Xj rfl (fun w663 hi664 => ?_) ?_
          ·
           have hb665 := low0 hb439 hi664
           have k666 := (((k207.grown0 hi418).grown hS438.grw (Xf (by omega))).grown0 hi664)
           refine Xi (v := .int .i64 kk) X3 rfl (k666.cell rfl) rfl ?_
           exact Xa ⟨rfl, hi664⟩
          refine Xj rfl (fun w667 hi668 => ?_) ?_
          ·
           have hb669 := low0 hb439 hi668
           refine X4 (q := decide (kk = 3)) rfl rfl rfl rfl ?_
           exact Xa ⟨rfl, hi668⟩
          refine Xj rfl (fun w670 hi671 => ?_) ?_
          ·
           have hb672 := low0 hb439 hi671
           refine Xc (v := .bool (decide (kk = 3))) rfl rfl ?_
           exact Xa ⟨rfl, hi671⟩
          refine Xj rfl (fun w673 hi674 => ?_) ?_
          ·
           have hb675 := low0 hb439 hi674
           refine Xe rfl rfl rfl h461 ?_
           refine Xd (o' := 0) Yp e436 rfl rfl ?_
           exact Xa ⟨rfl, hi674⟩
          refine Xj rfl (fun w676 hi677 => ?_) ?_
          ·
           have hb678 := low0 hb439 hi677
           refine Xe rfl rfl rfl h461 ?_
           have k679 := (hS438.blk.grown0 hi677)
           refine Xi (v := .int .i64 ((rAt (mAt ms ((k114 - 1).toNat)).t.slots ((aa).toNat)).th)) X3 rfl (k679.cell rfl) rfl ?_
           exact Xa ⟨rfl, hi677⟩
          refine Xj rfl (fun w680 hi681 => ?_) ?_
          ·
           have hb682 := low0 hb439 hi681
           refine Xe rfl rfl rfl h461 ?_
           refine Xc (v := .slice ta ms.length tc) e420 rfl ?_
           exact Xa ⟨rfl, hi681⟩
          refine Xj rfl (fun w683 hi684 => ?_) ?_
          ·
           have hb685 := low0 hb439 hi684
           refine Xe rfl rfl rfl h461 ?_
           refine Ym (by kernel_rfl) rfl rfl ?_
           exact Xa ⟨rfl, hi684⟩
          refine Xj rfl (fun w686 hi687 => ?_) ?_
          ·
           have hb688 := low0 hb439 hi687
           refine Xe rfl rfl rfl h461 ?_
           refine Xn (vs := [.int .i64 ((rAt (mAt ms ((k114 - 1).toNat)).t.slots ((aa).toNat)).th), .int .i64 1, .int .i64 (ms.length : Int)]) Q4 (Xg rfl (Xg rfl (Xg rfl Xm))) rfl (Qk ((rAt (mAt ms ((k114 - 1).toNat)).t.slots ((aa).toNat)).th) 1 (ms.length : Int) _) ?_
           rintro _ w689 ⟨rfl, hg690⟩
           have hb691 := low0 hb688 hg690
           exact Xa ⟨rfl, (grown_trans hi687 hg690)⟩
          refine Xj rfl (fun w692 hi693 => ?_) ?_
          ·
           have hb694 := low0 hb439 hi693
           refine Xe rfl rfl rfl h461 ?_
           refine Xc (v := .bool (inR ((rAt (mAt ms ((k114 - 1).toNat)).t.slots ((aa).toNat)).th) 1 (ms.length : Int))) rfl rfl ?_
           exact Xa ⟨rfl, hi693⟩
          refine Xj rfl (fun w695 hi696 => ?_) ?_
          ·
           have hb697 := low0 hb439 hi696
           refine Xk rfl rfl rfl h532 rfl ?_
           exact Xa ⟨rfl, hi696⟩
          refine Xj rfl (fun w698 hi699 => ?_) ?_
          ·
           have hb700 := low0 hb439 hi699
           refine Xk rfl rfl rfl h532 rfl ?_
           exact Xa ⟨rfl, hi699⟩
          refine Xj rfl (fun w701 hi702 => ?_) ?_
          ·
           have hb703 := low0 hb439 hi702
           refine Xk rfl rfl rfl h532 rfl ?_
           exact Xa ⟨rfl, hi702⟩
          refine Xj rfl (fun w704 hi705 => ?_) ?_
          ·
           have hb706 := low0 hb439 hi705
           refine Xk rfl rfl rfl h532 rfl ?_
           exact Xa ⟨rfl, hi705⟩
          refine Xj rfl (fun w707 hi708 => ?_) ?_
          ·
           have hb709 := low0 hb439 hi708
           refine Xk rfl rfl rfl h532 rfl ?_
           exact Xa ⟨rfl, hi708⟩
          refine Xj rfl (fun w710 hi711 => ?_) ?_
          ·
           have hb712 := low0 hb439 hi711
           refine Xk rfl rfl rfl h532 rfl ?_
           exact Xa ⟨rfl, hi711⟩
          refine Xj rfl (fun w713 hi714 => ?_) ?_
          ·
           have hb715 := low0 hb439 hi714
           refine Xk rfl rfl rfl h532 rfl ?_
           exact Xa ⟨rfl, hi714⟩
          refine Xj rfl (fun w716 hi717 => ?_) ?_
          ·
           have hb718 := low0 hb439 hi717
           refine Xk rfl rfl rfl h532 rfl ?_
           exact Xa ⟨rfl, hi717⟩
          refine Xj rfl (fun w719 hi720 => ?_) ?_
          ·
           have hb721 := low0 hb439 hi720
           refine Xk rfl rfl rfl h532 rfl ?_
           exact Xa ⟨rfl, hi720⟩
          exact Zj
         ·
          intro w722 hi723
          have hb724 := low0 hb439 hi723
          refine Xk rfl rfl rfl h532 rfl ?_
          refine Xe rfl rfl rfl h461 ?_
          refine Xl (v := .bool false) rfl h532 rfl rfl ?_
          refine Xl (v := .bool false) rfl h461 rfl rfl ?_
          exact Xa (Xv ⟨⟨e419, e420, e421, e422, e423, (congrArg Value.bool (by first | (simp only [h190, h199, h206, h218, h461, h532, b0, b1, b2, b3, b4, b5, b6, b7, b8, b9]; done) | simp [h190, h199, h206, h218, h461, h532]))⟩, hi723⟩)
      ·
       rintro f725 w726 ⟨⟨e727, e728, e729, e730, e731, e732⟩, hg733⟩
       have hb734 := low0 hb439 hg733
       refine Xw e732 (fun h735 => ?_) (fun h735 => ?_)
       ·
        refine Y5 ?_
        refine Y2 ?_
        refine Mp (by decide) ?_
        refine Y2 ?_
        refine Y2 ?_
        refine Z1 ?_
        refine Xv ?_
        refine Xt ?_
        refine Xb ?_
        refine Xc (v := .pointer (some ⟨R, 0, none⟩)) e727 rfl ?_
        have k736 := ((((kR195.grown0 hg204).grown0 hi418).grown hS438.grw (Xf (by omega))).grown0 hg733)
        refine Xn (vs := [.pointer (some ⟨R, 0, none⟩), .int .i64 50]) Y1 (Xg rfl (Xg rfl Xm)) rfl (Yr (p1 + 1) 50 (by omega) _ R bs _ _ _ k736 (by omega) (SlLt.low1 hs hb734 hlo) (by first | exact hb | exact fun b h => hb b (List.mem_of_mem_take h)) (by first | omega | (rw [List.length_take]; omega))) ?_
        rintro _ w742 ⟨k737, rfl, hk738, hk739, kR740, hg741⟩
        have hb743 := grown_trans hb734 hg741
        refine Xa ?_
        refine Ye ?_
        refine Xb ?_
        refine X4 (q := decide (k737 = 0)) rfl rfl rfl rfl ?_
        refine Xh (v := .bool (decide (k737 = 0))) rfl rfl ?_
        refine Xa ?_
        refine Xw rfl (fun h744 => ?_) (fun h744 => ?_)
        ·
         have h745 := of_decide_eq_true h744
         refine X1 ?_
         refine X7 (ps := [(0, .int .i64 0), (1, .int .i64 10)]) (e := 3) (cs := (([0, 10] : List Int).flatMap icell).toArray) (Xp rfl (Xp rfl X9)) (fun _ => by kernel_rfl) rfl ?_
         intro B746 w747 hN748
         have hlB746 := Yf hN748 hb743
         have hhiB746 : hi ≤ B746 := Nat.le_trans (Nat.le_trans (Nat.le_trans (Nat.le_trans (Nat.le_trans (Nat.le_trans (Nat.le_trans hhs hg196.size) hg204.size) hi418.size) hS438.grw.size) hg733.size) hg741.size) (Nat.le_of_eq hN748.eq.symm)
         have k749 := ((((((k164.grown hg196 (Xf (by omega))).grown0 hg204).grown0 hi418).grown hS438.grw (Xf (by omega))).grown0 hg733).grown hg741 (Xf (by omega)))
         have lt_B101_B746 := Xq hN748 (k749).lt
         have k750 := ((((k207.grown0 hi418).grown hS438.grw (Xf (by omega))).grown0 hg733).grown hg741 (Xf (by omega)))
         have lt_B144_B746 := Xq hN748 (k750).lt
         have lt_R_B746 := Xq hN748 (kR740).lt
         have k751 := ((hS438.blk.grown0 hg733).grown hg741 (Xf (by omega)))
         have lt_B268_B746 := Xq hN748 (k751).lt
         have hb752 := low0 hb743 hN748.grw
         refine Xc (v := .pointer (some ⟨R, 0, none⟩)) e727 rfl ?_
         have k753 := (kR740.grown0 hN748.grw)
         refine Xn (vs := [.pointer (some ⟨R, 0, none⟩), .int .i64 2]) Y1 (Xg rfl (Xg rfl Xm)) rfl (Yr (p1 + 1 + 1) 2 (by omega) _ R bs _ _ _ k753 (by omega) (SlLt.low1 hs hb752 hlo) (by first | exact hb | exact fun b h => hb b (List.mem_of_mem_take h)) (by first | omega | (rw [List.length_take]; omega))) ?_
         rintro _ w759 ⟨k754, rfl, hk755, hk756, kR757, hg758⟩
         have hb760 := grown_trans hb752 hg758
         refine X8 (o' := (k754).toNat * 1) Qa rfl rfl (by omega) (by omega) (by omega) rfl ?_
         have k761 := (hN748.blk.grown hg758 (Xf (by omega)))
         obtain ⟨x762, hx763⟩ := Zf (l := ([0, 10] : List Int)) (i := (k754).toNat) (show (k754).toNat < 2 by omega)
         have hm764 := List.mem_of_getElem? hx763
         simp only [List.mem_cons, List.not_mem_nil, or_false] at hm764
         refine Xi (v := .int .i64 x762) X3 rfl ((Y9 Ys k761 hx763) 0 _ rfl) rfl ?_
         refine Xd (o' := 0) Zm e730 rfl rfl ?_
         have k765 := ((k750.grown0 hN748.grw).grown hg758 (Xf (by omega)))
         refine Yc (v := .int .i64 x762) (cs' := #[.int .i64 x762, .int .i64 k114, .int .i64 aa, .int .i64 k130, .int .i64 k137]) X3 rfl rfl rfl k765 (Nat.le_of_ble_eq_true rfl) rfl ?_
         intro w766 hS767
         have hb768 := low1 hb760 hS767.grw (by omega)
         refine Xa ?_
         refine Yy ?_
         refine Xv ?_
         refine Xb ?_
         refine Xu (vs := [.int .i64 x762, .int .i64 k114, .int .i64 aa, .int .i64 k130, .int .i64 k137]) Yv e730 rfl (hS767.blk.rangeL 0 5 rfl) rfl ?_
         have k769 := (((k749.grown0 hN748.grw).grown hg758 (Xf (by omega))).grown hS767.grw (Xf (by omega)))
         refine Xz (vs := [.int .i64 x762, .int .i64 k114, .int .i64 aa, .int .i64 k130, .int .i64 k137]) (cs' := #[.int .i64 x762, .int .i64 k114, .int .i64 aa, .int .i64 k130, .int .i64 k137]) Yv e729 rfl rfl (by simp [Value.oneCell']) k769 (Nat.le_of_ble_eq_true rfl) rfl ?_
         intro w770 hS771
         have hb772 := low1 hb768 hS771.grw (by omega)
         refine Xa ?_
         refine Xs ?_
         have k773 := ((kR757.grown hS767.grw (Xf (by omega))).grown hS771.grw (Xf (by omega)))
         refine ⟨.agg #[.int .i64 x762, .int .i64 k114, .int .i64 aa, .int .i64 k130, .int .i64 k137], Zx rfl (Yh (vs := [.int .i64 x762, .int .i64 k114, .int .i64 aa, .int .i64 k130, .int .i64 k137]) Yv e729 rfl (hS771.blk.rangeL 0 5 rfl)), ⟨x762, k114, aa, k130, k137⟩, (p1 + 1 + 1 + 1), rfl, ⟨⟨show (0 : Int) ≤ x762 by omega, show x762 ≤ (10 : Int) by omega⟩, ⟨show (1 : Int) ≤ k114 by omega, show k114 ≤ (ms.length : Int) by omega⟩, ⟨show (-1 : Int) ≤ aa by omega, show aa ≤ (4 : Int) by omega⟩, ⟨show (0 : Int) ≤ k130 by omega, show k130 ≤ (3 : Int) by omega⟩, show (-1 : Int) ≤ k137 by omega, show k137 ≤ (100 : Int) by omega⟩, by omega, by omega, k773, hb772⟩
        ·
         have h774 := of_decide_eq_false h744
         refine Xb ?_
         refine X4 (q := decide (k737 = 1)) rfl rfl rfl rfl ?_
         refine Xh (v := .bool (decide (k737 = 1))) rfl rfl ?_
         refine Xa ?_
         refine Xw rfl (fun h775 => ?_) (fun h775 => ?_)
         ·
          have h776 := of_decide_eq_true h775
          refine X1 ?_
          refine X7 (ps := [(0, .int .i64 (-1)), (1, .int .i64 4)]) (e := 3) (cs := (([(-1), 4] : List Int).flatMap icell).toArray) (Xp rfl (Xp rfl X9)) (fun _ => by kernel_rfl) rfl ?_
          intro B777 w778 hN779
          have hlB777 := Yf hN779 hb743
          have hhiB777 : hi ≤ B777 := Nat.le_trans (Nat.le_trans (Nat.le_trans (Nat.le_trans (Nat.le_trans (Nat.le_trans (Nat.le_trans hhs hg196.size) hg204.size) hi418.size) hS438.grw.size) hg733.size) hg741.size) (Nat.le_of_eq hN779.eq.symm)
          have k780 := ((((((k164.grown hg196 (Xf (by omega))).grown0 hg204).grown0 hi418).grown hS438.grw (Xf (by omega))).grown0 hg733).grown hg741 (Xf (by omega)))
          have lt_B101_B777 := Xq hN779 (k780).lt
          have k781 := ((((k207.grown0 hi418).grown hS438.grw (Xf (by omega))).grown0 hg733).grown hg741 (Xf (by omega)))
          have lt_B144_B777 := Xq hN779 (k781).lt
          have lt_R_B777 := Xq hN779 (kR740).lt
          have k782 := ((hS438.blk.grown0 hg733).grown hg741 (Xf (by omega)))
          have lt_B268_B777 := Xq hN779 (k782).lt
          have hb783 := low0 hb743 hN779.grw
          refine Xc (v := .pointer (some ⟨R, 0, none⟩)) e727 rfl ?_
          have k784 := (kR740.grown0 hN779.grw)
          refine Xn (vs := [.pointer (some ⟨R, 0, none⟩), .int .i64 2]) Y1 (Xg rfl (Xg rfl Xm)) rfl (Yr (p1 + 1 + 1) 2 (by omega) _ R bs _ _ _ k784 (by omega) (SlLt.low1 hs hb783 hlo) (by first | exact hb | exact fun b h => hb b (List.mem_of_mem_take h)) (by first | omega | (rw [List.length_take]; omega))) ?_
          rintro _ w790 ⟨k785, rfl, hk786, hk787, kR788, hg789⟩
          have hb791 := grown_trans hb783 hg789
          refine X8 (o' := (k785).toNat * 1) Qa rfl rfl (by omega) (by omega) (by omega) rfl ?_
          have k792 := (hN779.blk.grown hg789 (Xf (by omega)))
          obtain ⟨x793, hx794⟩ := Zf (l := ([(-1), 4] : List Int)) (i := (k785).toNat) (show (k785).toNat < 2 by omega)
          have hm795 := List.mem_of_getElem? hx794
          simp only [List.mem_cons, List.not_mem_nil, or_false] at hm795
          refine Xi (v := .int .i64 x793) X3 rfl ((Y9 Ys k792 hx794) 0 _ rfl) rfl ?_
          refine Xd (o' := 2) Qt e730 rfl rfl ?_
          have k796 := ((k781.grown0 hN779.grw).grown hg789 (Xf (by omega)))
          refine Yc (v := .int .i64 x793) (cs' := #[.int .i64 kk, .int .i64 k114, .int .i64 x793, .int .i64 k130, .int .i64 k137]) X3 rfl rfl rfl k796 (Nat.le_of_ble_eq_true rfl) rfl ?_
          intro w797 hS798
          have hb799 := low1 hb791 hS798.grw (by omega)
          refine Xa ?_
          refine Yy ?_
          refine Xv ?_
          refine Xb ?_
          refine Xu (vs := [.int .i64 kk, .int .i64 k114, .int .i64 x793, .int .i64 k130, .int .i64 k137]) Yv e730 rfl (hS798.blk.rangeL 0 5 rfl) rfl ?_
          have k800 := (((k780.grown0 hN779.grw).grown hg789 (Xf (by omega))).grown hS798.grw (Xf (by omega)))
          refine Xz (vs := [.int .i64 kk, .int .i64 k114, .int .i64 x793, .int .i64 k130, .int .i64 k137]) (cs' := #[.int .i64 kk, .int .i64 k114, .int .i64 x793, .int .i64 k130, .int .i64 k137]) Yv e729 rfl rfl (by simp [Value.oneCell']) k800 (Nat.le_of_ble_eq_true rfl) rfl ?_
          intro w801 hS802
          have hb803 := low1 hb799 hS802.grw (by omega)
          refine Xa ?_
          refine Xs ?_
          have k804 := ((kR788.grown hS798.grw (Xf (by omega))).grown hS802.grw (Xf (by omega)))
          refine ⟨.agg #[.int .i64 kk, .int .i64 k114, .int .i64 x793, .int .i64 k130, .int .i64 k137], Zx rfl (Yh (vs := [.int .i64 kk, .int .i64 k114, .int .i64 x793, .int .i64 k130, .int .i64 k137]) Yv e729 rfl (hS802.blk.rangeL 0 5 rfl)), ⟨kk, k114, x793, k130, k137⟩, (p1 + 1 + 1 + 1), rfl, ⟨⟨show (0 : Int) ≤ kk by omega, show kk ≤ (10 : Int) by omega⟩, ⟨show (1 : Int) ≤ k114 by omega, show k114 ≤ (ms.length : Int) by omega⟩, ⟨show (-1 : Int) ≤ x793 by omega, show x793 ≤ (4 : Int) by omega⟩, ⟨show (0 : Int) ≤ k130 by omega, show k130 ≤ (3 : Int) by omega⟩, show (-1 : Int) ≤ k137 by omega, show k137 ≤ (100 : Int) by omega⟩, by omega, by omega, k804, hb803⟩
         ·
          have h805 := of_decide_eq_false h775
          refine Xb ?_
          refine X4 (q := decide (k737 = 2)) rfl rfl rfl rfl ?_
          refine Xh (v := .bool (decide (k737 = 2))) rfl rfl ?_
          refine Xa ?_
          refine Xw rfl (fun h806 => ?_) (fun h806 => ?_)
          ·
           have h807 := of_decide_eq_true h806
           refine X1 ?_
           refine X7 (ps := [(0, .int .i64 (-1)), (1, .int .i64 100)]) (e := 3) (cs := (([(-1), 100] : List Int).flatMap icell).toArray) (Xp rfl (Xp rfl X9)) (fun _ => by kernel_rfl) rfl ?_
           intro B808 w809 hN810
           have hlB808 := Yf hN810 hb743
           have hhiB808 : hi ≤ B808 := Nat.le_trans (Nat.le_trans (Nat.le_trans (Nat.le_trans (Nat.le_trans (Nat.le_trans (Nat.le_trans hhs hg196.size) hg204.size) hi418.size) hS438.grw.size) hg733.size) hg741.size) (Nat.le_of_eq hN810.eq.symm)
           have k811 := ((((((k164.grown hg196 (Xf (by omega))).grown0 hg204).grown0 hi418).grown hS438.grw (Xf (by omega))).grown0 hg733).grown hg741 (Xf (by omega)))
           have lt_B101_B808 := Xq hN810 (k811).lt
           have k812 := ((((k207.grown0 hi418).grown hS438.grw (Xf (by omega))).grown0 hg733).grown hg741 (Xf (by omega)))
           have lt_B144_B808 := Xq hN810 (k812).lt
           have lt_R_B808 := Xq hN810 (kR740).lt
           have k813 := ((hS438.blk.grown0 hg733).grown hg741 (Xf (by omega)))
           have lt_B268_B808 := Xq hN810 (k813).lt
           have hb814 := low0 hb743 hN810.grw
           refine Xc (v := .pointer (some ⟨R, 0, none⟩)) e727 rfl ?_
           have k815 := (kR740.grown0 hN810.grw)
           refine Xn (vs := [.pointer (some ⟨R, 0, none⟩), .int .i64 2]) Y1 (Xg rfl (Xg rfl Xm)) rfl (Yr (p1 + 1 + 1) 2 (by omega) _ R bs _ _ _ k815 (by omega) (SlLt.low1 hs hb814 hlo) (by first | exact hb | exact fun b h => hb b (List.mem_of_mem_take h)) (by first | omega | (rw [List.length_take]; omega))) ?_
           rintro _ w821 ⟨k816, rfl, hk817, hk818, kR819, hg820⟩
           have hb822 := grown_trans hb814 hg820
           refine X8 (o' := (k816).toNat * 1) Qa rfl rfl (by omega) (by omega) (by omega) rfl ?_
           have k823 := (hN810.blk.grown hg820 (Xf (by omega)))
           obtain ⟨x824, hx825⟩ := Zf (l := ([(-1), 100] : List Int)) (i := (k816).toNat) (show (k816).toNat < 2 by omega)
           have hm826 := List.mem_of_getElem? hx825
           simp only [List.mem_cons, List.not_mem_nil, or_false] at hm826
           refine Xi (v := .int .i64 x824) X3 rfl ((Y9 Ys k823 hx825) 0 _ rfl) rfl ?_
           refine Xd (o' := 4) J9 e730 rfl rfl ?_
           have k827 := ((k812.grown0 hN810.grw).grown hg820 (Xf (by omega)))
           refine Yc (v := .int .i64 x824) (cs' := #[.int .i64 kk, .int .i64 k114, .int .i64 aa, .int .i64 k130, .int .i64 x824]) X3 rfl rfl rfl k827 (Nat.le_of_ble_eq_true rfl) rfl ?_
           intro w828 hS829
           have hb830 := low1 hb822 hS829.grw (by omega)
           refine Xa ?_
           refine Yy ?_
           refine Xv ?_
           refine Xb ?_
           refine Xu (vs := [.int .i64 kk, .int .i64 k114, .int .i64 aa, .int .i64 k130, .int .i64 x824]) Yv e730 rfl (hS829.blk.rangeL 0 5 rfl) rfl ?_
           have k831 := (((k811.grown0 hN810.grw).grown hg820 (Xf (by omega))).grown hS829.grw (Xf (by omega)))
           refine Xz (vs := [.int .i64 kk, .int .i64 k114, .int .i64 aa, .int .i64 k130, .int .i64 x824]) (cs' := #[.int .i64 kk, .int .i64 k114, .int .i64 aa, .int .i64 k130, .int .i64 x824]) Yv e729 rfl rfl (by simp [Value.oneCell']) k831 (Nat.le_of_ble_eq_true rfl) rfl ?_
           intro w832 hS833
           have hb834 := low1 hb830 hS833.grw (by omega)
           refine Xa ?_
           refine Xs ?_
           have k835 := ((kR819.grown hS829.grw (Xf (by omega))).grown hS833.grw (Xf (by omega)))
           refine ⟨.agg #[.int .i64 kk, .int .i64 k114, .int .i64 aa, .int .i64 k130, .int .i64 x824], Zx rfl (Yh (vs := [.int .i64 kk, .int .i64 k114, .int .i64 aa, .int .i64 k130, .int .i64 x824]) Yv e729 rfl (hS833.blk.rangeL 0 5 rfl)), ⟨kk, k114, aa, k130, x824⟩, (p1 + 1 + 1 + 1), rfl, ⟨⟨show (0 : Int) ≤ kk by omega, show kk ≤ (10 : Int) by omega⟩, ⟨show (1 : Int) ≤ k114 by omega, show k114 ≤ (ms.length : Int) by omega⟩, ⟨show (-1 : Int) ≤ aa by omega, show aa ≤ (4 : Int) by omega⟩, ⟨show (0 : Int) ≤ k130 by omega, show k130 ≤ (3 : Int) by omega⟩, show (-1 : Int) ≤ x824 by omega, show x824 ≤ (100 : Int) by omega⟩, by omega, by omega, k835, hb834⟩
          ·
           have h836 := of_decide_eq_false h806
           refine Xy ?_
           refine Yy ?_
           refine Xv ?_
           refine Xb ?_
           have k837 := ((((k207.grown0 hi418).grown hS438.grw (Xf (by omega))).grown0 hg733).grown hg741 (Xf (by omega)))
           refine Xu (vs := [.int .i64 kk, .int .i64 k114, .int .i64 aa, .int .i64 k130, .int .i64 k137]) Yv e730 rfl (k837.rangeL 0 5 rfl) rfl ?_
           have k838 := ((((((k164.grown hg196 (Xf (by omega))).grown0 hg204).grown0 hi418).grown hS438.grw (Xf (by omega))).grown0 hg733).grown hg741 (Xf (by omega)))
           refine Xz (vs := [.int .i64 kk, .int .i64 k114, .int .i64 aa, .int .i64 k130, .int .i64 k137]) (cs' := #[.int .i64 kk, .int .i64 k114, .int .i64 aa, .int .i64 k130, .int .i64 k137]) Yv e729 rfl rfl (by simp [Value.oneCell']) k838 (Nat.le_of_ble_eq_true rfl) rfl ?_
           intro w839 hS840
           have hb841 := low1 hb743 hS840.grw (by omega)
           refine Xa ?_
           refine Xs ?_
           have k842 := (kR740.grown hS840.grw (Xf (by omega)))
           refine ⟨.agg #[.int .i64 kk, .int .i64 k114, .int .i64 aa, .int .i64 k130, .int .i64 k137], Zx rfl (Yh (vs := [.int .i64 kk, .int .i64 k114, .int .i64 aa, .int .i64 k130, .int .i64 k137]) Yv e729 rfl (hS840.blk.rangeL 0 5 rfl)), ⟨kk, k114, aa, k130, k137⟩, (p1 + 1 + 1), rfl, ⟨⟨show (0 : Int) ≤ kk by omega, show kk ≤ (10 : Int) by omega⟩, ⟨show (1 : Int) ≤ k114 by omega, show k114 ≤ (ms.length : Int) by omega⟩, ⟨show (-1 : Int) ≤ aa by omega, show aa ≤ (4 : Int) by omega⟩, ⟨show (0 : Int) ≤ k130 by omega, show k130 ≤ (3 : Int) by omega⟩, show (-1 : Int) ≤ k137 by omega, show k137 ≤ (100 : Int) by omega⟩, by omega, by omega, k842, hb841⟩
       ·
        have h843 := Qx h735
        have h844 := of_decide_eq_false h843
        have h845 := Qy h735
        refine Xy ?_
        refine Xv ?_
        refine Xb ?_
        refine Xc (v := .pointer (some ⟨R, 0, none⟩)) e727 rfl ?_
        have k846 := ((((kR195.grown0 hg204).grown0 hi418).grown hS438.grw (Xf (by omega))).grown0 hg733)
        refine Xn (vs := [.pointer (some ⟨R, 0, none⟩), .int .i64 4]) Y1 (Xg rfl (Xg rfl Xm)) rfl (Yr (p1 + 1) 4 (by omega) _ R bs _ _ _ k846 (by omega) (SlLt.low1 hs hb734 hlo) (by first | exact hb | exact fun b h => hb b (List.mem_of_mem_take h)) (by first | omega | (rw [List.length_take]; omega))) ?_
        rintro _ w852 ⟨k847, rfl, hk848, hk849, kR850, hg851⟩
        have hb853 := grown_trans hb734 hg851
        refine Xd (o' := 2) Qt e730 rfl rfl ?_
        have k854 := ((((k207.grown0 hi418).grown hS438.grw (Xf (by omega))).grown0 hg733).grown hg851 (Xf (by omega)))
        refine Yc (v := .int .i64 k847) (cs' := #[.int .i64 kk, .int .i64 k114, .int .i64 k847, .int .i64 k130, .int .i64 k137]) X3 rfl rfl rfl k854 (Nat.le_of_ble_eq_true rfl) rfl ?_
        intro w855 hS856
        have hb857 := low1 hb853 hS856.grw (by omega)
        refine Xa ?_
        refine X1 ?_
        refine Xc (v := .pointer (some ⟨R, 0, none⟩)) e727 rfl ?_
        have k858 := (kR850.grown hS856.grw (Xf (by omega)))
        refine Xn (vs := [.pointer (some ⟨R, 0, none⟩), .int .i64 9]) Y1 (Xg rfl (Xg rfl Xm)) rfl (Yr (p1 + 1 + 1) 9 (by omega) _ R bs _ _ _ k858 (by omega) (SlLt.low1 hs hb857 hlo) (by first | exact hb | exact fun b h => hb b (List.mem_of_mem_take h)) (by first | omega | (rw [List.length_take]; omega))) ?_
        rintro _ w864 ⟨k859, rfl, hk860, hk861, kR862, hg863⟩
        have hb865 := grown_trans hb857 hg863
        refine Yx (c := 1 + k859) rfl rfl (by omega) (by omega) (by omega) rfl ?_
        refine Xd (o' := 0) Zm e730 rfl rfl ?_
        have k866 := (hS856.blk.grown hg863 (Xf (by omega)))
        refine Yc (v := .int .i64 (1 + k859)) (cs' := #[.int .i64 (1 + k859), .int .i64 k114, .int .i64 k847, .int .i64 k130, .int .i64 k137]) X3 rfl rfl rfl k866 (Nat.le_of_ble_eq_true rfl) rfl ?_
        intro w867 hS868
        have hb869 := low1 hb865 hS868.grw (by omega)
        refine Xa ?_
        refine Yy ?_
        refine Xv ?_
        refine X1 ?_
        refine Xc (v := .int .i64 (i : Int)) e731 rfl ?_
        refine Yx (c := (i : Int) + 1) rfl rfl (by omega) (by omega) (by omega) rfl ?_
        refine Xh (v := .int .i64 ((i : Int) + 1)) rfl rfl ?_
        refine Xa ?_
        refine Xv ?_
        have hTG870 := (TabG.ge (TabG.lt (TabG.ge (TabG.lt (TabG.low (TabG.ge (TabG.low hTG216 hi418) hS438.grw hTH (by omega)) hg733) hg851 (by omega)) hS856.grw hTH (by omega)) hg863 (by omega)) hS868.grw hTH (by omega))
        have k871 := (((((((((k164.grown hg196 (Xf (by omega))).grown0 hg204).grown0 hi418).grown hS438.grw (Xf (by omega))).grown0 hg733).grown hg851 (Xf (by omega))).grown hS856.grw (Xf (by omega))).grown hg863 (Xf (by omega))).grown hS868.grw (Xf (by omega)))
        have k872 := (kR862.grown hS868.grw (Xf (by omega)))
        exact ⟨6 - (i + 1), by omega, (i + 1), (p1 + 1 + 1 + 1), (1 + k859), k847, rfl, (by omega), (by omega), (by omega), (by omega), hTG870, (Nat.le_trans (Nat.le_trans (Nat.le_trans (Nat.le_trans (Nat.le_trans (Nat.le_trans (Nat.le_trans (Nat.le_trans (Nat.le_trans hhs hg196.size) hg204.size) hi418.size) hS438.grw.size) hg733.size) hg851.size) hS856.grw.size) hg863.size) hS868.grw.size), rfl, e727, e728, e729, e730, hb869, k871, hS868.blk, k872⟩
    ·
     have h873 := of_decide_eq_false h218
     refine Y5 ?_
     refine Y2 ?_
     refine Y2 ?_
     refine Z1 ?_
     refine Xv ?_
     refine Xt ?_
     refine Xb ?_
     refine Xc (v := .pointer (some ⟨R, 0, none⟩)) e160 rfl ?_
     have k874 := (kR195.grown0 hg204)
     refine Xn (vs := [.pointer (some ⟨R, 0, none⟩), .int .i64 50]) Y1 (Xg rfl (Xg rfl Xm)) rfl (Yr (p1 + 1) 50 (by omega) _ R bs _ _ _ k874 (by omega) (SlLt.low1 hs hb205 hlo) (by first | exact hb | exact fun b h => hb b (List.mem_of_mem_take h)) (by first | omega | (rw [List.length_take]; omega))) ?_
     rintro _ w880 ⟨k875, rfl, hk876, hk877, kR878, hg879⟩
     have hb881 := grown_trans hb205 hg879
     refine Xa ?_
     refine Ye ?_
     refine Xb ?_
     refine X4 (q := decide (k875 = 0)) rfl rfl rfl rfl ?_
     refine Xh (v := .bool (decide (k875 = 0))) rfl rfl ?_
     refine Xa ?_
     refine Xw rfl (fun h882 => ?_) (fun h882 => ?_)
     ·
      have h883 := of_decide_eq_true h882
      refine X1 ?_
      refine X7 (ps := [(0, .int .i64 0), (1, .int .i64 10)]) (e := 3) (cs := (([0, 10] : List Int).flatMap icell).toArray) (Xp rfl (Xp rfl X9)) (fun _ => by kernel_rfl) rfl ?_
      intro B884 w885 hN886
      have hlB884 := Yf hN886 hb881
      have hhiB884 : hi ≤ B884 := Nat.le_trans (Nat.le_trans (Nat.le_trans (Nat.le_trans hhs hg196.size) hg204.size) hg879.size) (Nat.le_of_eq hN886.eq.symm)
      have k887 := (((k164.grown hg196 (Xf (by omega))).grown0 hg204).grown hg879 (Xf (by omega)))
      have lt_B101_B884 := Xq hN886 (k887).lt
      have k888 := (k207.grown hg879 (Xf (by omega)))
      have lt_B144_B884 := Xq hN886 (k888).lt
      have lt_R_B884 := Xq hN886 (kR878).lt
      have hb889 := low0 hb881 hN886.grw
      refine Xc (v := .pointer (some ⟨R, 0, none⟩)) e160 rfl ?_
      have k890 := (kR878.grown0 hN886.grw)
      refine Xn (vs := [.pointer (some ⟨R, 0, none⟩), .int .i64 2]) Y1 (Xg rfl (Xg rfl Xm)) rfl (Yr (p1 + 1 + 1) 2 (by omega) _ R bs _ _ _ k890 (by omega) (SlLt.low1 hs hb889 hlo) (by first | exact hb | exact fun b h => hb b (List.mem_of_mem_take h)) (by first | omega | (rw [List.length_take]; omega))) ?_
      rintro _ w896 ⟨k891, rfl, hk892, hk893, kR894, hg895⟩
      have hb897 := grown_trans hb889 hg895
      refine X8 (o' := (k891).toNat * 1) Qa rfl rfl (by omega) (by omega) (by omega) rfl ?_
      have k898 := (hN886.blk.grown hg895 (Xf (by omega)))
      obtain ⟨x899, hx900⟩ := Zf (l := ([0, 10] : List Int)) (i := (k891).toNat) (show (k891).toNat < 2 by omega)
      have hm901 := List.mem_of_getElem? hx900
      simp only [List.mem_cons, List.not_mem_nil, or_false] at hm901
      refine Xi (v := .int .i64 x899) X3 rfl ((Y9 Ys k898 hx900) 0 _ rfl) rfl ?_
      refine Xd (o' := 0) Zm e163 rfl rfl ?_
      have k902 := ((k888.grown0 hN886.grw).grown hg895 (Xf (by omega)))
      refine Yc (v := .int .i64 x899) (cs' := #[.int .i64 x899, .int .i64 k114, .int .i64 aa, .int .i64 k130, .int .i64 k137]) X3 rfl rfl rfl k902 (Nat.le_of_ble_eq_true rfl) rfl ?_
      intro w903 hS904
      have hb905 := low1 hb897 hS904.grw (by omega)
      refine Xa ?_
      refine Yy ?_
      refine Xv ?_
      refine Xb ?_
      refine Xu (vs := [.int .i64 x899, .int .i64 k114, .int .i64 aa, .int .i64 k130, .int .i64 k137]) Yv e163 rfl (hS904.blk.rangeL 0 5 rfl) rfl ?_
      have k906 := (((k887.grown0 hN886.grw).grown hg895 (Xf (by omega))).grown hS904.grw (Xf (by omega)))
      refine Xz (vs := [.int .i64 x899, .int .i64 k114, .int .i64 aa, .int .i64 k130, .int .i64 k137]) (cs' := #[.int .i64 x899, .int .i64 k114, .int .i64 aa, .int .i64 k130, .int .i64 k137]) Yv e162 rfl rfl (by simp [Value.oneCell']) k906 (Nat.le_of_ble_eq_true rfl) rfl ?_
      intro w907 hS908
      have hb909 := low1 hb905 hS908.grw (by omega)
      refine Xa ?_
      refine Xs ?_
      have k910 := ((kR894.grown hS904.grw (Xf (by omega))).grown hS908.grw (Xf (by omega)))
      refine ⟨.agg #[.int .i64 x899, .int .i64 k114, .int .i64 aa, .int .i64 k130, .int .i64 k137], Zx rfl (Yh (vs := [.int .i64 x899, .int .i64 k114, .int .i64 aa, .int .i64 k130, .int .i64 k137]) Yv e162 rfl (hS908.blk.rangeL 0 5 rfl)), ⟨x899, k114, aa, k130, k137⟩, (p1 + 1 + 1 + 1), rfl, ⟨⟨show (0 : Int) ≤ x899 by omega, show x899 ≤ (10 : Int) by omega⟩, ⟨show (1 : Int) ≤ k114 by omega, show k114 ≤ (ms.length : Int) by omega⟩, ⟨show (-1 : Int) ≤ aa by omega, show aa ≤ (4 : Int) by omega⟩, ⟨show (0 : Int) ≤ k130 by omega, show k130 ≤ (3 : Int) by omega⟩, show (-1 : Int) ≤ k137 by omega, show k137 ≤ (100 : Int) by omega⟩, by omega, by omega, k910, hb909⟩
     ·
      have h911 := of_decide_eq_false h882
      refine Xb ?_
      refine X4 (q := decide (k875 = 1)) rfl rfl rfl rfl ?_
      refine Xh (v := .bool (decide (k875 = 1))) rfl rfl ?_
      refine Xa ?_
      refine Xw rfl (fun h912 => ?_) (fun h912 => ?_)
      ·
       have h913 := of_decide_eq_true h912
       refine X1 ?_
       refine X7 (ps := [(0, .int .i64 (-1)), (1, .int .i64 4)]) (e := 3) (cs := (([(-1), 4] : List Int).flatMap icell).toArray) (Xp rfl (Xp rfl X9)) (fun _ => by kernel_rfl) rfl ?_
       intro B914 w915 hN916
       have hlB914 := Yf hN916 hb881
       have hhiB914 : hi ≤ B914 := Nat.le_trans (Nat.le_trans (Nat.le_trans (Nat.le_trans hhs hg196.size) hg204.size) hg879.size) (Nat.le_of_eq hN916.eq.symm)
       have k917 := (((k164.grown hg196 (Xf (by omega))).grown0 hg204).grown hg879 (Xf (by omega)))
       have lt_B101_B914 := Xq hN916 (k917).lt
       have k918 := (k207.grown hg879 (Xf (by omega)))
       have lt_B144_B914 := Xq hN916 (k918).lt
       have lt_R_B914 := Xq hN916 (kR878).lt
       have hb919 := low0 hb881 hN916.grw
       refine Xc (v := .pointer (some ⟨R, 0, none⟩)) e160 rfl ?_
       have k920 := (kR878.grown0 hN916.grw)
       refine Xn (vs := [.pointer (some ⟨R, 0, none⟩), .int .i64 2]) Y1 (Xg rfl (Xg rfl Xm)) rfl (Yr (p1 + 1 + 1) 2 (by omega) _ R bs _ _ _ k920 (by omega) (SlLt.low1 hs hb919 hlo) (by first | exact hb | exact fun b h => hb b (List.mem_of_mem_take h)) (by first | omega | (rw [List.length_take]; omega))) ?_
       rintro _ w926 ⟨k921, rfl, hk922, hk923, kR924, hg925⟩
       have hb927 := grown_trans hb919 hg925
       refine X8 (o' := (k921).toNat * 1) Qa rfl rfl (by omega) (by omega) (by omega) rfl ?_
       have k928 := (hN916.blk.grown hg925 (Xf (by omega)))
       obtain ⟨x929, hx930⟩ := Zf (l := ([(-1), 4] : List Int)) (i := (k921).toNat) (show (k921).toNat < 2 by omega)
       have hm931 := List.mem_of_getElem? hx930
       simp only [List.mem_cons, List.not_mem_nil, or_false] at hm931
       refine Xi (v := .int .i64 x929) X3 rfl ((Y9 Ys k928 hx930) 0 _ rfl) rfl ?_
       refine Xd (o' := 2) Qt e163 rfl rfl ?_
       have k932 := ((k918.grown0 hN916.grw).grown hg925 (Xf (by omega)))
       refine Yc (v := .int .i64 x929) (cs' := #[.int .i64 kk, .int .i64 k114, .int .i64 x929, .int .i64 k130, .int .i64 k137]) X3 rfl rfl rfl k932 (Nat.le_of_ble_eq_true rfl) rfl ?_
       intro w933 hS934
       have hb935 := low1 hb927 hS934.grw (by omega)
       refine Xa ?_
       refine Yy ?_
       refine Xv ?_
       refine Xb ?_
       refine Xu (vs := [.int .i64 kk, .int .i64 k114, .int .i64 x929, .int .i64 k130, .int .i64 k137]) Yv e163 rfl (hS934.blk.rangeL 0 5 rfl) rfl ?_
       have k936 := (((k917.grown0 hN916.grw).grown hg925 (Xf (by omega))).grown hS934.grw (Xf (by omega)))
       refine Xz (vs := [.int .i64 kk, .int .i64 k114, .int .i64 x929, .int .i64 k130, .int .i64 k137]) (cs' := #[.int .i64 kk, .int .i64 k114, .int .i64 x929, .int .i64 k130, .int .i64 k137]) Yv e162 rfl rfl (by simp [Value.oneCell']) k936 (Nat.le_of_ble_eq_true rfl) rfl ?_
       intro w937 hS938
       have hb939 := low1 hb935 hS938.grw (by omega)
       refine Xa ?_
       refine Xs ?_
       have k940 := ((kR924.grown hS934.grw (Xf (by omega))).grown hS938.grw (Xf (by omega)))
       refine ⟨.agg #[.int .i64 kk, .int .i64 k114, .int .i64 x929, .int .i64 k130, .int .i64 k137], Zx rfl (Yh (vs := [.int .i64 kk, .int .i64 k114, .int .i64 x929, .int .i64 k130, .int .i64 k137]) Yv e162 rfl (hS938.blk.rangeL 0 5 rfl)), ⟨kk, k114, x929, k130, k137⟩, (p1 + 1 + 1 + 1), rfl, ⟨⟨show (0 : Int) ≤ kk by omega, show kk ≤ (10 : Int) by omega⟩, ⟨show (1 : Int) ≤ k114 by omega, show k114 ≤ (ms.length : Int) by omega⟩, ⟨show (-1 : Int) ≤ x929 by omega, show x929 ≤ (4 : Int) by omega⟩, ⟨show (0 : Int) ≤ k130 by omega, show k130 ≤ (3 : Int) by omega⟩, show (-1 : Int) ≤ k137 by omega, show k137 ≤ (100 : Int) by omega⟩, by omega, by omega, k940, hb939⟩
      ·
       have h941 := of_decide_eq_false h912
       refine Xb ?_
       refine X4 (q := decide (k875 = 2)) rfl rfl rfl rfl ?_
       refine Xh (v := .bool (decide (k875 = 2))) rfl rfl ?_
       refine Xa ?_
       refine Xw rfl (fun h942 => ?_) (fun h942 => ?_)
       ·
        have h943 := of_decide_eq_true h942
        refine X1 ?_
        refine X7 (ps := [(0, .int .i64 (-1)), (1, .int .i64 100)]) (e := 3) (cs := (([(-1), 100] : List Int).flatMap icell).toArray) (Xp rfl (Xp rfl X9)) (fun _ => by kernel_rfl) rfl ?_
        intro B944 w945 hN946
        have hlB944 := Yf hN946 hb881
        have hhiB944 : hi ≤ B944 := Nat.le_trans (Nat.le_trans (Nat.le_trans (Nat.le_trans hhs hg196.size) hg204.size) hg879.size) (Nat.le_of_eq hN946.eq.symm)
        have k947 := (((k164.grown hg196 (Xf (by omega))).grown0 hg204).grown hg879 (Xf (by omega)))
        have lt_B101_B944 := Xq hN946 (k947).lt
        have k948 := (k207.grown hg879 (Xf (by omega)))
        have lt_B144_B944 := Xq hN946 (k948).lt
        have lt_R_B944 := Xq hN946 (kR878).lt
        have hb949 := low0 hb881 hN946.grw
        refine Xc (v := .pointer (some ⟨R, 0, none⟩)) e160 rfl ?_
        have k950 := (kR878.grown0 hN946.grw)
        refine Xn (vs := [.pointer (some ⟨R, 0, none⟩), .int .i64 2]) Y1 (Xg rfl (Xg rfl Xm)) rfl (Yr (p1 + 1 + 1) 2 (by omega) _ R bs _ _ _ k950 (by omega) (SlLt.low1 hs hb949 hlo) (by first | exact hb | exact fun b h => hb b (List.mem_of_mem_take h)) (by first | omega | (rw [List.length_take]; omega))) ?_
        rintro _ w956 ⟨k951, rfl, hk952, hk953, kR954, hg955⟩
        have hb957 := grown_trans hb949 hg955
        refine X8 (o' := (k951).toNat * 1) Qa rfl rfl (by omega) (by omega) (by omega) rfl ?_
        have k958 := (hN946.blk.grown hg955 (Xf (by omega)))
        obtain ⟨x959, hx960⟩ := Zf (l := ([(-1), 100] : List Int)) (i := (k951).toNat) (show (k951).toNat < 2 by omega)
        have hm961 := List.mem_of_getElem? hx960
        simp only [List.mem_cons, List.not_mem_nil, or_false] at hm961
        refine Xi (v := .int .i64 x959) X3 rfl ((Y9 Ys k958 hx960) 0 _ rfl) rfl ?_
        refine Xd (o' := 4) J9 e163 rfl rfl ?_
        have k962 := ((k948.grown0 hN946.grw).grown hg955 (Xf (by omega)))
        refine Yc (v := .int .i64 x959) (cs' := #[.int .i64 kk, .int .i64 k114, .int .i64 aa, .int .i64 k130, .int .i64 x959]) X3 rfl rfl rfl k962 (Nat.le_of_ble_eq_true rfl) rfl ?_
        intro w963 hS964
        have hb965 := low1 hb957 hS964.grw (by omega)
        refine Xa ?_
        refine Yy ?_
        refine Xv ?_
        refine Xb ?_
        refine Xu (vs := [.int .i64 kk, .int .i64 k114, .int .i64 aa, .int .i64 k130, .int .i64 x959]) Yv e163 rfl (hS964.blk.rangeL 0 5 rfl) rfl ?_
        have k966 := (((k947.grown0 hN946.grw).grown hg955 (Xf (by omega))).grown hS964.grw (Xf (by omega)))
        refine Xz (vs := [.int .i64 kk, .int .i64 k114, .int .i64 aa, .int .i64 k130, .int .i64 x959]) (cs' := #[.int .i64 kk, .int .i64 k114, .int .i64 aa, .int .i64 k130, .int .i64 x959]) Yv e162 rfl rfl (by simp [Value.oneCell']) k966 (Nat.le_of_ble_eq_true rfl) rfl ?_
        intro w967 hS968
        have hb969 := low1 hb965 hS968.grw (by omega)
        refine Xa ?_
        refine Xs ?_
        have k970 := ((kR954.grown hS964.grw (Xf (by omega))).grown hS968.grw (Xf (by omega)))
        refine ⟨.agg #[.int .i64 kk, .int .i64 k114, .int .i64 aa, .int .i64 k130, .int .i64 x959], Zx rfl (Yh (vs := [.int .i64 kk, .int .i64 k114, .int .i64 aa, .int .i64 k130, .int .i64 x959]) Yv e162 rfl (hS968.blk.rangeL 0 5 rfl)), ⟨kk, k114, aa, k130, x959⟩, (p1 + 1 + 1 + 1), rfl, ⟨⟨show (0 : Int) ≤ kk by omega, show kk ≤ (10 : Int) by omega⟩, ⟨show (1 : Int) ≤ k114 by omega, show k114 ≤ (ms.length : Int) by omega⟩, ⟨show (-1 : Int) ≤ aa by omega, show aa ≤ (4 : Int) by omega⟩, ⟨show (0 : Int) ≤ k130 by omega, show k130 ≤ (3 : Int) by omega⟩, show (-1 : Int) ≤ x959 by omega, show x959 ≤ (100 : Int) by omega⟩, by omega, by omega, k970, hb969⟩
       ·
        have h971 := of_decide_eq_false h942
        refine Xy ?_
        refine Yy ?_
        refine Xv ?_
        refine Xb ?_
        have k972 := (k207.grown hg879 (Xf (by omega)))
        refine Xu (vs := [.int .i64 kk, .int .i64 k114, .int .i64 aa, .int .i64 k130, .int .i64 k137]) Yv e163 rfl (k972.rangeL 0 5 rfl) rfl ?_
        have k973 := (((k164.grown hg196 (Xf (by omega))).grown0 hg204).grown hg879 (Xf (by omega)))
        refine Xz (vs := [.int .i64 kk, .int .i64 k114, .int .i64 aa, .int .i64 k130, .int .i64 k137]) (cs' := #[.int .i64 kk, .int .i64 k114, .int .i64 aa, .int .i64 k130, .int .i64 k137]) Yv e162 rfl rfl (by simp [Value.oneCell']) k973 (Nat.le_of_ble_eq_true rfl) rfl ?_
        intro w974 hS975
        have hb976 := low1 hb881 hS975.grw (by omega)
        refine Xa ?_
        refine Xs ?_
        have k977 := (kR878.grown hS975.grw (Xf (by omega)))
        refine ⟨.agg #[.int .i64 kk, .int .i64 k114, .int .i64 aa, .int .i64 k130, .int .i64 k137], Zx rfl (Yh (vs := [.int .i64 kk, .int .i64 k114, .int .i64 aa, .int .i64 k130, .int .i64 k137]) Yv e162 rfl (hS975.blk.rangeL 0 5 rfl)), ⟨kk, k114, aa, k130, k137⟩, (p1 + 1 + 1), rfl, ⟨⟨show (0 : Int) ≤ kk by omega, show kk ≤ (10 : Int) by omega⟩, ⟨show (1 : Int) ≤ k114 by omega, show k114 ≤ (ms.length : Int) by omega⟩, ⟨show (-1 : Int) ≤ aa by omega, show aa ≤ (4 : Int) by omega⟩, ⟨show (0 : Int) ≤ k130 by omega, show k130 ≤ (3 : Int) by omega⟩, show (-1 : Int) ≤ k137 by omega, show k137 ≤ (100 : Int) by omega⟩, by omega, by omega, k977, hb976⟩
   ·
    iterate 9 refine Xk rfl rfl rfl h206 rfl ?_
    refine Xl (v := .bool false) rfl h206 rfl rfl ?_
    refine Xa ?_
    refine Zr rfl rfl ?_
    refine Y5 ?_
    refine Y2 ?_
    refine Y2 ?_
    refine Z1 ?_
    refine Xv ?_
    refine Xt ?_
    refine Xb ?_
    refine Xc (v := .pointer (some ⟨R, 0, none⟩)) e160 rfl ?_
    have k978 := (kR195.grown0 hg204)
    refine Xn (vs := [.pointer (some ⟨R, 0, none⟩), .int .i64 50]) Y1 (Xg rfl (Xg rfl Xm)) rfl (Yr (p1 + 1) 50 (by omega) _ R bs _ _ _ k978 (by omega) (SlLt.low1 hs hb205 hlo) (by first | exact hb | exact fun b h => hb b (List.mem_of_mem_take h)) (by first | omega | (rw [List.length_take]; omega))) ?_
    rintro _ w984 ⟨k979, rfl, hk980, hk981, kR982, hg983⟩
    have hb985 := grown_trans hb205 hg983
    refine Xa ?_
    refine Ye ?_
    refine Xb ?_
    refine X4 (q := decide (k979 = 0)) rfl rfl rfl rfl ?_
    refine Xh (v := .bool (decide (k979 = 0))) rfl rfl ?_
    refine Xa ?_
    refine Xw rfl (fun h986 => ?_) (fun h986 => ?_)
    ·
     have h987 := of_decide_eq_true h986
     refine X1 ?_
     refine X7 (ps := [(0, .int .i64 0), (1, .int .i64 10)]) (e := 3) (cs := (([0, 10] : List Int).flatMap icell).toArray) (Xp rfl (Xp rfl X9)) (fun _ => by kernel_rfl) rfl ?_
     intro B988 w989 hN990
     have hlB988 := Yf hN990 hb985
     have hhiB988 : hi ≤ B988 := Nat.le_trans (Nat.le_trans (Nat.le_trans (Nat.le_trans hhs hg196.size) hg204.size) hg983.size) (Nat.le_of_eq hN990.eq.symm)
     have k991 := (((k164.grown hg196 (Xf (by omega))).grown0 hg204).grown hg983 (Xf (by omega)))
     have lt_B101_B988 := Xq hN990 (k991).lt
     have k992 := ((k201.grown0 hg204).grown hg983 (Xf (by omega)))
     have lt_B144_B988 := Xq hN990 (k992).lt
     have lt_R_B988 := Xq hN990 (kR982).lt
     have hb993 := low0 hb985 hN990.grw
     refine Xc (v := .pointer (some ⟨R, 0, none⟩)) e160 rfl ?_
     have k994 := (kR982.grown0 hN990.grw)
     refine Xn (vs := [.pointer (some ⟨R, 0, none⟩), .int .i64 2]) Y1 (Xg rfl (Xg rfl Xm)) rfl (Yr (p1 + 1 + 1) 2 (by omega) _ R bs _ _ _ k994 (by omega) (SlLt.low1 hs hb993 hlo) (by first | exact hb | exact fun b h => hb b (List.mem_of_mem_take h)) (by first | omega | (rw [List.length_take]; omega))) ?_
     rintro _ w1000 ⟨k995, rfl, hk996, hk997, kR998, hg999⟩
     have hb1001 := grown_trans hb993 hg999
     refine X8 (o' := (k995).toNat * 1) Qa rfl rfl (by omega) (by omega) (by omega) rfl ?_
     have k1002 := (hN990.blk.grown hg999 (Xf (by omega)))
     obtain ⟨x1003, hx1004⟩ := Zf (l := ([0, 10] : List Int)) (i := (k995).toNat) (show (k995).toNat < 2 by omega)
     have hm1005 := List.mem_of_getElem? hx1004
     simp only [List.mem_cons, List.not_mem_nil, or_false] at hm1005
     refine Xi (v := .int .i64 x1003) X3 rfl ((Y9 Ys k1002 hx1004) 0 _ rfl) rfl ?_
     refine Xd (o' := 0) Zm e163 rfl rfl ?_
     have k1006 := ((k992.grown0 hN990.grw).grown hg999 (Xf (by omega)))
     refine Yc (v := .int .i64 x1003) (cs' := #[.int .i64 x1003, .int .i64 k114, .int .i64 aa, .int .i64 k130, .int .i64 k137]) X3 rfl rfl rfl k1006 (Nat.le_of_ble_eq_true rfl) rfl ?_
     intro w1007 hS1008
     have hb1009 := low1 hb1001 hS1008.grw (by omega)
     refine Xa ?_
     refine Yy ?_
     refine Xv ?_
     refine Xb ?_
     refine Xu (vs := [.int .i64 x1003, .int .i64 k114, .int .i64 aa, .int .i64 k130, .int .i64 k137]) Yv e163 rfl (hS1008.blk.rangeL 0 5 rfl) rfl ?_
     have k1010 := (((k991.grown0 hN990.grw).grown hg999 (Xf (by omega))).grown hS1008.grw (Xf (by omega)))
     refine Xz (vs := [.int .i64 x1003, .int .i64 k114, .int .i64 aa, .int .i64 k130, .int .i64 k137]) (cs' := #[.int .i64 x1003, .int .i64 k114, .int .i64 aa, .int .i64 k130, .int .i64 k137]) Yv e162 rfl rfl (by simp [Value.oneCell']) k1010 (Nat.le_of_ble_eq_true rfl) rfl ?_
     intro w1011 hS1012
     have hb1013 := low1 hb1009 hS1012.grw (by omega)
     refine Xa ?_
     refine Xs ?_
     have k1014 := ((kR998.grown hS1008.grw (Xf (by omega))).grown hS1012.grw (Xf (by omega)))
     refine ⟨.agg #[.int .i64 x1003, .int .i64 k114, .int .i64 aa, .int .i64 k130, .int .i64 k137], Zx rfl (Yh (vs := [.int .i64 x1003, .int .i64 k114, .int .i64 aa, .int .i64 k130, .int .i64 k137]) Yv e162 rfl (hS1012.blk.rangeL 0 5 rfl)), ⟨x1003, k114, aa, k130, k137⟩, (p1 + 1 + 1 + 1), rfl, ⟨⟨show (0 : Int) ≤ x1003 by omega, show x1003 ≤ (10 : Int) by omega⟩, ⟨show (1 : Int) ≤ k114 by omega, show k114 ≤ (ms.length : Int) by omega⟩, ⟨show (-1 : Int) ≤ aa by omega, show aa ≤ (4 : Int) by omega⟩, ⟨show (0 : Int) ≤ k130 by omega, show k130 ≤ (3 : Int) by omega⟩, show (-1 : Int) ≤ k137 by omega, show k137 ≤ (100 : Int) by omega⟩, by omega, by omega, k1014, hb1013⟩
    ·
     have h1015 := of_decide_eq_false h986
     refine Xb ?_
     refine X4 (q := decide (k979 = 1)) rfl rfl rfl rfl ?_
     refine Xh (v := .bool (decide (k979 = 1))) rfl rfl ?_
     refine Xa ?_
     refine Xw rfl (fun h1016 => ?_) (fun h1016 => ?_)
     ·
      have h1017 := of_decide_eq_true h1016
      refine X1 ?_
      refine X7 (ps := [(0, .int .i64 (-1)), (1, .int .i64 4)]) (e := 3) (cs := (([(-1), 4] : List Int).flatMap icell).toArray) (Xp rfl (Xp rfl X9)) (fun _ => by kernel_rfl) rfl ?_
      intro B1018 w1019 hN1020
      have hlB1018 := Yf hN1020 hb985
      have hhiB1018 : hi ≤ B1018 := Nat.le_trans (Nat.le_trans (Nat.le_trans (Nat.le_trans hhs hg196.size) hg204.size) hg983.size) (Nat.le_of_eq hN1020.eq.symm)
      have k1021 := (((k164.grown hg196 (Xf (by omega))).grown0 hg204).grown hg983 (Xf (by omega)))
      have lt_B101_B1018 := Xq hN1020 (k1021).lt
      have k1022 := ((k201.grown0 hg204).grown hg983 (Xf (by omega)))
      have lt_B144_B1018 := Xq hN1020 (k1022).lt
      have lt_R_B1018 := Xq hN1020 (kR982).lt
      have hb1023 := low0 hb985 hN1020.grw
      refine Xc (v := .pointer (some ⟨R, 0, none⟩)) e160 rfl ?_
      have k1024 := (kR982.grown0 hN1020.grw)
      refine Xn (vs := [.pointer (some ⟨R, 0, none⟩), .int .i64 2]) Y1 (Xg rfl (Xg rfl Xm)) rfl (Yr (p1 + 1 + 1) 2 (by omega) _ R bs _ _ _ k1024 (by omega) (SlLt.low1 hs hb1023 hlo) (by first | exact hb | exact fun b h => hb b (List.mem_of_mem_take h)) (by first | omega | (rw [List.length_take]; omega))) ?_
      rintro _ w1030 ⟨k1025, rfl, hk1026, hk1027, kR1028, hg1029⟩
      have hb1031 := grown_trans hb1023 hg1029
      refine X8 (o' := (k1025).toNat * 1) Qa rfl rfl (by omega) (by omega) (by omega) rfl ?_
      have k1032 := (hN1020.blk.grown hg1029 (Xf (by omega)))
      obtain ⟨x1033, hx1034⟩ := Zf (l := ([(-1), 4] : List Int)) (i := (k1025).toNat) (show (k1025).toNat < 2 by omega)
      have hm1035 := List.mem_of_getElem? hx1034
      simp only [List.mem_cons, List.not_mem_nil, or_false] at hm1035
      refine Xi (v := .int .i64 x1033) X3 rfl ((Y9 Ys k1032 hx1034) 0 _ rfl) rfl ?_
      refine Xd (o' := 2) Qt e163 rfl rfl ?_
      have k1036 := ((k1022.grown0 hN1020.grw).grown hg1029 (Xf (by omega)))
      refine Yc (v := .int .i64 x1033) (cs' := #[.int .i64 kk, .int .i64 k114, .int .i64 x1033, .int .i64 k130, .int .i64 k137]) X3 rfl rfl rfl k1036 (Nat.le_of_ble_eq_true rfl) rfl ?_
      intro w1037 hS1038
      have hb1039 := low1 hb1031 hS1038.grw (by omega)
      refine Xa ?_
      refine Yy ?_
      refine Xv ?_
      refine Xb ?_
      refine Xu (vs := [.int .i64 kk, .int .i64 k114, .int .i64 x1033, .int .i64 k130, .int .i64 k137]) Yv e163 rfl (hS1038.blk.rangeL 0 5 rfl) rfl ?_
      have k1040 := (((k1021.grown0 hN1020.grw).grown hg1029 (Xf (by omega))).grown hS1038.grw (Xf (by omega)))
      refine Xz (vs := [.int .i64 kk, .int .i64 k114, .int .i64 x1033, .int .i64 k130, .int .i64 k137]) (cs' := #[.int .i64 kk, .int .i64 k114, .int .i64 x1033, .int .i64 k130, .int .i64 k137]) Yv e162 rfl rfl (by simp [Value.oneCell']) k1040 (Nat.le_of_ble_eq_true rfl) rfl ?_
      intro w1041 hS1042
      have hb1043 := low1 hb1039 hS1042.grw (by omega)
      refine Xa ?_
      refine Xs ?_
      have k1044 := ((kR1028.grown hS1038.grw (Xf (by omega))).grown hS1042.grw (Xf (by omega)))
      refine ⟨.agg #[.int .i64 kk, .int .i64 k114, .int .i64 x1033, .int .i64 k130, .int .i64 k137], Zx rfl (Yh (vs := [.int .i64 kk, .int .i64 k114, .int .i64 x1033, .int .i64 k130, .int .i64 k137]) Yv e162 rfl (hS1042.blk.rangeL 0 5 rfl)), ⟨kk, k114, x1033, k130, k137⟩, (p1 + 1 + 1 + 1), rfl, ⟨⟨show (0 : Int) ≤ kk by omega, show kk ≤ (10 : Int) by omega⟩, ⟨show (1 : Int) ≤ k114 by omega, show k114 ≤ (ms.length : Int) by omega⟩, ⟨show (-1 : Int) ≤ x1033 by omega, show x1033 ≤ (4 : Int) by omega⟩, ⟨show (0 : Int) ≤ k130 by omega, show k130 ≤ (3 : Int) by omega⟩, show (-1 : Int) ≤ k137 by omega, show k137 ≤ (100 : Int) by omega⟩, by omega, by omega, k1044, hb1043⟩
     ·
      have h1045 := of_decide_eq_false h1016
      refine Xb ?_
      refine X4 (q := decide (k979 = 2)) rfl rfl rfl rfl ?_
      refine Xh (v := .bool (decide (k979 = 2))) rfl rfl ?_
      refine Xa ?_
      refine Xw rfl (fun h1046 => ?_) (fun h1046 => ?_)
      ·
       have h1047 := of_decide_eq_true h1046
       refine X1 ?_
       refine X7 (ps := [(0, .int .i64 (-1)), (1, .int .i64 100)]) (e := 3) (cs := (([(-1), 100] : List Int).flatMap icell).toArray) (Xp rfl (Xp rfl X9)) (fun _ => by kernel_rfl) rfl ?_
       intro B1048 w1049 hN1050
       have hlB1048 := Yf hN1050 hb985
       have hhiB1048 : hi ≤ B1048 := Nat.le_trans (Nat.le_trans (Nat.le_trans (Nat.le_trans hhs hg196.size) hg204.size) hg983.size) (Nat.le_of_eq hN1050.eq.symm)
       have k1051 := (((k164.grown hg196 (Xf (by omega))).grown0 hg204).grown hg983 (Xf (by omega)))
       have lt_B101_B1048 := Xq hN1050 (k1051).lt
       have k1052 := ((k201.grown0 hg204).grown hg983 (Xf (by omega)))
       have lt_B144_B1048 := Xq hN1050 (k1052).lt
       have lt_R_B1048 := Xq hN1050 (kR982).lt
       have hb1053 := low0 hb985 hN1050.grw
       refine Xc (v := .pointer (some ⟨R, 0, none⟩)) e160 rfl ?_
       have k1054 := (kR982.grown0 hN1050.grw)
       refine Xn (vs := [.pointer (some ⟨R, 0, none⟩), .int .i64 2]) Y1 (Xg rfl (Xg rfl Xm)) rfl (Yr (p1 + 1 + 1) 2 (by omega) _ R bs _ _ _ k1054 (by omega) (SlLt.low1 hs hb1053 hlo) (by first | exact hb | exact fun b h => hb b (List.mem_of_mem_take h)) (by first | omega | (rw [List.length_take]; omega))) ?_
       rintro _ w1060 ⟨k1055, rfl, hk1056, hk1057, kR1058, hg1059⟩
       have hb1061 := grown_trans hb1053 hg1059
       refine X8 (o' := (k1055).toNat * 1) Qa rfl rfl (by omega) (by omega) (by omega) rfl ?_
       have k1062 := (hN1050.blk.grown hg1059 (Xf (by omega)))
       obtain ⟨x1063, hx1064⟩ := Zf (l := ([(-1), 100] : List Int)) (i := (k1055).toNat) (show (k1055).toNat < 2 by omega)
       have hm1065 := List.mem_of_getElem? hx1064
       simp only [List.mem_cons, List.not_mem_nil, or_false] at hm1065
       refine Xi (v := .int .i64 x1063) X3 rfl ((Y9 Ys k1062 hx1064) 0 _ rfl) rfl ?_
       refine Xd (o' := 4) J9 e163 rfl rfl ?_
       have k1066 := ((k1052.grown0 hN1050.grw).grown hg1059 (Xf (by omega)))
       refine Yc (v := .int .i64 x1063) (cs' := #[.int .i64 kk, .int .i64 k114, .int .i64 aa, .int .i64 k130, .int .i64 x1063]) X3 rfl rfl rfl k1066 (Nat.le_of_ble_eq_true rfl) rfl ?_
       intro w1067 hS1068
       have hb1069 := low1 hb1061 hS1068.grw (by omega)
       refine Xa ?_
       refine Yy ?_
       refine Xv ?_
       refine Xb ?_
       refine Xu (vs := [.int .i64 kk, .int .i64 k114, .int .i64 aa, .int .i64 k130, .int .i64 x1063]) Yv e163 rfl (hS1068.blk.rangeL 0 5 rfl) rfl ?_
       have k1070 := (((k1051.grown0 hN1050.grw).grown hg1059 (Xf (by omega))).grown hS1068.grw (Xf (by omega)))
       refine Xz (vs := [.int .i64 kk, .int .i64 k114, .int .i64 aa, .int .i64 k130, .int .i64 x1063]) (cs' := #[.int .i64 kk, .int .i64 k114, .int .i64 aa, .int .i64 k130, .int .i64 x1063]) Yv e162 rfl rfl (by simp [Value.oneCell']) k1070 (Nat.le_of_ble_eq_true rfl) rfl ?_
       intro w1071 hS1072
       have hb1073 := low1 hb1069 hS1072.grw (by omega)
       refine Xa ?_
       refine Xs ?_
       have k1074 := ((kR1058.grown hS1068.grw (Xf (by omega))).grown hS1072.grw (Xf (by omega)))
       refine ⟨.agg #[.int .i64 kk, .int .i64 k114, .int .i64 aa, .int .i64 k130, .int .i64 x1063], Zx rfl (Yh (vs := [.int .i64 kk, .int .i64 k114, .int .i64 aa, .int .i64 k130, .int .i64 x1063]) Yv e162 rfl (hS1072.blk.rangeL 0 5 rfl)), ⟨kk, k114, aa, k130, x1063⟩, (p1 + 1 + 1 + 1), rfl, ⟨⟨show (0 : Int) ≤ kk by omega, show kk ≤ (10 : Int) by omega⟩, ⟨show (1 : Int) ≤ k114 by omega, show k114 ≤ (ms.length : Int) by omega⟩, ⟨show (-1 : Int) ≤ aa by omega, show aa ≤ (4 : Int) by omega⟩, ⟨show (0 : Int) ≤ k130 by omega, show k130 ≤ (3 : Int) by omega⟩, show (-1 : Int) ≤ x1063 by omega, show x1063 ≤ (100 : Int) by omega⟩, by omega, by omega, k1074, hb1073⟩
      ·
       have h1075 := of_decide_eq_false h1046
       refine Xy ?_
       refine Yy ?_
       refine Xv ?_
       refine Xb ?_
       have k1076 := ((k201.grown0 hg204).grown hg983 (Xf (by omega)))
       refine Xu (vs := [.int .i64 kk, .int .i64 k114, .int .i64 aa, .int .i64 k130, .int .i64 k137]) Yv e163 rfl (k1076.rangeL 0 5 rfl) rfl ?_
       have k1077 := (((k164.grown hg196 (Xf (by omega))).grown0 hg204).grown hg983 (Xf (by omega)))
       refine Xz (vs := [.int .i64 kk, .int .i64 k114, .int .i64 aa, .int .i64 k130, .int .i64 k137]) (cs' := #[.int .i64 kk, .int .i64 k114, .int .i64 aa, .int .i64 k130, .int .i64 k137]) Yv e162 rfl rfl (by simp [Value.oneCell']) k1077 (Nat.le_of_ble_eq_true rfl) rfl ?_
       intro w1078 hS1079
       have hb1080 := low1 hb985 hS1079.grw (by omega)
       refine Xa ?_
       refine Xs ?_
       have k1081 := (kR982.grown hS1079.grw (Xf (by omega)))
       refine ⟨.agg #[.int .i64 kk, .int .i64 k114, .int .i64 aa, .int .i64 k130, .int .i64 k137], Zx rfl (Yh (vs := [.int .i64 kk, .int .i64 k114, .int .i64 aa, .int .i64 k130, .int .i64 k137]) Yv e162 rfl (hS1079.blk.rangeL 0 5 rfl)), ⟨kk, k114, aa, k130, k137⟩, (p1 + 1 + 1), rfl, ⟨⟨show (0 : Int) ≤ kk by omega, show kk ≤ (10 : Int) by omega⟩, ⟨show (1 : Int) ≤ k114 by omega, show k114 ≤ (ms.length : Int) by omega⟩, ⟨show (-1 : Int) ≤ aa by omega, show aa ≤ (4 : Int) by omega⟩, ⟨show (0 : Int) ≤ k130 by omega, show k130 ≤ (3 : Int) by omega⟩, show (-1 : Int) ≤ k137 by omega, show k137 ≤ (100 : Int) by omega⟩, by omega, by omega, k1081, hb1080⟩
  ·
   have h1082 := of_decide_eq_false h199
   iterate 4 refine Xk rfl rfl rfl h199 rfl ?_
   refine Xl (v := .bool false) rfl h199 rfl rfl ?_
   refine Xc (v := .bool false) rfl rfl ?_
   iterate 9 refine Xk rfl rfl rfl rfl rfl ?_
   refine Xl (v := .bool false) rfl rfl rfl rfl ?_
   refine Xa ?_
   refine Zr rfl rfl ?_
   refine Y5 ?_
   refine Y2 ?_
   refine Y2 ?_
   refine Z1 ?_
   refine Xv ?_
   refine Xt ?_
   refine Xb ?_
   refine Xc (v := .pointer (some ⟨R, 0, none⟩)) e160 rfl ?_
   refine Xn (vs := [.pointer (some ⟨R, 0, none⟩), .int .i64 50]) Y1 (Xg rfl (Xg rfl Xm)) rfl (Yr (p1 + 1) 50 (by omega) _ R bs _ _ _ kR195 (by omega) (SlLt.low1 hs hb198 hlo) (by first | exact hb | exact fun b h => hb b (List.mem_of_mem_take h)) (by first | omega | (rw [List.length_take]; omega))) ?_
   rintro _ w1088 ⟨k1083, rfl, hk1084, hk1085, kR1086, hg1087⟩
   have hb1089 := grown_trans hb198 hg1087
   refine Xa ?_
   refine Ye ?_
   refine Xb ?_
   refine X4 (q := decide (k1083 = 0)) rfl rfl rfl rfl ?_
   refine Xh (v := .bool (decide (k1083 = 0))) rfl rfl ?_
   refine Xa ?_
   refine Xw rfl (fun h1090 => ?_) (fun h1090 => ?_)
   ·
    have h1091 := of_decide_eq_true h1090
    refine X1 ?_
    refine X7 (ps := [(0, .int .i64 0), (1, .int .i64 10)]) (e := 3) (cs := (([0, 10] : List Int).flatMap icell).toArray) (Xp rfl (Xp rfl X9)) (fun _ => by kernel_rfl) rfl ?_
    intro B1092 w1093 hN1094
    have hlB1092 := Yf hN1094 hb1089
    have hhiB1092 : hi ≤ B1092 := Nat.le_trans (Nat.le_trans (Nat.le_trans hhs hg196.size) hg1087.size) (Nat.le_of_eq hN1094.eq.symm)
    have k1095 := ((k164.grown hg196 (Xf (by omega))).grown hg1087 (Xf (by omega)))
    have lt_B101_B1092 := Xq hN1094 (k1095).lt
    have k1096 := ((k165.grown hg196 (Xf (by omega))).grown hg1087 (Xf (by omega)))
    have lt_B144_B1092 := Xq hN1094 (k1096).lt
    have lt_R_B1092 := Xq hN1094 (kR1086).lt
    have hb1097 := low0 hb1089 hN1094.grw
    refine Xc (v := .pointer (some ⟨R, 0, none⟩)) e160 rfl ?_
    have k1098 := (kR1086.grown0 hN1094.grw)
    refine Xn (vs := [.pointer (some ⟨R, 0, none⟩), .int .i64 2]) Y1 (Xg rfl (Xg rfl Xm)) rfl (Yr (p1 + 1 + 1) 2 (by omega) _ R bs _ _ _ k1098 (by omega) (SlLt.low1 hs hb1097 hlo) (by first | exact hb | exact fun b h => hb b (List.mem_of_mem_take h)) (by first | omega | (rw [List.length_take]; omega))) ?_
    rintro _ w1104 ⟨k1099, rfl, hk1100, hk1101, kR1102, hg1103⟩
    have hb1105 := grown_trans hb1097 hg1103
    refine X8 (o' := (k1099).toNat * 1) Qa rfl rfl (by omega) (by omega) (by omega) rfl ?_
    have k1106 := (hN1094.blk.grown hg1103 (Xf (by omega)))
    obtain ⟨x1107, hx1108⟩ := Zf (l := ([0, 10] : List Int)) (i := (k1099).toNat) (show (k1099).toNat < 2 by omega)
    have hm1109 := List.mem_of_getElem? hx1108
    simp only [List.mem_cons, List.not_mem_nil, or_false] at hm1109
    refine Xi (v := .int .i64 x1107) X3 rfl ((Y9 Ys k1106 hx1108) 0 _ rfl) rfl ?_
    refine Xd (o' := 0) Zm e163 rfl rfl ?_
    have k1110 := ((k1096.grown0 hN1094.grw).grown hg1103 (Xf (by omega)))
    refine Yc (v := .int .i64 x1107) (cs' := #[.int .i64 x1107, .int .i64 k114, .int .i64 aa, .int .i64 k130, .int .i64 k137]) X3 rfl rfl rfl k1110 (Nat.le_of_ble_eq_true rfl) rfl ?_
    intro w1111 hS1112
    have hb1113 := low1 hb1105 hS1112.grw (by omega)
    refine Xa ?_
    refine Yy ?_
    refine Xv ?_
    refine Xb ?_
    refine Xu (vs := [.int .i64 x1107, .int .i64 k114, .int .i64 aa, .int .i64 k130, .int .i64 k137]) Yv e163 rfl (hS1112.blk.rangeL 0 5 rfl) rfl ?_
    have k1114 := (((k1095.grown0 hN1094.grw).grown hg1103 (Xf (by omega))).grown hS1112.grw (Xf (by omega)))
    refine Xz (vs := [.int .i64 x1107, .int .i64 k114, .int .i64 aa, .int .i64 k130, .int .i64 k137]) (cs' := #[.int .i64 x1107, .int .i64 k114, .int .i64 aa, .int .i64 k130, .int .i64 k137]) Yv e162 rfl rfl (by simp [Value.oneCell']) k1114 (Nat.le_of_ble_eq_true rfl) rfl ?_
    intro w1115 hS1116
    have hb1117 := low1 hb1113 hS1116.grw (by omega)
    refine Xa ?_
    refine Xs ?_
    have k1118 := ((kR1102.grown hS1112.grw (Xf (by omega))).grown hS1116.grw (Xf (by omega)))
    refine ⟨.agg #[.int .i64 x1107, .int .i64 k114, .int .i64 aa, .int .i64 k130, .int .i64 k137], Zx rfl (Yh (vs := [.int .i64 x1107, .int .i64 k114, .int .i64 aa, .int .i64 k130, .int .i64 k137]) Yv e162 rfl (hS1116.blk.rangeL 0 5 rfl)), ⟨x1107, k114, aa, k130, k137⟩, (p1 + 1 + 1 + 1), rfl, ⟨⟨show (0 : Int) ≤ x1107 by omega, show x1107 ≤ (10 : Int) by omega⟩, ⟨show (1 : Int) ≤ k114 by omega, show k114 ≤ (ms.length : Int) by omega⟩, ⟨show (-1 : Int) ≤ aa by omega, show aa ≤ (4 : Int) by omega⟩, ⟨show (0 : Int) ≤ k130 by omega, show k130 ≤ (3 : Int) by omega⟩, show (-1 : Int) ≤ k137 by omega, show k137 ≤ (100 : Int) by omega⟩, by omega, by omega, k1118, hb1117⟩
   ·
    have h1119 := of_decide_eq_false h1090
    refine Xb ?_
    refine X4 (q := decide (k1083 = 1)) rfl rfl rfl rfl ?_
    refine Xh (v := .bool (decide (k1083 = 1))) rfl rfl ?_
    refine Xa ?_
    refine Xw rfl (fun h1120 => ?_) (fun h1120 => ?_)
    ·
     have h1121 := of_decide_eq_true h1120
     refine X1 ?_
     refine X7 (ps := [(0, .int .i64 (-1)), (1, .int .i64 4)]) (e := 3) (cs := (([(-1), 4] : List Int).flatMap icell).toArray) (Xp rfl (Xp rfl X9)) (fun _ => by kernel_rfl) rfl ?_
     intro B1122 w1123 hN1124
     have hlB1122 := Yf hN1124 hb1089
     have hhiB1122 : hi ≤ B1122 := Nat.le_trans (Nat.le_trans (Nat.le_trans hhs hg196.size) hg1087.size) (Nat.le_of_eq hN1124.eq.symm)
     have k1125 := ((k164.grown hg196 (Xf (by omega))).grown hg1087 (Xf (by omega)))
     have lt_B101_B1122 := Xq hN1124 (k1125).lt
     have k1126 := ((k165.grown hg196 (Xf (by omega))).grown hg1087 (Xf (by omega)))
     have lt_B144_B1122 := Xq hN1124 (k1126).lt
     have lt_R_B1122 := Xq hN1124 (kR1086).lt
     have hb1127 := low0 hb1089 hN1124.grw
     refine Xc (v := .pointer (some ⟨R, 0, none⟩)) e160 rfl ?_
     have k1128 := (kR1086.grown0 hN1124.grw)
     refine Xn (vs := [.pointer (some ⟨R, 0, none⟩), .int .i64 2]) Y1 (Xg rfl (Xg rfl Xm)) rfl (Yr (p1 + 1 + 1) 2 (by omega) _ R bs _ _ _ k1128 (by omega) (SlLt.low1 hs hb1127 hlo) (by first | exact hb | exact fun b h => hb b (List.mem_of_mem_take h)) (by first | omega | (rw [List.length_take]; omega))) ?_
     rintro _ w1134 ⟨k1129, rfl, hk1130, hk1131, kR1132, hg1133⟩
     have hb1135 := grown_trans hb1127 hg1133
     refine X8 (o' := (k1129).toNat * 1) Qa rfl rfl (by omega) (by omega) (by omega) rfl ?_
     have k1136 := (hN1124.blk.grown hg1133 (Xf (by omega)))
     obtain ⟨x1137, hx1138⟩ := Zf (l := ([(-1), 4] : List Int)) (i := (k1129).toNat) (show (k1129).toNat < 2 by omega)
     have hm1139 := List.mem_of_getElem? hx1138
     simp only [List.mem_cons, List.not_mem_nil, or_false] at hm1139
     refine Xi (v := .int .i64 x1137) X3 rfl ((Y9 Ys k1136 hx1138) 0 _ rfl) rfl ?_
     refine Xd (o' := 2) Qt e163 rfl rfl ?_
     have k1140 := ((k1126.grown0 hN1124.grw).grown hg1133 (Xf (by omega)))
     refine Yc (v := .int .i64 x1137) (cs' := #[.int .i64 kk, .int .i64 k114, .int .i64 x1137, .int .i64 k130, .int .i64 k137]) X3 rfl rfl rfl k1140 (Nat.le_of_ble_eq_true rfl) rfl ?_
     intro w1141 hS1142
     have hb1143 := low1 hb1135 hS1142.grw (by omega)
     refine Xa ?_
     refine Yy ?_
     refine Xv ?_
     refine Xb ?_
     refine Xu (vs := [.int .i64 kk, .int .i64 k114, .int .i64 x1137, .int .i64 k130, .int .i64 k137]) Yv e163 rfl (hS1142.blk.rangeL 0 5 rfl) rfl ?_
     have k1144 := (((k1125.grown0 hN1124.grw).grown hg1133 (Xf (by omega))).grown hS1142.grw (Xf (by omega)))
     refine Xz (vs := [.int .i64 kk, .int .i64 k114, .int .i64 x1137, .int .i64 k130, .int .i64 k137]) (cs' := #[.int .i64 kk, .int .i64 k114, .int .i64 x1137, .int .i64 k130, .int .i64 k137]) Yv e162 rfl rfl (by simp [Value.oneCell']) k1144 (Nat.le_of_ble_eq_true rfl) rfl ?_
     intro w1145 hS1146
     have hb1147 := low1 hb1143 hS1146.grw (by omega)
     refine Xa ?_
     refine Xs ?_
     have k1148 := ((kR1132.grown hS1142.grw (Xf (by omega))).grown hS1146.grw (Xf (by omega)))
     refine ⟨.agg #[.int .i64 kk, .int .i64 k114, .int .i64 x1137, .int .i64 k130, .int .i64 k137], Zx rfl (Yh (vs := [.int .i64 kk, .int .i64 k114, .int .i64 x1137, .int .i64 k130, .int .i64 k137]) Yv e162 rfl (hS1146.blk.rangeL 0 5 rfl)), ⟨kk, k114, x1137, k130, k137⟩, (p1 + 1 + 1 + 1), rfl, ⟨⟨show (0 : Int) ≤ kk by omega, show kk ≤ (10 : Int) by omega⟩, ⟨show (1 : Int) ≤ k114 by omega, show k114 ≤ (ms.length : Int) by omega⟩, ⟨show (-1 : Int) ≤ x1137 by omega, show x1137 ≤ (4 : Int) by omega⟩, ⟨show (0 : Int) ≤ k130 by omega, show k130 ≤ (3 : Int) by omega⟩, show (-1 : Int) ≤ k137 by omega, show k137 ≤ (100 : Int) by omega⟩, by omega, by omega, k1148, hb1147⟩
    ·
     have h1149 := of_decide_eq_false h1120
     refine Xb ?_
     refine X4 (q := decide (k1083 = 2)) rfl rfl rfl rfl ?_
     refine Xh (v := .bool (decide (k1083 = 2))) rfl rfl ?_
     refine Xa ?_
     refine Xw rfl (fun h1150 => ?_) (fun h1150 => ?_)
     ·
      have h1151 := of_decide_eq_true h1150
      refine X1 ?_
      refine X7 (ps := [(0, .int .i64 (-1)), (1, .int .i64 100)]) (e := 3) (cs := (([(-1), 100] : List Int).flatMap icell).toArray) (Xp rfl (Xp rfl X9)) (fun _ => by kernel_rfl) rfl ?_
      intro B1152 w1153 hN1154
      have hlB1152 := Yf hN1154 hb1089
      have hhiB1152 : hi ≤ B1152 := Nat.le_trans (Nat.le_trans (Nat.le_trans hhs hg196.size) hg1087.size) (Nat.le_of_eq hN1154.eq.symm)
      have k1155 := ((k164.grown hg196 (Xf (by omega))).grown hg1087 (Xf (by omega)))
      have lt_B101_B1152 := Xq hN1154 (k1155).lt
      have k1156 := ((k165.grown hg196 (Xf (by omega))).grown hg1087 (Xf (by omega)))
      have lt_B144_B1152 := Xq hN1154 (k1156).lt
      have lt_R_B1152 := Xq hN1154 (kR1086).lt
      have hb1157 := low0 hb1089 hN1154.grw
      refine Xc (v := .pointer (some ⟨R, 0, none⟩)) e160 rfl ?_
      have k1158 := (kR1086.grown0 hN1154.grw)
      refine Xn (vs := [.pointer (some ⟨R, 0, none⟩), .int .i64 2]) Y1 (Xg rfl (Xg rfl Xm)) rfl (Yr (p1 + 1 + 1) 2 (by omega) _ R bs _ _ _ k1158 (by omega) (SlLt.low1 hs hb1157 hlo) (by first | exact hb | exact fun b h => hb b (List.mem_of_mem_take h)) (by first | omega | (rw [List.length_take]; omega))) ?_
      rintro _ w1164 ⟨k1159, rfl, hk1160, hk1161, kR1162, hg1163⟩
      have hb1165 := grown_trans hb1157 hg1163
      refine X8 (o' := (k1159).toNat * 1) Qa rfl rfl (by omega) (by omega) (by omega) rfl ?_
      have k1166 := (hN1154.blk.grown hg1163 (Xf (by omega)))
      obtain ⟨x1167, hx1168⟩ := Zf (l := ([(-1), 100] : List Int)) (i := (k1159).toNat) (show (k1159).toNat < 2 by omega)
      have hm1169 := List.mem_of_getElem? hx1168
      simp only [List.mem_cons, List.not_mem_nil, or_false] at hm1169
      refine Xi (v := .int .i64 x1167) X3 rfl ((Y9 Ys k1166 hx1168) 0 _ rfl) rfl ?_
      refine Xd (o' := 4) J9 e163 rfl rfl ?_
      have k1170 := ((k1156.grown0 hN1154.grw).grown hg1163 (Xf (by omega)))
      refine Yc (v := .int .i64 x1167) (cs' := #[.int .i64 kk, .int .i64 k114, .int .i64 aa, .int .i64 k130, .int .i64 x1167]) X3 rfl rfl rfl k1170 (Nat.le_of_ble_eq_true rfl) rfl ?_
      intro w1171 hS1172
      have hb1173 := low1 hb1165 hS1172.grw (by omega)
      refine Xa ?_
      refine Yy ?_
      refine Xv ?_
      refine Xb ?_
      refine Xu (vs := [.int .i64 kk, .int .i64 k114, .int .i64 aa, .int .i64 k130, .int .i64 x1167]) Yv e163 rfl (hS1172.blk.rangeL 0 5 rfl) rfl ?_
      have k1174 := (((k1155.grown0 hN1154.grw).grown hg1163 (Xf (by omega))).grown hS1172.grw (Xf (by omega)))
      refine Xz (vs := [.int .i64 kk, .int .i64 k114, .int .i64 aa, .int .i64 k130, .int .i64 x1167]) (cs' := #[.int .i64 kk, .int .i64 k114, .int .i64 aa, .int .i64 k130, .int .i64 x1167]) Yv e162 rfl rfl (by simp [Value.oneCell']) k1174 (Nat.le_of_ble_eq_true rfl) rfl ?_
      intro w1175 hS1176
      have hb1177 := low1 hb1173 hS1176.grw (by omega)
      refine Xa ?_
      refine Xs ?_
      have k1178 := ((kR1162.grown hS1172.grw (Xf (by omega))).grown hS1176.grw (Xf (by omega)))
      refine ⟨.agg #[.int .i64 kk, .int .i64 k114, .int .i64 aa, .int .i64 k130, .int .i64 x1167], Zx rfl (Yh (vs := [.int .i64 kk, .int .i64 k114, .int .i64 aa, .int .i64 k130, .int .i64 x1167]) Yv e162 rfl (hS1176.blk.rangeL 0 5 rfl)), ⟨kk, k114, aa, k130, x1167⟩, (p1 + 1 + 1 + 1), rfl, ⟨⟨show (0 : Int) ≤ kk by omega, show kk ≤ (10 : Int) by omega⟩, ⟨show (1 : Int) ≤ k114 by omega, show k114 ≤ (ms.length : Int) by omega⟩, ⟨show (-1 : Int) ≤ aa by omega, show aa ≤ (4 : Int) by omega⟩, ⟨show (0 : Int) ≤ k130 by omega, show k130 ≤ (3 : Int) by omega⟩, show (-1 : Int) ≤ x1167 by omega, show x1167 ≤ (100 : Int) by omega⟩, by omega, by omega, k1178, hb1177⟩
     ·
      have h1179 := of_decide_eq_false h1150
      refine Xy ?_
      refine Yy ?_
      refine Xv ?_
      refine Xb ?_
      have k1180 := ((k165.grown hg196 (Xf (by omega))).grown hg1087 (Xf (by omega)))
      refine Xu (vs := [.int .i64 kk, .int .i64 k114, .int .i64 aa, .int .i64 k130, .int .i64 k137]) Yv e163 rfl (k1180.rangeL 0 5 rfl) rfl ?_
      have k1181 := ((k164.grown hg196 (Xf (by omega))).grown hg1087 (Xf (by omega)))
      refine Xz (vs := [.int .i64 kk, .int .i64 k114, .int .i64 aa, .int .i64 k130, .int .i64 k137]) (cs' := #[.int .i64 kk, .int .i64 k114, .int .i64 aa, .int .i64 k130, .int .i64 k137]) Yv e162 rfl rfl (by simp [Value.oneCell']) k1181 (Nat.le_of_ble_eq_true rfl) rfl ?_
      intro w1182 hS1183
      have hb1184 := low1 hb1089 hS1183.grw (by omega)
      refine Xa ?_
      refine Xs ?_
      have k1185 := (kR1086.grown hS1183.grw (Xf (by omega)))
      refine ⟨.agg #[.int .i64 kk, .int .i64 k114, .int .i64 aa, .int .i64 k130, .int .i64 k137], Zx rfl (Yh (vs := [.int .i64 kk, .int .i64 k114, .int .i64 aa, .int .i64 k130, .int .i64 k137]) Yv e162 rfl (hS1183.blk.rangeL 0 5 rfl)), ⟨kk, k114, aa, k130, k137⟩, (p1 + 1 + 1), rfl, ⟨⟨show (0 : Int) ≤ kk by omega, show kk ≤ (10 : Int) by omega⟩, ⟨show (1 : Int) ≤ k114 by omega, show k114 ≤ (ms.length : Int) by omega⟩, ⟨show (-1 : Int) ≤ aa by omega, show aa ≤ (4 : Int) by omega⟩, ⟨show (0 : Int) ≤ k130 by omega, show k130 ≤ (3 : Int) by omega⟩, show (-1 : Int) ≤ k137 by omega, show k137 ≤ (100 : Int) by omega⟩, by omega, by omega, k1185, hb1184⟩
 ·
  have h1186 := of_decide_eq_false h190
  iterate 3 refine Xk rfl rfl rfl h190 rfl ?_
  refine Xl (v := .bool false) rfl h190 rfl rfl ?_
  refine Xc (v := .bool false) rfl rfl ?_
  iterate 4 refine Xk rfl rfl rfl rfl rfl ?_
  refine Xl (v := .bool false) rfl rfl rfl rfl ?_
  refine Xc (v := .bool false) rfl rfl ?_
  iterate 9 refine Xk rfl rfl rfl rfl rfl ?_
  refine Xl (v := .bool false) rfl rfl rfl rfl ?_
  refine Xa ?_
  refine Zr rfl rfl ?_
  refine Y5 ?_
  refine Y2 ?_
  refine Y2 ?_
  refine Z1 ?_
  refine Xv ?_
  refine Xt ?_
  refine Xb ?_
  refine Xc (v := .pointer (some ⟨R, 0, none⟩)) e160 rfl ?_
  refine Xn (vs := [.pointer (some ⟨R, 0, none⟩), .int .i64 50]) Y1 (Xg rfl (Xg rfl Xm)) rfl (Yr p1 50 (by omega) _ R bs _ _ _ k166 (by omega) (SlLt.low1 hs hb157 hlo) (by first | exact hb | exact fun b h => hb b (List.mem_of_mem_take h)) (by first | omega | (rw [List.length_take]; omega))) ?_
  rintro _ w1192 ⟨k1187, rfl, hk1188, hk1189, kR1190, hg1191⟩
  have hb1193 := grown_trans hb157 hg1191
  refine Xa ?_
  refine Ye ?_
  refine Xb ?_
  refine X4 (q := decide (k1187 = 0)) rfl rfl rfl rfl ?_
  refine Xh (v := .bool (decide (k1187 = 0))) rfl rfl ?_
  refine Xa ?_
  refine Xw rfl (fun h1194 => ?_) (fun h1194 => ?_)
  ·
   have h1195 := of_decide_eq_true h1194
   refine X1 ?_
   refine X7 (ps := [(0, .int .i64 0), (1, .int .i64 10)]) (e := 3) (cs := (([0, 10] : List Int).flatMap icell).toArray) (Xp rfl (Xp rfl X9)) (fun _ => by kernel_rfl) rfl ?_
   intro B1196 w1197 hN1198
   have hlB1196 := Yf hN1198 hb1193
   have hhiB1196 : hi ≤ B1196 := Nat.le_trans (Nat.le_trans hhs hg1191.size) (Nat.le_of_eq hN1198.eq.symm)
   have k1199 := (k164.grown hg1191 (Xf (by omega)))
   have lt_B101_B1196 := Xq hN1198 (k1199).lt
   have k1200 := (k165.grown hg1191 (Xf (by omega)))
   have lt_B144_B1196 := Xq hN1198 (k1200).lt
   have lt_R_B1196 := Xq hN1198 (kR1190).lt
   have hb1201 := low0 hb1193 hN1198.grw
   refine Xc (v := .pointer (some ⟨R, 0, none⟩)) e160 rfl ?_
   have k1202 := (kR1190.grown0 hN1198.grw)
   refine Xn (vs := [.pointer (some ⟨R, 0, none⟩), .int .i64 2]) Y1 (Xg rfl (Xg rfl Xm)) rfl (Yr (p1 + 1) 2 (by omega) _ R bs _ _ _ k1202 (by omega) (SlLt.low1 hs hb1201 hlo) (by first | exact hb | exact fun b h => hb b (List.mem_of_mem_take h)) (by first | omega | (rw [List.length_take]; omega))) ?_
   rintro _ w1208 ⟨k1203, rfl, hk1204, hk1205, kR1206, hg1207⟩
   have hb1209 := grown_trans hb1201 hg1207
   refine X8 (o' := (k1203).toNat * 1) Qa rfl rfl (by omega) (by omega) (by omega) rfl ?_
   have k1210 := (hN1198.blk.grown hg1207 (Xf (by omega)))
   obtain ⟨x1211, hx1212⟩ := Zf (l := ([0, 10] : List Int)) (i := (k1203).toNat) (show (k1203).toNat < 2 by omega)
   have hm1213 := List.mem_of_getElem? hx1212
   simp only [List.mem_cons, List.not_mem_nil, or_false] at hm1213
   refine Xi (v := .int .i64 x1211) X3 rfl ((Y9 Ys k1210 hx1212) 0 _ rfl) rfl ?_
   refine Xd (o' := 0) Zm e163 rfl rfl ?_
   have k1214 := ((k1200.grown0 hN1198.grw).grown hg1207 (Xf (by omega)))
   refine Yc (v := .int .i64 x1211) (cs' := #[.int .i64 x1211, .int .i64 k114, .int .i64 aa, .int .i64 k130, .int .i64 k137]) X3 rfl rfl rfl k1214 (Nat.le_of_ble_eq_true rfl) rfl ?_
   intro w1215 hS1216
   have hb1217 := low1 hb1209 hS1216.grw (by omega)
   refine Xa ?_
   refine Yy ?_
   refine Xv ?_
   refine Xb ?_
   refine Xu (vs := [.int .i64 x1211, .int .i64 k114, .int .i64 aa, .int .i64 k130, .int .i64 k137]) Yv e163 rfl (hS1216.blk.rangeL 0 5 rfl) rfl ?_
   have k1218 := (((k1199.grown0 hN1198.grw).grown hg1207 (Xf (by omega))).grown hS1216.grw (Xf (by omega)))
   refine Xz (vs := [.int .i64 x1211, .int .i64 k114, .int .i64 aa, .int .i64 k130, .int .i64 k137]) (cs' := #[.int .i64 x1211, .int .i64 k114, .int .i64 aa, .int .i64 k130, .int .i64 k137]) Yv e162 rfl rfl (by simp [Value.oneCell']) k1218 (Nat.le_of_ble_eq_true rfl) rfl ?_
   intro w1219 hS1220
   have hb1221 := low1 hb1217 hS1220.grw (by omega)
   refine Xa ?_
   refine Xs ?_
   have k1222 := ((kR1206.grown hS1216.grw (Xf (by omega))).grown hS1220.grw (Xf (by omega)))
   refine ⟨.agg #[.int .i64 x1211, .int .i64 k114, .int .i64 aa, .int .i64 k130, .int .i64 k137], Zx rfl (Yh (vs := [.int .i64 x1211, .int .i64 k114, .int .i64 aa, .int .i64 k130, .int .i64 k137]) Yv e162 rfl (hS1220.blk.rangeL 0 5 rfl)), ⟨x1211, k114, aa, k130, k137⟩, (p1 + 1 + 1), rfl, ⟨⟨show (0 : Int) ≤ x1211 by omega, show x1211 ≤ (10 : Int) by omega⟩, ⟨show (1 : Int) ≤ k114 by omega, show k114 ≤ (ms.length : Int) by omega⟩, ⟨show (-1 : Int) ≤ aa by omega, show aa ≤ (4 : Int) by omega⟩, ⟨show (0 : Int) ≤ k130 by omega, show k130 ≤ (3 : Int) by omega⟩, show (-1 : Int) ≤ k137 by omega, show k137 ≤ (100 : Int) by omega⟩, by omega, by omega, k1222, hb1221⟩
  ·
   have h1223 := of_decide_eq_false h1194
   refine Xb ?_
   refine X4 (q := decide (k1187 = 1)) rfl rfl rfl rfl ?_
   refine Xh (v := .bool (decide (k1187 = 1))) rfl rfl ?_
   refine Xa ?_
   refine Xw rfl (fun h1224 => ?_) (fun h1224 => ?_)
   ·
    have h1225 := of_decide_eq_true h1224
    refine X1 ?_
    refine X7 (ps := [(0, .int .i64 (-1)), (1, .int .i64 4)]) (e := 3) (cs := (([(-1), 4] : List Int).flatMap icell).toArray) (Xp rfl (Xp rfl X9)) (fun _ => by kernel_rfl) rfl ?_
    intro B1226 w1227 hN1228
    have hlB1226 := Yf hN1228 hb1193
    have hhiB1226 : hi ≤ B1226 := Nat.le_trans (Nat.le_trans hhs hg1191.size) (Nat.le_of_eq hN1228.eq.symm)
    have k1229 := (k164.grown hg1191 (Xf (by omega)))
    have lt_B101_B1226 := Xq hN1228 (k1229).lt
    have k1230 := (k165.grown hg1191 (Xf (by omega)))
    have lt_B144_B1226 := Xq hN1228 (k1230).lt
    have lt_R_B1226 := Xq hN1228 (kR1190).lt
    have hb1231 := low0 hb1193 hN1228.grw
    refine Xc (v := .pointer (some ⟨R, 0, none⟩)) e160 rfl ?_
    have k1232 := (kR1190.grown0 hN1228.grw)
    refine Xn (vs := [.pointer (some ⟨R, 0, none⟩), .int .i64 2]) Y1 (Xg rfl (Xg rfl Xm)) rfl (Yr (p1 + 1) 2 (by omega) _ R bs _ _ _ k1232 (by omega) (SlLt.low1 hs hb1231 hlo) (by first | exact hb | exact fun b h => hb b (List.mem_of_mem_take h)) (by first | omega | (rw [List.length_take]; omega))) ?_
    rintro _ w1238 ⟨k1233, rfl, hk1234, hk1235, kR1236, hg1237⟩
    have hb1239 := grown_trans hb1231 hg1237
    refine X8 (o' := (k1233).toNat * 1) Qa rfl rfl (by omega) (by omega) (by omega) rfl ?_
    have k1240 := (hN1228.blk.grown hg1237 (Xf (by omega)))
    obtain ⟨x1241, hx1242⟩ := Zf (l := ([(-1), 4] : List Int)) (i := (k1233).toNat) (show (k1233).toNat < 2 by omega)
    have hm1243 := List.mem_of_getElem? hx1242
    simp only [List.mem_cons, List.not_mem_nil, or_false] at hm1243
    refine Xi (v := .int .i64 x1241) X3 rfl ((Y9 Ys k1240 hx1242) 0 _ rfl) rfl ?_
    refine Xd (o' := 2) Qt e163 rfl rfl ?_
    have k1244 := ((k1230.grown0 hN1228.grw).grown hg1237 (Xf (by omega)))
    refine Yc (v := .int .i64 x1241) (cs' := #[.int .i64 kk, .int .i64 k114, .int .i64 x1241, .int .i64 k130, .int .i64 k137]) X3 rfl rfl rfl k1244 (Nat.le_of_ble_eq_true rfl) rfl ?_
    intro w1245 hS1246
    have hb1247 := low1 hb1239 hS1246.grw (by omega)
    refine Xa ?_
    refine Yy ?_
    refine Xv ?_
    refine Xb ?_
    refine Xu (vs := [.int .i64 kk, .int .i64 k114, .int .i64 x1241, .int .i64 k130, .int .i64 k137]) Yv e163 rfl (hS1246.blk.rangeL 0 5 rfl) rfl ?_
    have k1248 := (((k1229.grown0 hN1228.grw).grown hg1237 (Xf (by omega))).grown hS1246.grw (Xf (by omega)))
    refine Xz (vs := [.int .i64 kk, .int .i64 k114, .int .i64 x1241, .int .i64 k130, .int .i64 k137]) (cs' := #[.int .i64 kk, .int .i64 k114, .int .i64 x1241, .int .i64 k130, .int .i64 k137]) Yv e162 rfl rfl (by simp [Value.oneCell']) k1248 (Nat.le_of_ble_eq_true rfl) rfl ?_
    intro w1249 hS1250
    have hb1251 := low1 hb1247 hS1250.grw (by omega)
    refine Xa ?_
    refine Xs ?_
    have k1252 := ((kR1236.grown hS1246.grw (Xf (by omega))).grown hS1250.grw (Xf (by omega)))
    refine ⟨.agg #[.int .i64 kk, .int .i64 k114, .int .i64 x1241, .int .i64 k130, .int .i64 k137], Zx rfl (Yh (vs := [.int .i64 kk, .int .i64 k114, .int .i64 x1241, .int .i64 k130, .int .i64 k137]) Yv e162 rfl (hS1250.blk.rangeL 0 5 rfl)), ⟨kk, k114, x1241, k130, k137⟩, (p1 + 1 + 1), rfl, ⟨⟨show (0 : Int) ≤ kk by omega, show kk ≤ (10 : Int) by omega⟩, ⟨show (1 : Int) ≤ k114 by omega, show k114 ≤ (ms.length : Int) by omega⟩, ⟨show (-1 : Int) ≤ x1241 by omega, show x1241 ≤ (4 : Int) by omega⟩, ⟨show (0 : Int) ≤ k130 by omega, show k130 ≤ (3 : Int) by omega⟩, show (-1 : Int) ≤ k137 by omega, show k137 ≤ (100 : Int) by omega⟩, by omega, by omega, k1252, hb1251⟩
   ·
    have h1253 := of_decide_eq_false h1224
    refine Xb ?_
    refine X4 (q := decide (k1187 = 2)) rfl rfl rfl rfl ?_
    refine Xh (v := .bool (decide (k1187 = 2))) rfl rfl ?_
    refine Xa ?_
    refine Xw rfl (fun h1254 => ?_) (fun h1254 => ?_)
    ·
     have h1255 := of_decide_eq_true h1254
     refine X1 ?_
     refine X7 (ps := [(0, .int .i64 (-1)), (1, .int .i64 100)]) (e := 3) (cs := (([(-1), 100] : List Int).flatMap icell).toArray) (Xp rfl (Xp rfl X9)) (fun _ => by kernel_rfl) rfl ?_
     intro B1256 w1257 hN1258
     have hlB1256 := Yf hN1258 hb1193
     have hhiB1256 : hi ≤ B1256 := Nat.le_trans (Nat.le_trans hhs hg1191.size) (Nat.le_of_eq hN1258.eq.symm)
     have k1259 := (k164.grown hg1191 (Xf (by omega)))
     have lt_B101_B1256 := Xq hN1258 (k1259).lt
     have k1260 := (k165.grown hg1191 (Xf (by omega)))
     have lt_B144_B1256 := Xq hN1258 (k1260).lt
     have lt_R_B1256 := Xq hN1258 (kR1190).lt
     have hb1261 := low0 hb1193 hN1258.grw
     refine Xc (v := .pointer (some ⟨R, 0, none⟩)) e160 rfl ?_
     have k1262 := (kR1190.grown0 hN1258.grw)
     refine Xn (vs := [.pointer (some ⟨R, 0, none⟩), .int .i64 2]) Y1 (Xg rfl (Xg rfl Xm)) rfl (Yr (p1 + 1) 2 (by omega) _ R bs _ _ _ k1262 (by omega) (SlLt.low1 hs hb1261 hlo) (by first | exact hb | exact fun b h => hb b (List.mem_of_mem_take h)) (by first | omega | (rw [List.length_take]; omega))) ?_
     rintro _ w1268 ⟨k1263, rfl, hk1264, hk1265, kR1266, hg1267⟩
     have hb1269 := grown_trans hb1261 hg1267
     refine X8 (o' := (k1263).toNat * 1) Qa rfl rfl (by omega) (by omega) (by omega) rfl ?_
     have k1270 := (hN1258.blk.grown hg1267 (Xf (by omega)))
     obtain ⟨x1271, hx1272⟩ := Zf (l := ([(-1), 100] : List Int)) (i := (k1263).toNat) (show (k1263).toNat < 2 by omega)
     have hm1273 := List.mem_of_getElem? hx1272
     simp only [List.mem_cons, List.not_mem_nil, or_false] at hm1273
     refine Xi (v := .int .i64 x1271) X3 rfl ((Y9 Ys k1270 hx1272) 0 _ rfl) rfl ?_
     refine Xd (o' := 4) J9 e163 rfl rfl ?_
     have k1274 := ((k1260.grown0 hN1258.grw).grown hg1267 (Xf (by omega)))
     refine Yc (v := .int .i64 x1271) (cs' := #[.int .i64 kk, .int .i64 k114, .int .i64 aa, .int .i64 k130, .int .i64 x1271]) X3 rfl rfl rfl k1274 (Nat.le_of_ble_eq_true rfl) rfl ?_
     intro w1275 hS1276
     have hb1277 := low1 hb1269 hS1276.grw (by omega)
     refine Xa ?_
     refine Yy ?_
     refine Xv ?_
     refine Xb ?_
     refine Xu (vs := [.int .i64 kk, .int .i64 k114, .int .i64 aa, .int .i64 k130, .int .i64 x1271]) Yv e163 rfl (hS1276.blk.rangeL 0 5 rfl) rfl ?_
     have k1278 := (((k1259.grown0 hN1258.grw).grown hg1267 (Xf (by omega))).grown hS1276.grw (Xf (by omega)))
     refine Xz (vs := [.int .i64 kk, .int .i64 k114, .int .i64 aa, .int .i64 k130, .int .i64 x1271]) (cs' := #[.int .i64 kk, .int .i64 k114, .int .i64 aa, .int .i64 k130, .int .i64 x1271]) Yv e162 rfl rfl (by simp [Value.oneCell']) k1278 (Nat.le_of_ble_eq_true rfl) rfl ?_
     intro w1279 hS1280
     have hb1281 := low1 hb1277 hS1280.grw (by omega)
     refine Xa ?_
     refine Xs ?_
     have k1282 := ((kR1266.grown hS1276.grw (Xf (by omega))).grown hS1280.grw (Xf (by omega)))
     refine ⟨.agg #[.int .i64 kk, .int .i64 k114, .int .i64 aa, .int .i64 k130, .int .i64 x1271], Zx rfl (Yh (vs := [.int .i64 kk, .int .i64 k114, .int .i64 aa, .int .i64 k130, .int .i64 x1271]) Yv e162 rfl (hS1280.blk.rangeL 0 5 rfl)), ⟨kk, k114, aa, k130, x1271⟩, (p1 + 1 + 1), rfl, ⟨⟨show (0 : Int) ≤ kk by omega, show kk ≤ (10 : Int) by omega⟩, ⟨show (1 : Int) ≤ k114 by omega, show k114 ≤ (ms.length : Int) by omega⟩, ⟨show (-1 : Int) ≤ aa by omega, show aa ≤ (4 : Int) by omega⟩, ⟨show (0 : Int) ≤ k130 by omega, show k130 ≤ (3 : Int) by omega⟩, show (-1 : Int) ≤ x1271 by omega, show x1271 ≤ (100 : Int) by omega⟩, by omega, by omega, k1282, hb1281⟩
    ·
     have h1283 := of_decide_eq_false h1254
     refine Xy ?_
     refine Yy ?_
     refine Xv ?_
     refine Xb ?_
     have k1284 := (k165.grown hg1191 (Xf (by omega)))
     refine Xu (vs := [.int .i64 kk, .int .i64 k114, .int .i64 aa, .int .i64 k130, .int .i64 k137]) Yv e163 rfl (k1284.rangeL 0 5 rfl) rfl ?_
     have k1285 := (k164.grown hg1191 (Xf (by omega)))
     refine Xz (vs := [.int .i64 kk, .int .i64 k114, .int .i64 aa, .int .i64 k130, .int .i64 k137]) (cs' := #[.int .i64 kk, .int .i64 k114, .int .i64 aa, .int .i64 k130, .int .i64 k137]) Yv e162 rfl rfl (by simp [Value.oneCell']) k1285 (Nat.le_of_ble_eq_true rfl) rfl ?_
     intro w1286 hS1287
     have hb1288 := low1 hb1193 hS1287.grw (by omega)
     refine Xa ?_
     refine Xs ?_
     have k1289 := (kR1190.grown hS1287.grw (Xf (by omega)))
     refine ⟨.agg #[.int .i64 kk, .int .i64 k114, .int .i64 aa, .int .i64 k130, .int .i64 k137], Zx rfl (Yh (vs := [.int .i64 kk, .int .i64 k114, .int .i64 aa, .int .i64 k130, .int .i64 k137]) Yv e162 rfl (hS1287.blk.rangeL 0 5 rfl)), ⟨kk, k114, aa, k130, k137⟩, (p1 + 1), rfl, ⟨⟨show (0 : Int) ≤ kk by omega, show kk ≤ (10 : Int) by omega⟩, ⟨show (1 : Int) ≤ k114 by omega, show k114 ≤ (ms.length : Int) by omega⟩, ⟨show (-1 : Int) ≤ aa by omega, show aa ≤ (4 : Int) by omega⟩, ⟨show (0 : Int) ≤ k130 by omega, show k130 ≤ (3 : Int) by omega⟩, show (-1 : Int) ≤ k137 by omega, show k137 ≤ (100 : Int) by omega⟩, by omega, by omega, k1289, hb1288⟩
end Go.Proofs.YtfoplmgoiblkgaaDoor
end
section
namespace Go.Proofs.YtfoplmgoiblkgaaDoor
open Go.RowKit Go.Dw
set_option maxRecDepth 100000
set_option maxHeartbeats 4000000
set_option linter.unusedSimpArgs false
set_option linter.unusedVariables false
theorem Kr : elemSz Tryd.prog 80 = some 1 := by kernel_rfl
theorem T7 : goFn Tryd.prog 44 = true := by kernel_rfl
theorem Mm : goFn Tryd.prog 46 = true := by kernel_rfl
theorem S3 : goFn Tryd.prog 47 = true := by kernel_rfl
theorem Mz : goFn Tryd.prog 48 = true := by kernel_rfl
theorem Ho (q : Int) (w : World) : CallsR Tryd.prog 44 #[.int .i64 q] w (fun v w' => ∃ B : Nat, v = .slice (some ⟨B, 0, none⟩) 4 4 ∧ w.heap.size ≤ B ∧ Blk w' B 4 #[.bool (need0 q), .bool (need1 q), .bool (need0 q), .bool (need1 q)] ∧ w.grownBy w' none) := by
 refine X0 (n := 12) Tryd.func44 rfl Tryd.ntmps44 rfl ?_
 have hb0 := World.grownBy.refl w none
 refine Xb ?_
 refine Xh (v := .slice none 0 0) rfl rfl ?_
 refine Xa ?_
 refine Xt ?_
 refine Xb ?_
 refine Xc (v := .int .i64 q) rfl rfl ?_
 refine Xa ?_
 refine Ye ?_
 refine Xt ?_
 refine Xb ?_
 refine X4 (q := decide (q = 1)) rfl rfl rfl rfl ?_
 refine Xh (v := .bool (decide (q = 1))) rfl rfl ?_
 refine Xa ?_
 refine Xw rfl (fun h101 => ?_) (fun h101 => ?_)
 ·
  have h102 := of_decide_eq_true h101
  refine Xy ?_
  refine Xv ?_
  refine Zc rfl h101 ?_
  refine Xb ?_
  refine X7 (ps := [(0, .bool true), (1, .bool false), (2, .bool true), (3, .bool false)]) (e := 4) (cs := #[.bool true, .bool false, .bool true, .bool false]) (Xp rfl (Xp rfl (Xp rfl (Xp rfl X9)))) (fun _ => by kernel_rfl) rfl ?_
  intro B103 w104 hN105
  have hlB103 := Yf hN105 hb0
  have hb106 := low0 hb0 hN105.grw
  refine Xh (v := .slice (some ⟨B103, 0, none⟩) 4 4) rfl rfl ?_
  refine Xa ?_
  refine Xs ?_
  refine Y6 ?_
  refine Yi ?_
  have e0 : need0 q = true := by unfold need0; simp [h102]
  have e1 : need1 q = false := by unfold need1; simp [h102]
  refine ⟨.slice (some ⟨B103, 0, none⟩) 4 4, Yq rfl rfl, B103, rfl, hlB103, ?_, hb106⟩
  rw [e0, e1]
  exact hN105.blk
 ·
  have h107 := of_decide_eq_false h101
  refine X1 ?_
  refine X4 (q := decide (q = 4)) rfl rfl rfl rfl ?_
  refine Xh (v := .bool (decide (q = 4))) rfl rfl ?_
  refine Xa ?_
  refine Xv ?_
  refine Xw rfl (fun h108 => ?_) (fun h108 => ?_)
  ·
   have h109 := of_decide_eq_true h108
   refine Xb ?_
   refine X7 (ps := [(0, .bool true), (1, .bool false), (2, .bool true), (3, .bool false)]) (e := 4) (cs := #[.bool true, .bool false, .bool true, .bool false]) (Xp rfl (Xp rfl (Xp rfl (Xp rfl X9)))) (fun _ => by kernel_rfl) rfl ?_
   intro B110 w111 hN112
   have hlB110 := Yf hN112 hb0
   have hb113 := low0 hb0 hN112.grw
   refine Xh (v := .slice (some ⟨B110, 0, none⟩) 4 4) rfl rfl ?_
   refine Xa ?_
   refine Xs ?_
   refine Y6 ?_
   refine Yi ?_
   have e0 : need0 q = true := by unfold need0; simp [h107, h109]
   have e1 : need1 q = false := by unfold need1; simp [h107, h109]
   refine ⟨.slice (some ⟨B110, 0, none⟩) 4 4, Yq rfl rfl, B110, rfl, hlB110, ?_, hb113⟩
   rw [e0, e1]
   exact hN112.blk
  ·
   have h114 := of_decide_eq_false h108
   refine Xb ?_
   refine X4 (q := decide (q = 7)) rfl rfl rfl rfl ?_
   refine Xh (v := .bool (decide (q = 7))) rfl rfl ?_
   refine Xa ?_
   refine Xw rfl (fun h115 => ?_) (fun h115 => ?_)
   ·
    have h116 := of_decide_eq_true h115
    refine Xb ?_
    refine X7 (ps := [(0, .bool true), (1, .bool true), (2, .bool true), (3, .bool true)]) (e := 4) (cs := #[.bool true, .bool true, .bool true, .bool true]) (Xp rfl (Xp rfl (Xp rfl (Xp rfl X9)))) (fun _ => by kernel_rfl) rfl ?_
    intro B117 w118 hN119
    have hlB117 := Yf hN119 hb0
    have hb120 := low0 hb0 hN119.grw
    refine Xh (v := .slice (some ⟨B117, 0, none⟩) 4 4) rfl rfl ?_
    refine Xa ?_
    refine Xs ?_
    refine Y6 ?_
    refine Yi ?_
    have e0 : need0 q = true := by unfold need0; simp [h107, h114, h116]
    have e1 : need1 q = true := by unfold need1; simp [h107, h114, h116]
    refine ⟨.slice (some ⟨B117, 0, none⟩) 4 4, Yq rfl rfl, B117, rfl, hlB117, ?_, hb120⟩
    rw [e0, e1]
    exact hN119.blk
   ·
    have h121 := of_decide_eq_false h115
    refine Xy ?_
    refine Yy ?_
    refine Xv ?_
    refine Xb ?_
    refine X7 (ps := [(0, .bool false), (1, .bool true), (2, .bool false), (3, .bool true)]) (e := 4) (cs := #[.bool false, .bool true, .bool false, .bool true]) (Xp rfl (Xp rfl (Xp rfl (Xp rfl X9)))) (fun _ => by kernel_rfl) rfl ?_
    intro B122 w123 hN124
    have hlB122 := Yf hN124 hb0
    have hb125 := low0 hb0 hN124.grw
    refine Xh (v := .slice (some ⟨B122, 0, none⟩) 4 4) rfl rfl ?_
    refine Xa ?_
    refine Xs ?_
    have e0 : need0 q = false := by unfold need0; simp [h107, h114, h121]
    have e1 : need1 q = true := by unfold need1; simp [h107, h114, h121]
    refine ⟨.slice (some ⟨B122, 0, none⟩) 4 4, Yq rfl rfl, B122, rfl, hlB122, ?_, hb125⟩
    rw [e0, e1]
    exact hN124.blk
theorem Hp (q : Cl) (w : World) (ms : List MTh) (a : Option Addr) (c : Nat) (ht : TabAt w a ms) (hlen : TabLen ms) (hn : ms.length ≤ 1048576) (hT : tableOk (tabT ms) = true) (hc : callOk q = true) (hk : kindAt (tabT ms) q.run 3 = true) : CallsR Tryd.prog 24 #[.slice a ms.length c, .agg #[.int .i64 q.kind, .int .i64 q.run, .int .i64 q.a, .int .i64 q.b, .int .i64 q.n]] w (fun v w' => v = .int .i64 (check1 (tabT ms) q) ∧ w.grownBy w' none) := by
 refine X0 (n := 95) Tryd.func24 rfl Tryd.ntmps24 rfl ?_
 have hb0 := World.grownBy.refl w none
 have hco := Z2 hc
 have hkp := (Z5 hk).1
 have h4 := Jc hT hk
 refine Xb ?_
 refine Yu (v := .agg #[.int .i64 q.kind, .int .i64 q.run, .int .i64 q.a, .int .i64 q.b, .int .i64 q.n]) (cs := #[.int .i64 q.kind, .int .i64 q.run, .int .i64 q.a, .int .i64 q.b, .int .i64 q.n]) rfl rfl rfl ?_
 intro B101 w102 hN103
 have hlB101 := Yf hN103 hb0
 have hb104 := low0 hb0 hN103.grw
 refine Xh (v := .int .i64 0) rfl rfl ?_
 refine Xa ?_
 refine Xt ?_
 refine Xb ?_
 refine Xd (o' := 0) Zm rfl rfl rfl ?_
 refine Xi (v := .int .i64 q.kind) X3 rfl (hN103.blk.cell rfl) rfl ?_
 refine X4 (q := decide (q.kind = 3)) rfl rfl rfl rfl ?_
 refine Xa ?_
 refine Xw rfl (fun h105 => ?_) (fun h105 => ?_)
 ·
  have h106 := of_decide_eq_true h105
  refine Xb ?_
  refine Xh (v := .int .i64 0) rfl rfl ?_
  refine Xa ?_
  refine Xs ?_
  refine Yi ?_
  refine ⟨.int .i64 0, Yq rfl rfl, ?_, hb104⟩
  exact congrArg (Value.int .i64) (U6 h105)
 ·
  have h107 := of_decide_eq_false h105
  refine Xy ?_
  refine Xv ?_
  refine Xt ?_
  obtain ⟨b160, q161, o162, ha163, ho164, hr165⟩ := SlAt.at (TabAt.low ht hb104).1 (Yn (Ya (show (q.run - 1).toNat < ms.length by omega)))
  have hle166 := TabLen.at hlen (Ya (show (q.run - 1).toNat < ms.length by omega))
  obtain ⟨b169, q170, o171, ha172, ho173, hr174⟩ := SlAt.at (TabAt.th (TabAt.low ht hb104) (Ya (show (q.run - 1).toNat < ms.length by omega))).1 (Yn (Qg (show (q.a).toNat < (mAt ms ((q.run - 1).toNat)).t.slots.length by omega)))
  have hts175 := Ku hT (show ((q.run - 1).toNat) < ms.length by omega) (show ((q.a).toNat) < (mAt ms ((q.run - 1).toNat)).t.slots.length by omega)
  refine Qs (m := 12) [[], [], [1], [1, 2], [0, 1, 2, 3], [0, 1, 2, 3, 4], [0, 1, 2, 3, 4, 5], [], [7], [0, 1, 2, 3, 4, 5, 6, 7, 8], [0, 1, 2, 3, 4, 5, 6, 7, 8, 9], [], [0, 1, 2, 3, 4, 5, 6, 7, 8, 9, 10, 11]] (fun S F w' => ∃ (B180 : Nat), w102.grownBy w' none ∧ F 0 = .slice a ms.length c ∧ F 3 = .pointer (some ⟨B101, 0, none⟩) ∧ F 4 = .int .i64 0 ∧ (S 0 = true → F 11 = .slice a ms.length c) ∧ (S 1 = true → F 12 = .pointer (some ⟨B101, 1, none⟩)) ∧ (S 2 = true → F 13 = .int .i64 q.run) ∧ (S 3 = true → F 14 = .int .i64 (q.run - 1)) ∧ (S 4 = true → F 15 = .pointer (some ⟨b160, o162, none⟩)) ∧ (S 5 = true → F 16 = .pointer (some ⟨b160, o162 + 5, none⟩)) ∧ (S 6 = true → F 17 = .slice ((mAt ms ((q.run - 1).toNat)).sa) ((mAt ms ((q.run - 1).toNat)).t.slots.length) ((mAt ms ((q.run - 1).toNat)).sc)) ∧ (S 7 = true → F 18 = .pointer (some ⟨B101, 2, none⟩)) ∧ (S 8 = true → F 19 = .int .i64 q.a) ∧ (S 9 = true → F 20 = .pointer (some ⟨b169, o171, none⟩)) ∧ (S 10 = true → F 21 = .agg #[.int .i64 ((rAt (mAt ms ((q.run - 1).toNat)).t.slots ((q.a).toNat)).th), .int .i64 ((rAt (mAt ms ((q.run - 1).toNat)).t.slots ((q.a).toNat)).ve), .bool ((rAt (mAt ms ((q.run - 1).toNat)).t.slots ((q.a).toNat)).rd), .bool ((rAt (mAt ms ((q.run - 1).toNat)).t.slots ((q.a).toNat)).wr), .bool ((rAt (mAt ms ((q.run - 1).toNat)).t.slots ((q.a).toNat)).wk)]) ∧ (S 11 = true → F 5 = .pointer (some ⟨B180, 0, none⟩) ∧ w.heap.size ≤ B180 ∧ Blk w' B180 37 #[.int .i64 0, .int .i64 0, .bool false, .bool false, .bool false] ∧ B101 < B180 ∧ w102.heap.size ≤ B180)) Zi (by kernel_rfl) ⟨0, Yl _, rfl, rfl, rfl, fun h => X5 h, fun h => X5 h, fun h => X5 h, fun h => X5 h, fun h => X5 h, fun h => X5 h, fun h => X5 h, fun h => X5 h, fun h => X5 h, fun h => X5 h, fun h => X5 h, fun h => X5 h⟩ ?_ ?_
  ·
   refine X6 (fun S F w184 hS hbef hcl hI => ?_) ?_
   ·
    obtain ⟨B180, hi185, e186, e187, e188, c_0, c_1, c_2, c_3, c_4, c_5, c_6, c_7, c_8, c_9, c_10, c_11⟩ := hI
    have hb189 := low0 hb104 hi185
    refine Xc (v := .slice a ms.length c) e186 rfl ?_
    exact Xa ⟨B180, hi185, e186, e187, e188, fun _ => rfl, c_1, c_2, c_3, fun h => Xx 4 hS hcl rfl h, fun h => Xx 5 hS hcl rfl h, fun h => Xx 6 hS hcl rfl h, c_7, c_8, fun h => Xx 9 hS hcl rfl h, fun h => Xx 10 hS hcl rfl h, c_11⟩
   refine X6 (fun S F w190 hS hbef hcl hI => ?_) ?_
   ·
    obtain ⟨B180, hi191, e192, e193, e194, c_0, c_1, c_2, c_3, c_4, c_5, c_6, c_7, c_8, c_9, c_10, c_11⟩ := hI
    have hb195 := low0 hb104 hi191
    refine Xd (o' := 1) Zk e193 rfl rfl ?_
    exact Xa ⟨B180, hi191, e192, e193, e194, c_0, fun _ => rfl, fun h => Xx 2 hS hcl rfl h, fun h => Xx 3 hS hcl rfl h, fun h => Xx 4 hS hcl rfl h, fun h => Xx 5 hS hcl rfl h, fun h => Xx 6 hS hcl rfl h, c_7, c_8, fun h => Xx 9 hS hcl rfl h, fun h => Xx 10 hS hcl rfl h, c_11⟩
   refine X6 (fun S F w196 hS hbef hcl hI => ?_) ?_
   ·
    obtain ⟨B180, hi197, e198, e199, e200, c_0, c_1, c_2, c_3, c_4, c_5, c_6, c_7, c_8, c_9, c_10, c_11⟩ := hI
    have hb201 := low0 hb104 hi197
    obtain e202 := c_1 (Xo 1 hbef rfl)
    have k203 := (hN103.blk.grown0 hi197)
    refine Xi (v := .int .i64 q.run) X3 e202 (k203.cell rfl) rfl ?_
    exact Xa ⟨B180, hi197, e198, e199, e200, c_0, c_1, fun _ => rfl, fun h => Xx 3 hS hcl rfl h, fun h => Xx 4 hS hcl rfl h, fun h => Xx 5 hS hcl rfl h, fun h => Xx 6 hS hcl rfl h, c_7, c_8, fun h => Xx 9 hS hcl rfl h, fun h => Xx 10 hS hcl rfl h, c_11⟩
   refine X6 (fun S F w204 hS hbef hcl hI => ?_) ?_
   ·
    obtain ⟨B180, hi205, e206, e207, e208, c_0, c_1, c_2, c_3, c_4, c_5, c_6, c_7, c_8, c_9, c_10, c_11⟩ := hI
    have hb209 := low0 hb104 hi205
    obtain e210 := c_1 (Xo 1 hbef rfl)
    obtain e211 := c_2 (Xo 2 hbef rfl)
    refine Y3 (c := q.run - 1) e211 rfl (by omega) (by omega) (by omega) rfl ?_
    exact Xa ⟨B180, hi205, e206, e207, e208, c_0, c_1, c_2, fun _ => rfl, fun h => Xx 4 hS hcl rfl h, fun h => Xx 5 hS hcl rfl h, fun h => Xx 6 hS hcl rfl h, c_7, c_8, fun h => Xx 9 hS hcl rfl h, fun h => Xx 10 hS hcl rfl h, c_11⟩
   refine X6 (fun S F w212 hS hbef hcl hI => ?_) ?_
   ·
    obtain ⟨B180, hi213, e214, e215, e216, c_0, c_1, c_2, c_3, c_4, c_5, c_6, c_7, c_8, c_9, c_10, c_11⟩ := hI
    have hb217 := low0 hb104 hi213
    obtain e218 := c_0 (Xo 0 hbef rfl)
    obtain e219 := c_1 (Xo 1 hbef rfl)
    obtain e220 := c_2 (Xo 2 hbef rfl)
    obtain e221 := c_3 (Xo 3 hbef rfl)
    refine Yd Zl e218 e221 ha163 ho164 (by omega) (by omega) rfl ?_
    exact Xa ⟨B180, hi213, e214, e215, e216, c_0, c_1, c_2, c_3, fun _ => rfl, fun h => Xx 5 hS hcl rfl h, fun h => Xx 6 hS hcl rfl h, c_7, c_8, fun h => Xx 9 hS hcl rfl h, fun h => Xx 10 hS hcl rfl h, c_11⟩
   refine X6 (fun S F w222 hS hbef hcl hI => ?_) ?_
   ·
    obtain ⟨B180, hi223, e224, e225, e226, c_0, c_1, c_2, c_3, c_4, c_5, c_6, c_7, c_8, c_9, c_10, c_11⟩ := hI
    have hb227 := low0 hb104 hi223
    obtain e228 := c_0 (Xo 0 hbef rfl)
    obtain e229 := c_1 (Xo 1 hbef rfl)
    obtain e230 := c_2 (Xo 2 hbef rfl)
    obtain e231 := c_3 (Xo 3 hbef rfl)
    obtain e232 := c_4 (Xo 4 hbef rfl)
    refine Xd (o' := o162 + 5) Zt e232 rfl rfl ?_
    exact Xa ⟨B180, hi223, e224, e225, e226, c_0, c_1, c_2, c_3, c_4, fun _ => rfl, fun h => Xx 6 hS hcl rfl h, c_7, c_8, fun h => Xx 9 hS hcl rfl h, fun h => Xx 10 hS hcl rfl h, c_11⟩
   refine X6 (fun S F w233 hS hbef hcl hI => ?_) ?_
   ·
    obtain ⟨B180, hi234, e235, e236, e237, c_0, c_1, c_2, c_3, c_4, c_5, c_6, c_7, c_8, c_9, c_10, c_11⟩ := hI
    have hb238 := low0 hb104 hi234
    obtain e239 := c_0 (Xo 0 hbef rfl)
    obtain e240 := c_1 (Xo 1 hbef rfl)
    obtain e241 := c_2 (Xo 2 hbef rfl)
    obtain e242 := c_3 (Xo 3 hbef rfl)
    obtain e243 := c_4 (Xo 4 hbef rfl)
    obtain e244 := c_5 (Xo 5 hbef rfl)
    refine Xi (v := .slice ((mAt ms ((q.run - 1).toNat)).sa) ((mAt ms ((q.run - 1).toNat)).t.slots.length) ((mAt ms ((q.run - 1).toNat)).sc)) Qq e244 ((Yo hr165 hi234) 5 _ rfl) rfl ?_
    exact Xa ⟨B180, hi234, e235, e236, e237, c_0, c_1, c_2, c_3, c_4, c_5, fun _ => rfl, c_7, c_8, fun h => Xx 9 hS hcl rfl h, fun h => Xx 10 hS hcl rfl h, c_11⟩
   refine X6 (fun S F w245 hS hbef hcl hI => ?_) ?_
   ·
    obtain ⟨B180, hi246, e247, e248, e249, c_0, c_1, c_2, c_3, c_4, c_5, c_6, c_7, c_8, c_9, c_10, c_11⟩ := hI
    have hb250 := low0 hb104 hi246
    refine Xd (o' := 2) Qt e248 rfl rfl ?_
    exact Xa ⟨B180, hi246, e247, e248, e249, c_0, c_1, c_2, c_3, c_4, c_5, c_6, fun _ => rfl, fun h => Xx 8 hS hcl rfl h, fun h => Xx 9 hS hcl rfl h, fun h => Xx 10 hS hcl rfl h, c_11⟩
   refine X6 (fun S F w251 hS hbef hcl hI => ?_) ?_
   ·
    obtain ⟨B180, hi252, e253, e254, e255, c_0, c_1, c_2, c_3, c_4, c_5, c_6, c_7, c_8, c_9, c_10, c_11⟩ := hI
    have hb256 := low0 hb104 hi252
    obtain e257 := c_7 (Xo 7 hbef rfl)
    have k258 := (hN103.blk.grown0 hi252)
    refine Xi (v := .int .i64 q.a) X3 e257 (k258.cell rfl) rfl ?_
    exact Xa ⟨B180, hi252, e253, e254, e255, c_0, c_1, c_2, c_3, c_4, c_5, c_6, c_7, fun _ => rfl, fun h => Xx 9 hS hcl rfl h, fun h => Xx 10 hS hcl rfl h, c_11⟩
   refine X6 (fun S F w259 hS hbef hcl hI => ?_) ?_
   ·
    obtain ⟨B180, hi260, e261, e262, e263, c_0, c_1, c_2, c_3, c_4, c_5, c_6, c_7, c_8, c_9, c_10, c_11⟩ := hI
    have hb264 := low0 hb104 hi260
    obtain e265 := c_0 (Xo 0 hbef rfl)
    obtain e266 := c_1 (Xo 1 hbef rfl)
    obtain e267 := c_2 (Xo 2 hbef rfl)
    obtain e268 := c_3 (Xo 3 hbef rfl)
    obtain e269 := c_4 (Xo 4 hbef rfl)
    obtain e270 := c_5 (Xo 5 hbef rfl)
    obtain e271 := c_6 (Xo 6 hbef rfl)
    obtain e272 := c_7 (Xo 7 hbef rfl)
    obtain e273 := c_8 (Xo 8 hbef rfl)
    refine Yd Ka e271 e273 ha172 ho173 (by omega) (by omega) rfl ?_
    exact Xa ⟨B180, hi260, e261, e262, e263, c_0, c_1, c_2, c_3, c_4, c_5, c_6, c_7, c_8, fun _ => rfl, fun h => Xx 10 hS hcl rfl h, c_11⟩
   refine X6 (fun S F w274 hS hbef hcl hI => ?_) ?_
   ·
    obtain ⟨B180, hi275, e276, e277, e278, c_0, c_1, c_2, c_3, c_4, c_5, c_6, c_7, c_8, c_9, c_10, c_11⟩ := hI
    have hb279 := low0 hb104 hi275
    obtain e280 := c_0 (Xo 0 hbef rfl)
    obtain e281 := c_1 (Xo 1 hbef rfl)
    obtain e282 := c_2 (Xo 2 hbef rfl)
    obtain e283 := c_3 (Xo 3 hbef rfl)
    obtain e284 := c_4 (Xo 4 hbef rfl)
    obtain e285 := c_5 (Xo 5 hbef rfl)
    obtain e286 := c_6 (Xo 6 hbef rfl)
    obtain e287 := c_7 (Xo 7 hbef rfl)
    obtain e288 := c_8 (Xo 8 hbef rfl)
    obtain e289 := c_9 (Xo 9 hbef rfl)
    refine Xu (vs := [.int .i64 ((rAt (mAt ms ((q.run - 1).toNat)).t.slots ((q.a).toNat)).th), .int .i64 ((rAt (mAt ms ((q.run - 1).toNat)).t.slots ((q.a).toNat)).ve), .bool ((rAt (mAt ms ((q.run - 1).toNat)).t.slots ((q.a).toNat)).rd), .bool ((rAt (mAt ms ((q.run - 1).toNat)).t.slots ((q.a).toNat)).wr), .bool ((rAt (mAt ms ((q.run - 1).toNat)).t.slots ((q.a).toNat)).wk)]) Y8 e289 rfl (Za (Yo hr174 hi275) 0 5 rfl) rfl ?_
    exact Xa ⟨B180, hi275, e276, e277, e278, c_0, c_1, c_2, c_3, c_4, c_5, c_6, c_7, c_8, c_9, fun _ => rfl, c_11⟩
   refine X6 (fun S F w290 hS hbef hcl hI => ?_) ?_
   ·
    obtain ⟨B180, hi291, e292, e293, e294, c_0, c_1, c_2, c_3, c_4, c_5, c_6, c_7, c_8, c_9, c_10, c_11⟩ := hI
    have hb295 := low0 hb104 hi291
    refine Yj (cs := #[.int .i64 0, .int .i64 0, .bool false, .bool false, .bool false]) J3 rfl rfl ?_
    intro B296 w297 hN298
    have hlB296 := Yf hN298 hb295
    have k299 := (hN103.blk.grown0 hi291)
    have lt_B101_B296 := Xq hN298 (k299).lt
    have hb300 := low0 hb295 hN298.grw
    exact Xa ⟨B296, (low0 hi291 hN298.grw), e292, e293, e294, c_0, c_1, c_2, c_3, c_4, c_5, c_6, c_7, c_8, c_9, c_10, fun _ => ⟨rfl, hlB296, hN298.blk, lt_B101_B296, (Nat.le_trans hi291.size (Nat.le_of_eq hN298.eq.symm))⟩⟩
   exact Q5
  ·
   intro S F w301 hall hI
   obtain ⟨B180, hi302, e303, e304, e305, c_0, c_1, c_2, c_3, c_4, c_5, c_6, c_7, c_8, c_9, c_10, c_11⟩ := hI
   have hb306 := low0 hb104 hi302
   obtain e307 := c_0 (hall 0 (by decide))
   obtain e308 := c_1 (hall 1 (by decide))
   obtain e309 := c_2 (hall 2 (by decide))
   obtain e310 := c_3 (hall 3 (by decide))
   obtain e311 := c_4 (hall 4 (by decide))
   obtain e312 := c_5 (hall 5 (by decide))
   obtain e313 := c_6 (hall 6 (by decide))
   obtain e314 := c_7 (hall 7 (by decide))
   obtain e315 := c_8 (hall 8 (by decide))
   obtain e316 := c_9 (hall 9 (by decide))
   obtain e317 := c_10 (hall 10 (by decide))
   obtain ⟨e318, hlB180, kb_B180, lt_B101_B180, hk_B180⟩ := c_11 (hall 11 (by decide))
   refine Xz (vs := [.int .i64 ((rAt (mAt ms ((q.run - 1).toNat)).t.slots ((q.a).toNat)).th), .int .i64 ((rAt (mAt ms ((q.run - 1).toNat)).t.slots ((q.a).toNat)).ve), .bool ((rAt (mAt ms ((q.run - 1).toNat)).t.slots ((q.a).toNat)).rd), .bool ((rAt (mAt ms ((q.run - 1).toNat)).t.slots ((q.a).toNat)).wr), .bool ((rAt (mAt ms ((q.run - 1).toNat)).t.slots ((q.a).toNat)).wk)]) (cs' := #[.int .i64 ((rAt (mAt ms ((q.run - 1).toNat)).t.slots ((q.a).toNat)).th), .int .i64 ((rAt (mAt ms ((q.run - 1).toNat)).t.slots ((q.a).toNat)).ve), .bool ((rAt (mAt ms ((q.run - 1).toNat)).t.slots ((q.a).toNat)).rd), .bool ((rAt (mAt ms ((q.run - 1).toNat)).t.slots ((q.a).toNat)).wr), .bool ((rAt (mAt ms ((q.run - 1).toNat)).t.slots ((q.a).toNat)).wk)]) Y8 e318 e317 rfl (by simp [Value.oneCell']) kb_B180 (Nat.le_of_ble_eq_true rfl) rfl ?_
   intro w319 hS320
   have hb321 := low1 hb306 hS320.grw (by omega)
   refine Xa ?_
   refine Xv ?_
   refine Xb ?_
   refine Xd (o' := 0) Zm e304 rfl rfl ?_
   have k322 := ((hN103.blk.grown0 hi302).grown hS320.grw (Xf (by omega)))
   refine Xi (v := .int .i64 q.kind) X3 rfl (k322.cell rfl) rfl ?_
   refine Xn (vs := [.int .i64 q.kind]) T7 (Xg rfl Xm) rfl (Ho q.kind _) ?_
   rintro _ w327 ⟨B323, rfl, hge324, k325, hg326⟩
   have hb328 := low0 hb321 hg326
   have hlB323 := Nat.le_trans hb321.size hge324
   have lt_B101_B323 := Nat.lt_of_lt_of_le (k322).lt hge324
   have lt_B180_B323 := Nat.lt_of_lt_of_le (hS320.blk).lt hge324
   refine Xh (v := .slice (some ⟨B323, 0, none⟩) 4 4) rfl rfl ?_
   refine Xa ?_
   refine Xt ?_
   refine Q0 (fun f' w' => (f' 0 = .slice a ms.length c ∧ f' 3 = .pointer (some ⟨B101, 0, none⟩) ∧ f' 4 = .int .i64 0 ∧ f' 5 = .pointer (some ⟨B180, 0, none⟩) ∧ f' 6 = .slice (some ⟨B323, 0, none⟩) 4 4 ∧ f' 60 = .bool ((((decide ((rAt (mAt ms ((q.run - 1).toNat)).t.slots ((q.a).toNat)).th = 0)) || (!kindFor q.kind ((mAt ms ((((rAt (mAt ms ((q.run - 1).toNat)).t.slots ((q.a).toNat)).th) - 1).toNat)).t.kind))) || (need0 q.kind && (!(rAt (mAt ms ((q.run - 1).toNat)).t.slots ((q.a).toNat)).rd))) || (need1 q.kind && (!(rAt (mAt ms ((q.run - 1).toNat)).t.slots ((q.a).toNat)).wr)))) ∧ w327.grownBy w' none) ?_ ?_
   ·
    rcases Yb (decide ((rAt (mAt ms ((q.run - 1).toNat)).t.slots ((q.a).toNat)).th = 0)) with h347 | h347
    ·
     have h348 := of_decide_eq_true h347
     refine Ze (m := 13) (vals := [(25, .pointer (some ⟨B180, 0, none⟩)), (26, .int .i64 ((rAt (mAt ms ((q.run - 1).toNat)).t.slots ((q.a).toNat)).th)), (27, .bool (decide ((rAt (mAt ms ((q.run - 1).toNat)).t.slots ((q.a).toNat)).th = 0))), (28, .bool (decide ((rAt (mAt ms ((q.run - 1).toNat)).t.slots ((q.a).toNat)).th = 0))), (29, undef), (30, undef), (31, undef), (32, undef), (33, undef), (34, undef), (35, undef), (36, undef), (37, undef)]) (fun w' => w327.grownBy w' none) Zi (by kernel_rfl) (Yl _) ?_ ?_
     ·
      refine Xj rfl (fun w352 hi353 => ?_) ?_
      ·
       have hb354 := low0 hb328 hi353
       refine Xd (o' := 0) Yp e318 rfl rfl ?_
       exact Xa ⟨rfl, hi353⟩
      refine Xj rfl (fun w355 hi356 => ?_) ?_
      ·
       have hb357 := low0 hb328 hi356
       have k358 := ((hS320.blk.grown0 hg326).grown0 hi356)
       refine Xi (v := .int .i64 ((rAt (mAt ms ((q.run - 1).toNat)).t.slots ((q.a).toNat)).th)) X3 rfl (k358.cell rfl) rfl ?_
       exact Xa ⟨rfl, hi356⟩
      refine Xj rfl (fun w359 hi360 => ?_) ?_
      ·
       have hb361 := low0 hb328 hi360
       refine X4 (q := decide ((rAt (mAt ms ((q.run - 1).toNat)).t.slots ((q.a).toNat)).th = 0)) rfl rfl rfl rfl ?_
       exact Xa ⟨rfl, hi360⟩
      refine Xj rfl (fun w362 hi363 => ?_) ?_
      ·
       have hb364 := low0 hb328 hi363
       refine Xc (v := .bool (decide ((rAt (mAt ms ((q.run - 1).toNat)).t.slots ((q.a).toNat)).th = 0))) rfl rfl ?_
       exact Xa ⟨rfl, hi363⟩
      refine Xj rfl (fun w365 hi366 => ?_) ?_
      ·
       have hb367 := low0 hb328 hi366
       refine Xk rfl rfl rfl h347 rfl ?_
       exact Xa ⟨rfl, hi366⟩
      refine Xj rfl (fun w368 hi369 => ?_) ?_
      ·
       have hb370 := low0 hb328 hi369
       refine Xk rfl rfl rfl h347 rfl ?_
       exact Xa ⟨rfl, hi369⟩
      refine Xj rfl (fun w371 hi372 => ?_) ?_
      ·
       have hb373 := low0 hb328 hi372
       refine Xk rfl rfl rfl h347 rfl ?_
       exact Xa ⟨rfl, hi372⟩
      refine Xj rfl (fun w374 hi375 => ?_) ?_
      ·
       have hb376 := low0 hb328 hi375
       refine Xk rfl rfl rfl h347 rfl ?_
       exact Xa ⟨rfl, hi375⟩
      refine Xj rfl (fun w377 hi378 => ?_) ?_
      ·
       have hb379 := low0 hb328 hi378
       refine Xk rfl rfl rfl h347 rfl ?_
       exact Xa ⟨rfl, hi378⟩
      refine Xj rfl (fun w380 hi381 => ?_) ?_
      ·
       have hb382 := low0 hb328 hi381
       refine Xk rfl rfl rfl h347 rfl ?_
       exact Xa ⟨rfl, hi381⟩
      refine Xj rfl (fun w383 hi384 => ?_) ?_
      ·
       have hb385 := low0 hb328 hi384
       refine Xk rfl rfl rfl h347 rfl ?_
       exact Xa ⟨rfl, hi384⟩
      refine Xj rfl (fun w386 hi387 => ?_) ?_
      ·
       have hb388 := low0 hb328 hi387
       refine Xk rfl rfl rfl h347 rfl ?_
       exact Xa ⟨rfl, hi387⟩
      refine Xj rfl (fun w389 hi390 => ?_) ?_
      ·
       have hb391 := low0 hb328 hi390
       refine Xk rfl rfl rfl h347 rfl ?_
       exact Xa ⟨rfl, hi390⟩
      exact Zj
     ·
      intro w392 hi393
      have hb394 := low0 hb328 hi393
      refine Xk rfl rfl rfl h347 rfl ?_
      refine Xk rfl rfl rfl h347 rfl ?_
      refine Xr (v := .bool true) rfl h347 rfl rfl ?_
      refine Xc (v := .bool true) rfl rfl ?_
      iterate 4 refine Xk rfl rfl rfl rfl rfl ?_
      iterate 3 refine Yg rfl rfl rfl rfl ?_
      refine Xk rfl rfl rfl rfl rfl ?_
      refine Xr (v := .bool true) rfl rfl rfl rfl ?_
      refine Xc (v := .bool true) rfl rfl ?_
      iterate 4 refine Xk rfl rfl rfl rfl rfl ?_
      iterate 3 refine Yg rfl rfl rfl rfl ?_
      refine Xk rfl rfl rfl rfl rfl ?_
      refine Xr (v := .bool true) rfl rfl rfl rfl ?_
      exact Xa (Xv ⟨⟨e303, e304, e305, e318, rfl, (congrArg Value.bool (by first | (simp only [h105, h347, hT, b0, b1, b2, b3, b4, b5, b6, b7, b8, b9]; done) | simp [h105, h347, hT]))⟩, hi393⟩)
    ·
     have h395 := of_decide_eq_false h347
     rcases Yb (!kindFor q.kind ((mAt ms ((((rAt (mAt ms ((q.run - 1).toNat)).t.slots ((q.a).toNat)).th) - 1).toNat)).t.kind)) with h410 | h410
     ·
      have h411 := Zn h410
      obtain ⟨b430, q431, o432, ha433, ho434, hr435⟩ := SlAt.at (TabAt.low ht hb328).1 (Yn (Ya (show (((rAt (mAt ms ((q.run - 1).toNat)).t.slots ((q.a).toNat)).th) - 1).toNat < ms.length by omega)))
      have hle436 := TabLen.at hlen (Ya (show (((rAt (mAt ms ((q.run - 1).toNat)).t.slots ((q.a).toNat)).th) - 1).toNat < ms.length by omega))
      refine Ze (m := 13) (vals := [(25, .pointer (some ⟨B180, 0, none⟩)), (26, .int .i64 ((rAt (mAt ms ((q.run - 1).toNat)).t.slots ((q.a).toNat)).th)), (27, .bool (decide ((rAt (mAt ms ((q.run - 1).toNat)).t.slots ((q.a).toNat)).th = 0))), (28, .bool (decide ((rAt (mAt ms ((q.run - 1).toNat)).t.slots ((q.a).toNat)).th = 0))), (29, .pointer (some ⟨B101, 0, none⟩)), (30, .int .i64 q.kind), (31, .slice a ms.length c), (32, .pointer (some ⟨B180, 0, none⟩)), (33, .int .i64 ((rAt (mAt ms ((q.run - 1).toNat)).t.slots ((q.a).toNat)).th)), (34, .int .i64 (((rAt (mAt ms ((q.run - 1).toNat)).t.slots ((q.a).toNat)).th) - 1)), (35, .pointer (some ⟨b430, o432, none⟩)), (36, .pointer (some ⟨b430, o432, none⟩)), (37, .int .i64 ((mAt ms ((((rAt (mAt ms ((q.run - 1).toNat)).t.slots ((q.a).toNat)).th) - 1).toNat)).t.kind))]) (fun w' => w327.grownBy w' none) Zi (by kernel_rfl) (Yl _) ?_ ?_
      ·
       refine Xj rfl (fun w442 hi443 => ?_) ?_
       ·
        have hb444 := low0 hb328 hi443
        refine Xd (o' := 0) Yp e318 rfl rfl ?_
        exact Xa ⟨rfl, hi443⟩
       refine Xj rfl (fun w445 hi446 => ?_) ?_
       ·
        have hb447 := low0 hb328 hi446
        have k448 := ((hS320.blk.grown0 hg326).grown0 hi446)
        refine Xi (v := .int .i64 ((rAt (mAt ms ((q.run - 1).toNat)).t.slots ((q.a).toNat)).th)) X3 rfl (k448.cell rfl) rfl ?_
        exact Xa ⟨rfl, hi446⟩
       refine Xj rfl (fun w449 hi450 => ?_) ?_
       ·
        have hb451 := low0 hb328 hi450
        refine X4 (q := decide ((rAt (mAt ms ((q.run - 1).toNat)).t.slots ((q.a).toNat)).th = 0)) rfl rfl rfl rfl ?_
        exact Xa ⟨rfl, hi450⟩
       refine Xj rfl (fun w452 hi453 => ?_) ?_
       ·
        have hb454 := low0 hb328 hi453
        refine Xc (v := .bool (decide ((rAt (mAt ms ((q.run - 1).toNat)).t.slots ((q.a).toNat)).th = 0))) rfl rfl ?_
        exact Xa ⟨rfl, hi453⟩
       refine Xj rfl (fun w455 hi456 => ?_) ?_
       ·
        have hb457 := low0 hb328 hi456
        refine Xe rfl rfl rfl h347 ?_
        refine Xd (o' := 0) Zm e304 rfl rfl ?_
        exact Xa ⟨rfl, hi456⟩
       refine Xj rfl (fun w458 hi459 => ?_) ?_
       ·
        have hb460 := low0 hb328 hi459
        refine Xe rfl rfl rfl h347 ?_
        have k461 := ((k322.grown0 hg326).grown0 hi459)
        refine Xi (v := .int .i64 q.kind) X3 rfl (k461.cell rfl) rfl ?_
        exact Xa ⟨rfl, hi459⟩
       refine Xj rfl (fun w462 hi463 => ?_) ?_
       ·
        have hb464 := low0 hb328 hi463
        refine Xe rfl rfl rfl h347 ?_
        refine Xc (v := .slice a ms.length c) e303 rfl ?_
        exact Xa ⟨rfl, hi463⟩
       refine Xj rfl (fun w465 hi466 => ?_) ?_
       ·
        have hb467 := low0 hb328 hi466
        refine Xe rfl rfl rfl h347 ?_
        refine Xd (o' := 0) Yp e318 rfl rfl ?_
        exact Xa ⟨rfl, hi466⟩
       refine Xj rfl (fun w468 hi469 => ?_) ?_
       ·
        have hb470 := low0 hb328 hi469
        refine Xe rfl rfl rfl h347 ?_
        have k471 := ((hS320.blk.grown0 hg326).grown0 hi469)
        refine Xi (v := .int .i64 ((rAt (mAt ms ((q.run - 1).toNat)).t.slots ((q.a).toNat)).th)) X3 rfl (k471.cell rfl) rfl ?_
        exact Xa ⟨rfl, hi469⟩
       refine Xj rfl (fun w472 hi473 => ?_) ?_
       ·
        have hb474 := low0 hb328 hi473
        refine Xe rfl rfl rfl h347 ?_
        refine Y3 (c := ((rAt (mAt ms ((q.run - 1).toNat)).t.slots ((q.a).toNat)).th) - 1) rfl rfl (by omega) (by omega) (by omega) rfl ?_
        exact Xa ⟨rfl, hi473⟩
       refine Xj rfl (fun w475 hi476 => ?_) ?_
       ·
        have hb477 := low0 hb328 hi476
        refine Xe rfl rfl rfl h347 ?_
        refine Yd Zl rfl rfl ha433 ho434 (by omega) (by omega) rfl ?_
        exact Xa ⟨rfl, hi476⟩
       refine Xj rfl (fun w478 hi479 => ?_) ?_
       ·
        have hb480 := low0 hb328 hi479
        refine Xe rfl rfl rfl h347 ?_
        refine Xd (o' := o432) Yt rfl rfl rfl ?_
        exact Xa ⟨rfl, hi479⟩
       refine Xj rfl (fun w481 hi482 => ?_) ?_
       ·
        have hb483 := low0 hb328 hi482
        refine Xe rfl rfl rfl h347 ?_
        refine Xi (v := .int .i64 ((mAt ms ((((rAt (mAt ms ((q.run - 1).toNat)).t.slots ((q.a).toNat)).th) - 1).toNat)).t.kind)) X3 rfl ((Yo hr435 hi482) 0 _ rfl) rfl ?_
        exact Xa ⟨rfl, hi482⟩
       exact Zj
      ·
       intro w484 hi485
       have hb486 := low0 hb328 hi485
       refine Xe rfl rfl rfl h347 ?_
       refine Xn (vs := [.int .i64 q.kind, .int .i64 ((mAt ms ((((rAt (mAt ms ((q.run - 1).toNat)).t.slots ((q.a).toNat)).th) - 1).toNat)).t.kind)]) U7 (Xg rfl (Xg rfl Xm)) rfl (Jf q.kind ((mAt ms ((((rAt (mAt ms ((q.run - 1).toNat)).t.slots ((q.a).toNat)).th) - 1).toNat)).t.kind) _) ?_
       rintro _ w487 ⟨rfl, hg488⟩
       have hb489 := low0 hb486 hg488
       refine Xe rfl rfl rfl h347 ?_
       refine Yk (b' := !kindFor q.kind ((mAt ms ((((rAt (mAt ms ((q.run - 1).toNat)).t.slots ((q.a).toNat)).th) - 1).toNat)).t.kind)) rfl rfl rfl ?_
       refine Xl (v := .bool (!kindFor q.kind ((mAt ms ((((rAt (mAt ms ((q.run - 1).toNat)).t.slots ((q.a).toNat)).th) - 1).toNat)).t.kind))) rfl h347 rfl rfl ?_
       refine Xc (v := .bool (!kindFor q.kind ((mAt ms ((((rAt (mAt ms ((q.run - 1).toNat)).t.slots ((q.a).toNat)).th) - 1).toNat)).t.kind))) rfl rfl ?_
       iterate 4 refine Xk rfl rfl rfl h410 rfl ?_
       iterate 3 refine Yg rfl rfl rfl rfl ?_
       refine Xk rfl rfl rfl h410 rfl ?_
       refine Xr (v := .bool true) rfl h410 rfl rfl ?_
       refine Xc (v := .bool true) rfl rfl ?_
       iterate 4 refine Xk rfl rfl rfl rfl rfl ?_
       iterate 3 refine Yg rfl rfl rfl rfl ?_
       refine Xk rfl rfl rfl rfl rfl ?_
       refine Xr (v := .bool true) rfl rfl rfl rfl ?_
       exact Xa (Xv ⟨⟨e303, e304, e305, e318, rfl, (congrArg Value.bool (by first | (simp only [h105, h347, h410, h411, hT, b0, b1, b2, b3, b4, b5, b6, b7, b8, b9]; done) | simp [h105, h347, h410, h411, hT]))⟩, (grown_trans hi485 hg488)⟩)
     ·
      have h490 := Zh h410
      rcases Yb (need0 q.kind) with h506 | h506
      ·
       rcases Yb (!(rAt (mAt ms ((q.run - 1).toNat)).t.slots ((q.a).toNat)).rd) with h523 | h523
       ·
        have h524 := Zn h523
        obtain ⟨b545, q546, o547, ha548, ho549, hr550⟩ := SlAt.at (TabAt.low ht hb328).1 (Yn (Ya (show (((rAt (mAt ms ((q.run - 1).toNat)).t.slots ((q.a).toNat)).th) - 1).toNat < ms.length by omega)))
        have hle551 := TabLen.at hlen (Ya (show (((rAt (mAt ms ((q.run - 1).toNat)).t.slots ((q.a).toNat)).th) - 1).toNat < ms.length by omega))
        refine Ze (m := 13) (vals := [(25, .pointer (some ⟨B180, 0, none⟩)), (26, .int .i64 ((rAt (mAt ms ((q.run - 1).toNat)).t.slots ((q.a).toNat)).th)), (27, .bool (decide ((rAt (mAt ms ((q.run - 1).toNat)).t.slots ((q.a).toNat)).th = 0))), (28, .bool (decide ((rAt (mAt ms ((q.run - 1).toNat)).t.slots ((q.a).toNat)).th = 0))), (29, .pointer (some ⟨B101, 0, none⟩)), (30, .int .i64 q.kind), (31, .slice a ms.length c), (32, .pointer (some ⟨B180, 0, none⟩)), (33, .int .i64 ((rAt (mAt ms ((q.run - 1).toNat)).t.slots ((q.a).toNat)).th)), (34, .int .i64 (((rAt (mAt ms ((q.run - 1).toNat)).t.slots ((q.a).toNat)).th) - 1)), (35, .pointer (some ⟨b545, o547, none⟩)), (36, .pointer (some ⟨b545, o547, none⟩)), (37, .int .i64 ((mAt ms ((((rAt (mAt ms ((q.run - 1).toNat)).t.slots ((q.a).toNat)).th) - 1).toNat)).t.kind))]) (fun w' => w327.grownBy w' none) Zi (by kernel_rfl) (Yl _) ?_ ?_
        ·
         refine Xj rfl (fun w559 hi560 => ?_) ?_
         ·
          have hb561 := low0 hb328 hi560
          refine Xd (o' := 0) Yp e318 rfl rfl ?_
          exact Xa ⟨rfl, hi560⟩
         refine Xj rfl (fun w562 hi563 => ?_) ?_
         ·
          have hb564 := low0 hb328 hi563
          have k565 := ((hS320.blk.grown0 hg326).grown0 hi563)
          refine Xi (v := .int .i64 ((rAt (mAt ms ((q.run - 1).toNat)).t.slots ((q.a).toNat)).th)) X3 rfl (k565.cell rfl) rfl ?_
          exact Xa ⟨rfl, hi563⟩
         refine Xj rfl (fun w566 hi567 => ?_) ?_
         ·
          have hb568 := low0 hb328 hi567
          refine X4 (q := decide ((rAt (mAt ms ((q.run - 1).toNat)).t.slots ((q.a).toNat)).th = 0)) rfl rfl rfl rfl ?_
          exact Xa ⟨rfl, hi567⟩
         refine Xj rfl (fun w569 hi570 => ?_) ?_
         ·
          have hb571 := low0 hb328 hi570
          refine Xc (v := .bool (decide ((rAt (mAt ms ((q.run - 1).toNat)).t.slots ((q.a).toNat)).th = 0))) rfl rfl ?_
          exact Xa ⟨rfl, hi570⟩
         refine Xj rfl (fun w572 hi573 => ?_) ?_
         ·
          have hb574 := low0 hb328 hi573
          refine Xe rfl rfl rfl h347 ?_
          refine Xd (o' := 0) Zm e304 rfl rfl ?_
          exact Xa ⟨rfl, hi573⟩
         refine Xj rfl (fun w575 hi576 => ?_) ?_
         ·
          have hb577 := low0 hb328 hi576
          refine Xe rfl rfl rfl h347 ?_
          have k578 := ((k322.grown0 hg326).grown0 hi576)
          refine Xi (v := .int .i64 q.kind) X3 rfl (k578.cell rfl) rfl ?_
          exact Xa ⟨rfl, hi576⟩
         refine Xj rfl (fun w579 hi580 => ?_) ?_
         ·
          have hb581 := low0 hb328 hi580
          refine Xe rfl rfl rfl h347 ?_
          refine Xc (v := .slice a ms.length c) e303 rfl ?_
          exact Xa ⟨rfl, hi580⟩
         refine Xj rfl (fun w582 hi583 => ?_) ?_
         ·
          have hb584 := low0 hb328 hi583
          refine Xe rfl rfl rfl h347 ?_
          refine Xd (o' := 0) Yp e318 rfl rfl ?_
          exact Xa ⟨rfl, hi583⟩
         refine Xj rfl (fun w585 hi586 => ?_) ?_
         ·
          have hb587 := low0 hb328 hi586
          refine Xe rfl rfl rfl h347 ?_
          have k588 := ((hS320.blk.grown0 hg326).grown0 hi586)
          refine Xi (v := .int .i64 ((rAt (mAt ms ((q.run - 1).toNat)).t.slots ((q.a).toNat)).th)) X3 rfl (k588.cell rfl) rfl ?_
          exact Xa ⟨rfl, hi586⟩
         refine Xj rfl (fun w589 hi590 => ?_) ?_
         ·
          have hb591 := low0 hb328 hi590
          refine Xe rfl rfl rfl h347 ?_
          refine Y3 (c := ((rAt (mAt ms ((q.run - 1).toNat)).t.slots ((q.a).toNat)).th) - 1) rfl rfl (by omega) (by omega) (by omega) rfl ?_
          exact Xa ⟨rfl, hi590⟩
         refine Xj rfl (fun w592 hi593 => ?_) ?_
         ·
          have hb594 := low0 hb328 hi593
          refine Xe rfl rfl rfl h347 ?_
          refine Yd Zl rfl rfl ha548 ho549 (by omega) (by omega) rfl ?_
          exact Xa ⟨rfl, hi593⟩
         refine Xj rfl (fun w595 hi596 => ?_) ?_
         ·
          have hb597 := low0 hb328 hi596
          refine Xe rfl rfl rfl h347 ?_
          refine Xd (o' := o547) Yt rfl rfl rfl ?_
          exact Xa ⟨rfl, hi596⟩
         refine Xj rfl (fun w598 hi599 => ?_) ?_
         ·
          have hb600 := low0 hb328 hi599
          refine Xe rfl rfl rfl h347 ?_
          refine Xi (v := .int .i64 ((mAt ms ((((rAt (mAt ms ((q.run - 1).toNat)).t.slots ((q.a).toNat)).th) - 1).toNat)).t.kind)) X3 rfl ((Yo hr550 hi599) 0 _ rfl) rfl ?_
          exact Xa ⟨rfl, hi599⟩
         exact Zj
        ·
         intro w601 hi602
         have hb603 := low0 hb328 hi602
         refine Xe rfl rfl rfl h347 ?_
         refine Xn (vs := [.int .i64 q.kind, .int .i64 ((mAt ms ((((rAt (mAt ms ((q.run - 1).toNat)).t.slots ((q.a).toNat)).th) - 1).toNat)).t.kind)]) U7 (Xg rfl (Xg rfl Xm)) rfl (Jf q.kind ((mAt ms ((((rAt (mAt ms ((q.run - 1).toNat)).t.slots ((q.a).toNat)).th) - 1).toNat)).t.kind) _) ?_
         rintro _ w604 ⟨rfl, hg605⟩
         have hb606 := low0 hb603 hg605
         refine Xe rfl rfl rfl h347 ?_
         refine Yk (b' := !kindFor q.kind ((mAt ms ((((rAt (mAt ms ((q.run - 1).toNat)).t.slots ((q.a).toNat)).th) - 1).toNat)).t.kind)) rfl rfl rfl ?_
         refine Xl (v := .bool (!kindFor q.kind ((mAt ms ((((rAt (mAt ms ((q.run - 1).toNat)).t.slots ((q.a).toNat)).th) - 1).toNat)).t.kind))) rfl h347 rfl rfl ?_
         refine Xc (v := .bool (!kindFor q.kind ((mAt ms ((((rAt (mAt ms ((q.run - 1).toNat)).t.slots ((q.a).toNat)).th) - 1).toNat)).t.kind))) rfl rfl ?_
         refine Xe rfl rfl rfl h410 ?_
         refine Xc (v := .slice (some ⟨B323, 0, none⟩) 4 4) rfl rfl ?_
         refine Xe rfl rfl rfl h410 ?_
         refine X8 (o' := 0) Kr rfl rfl (by omega) (by omega) rfl rfl ?_
         refine Xe rfl rfl rfl h410 ?_
         have k607 := ((k325.grown0 hi602).grown0 hg605)
         refine Xi (v := .bool (need0 q.kind)) Zv rfl (k607.cell rfl) rfl ?_
         refine Xe rfl rfl rfl h410 ?_
         refine Xc (v := .bool (need0 q.kind)) rfl rfl ?_
         refine Xe rfl rfl rfl h506 ?_
         refine Xd (o' := 2) Jj e318 rfl rfl ?_
         refine Xe rfl rfl rfl h506 ?_
         have k608 := (((hS320.blk.grown0 hg326).grown0 hi602).grown0 hg605)
         refine Xi (v := .bool ((rAt (mAt ms ((q.run - 1).toNat)).t.slots ((q.a).toNat)).rd)) Zv rfl (k608.cell rfl) rfl ?_
         refine Xe rfl rfl rfl h506 ?_
         refine Yk (b' := !(rAt (mAt ms ((q.run - 1).toNat)).t.slots ((q.a).toNat)).rd) rfl rfl rfl ?_
         refine Xe rfl rfl rfl h410 ?_
         refine Xr (v := .bool (!(rAt (mAt ms ((q.run - 1).toNat)).t.slots ((q.a).toNat)).rd)) rfl h506 rfl rfl ?_
         refine Xl (v := .bool (!(rAt (mAt ms ((q.run - 1).toNat)).t.slots ((q.a).toNat)).rd)) rfl h410 rfl rfl ?_
         refine Xc (v := .bool (!(rAt (mAt ms ((q.run - 1).toNat)).t.slots ((q.a).toNat)).rd)) rfl rfl ?_
         iterate 4 refine Xk rfl rfl rfl h523 rfl ?_
         iterate 3 refine Yg rfl rfl rfl rfl ?_
         refine Xk rfl rfl rfl h523 rfl ?_
         refine Xr (v := .bool true) rfl h523 rfl rfl ?_
         exact Xa (Xv ⟨⟨e303, e304, e305, e318, rfl, (congrArg Value.bool (by first | (simp only [h105, h347, h410, h490, h506, h523, h524, hT, b0, b1, b2, b3, b4, b5, b6, b7, b8, b9]; done) | simp [h105, h347, h410, h490, h506, h523, h524, hT]))⟩, (grown_trans hi602 hg605)⟩)
       ·
        have h609 := Zh h523
        rcases Yb (need1 q.kind) with h626 | h626
        ·
         obtain ⟨b647, q648, o649, ha650, ho651, hr652⟩ := SlAt.at (TabAt.low ht hb328).1 (Yn (Ya (show (((rAt (mAt ms ((q.run - 1).toNat)).t.slots ((q.a).toNat)).th) - 1).toNat < ms.length by omega)))
         have hle653 := TabLen.at hlen (Ya (show (((rAt (mAt ms ((q.run - 1).toNat)).t.slots ((q.a).toNat)).th) - 1).toNat < ms.length by omega))
         refine Ze (m := 13) (vals := [(25, .pointer (some ⟨B180, 0, none⟩)), (26, .int .i64 ((rAt (mAt ms ((q.run - 1).toNat)).t.slots ((q.a).toNat)).th)), (27, .bool (decide ((rAt (mAt ms ((q.run - 1).toNat)).t.slots ((q.a).toNat)).th = 0))), (28, .bool (decide ((rAt (mAt ms ((q.run - 1).toNat)).t.slots ((q.a).toNat)).th = 0))), (29, .pointer (some ⟨B101, 0, none⟩)), (30, .int .i64 q.kind), (31, .slice a ms.length c), (32, .pointer (some ⟨B180, 0, none⟩)), (33, .int .i64 ((rAt (mAt ms ((q.run - 1).toNat)).t.slots ((q.a).toNat)).th)), (34, .int .i64 (((rAt (mAt ms ((q.run - 1).toNat)).t.slots ((q.a).toNat)).th) - 1)), (35, .pointer (some ⟨b647, o649, none⟩)), (36, .pointer (some ⟨b647, o649, none⟩)), (37, .int .i64 ((mAt ms ((((rAt (mAt ms ((q.run - 1).toNat)).t.slots ((q.a).toNat)).th) - 1).toNat)).t.kind))]) (fun w' => w327.grownBy w' none) Zi (by kernel_rfl) (Yl _) ?_ ?_
         ·
          refine Xj rfl (fun w661 hi662 => ?_) ?_
          ·
           have hb663 := low0 hb328 hi662
           refine Xd (o' := 0) Yp e318 rfl rfl ?_
           exact Xa ⟨rfl, hi662⟩
          refine Xj rfl (fun w664 hi665 => ?_) ?_
          ·
           have hb666 := low0 hb328 hi665
           have k667 := ((hS320.blk.grown0 hg326).grown0 hi665)
           refine Xi (v := .int .i64 ((rAt (mAt ms ((q.run - 1).toNat)).t.slots ((q.a).toNat)).th)) X3 rfl (k667.cell rfl) rfl ?_
           exact Xa ⟨rfl, hi665⟩
          refine Xj rfl (fun w668 hi669 => ?_) ?_
          ·
           have hb670 := low0 hb328 hi669
           refine X4 (q := decide ((rAt (mAt ms ((q.run - 1).toNat)).t.slots ((q.a).toNat)).th = 0)) rfl rfl rfl rfl ?_
           exact Xa ⟨rfl, hi669⟩
          refine Xj rfl (fun w671 hi672 => ?_) ?_
          ·
           have hb673 := low0 hb328 hi672
           refine Xc (v := .bool (decide ((rAt (mAt ms ((q.run - 1).toNat)).t.slots ((q.a).toNat)).th = 0))) rfl rfl ?_
           exact Xa ⟨rfl, hi672⟩
          refine Xj rfl (fun w674 hi675 => ?_) ?_
          ·
           have hb676 := low0 hb328 hi675
           refine Xe rfl rfl rfl h347 ?_
           refine Xd (o' := 0) Zm e304 rfl rfl ?_
           exact Xa ⟨rfl, hi675⟩
          refine Xj rfl (fun w677 hi678 => ?_) ?_
          ·
           have hb679 := low0 hb328 hi678
           refine Xe rfl rfl rfl h347 ?_
           have k680 := ((k322.grown0 hg326).grown0 hi678)
           refine Xi (v := .int .i64 q.kind) X3 rfl (k680.cell rfl) rfl ?_
           exact Xa ⟨rfl, hi678⟩
          refine Xj rfl (fun w681 hi682 => ?_) ?_
          ·
           have hb683 := low0 hb328 hi682
           refine Xe rfl rfl rfl h347 ?_
           refine Xc (v := .slice a ms.length c) e303 rfl ?_
           exact Xa ⟨rfl, hi682⟩
          refine Xj rfl (fun w684 hi685 => ?_) ?_
          ·
           have hb686 := low0 hb328 hi685
           refine Xe rfl rfl rfl h347 ?_
           refine Xd (o' := 0) Yp e318 rfl rfl ?_
           exact Xa ⟨rfl, hi685⟩
          refine Xj rfl (fun w687 hi688 => ?_) ?_
          ·
           have hb689 := low0 hb328 hi688
           refine Xe rfl rfl rfl h347 ?_
           have k690 := ((hS320.blk.grown0 hg326).grown0 hi688)
           refine Xi (v := .int .i64 ((rAt (mAt ms ((q.run - 1).toNat)).t.slots ((q.a).toNat)).th)) X3 rfl (k690.cell rfl) rfl ?_
           exact Xa ⟨rfl, hi688⟩
          refine Xj rfl (fun w691 hi692 => ?_) ?_
          ·
           have hb693 := low0 hb328 hi692
           refine Xe rfl rfl rfl h347 ?_
           refine Y3 (c := ((rAt (mAt ms ((q.run - 1).toNat)).t.slots ((q.a).toNat)).th) - 1) rfl rfl (by omega) (by omega) (by omega) rfl ?_
           exact Xa ⟨rfl, hi692⟩
          refine Xj rfl (fun w694 hi695 => ?_) ?_
          ·
           have hb696 := low0 hb328 hi695
           refine Xe rfl rfl rfl h347 ?_
           refine Yd Zl rfl rfl ha650 ho651 (by omega) (by omega) rfl ?_
           exact Xa ⟨rfl, hi695⟩
          refine Xj rfl (fun w697 hi698 => ?_) ?_
          ·
           have hb699 := low0 hb328 hi698
           refine Xe rfl rfl rfl h347 ?_
           refine Xd (o' := o649) Yt rfl rfl rfl ?_
           exact Xa ⟨rfl, hi698⟩
          refine Xj rfl (fun w700 hi701 => ?_) ?_
          ·
           have hb702 := low0 hb328 hi701
           refine Xe rfl rfl rfl h347 ?_
           refine Xi (v := .int .i64 ((mAt ms ((((rAt (mAt ms ((q.run - 1).toNat)).t.slots ((q.a).toNat)).th) - 1).toNat)).t.kind)) X3 rfl ((Yo hr652 hi701) 0 _ rfl) rfl ?_
           exact Xa ⟨rfl, hi701⟩
          exact Zj
         ·
          intro w703 hi704
          have hb705 := low0 hb328 hi704
          refine Xe rfl rfl rfl h347 ?_
          refine Xn (vs := [.int .i64 q.kind, .int .i64 ((mAt ms ((((rAt (mAt ms ((q.run - 1).toNat)).t.slots ((q.a).toNat)).th) - 1).toNat)).t.kind)]) U7 (Xg rfl (Xg rfl Xm)) rfl (Jf q.kind ((mAt ms ((((rAt (mAt ms ((q.run - 1).toNat)).t.slots ((q.a).toNat)).th) - 1).toNat)).t.kind) _) ?_
          rintro _ w706 ⟨rfl, hg707⟩
          have hb708 := low0 hb705 hg707
          refine Xe rfl rfl rfl h347 ?_
          refine Yk (b' := !kindFor q.kind ((mAt ms ((((rAt (mAt ms ((q.run - 1).toNat)).t.slots ((q.a).toNat)).th) - 1).toNat)).t.kind)) rfl rfl rfl ?_
          refine Xl (v := .bool (!kindFor q.kind ((mAt ms ((((rAt (mAt ms ((q.run - 1).toNat)).t.slots ((q.a).toNat)).th) - 1).toNat)).t.kind))) rfl h347 rfl rfl ?_
          refine Xc (v := .bool (!kindFor q.kind ((mAt ms ((((rAt (mAt ms ((q.run - 1).toNat)).t.slots ((q.a).toNat)).th) - 1).toNat)).t.kind))) rfl rfl ?_
          refine Xe rfl rfl rfl h410 ?_
          refine Xc (v := .slice (some ⟨B323, 0, none⟩) 4 4) rfl rfl ?_
          refine Xe rfl rfl rfl h410 ?_
          refine X8 (o' := 0) Kr rfl rfl (by omega) (by omega) rfl rfl ?_
          refine Xe rfl rfl rfl h410 ?_
          have k709 := ((k325.grown0 hi704).grown0 hg707)
          refine Xi (v := .bool (need0 q.kind)) Zv rfl (k709.cell rfl) rfl ?_
          refine Xe rfl rfl rfl h410 ?_
          refine Xc (v := .bool (need0 q.kind)) rfl rfl ?_
          refine Xe rfl rfl rfl h506 ?_
          refine Xd (o' := 2) Jj e318 rfl rfl ?_
          refine Xe rfl rfl rfl h506 ?_
          have k710 := (((hS320.blk.grown0 hg326).grown0 hi704).grown0 hg707)
          refine Xi (v := .bool ((rAt (mAt ms ((q.run - 1).toNat)).t.slots ((q.a).toNat)).rd)) Zv rfl (k710.cell rfl) rfl ?_
          refine Xe rfl rfl rfl h506 ?_
          refine Yk (b' := !(rAt (mAt ms ((q.run - 1).toNat)).t.slots ((q.a).toNat)).rd) rfl rfl rfl ?_
          refine Xe rfl rfl rfl h410 ?_
          refine Xr (v := .bool (!(rAt (mAt ms ((q.run - 1).toNat)).t.slots ((q.a).toNat)).rd)) rfl h506 rfl rfl ?_
          refine Xl (v := .bool (!(rAt (mAt ms ((q.run - 1).toNat)).t.slots ((q.a).toNat)).rd)) rfl h410 rfl rfl ?_
          refine Xc (v := .bool (!(rAt (mAt ms ((q.run - 1).toNat)).t.slots ((q.a).toNat)).rd)) rfl rfl ?_
          refine Xe rfl rfl rfl h523 ?_
          refine Xc (v := .slice (some ⟨B323, 0, none⟩) 4 4) rfl rfl ?_
          refine Xe rfl rfl rfl h523 ?_
          refine X8 (o' := 1) Kr rfl rfl (by omega) (by omega) rfl rfl ?_
          refine Xe rfl rfl rfl h523 ?_
          refine Xi (v := .bool (need1 q.kind)) Zv rfl (k709.cell rfl) rfl ?_
          refine Xe rfl rfl rfl h523 ?_
          refine Xc (v := .bool (need1 q.kind)) rfl rfl ?_
          refine Xe rfl rfl rfl h626 ?_
          refine Xd (o' := 3) Qv e318 rfl rfl ?_
          refine Xe rfl rfl rfl h626 ?_
          refine Xi (v := .bool ((rAt (mAt ms ((q.run - 1).toNat)).t.slots ((q.a).toNat)).wr)) Zv rfl (k710.cell rfl) rfl ?_
          refine Xe rfl rfl rfl h626 ?_
          refine Yk (b' := !(rAt (mAt ms ((q.run - 1).toNat)).t.slots ((q.a).toNat)).wr) rfl rfl rfl ?_
          refine Xe rfl rfl rfl h523 ?_
          refine Xr (v := .bool (!(rAt (mAt ms ((q.run - 1).toNat)).t.slots ((q.a).toNat)).wr)) rfl h626 rfl rfl ?_
          refine Xl (v := .bool (!(rAt (mAt ms ((q.run - 1).toNat)).t.slots ((q.a).toNat)).wr)) rfl h523 rfl rfl ?_
          exact Xa (Xv ⟨⟨e303, e304, e305, e318, rfl, (congrArg Value.bool (by first | (simp only [h105, h347, h410, h490, h506, h523, h609, h626, hT, b0, b1, b2, b3, b4, b5, b6, b7, b8, b9]; done) | simp [h105, h347, h410, h490, h506, h523, h609, h626, hT]))⟩, (grown_trans hi704 hg707)⟩)
        ·
         obtain ⟨b731, q732, o733, ha734, ho735, hr736⟩ := SlAt.at (TabAt.low ht hb328).1 (Yn (Ya (show (((rAt (mAt ms ((q.run - 1).toNat)).t.slots ((q.a).toNat)).th) - 1).toNat < ms.length by omega)))
         have hle737 := TabLen.at hlen (Ya (show (((rAt (mAt ms ((q.run - 1).toNat)).t.slots ((q.a).toNat)).th) - 1).toNat < ms.length by omega))
         refine Ze (m := 13) (vals := [(25, .pointer (some ⟨B180, 0, none⟩)), (26, .int .i64 ((rAt (mAt ms ((q.run - 1).toNat)).t.slots ((q.a).toNat)).th)), (27, .bool (decide ((rAt (mAt ms ((q.run - 1).toNat)).t.slots ((q.a).toNat)).th = 0))), (28, .bool (decide ((rAt (mAt ms ((q.run - 1).toNat)).t.slots ((q.a).toNat)).th = 0))), (29, .pointer (some ⟨B101, 0, none⟩)), (30, .int .i64 q.kind), (31, .slice a ms.length c), (32, .pointer (some ⟨B180, 0, none⟩)), (33, .int .i64 ((rAt (mAt ms ((q.run - 1).toNat)).t.slots ((q.a).toNat)).th)), (34, .int .i64 (((rAt (mAt ms ((q.run - 1).toNat)).t.slots ((q.a).toNat)).th) - 1)), (35, .pointer (some ⟨b731, o733, none⟩)), (36, .pointer (some ⟨b731, o733, none⟩)), (37, .int .i64 ((mAt ms ((((rAt (mAt ms ((q.run - 1).toNat)).t.slots ((q.a).toNat)).th) - 1).toNat)).t.kind))]) (fun w' => w327.grownBy w' none) Zi (by kernel_rfl) (Yl _) ?_ ?_
         ·
          refine Xj rfl (fun w745 hi746 => ?_) ?_
          ·
           have hb747 := low0 hb328 hi746
           refine Xd (o' := 0) Yp e318 rfl rfl ?_
           exact Xa ⟨rfl, hi746⟩
          refine Xj rfl (fun w748 hi749 => ?_) ?_
          ·
           have hb750 := low0 hb328 hi749
           have k751 := ((hS320.blk.grown0 hg326).grown0 hi749)
           refine Xi (v := .int .i64 ((rAt (mAt ms ((q.run - 1).toNat)).t.slots ((q.a).toNat)).th)) X3 rfl (k751.cell rfl) rfl ?_
           exact Xa ⟨rfl, hi749⟩
          refine Xj rfl (fun w752 hi753 => ?_) ?_
          ·
           have hb754 := low0 hb328 hi753
           refine X4 (q := decide ((rAt (mAt ms ((q.run - 1).toNat)).t.slots ((q.a).toNat)).th = 0)) rfl rfl rfl rfl ?_
           exact Xa ⟨rfl, hi753⟩
          refine Xj rfl (fun w755 hi756 => ?_) ?_
          ·
           have hb757 := low0 hb328 hi756
           refine Xc (v := .bool (decide ((rAt (mAt ms ((q.run - 1).toNat)).t.slots ((q.a).toNat)).th = 0))) rfl rfl ?_
           exact Xa ⟨rfl, hi756⟩
          refine Xj rfl (fun w758 hi759 => ?_) ?_
          ·
           have hb760 := low0 hb328 hi759
           refine Xe rfl rfl rfl h347 ?_
           refine Xd (o' := 0) Zm e304 rfl rfl ?_
           exact Xa ⟨rfl, hi759⟩
          refine Xj rfl (fun w761 hi762 => ?_) ?_
          ·
           have hb763 := low0 hb328 hi762
           refine Xe rfl rfl rfl h347 ?_
           have k764 := ((k322.grown0 hg326).grown0 hi762)
           refine Xi (v := .int .i64 q.kind) X3 rfl (k764.cell rfl) rfl ?_
           exact Xa ⟨rfl, hi762⟩
          refine Xj rfl (fun w765 hi766 => ?_) ?_
          ·
           have hb767 := low0 hb328 hi766
           refine Xe rfl rfl rfl h347 ?_
           refine Xc (v := .slice a ms.length c) e303 rfl ?_
           exact Xa ⟨rfl, hi766⟩
          refine Xj rfl (fun w768 hi769 => ?_) ?_
          ·
           have hb770 := low0 hb328 hi769
           refine Xe rfl rfl rfl h347 ?_
           refine Xd (o' := 0) Yp e318 rfl rfl ?_
           exact Xa ⟨rfl, hi769⟩
          refine Xj rfl (fun w771 hi772 => ?_) ?_
          ·
           have hb773 := low0 hb328 hi772
           refine Xe rfl rfl rfl h347 ?_
           have k774 := ((hS320.blk.grown0 hg326).grown0 hi772)
           refine Xi (v := .int .i64 ((rAt (mAt ms ((q.run - 1).toNat)).t.slots ((q.a).toNat)).th)) X3 rfl (k774.cell rfl) rfl ?_
           exact Xa ⟨rfl, hi772⟩
          refine Xj rfl (fun w775 hi776 => ?_) ?_
          ·
           have hb777 := low0 hb328 hi776
           refine Xe rfl rfl rfl h347 ?_
           refine Y3 (c := ((rAt (mAt ms ((q.run - 1).toNat)).t.slots ((q.a).toNat)).th) - 1) rfl rfl (by omega) (by omega) (by omega) rfl ?_
           exact Xa ⟨rfl, hi776⟩
          refine Xj rfl (fun w778 hi779 => ?_) ?_
          ·
           have hb780 := low0 hb328 hi779
           refine Xe rfl rfl rfl h347 ?_
           refine Yd Zl rfl rfl ha734 ho735 (by omega) (by omega) rfl ?_
           exact Xa ⟨rfl, hi779⟩
          refine Xj rfl (fun w781 hi782 => ?_) ?_
          ·
           have hb783 := low0 hb328 hi782
           refine Xe rfl rfl rfl h347 ?_
           refine Xd (o' := o733) Yt rfl rfl rfl ?_
           exact Xa ⟨rfl, hi782⟩
          refine Xj rfl (fun w784 hi785 => ?_) ?_
          ·
           have hb786 := low0 hb328 hi785
           refine Xe rfl rfl rfl h347 ?_
           refine Xi (v := .int .i64 ((mAt ms ((((rAt (mAt ms ((q.run - 1).toNat)).t.slots ((q.a).toNat)).th) - 1).toNat)).t.kind)) X3 rfl ((Yo hr736 hi785) 0 _ rfl) rfl ?_
           exact Xa ⟨rfl, hi785⟩
          exact Zj
         ·
          intro w787 hi788
          have hb789 := low0 hb328 hi788
          refine Xe rfl rfl rfl h347 ?_
          refine Xn (vs := [.int .i64 q.kind, .int .i64 ((mAt ms ((((rAt (mAt ms ((q.run - 1).toNat)).t.slots ((q.a).toNat)).th) - 1).toNat)).t.kind)]) U7 (Xg rfl (Xg rfl Xm)) rfl (Jf q.kind ((mAt ms ((((rAt (mAt ms ((q.run - 1).toNat)).t.slots ((q.a).toNat)).th) - 1).toNat)).t.kind) _) ?_
          rintro _ w790 ⟨rfl, hg791⟩
          have hb792 := low0 hb789 hg791
          refine Xe rfl rfl rfl h347 ?_
          refine Yk (b' := !kindFor q.kind ((mAt ms ((((rAt (mAt ms ((q.run - 1).toNat)).t.slots ((q.a).toNat)).th) - 1).toNat)).t.kind)) rfl rfl rfl ?_
          refine Xl (v := .bool (!kindFor q.kind ((mAt ms ((((rAt (mAt ms ((q.run - 1).toNat)).t.slots ((q.a).toNat)).th) - 1).toNat)).t.kind))) rfl h347 rfl rfl ?_
          refine Xc (v := .bool (!kindFor q.kind ((mAt ms ((((rAt (mAt ms ((q.run - 1).toNat)).t.slots ((q.a).toNat)).th) - 1).toNat)).t.kind))) rfl rfl ?_
          refine Xe rfl rfl rfl h410 ?_
          refine Xc (v := .slice (some ⟨B323, 0, none⟩) 4 4) rfl rfl ?_
          refine Xe rfl rfl rfl h410 ?_
          refine X8 (o' := 0) Kr rfl rfl (by omega) (by omega) rfl rfl ?_
          refine Xe rfl rfl rfl h410 ?_
          have k793 := ((k325.grown0 hi788).grown0 hg791)
          refine Xi (v := .bool (need0 q.kind)) Zv rfl (k793.cell rfl) rfl ?_
          refine Xe rfl rfl rfl h410 ?_
          refine Xc (v := .bool (need0 q.kind)) rfl rfl ?_
          refine Xe rfl rfl rfl h506 ?_
          refine Xd (o' := 2) Jj e318 rfl rfl ?_
          refine Xe rfl rfl rfl h506 ?_
          have k794 := (((hS320.blk.grown0 hg326).grown0 hi788).grown0 hg791)
          refine Xi (v := .bool ((rAt (mAt ms ((q.run - 1).toNat)).t.slots ((q.a).toNat)).rd)) Zv rfl (k794.cell rfl) rfl ?_
          refine Xe rfl rfl rfl h506 ?_
          refine Yk (b' := !(rAt (mAt ms ((q.run - 1).toNat)).t.slots ((q.a).toNat)).rd) rfl rfl rfl ?_
          refine Xe rfl rfl rfl h410 ?_
          refine Xr (v := .bool (!(rAt (mAt ms ((q.run - 1).toNat)).t.slots ((q.a).toNat)).rd)) rfl h506 rfl rfl ?_
          refine Xl (v := .bool (!(rAt (mAt ms ((q.run - 1).toNat)).t.slots ((q.a).toNat)).rd)) rfl h410 rfl rfl ?_
          refine Xc (v := .bool (!(rAt (mAt ms ((q.run - 1).toNat)).t.slots ((q.a).toNat)).rd)) rfl rfl ?_
          refine Xe rfl rfl rfl h523 ?_
          refine Xc (v := .slice (some ⟨B323, 0, none⟩) 4 4) rfl rfl ?_
          refine Xe rfl rfl rfl h523 ?_
          refine X8 (o' := 1) Kr rfl rfl (by omega) (by omega) rfl rfl ?_
          refine Xe rfl rfl rfl h523 ?_
          refine Xi (v := .bool (need1 q.kind)) Zv rfl (k793.cell rfl) rfl ?_
          refine Xe rfl rfl rfl h523 ?_
          refine Xc (v := .bool (need1 q.kind)) rfl rfl ?_
          iterate 3 refine Xk rfl rfl rfl h626 rfl ?_
          refine Xe rfl rfl rfl h523 ?_
          refine Xl (v := .bool false) rfl h626 rfl rfl ?_
          refine Xl (v := .bool false) rfl h523 rfl rfl ?_
          exact Xa (Xv ⟨⟨e303, e304, e305, e318, rfl, (congrArg Value.bool (by first | (simp only [h105, h347, h410, h490, h506, h523, h609, h626, hT, b0, b1, b2, b3, b4, b5, b6, b7, b8, b9]; done) | simp [h105, h347, h410, h490, h506, h523, h609, h626, hT]))⟩, (grown_trans hi788 hg791)⟩)
      ·
       rcases Yb (need1 q.kind) with h810 | h810
       ·
        obtain ⟨b831, q832, o833, ha834, ho835, hr836⟩ := SlAt.at (TabAt.low ht hb328).1 (Yn (Ya (show (((rAt (mAt ms ((q.run - 1).toNat)).t.slots ((q.a).toNat)).th) - 1).toNat < ms.length by omega)))
        have hle837 := TabLen.at hlen (Ya (show (((rAt (mAt ms ((q.run - 1).toNat)).t.slots ((q.a).toNat)).th) - 1).toNat < ms.length by omega))
        refine Ze (m := 13) (vals := [(25, .pointer (some ⟨B180, 0, none⟩)), (26, .int .i64 ((rAt (mAt ms ((q.run - 1).toNat)).t.slots ((q.a).toNat)).th)), (27, .bool (decide ((rAt (mAt ms ((q.run - 1).toNat)).t.slots ((q.a).toNat)).th = 0))), (28, .bool (decide ((rAt (mAt ms ((q.run - 1).toNat)).t.slots ((q.a).toNat)).th = 0))), (29, .pointer (some ⟨B101, 0, none⟩)), (30, .int .i64 q.kind), (31, .slice a ms.length c), (32, .pointer (some ⟨B180, 0, none⟩)), (33, .int .i64 ((rAt (mAt ms ((q.run - 1).toNat)).t.slots ((q.a).toNat)).th)), (34, .int .i64 (((rAt (mAt ms ((q.run - 1).toNat)).t.slots ((q.a).toNat)).th) - 1)), (35, .pointer (some ⟨b831, o833, none⟩)), (36, .pointer (some ⟨b831, o833, none⟩)), (37, .int .i64 ((mAt ms ((((rAt (mAt ms ((q.run - 1).toNat)).t.slots ((q.a).toNat)).th) - 1).toNat)).t.kind))]) (fun w' => w327.grownBy w' none) Zi (by kernel_rfl) (Yl _) ?_ ?_
        ·
         refine Xj rfl (fun w845 hi846 => ?_) ?_
         ·
          have hb847 := low0 hb328 hi846
          refine Xd (o' := 0) Yp e318 rfl rfl ?_
          exact Xa ⟨rfl, hi846⟩
         refine Xj rfl (fun w848 hi849 => ?_) ?_
         ·
          have hb850 := low0 hb328 hi849
          have k851 := ((hS320.blk.grown0 hg326).grown0 hi849)
          refine Xi (v := .int .i64 ((rAt (mAt ms ((q.run - 1).toNat)).t.slots ((q.a).toNat)).th)) X3 rfl (k851.cell rfl) rfl ?_
          exact Xa ⟨rfl, hi849⟩
         refine Xj rfl (fun w852 hi853 => ?_) ?_
         ·
          have hb854 := low0 hb328 hi853
          refine X4 (q := decide ((rAt (mAt ms ((q.run - 1).toNat)).t.slots ((q.a).toNat)).th = 0)) rfl rfl rfl rfl ?_
          exact Xa ⟨rfl, hi853⟩
         refine Xj rfl (fun w855 hi856 => ?_) ?_
         ·
          have hb857 := low0 hb328 hi856
          refine Xc (v := .bool (decide ((rAt (mAt ms ((q.run - 1).toNat)).t.slots ((q.a).toNat)).th = 0))) rfl rfl ?_
          exact Xa ⟨rfl, hi856⟩
         refine Xj rfl (fun w858 hi859 => ?_) ?_
         ·
          have hb860 := low0 hb328 hi859
          refine Xe rfl rfl rfl h347 ?_
          refine Xd (o' := 0) Zm e304 rfl rfl ?_
          exact Xa ⟨rfl, hi859⟩
         refine Xj rfl (fun w861 hi862 => ?_) ?_
         ·
          have hb863 := low0 hb328 hi862
          refine Xe rfl rfl rfl h347 ?_
          have k864 := ((k322.grown0 hg326).grown0 hi862)
          refine Xi (v := .int .i64 q.kind) X3 rfl (k864.cell rfl) rfl ?_
          exact Xa ⟨rfl, hi862⟩
         refine Xj rfl (fun w865 hi866 => ?_) ?_
         ·
          have hb867 := low0 hb328 hi866
          refine Xe rfl rfl rfl h347 ?_
          refine Xc (v := .slice a ms.length c) e303 rfl ?_
          exact Xa ⟨rfl, hi866⟩
         refine Xj rfl (fun w868 hi869 => ?_) ?_
         ·
          have hb870 := low0 hb328 hi869
          refine Xe rfl rfl rfl h347 ?_
          refine Xd (o' := 0) Yp e318 rfl rfl ?_
          exact Xa ⟨rfl, hi869⟩
         refine Xj rfl (fun w871 hi872 => ?_) ?_
         ·
          have hb873 := low0 hb328 hi872
          refine Xe rfl rfl rfl h347 ?_
          have k874 := ((hS320.blk.grown0 hg326).grown0 hi872)
          refine Xi (v := .int .i64 ((rAt (mAt ms ((q.run - 1).toNat)).t.slots ((q.a).toNat)).th)) X3 rfl (k874.cell rfl) rfl ?_
          exact Xa ⟨rfl, hi872⟩
         refine Xj rfl (fun w875 hi876 => ?_) ?_
         ·
          have hb877 := low0 hb328 hi876
          refine Xe rfl rfl rfl h347 ?_
          refine Y3 (c := ((rAt (mAt ms ((q.run - 1).toNat)).t.slots ((q.a).toNat)).th) - 1) rfl rfl (by omega) (by omega) (by omega) rfl ?_
          exact Xa ⟨rfl, hi876⟩
         refine Xj rfl (fun w878 hi879 => ?_) ?_
         ·
          have hb880 := low0 hb328 hi879
          refine Xe rfl rfl rfl h347 ?_
          refine Yd Zl rfl rfl ha834 ho835 (by omega) (by omega) rfl ?_
          exact Xa ⟨rfl, hi879⟩
         refine Xj rfl (fun w881 hi882 => ?_) ?_
         ·
          have hb883 := low0 hb328 hi882
          refine Xe rfl rfl rfl h347 ?_
          refine Xd (o' := o833) Yt rfl rfl rfl ?_
          exact Xa ⟨rfl, hi882⟩
         refine Xj rfl (fun w884 hi885 => ?_) ?_
         ·
          have hb886 := low0 hb328 hi885
          refine Xe rfl rfl rfl h347 ?_
          refine Xi (v := .int .i64 ((mAt ms ((((rAt (mAt ms ((q.run - 1).toNat)).t.slots ((q.a).toNat)).th) - 1).toNat)).t.kind)) X3 rfl ((Yo hr836 hi885) 0 _ rfl) rfl ?_
          exact Xa ⟨rfl, hi885⟩
         exact Zj
        ·
         intro w887 hi888
         have hb889 := low0 hb328 hi888
         refine Xe rfl rfl rfl h347 ?_
         refine Xn (vs := [.int .i64 q.kind, .int .i64 ((mAt ms ((((rAt (mAt ms ((q.run - 1).toNat)).t.slots ((q.a).toNat)).th) - 1).toNat)).t.kind)]) U7 (Xg rfl (Xg rfl Xm)) rfl (Jf q.kind ((mAt ms ((((rAt (mAt ms ((q.run - 1).toNat)).t.slots ((q.a).toNat)).th) - 1).toNat)).t.kind) _) ?_
         rintro _ w890 ⟨rfl, hg891⟩
         have hb892 := low0 hb889 hg891
         refine Xe rfl rfl rfl h347 ?_
         refine Yk (b' := !kindFor q.kind ((mAt ms ((((rAt (mAt ms ((q.run - 1).toNat)).t.slots ((q.a).toNat)).th) - 1).toNat)).t.kind)) rfl rfl rfl ?_
         refine Xl (v := .bool (!kindFor q.kind ((mAt ms ((((rAt (mAt ms ((q.run - 1).toNat)).t.slots ((q.a).toNat)).th) - 1).toNat)).t.kind))) rfl h347 rfl rfl ?_
         refine Xc (v := .bool (!kindFor q.kind ((mAt ms ((((rAt (mAt ms ((q.run - 1).toNat)).t.slots ((q.a).toNat)).th) - 1).toNat)).t.kind))) rfl rfl ?_
         refine Xe rfl rfl rfl h410 ?_
         refine Xc (v := .slice (some ⟨B323, 0, none⟩) 4 4) rfl rfl ?_
         refine Xe rfl rfl rfl h410 ?_
         refine X8 (o' := 0) Kr rfl rfl (by omega) (by omega) rfl rfl ?_
         refine Xe rfl rfl rfl h410 ?_
         have k893 := ((k325.grown0 hi888).grown0 hg891)
         refine Xi (v := .bool (need0 q.kind)) Zv rfl (k893.cell rfl) rfl ?_
         refine Xe rfl rfl rfl h410 ?_
         refine Xc (v := .bool (need0 q.kind)) rfl rfl ?_
         iterate 3 refine Xk rfl rfl rfl h506 rfl ?_
         refine Xe rfl rfl rfl h410 ?_
         refine Xl (v := .bool false) rfl h506 rfl rfl ?_
         refine Xl (v := .bool false) rfl h410 rfl rfl ?_
         refine Xc (v := .bool false) rfl rfl ?_
         refine Xe rfl rfl rfl rfl ?_
         refine Xc (v := .slice (some ⟨B323, 0, none⟩) 4 4) rfl rfl ?_
         refine Xe rfl rfl rfl rfl ?_
         refine X8 (o' := 1) Kr rfl rfl (by omega) (by omega) rfl rfl ?_
         refine Xe rfl rfl rfl rfl ?_
         refine Xi (v := .bool (need1 q.kind)) Zv rfl (k893.cell rfl) rfl ?_
         refine Xe rfl rfl rfl rfl ?_
         refine Xc (v := .bool (need1 q.kind)) rfl rfl ?_
         refine Xe rfl rfl rfl h810 ?_
         refine Xd (o' := 3) Qv e318 rfl rfl ?_
         refine Xe rfl rfl rfl h810 ?_
         have k894 := (((hS320.blk.grown0 hg326).grown0 hi888).grown0 hg891)
         refine Xi (v := .bool ((rAt (mAt ms ((q.run - 1).toNat)).t.slots ((q.a).toNat)).wr)) Zv rfl (k894.cell rfl) rfl ?_
         refine Xe rfl rfl rfl h810 ?_
         refine Yk (b' := !(rAt (mAt ms ((q.run - 1).toNat)).t.slots ((q.a).toNat)).wr) rfl rfl rfl ?_
         refine Xe rfl rfl rfl rfl ?_
         refine Xr (v := .bool (!(rAt (mAt ms ((q.run - 1).toNat)).t.slots ((q.a).toNat)).wr)) rfl h810 rfl rfl ?_
         refine Xl (v := .bool (!(rAt (mAt ms ((q.run - 1).toNat)).t.slots ((q.a).toNat)).wr)) rfl rfl rfl rfl ?_
         exact Xa (Xv ⟨⟨e303, e304, e305, e318, rfl, (congrArg Value.bool (by first | (simp only [h105, h347, h410, h490, h506, h810, hT, b0, b1, b2, b3, b4, b5, b6, b7, b8, b9]; done) | simp [h105, h347, h410, h490, h506, h810, hT]))⟩, (grown_trans hi888 hg891)⟩)
       ·
        obtain ⟨b914, q915, o916, ha917, ho918, hr919⟩ := SlAt.at (TabAt.low ht hb328).1 (Yn (Ya (show (((rAt (mAt ms ((q.run - 1).toNat)).t.slots ((q.a).toNat)).th) - 1).toNat < ms.length by omega)))
        have hle920 := TabLen.at hlen (Ya (show (((rAt (mAt ms ((q.run - 1).toNat)).t.slots ((q.a).toNat)).th) - 1).toNat < ms.length by omega))
        refine Ze (m := 13) (vals := [(25, .pointer (some ⟨B180, 0, none⟩)), (26, .int .i64 ((rAt (mAt ms ((q.run - 1).toNat)).t.slots ((q.a).toNat)).th)), (27, .bool (decide ((rAt (mAt ms ((q.run - 1).toNat)).t.slots ((q.a).toNat)).th = 0))), (28, .bool (decide ((rAt (mAt ms ((q.run - 1).toNat)).t.slots ((q.a).toNat)).th = 0))), (29, .pointer (some ⟨B101, 0, none⟩)), (30, .int .i64 q.kind), (31, .slice a ms.length c), (32, .pointer (some ⟨B180, 0, none⟩)), (33, .int .i64 ((rAt (mAt ms ((q.run - 1).toNat)).t.slots ((q.a).toNat)).th)), (34, .int .i64 (((rAt (mAt ms ((q.run - 1).toNat)).t.slots ((q.a).toNat)).th) - 1)), (35, .pointer (some ⟨b914, o916, none⟩)), (36, .pointer (some ⟨b914, o916, none⟩)), (37, .int .i64 ((mAt ms ((((rAt (mAt ms ((q.run - 1).toNat)).t.slots ((q.a).toNat)).th) - 1).toNat)).t.kind))]) (fun w' => w327.grownBy w' none) Zi (by kernel_rfl) (Yl _) ?_ ?_
        ·
         refine Xj rfl (fun w927 hi928 => ?_) ?_
         ·
          have hb929 := low0 hb328 hi928
          refine Xd (o' := 0) Yp e318 rfl rfl ?_
          exact Xa ⟨rfl, hi928⟩
         refine Xj rfl (fun w930 hi931 => ?_) ?_
         ·
          have hb932 := low0 hb328 hi931
          have k933 := ((hS320.blk.grown0 hg326).grown0 hi931)
          refine Xi (v := .int .i64 ((rAt (mAt ms ((q.run - 1).toNat)).t.slots ((q.a).toNat)).th)) X3 rfl (k933.cell rfl) rfl ?_
          exact Xa ⟨rfl, hi931⟩
         refine Xj rfl (fun w934 hi935 => ?_) ?_
         ·
          have hb936 := low0 hb328 hi935
          refine X4 (q := decide ((rAt (mAt ms ((q.run - 1).toNat)).t.slots ((q.a).toNat)).th = 0)) rfl rfl rfl rfl ?_
          exact Xa ⟨rfl, hi935⟩
         refine Xj rfl (fun w937 hi938 => ?_) ?_
         ·
          have hb939 := low0 hb328 hi938
          refine Xc (v := .bool (decide ((rAt (mAt ms ((q.run - 1).toNat)).t.slots ((q.a).toNat)).th = 0))) rfl rfl ?_
          exact Xa ⟨rfl, hi938⟩
         refine Xj rfl (fun w940 hi941 => ?_) ?_
         ·
          have hb942 := low0 hb328 hi941
          refine Xe rfl rfl rfl h347 ?_
          refine Xd (o' := 0) Zm e304 rfl rfl ?_
          exact Xa ⟨rfl, hi941⟩
         refine Xj rfl (fun w943 hi944 => ?_) ?_
         ·
          have hb945 := low0 hb328 hi944
          refine Xe rfl rfl rfl h347 ?_
          have k946 := ((k322.grown0 hg326).grown0 hi944)
          refine Xi (v := .int .i64 q.kind) X3 rfl (k946.cell rfl) rfl ?_
          exact Xa ⟨rfl, hi944⟩
         refine Xj rfl (fun w947 hi948 => ?_) ?_
         ·
          have hb949 := low0 hb328 hi948
          refine Xe rfl rfl rfl h347 ?_
          refine Xc (v := .slice a ms.length c) e303 rfl ?_
          exact Xa ⟨rfl, hi948⟩
         refine Xj rfl (fun w950 hi951 => ?_) ?_
         ·
          have hb952 := low0 hb328 hi951
          refine Xe rfl rfl rfl h347 ?_
          refine Xd (o' := 0) Yp e318 rfl rfl ?_
          exact Xa ⟨rfl, hi951⟩
         refine Xj rfl (fun w953 hi954 => ?_) ?_
         ·
          have hb955 := low0 hb328 hi954
          refine Xe rfl rfl rfl h347 ?_
          have k956 := ((hS320.blk.grown0 hg326).grown0 hi954)
          refine Xi (v := .int .i64 ((rAt (mAt ms ((q.run - 1).toNat)).t.slots ((q.a).toNat)).th)) X3 rfl (k956.cell rfl) rfl ?_
          exact Xa ⟨rfl, hi954⟩
         refine Xj rfl (fun w957 hi958 => ?_) ?_
         ·
          have hb959 := low0 hb328 hi958
          refine Xe rfl rfl rfl h347 ?_
          refine Y3 (c := ((rAt (mAt ms ((q.run - 1).toNat)).t.slots ((q.a).toNat)).th) - 1) rfl rfl (by omega) (by omega) (by omega) rfl ?_
          exact Xa ⟨rfl, hi958⟩
         refine Xj rfl (fun w960 hi961 => ?_) ?_
         ·
          have hb962 := low0 hb328 hi961
          refine Xe rfl rfl rfl h347 ?_
          refine Yd Zl rfl rfl ha917 ho918 (by omega) (by omega) rfl ?_
          exact Xa ⟨rfl, hi961⟩
         refine Xj rfl (fun w963 hi964 => ?_) ?_
         ·
          have hb965 := low0 hb328 hi964
          refine Xe rfl rfl rfl h347 ?_
          refine Xd (o' := o916) Yt rfl rfl rfl ?_
          exact Xa ⟨rfl, hi964⟩
         refine Xj rfl (fun w966 hi967 => ?_) ?_
         ·
          have hb968 := low0 hb328 hi967
          refine Xe rfl rfl rfl h347 ?_
          refine Xi (v := .int .i64 ((mAt ms ((((rAt (mAt ms ((q.run - 1).toNat)).t.slots ((q.a).toNat)).th) - 1).toNat)).t.kind)) X3 rfl ((Yo hr919 hi967) 0 _ rfl) rfl ?_
          exact Xa ⟨rfl, hi967⟩
         exact Zj
        ·
         intro w969 hi970
         have hb971 := low0 hb328 hi970
         refine Xe rfl rfl rfl h347 ?_
         refine Xn (vs := [.int .i64 q.kind, .int .i64 ((mAt ms ((((rAt (mAt ms ((q.run - 1).toNat)).t.slots ((q.a).toNat)).th) - 1).toNat)).t.kind)]) U7 (Xg rfl (Xg rfl Xm)) rfl (Jf q.kind ((mAt ms ((((rAt (mAt ms ((q.run - 1).toNat)).t.slots ((q.a).toNat)).th) - 1).toNat)).t.kind) _) ?_
         rintro _ w972 ⟨rfl, hg973⟩
         have hb974 := low0 hb971 hg973
         refine Xe rfl rfl rfl h347 ?_
         refine Yk (b' := !kindFor q.kind ((mAt ms ((((rAt (mAt ms ((q.run - 1).toNat)).t.slots ((q.a).toNat)).th) - 1).toNat)).t.kind)) rfl rfl rfl ?_
         refine Xl (v := .bool (!kindFor q.kind ((mAt ms ((((rAt (mAt ms ((q.run - 1).toNat)).t.slots ((q.a).toNat)).th) - 1).toNat)).t.kind))) rfl h347 rfl rfl ?_
         refine Xc (v := .bool (!kindFor q.kind ((mAt ms ((((rAt (mAt ms ((q.run - 1).toNat)).t.slots ((q.a).toNat)).th) - 1).toNat)).t.kind))) rfl rfl ?_
         refine Xe rfl rfl rfl h410 ?_
         refine Xc (v := .slice (some ⟨B323, 0, none⟩) 4 4) rfl rfl ?_
         refine Xe rfl rfl rfl h410 ?_
         refine X8 (o' := 0) Kr rfl rfl (by omega) (by omega) rfl rfl ?_
         refine Xe rfl rfl rfl h410 ?_
         have k975 := ((k325.grown0 hi970).grown0 hg973)
         refine Xi (v := .bool (need0 q.kind)) Zv rfl (k975.cell rfl) rfl ?_
         refine Xe rfl rfl rfl h410 ?_
         refine Xc (v := .bool (need0 q.kind)) rfl rfl ?_
         iterate 3 refine Xk rfl rfl rfl h506 rfl ?_
         refine Xe rfl rfl rfl h410 ?_
         refine Xl (v := .bool false) rfl h506 rfl rfl ?_
         refine Xl (v := .bool false) rfl h410 rfl rfl ?_
         refine Xc (v := .bool false) rfl rfl ?_
         refine Xe rfl rfl rfl rfl ?_
         refine Xc (v := .slice (some ⟨B323, 0, none⟩) 4 4) rfl rfl ?_
         refine Xe rfl rfl rfl rfl ?_
         refine X8 (o' := 1) Kr rfl rfl (by omega) (by omega) rfl rfl ?_
         refine Xe rfl rfl rfl rfl ?_
         refine Xi (v := .bool (need1 q.kind)) Zv rfl (k975.cell rfl) rfl ?_
         refine Xe rfl rfl rfl rfl ?_
         refine Xc (v := .bool (need1 q.kind)) rfl rfl ?_
         iterate 3 refine Xk rfl rfl rfl h810 rfl ?_
         refine Xe rfl rfl rfl rfl ?_
         refine Xl (v := .bool false) rfl h810 rfl rfl ?_
         refine Xl (v := .bool false) rfl rfl rfl rfl ?_
         exact Xa (Xv ⟨⟨e303, e304, e305, e318, rfl, (congrArg Value.bool (by first | (simp only [h105, h347, h410, h490, h506, h810, hT, b0, b1, b2, b3, b4, b5, b6, b7, b8, b9]; done) | simp [h105, h347, h410, h490, h506, h810, hT]))⟩, (grown_trans hi970 hg973)⟩)
   ·
    rintro f976 w977 ⟨⟨e978, e979, e980, e981, e982, e983⟩, hg984⟩
    have hb985 := low0 hb328 hg984
    refine Xw e983 (fun h986 => ?_) (fun h986 => ?_)
    ·
     refine Xb ?_
     refine Xh (v := .int .i64 (-1)) rfl rfl ?_
     refine Xa ?_
     refine Xs ?_
     refine Yi ?_
     refine ⟨.int .i64 (-1), Yq rfl rfl, ?_, hb985⟩
     exact congrArg (Value.int .i64) (Gh h105 h986)
    ·
     have h987 := Qx h986
     have h988 := Qx h987
     have h989 := Qx h988
     have h990 := of_decide_eq_false h989
     have h991 := Qy h988
     have h992 := Zh h991
     have h993 := Qy h987
     have h994 := Qy h986
     refine Xy ?_
     refine Xv ?_
     refine Xb ?_
     refine Xc (v := .slice a ms.length c) e978 rfl ?_
     refine Xd (o' := 1) Zk e979 rfl rfl ?_
     have k995 := ((k322.grown0 hg326).grown0 hg984)
     refine Xi (v := .int .i64 q.run) X3 rfl (k995.cell rfl) rfl ?_
     refine Xd (o' := 0) Yp e981 rfl rfl ?_
     have k996 := ((hS320.blk.grown0 hg326).grown0 hg984)
     refine Xi (v := .int .i64 ((rAt (mAt ms ((q.run - 1).toNat)).t.slots ((q.a).toNat)).th)) X3 rfl (k996.cell rfl) rfl ?_
     refine Xn (vs := [.slice a ms.length c, .int .i64 q.run, .int .i64 ((rAt (mAt ms ((q.run - 1).toNat)).t.slots ((q.a).toNat)).th)]) Mm (Xg rfl (Xg rfl (Xg rfl Xm))) rfl (Nu q.run ((rAt (mAt ms ((q.run - 1).toNat)).t.slots ((q.a).toNat)).th) _ ms _ _ (TabAt.low ht hb985) hlen (by omega) hT (by omega) (by omega)) ?_
     rintro _ w997 ⟨rfl, hg998⟩
     have hb999 := low0 hb985 hg998
     refine Xh (v := .bool (sees (tabT ms) q.run ((rAt (mAt ms ((q.run - 1).toNat)).t.slots ((q.a).toNat)).th))) rfl rfl ?_
     refine Xa ?_
     refine Xt ?_
     refine X2 (fun f' w' => (f' 0 = .slice a ms.length c ∧ f' 4 = .int .i64 0 ∧ f' 5 = .pointer (some ⟨B180, 0, none⟩) ∧ f' 7 = .bool (sees (tabT ms) q.run ((rAt (mAt ms ((q.run - 1).toNat)).t.slots ((q.a).toNat)).th)) ∧ f' 87 = .bool ((need0 q.kind && (!sees (tabT ms) q.run ((rAt (mAt ms ((q.run - 1).toNat)).t.slots ((q.a).toNat)).th))) || (need1 q.kind && (!touches (tabT ms) q.run ((rAt (mAt ms ((q.run - 1).toNat)).t.slots ((q.a).toNat)).th))))) ∧ w997.grownBy w' none) ?_ ?_
     ·
      refine Xc (v := .slice (some ⟨B323, 0, none⟩) 4 4) e982 rfl ?_
      refine X8 (o' := 2) Kr rfl rfl (by omega) (by omega) rfl rfl ?_
      have k1007 := ((k325.grown0 hg984).grown0 hg998)
      refine Xi (v := .bool (need0 q.kind)) Zv rfl (k1007.cell rfl) rfl ?_
      refine Xc (v := .bool (need0 q.kind)) rfl rfl ?_
      rcases Yb (need0 q.kind) with h1008 | h1008
      ·
       refine Xe rfl rfl rfl h1008 ?_
       refine Xc (v := .bool (sees (tabT ms) q.run ((rAt (mAt ms ((q.run - 1).toNat)).t.slots ((q.a).toNat)).th))) rfl rfl ?_
       refine Xe rfl rfl rfl h1008 ?_
       refine Yk (b' := !sees (tabT ms) q.run ((rAt (mAt ms ((q.run - 1).toNat)).t.slots ((q.a).toNat)).th)) rfl rfl rfl ?_
       refine Xr (v := .bool (!sees (tabT ms) q.run ((rAt (mAt ms ((q.run - 1).toNat)).t.slots ((q.a).toNat)).th))) rfl h1008 rfl rfl ?_
       refine Xc (v := .bool (!sees (tabT ms) q.run ((rAt (mAt ms ((q.run - 1).toNat)).t.slots ((q.a).toNat)).th))) rfl rfl ?_
       rcases Yb (!sees (tabT ms) q.run ((rAt (mAt ms ((q.run - 1).toNat)).t.slots ((q.a).toNat)).th)) with h1009 | h1009
       ·
        have h1010 := Zn h1009
        iterate 4 refine Xk rfl rfl rfl h1009 rfl ?_
        iterate 7 refine Yg rfl rfl rfl rfl ?_
        refine Xk rfl rfl rfl h1009 rfl ?_
        refine Xr (v := .bool true) rfl h1009 rfl rfl ?_
        exact Xa ⟨⟨e978, e980, e981, rfl, (congrArg Value.bool (by first | (simp only [h1008, h1009, h1010, h105, h986, h987, h988, h989, h991, h992, h993, h994, hT, b0, b1, b2, b3, b4, b5, b6, b7, b8, b9]; done) | simp [h1008, h1009, h1010, h105, h986, h987, h988, h989, h991, h992, h993, h994, hT]))⟩, (World.grownBy.refl _ _)⟩
       ·
        have h1011 := Zh h1009
        refine Xe rfl rfl rfl h1009 ?_
        refine Xc (v := .slice (some ⟨B323, 0, none⟩) 4 4) e982 rfl ?_
        refine Xe rfl rfl rfl h1009 ?_
        refine X8 (o' := 3) Kr rfl rfl (by omega) (by omega) rfl rfl ?_
        refine Xe rfl rfl rfl h1009 ?_
        refine Xi (v := .bool (need1 q.kind)) Zv rfl (k1007.cell rfl) rfl ?_
        refine Xe rfl rfl rfl h1009 ?_
        refine Xc (v := .bool (need1 q.kind)) rfl rfl ?_
        rcases Yb (need1 q.kind) with h1012 | h1012
        ·
         refine Xe rfl rfl rfl h1012 ?_
         refine Xc (v := .slice a ms.length c) e978 rfl ?_
         refine Xe rfl rfl rfl h1012 ?_
         refine Xd (o' := 1) Zk e979 rfl rfl ?_
         refine Xe rfl rfl rfl h1012 ?_
         have k1013 := (k995.grown0 hg998)
         refine Xi (v := .int .i64 q.run) X3 rfl (k1013.cell rfl) rfl ?_
         refine Xe rfl rfl rfl h1012 ?_
         refine Xd (o' := 0) Yp e981 rfl rfl ?_
         refine Xe rfl rfl rfl h1012 ?_
         have k1014 := (k996.grown0 hg998)
         refine Xi (v := .int .i64 ((rAt (mAt ms ((q.run - 1).toNat)).t.slots ((q.a).toNat)).th)) X3 rfl (k1014.cell rfl) rfl ?_
         refine Xe rfl rfl rfl h1012 ?_
         refine Xn (vs := [.slice a ms.length c, .int .i64 q.run, .int .i64 ((rAt (mAt ms ((q.run - 1).toNat)).t.slots ((q.a).toNat)).th)]) S3 (Xg rfl (Xg rfl (Xg rfl Xm))) rfl (Vn q.run ((rAt (mAt ms ((q.run - 1).toNat)).t.slots ((q.a).toNat)).th) _ ms _ _ (TabAt.low ht hb999) hlen (by omega) hT (by omega) (by omega)) ?_
         rintro _ w1015 ⟨rfl, hg1016⟩
         have hb1017 := low0 hb999 hg1016
         refine Xe rfl rfl rfl h1012 ?_
         refine Yk (b' := !touches (tabT ms) q.run ((rAt (mAt ms ((q.run - 1).toNat)).t.slots ((q.a).toNat)).th)) rfl rfl rfl ?_
         refine Xe rfl rfl rfl h1009 ?_
         refine Xr (v := .bool (!touches (tabT ms) q.run ((rAt (mAt ms ((q.run - 1).toNat)).t.slots ((q.a).toNat)).th))) rfl h1012 rfl rfl ?_
         refine Xl (v := .bool (!touches (tabT ms) q.run ((rAt (mAt ms ((q.run - 1).toNat)).t.slots ((q.a).toNat)).th))) rfl h1009 rfl rfl ?_
         exact Xa ⟨⟨e978, e980, e981, rfl, (congrArg Value.bool (by first | (simp only [h1008, h1009, h1011, h1012, h105, h986, h987, h988, h989, h991, h992, h993, h994, hT, b0, b1, b2, b3, b4, b5, b6, b7, b8, b9]; done) | simp [h1008, h1009, h1011, h1012, h105, h986, h987, h988, h989, h991, h992, h993, h994, hT]))⟩, hg1016⟩
        ·
         iterate 7 refine Xk rfl rfl rfl h1012 rfl ?_
         refine Xe rfl rfl rfl h1009 ?_
         refine Xl (v := .bool false) rfl h1012 rfl rfl ?_
         refine Xl (v := .bool false) rfl h1009 rfl rfl ?_
         exact Xa ⟨⟨e978, e980, e981, rfl, (congrArg Value.bool (by first | (simp only [h1008, h1009, h1011, h1012, h105, h986, h987, h988, h989, h991, h992, h993, h994, hT, b0, b1, b2, b3, b4, b5, b6, b7, b8, b9]; done) | simp [h1008, h1009, h1011, h1012, h105, h986, h987, h988, h989, h991, h992, h993, h994, hT]))⟩, (World.grownBy.refl _ _)⟩
      ·
       refine Xk rfl rfl rfl h1008 rfl ?_
       refine Xk rfl rfl rfl h1008 rfl ?_
       refine Xl (v := .bool false) rfl h1008 rfl rfl ?_
       refine Xc (v := .bool false) rfl rfl ?_
       refine Xe rfl rfl rfl rfl ?_
       refine Xc (v := .slice (some ⟨B323, 0, none⟩) 4 4) e982 rfl ?_
       refine Xe rfl rfl rfl rfl ?_
       refine X8 (o' := 3) Kr rfl rfl (by omega) (by omega) rfl rfl ?_
       refine Xe rfl rfl rfl rfl ?_
       refine Xi (v := .bool (need1 q.kind)) Zv rfl (k1007.cell rfl) rfl ?_
       refine Xe rfl rfl rfl rfl ?_
       refine Xc (v := .bool (need1 q.kind)) rfl rfl ?_
       rcases Yb (need1 q.kind) with h1018 | h1018
       ·
        refine Xe rfl rfl rfl h1018 ?_
        refine Xc (v := .slice a ms.length c) e978 rfl ?_
        refine Xe rfl rfl rfl h1018 ?_
        refine Xd (o' := 1) Zk e979 rfl rfl ?_
        refine Xe rfl rfl rfl h1018 ?_
        have k1019 := (k995.grown0 hg998)
        refine Xi (v := .int .i64 q.run) X3 rfl (k1019.cell rfl) rfl ?_
        refine Xe rfl rfl rfl h1018 ?_
        refine Xd (o' := 0) Yp e981 rfl rfl ?_
        refine Xe rfl rfl rfl h1018 ?_
        have k1020 := (k996.grown0 hg998)
        refine Xi (v := .int .i64 ((rAt (mAt ms ((q.run - 1).toNat)).t.slots ((q.a).toNat)).th)) X3 rfl (k1020.cell rfl) rfl ?_
        refine Xe rfl rfl rfl h1018 ?_
        refine Xn (vs := [.slice a ms.length c, .int .i64 q.run, .int .i64 ((rAt (mAt ms ((q.run - 1).toNat)).t.slots ((q.a).toNat)).th)]) S3 (Xg rfl (Xg rfl (Xg rfl Xm))) rfl (Vn q.run ((rAt (mAt ms ((q.run - 1).toNat)).t.slots ((q.a).toNat)).th) _ ms _ _ (TabAt.low ht hb999) hlen (by omega) hT (by omega) (by omega)) ?_
        rintro _ w1021 ⟨rfl, hg1022⟩
        have hb1023 := low0 hb999 hg1022
        refine Xe rfl rfl rfl h1018 ?_
        refine Yk (b' := !touches (tabT ms) q.run ((rAt (mAt ms ((q.run - 1).toNat)).t.slots ((q.a).toNat)).th)) rfl rfl rfl ?_
        refine Xe rfl rfl rfl rfl ?_
        refine Xr (v := .bool (!touches (tabT ms) q.run ((rAt (mAt ms ((q.run - 1).toNat)).t.slots ((q.a).toNat)).th))) rfl h1018 rfl rfl ?_
        refine Xl (v := .bool (!touches (tabT ms) q.run ((rAt (mAt ms ((q.run - 1).toNat)).t.slots ((q.a).toNat)).th))) rfl rfl rfl rfl ?_
        exact Xa ⟨⟨e978, e980, e981, rfl, (congrArg Value.bool (by first | (simp only [h1008, h1018, h105, h986, h987, h988, h989, h991, h992, h993, h994, hT, b0, b1, b2, b3, b4, b5, b6, b7, b8, b9]; done) | simp [h1008, h1018, h105, h986, h987, h988, h989, h991, h992, h993, h994, hT]))⟩, hg1022⟩
       ·
        iterate 7 refine Xk rfl rfl rfl h1018 rfl ?_
        refine Xe rfl rfl rfl rfl ?_
        refine Xl (v := .bool false) rfl h1018 rfl rfl ?_
        refine Xl (v := .bool false) rfl rfl rfl rfl ?_
        exact Xa ⟨⟨e978, e980, e981, rfl, (congrArg Value.bool (by first | (simp only [h1008, h1018, h105, h986, h987, h988, h989, h991, h992, h993, h994, hT, b0, b1, b2, b3, b4, b5, b6, b7, b8, b9]; done) | simp [h1008, h1018, h105, h986, h987, h988, h989, h991, h992, h993, h994, hT]))⟩, (World.grownBy.refl _ _)⟩
     ·
      rintro f1024 w1025 ⟨⟨e1026, e1027, e1028, e1029, e1030⟩, hg1031⟩
      have hb1032 := low0 hb999 hg1031
      refine Xw e1030 (fun h1033 => ?_) (fun h1033 => ?_)
      ·
       refine Xb ?_
       refine Xh (v := .int .i64 (-2)) rfl rfl ?_
       refine Xa ?_
       refine Xs ?_
       refine Yi ?_
       refine ⟨.int .i64 (-2), Yq rfl rfl, ?_, hb1032⟩
       exact congrArg (Value.int .i64) (Lv h105 h986 h1033)
      ·
       have h1034 := Qx h1033
       have h1035 := Qy h1033
       refine Xy ?_
       refine Xv ?_
       refine Xt ?_
       refine X2 (fun f' w' => (f' 4 = .int .i64 0 ∧ f' 94 = .bool (sees (tabT ms) q.run ((rAt (mAt ms ((q.run - 1).toNat)).t.slots ((q.a).toNat)).th) && (!live (tabT ms) (rAt (mAt ms ((q.run - 1).toNat)).t.slots ((q.a).toNat))))) ∧ w1025.grownBy w' none) ?_ ?_
       ·
        refine Xc (v := .bool (sees (tabT ms) q.run ((rAt (mAt ms ((q.run - 1).toNat)).t.slots ((q.a).toNat)).th))) e1029 rfl ?_
        refine Xc (v := .bool (sees (tabT ms) q.run ((rAt (mAt ms ((q.run - 1).toNat)).t.slots ((q.a).toNat)).th))) rfl rfl ?_
        rcases Yb (sees (tabT ms) q.run ((rAt (mAt ms ((q.run - 1).toNat)).t.slots ((q.a).toNat)).th)) with h1040 | h1040
        ·
         refine Xe rfl rfl rfl h1040 ?_
         refine Xc (v := .slice a ms.length c) e1026 rfl ?_
         refine Xe rfl rfl rfl h1040 ?_
         have k1041 := ((k996.grown0 hg998).grown0 hg1031)
         refine Xu (vs := [.int .i64 ((rAt (mAt ms ((q.run - 1).toNat)).t.slots ((q.a).toNat)).th), .int .i64 ((rAt (mAt ms ((q.run - 1).toNat)).t.slots ((q.a).toNat)).ve), .bool ((rAt (mAt ms ((q.run - 1).toNat)).t.slots ((q.a).toNat)).rd), .bool ((rAt (mAt ms ((q.run - 1).toNat)).t.slots ((q.a).toNat)).wr), .bool ((rAt (mAt ms ((q.run - 1).toNat)).t.slots ((q.a).toNat)).wk)]) Y8 e1028 rfl (k1041.rangeL 0 5 rfl) rfl ?_
         refine Xe rfl rfl rfl h1040 ?_
         refine Xn (vs := [.slice a ms.length c, .agg #[.int .i64 ((rAt (mAt ms ((q.run - 1).toNat)).t.slots ((q.a).toNat)).th), .int .i64 ((rAt (mAt ms ((q.run - 1).toNat)).t.slots ((q.a).toNat)).ve), .bool ((rAt (mAt ms ((q.run - 1).toNat)).t.slots ((q.a).toNat)).rd), .bool ((rAt (mAt ms ((q.run - 1).toNat)).t.slots ((q.a).toNat)).wr), .bool ((rAt (mAt ms ((q.run - 1).toNat)).t.slots ((q.a).toNat)).wk)]]) Mz (Xg rfl (Xg rfl Xm)) rfl (P7 (rAt (mAt ms ((q.run - 1).toNat)).t.slots ((q.a).toNat)) (by omega) _ ms _ _ (TabAt.low ht hb1032) hlen (by omega)) ?_
         rintro _ w1042 ⟨rfl, hg1043⟩
         have hb1044 := low0 hb1032 hg1043
         refine Xe rfl rfl rfl h1040 ?_
         refine Yk (b' := !live (tabT ms) (rAt (mAt ms ((q.run - 1).toNat)).t.slots ((q.a).toNat))) rfl rfl rfl ?_
         refine Xr (v := .bool (!live (tabT ms) (rAt (mAt ms ((q.run - 1).toNat)).t.slots ((q.a).toNat)))) rfl h1040 rfl rfl ?_
         exact Xa ⟨⟨e1027, (congrArg Value.bool (by first | (simp only [h1033, h1034, h1035, h1040, h105, h986, h987, h988, h989, h991, h992, h993, h994, hT, b0, b1, b2, b3, b4, b5, b6, b7, b8, b9]; done) | simp [h1033, h1034, h1035, h1040, h105, h986, h987, h988, h989, h991, h992, h993, h994, hT]))⟩, hg1043⟩
        ·
         iterate 4 refine Xk rfl rfl rfl h1040 rfl ?_
         refine Xl (v := .bool false) rfl h1040 rfl rfl ?_
         exact Xa ⟨⟨e1027, (congrArg Value.bool (by first | (simp only [h1033, h1034, h1035, h1040, h105, h986, h987, h988, h989, h991, h992, h993, h994, hT, b0, b1, b2, b3, b4, b5, b6, b7, b8, b9]; done) | simp [h1033, h1034, h1035, h1040, h105, h986, h987, h988, h989, h991, h992, h993, h994, hT]))⟩, (World.grownBy.refl _ _)⟩
       ·
        rintro f1045 w1046 ⟨⟨e1047, e1048⟩, hg1049⟩
        have hb1050 := low0 hb1032 hg1049
        refine Xw e1048 (fun h1051 => ?_) (fun h1051 => ?_)
        ·
         have h1052 := Lk h1051
         have h1053 := Li h1051
         have h1054 := Zn h1053
         refine Xb ?_
         refine Xh (v := .int .i64 (-3)) rfl rfl ?_
         refine Xa ?_
         refine Xs ?_
         refine Yi ?_
         refine ⟨.int .i64 (-3), Yq rfl rfl, ?_, hb1050⟩
         exact congrArg (Value.int .i64) (Lg h105 h986 h1033 h1051)
        ·
         refine Xy ?_
         refine Xv ?_
         refine Xb ?_
         refine Xh (v := .int .i64 0) rfl rfl ?_
         refine Xa ?_
         refine Xs ?_
         refine ⟨.int .i64 0, Yq rfl rfl, ?_, hb1050⟩
         exact congrArg (Value.int .i64) (Lu h105 h986 h1033 h1051)
end Go.Proofs.YtfoplmgoiblkgaaDoor
end
section
namespace Go.Dw
structure Keeps (lo : Nat) (K : List TypeId) (w w' : World) : Prop where
  os : w'.os = w.os
  tape : w'.tape = w.tape
  output : w'.output = w.output
  size : w.heap.size ≤ w'.heap.size
  block : ∀ k, k < w.heap.size → (k < lo ∨ ∀ cs T p, w.heap[k]? = some (.cells cs T p) → T ∉ K) → w'.heap[k]? = w.heap[k]?
section
variable {lo : Nat} {K : List TypeId} {w w1 w2 : World}
theorem Keeps.of0 (hg : w.grownBy w1 none) : Keeps lo K w w1 := ⟨hg.os, hg.tape, hg.output, hg.size, fun k hk _ => hg.block k hk (by simp)⟩
theorem Keeps.refl (w : World) : Keeps lo K w w := Keeps.of0 (World.grownBy.refl w none)
theorem Keeps.trans (h : Keeps lo K w w1) (k : Keeps lo K w1 w2) : Keeps lo K w w2 :=
  ⟨k.os.trans h.os, k.tape.trans h.tape, k.output.trans h.output, Nat.le_trans h.size k.size, fun b hb hc => by
    have h1 := h.block b hb hc
    exact (k.block b (Nat.lt_of_lt_of_le hb h.size) (by rcases hc with h2 | h2; exact Or.inl h2; exact Or.inr (fun cs T p e => h2 cs T p (h1.symm.trans e)))).trans h1⟩
theorem Keeps.low (h : Keeps lo K w w1) (hg : w1.grownBy w2 none) : Keeps lo K w w2 := h.trans (Keeps.of0 hg)
theorem Keeps.put {B : Nat} {T : TypeId} {cs : Array Value} (h : Keeps lo K w w1) (hg : w1.grownBy w2 (some B)) (hb : Blk w1 B T cs) (hT : T ∈ K) (hl : lo ≤ B) : Keeps lo K w w2 := h.trans
  ⟨hg.os, hg.tape, hg.output, hg.size, fun k hk hc => hg.block k hk (by
    intro e
    have e : k = B := by simpa using e
    subst e
    rcases hc with h2 | h2
    · omega
    · exact h2 cs T (0, 0) hb hT)⟩
theorem Keeps.own {B sz cap n : Nat} {T : TypeId} {vs : List Value} (h : Keeps lo K w w1) (hg : w1.grownBy w2 (some B)) (ho : Own w1 B T sz cap n vs) (hT : T ∈ K) (hl : lo ≤ B) : Keeps lo K w w2 :=
  let ⟨_, _, hb, _⟩ := ho.blk; h.put hg hb hT hl
theorem Keeps.grown {r : Option Nat} (hg : w.grownBy w1 r) (h : Keeps lo K w1 w2) (hl : w.heap.size ≤ lo) : w.grownBy w2 r :=
  ⟨h.os.trans hg.os, h.tape.trans hg.tape, h.output.trans hg.output, Nat.le_trans hg.size h.size, fun k hk hr => (h.block k (Nat.lt_of_lt_of_le hk hg.size) (Or.inl (by omega))).trans (hg.block k hk hr)⟩
end
section
variable {l sz cap n : Nat} {a : Option Addr} {U : TypeId} {us : List Value} {w w1 w2 : World}
end
structure RowS (TR TI lo : Nat) (w : World) (m : MTh) : Prop where
  s : ∃ (S : Nat) (xs : List Rt), m.sa = some ⟨S, 0, none⟩ ∧ lo ≤ S ∧ m.sc = m.t.slots.length ∧ xs.length = m.t.slots.length ∧ Blk w S TR (xs.flatMap Rt.cells).toArray
  q : ∃ (S : Nat) (xs : List Int), m.qa = some ⟨S, 0, none⟩ ∧ lo ≤ S ∧ m.qc = m.t.queue.length ∧ xs.length = m.t.queue.length ∧ Blk w S TI (xs.flatMap icell).toArray
  ls : m.t.slots.length ≤ 1048576
  lq : m.t.queue.length ≤ 1048576
def RowsS (TR TI lo : Nat) (w : World) (ms : List MTh) : Prop := ∀ m ∈ ms, RowS TR TI lo w m
theorem Rc {w : World} {b c : Nat} {T U : TypeId} {cs ds : Array Value} (h : Blk w b T cs) (k : Blk w c U ds) (hT : T ≠ U) : b ≠ c := fun e => by
  subst e
  have h1 : some (Obj.cells cs T (0, 0)) = some (Obj.cells ds U (0, 0)) := Eq.trans (Eq.symm h) k
  simp only [Option.some.injEq, Obj.cells.injEq] at h1
  exact hT h1.2.1
section
variable {TR TI lo : Nat} {w w' : World} {m : MTh} {ms : List MTh}
theorem RowS.step {b : Nat} {U : TypeId} {ds : Array Value} (h : RowS TR TI lo w m) (hg : w.grownBy w' (some b)) (k : Blk w b U ds) (h1 : TR ≠ U) (h2 : TI ≠ U) : RowS TR TI lo w' m := by
  obtain ⟨⟨S, xs, a1, a2, a3, a4, a5⟩, ⟨Q, ys, b1, b2, b3, b4, b5⟩, h3, h4⟩ := h
  exact ⟨⟨S, xs, a1, a2, a3, a4, a5.grown hg (Xf (Rc a5 k h1))⟩, ⟨Q, ys, b1, b2, b3, b4, b5.grown hg (Xf (Rc b5 k h2))⟩, h3, h4⟩
theorem RowS.low (h : RowS TR TI lo w m) (hg : w.grownBy w' none) : RowS TR TI lo w' m := by
  obtain ⟨⟨S, xs, a1, a2, a3, a4, a5⟩, ⟨Q, ys, b1, b2, b3, b4, b5⟩, h3, h4⟩ := h
  exact ⟨⟨S, xs, a1, a2, a3, a4, a5.grown0 hg⟩, ⟨Q, ys, b1, b2, b3, b4, b5.grown0 hg⟩, h3, h4⟩
theorem RowS.mono {lo' : Nat} (h : RowS TR TI lo w m) (hl : lo' ≤ lo) : RowS TR TI lo' w m := by
  obtain ⟨⟨S, xs, a1, a2, a3, a4, a5⟩, ⟨Q, ys, b1, b2, b3, b4, b5⟩, h3, h4⟩ := h
  exact ⟨⟨S, xs, a1, Nat.le_trans hl a2, a3, a4, a5⟩, ⟨Q, ys, b1, Nat.le_trans hl b2, b3, b4, b5⟩, h3, h4⟩
theorem RowsS.low (h : RowsS TR TI lo w ms) (hg : w.grownBy w' none) : RowsS TR TI lo w' ms := fun m hm => (h m hm).low hg
theorem RowsS.own {b sz cap n : Nat} {U : TypeId} {vs : List Value} (h : RowsS TR TI lo w ms) (hg : w.grownBy w' (some b)) (k : Own w b U sz cap n vs) (h1 : TR ≠ U) (h2 : TI ≠ U) : RowsS TR TI lo w' ms := fun m hm => let ⟨_, _, hb, _⟩ := k.blk; (h m hm).step hg hb h1 h2
theorem RowsS.at (h : RowsS TR TI lo w ms) {i : Nat} (hi : i < ms.length) : RowS TR TI lo w (mAt ms i) := h _ (List.mem_of_getElem? (Ya hi))
theorem RowsS.set (h : RowsS TR TI lo w ms) {i : Nat} (hi : i < ms.length) {m' : MTh} (hq : m'.qa = (mAt ms i).qa ∧ m'.qc = (mAt ms i).qc ∧ m'.t.queue = (mAt ms i).t.queue) (hs : m'.sa = (mAt ms i).sa ∧ m'.sc = (mAt ms i).sc ∧ m'.t.slots = (mAt ms i).t.slots) : RowsS TR TI lo w (ms.set i m') := fun x hx => by
  rcases List.mem_or_eq_of_mem_set hx with h1 | rfl
  · exact h x h1
  · have h0 := h.at hi
    obtain ⟨h1, h2, h3⟩ := hq
    obtain ⟨h4, h5, h6⟩ := hs
    refine ⟨?_, ?_, ?_, ?_⟩
    · rw [h4, h5, h6]; exact h0.s
    · rw [h1, h2, h3]; exact h0.q
    · rw [h6]; exact h0.ls
    · rw [h3]; exact h0.lq
end
end Go.Dw
end
section
namespace Go.Proofs.YtfoplmgoiblkgaaDoor
open Go.RowKit Go.Dw
set_option maxRecDepth 100000
set_option maxHeartbeats 4000000
set_option linter.unusedSimpArgs false
set_option linter.unusedVariables false
end Go.Proofs.YtfoplmgoiblkgaaDoor
end
section
namespace Go.Dw
section
variable {ts : List Th} {k : Int} {t t' : Th}
theorem Pq (h : 1 ≤ k ∧ k ≤ (ts.length : Int)) : ts[(k - 1).toNat]? = some (thAt ts k) := by
  unfold thAt
  rw [List.getD_eq_getElem?_getD, List.getElem?_eq_getElem (by omega)]
  rfl
theorem Pj (hT : tableOk ts = true) {s : Th} (hs : s ∈ ts) : thingOk s = true ∧ gateOk ts s = true ∧ ∀ r ∈ s.slots, rightTo ts r = true := by
  rw [Jv] at hT
  have h1 := List.all_eq_true.1 (Bool.and_eq_true_iff.1 hT).2 s hs
  unfold rowOk at h1
  rw [Bool.and_eq_true, Bool.and_eq_true] at h1
  exact ⟨h1.1.1, h1.1.2, fun r hr => List.all_eq_true.1 h1.2 r hr⟩
theorem Tt (hT : tableOk ts = true) (h : 1 ≤ k ∧ k ≤ (ts.length : Int)) : thingOk (thAt ts k) = true ∧ gateOk ts (thAt ts k) = true ∧ ∀ r ∈ (thAt ts k).slots, rightTo ts r = true :=
  Pj hT (List.mem_of_getElem? (Pq h))
theorem Ge (hT : tableOk ts = true) (h : 1 ≤ k ∧ k ≤ (ts.length : Int)) (j : Int) : rightOk (slotAt ts k j) = true ∧ rightTo ts (slotAt ts k j) = true := by
  have h1 := Tt hT h
  unfold slotAt
  by_cases hj : j.toNat < (thAt ts k).slots.length
  · have h2 := List.mem_of_getElem? (Qg hj)
    exact ⟨List.all_eq_true.1 (U3 h1.1) _ h2, h1.2.2 _ h2⟩
  · have : rAt (thAt ts k).slots j.toNat = Rt.zero := by
      unfold rAt
      rw [List.getD_eq_getElem?_getD, List.getElem?_eq_none (by omega)]
      rfl
    rw [this]
    exact ⟨by decide, by simp [rightTo, Rt.zero]⟩
end
theorem Vs {ts : List Th} {k kd : Int} (h : kindAt ts k kd = true) : (1 ≤ k ∧ k ≤ (ts.length : Int)) ∧ (thAt ts k).kind = kd := by
  unfold kindAt at h
  rw [Bool.and_eq_true] at h
  exact ⟨Zb.1 h.1, of_decide_eq_true h.2⟩
theorem Ni (ts : List Th) (q : Cl) : -3 ≤ check1 ts q ∧ check1 ts q ≤ 0 := by
  unfold check1
  split
  · omega
  · split
    · omega
    · split
      · omega
      · split <;> omega
theorem Zs {ts : List Th} {q : Cl} (hp : callPoss ts q = true) : tableOk ts = true ∧ callOk q = true ∧ kindAt ts q.run 3 = true := by
  unfold callPoss at hp
  rw [Bool.and_eq_true, Bool.and_eq_true] at hp
  exact ⟨hp.1.1, hp.1.2, hp.2⟩
end Go.Dw
end
section
namespace Go.Dw
structure KeepsI (lo hi : Nat) (K : List TypeId) (w w' : World) : Prop where
  os : w'.os = w.os
  tape : w'.tape = w.tape
  output : w'.output = w.output
  size : w.heap.size ≤ w'.heap.size
  block : ∀ k, k < w.heap.size → (k < lo ∨ hi ≤ k ∨ ∀ cs T p, w.heap[k]? = some (.cells cs T p) → T ∉ K) → w'.heap[k]? = w.heap[k]?
section
variable {lo hi : Nat} {K : List TypeId} {w w1 w2 : World}
theorem KeepsI.of0 (hg : w.grownBy w1 none) : KeepsI lo hi K w w1 := ⟨hg.os, hg.tape, hg.output, hg.size, fun k hk _ => hg.block k hk (by simp)⟩
theorem KeepsI.refl (w : World) : KeepsI lo hi K w w := KeepsI.of0 (World.grownBy.refl w none)
theorem KeepsI.trans (h : KeepsI lo hi K w w1) (k : KeepsI lo hi K w1 w2) : KeepsI lo hi K w w2 :=
  ⟨k.os.trans h.os, k.tape.trans h.tape, k.output.trans h.output, Nat.le_trans h.size k.size, fun b hb hc => by
    have h1 := h.block b hb hc
    exact (k.block b (Nat.lt_of_lt_of_le hb h.size) (by rcases hc with h2 | h2 | h2; exact Or.inl h2; exact Or.inr (Or.inl h2); exact Or.inr (Or.inr (fun cs T p e => h2 cs T p (h1.symm.trans e))))).trans h1⟩
theorem KeepsI.low (h : KeepsI lo hi K w w1) (hg : w1.grownBy w2 none) : KeepsI lo hi K w w2 := h.trans (KeepsI.of0 hg)
theorem KeepsI.own {B sz cap n : Nat} {T : TypeId} {vs : List Value} (h : KeepsI lo hi K w w1) (hg : w1.grownBy w2 (some B)) (ho : Own w1 B T sz cap n vs) (hT : T ∈ K) (hl : lo ≤ B) (hh : B < hi) : KeepsI lo hi K w w2 := h.trans
  ⟨hg.os, hg.tape, hg.output, hg.size, fun k hk hc => hg.block k hk (by
    intro e
    have e : k = B := by simpa using e
    subst e
    obtain ⟨_, cs, hb, _⟩ := ho.blk
    rcases hc with h2 | h2 | h2
    · omega
    · omega
    · exact h2 cs T (0, 0) hb hT)⟩
theorem KeepsI.grown {r : Option Nat} (hg : w.grownBy w1 r) (h : KeepsI lo hi K w1 w2) (hl : w.heap.size ≤ lo) : w.grownBy w2 r :=
  ⟨h.os.trans hg.os, h.tape.trans hg.tape, h.output.trans hg.output, Nat.le_trans hg.size h.size, fun k hk hr => (h.block k (Nat.lt_of_lt_of_le hk hg.size) (Or.inl (by omega))).trans (hg.block k hk hr)⟩
end
structure RowO (TR TI lo : Nat) (w : World) (m : MTh) : Prop where
  s : OwnN lo w m.sa TR 5 m.sc m.t.slots.length (m.t.slots.flatMap Rt.cells)
  q : OwnN lo w m.qa TI 1 m.qc m.t.queue.length (m.t.queue.flatMap icell)
structure RowsO (TR TI lo : Nat) (w : World) (ms : List MTh) : Prop where
  row : ∀ m ∈ ms, RowO TR TI lo w m
  apart : ∀ i j S, i < ms.length → j < ms.length → i ≠ j → (mAt ms i).sa = some ⟨S, 0, none⟩ → (mAt ms j).sa ≠ some ⟨S, 0, none⟩
def HiO (hi : Nat) (ms : List MTh) : Prop := ∀ m ∈ ms, ∀ c, (m.sa = some ⟨c, 0, none⟩ ∨ m.qa = some ⟨c, 0, none⟩) → c < hi
section
variable {TR TI lo : Nat} {w w' : World} {m : MTh} {ms : List MTh}
theorem RowO.low (h : RowO TR TI lo w m) (hg : w.grownBy w' none) : RowO TR TI lo w' m := ⟨h.s.grown0 hg, h.q.grown0 hg⟩
theorem RowO.lt {R : Nat} (h : RowO TR TI lo w m) (hg : w.grownBy w' (some R)) (hR : R < lo) : RowO TR TI lo w' m := ⟨h.s.grown_lt hg hR, h.q.grown_lt hg hR⟩
theorem RowO.typ {B U sz cap n : Nat} {us : List Value} (h : RowO TR TI lo w m) (hg : w.grownBy w' (some B)) (k : Own w B U sz cap n us) (h1 : TR ≠ U) (h2 : TI ≠ U) : RowO TR TI lo w' m := ⟨h.s.typ hg k h1, h.q.typ hg k h2⟩
theorem RowO.mono {lo' : Nat} (h : RowO TR TI lo w m) (hl : lo' ≤ lo) : RowO TR TI lo' w m := ⟨h.s.mono hl, h.q.mono hl⟩
theorem RowO.th (h : RowO TR TI lo w m) : ThAt w m := ⟨OwnN.sl Zw (by omega) h.s, OwnN.sl Ys (by omega) h.q, OwnN.cap0 h.s, OwnN.cap0 h.q⟩
theorem RowO.g (h : RowO TR TI lo w m) : ThG lo w m := ⟨SlG.ownN Zw (by omega) h.s, SlG.ownN Ys (by omega) h.q, OwnN.cap0 h.s, OwnN.cap0 h.q⟩
theorem RowsO.low (h : RowsO TR TI lo w ms) (hg : w.grownBy w' none) : RowsO TR TI lo w' ms := ⟨fun m hm => (h.row m hm).low hg, h.apart⟩
theorem RowsO.lt {R : Nat} (h : RowsO TR TI lo w ms) (hg : w.grownBy w' (some R)) (hR : R < lo) : RowsO TR TI lo w' ms := ⟨fun m hm => (h.row m hm).lt hg hR, h.apart⟩
theorem RowsO.own {B U sz cap n : Nat} {us : List Value} (h : RowsO TR TI lo w ms) (hg : w.grownBy w' (some B)) (k : Own w B U sz cap n us) (h1 : TR ≠ U) (h2 : TI ≠ U) : RowsO TR TI lo w' ms := ⟨fun m hm => (h.row m hm).typ hg k h1 h2, h.apart⟩
theorem RowsO.mono {lo' : Nat} (h : RowsO TR TI lo w ms) (hl : lo' ≤ lo) : RowsO TR TI lo' w ms := ⟨fun m hm => (h.row m hm).mono hl, h.apart⟩
theorem RowsO.ge {b hi : Nat} (h : RowsO TR TI lo w ms) (hg : w.grownBy w' (some b)) (hH : HiO hi ms) (hb : hi ≤ b) : RowsO TR TI lo w' ms :=
  ⟨fun m hm => ⟨(h.row m hm).s.grown hg (fun B e => Xf (by have := hH m hm B (Or.inl e); omega)), (h.row m hm).q.grown hg (fun B e => Xf (by have := hH m hm B (Or.inr e); omega))⟩, h.apart⟩
theorem Lt {T sz cap n lo c : Nat} {a : Option Addr} {vs : List Value} (h : OwnN lo w a T sz cap n vs) (e : a = some ⟨c, 0, none⟩) : c < w.heap.size ∧ lo ≤ c := by
  rcases h.form with ⟨e2, _⟩ | ⟨B, e2, h2, h3, _⟩
  · rw [e2] at e; cases e
  · rw [e2] at e
    simp only [Option.some.injEq, Addr.mk.injEq, and_true] at e
    omega
theorem RowsO.hi (h : RowsO TR TI lo w ms) : HiO w.heap.size ms := fun m hm c hc => by
  rcases hc with e | e
  · exact (Lt (h.row m hm).s e).1
  · exact (Lt (h.row m hm).q e).1
theorem RowsO.at (h : RowsO TR TI lo w ms) {i : Nat} (hi : i < ms.length) : RowO TR TI lo w (mAt ms i) := h.row _ (List.mem_of_getElem? (Ya hi))
theorem RowsO.tab {B T cap : Nat} (h : RowsO TR TI lo w ms) (ho : Own w B T 8 cap ms.length (ms.flatMap MTh.cells)) : TabAt w (some ⟨B, 0, none⟩) ms := ⟨Own.sl Zy ho, fun m hm => (h.row m hm).th⟩
theorem RowsO.nil : RowsO TR TI lo w [] := ⟨(fun m hm => by cases hm), fun i j S hi => absurd hi (Nat.not_lt_zero _)⟩
theorem V9 {i j : Nat} (hi : i < ms.length) : mAt (ms.set i m) j = if j = i then m else mAt ms j := by
  unfold mAt
  rw [List.getD_eq_getElem?_getD, List.getD_eq_getElem?_getD, List.getElem?_set]
  by_cases e : j = i
  · subst e
    rw [if_pos rfl, if_pos rfl, if_pos hi]
    rfl
  · rw [if_neg e, if_neg (by omega)]
theorem Gs {j : Nat} (hj : j < (ms ++ [m]).length) : mAt (ms ++ [m]) j = if j = ms.length then m else mAt ms j := by
  have hj' : j ≤ ms.length := by rw [List.length_append, List.length_singleton] at hj; omega
  unfold mAt
  rw [List.getD_eq_getElem?_getD, List.getD_eq_getElem?_getD]
  by_cases e : j = ms.length
  · subst e
    rw [if_pos rfl, List.getElem?_append_right (Nat.le_refl _), Nat.sub_self]
    rfl
  · rw [if_neg e, List.getElem?_append_left (by omega)]
theorem RowsO.snoc {hi : Nat} (h : RowsO TR TI lo w ms) (hm : RowO TR TI lo w m) (hH : HiO hi ms) (hS : ∀ S, m.sa = some ⟨S, 0, none⟩ → hi ≤ S) : RowsO TR TI lo w (ms ++ [m]) := by
  refine ⟨fun x hx => ?_, fun i j S hi' hj hne => ?_⟩
  · rcases List.mem_append.1 hx with h1 | h1
    · exact h.row x h1
    · simp at h1; subst h1; exact hm
  · rw [Gs hi', Gs hj]
    rw [List.length_append, List.length_singleton] at hi' hj
    split
    · rename_i e1
      rw [if_neg (by omega)]
      intro e2 e3
      have h1 := hS S e2
      have h2 := hH _ (List.mem_of_getElem? (Ya (show j < ms.length by omega))) S (Or.inl e3)
      omega
    · rename_i e1
      split
      · intro e2 e3
        have h1 := hS S e3
        have h2 := hH _ (List.mem_of_getElem? (Ya (show i < ms.length by omega))) S (Or.inl e2)
        omega
      · exact h.apart i j S (by omega) (by omega) hne
theorem RowsO.setr {i : Nat} (h : RowsO TR TI lo w ms) (hi : i < ms.length) {m' : MTh} (hm : RowO TR TI lo w m') (hS : ∀ S, m'.sa = some ⟨S, 0, none⟩ → (mAt ms i).sa = some ⟨S, 0, none⟩ ∨ ∀ x ∈ ms, x.sa ≠ some ⟨S, 0, none⟩) : RowsO TR TI lo w (ms.set i m') := by
  refine ⟨fun x hx => ?_, fun a b S ha hb hne => ?_⟩
  · rcases List.mem_or_eq_of_mem_set hx with h1 | rfl
    · exact h.row x h1
    · exact hm
  · rw [List.length_set] at ha hb
    rw [V9 hi, V9 hi]
    split
    · rename_i e1
      rw [if_neg (by omega)]
      intro e2
      rcases hS S e2 with h1 | h1
      · exact h.apart i b S hi hb (by omega) h1
      · exact h1 _ (List.mem_of_getElem? (Ya hb))
    · rename_i e1
      split
      · intro e2 e3
        rcases hS S e3 with h1 | h1
        · exact h.apart a i S ha hi (by omega) e2 h1
        · exact h1 _ (List.mem_of_getElem? (Ya ha)) e2
      · exact h.apart a b S ha hb hne
theorem RowsO.set {i : Nat} (h : RowsO TR TI lo w ms) (hi : i < ms.length) {m' : MTh} (hq : m'.qa = (mAt ms i).qa ∧ m'.qc = (mAt ms i).qc ∧ m'.t.queue = (mAt ms i).t.queue) (hs : m'.sa = (mAt ms i).sa ∧ m'.sc = (mAt ms i).sc ∧ m'.t.slots = (mAt ms i).t.slots) : RowsO TR TI lo w (ms.set i m') := by
  obtain ⟨h1, h2, h3⟩ := hq
  obtain ⟨h4, h5, h6⟩ := hs
  refine h.setr hi ⟨?_, ?_⟩ fun S e => Or.inl (by rw [← h4]; exact e)
  · rw [h4, h5, h6]; exact (h.at hi).s
  · rw [h1, h2, h3]; exact (h.at hi).q
theorem RowsO.slot {i : Nat} (h : RowsO TR TI lo w ms) (hi : i < ms.length) (hs : 0 < (mAt ms i).t.slots.length) : ∃ S : Nat, (mAt ms i).sa = some ⟨S, 0, none⟩ ∧ lo ≤ S ∧ Own w S TR 5 (mAt ms i).sc (mAt ms i).t.slots.length ((mAt ms i).t.slots.flatMap Rt.cells) :=
  (h.at hi).s.some_ hs
end
def putS (m : MTh) (j : Nat) (x : Rt) : MTh := { m with t := { m.t with slots := m.t.slots.set j x } }
def putT (ms : List MTh) (i j : Nat) (x : Rt) : List MTh := ms.set i (putS (mAt ms i) j x)
theorem G1 {ms : List MTh} {i j : Nat} {x : Rt} : (putT ms i j x).length = ms.length := List.length_set ..
theorem RowsO.put {TR TI lo : Nat} {w w' : World} {ms : List MTh} {i k S cap : Nat} {x : Rt} (h : RowsO TR TI lo w ms) (hi : i < ms.length) (hS : (mAt ms i).sa = some ⟨S, 0, none⟩) (hl : lo ≤ S)
    (ho : Own w S TR 5 cap (mAt ms i).t.slots.length ((mAt ms i).t.slots.flatMap Rt.cells)) (hc : cap = (mAt ms i).sc) (hO : Own w' S TR 5 cap ((mAt ms i).t.slots.set k x).length (((mAt ms i).t.slots.set k x).flatMap Rt.cells)) (hg : w.grownBy w' (some S)) (hT : TI ≠ TR) : RowsO TR TI lo w' (putT ms i k x) := by
  subst hc
  refine ⟨fun y hy => ?_, fun a b Z ha hb hne => ?_⟩
  · obtain ⟨j, hj, e⟩ := List.getElem_of_mem hy
    have hy' : y = mAt (putT ms i k x) j := by
      unfold mAt
      rw [List.getD_eq_getElem?_getD, List.getElem?_eq_getElem hj, e]
      rfl
    have hj' : j < ms.length := by rwa [G1] at hj
    unfold putT at hy'
    rw [V9 hi] at hy'
    split at hy'
    · subst hy'
      refine ⟨?_, (h.at hi).q.typ hg ho hT⟩
      show OwnN lo w' (mAt ms i).sa TR 5 (mAt ms i).sc _ _
      rw [hS]
      exact OwnN.of hO hl
    · rename_i e2
      subst hy'
      refine ⟨(h.at hj').s.grown hg (fun Z hZ => Xf fun e3 => ?_), (h.at hj').q.typ hg ho hT⟩
      subst e3
      exact h.apart i j Z hi hj' (by omega) hS hZ
  · rw [G1] at ha hb
    have hsa : ∀ j, (mAt (putT ms i k x) j).sa = (mAt ms j).sa := fun j => by
      unfold putT
      rw [V9 hi]
      split
      · rename_i e; rw [e]; rfl
      · rfl
    rw [hsa, hsa]
    exact h.apart a b Z ha hb hne
theorem TabLen.ok {ms : List MTh} (h : tableOk (tabT ms) = true) : TabLen ms := fun m hm => by
  have h1 := Jk (Pj h (List.mem_map.2 ⟨m, hm, rfl⟩)).1
  have h5 := h1.2.2.2.2.1
  have h6 := h1.2.2.2.2.2.1
  unfold slotsOk at h5
  unfold queueOk at h6
  constructor
  · split at h5
    · have := of_decide_eq_true (Bool.and_eq_true_iff.1 h5).1
      omega
    · have := of_decide_eq_true h5
      omega
  · split at h6
    · have := of_decide_eq_true (Bool.and_eq_true_iff.1 h6).1
      omega
    · have := of_decide_eq_true h6
      omega
section
variable {ms : List MTh} {q : Cl} {r : Rt}
end
section
variable {ms ms1 : List MTh} {q : Cl}
end
theorem G0 {ts : List Th} {q : Cl} (h1 : tableOk ts = true) (h2 : callOk q = true) (h3 : kindAt ts q.run 3 = true) : callPoss ts q = true := by unfold callPoss; rw [h1, h2, h3]; rfl
section
variable {P : Program} {n : Nat} {ops : Array Oper} {K : Fr → World → Prop} {l : List Oper} {f : Fr} {w : World} {ty : TypeId} {pos : String} {aft : Array Edge} {d : Nat}
end
end Go.Dw
end
section
namespace Go.Proofs.YtfoplmgoiblkgaaDoor
open Go.RowKit Go.Dw
set_option maxRecDepth 100000
set_option maxHeartbeats 4000000
set_option linter.unusedSimpArgs false
set_option linter.unusedVariables false
end Go.Proofs.YtfoplmgoiblkgaaDoor
end
section
namespace Go.Proofs.YtfoplmgoiblkgaaDoor
open Go.RowKit Go.Dw
set_option maxRecDepth 100000
set_option maxHeartbeats 4000000
set_option linter.unusedSimpArgs false
set_option linter.unusedVariables false
end Go.Proofs.YtfoplmgoiblkgaaDoor
end
section
namespace Go.Dw
def chkAll (ts : List Th) (q : Cl) : Int := if callPoss ts q = true then check1 ts q else -1
def chkSees (ts : List Th) (run th : Int) : Bool := ((tableOk ts && kindAt ts run 3) && inR th 1 (ts.length : Int)) && sees ts run th
def chkTouches (ts : List Th) (run th : Int) : Bool := ((tableOk ts && kindAt ts run 3) && inR th 1 (ts.length : Int)) && touches ts run th
def tabLive (ts : List Th) (r : Rt) : Bool := (tableOk ts && rightOk r) && live ts r
def kindsOf (c : Int) : List Int := if c = 1 ∨ c = 2 then [1] else if c = 4 ∨ c = 5 then [2] else if c = 6 ∨ c = 7 then [4] else if c = 9 then [5] else [1, 2, 4]
theorem Pg (c x : Int) : (kindsOf c).any (fun y => decide (y = x)) = kindFor c x := by
  have e : ∀ a b : Int, decide (a = b) = decide (b = a) := fun a b => by rw [Bool.eq_iff_iff]; simp [eq_comm]
  unfold kindsOf kindFor
  split
  · simp [e 1 x]
  split
  · simp [e 2 x]
  split
  · simp [e 4 x]
  split
  · simp [e 5 x]
  · simp [e 1 x, e 2 x, e 4 x, Bool.or_assoc]
section
variable {ts : List Th} {q : Cl}
theorem Z4 : -3 ≤ chkAll ts q ∧ chkAll ts q ≤ 0 := by
  have := Ni ts q
  unfold chkAll
  split <;> omega
theorem Z3 (h : callPoss ts q = true) : chkAll ts q = check1 ts q := by unfold chkAll; rw [if_pos h]
theorem Wf (h : callPoss ts q = false) : chkAll ts q = -1 := by unfold chkAll; rw [h]; rfl
theorem Hf (h : (((!tableOk ts) || (!callOk q)) || (!kindAt ts q.run 3)) = true) : callPoss ts q = false := by
  unfold callPoss
  cases h1 : tableOk ts <;> cases h2 : callOk q <;> cases h3 : kindAt ts q.run 3 <;> simp_all
theorem Gj (h : (((!tableOk ts) || (!callOk q)) || (!kindAt ts q.run 3)) = false) : callPoss ts q = true := by
  unfold callPoss
  cases h1 : tableOk ts <;> cases h2 : callOk q <;> cases h3 : kindAt ts q.run 3 <;> simp_all
theorem Zo (h : ¬ chkAll ts q = -1) : callPoss ts q = true := by
  unfold chkAll at h
  split at h
  · assumption
  · exact absurd rfl h
theorem Vu (h : ¬ chkAll ts q = -1) (h3 : ¬ q.kind = 3) : (1 ≤ (slotAt ts q.run q.a).th ∧ (slotAt ts q.run q.a).th ≤ (ts.length : Int)) ∧ kindFor q.kind (thAt ts (slotAt ts q.run q.a).th).kind = true ∧ (need0 q.kind = true → (slotAt ts q.run q.a).rd = true) ∧ (need1 q.kind = true → (slotAt ts q.run q.a).wr = true) := by
  have hp := Zo h
  obtain ⟨hT, hc, hr⟩ := Zs hp
  have hs := Ge hT (Vs hr).1 q.a
  rw [Z3 hp] at h
  unfold check1 at h
  rw [if_neg h3] at h
  split at h
  · exact absurd rfl h
  rename_i h1
  unfold chk1 at h1
  simp only [Bool.or_eq_true, Bool.and_eq_true, Bool.not_eq_true', decide_eq_true_eq, not_or, not_and, Bool.not_eq_false] at h1
  obtain ⟨⟨⟨h0, hk⟩, hr1⟩, hw1⟩ := h1
  refine ⟨?_, hk, hr1, hw1⟩
  have h2 := hs.2
  unfold rightTo at h2
  rw [Bool.or_eq_true] at h2
  rcases h2 with h2 | h2
  · exact absurd (of_decide_eq_true h2) h0
  · exact Zb.1 (Bool.and_eq_true_iff.1 h2).1
theorem Gv (h : ¬ chkAll ts q = -1) (h2 : ¬ chkAll ts q = -2) (h3 : ¬ q.kind = 3) : (need0 q.kind = true → sees ts q.run (slotAt ts q.run q.a).th = true) ∧ (need1 q.kind = true → touches ts q.run (slotAt ts q.run q.a).th = true) := by
  have hp := Zo h
  rw [Z3 hp] at h h2
  unfold check1 at h h2
  rw [if_neg h3] at h h2
  split at h
  · exact absurd rfl h
  rename_i h1
  rw [if_neg h1] at h2
  split at h2
  · exact absurd rfl h2
  rename_i h4
  unfold chk2 at h4
  simp only [Bool.or_eq_true, Bool.and_eq_true, Bool.not_eq_true', not_or, not_and, Bool.not_eq_false] at h4
  exact h4
theorem Rh (h : chkAll ts q = 0) (h3 : ¬ q.kind = 3) (hs : sees ts q.run (slotAt ts q.run q.a).th = true) : live ts (slotAt ts q.run q.a) = true := by
  have hp := Zo (ts := ts) (q := q) (by omega)
  rw [Z3 hp] at h
  unfold check1 at h
  rw [if_neg h3] at h
  split at h
  · exact absurd h (by decide)
  split at h
  · exact absurd h (by decide)
  split at h
  · exact absurd h (by decide)
  rename_i h4
  unfold chk3 at h4
  rw [hs] at h4
  simpa using h4
theorem Nc (h : chkAll ts q = -3) (h3 : ¬ q.kind = 3) : sees ts q.run (slotAt ts q.run q.a).th = true ∧ live ts (slotAt ts q.run q.a) = false := by
  have hp := Zo (ts := ts) (q := q) (by omega)
  rw [Z3 hp] at h
  unfold check1 at h
  rw [if_neg h3] at h
  split at h
  · exact absurd h (by decide)
  split at h
  · exact absurd h (by decide)
  split at h
  · rename_i h4
    unfold chk3 at h4
    simpa using h4
  · exact absurd h (by decide)
theorem Kn (hT : tableOk ts = true) (hk : kindAt ts q.run 3 = true) {t : Int} (ht : 1 ≤ t ∧ t ≤ (ts.length : Int)) : chkSees ts q.run t = sees ts q.run t := by
  unfold chkSees
  rw [hT, hk, Zb.2 ht]
  rfl
theorem Va (hT : tableOk ts = true) (hk : kindAt ts q.run 3 = true) {t : Int} (ht : 1 ≤ t ∧ t ≤ (ts.length : Int)) : chkTouches ts q.run t = touches ts q.run t := by
  unfold chkTouches
  rw [hT, hk, Zb.2 ht]
  rfl
theorem Hn (hT : tableOk ts = true) (hk : kindAt ts q.run 3 = true) : tabLive ts (slotAt ts q.run q.a) = live ts (slotAt ts q.run q.a) := by
  unfold tabLive
  rw [hT, (Ge hT (Vs hk).1 q.a).1]
  rfl
theorem Ht (h : chkAll ts q = 0) (hk : q.kind = 1 ∨ q.kind = 4) : ((slotAt ts q.run q.a).rd && chkSees ts q.run (slotAt ts q.run q.a).th) = true := by
  have h3 : ¬ q.kind = 3 := by omega
  obtain ⟨hT, _, hr⟩ := Zs (Zo (ts := ts) (q := q) (by omega))
  have h1 := Vu (ts := ts) (q := q) (by omega) h3
  have h2 := Gv (ts := ts) (q := q) (by omega) (by omega) h3
  have hn : need0 q.kind = true := by unfold need0; rw [if_pos hk]
  rw [h1.2.2.1 hn, Kn hT hr h1.1, h2.1 hn]
  rfl
theorem Hd (h : chkAll ts q = 0) (h3 : ¬ q.kind = 3) (hk : ¬ (q.kind = 1 ∨ q.kind = 4)) : ((slotAt ts q.run q.a).wr = true ∧ chkTouches ts q.run (slotAt ts q.run q.a).th = true) ∧ (q.kind = 7 → (slotAt ts q.run q.a).rd = true ∧ chkSees ts q.run (slotAt ts q.run q.a).th = true) := by
  obtain ⟨hT, _, hr⟩ := Zs (Zo (ts := ts) (q := q) (by omega))
  have h1 := Vu (ts := ts) (q := q) (by omega) h3
  have h2 := Gv (ts := ts) (q := q) (by omega) (by omega) h3
  have hn : need1 q.kind = true := by unfold need1; rw [if_neg hk]
  refine ⟨⟨h1.2.2.2 hn, by rw [Va hT hr h1.1]; exact h2.2 hn⟩, fun h7 => ?_⟩
  have hn0 : need0 q.kind = true := by unfold need0; rw [if_neg hk, if_pos h7]
  exact ⟨h1.2.2.1 hn0, by rw [Kn hT hr h1.1]; exact h2.1 hn0⟩
theorem P4 (h3 : ¬ q.kind = 3) (ha : chkAll ts q = -3 ∨ chkAll ts q = 0) : (decide (chkAll ts q = 0) = true ∧ (tabLive ts (slotAt ts q.run q.a) = true ∨ chkSees ts q.run (slotAt ts q.run q.a).th = false)) ∨ (decide (chkAll ts q = -3) = true ∧ chkSees ts q.run (slotAt ts q.run q.a).th = true ∧ tabLive ts (slotAt ts q.run q.a) = false) := by
  obtain ⟨hT, _, hr⟩ := Zs (Zo (ts := ts) (q := q) (by omega))
  have h1 := Vu (ts := ts) (q := q) (by omega) h3
  rw [Kn hT hr h1.1, Hn hT hr]
  rcases ha with h | h
  · exact Or.inr ⟨decide_eq_true h, Nc h h3⟩
  · refine Or.inl ⟨decide_eq_true h, ?_⟩
    cases hs : sees ts q.run (slotAt ts q.run q.a).th with
    | false => exact Or.inr rfl
    | true => exact Or.inl (Rh h h3 hs)
theorem Rz (hT : tableOk ts = true) (hc : callOk q = true) (hr : kindAt ts q.run 3 = true) {j : Int} (hj : 0 ≤ j ∧ j ≤ 3) (h0 : ¬ (slotAt ts q.run j).th = 0) (hk : (thAt ts (slotAt ts q.run j).th).kind = 1) :
    ((slotAt ts q.run j).rd = true → chkSees ts q.run (slotAt ts q.run j).th = false → chkAll ts ⟨1, q.run, j, 0, 0⟩ = -2) ∧ ((slotAt ts q.run j).wr = true → chkTouches ts q.run (slotAt ts q.run j).th = false → chkAll ts ⟨2, q.run, j, 0, 0⟩ = -2) := by
  have hco := Z2 hc
  have hin : 1 ≤ (slotAt ts q.run j).th ∧ (slotAt ts q.run j).th ≤ (ts.length : Int) := by
    have h2 := (Ge hT (Vs hr).1 j).2
    unfold rightTo at h2
    rw [Bool.or_eq_true] at h2
    rcases h2 with h2 | h2
    · exact absurd (of_decide_eq_true h2) h0
    · exact Zb.1 (Bool.and_eq_true_iff.1 h2).1
  have hp : ∀ k : Int, 1 ≤ k → k ≤ 2 → callPoss ts ⟨k, q.run, j, 0, 0⟩ = true := fun k k1 k2 => by
    unfold callPoss callOk
    simp only
    rw [hT, hr, Zb.2 (show 1 ≤ k ∧ k ≤ 9 by omega), Zb.2 hco.2.1, Zb.2 hj]
    decide
  rw [Kn hT hr hin, Va hT hr hin]
  have hkf : ∀ k : Int, k = 1 ∨ k = 2 → kindFor k (thAt ts (slotAt ts q.run j).th).kind = true := fun k e => by unfold kindFor; rw [if_pos e, hk]; rfl
  refine ⟨fun hrd hs => ?_, fun hwr hs => ?_⟩
  · rw [Z3 (hp 1 (by decide) (by decide))]
    unfold check1
    rw [if_neg (show ¬ (1 : Int) = 3 by decide), if_neg (by
      unfold chk1
      simp only [hkf 1 (Or.inl rfl), hrd, decide_eq_false h0]
      simp [need0, need1]), if_pos (by
      unfold chk2
      simp only [hs]
      simp [need0, need1])]
  · rw [Z3 (hp 2 (by decide) (by decide))]
    unfold check1
    rw [if_neg (show ¬ (2 : Int) = 3 by decide), if_neg (by
      unfold chk1
      simp only [hkf 2 (Or.inr rfl), hwr, decide_eq_false h0]
      simp [need0, need1]), if_pos (by
      unfold chk2
      simp only [hs]
      simp [need0, need1])]
theorem Tv {ms : List MTh} {run th : Int} (hT : tableOk (tabT ms) = true) (hr : 1 ≤ run ∧ run ≤ (ms.length : Int)) (ht : 1 ≤ th ∧ th ≤ (ms.length : Int)) : labelFlow (mAt ms (th - 1).toNat).t.lab (mAt ms (run - 1).toNat).t.lab = sees (tabT ms) run th := by
  rw [← Ph]
  unfold labelFlow
  rw [J6 hT (i := (th - 1).toNat) (by omega), J6 hT (i := (run - 1).toNat) (by omega)]
  rfl
theorem L6 {ms : List MTh} {run th : Int} (hT : tableOk (tabT ms) = true) (hr : 1 ≤ run ∧ run ≤ (ms.length : Int)) (ht : 1 ≤ th ∧ th ≤ (ms.length : Int)) : labelFlow (mAt ms (run - 1).toNat).t.lab (mAt ms (th - 1).toNat).t.lab = touches (tabT ms) run th := by
  rw [← Wo]
  unfold labelFlow
  rw [J6 hT (i := (th - 1).toNat) (by omega), J6 hT (i := (run - 1).toNat) (by omega)]
  rfl
theorem Nt {c : Int} : (kindsOf c).length ≤ 3 := by
  unfold kindsOf
  repeat' split
  all_goals decide
theorem Tl {ms : List MTh} {r : Rt} (h : (decide (r.th = 0) || !kindFor q.kind (mAt ms (r.th - 1).toNat).t.kind) = true) : chk1m ms q r = true := by unfold chk1m; rw [h]; rfl
theorem To {ms : List MTh} {r : Rt} (h : (decide (r.th = 0) || !kindFor q.kind (mAt ms (r.th - 1).toNat).t.kind) = false) (h2 : ((need0 q.kind && !r.rd) || (need1 q.kind && !r.wr)) = true) : chk1m ms q r = true := by unfold chk1m; rw [h, Bool.false_or]; exact h2
theorem Ld {ms : List MTh} {r : Rt} (h : (decide (r.th = 0) || !kindFor q.kind (mAt ms (r.th - 1).toNat).t.kind) = false) (h2 : ((need0 q.kind && !r.rd) || (need1 q.kind && !r.wr)) = false) : chk1m ms q r = false := by unfold chk1m; rw [h, Bool.false_or]; exact h2
theorem Sg {x : Int} (h : ((!decide (x = -3)) && (!decide (x = 0))) = false) : x = -3 ∨ x = 0 := by
  by_cases h1 : x = -3
  · exact Or.inl h1
  · by_cases h2 : x = 0
    · exact Or.inr h2
    · simp [h1, h2] at h
theorem Nf {ms : List MTh} {k kd : Int} (h1 : 1 ≤ k ∧ k ≤ (ms.length : Int)) (h2 : (mAt ms (k - 1).toNat).t.kind = kd) : kindAt (tabT ms) k kd = true := by
  rw [← Vk, Bool.and_eq_true]
  exact ⟨Zb.2 h1, decide_eq_true h2⟩
theorem Bh {a b c d : Bool} {k : Int} (h : (a = true ∧ b = true) ∧ (k = 7 → c = true ∧ d = true)) : ((a && b) && ((!decide (k = 7)) || (c && d))) = true := by
  obtain ⟨⟨rfl, rfl⟩, h3⟩ := h
  by_cases h7 : k = 7
  · obtain ⟨rfl, rfl⟩ := h3 h7
    simp
  · simp [h7]
theorem Tr {x : Int} {s l : Bool} (h : (decide (x = 0) = true ∧ (l = true ∨ s = false)) ∨ (decide (x = -3) = true ∧ s = true ∧ l = false)) : ((decide (x = 0) && (l || !s)) || ((decide (x = (-3)) && s) && !l)) = true := by
  rcases h with ⟨h1, rfl | rfl⟩ | ⟨h1, rfl, rfl⟩
  · simp [h1]
  · simp [h1]
  · simp [h1]
theorem T6 {ms : List MTh} {k : Nat} (hT : tableOk (tabT ms) = true) (hc : callOk q = true) (hr : kindAt (tabT ms) q.run 3 = true) (hk : k < 4) (h0 : ¬ (rAt (mAt ms (q.run - 1).toNat).t.slots k).th = 0) (h1 : (mAt ms ((rAt (mAt ms (q.run - 1).toNat).t.slots k).th - 1).toNat).t.kind = 1)
    (h : ((((rAt (mAt ms (q.run - 1).toNat).t.slots k).rd && (!chkSees (tabT ms) q.run (rAt (mAt ms (q.run - 1).toNat).t.slots k).th)) && (!decide (chkAll (tabT ms) ⟨1, q.run, (k : Int), 0, 0⟩ = (-2)))) || (((rAt (mAt ms (q.run - 1).toNat).t.slots k).wr && (!chkTouches (tabT ms) q.run (rAt (mAt ms (q.run - 1).toNat).t.slots k).th)) && (!decide (chkAll (tabT ms) ⟨2, q.run, (k : Int), 0, 0⟩ = (-2))))) = true) : False := by
  have es : rAt (mAt ms (q.run - 1).toNat).t.slots k = slotAt (tabT ms) q.run (k : Int) := Q1 (j := (k : Int))
  rw [es] at h0 h1 h
  rw [Js] at h1
  have e := Rz hT hc hr (j := (k : Int)) ⟨by omega, by omega⟩ h0 h1
  simp only [Bool.or_eq_true, Bool.and_eq_true, Bool.not_eq_true', decide_eq_false_iff_not] at h
  rcases h with ⟨⟨a1, a2⟩, a3⟩ | ⟨⟨a1, a2⟩, a3⟩
  · exact a3 (e.1 a1 a2)
  · exact a3 (e.2 a1 a2)
end
end Go.Dw
end
section
namespace Go.Dw
section
variable {ts : List Th} {q : Cl}
def Like (a b : Th) : Prop := b.kind = a.kind ∧ b.lab = a.lab ∧ b.to = a.to ∧ a.ve ≤ b.ve
theorem Like.refl (a : Th) : Like a a := ⟨rfl, rfl, rfl, Int.le_refl _⟩
theorem Like.trans {a b c : Th} (h : Like a b) (k : Like b c) : Like a c := ⟨k.1.trans h.1, k.2.1.trans h.2.1, k.2.2.1.trans h.2.2.1, Int.le_trans h.2.2.2 k.2.2.2⟩
theorem TabG.nil {lo : Nat} {w : World} {a : Option Addr} : TabG lo w a [] := ⟨fun k x h => by simp at h, fun m hm => by cases hm⟩
end
end Go.Dw
end
section
namespace Go.Proofs.YtfoplmgoiblkgaaDoor
open Go.RowKit Go.Dw
set_option maxRecDepth 100000
set_option maxHeartbeats 4000000
set_option linter.unusedSimpArgs false
set_option linter.unusedVariables false
theorem S2 : goFn Tryd.prog 20 = true := by kernel_rfl
theorem M7 : goFn Tryd.prog 24 = true := by kernel_rfl
theorem Mq : goFn Tryd.prog 29 = true := by kernel_rfl
theorem M6 : goFn Tryd.prog 30 = true := by kernel_rfl
theorem T1 : goFn Tryd.prog 31 = true := by kernel_rfl
theorem Qp (q : Cl) (w : World) (ms : List MTh) (a : Option Addr) (c : Nat) (ht : TabAt w a ms) (hlen : TabLen ms) (hn : ms.length ≤ 1048576) : CallsR Tryd.prog 10 #[.slice a ms.length c, .agg #[.int .i64 q.kind, .int .i64 q.run, .int .i64 q.a, .int .i64 q.b, .int .i64 q.n]] w (fun v w' => v = .int .i64 (chkAll (tabT ms) q) ∧ w.grownBy w' none) := by
 refine X0 (n := 23) Tryd.func10 rfl Tryd.ntmps10 rfl ?_
 have hb0 := World.grownBy.refl w none
 refine Xb ?_
 refine Yu (v := .agg #[.int .i64 q.kind, .int .i64 q.run, .int .i64 q.a, .int .i64 q.b, .int .i64 q.n]) (cs := #[.int .i64 q.kind, .int .i64 q.run, .int .i64 q.a, .int .i64 q.b, .int .i64 q.n]) rfl rfl rfl ?_
 intro B101 w102 hN103
 have hlB101 := Yf hN103 hb0
 have hb104 := low0 hb0 hN103.grw
 refine Xh (v := .int .i64 0) rfl rfl ?_
 refine Xa ?_
 refine Xt ?_
 refine X2 (fun f' w' => (f' 0 = .slice a ms.length c ∧ f' 3 = .pointer (some ⟨B101, 0, none⟩) ∧ f' 4 = .int .i64 0 ∧ f' 19 = .bool (((!tableOk (tabT ms)) || (!callOk q)) || (!kindAt (tabT ms) q.run 3))) ∧ w102.grownBy w' none) ?_ ?_
 ·
  refine Xc (v := .slice a ms.length c) rfl rfl ?_
  refine Xn (vs := [.slice a ms.length c]) Pn (Xg rfl Xm) rfl (Vg  _ ms _ _ (TabAt.low ht hb104) hlen (by omega)) ?_
  rintro _ w119 ⟨rfl, hg120⟩
  have hb121 := low0 hb104 hg120
  refine Yk (b' := !tableOk (tabT ms)) rfl rfl rfl ?_
  refine Xc (v := .bool (!tableOk (tabT ms))) rfl rfl ?_
  rcases Yb (!tableOk (tabT ms)) with h122 | h122
  ·
   have h123 := Zn h122
   iterate 3 refine Xk rfl rfl rfl h122 rfl ?_
   refine Xr (v := .bool true) rfl h122 rfl rfl ?_
   refine Xc (v := .bool true) rfl rfl ?_
   iterate 5 refine Xk rfl rfl rfl rfl rfl ?_
   refine Xr (v := .bool true) rfl rfl rfl rfl ?_
   exact Xa ⟨⟨rfl, rfl, rfl, (congrArg Value.bool (by first | (simp only [h122, h123, b0, b1, b2, b3, b4, b5, b6, b7, b8, b9]; done) | simp [h122, h123]))⟩, hg120⟩
  ·
   have h124 := Zh h122
   refine Xe rfl rfl rfl h122 ?_
   have k125 := (hN103.blk.grown0 hg120)
   refine Xu (vs := [.int .i64 q.kind, .int .i64 q.run, .int .i64 q.a, .int .i64 q.b, .int .i64 q.n]) Yv rfl rfl (k125.rangeL 0 5 rfl) rfl ?_
   refine Xe rfl rfl rfl h122 ?_
   refine Xn (vs := [.agg #[.int .i64 q.kind, .int .i64 q.run, .int .i64 q.a, .int .i64 q.b, .int .i64 q.n]]) S2 (Xg rfl Xm) rfl (Wj q _) ?_
   rintro _ w126 ⟨rfl, hg127⟩
   have hb128 := low0 hb121 hg127
   refine Xe rfl rfl rfl h122 ?_
   refine Yk (b' := !callOk q) rfl rfl rfl ?_
   refine Xl (v := .bool (!callOk q)) rfl h122 rfl rfl ?_
   refine Xc (v := .bool (!callOk q)) rfl rfl ?_
   rcases Yb (!callOk q) with h129 | h129
   ·
    have h130 := Zn h129
    iterate 5 refine Xk rfl rfl rfl h129 rfl ?_
    refine Xr (v := .bool true) rfl h129 rfl rfl ?_
    exact Xa ⟨⟨rfl, rfl, rfl, (congrArg Value.bool (by first | (simp only [h122, h124, h129, h130, b0, b1, b2, b3, b4, b5, b6, b7, b8, b9]; done) | simp [h122, h124, h129, h130]))⟩, (grown_trans hg120 hg127)⟩
   ·
    have h131 := Zh h129
    have hco132 := Z2 h131
    refine Xe rfl rfl rfl h129 ?_
    refine Xc (v := .slice a ms.length c) rfl rfl ?_
    refine Xe rfl rfl rfl h129 ?_
    refine Xd (o' := 1) Zk rfl rfl rfl ?_
    refine Xe rfl rfl rfl h129 ?_
    have k133 := (k125.grown0 hg127)
    refine Xi (v := .int .i64 q.run) X3 rfl (k133.cell rfl) rfl ?_
    refine Xe rfl rfl rfl h129 ?_
    refine Xn (vs := [.slice a ms.length c, .int .i64 q.run]) Te (Xg rfl (Xg rfl Xm)) rfl (G6 q.run (by omega) _ ms _ _ (TabAt.low ht hb128) hlen (by omega)) ?_
    rintro _ w134 ⟨rfl, hg135⟩
    have hb136 := low0 hb128 hg135
    refine Xe rfl rfl rfl h129 ?_
    refine Yk (b' := !kindAt (tabT ms) q.run 3) rfl rfl rfl ?_
    refine Xl (v := .bool (!kindAt (tabT ms) q.run 3)) rfl h129 rfl rfl ?_
    exact Xa ⟨⟨rfl, rfl, rfl, (congrArg Value.bool (by first | (simp only [h122, h124, h129, h131, b0, b1, b2, b3, b4, b5, b6, b7, b8, b9]; done) | simp [h122, h124, h129, h131]))⟩, (grown_trans (grown_trans hg120 hg127) hg135)⟩
 ·
  rintro f137 w138 ⟨⟨e139, e140, e141, e142⟩, hg143⟩
  have hb144 := low0 hb104 hg143
  refine Xw e142 (fun h145 => ?_) (fun h145 => ?_)
  ·
   refine Xb ?_
   refine Xh (v := .int .i64 (-1)) rfl rfl ?_
   refine Xa ?_
   refine Xs ?_
   refine Yi ?_
   refine ⟨.int .i64 (-1), Yq rfl rfl, ?_, hb144⟩
   exact congrArg (Value.int .i64) (Wf (Hf h145)).symm
  ·
   have h146 := Qx h145
   have h147 := Qx h146
   have h148 := Zh h147
   have h149 := Qy h146
   have h150 := Zh h149
   have hco151 := Z2 h150
   have h152 := Qy h145
   have h153 := Zh h152
   refine Xy ?_
   refine Xv ?_
   refine Xb ?_
   refine Xc (v := .slice a ms.length c) e139 rfl ?_
   have k154 := (hN103.blk.grown0 hg143)
   refine Xu (vs := [.int .i64 q.kind, .int .i64 q.run, .int .i64 q.a, .int .i64 q.b, .int .i64 q.n]) Yv e140 rfl (k154.rangeL 0 5 rfl) rfl ?_
   refine Xn (vs := [.slice a ms.length c, .agg #[.int .i64 q.kind, .int .i64 q.run, .int .i64 q.a, .int .i64 q.b, .int .i64 q.n]]) M7 (Xg rfl (Xg rfl Xm)) rfl (Hp q _ ms _ _ (TabAt.low ht hb144) hlen (by omega) h148 h150 h153) ?_
   rintro _ w155 ⟨rfl, hg156⟩
   have hb157 := low0 hb144 hg156
   refine Xh (v := .int .i64 (check1 (tabT ms) q)) rfl rfl ?_
   refine Xa ?_
   refine Xs ?_
   refine ⟨.int .i64 (check1 (tabT ms) q), Yq rfl rfl, ?_, hb157⟩
   exact congrArg (Value.int .i64) (Z3 (Gj h145)).symm
theorem Jt (bs : List Int) (a : Option Addr) (c : Nat) (w : World) (hs0 : SlAt w a 1 (bs.map bcell)) (hb : ∀ b ∈ bs, 0 ≤ b ∧ b ≤ 255) (hn : bs.length ≤ 1048576) (hc : bs.length ≤ c) : CallsR Tryd.prog 15 #[.slice a bs.length c] w (fun v w' => ∃ (B cap : Nat) (ms : List MTh) (q : Cl), v = .tuple #[.slice (some ⟨B, 0, none⟩) ms.length cap, .agg #[.int .i64 q.kind, .int .i64 q.run, .int .i64 q.a, .int .i64 q.b, .int .i64 q.n]] ∧ TabG w.heap.size w' (some ⟨B, 0, none⟩) ms ∧ Small ms ∧ (3 ≤ ms.length ∧ ms.length ≤ 8) ∧ ((0 ≤ q.kind ∧ q.kind ≤ 10) ∧ (1 ≤ q.run ∧ q.run ≤ (ms.length : Int)) ∧ (-1 ≤ q.a ∧ q.a ≤ 4) ∧ (0 ≤ q.b ∧ q.b ≤ 3) ∧ -1 ≤ q.n ∧ q.n ≤ 100) ∧ w.grownBy w' none) := by
 refine X0 (n := 14) Tryd.func15 rfl Tryd.ntmps15 rfl ?_
 have hb0 := World.grownBy.refl w none
 have hs := SlAt.lt Vc (by omega) hs0
 refine Xb ?_
 refine Xh (v := .slice none 0 0) rfl rfl ?_
 refine Yj (cs := #[.int .i64 0, .int .i64 0, .int .i64 0, .int .i64 0, .int .i64 0]) Vw rfl rfl ?_
 intro B101 w102 hN103
 have hlB101 := Yf hN103 hb0
 have hb104 := low0 hb0 hN103.grw
 refine Xa ?_
 refine Xb ?_
 refine Xc (v := .slice a bs.length c) rfl rfl ?_
 refine Xn (vs := [.slice a bs.length c]) Mq (Xg rfl Xm) rfl (Py bs a c _ (by omega) (by omega)) ?_
 rintro _ w109 ⟨R105, rfl, hge106, kR107, hg108⟩
 have hb110 := low0 hb104 hg108
 have hlR105 := Nat.le_trans hb104.size hge106
 have lt_B101_R105 := Nat.lt_of_lt_of_le (hN103.blk).lt hge106
 refine Xh (v := .pointer (some ⟨R105, 0, none⟩)) rfl rfl ?_
 refine Xa ?_
 refine Xb ?_
 refine Xc (v := .pointer (some ⟨R105, 0, none⟩)) rfl rfl ?_
 have k112 := (hN103.blk.grown0 hg108)
 have hlt111 := (k112).lt
 have hlt113 := (kR107).lt
 refine Xn (vs := [.pointer (some ⟨R105, 0, none⟩)]) M6 (Xg rfl Xm) rfl (N4 0 (by omega) _ R105 (bs.take 2000) _ _ _ kR107 (by omega) (SlLt.low0 (SlLt.take hs 2000) hb110) (by first | exact hb | exact fun b h => hb b (List.mem_of_mem_take h)) (by first | omega | (rw [List.length_take]; omega))) ?_
 rintro _ w125 ⟨B114, cap115, ms116, p117, rfl, hTG118, hTS119, hTn120, hp121, hp122, kR123, hg124⟩
 have hb126 := low1 hb110 hg124 (by omega)
 have hTl127 := hTS119.len
 refine Xh (v := .slice (some ⟨B114, 0, none⟩) ms116.length cap115) rfl rfl ?_
 refine Xa ?_
 refine Xb ?_
 refine Xc (v := .slice (some ⟨B114, 0, none⟩) ms116.length cap115) rfl rfl ?_
 refine Xc (v := .pointer (some ⟨R105, 0, none⟩)) rfl rfl ?_
 refine Xc (v := .slice (some ⟨B114, 0, none⟩) ms116.length cap115) rfl rfl ?_
 refine Xn (vs := [.pointer (some ⟨R105, 0, none⟩), .slice (some ⟨B114, 0, none⟩) ms116.length cap115]) T1 (Xg rfl (Xg rfl Xm)) rfl (Nl p117 (by omega) _ R105 (bs.take 2000) _ _ _ kR123 (by omega) (SlLt.low0 (SlLt.take hs 2000) hb126) (by first | exact hb | exact fun b h => hb b (List.mem_of_mem_take h)) (by first | omega | (rw [List.length_take]; omega)) ms116 _ _ _ hTG118 (by omega) hTl127 (by omega)) ?_
 rintro _ w134 ⟨q128, p129, rfl, hq135, hp130, hp131, kR132, hg133⟩
 have hb136 := low1 hb126 hg133 (by omega)
 refine Xh (v := .slice (some ⟨B114, 0, none⟩) ms116.length cap115) rfl rfl ?_
 have k137 := ((k112.grown hg124 (Xf (by omega))).grown hg133 (Xf (by omega)))
 refine Xz (vs := [.int .i64 q128.kind, .int .i64 q128.run, .int .i64 q128.a, .int .i64 q128.b, .int .i64 q128.n]) (cs' := #[.int .i64 q128.kind, .int .i64 q128.run, .int .i64 q128.a, .int .i64 q128.b, .int .i64 q128.n]) Yv rfl rfl rfl (by simp [Value.oneCell']) k137 (Nat.le_of_ble_eq_true rfl) rfl ?_
 intro w138 hS139
 have hb140 := low1 hb136 hS139.grw (by omega)
 refine Xa ?_
 refine Xs ?_
 have hTG141 := (TabG.lt (TabG.lt hTG118 hg133 (by omega)) hS139.grw (by omega))
 refine ⟨.tuple #[.slice (some ⟨B114, 0, none⟩) ms116.length cap115, .agg #[.int .i64 q128.kind, .int .i64 q128.run, .int .i64 q128.a, .int .i64 q128.b, .int .i64 q128.n]], Ms rfl rfl (Yh (vs := [.int .i64 q128.kind, .int .i64 q128.run, .int .i64 q128.a, .int .i64 q128.b, .int .i64 q128.n]) Yv rfl rfl (hS139.blk.rangeL 0 5 rfl)), B114, cap115, ms116, q128, rfl, (TabG.mono hTG141 hb110.size), hTS119, hTn120, by omega, hb140⟩
end Go.Proofs.YtfoplmgoiblkgaaDoor
end
section
namespace Go.Proofs.YtfoplmgoiblkgaaDoor
open Go.RowKit Go.Extern.Stop Go.Stop Go.Extern
theorem Ts (t : Value) (w : World) :
    Calls Tryd.prog 26 #[.nilIface, t] w fun e w' => e = .returned (.bool false) ∧ w' = w := by
  go_enter Tryd.func26, Tryd.ntmps26
  go_wp2
  go_ret
  exact ⟨rfl, rfl⟩
theorem W3 (t : Addr) (w : World) : (ReflectliteValue.unpack (.iface 63 (.pointer (some t)))).run Tryd.prog w
    = .ok (.agg #[.pointer (some ⟨1, 63, none⟩), .pointer (some ⟨w.heap.size, 0, none⟩), .int .u64 150]) (w.alloc (.cells #[.pointer (some t)] 63)) := by kernel_rfl
theorem Np (a : Addr) (w : World) : (ReflectliteValue.methodAny (ReflectliteValue.valueError "reflectlite.Value.Type" 0) (fun t _ _ _ => ReflectliteType.toType t) #[.agg #[.pointer (some ⟨1, 63, none⟩), .pointer (some a), .int .u64 150]]).run Tryd.prog w
    = .ok (.iface 122 (.agg #[.pointer (some ⟨1, 63, none⟩)])) w := by kernel_rfl
theorem U9 (h : Value) (w : World) : (Go.method 280 122 (.agg #[h]) "Kind").run Tryd.prog w = .ok (107, h) w := by kernel_rfl
theorem Na (w : World) : ((ReflectliteType.abiMethod fun t => (fun a : Nat => Value.int IntKind.u8 (a : Int)) <$> Rtype.kind t) #[.pointer (some ⟨1, 63, none⟩)]).run Tryd.prog w = .ok (.int .u8 22) w := by kernel_rfl
theorem Ra (w : World) : ((ReflectliteType.abiMethod fun t => (fun a : Nat => Value.int IntKind.u8 (a : Int)) <$> Rtype.kind t) #[.pointer (some ⟨1, 58, none⟩)]).run Tryd.prog w = .ok (.int .u8 22) w := by kernel_rfl
theorem rlm (z : Sem Value) (f : TypeId → Addr → Nat → Nat → Sem Value) (v : Value) :
    ReflectliteValue.method z f #[v] = (do match ← ReflectliteValue.parts v with | none => z | some (t, a, fl) => f t a fl (fl % 32)) := rfl
theorem Uh (a : Addr) (w : World) : (ReflectliteValue.parts (.agg #[.pointer (some ⟨1, 63, none⟩), .pointer (some a), .int .u64 150])).run Tryd.prog w = .ok (some (63, a, 150)) w := by kernel_rfl
theorem Hr (a p : Addr) (W : World) (ha : W.cell? a = some (.pointer (some p))) :
    (ReflectliteValue.method (ReflectliteValue.valueError "reflectlite.Value.IsNil" 0) ReflectliteValue.isNil #[.agg #[.pointer (some ⟨1, 63, none⟩), .pointer (some a), .int .u64 150]]).run Tryd.prog W = .ok (.bool false) W := by
  rw [rlm]
  simp only [Sem.run_bind, Uh, Result.andThen]
  simp [ReflectliteValue.isNil, loadVar, isAgg, underlying, Tryd.underlying63, ha, Result.andThen]
theorem Wa (h : Value) (w : World) : (Go.method 280 122 (.agg #[h]) "Elem").run Tryd.prog w = .ok (121, .agg #[h]) w := by kernel_rfl
theorem K8 (h : Value) (w : World) : (Go.method 280 122 (.agg #[h]) "Implements").run Tryd.prog w = .ok (122, .agg #[h]) w := by kernel_rfl
theorem Ks (h : Value) (w : World) : (Go.method 280 122 (.agg #[h]) "AssignableTo").run Tryd.prog w = .ok (119, .agg #[h]) w := by kernel_rfl
theorem L0 (w : World) : (ReflectliteType.method ReflectliteType.elem #[.agg #[.pointer (some ⟨1, 63, none⟩)]]).run Tryd.prog w = .ok (.iface 122 (.agg #[.pointer (some ⟨1, 58, none⟩)])) w := by kernel_rfl
theorem Uq (w : World) : (ReflectliteType.relation "Implements" ReflectliteType.implements_ #[.agg #[.pointer (some ⟨1, 58, none⟩)], .iface 122 (.agg #[.pointer (some ⟨1, 61, none⟩)])]).run Tryd.prog w = .ok (.bool true) w := by kernel_rfl
theorem H2 (v : Value) (w : World) : (ReflectliteType.typeOf #[.iface 58 v]).run Tryd.prog w = .ok (.iface 122 (.agg #[.pointer (some ⟨1, 58, none⟩)])) w := by kernel_rfl
theorem Ud (w : World) : (ReflectliteType.relation "AssignableTo" ReflectliteType.assignableTo #[.agg #[.pointer (some ⟨1, 58, none⟩)], .iface 122 (.agg #[.pointer (some ⟨1, 58, none⟩)])]).run Tryd.prog w = .ok (.bool true) w := by kernel_rfl
theorem G4 (e : Addr) (w : World) : (ReflectliteValue.unpack (.iface 58 (.pointer (some e)))).run Tryd.prog w
    = .ok (.agg #[.pointer (some ⟨1, 58, none⟩), .pointer (some ⟨w.heap.size, 0, none⟩), .int .u64 150]) (w.alloc (.cells #[.pointer (some e)] 58)) := by kernel_rfl
theorem Gm (w : World) : (Rtype.elem? 63).run Tryd.prog w = .ok (some 58) w := by kernel_rfl
theorem Tw (p : Addr) (w : World) : (ReflectliteValue.mk 58 p ReflectliteValue.flagAddr).run Tryd.prog w = .ok (.agg #[.pointer (some ⟨1, 58, none⟩), .pointer (some p), .int .u64 406]) w := by kernel_rfl
theorem Hy (a p : Addr) (W : World) (ha : W.cell? a = some (.pointer (some p))) :
    (ReflectliteValue.method (ReflectliteValue.valueError "reflectlite.Value.Elem" 0) ReflectliteValue.elem #[.agg #[.pointer (some ⟨1, 63, none⟩), .pointer (some a), .int .u64 150]]).run Tryd.prog W
      = .ok (.agg #[.pointer (some ⟨1, 58, none⟩), .pointer (some p), .int .u64 406]) W := by
  rw [rlm]
  simp only [Sem.run_bind, Uh, Result.andThen]
  simp [ReflectliteValue.elem, loadVar, isAgg, underlying, Tryd.underlying63, ha, Result.andThen, Gm, Tw]
theorem rls (v x : Value) : ReflectliteValue.set #[v, x] = (do
    let (some (dst, a, fl), some (src, b, _)) := (← ReflectliteValue.parts v, ← ReflectliteValue.parts x)
      | unsupported (.noEntry "extern/(internal/reflectlite.Value).Set.zeroValue")
    if fl / ReflectliteValue.flagAddr % 2 == 0 then unsupported (.noEntry "extern/(internal/reflectlite.Value).Set.unaddressable")
    let val ← loadVar src b
    if ← Rtype.directlyAssignable dst src then storeVar dst a val
    else if ← Rtype.implements dst src then
      if (← Rtype.kind src) == 20 then
        match val with
        | .nilIface => unsupported (.noEntry "extern/reflectlite: a nil value of one interface type handed on as a value of another")
        | _ => storeVar dst a val
      else storeVar dst a (.iface src val)
    else panicString ("reflectlite.Set: value of type " ++ (← Rtype.spelt src) ++ " is not assignable to type " ++ (← Rtype.spelt dst))
    pure (.tuple #[])) := rfl
theorem H9 (a : Addr) (w : World) : (ReflectliteValue.parts (.agg #[.pointer (some ⟨1, 58, none⟩), .pointer (some a), .int .u64 406])).run Tryd.prog w = .ok (some (58, a, 406)) w := by kernel_rfl
theorem Nk (a : Addr) (w : World) : (ReflectliteValue.parts (.agg #[.pointer (some ⟨1, 58, none⟩), .pointer (some a), .int .u64 150])).run Tryd.prog w = .ok (some (58, a, 150)) w := by kernel_rfl
theorem Hz (w : World) : (Rtype.directlyAssignable 58 58).run Tryd.prog w = .ok true w := by kernel_rfl
theorem Su (ta b e : Addr) (old : Value) (W : World) (hb : W.cell? b = some (.pointer (some e))) (ht : W.cell? ta = some old) (hf : W.frozen? ta = false) :
    (ReflectliteValue.set #[.agg #[.pointer (some ⟨1, 58, none⟩), .pointer (some ta), .int .u64 406], .agg #[.pointer (some ⟨1, 58, none⟩), .pointer (some b), .int .u64 150]]).run Tryd.prog W
      = .ok (.tuple #[]) (W.setCell ta (.pointer (some e))) := by
  rw [rls]
  simp only [Sem.run_bind, H9, Nk, Result.andThen]
  simp [ReflectliteValue.flagAddr, loadVar, isAgg, underlying, Tryd.underlying58, hb, Result.andThen, Hz, storeVar, Value.cells, storeCells, Addr.add]
  rw [run_store Tryd.prog W ta _ _ (by rfl)]
  simp [ht, hf]
set_option maxHeartbeats 4000000 in
theorem Tm (e t : Addr) (old : Value) (w : World) (hg : w.cell? ⟨0, 0, none⟩ = some (.iface 122 (.agg #[.pointer (some ⟨1, 61, none⟩)]))) (ht0 : w.cell? t = some old) (hf0 : w.frozen? t = false) :
    Calls Tryd.prog 26 #[.iface 58 (.pointer (some e)), .iface 63 (.pointer (some t))] w fun ev w' => ev = .returned (.bool true) ∧ w' = ((((w.alloc (.cells #[.pointer (some t)] 63)).alloc (.cells #[.pointer (some ⟨1, 63, none⟩), .pointer (some ⟨w.heap.size, 0, none⟩), .int .u64 150] 89)).alloc (.cells #[.pointer (some ⟨1, 63, none⟩), .pointer (some ⟨w.heap.size, 0, none⟩), .int .u64 150] 89)).alloc (.cells #[.pointer (some e)] 58)).setCell t (.pointer (some e)) := by
  have h6 := @run_callFunc_extern Tryd.prog 52 _ (fun args => ReflectliteValue.unpack (args.getD 0 (.tuple #[]))) Tryd.func52 (by kernel_rfl) (by kernel_rfl) (by kernel_rfl) (by kernel_rfl)
  have h7 := @run_callFunc_extern Tryd.prog 53 _ (ReflectliteValue.methodAny (ReflectliteValue.valueError "reflectlite.Value.Type" 0) (fun t _ _ _ => ReflectliteType.toType t)) Tryd.func53 (by kernel_rfl) (by kernel_rfl) (by kernel_rfl) (by kernel_rfl)
  have h8 := @run_callFunc_extern Tryd.prog 54 _ (ReflectliteValue.method (ReflectliteValue.valueError "reflectlite.Value.IsNil" 0) ReflectliteValue.isNil) Tryd.func54 (by kernel_rfl) (by kernel_rfl) (by kernel_rfl) (by kernel_rfl)
  have h27 := @run_callFunc_extern Tryd.prog 107 _ (ReflectliteType.abiMethod fun t => do pure (.int .u8 (← Rtype.kind t))) Tryd.func107 (by kernel_rfl) (by kernel_rfl) (by kernel_rfl) (by kernel_rfl)
  have h37 := @run_callFunc_extern Tryd.prog 121 _ (ReflectliteType.method ReflectliteType.elem) Tryd.func121 (by kernel_rfl) (by kernel_rfl) (by kernel_rfl) (by kernel_rfl)
  have h38 := @run_callFunc_extern Tryd.prog 122 _ (ReflectliteType.relation "Implements" ReflectliteType.implements_) Tryd.func122 (by kernel_rfl) (by kernel_rfl) (by kernel_rfl) (by kernel_rfl)
  have h10 := @run_callFunc_extern Tryd.prog 74 _ ReflectliteType.typeOf Tryd.func74 (by kernel_rfl) (by kernel_rfl) (by kernel_rfl) (by kernel_rfl)
  have h35 := @run_callFunc_extern Tryd.prog 119 _ (ReflectliteType.relation "AssignableTo" ReflectliteType.assignableTo) Tryd.func119 (by kernel_rfl) (by kernel_rfl) (by kernel_rfl) (by kernel_rfl)
  have h11 := @run_callFunc_extern Tryd.prog 75 _ (ReflectliteValue.method (ReflectliteValue.valueError "reflectlite.Value.Elem" 0) ReflectliteValue.elem) Tryd.func75 (by kernel_rfl) (by kernel_rfl) (by kernel_rfl) (by kernel_rfl)
  have h12 := @run_callFunc_extern Tryd.prog 76 _ ReflectliteValue.set Tryd.func76 (by kernel_rfl) (by kernel_rfl) (by kernel_rfl) (by kernel_rfl)
  have tO := H2
  have mA := Ks
  have a25 := Ud
  have v25 := G4
  have f6 := W3
  have f7 := Np
  have mK := U9
  have mE := Wa
  have mI := K8
  have k27 := Na
  have k25 := Ra
  have e27 := L0
  have i25 := Uq
  have n8 := Hr ⟨w.heap.size, 0, none⟩ t ((w.alloc (.cells #[.pointer (some t)] 63)).alloc (.cells #[.pointer (some ⟨1, 63, none⟩), .pointer (some ⟨w.heap.size, 0, none⟩), .int .u64 150] 89)) (by simp)
  have hlt : 0 < w.heap.size := by
    rcases Nat.lt_or_ge 0 w.heap.size with h | h
    · exact h
    · simp [World.cell?, Array.getElem?_eq_none h] at hg
  have hg2 : ((w.alloc (.cells #[.pointer (some t)] 63)).alloc (.cells #[.pointer (some ⟨1, 63, none⟩), .pointer (some ⟨w.heap.size, 0, none⟩), .int .u64 150] 89)).cell? ⟨0, 0, none⟩ = some (.iface 122 (.agg #[.pointer (some ⟨1, 61, none⟩)])) := by
    rw [World.cell?_alloc_lt _ _ ⟨0, 0, none⟩ (by simp), World.cell?_alloc_lt _ _ ⟨0, 0, none⟩ hlt]; exact hg
  have htl : t.block < w.heap.size := by
    rcases Nat.lt_or_ge t.block w.heap.size with h | h
    · exact h
    · simp [World.cell?, Array.getElem?_eq_none h] at ht0
  have el := Hy ⟨w.heap.size, 0, none⟩ t (((w.alloc (.cells #[.pointer (some t)] 63)).alloc (.cells #[.pointer (some ⟨1, 63, none⟩), .pointer (some ⟨w.heap.size, 0, none⟩), .int .u64 150] 89)).alloc (.cells #[.pointer (some ⟨1, 63, none⟩), .pointer (some ⟨w.heap.size, 0, none⟩), .int .u64 150] 89)) (by rw [World.cell?_alloc_lt _ _ ⟨w.heap.size, 0, none⟩ (by simp; omega)]; simp)
  have st := Su t ⟨w.heap.size + 1 + 1 + 1, 0, none⟩ e old ((((w.alloc (.cells #[.pointer (some t)] 63)).alloc (.cells #[.pointer (some ⟨1, 63, none⟩), .pointer (some ⟨w.heap.size, 0, none⟩), .int .u64 150] 89)).alloc (.cells #[.pointer (some ⟨1, 63, none⟩), .pointer (some ⟨w.heap.size, 0, none⟩), .int .u64 150] 89)).alloc (.cells #[.pointer (some e)] 58))
    (by rw [World.cell?_alloc_at _ _ _ _ (by simp)]; rfl)
    (by rw [World.cell?_alloc_lt _ _ t (by simp; omega), World.cell?_alloc_lt _ _ t (by simp; omega), World.cell?_alloc_lt _ _ t (by simp; omega), World.cell?_alloc_lt _ _ t htl]; exact ht0)
    (by rw [World.frozen?_alloc_old _ _ t (by simp; omega), World.frozen?_alloc_old _ _ t (by simp; omega), World.frozen?_alloc_old _ _ t (by simp; omega), World.frozen?_alloc_old _ _ t (Nat.ne_of_lt htl)]; exact hf0)
  go_enter Tryd.func26, Tryd.ntmps26
  go_wp2
  refine wp_loop_rounds 1 ?_
  rw [rounds_succ]
  go_wp2
  go_ret
  exact ⟨rfl, rfl⟩
def ErrT (w : World) : Prop := w.cell? ⟨0, 0, none⟩ = some (.iface 122 (.agg #[.pointer (some ⟨1, 61, none⟩)]))
theorem ErrT.lt {w : World} (h : ErrT w) : 0 < w.heap.size := by
  rcases Nat.lt_or_ge 0 w.heap.size with h1 | h1
  · exact h1
  · simp [ErrT, World.cell?, Array.getElem?_eq_none h1] at h
theorem ErrT.grown0 {w w' : World} (h : ErrT w) (hg : w.grownBy w' none) : ErrT w' := by
  have h1 := hg.block 0 h.lt (by simp)
  unfold ErrT World.cell? at h ⊢
  rw [h1]; exact h
theorem Po (t : Value) (w : World) : Dw.CallsR Tryd.prog 26 #[.nilIface, t] w fun v w' => v = .bool false ∧ w' = w :=
  Calls.mono (Ts t w) fun _ _ ⟨h1, h2⟩ => ⟨_, h1, rfl, h2⟩
theorem Pa (e T : Nat) (old : Value) (w : World) (hg : ErrT w) (hT : Dw.Blk w T 58 #[old]) : Dw.CallsR Tryd.prog 26 #[.iface 58 (.pointer (some ⟨e, 0, none⟩)), .iface 63 (.pointer (some ⟨T, 0, none⟩))] w fun v w' => v = .bool true ∧ Dw.Blk w' T 58 #[.pointer (some ⟨e, 0, none⟩)] ∧ w.grownBy w' (some T) := by
  refine Calls.mono (Tm ⟨e, 0, none⟩ ⟨T, 0, none⟩ old w hg (hT.cell rfl) (hT.froz 0)) ?_
  rintro _ _ ⟨rfl, rfl⟩
  have g4 := Dw.grown_trans (Dw.grown_trans (Dw.grown_trans (World.grownBy_alloc w (.cells #[.pointer (some ⟨T, 0, none⟩)] 63) none) (World.grownBy_alloc _ (.cells #[.pointer (some ⟨1, 63, none⟩), .pointer (some ⟨w.heap.size, 0, none⟩), .int .u64 150] 89) none)) (World.grownBy_alloc _ (.cells #[.pointer (some ⟨1, 63, none⟩), .pointer (some ⟨w.heap.size, 0, none⟩), .int .u64 150] 89) none)) (World.grownBy_alloc _ (.cells #[.pointer (some ⟨e, 0, none⟩)] 58) none)
  have hb := hT.grown0 g4
  have s := Dw.setB_setRow hb #[.pointer (some ⟨e, 0, none⟩)]
  refine ⟨_, rfl, rfl, ?_⟩
  rw [setCell_eq_setRow _ T 0 #[old] 58 (0, 0) _ hb]
  exact ⟨s.blk, Dw.grown_trans ⟨g4.os, g4.tape, g4.output, g4.size, fun i hi _ => g4.block i hi (by simp)⟩ s.grw⟩
end Go.Proofs.YtfoplmgoiblkgaaDoor
end
section
namespace Go.Proofs.YtfoplmgoiblkgaaDoor
open Go.RowKit Go.Dw
set_option maxRecDepth 100000
set_option maxHeartbeats 4000000
set_option linter.unusedSimpArgs false
set_option linter.unusedVariables false
theorem K0 : elemSz Tryd.prog 135 = some 6 := by kernel_rfl
theorem Jl : fieldOff Tryd.prog 101 0 = some 0 := by kernel_rfl
theorem Px : fieldOff Tryd.prog 101 1 = some 1 := by kernel_rfl
theorem Rj : fieldOff Tryd.prog 101 2 = some 2 := by kernel_rfl
theorem He : fieldOff Tryd.prog 101 3 = some 3 := by kernel_rfl
theorem N7 : fieldOff Tryd.prog 101 4 = some 4 := by kernel_rfl
theorem Hc : fieldOff Tryd.prog 101 5 = some 5 := by kernel_rfl
theorem Rr : fieldOff Tryd.prog 65 0 = some 0 := by kernel_rfl
theorem Sw : goFn Tryd.prog 26 = true := by kernel_rfl
theorem S6 : goFn Tryd.prog 27 = true := by kernel_rfl
theorem Sz : goFn Tryd.prog 35 = true := by kernel_rfl
theorem Ri : goFn Tryd.prog 36 = true := by kernel_rfl
theorem Tc : goFn Tryd.prog 38 = true := by kernel_rfl
theorem T4 : goFn Tryd.prog 56 = true := by kernel_rfl
theorem Mf : goFn Tryd.prog 57 = true := by kernel_rfl
theorem Mx : goFn Tryd.prog 58 = true := by kernel_rfl
theorem Sy : goFn Tryd.prog 68 = true := by kernel_rfl
theorem Ba : oneTy Tryd.prog 58 = true := by kernel_rfl
theorem Zg : rowTy Tryd.prog 101 = some 6 := by kernel_rfl
theorem Kd : zeroTy Tryd.prog 101 = some (.agg #[.int .i64 0, .slice none 0 0, .bool false, .bool false, .bool false, .bool false]) := by kernel_rfl
theorem S5 : zeroTy Tryd.prog 58 = some (.pointer none) := by kernel_rfl
theorem Vz (run thing : Int) (w : World) (ms : List MTh) (a : Option Addr) (c : Nat) (ht : TabAt w a ms) (hlen : TabLen ms) (hn : ms.length ≤ 1048576) (hT : tableOk (tabT ms) = true) (hr : 1 ≤ run ∧ run ≤ (ms.length : Int)) (hth : 1 ≤ thing ∧ thing ≤ (ms.length : Int)) : CallsR Tryd.prog 35 #[.slice a ms.length c, .int .i64 run, .int .i64 thing] w (fun v w' => v = .bool (sees (tabT ms) run thing) ∧ w.grownBy w' none) := by
 refine X0 (n := 20) Tryd.func35 rfl Tryd.ntmps35 rfl ?_
 have hb0 := World.grownBy.refl w none
 refine Xb ?_
 refine Xh (v := .bool false) rfl rfl ?_
 refine Xa ?_
 refine Xt ?_
 obtain ⟨b145, q146, o147, ha148, ho149, hr150⟩ := SlAt.at (TabAt.low ht hb0).1 (Yn (Ya (show (thing - 1).toNat < ms.length by omega)))
 have hle151 := TabLen.at hlen (Ya (show (thing - 1).toNat < ms.length by omega))
 obtain ⟨b154, q155, o156, ha157, ho158, hr159⟩ := SlAt.at (TabAt.low ht hb0).1 (Yn (Ya (show (run - 1).toNat < ms.length by omega)))
 have hle160 := TabLen.at hlen (Ya (show (run - 1).toNat < ms.length by omega))
 refine Ze (m := 12) (vals := [(7, .slice a ms.length c), (8, .int .i64 thing), (9, .int .i64 (thing - 1)), (10, .pointer (some ⟨b145, o147, none⟩)), (11, .pointer (some ⟨b145, o147 + 1, none⟩)), (12, .agg #[.int .i64 ((mAt ms ((thing - 1).toNat)).t.lab.s), .int .i64 ((mAt ms ((thing - 1).toNat)).t.lab.v)]), (13, .slice a ms.length c), (14, .int .i64 run), (15, .int .i64 (run - 1)), (16, .pointer (some ⟨b154, o156, none⟩)), (17, .pointer (some ⟨b154, o156 + 1, none⟩)), (18, .agg #[.int .i64 ((mAt ms ((run - 1).toNat)).t.lab.s), .int .i64 ((mAt ms ((run - 1).toNat)).t.lab.v)])]) (fun w' => w.grownBy w' none) Zi (by kernel_rfl) (Yl _) ?_ ?_
 ·
  refine Xj rfl (fun w164 hi165 => ?_) ?_
  ·
   have hb166 := low0 hb0 hi165
   refine Xc (v := .slice a ms.length c) rfl rfl ?_
   exact Xa ⟨rfl, hi165⟩
  refine Xj rfl (fun w167 hi168 => ?_) ?_
  ·
   have hb169 := low0 hb0 hi168
   refine Xc (v := .int .i64 thing) rfl rfl ?_
   exact Xa ⟨rfl, hi168⟩
  refine Xj rfl (fun w170 hi171 => ?_) ?_
  ·
   have hb172 := low0 hb0 hi171
   refine Y3 (c := thing - 1) rfl rfl (by omega) (by omega) (by omega) rfl ?_
   exact Xa ⟨rfl, hi171⟩
  refine Xj rfl (fun w173 hi174 => ?_) ?_
  ·
   have hb175 := low0 hb0 hi174
   refine Yd Zl rfl rfl ha148 ho149 (by omega) (by omega) rfl ?_
   exact Xa ⟨rfl, hi174⟩
  refine Xj rfl (fun w176 hi177 => ?_) ?_
  ·
   have hb178 := low0 hb0 hi177
   refine Xd (o' := o147 + 1) Q3 rfl rfl rfl ?_
   exact Xa ⟨rfl, hi177⟩
  refine Xj rfl (fun w179 hi180 => ?_) ?_
  ·
   have hb181 := low0 hb0 hi180
   refine Xu (vs := [.int .i64 ((mAt ms ((thing - 1).toNat)).t.lab.s), .int .i64 ((mAt ms ((thing - 1).toNat)).t.lab.v)]) Qd rfl rfl (Za (Yo hr150 hi180) 1 2 rfl) rfl ?_
   exact Xa ⟨rfl, hi180⟩
  refine Xj rfl (fun w182 hi183 => ?_) ?_
  ·
   have hb184 := low0 hb0 hi183
   refine Xc (v := .slice a ms.length c) rfl rfl ?_
   exact Xa ⟨rfl, hi183⟩
  refine Xj rfl (fun w185 hi186 => ?_) ?_
  ·
   have hb187 := low0 hb0 hi186
   refine Xc (v := .int .i64 run) rfl rfl ?_
   exact Xa ⟨rfl, hi186⟩
  refine Xj rfl (fun w188 hi189 => ?_) ?_
  ·
   have hb190 := low0 hb0 hi189
   refine Y3 (c := run - 1) rfl rfl (by omega) (by omega) (by omega) rfl ?_
   exact Xa ⟨rfl, hi189⟩
  refine Xj rfl (fun w191 hi192 => ?_) ?_
  ·
   have hb193 := low0 hb0 hi192
   refine Yd Zl rfl rfl ha157 ho158 (by omega) (by omega) rfl ?_
   exact Xa ⟨rfl, hi192⟩
  refine Xj rfl (fun w194 hi195 => ?_) ?_
  ·
   have hb196 := low0 hb0 hi195
   refine Xd (o' := o156 + 1) Q3 rfl rfl rfl ?_
   exact Xa ⟨rfl, hi195⟩
  refine Xj rfl (fun w197 hi198 => ?_) ?_
  ·
   have hb199 := low0 hb0 hi198
   refine Xu (vs := [.int .i64 ((mAt ms ((run - 1).toNat)).t.lab.s), .int .i64 ((mAt ms ((run - 1).toNat)).t.lab.v)]) Qd rfl rfl (Za (Yo hr159 hi198) 1 2 rfl) rfl ?_
   exact Xa ⟨rfl, hi198⟩
  exact Zj
 ·
  intro w200 hi201
  have hb202 := low0 hb0 hi201
  refine Xn (vs := [.agg #[.int .i64 ((mAt ms ((thing - 1).toNat)).t.lab.s), .int .i64 ((mAt ms ((thing - 1).toNat)).t.lab.v)], .agg #[.int .i64 ((mAt ms ((run - 1).toNat)).t.lab.s), .int .i64 ((mAt ms ((run - 1).toNat)).t.lab.v)]]) Sy (Xg rfl (Xg rfl Xm)) rfl (V5 ((mAt ms ((thing - 1).toNat)).t.lab) ((mAt ms ((run - 1).toNat)).t.lab) _) ?_
  rintro _ w203 ⟨rfl, hg204⟩
  have hb205 := low0 hb202 hg204
  refine Xh (v := .bool (labelFlow ((mAt ms ((thing - 1).toNat)).t.lab) ((mAt ms ((run - 1).toNat)).t.lab))) rfl rfl ?_
  refine Xa ?_
  refine Xv ?_
  refine Xs ?_
  refine ⟨.bool (labelFlow ((mAt ms ((thing - 1).toNat)).t.lab) ((mAt ms ((run - 1).toNat)).t.lab)), Yq rfl rfl, ?_, hb205⟩
  exact congrArg Value.bool (Tv hT hr hth)
theorem J1 (run thing : Int) (w : World) (ms : List MTh) (a : Option Addr) (c : Nat) (ht : TabAt w a ms) (hlen : TabLen ms) (hn : ms.length ≤ 1048576) (hT : tableOk (tabT ms) = true) (hr : 1 ≤ run ∧ run ≤ (ms.length : Int)) (hth : 1 ≤ thing ∧ thing ≤ (ms.length : Int)) : CallsR Tryd.prog 36 #[.slice a ms.length c, .int .i64 run, .int .i64 thing] w (fun v w' => v = .bool (touches (tabT ms) run thing) ∧ w.grownBy w' none) := by
 refine X0 (n := 20) Tryd.func36 rfl Tryd.ntmps36 rfl ?_
 have hb0 := World.grownBy.refl w none
 refine Xb ?_
 refine Xh (v := .bool false) rfl rfl ?_
 refine Xa ?_
 refine Xt ?_
 obtain ⟨b145, q146, o147, ha148, ho149, hr150⟩ := SlAt.at (TabAt.low ht hb0).1 (Yn (Ya (show (run - 1).toNat < ms.length by omega)))
 have hle151 := TabLen.at hlen (Ya (show (run - 1).toNat < ms.length by omega))
 obtain ⟨b154, q155, o156, ha157, ho158, hr159⟩ := SlAt.at (TabAt.low ht hb0).1 (Yn (Ya (show (thing - 1).toNat < ms.length by omega)))
 have hle160 := TabLen.at hlen (Ya (show (thing - 1).toNat < ms.length by omega))
 refine Ze (m := 12) (vals := [(7, .slice a ms.length c), (8, .int .i64 run), (9, .int .i64 (run - 1)), (10, .pointer (some ⟨b145, o147, none⟩)), (11, .pointer (some ⟨b145, o147 + 1, none⟩)), (12, .agg #[.int .i64 ((mAt ms ((run - 1).toNat)).t.lab.s), .int .i64 ((mAt ms ((run - 1).toNat)).t.lab.v)]), (13, .slice a ms.length c), (14, .int .i64 thing), (15, .int .i64 (thing - 1)), (16, .pointer (some ⟨b154, o156, none⟩)), (17, .pointer (some ⟨b154, o156 + 1, none⟩)), (18, .agg #[.int .i64 ((mAt ms ((thing - 1).toNat)).t.lab.s), .int .i64 ((mAt ms ((thing - 1).toNat)).t.lab.v)])]) (fun w' => w.grownBy w' none) Zi (by kernel_rfl) (Yl _) ?_ ?_
 ·
  refine Xj rfl (fun w164 hi165 => ?_) ?_
  ·
   have hb166 := low0 hb0 hi165
   refine Xc (v := .slice a ms.length c) rfl rfl ?_
   exact Xa ⟨rfl, hi165⟩
  refine Xj rfl (fun w167 hi168 => ?_) ?_
  ·
   have hb169 := low0 hb0 hi168
   refine Xc (v := .int .i64 run) rfl rfl ?_
   exact Xa ⟨rfl, hi168⟩
  refine Xj rfl (fun w170 hi171 => ?_) ?_
  ·
   have hb172 := low0 hb0 hi171
   refine Y3 (c := run - 1) rfl rfl (by omega) (by omega) (by omega) rfl ?_
   exact Xa ⟨rfl, hi171⟩
  refine Xj rfl (fun w173 hi174 => ?_) ?_
  ·
   have hb175 := low0 hb0 hi174
   refine Yd Zl rfl rfl ha148 ho149 (by omega) (by omega) rfl ?_
   exact Xa ⟨rfl, hi174⟩
  refine Xj rfl (fun w176 hi177 => ?_) ?_
  ·
   have hb178 := low0 hb0 hi177
   refine Xd (o' := o147 + 1) Q3 rfl rfl rfl ?_
   exact Xa ⟨rfl, hi177⟩
  refine Xj rfl (fun w179 hi180 => ?_) ?_
  ·
   have hb181 := low0 hb0 hi180
   refine Xu (vs := [.int .i64 ((mAt ms ((run - 1).toNat)).t.lab.s), .int .i64 ((mAt ms ((run - 1).toNat)).t.lab.v)]) Qd rfl rfl (Za (Yo hr150 hi180) 1 2 rfl) rfl ?_
   exact Xa ⟨rfl, hi180⟩
  refine Xj rfl (fun w182 hi183 => ?_) ?_
  ·
   have hb184 := low0 hb0 hi183
   refine Xc (v := .slice a ms.length c) rfl rfl ?_
   exact Xa ⟨rfl, hi183⟩
  refine Xj rfl (fun w185 hi186 => ?_) ?_
  ·
   have hb187 := low0 hb0 hi186
   refine Xc (v := .int .i64 thing) rfl rfl ?_
   exact Xa ⟨rfl, hi186⟩
  refine Xj rfl (fun w188 hi189 => ?_) ?_
  ·
   have hb190 := low0 hb0 hi189
   refine Y3 (c := thing - 1) rfl rfl (by omega) (by omega) (by omega) rfl ?_
   exact Xa ⟨rfl, hi189⟩
  refine Xj rfl (fun w191 hi192 => ?_) ?_
  ·
   have hb193 := low0 hb0 hi192
   refine Yd Zl rfl rfl ha157 ho158 (by omega) (by omega) rfl ?_
   exact Xa ⟨rfl, hi192⟩
  refine Xj rfl (fun w194 hi195 => ?_) ?_
  ·
   have hb196 := low0 hb0 hi195
   refine Xd (o' := o156 + 1) Q3 rfl rfl rfl ?_
   exact Xa ⟨rfl, hi195⟩
  refine Xj rfl (fun w197 hi198 => ?_) ?_
  ·
   have hb199 := low0 hb0 hi198
   refine Xu (vs := [.int .i64 ((mAt ms ((thing - 1).toNat)).t.lab.s), .int .i64 ((mAt ms ((thing - 1).toNat)).t.lab.v)]) Qd rfl rfl (Za (Yo hr159 hi198) 1 2 rfl) rfl ?_
   exact Xa ⟨rfl, hi198⟩
  exact Zj
 ·
  intro w200 hi201
  have hb202 := low0 hb0 hi201
  refine Xn (vs := [.agg #[.int .i64 ((mAt ms ((run - 1).toNat)).t.lab.s), .int .i64 ((mAt ms ((run - 1).toNat)).t.lab.v)], .agg #[.int .i64 ((mAt ms ((thing - 1).toNat)).t.lab.s), .int .i64 ((mAt ms ((thing - 1).toNat)).t.lab.v)]]) Sy (Xg rfl (Xg rfl Xm)) rfl (V5 ((mAt ms ((run - 1).toNat)).t.lab) ((mAt ms ((thing - 1).toNat)).t.lab) _) ?_
  rintro _ w203 ⟨rfl, hg204⟩
  have hb205 := low0 hb202 hg204
  refine Xh (v := .bool (labelFlow ((mAt ms ((run - 1).toNat)).t.lab) ((mAt ms ((thing - 1).toNat)).t.lab))) rfl rfl ?_
  refine Xa ?_
  refine Xv ?_
  refine Xs ?_
  refine ⟨.bool (labelFlow ((mAt ms ((run - 1).toNat)).t.lab) ((mAt ms ((thing - 1).toNat)).t.lab)), Yq rfl rfl, ?_, hb205⟩
  exact congrArg Value.bool (L6 hT hr hth)
theorem V1 (r : Rt) (hr : -9223372036854775807 ≤ r.th) (w : World) (ms : List MTh) (a : Option Addr) (c : Nat) (ht : TabAt w a ms) (hlen : TabLen ms) (hn : ms.length ≤ 1048576) : CallsR Tryd.prog 38 #[.slice a ms.length c, .agg #[.int .i64 r.th, .int .i64 r.ve, .bool r.rd, .bool r.wr, .bool r.wk]] w (fun v w' => v = .bool (live (tabT ms) r) ∧ w.grownBy w' none) := by
 refine X0 (n := 21) Tryd.func38 rfl Tryd.ntmps38 rfl ?_
 have hb0 := World.grownBy.refl w none
 refine Xb ?_
 refine Yu (v := .agg #[.int .i64 r.th, .int .i64 r.ve, .bool r.rd, .bool r.wr, .bool r.wk]) (cs := #[.int .i64 r.th, .int .i64 r.ve, .bool r.rd, .bool r.wr, .bool r.wk]) rfl rfl rfl ?_
 intro B101 w102 hN103
 have hlB101 := Yf hN103 hb0
 have hb104 := low0 hb0 hN103.grw
 refine Xh (v := .bool false) rfl rfl ?_
 refine Xa ?_
 refine Q0 (fun f' w' => (f' 4 = .bool (inR r.th 1 (ms.length : Int) && (decide ((mAt ms ((r.th - 1).toNat)).t.ve = r.ve)))) ∧ w102.grownBy w' none) ?_ ?_
 ·
  rcases Yb (inR r.th 1 (ms.length : Int)) with h124 | h124
  ·
   have hr125 := Zb.1 h124
   obtain ⟨b145, q146, o147, ha148, ho149, hr150⟩ := SlAt.at (TabAt.low ht hb104).1 (Yn (Ya (show (r.th - 1).toNat < ms.length by omega)))
   have hle151 := TabLen.at hlen (Ya (show (r.th - 1).toNat < ms.length by omega))
   refine Ze (m := 14) (vals := [(5, .slice a ms.length c), (6, .pointer (some ⟨B101, 0, none⟩)), (7, .int .i64 r.th), (8, .bool (inR r.th 1 (ms.length : Int))), (9, .bool (inR r.th 1 (ms.length : Int))), (10, .slice a ms.length c), (11, .pointer (some ⟨B101, 0, none⟩)), (12, .int .i64 r.th), (13, .int .i64 (r.th - 1)), (14, .pointer (some ⟨b145, o147, none⟩)), (15, .pointer (some ⟨b145, o147 + 3, none⟩)), (16, .int .i64 ((mAt ms ((r.th - 1).toNat)).t.ve)), (17, .pointer (some ⟨B101, 1, none⟩)), (18, .int .i64 r.ve)]) (fun w' => w102.grownBy w' none) Zi (by kernel_rfl) (Yl _) ?_ ?_
   ·
    refine Xj rfl (fun w157 hi158 => ?_) ?_
    ·
     have hb159 := low0 hb104 hi158
     refine Xc (v := .slice a ms.length c) rfl rfl ?_
     exact Xa ⟨rfl, hi158⟩
    refine Xj rfl (fun w160 hi161 => ?_) ?_
    ·
     have hb162 := low0 hb104 hi161
     refine Xd (o' := 0) Yp rfl rfl rfl ?_
     exact Xa ⟨rfl, hi161⟩
    refine Xj rfl (fun w163 hi164 => ?_) ?_
    ·
     have hb165 := low0 hb104 hi164
     have k166 := (hN103.blk.grown0 hi164)
     refine Xi (v := .int .i64 r.th) X3 rfl (k166.cell rfl) rfl ?_
     exact Xa ⟨rfl, hi164⟩
    refine Xj rfl (fun w167 hi168 => ?_) ?_
    ·
     have hb169 := low0 hb104 hi168
     refine Xn (vs := [.slice a ms.length c, .int .i64 r.th]) Ux (Xg rfl (Xg rfl Xm)) rfl (Qi r.th _ _ _ _) ?_
     rintro _ w170 ⟨rfl, hg171⟩
     have hb172 := low0 hb169 hg171
     exact Xa ⟨rfl, (grown_trans hi168 hg171)⟩
    refine Xj rfl (fun w173 hi174 => ?_) ?_
    ·
     have hb175 := low0 hb104 hi174
     refine Xc (v := .bool (inR r.th 1 (ms.length : Int))) rfl rfl ?_
     exact Xa ⟨rfl, hi174⟩
    refine Xj rfl (fun w176 hi177 => ?_) ?_
    ·
     have hb178 := low0 hb104 hi177
     refine Xe rfl rfl rfl h124 ?_
     refine Xc (v := .slice a ms.length c) rfl rfl ?_
     exact Xa ⟨rfl, hi177⟩
    refine Xj rfl (fun w179 hi180 => ?_) ?_
    ·
     have hb181 := low0 hb104 hi180
     refine Xe rfl rfl rfl h124 ?_
     refine Xd (o' := 0) Yp rfl rfl rfl ?_
     exact Xa ⟨rfl, hi180⟩
    refine Xj rfl (fun w182 hi183 => ?_) ?_
    ·
     have hb184 := low0 hb104 hi183
     refine Xe rfl rfl rfl h124 ?_
     have k185 := (hN103.blk.grown0 hi183)
     refine Xi (v := .int .i64 r.th) X3 rfl (k185.cell rfl) rfl ?_
     exact Xa ⟨rfl, hi183⟩
    refine Xj rfl (fun w186 hi187 => ?_) ?_
    ·
     have hb188 := low0 hb104 hi187
     refine Xe rfl rfl rfl h124 ?_
     refine Y3 (c := r.th - 1) rfl rfl (by omega) (by omega) (by omega) rfl ?_
     exact Xa ⟨rfl, hi187⟩
    refine Xj rfl (fun w189 hi190 => ?_) ?_
    ·
     have hb191 := low0 hb104 hi190
     refine Xe rfl rfl rfl h124 ?_
     refine Yd Zl rfl rfl ha148 ho149 (by omega) (by omega) rfl ?_
     exact Xa ⟨rfl, hi190⟩
    refine Xj rfl (fun w192 hi193 => ?_) ?_
    ·
     have hb194 := low0 hb104 hi193
     refine Xe rfl rfl rfl h124 ?_
     refine Xd (o' := o147 + 3) Z6 rfl rfl rfl ?_
     exact Xa ⟨rfl, hi193⟩
    refine Xj rfl (fun w195 hi196 => ?_) ?_
    ·
     have hb197 := low0 hb104 hi196
     refine Xe rfl rfl rfl h124 ?_
     refine Xi (v := .int .i64 ((mAt ms ((r.th - 1).toNat)).t.ve)) X3 rfl ((Yo hr150 hi196) 3 _ rfl) rfl ?_
     exact Xa ⟨rfl, hi196⟩
    refine Xj rfl (fun w198 hi199 => ?_) ?_
    ·
     have hb200 := low0 hb104 hi199
     refine Xe rfl rfl rfl h124 ?_
     refine Xd (o' := 1) Ql rfl rfl rfl ?_
     exact Xa ⟨rfl, hi199⟩
    refine Xj rfl (fun w201 hi202 => ?_) ?_
    ·
     have hb203 := low0 hb104 hi202
     refine Xe rfl rfl rfl h124 ?_
     have k204 := (hN103.blk.grown0 hi202)
     refine Xi (v := .int .i64 r.ve) X3 rfl (k204.cell rfl) rfl ?_
     exact Xa ⟨rfl, hi202⟩
    exact Zj
   ·
    intro w205 hi206
    have hb207 := low0 hb104 hi206
    refine Xe rfl rfl rfl h124 ?_
    refine X4 (q := decide ((mAt ms ((r.th - 1).toNat)).t.ve = r.ve)) rfl rfl rfl rfl ?_
    refine Xr (v := .bool (decide ((mAt ms ((r.th - 1).toNat)).t.ve = r.ve))) rfl h124 rfl rfl ?_
    refine Xh (v := .bool (decide ((mAt ms ((r.th - 1).toNat)).t.ve = r.ve))) rfl rfl ?_
    exact Xa (Xv ⟨(congrArg Value.bool (by first | (simp only [h124, b0, b1, b2, b3, b4, b5, b6, b7, b8, b9]; done) | simp [h124])), hi206⟩)
  ·
   refine Ze (m := 14) (vals := [(5, .slice a ms.length c), (6, .pointer (some ⟨B101, 0, none⟩)), (7, .int .i64 r.th), (8, .bool (inR r.th 1 (ms.length : Int))), (9, .bool (inR r.th 1 (ms.length : Int))), (10, undef), (11, undef), (12, undef), (13, undef), (14, undef), (15, undef), (16, undef), (17, undef), (18, undef)]) (fun w' => w102.grownBy w' none) Zi (by kernel_rfl) (Yl _) ?_ ?_
   ·
    refine Xj rfl (fun w217 hi218 => ?_) ?_
    ·
     have hb219 := low0 hb104 hi218
     refine Xc (v := .slice a ms.length c) rfl rfl ?_
     exact Xa ⟨rfl, hi218⟩
    refine Xj rfl (fun w220 hi221 => ?_) ?_
    ·
     have hb222 := low0 hb104 hi221
     refine Xd (o' := 0) Yp rfl rfl rfl ?_
     exact Xa ⟨rfl, hi221⟩
    refine Xj rfl (fun w223 hi224 => ?_) ?_
    ·
     have hb225 := low0 hb104 hi224
     have k226 := (hN103.blk.grown0 hi224)
     refine Xi (v := .int .i64 r.th) X3 rfl (k226.cell rfl) rfl ?_
     exact Xa ⟨rfl, hi224⟩
    refine Xj rfl (fun w227 hi228 => ?_) ?_
    ·
     have hb229 := low0 hb104 hi228
     refine Xn (vs := [.slice a ms.length c, .int .i64 r.th]) Ux (Xg rfl (Xg rfl Xm)) rfl (Qi r.th _ _ _ _) ?_
     rintro _ w230 ⟨rfl, hg231⟩
     have hb232 := low0 hb229 hg231
     exact Xa ⟨rfl, (grown_trans hi228 hg231)⟩
    refine Xj rfl (fun w233 hi234 => ?_) ?_
    ·
     have hb235 := low0 hb104 hi234
     refine Xc (v := .bool (inR r.th 1 (ms.length : Int))) rfl rfl ?_
     exact Xa ⟨rfl, hi234⟩
    refine Xj rfl (fun w236 hi237 => ?_) ?_
    ·
     have hb238 := low0 hb104 hi237
     refine Xk rfl rfl rfl h124 rfl ?_
     exact Xa ⟨rfl, hi237⟩
    refine Xj rfl (fun w239 hi240 => ?_) ?_
    ·
     have hb241 := low0 hb104 hi240
     refine Xk rfl rfl rfl h124 rfl ?_
     exact Xa ⟨rfl, hi240⟩
    refine Xj rfl (fun w242 hi243 => ?_) ?_
    ·
     have hb244 := low0 hb104 hi243
     refine Xk rfl rfl rfl h124 rfl ?_
     exact Xa ⟨rfl, hi243⟩
    refine Xj rfl (fun w245 hi246 => ?_) ?_
    ·
     have hb247 := low0 hb104 hi246
     refine Xk rfl rfl rfl h124 rfl ?_
     exact Xa ⟨rfl, hi246⟩
    refine Xj rfl (fun w248 hi249 => ?_) ?_
    ·
     have hb250 := low0 hb104 hi249
     refine Xk rfl rfl rfl h124 rfl ?_
     exact Xa ⟨rfl, hi249⟩
    refine Xj rfl (fun w251 hi252 => ?_) ?_
    ·
     have hb253 := low0 hb104 hi252
     refine Xk rfl rfl rfl h124 rfl ?_
     exact Xa ⟨rfl, hi252⟩
    refine Xj rfl (fun w254 hi255 => ?_) ?_
    ·
     have hb256 := low0 hb104 hi255
     refine Xk rfl rfl rfl h124 rfl ?_
     exact Xa ⟨rfl, hi255⟩
    refine Xj rfl (fun w257 hi258 => ?_) ?_
    ·
     have hb259 := low0 hb104 hi258
     refine Xk rfl rfl rfl h124 rfl ?_
     exact Xa ⟨rfl, hi258⟩
    refine Xj rfl (fun w260 hi261 => ?_) ?_
    ·
     have hb262 := low0 hb104 hi261
     refine Xk rfl rfl rfl h124 rfl ?_
     exact Xa ⟨rfl, hi261⟩
    exact Zj
   ·
    intro w263 hi264
    have hb265 := low0 hb104 hi264
    refine Xk rfl rfl rfl h124 rfl ?_
    refine Xl (v := .bool false) rfl h124 rfl rfl ?_
    refine Xh (v := .bool false) rfl rfl ?_
    exact Xa (Xv ⟨(congrArg Value.bool (by first | (simp only [h124, b0, b1, b2, b3, b4, b5, b6, b7, b8, b9]; done) | simp [h124])), hi264⟩)
 ·
  rintro f266 w267 ⟨e268, hg269⟩
  have hb270 := low0 hb104 hg269
  refine Xs ?_
  refine ⟨.bool (inR r.th 1 (ms.length : Int) && (decide ((mAt ms ((r.th - 1).toNat)).t.ve = r.ve))), Yq rfl e268, ?_, hb270⟩
  exact congrArg Value.bool Pk
end Go.Proofs.YtfoplmgoiblkgaaDoor
end
