/- Laws and walks: my templates, and what a program of mine (gen.py) printed out of the functions; only what the row reaches. -/
import Derived.Test.YtjpgffmkcmcolabDoorT52
section
namespace Go.Proofs.YtjpgffmkcmcolabDoor
open Go.RowKit Go.Dw
set_option maxRecDepth 100000
set_option maxHeartbeats 4000000
set_option linter.unusedSimpArgs false
set_option linter.unusedVariables false
theorem Pm (p : Int) (hp : 0 ≤ p ∧ p ≤ 999999980000) (lo R : Nat) (bs : List Int) (a : Option Addr) (c : Nat) (w : World) (hR : Blk w R 63 #[.slice a bs.length c, vi p]) (hlo : lo ≤ R) (hs : SlLt lo w a 1 (bs.map bcell)) (hb : ∀ b ∈ bs, 0 ≤ b ∧ b ≤ 255) (hn : bs.length ≤ 1048576) (ms : List MTh) (ta : Option Addr) (tc tlo : Nat) (hG : TabG tlo w ta ms) (hRl : R < tlo) (hlen : TabLen ms) (hmn : 1 ≤ ms.length ∧ ms.length ≤ 8) : CallsR Tryd.prog 14 #[pt R 0, .slice ta ms.length tc] w (fun v w' => ∃ (q : Cl) (p' : Int), v = .agg #[vi q.kind, vi q.run, vi q.a, vi q.b, vi q.n] ∧ ((0 ≤ q.kind ∧ q.kind ≤ 10) ∧ (1 ≤ q.run ∧ q.run ≤ (ms.length : Int)) ∧ (-1 ≤ q.a ∧ q.a ≤ 4) ∧ (0 ≤ q.b ∧ q.b ≤ 3) ∧ -1 ≤ q.n ∧ q.n ≤ 100) ∧ p ≤ p' ∧ p' ≤ p + 60 ∧ Blk w' R 63 #[.slice a bs.length c, vi p'] ∧ w.grownBy w' (some R)) := by
 refine X0 (n := 114) Tryd.func14 Z Tryd.ntmps14 Z ?_
 have tg := World.grownBy.refl w (some R)
 have hRlt := hR.lt
 obtain ⟨hi, hhi⟩ : ∃ n, n = w.heap.size := ⟨_, rfl⟩
 have hTH := TabG.hi hG
 rw [← hhi] at hTH
 refine Xa (Yd (cs := #[vi 0, vi 0, vi 0, vi 0, vi 0]) Lr Z Z ?_)
 intro ei zh bx
 have uw := X9 bx tg
 have ti : hi ≤ ei := nt (Nat.le_of_eq hhi) (Nat.le_of_eq bx.eq.symm)
 have qg := Xn bx (hR).lt
 have jh := low0 tg bx.grw
 refine Xb (Xa (Xc (v := pt R 0) Z Z (Xm Yt (Xf Z (Xf Z Xl)) Z (Yh p 9 (by omega) _ R bs _ _ _ (hR.grown0 bx.grw) (by omega) (SlLt.low1 hs jh hlo) (by first | exact hb | exact fun b h => hb b (List.mem_of_mem_take h)) (by first | omega | (rw [List.length_take]; omega))) ?_)))
 rintro _ zi ⟨em, rfl, vw, vx, pu, d8⟩
 have ji := grown_trans jh d8
 refine Yw (c := 1 + em) Z Z (by omega) (by omega) (by omega) Z (Xc (v := pt R 0) Z Z (Xc (v := .slice ta ms.length tc) Z Z ?_))
 have ib := (TabG.lt (TabG.low hG bx.grw) d8 (by omega))
 refine Xm Mf (Xf Z (Xf Z Xl)) Z (Ro (p + 1) (by omega) _ R bs _ _ _ pu (by omega) (SlLt.low1 hs ji hlo) (by first | exact hb | exact fun b h => hb b (List.mem_of_mem_take h)) (by first | omega | (rw [List.length_take]; omega)) ms _ _ _ ib (by omega) hlen (by omega)) ?_
 rintro _ zj ⟨E, ex, rfl, w8, w5, w7, pv, d9⟩
 have jj := grown_trans ji d9
 refine Xc (v := pt R 0) Z Z (Xm Yt (Xf Z (Xf Z Xl)) Z (Yh ex 4 (by omega) _ R bs _ _ _ pv (by omega) (SlLt.low1 hs jj hlo) (by first | exact hb | exact fun b h => hb b (List.mem_of_mem_take h)) (by first | omega | (rw [List.length_take]; omega))) ?_)
 rintro _ zk ⟨ga, rfl, vy, vz, pw, ea⟩
 have jk := grown_trans jj ea
 refine Xc (v := pt R 0) Z Z (Xm Yt (Xf Z (Xf Z Xl)) Z (Yh (ex + 1) 4 (by omega) _ R bs _ _ _ pw (by omega) (SlLt.low1 hs jk hlo) (by first | exact hb | exact fun b h => hb b (List.mem_of_mem_take h)) (by first | omega | (rw [List.length_take]; omega))) ?_)
 rintro _ zl ⟨G, rfl, v1, v2, px, eb⟩
 have jl := grown_trans jk eb
 refine Xc (v := pt R 0) Z Z (Xm Yt (Xf Z (Xf Z Xl)) Z (Yh (ex + 1 + 1) 20 (by omega) _ R bs _ _ _ px (by omega) (SlLt.low1 hs jl hlo) (by first | exact hb | exact fun b h => hb b (List.mem_of_mem_take h)) (by first | omega | (rw [List.length_take]; omega))) ?_)
 rintro _ zm ⟨J, rfl, v3, v4, ky, ed⟩
 have jm := grown_trans jl ed
 refine Yk (ps := [(0, vi (1 + em)), (1, vi E), (2, vi ga), (3, vi G), (4, vi J)]) (v := .agg #[vi (1 + em), vi E, vi ga, vi G, vi J]) (Xk Z (Xk Z (Xk Z (Xk Z (Xk Z Xz))))) (by kernel_rfl) Z (Yd (cs := #[vi 0, vi 0, vi 0, vi 0, vi 0]) Lr Z Z ?_)
 intro ce zn bq
 have ux := X9 bq jm
 have tj : hi ≤ ce := nt (nt (nt (nt (nt (nt (nt (Nat.le_of_eq hhi) bx.grw.size) d8.size) d9.size) ea.size) eb.size) ed.size) (Nat.le_of_eq bq.eq.symm)
 have qh := Xn bq (ky).lt
 have nb := (((((bx.blk.gn d8).gn d9).gn ea).gn eb).gn ed)
 have lk := Xn bq (nb).lt
 refine Xt (vs := [vi (1 + em), vi E, vi ga, vi G, vi J]) (cs' := #[vi (1 + em), vi E, vi ga, vi G, vi J]) Yp Z Z Z (by simp [Value.oneCell']) bq.blk (Nat.le_of_ble_eq_true Z) Z ?_
 intro zo de
 refine Xb (Xs (Xa (Xg (v := vi 0) Z Z (Xb (Ya (Qj (fun mm f' w' => ∃ (i : Nat) (p1 : Int) (kk : Int) (aa : Int), mm = 6 - i ∧ i ≤ 6 ∧ (ex + 1 + 1 + 1 ≤ p1 ∧ p1 ≤ (ex + 1 + 1 + 1) + 3 * (i : Int)) ∧ (1 ≤ kk ∧ kk ≤ 9) ∧ (0 ≤ aa ∧ aa ≤ 3) ∧ TabG tlo w' ta ms ∧ hi ≤ w'.heap.size ∧ f' 6 = vi (i : Int) ∧ f' 0 = pt R 0 ∧ f' 1 = .slice ta ms.length tc ∧ f' 4 = pt ei 0 ∧ f' 5 = pt ce 0 ∧ w.grownBy w' (some R) ∧ Blk w' ei 25 #[vi 0, vi 0, vi 0, vi 0, vi 0] ∧ Blk w' ce 25 #[vi kk, vi E, vi aa, vi G, vi J] ∧ Blk w' R 63 #[.slice a bs.length c, vi p1]) (6 - 0) ⟨0, (ex + 1 + 1 + 1), (1 + em), ga, Z, (Nat.zero_le _), (by omega), (by omega), (by omega), (TabG.ge (TabG.low (TabG.lt (TabG.lt (TabG.lt (TabG.lt ib d9 (by omega)) ea (by omega)) eb (by omega)) ed (by omega)) bq.grw) de.grw hTH (by omega)), (nt (nt (nt (nt (nt (nt (nt (nt (Nat.le_of_eq hhi) bx.grw.size) d8.size) d9.size) ea.size) eb.size) ed.size) bq.grw.size) de.grw.size), Z, Z, Z, Z, Z, (low1 (low0 jm bq.grw) de.grw (by omega)), ((nb.grown0 bq.grw).gn de.grw), de.blk, ((ky.grown0 bq.grw).gn de.grw)⟩ ?_))))))
 rintro mm yk zp ⟨i, p1, kk, aa, wz, Bi, hpp, hkk, haa, hGl, hhs, m7, ao, i4, ad, ae, ft, ak, dc, nc⟩
 refine Xs (Xa (Xc (v := vi (i : Int)) m7 Z (Qh (q := decide ((i : Int) < 6)) Z Z Z Z (Xc (v := vb (decide ((i : Int) < 6))) Z Z ?_))))
 rcases X6 (decide ((i : Int) < 6)) with cf | cf
 have yn := of_decide_eq_true cf
 refine Xe Z Z Z cf (Xc (v := pt R 0) ao Z (Xe Z Z Z cf (Xm Yt (Xf Z (Xf Z Xl)) Z (Yh p1 6 (by omega) _ R bs _ _ _ nc (by omega) (SlLt.low1 hs ft hlo) (by first | exact hb | exact fun b h => hb b (List.mem_of_mem_take h)) (by first | omega | (rw [List.length_take]; omega))) ?_)))
 rintro _ zq ⟨iz, rfl, v5, v6, dl, O⟩
 have gw := grown_trans ft O
 refine Xe Z Z Z cf (Qe (q := decide (0 < iz)) Z Z Z Z (Xo (v := vb (decide (0 < iz))) Z cf Z Z (Xc (v := vb (decide (0 < iz))) Z Z ?_)))
 rcases X6 (decide (0 < iz)) with bw | bw
 have yo := of_decide_eq_true bw
 refine Xe Z Z Z bw (Xc (v := .slice ta ms.length tc) i4 Z (Xe Z Z Z bw (Xd (o' := 1) Qn ae Z Z (Xe Z Z Z bw ?_))))
 have eo := (dc.gn O)
 refine Xh (v := vi E) X3 Z (eo.cell Z) Z (Xe Z Z Z bw ?_)
 have ic := (TabG.lt hGl O (by omega))
 refine Xm S6 (Xf Z (Xf Z Xl)) Z (H3 E (by omega) _ ms _ _ (TabG.at ic) hlen (by omega)) ?_
 rintro _ oa ⟨rfl, V⟩
 have dh := low0 gw V
 refine Xo (v := vb (kindAt (tabT ms) E 3)) Z bw Z Z (Xc (v := vb (kindAt (tabT ms) E 3)) Z Z ?_)
 rcases X6 (kindAt (tabT ms) E 3) with bc | bc
 refine Xe Z Z Z bc (Xc (v := .slice ta ms.length tc) i4 Z (Xe Z Z Z bc (Xd (o' := 1) Qn ae Z Z (Xe Z Z Z bc ?_))))
 have a9 := (eo.grown0 V)
 refine Xh (v := vi E) X3 Z (a9.cell Z) Z (Xe Z Z Z bc (Y0 (c := E - 1) Z Z (by omega) (by omega) (by omega) Z (Xe Z Z Z bc ?_)))
 have dx := (TabG.low ic V)
 obtain ⟨m5, ze, i2, jg, j1, j2⟩ := SlAt.at (TabG.at dx).1 (Yi (xg ms (E - 1).toNat))
 have u6 := TabLen.at hlen (xg ms (E - 1).toNat)
 refine X8 Y7 Z Z jg j1 (by omega) (by omega) Z (Xe Z Z Z bc (Xd (o' := i2 + 5) Qr Z Z Z (Xe Z Z Z bc (Xh (v := .slice (mj ms E).sa (mj ms E).t.slots.length (mj ms E).sc) Jo Z (j2 5 _ Z) Z (Xe Z Z Z bc (Yj (by kernel_rfl) Z Z (Xe Z Z Z bc (Xw (q := decide (((mj ms E).t.slots.length : Int) = 4)) Z Z Z Z (Xo (v := vb (decide (((mj ms E).t.slots.length : Int) = 4))) Z bc Z Z (Xb (Xu Z (fun ek => ?_) (fun ek => ?_))))))))))))
 have yp := of_decide_eq_true ek
 refine Xv (Xr (Xs (Ya (Xs ?_))))
 obtain ⟨q7, zf, t5, oo, po, pq⟩ := SlAt.at (TabAt.th (TabG.at dx) (xg ms (E - 1).toNat)).1 (Yi (xr (mj ms E).t.slots (aa).toNat))
 refine J3 (m := 12) [[], [], [1], [1, 2], [0, 1, 2, 3], [0, 1, 2, 3, 4], [0, 1, 2, 3, 4, 5], [], [7], [0, 1, 2, 3, 4, 5, 6, 7, 8], [0, 1, 2, 3, 4, 5, 6, 7, 8, 9], [], [0, 1, 2, 3, 4, 5, 6, 7, 8, 9, 10, 11]] (fun S F w' => ∃ (ac : Nat), oa.grownBy w' none ∧ F 0 = pt R 0 ∧ F 1 = .slice ta ms.length tc ∧ F 4 = pt ei 0 ∧ F 5 = pt ce 0 ∧ F 6 = vi (i : Int) ∧ (S 11 = true → F 7 = pt ac 0 ∧ w.heap.size ≤ ac ∧ Blk w' ac 38 #[vi 0, vi 0, vb false, vb false, vb false] ∧ ei < ac ∧ ce < ac ∧ R < ac ∧ oa.heap.size ≤ ac) ∧ Vals S F [(0, 47, .slice ta ms.length tc), (1, 48, pt ce 1), (2, 49, vi E), (3, 50, vi (E - 1)), (4, 51, pt m5 i2), (5, 52, pt m5 (i2 + 5)), (6, 53, .slice (mj ms E).sa (mj ms E).t.slots.length (mj ms E).sc), (7, 54, pt ce 2), (8, 55, vi aa), (9, 56, pt q7 t5), (10, 57, .agg #[vi (rAt (mj ms E).t.slots (aa).toNat).th, vi (rAt (mj ms E).t.slots (aa).toNat).ve, vb (rAt (mj ms E).t.slots (aa).toNat).rd, vb (rAt (mj ms E).t.slots (aa).toNat).wr, vb (rAt (mj ms E).t.slots (aa).toNat).wk])]) Qb (by kernel_rfl) ⟨0, Yf _, ao, i4, ad, ae, m7, Y4, Vn _⟩ ?_ ?_
 refine X5 (fun S F zr hS hbef hcl hI => ?_) ?_
 obtain ⟨ac, ow, q8, m8, q9, ra, rb, aj, hvs⟩ := hI
 exact Xc (v := .slice ta ms.length tc) m8 Z (Xb ⟨ac, ow, q8, m8, q9, ra, rb, aj, Vals.up 0 hvs Z Z Z⟩)
 refine X5 (fun S F zu hS hbef hcl hI => ?_) ?_
 obtain ⟨ac, ox, rf, rg, rh, m9, ri, aj, hvs⟩ := hI
 exact Xd (o' := 1) Qn m9 Z Z (Xb ⟨ac, ox, rf, rg, rh, m9, ri, aj, Vals.up 1 hvs Z Z Z⟩)
 refine X5 (fun S F zv hS hbef hcl hI => ?_) ?_
 obtain ⟨ac, jw, rj, rk, rl, rm, rn, aj, hvs⟩ := hI
 exact Xh (v := vi E) X3 (Vals.at 1 hvs Z (X4 1 hbef Z)) ((a9.grown0 jw).cell Z) Z (Xb ⟨ac, jw, rj, rk, rl, rm, rn, aj, Vals.up 2 hvs Z Z Z⟩)
 refine X5 (fun S F zw hS hbef hcl hI => ?_) ?_
 obtain ⟨ac, oy, ro, rp, rq, rr, ru, aj, hvs⟩ := hI
 exact Y0 (c := E - 1) (Vals.at 2 hvs Z (X4 2 hbef Z)) Z (by omega) (by omega) (by omega) Z (Xb ⟨ac, oy, ro, rp, rq, rr, ru, aj, Vals.up 3 hvs Z Z Z⟩)
 refine X5 (fun S F zy hS hbef hcl hI => ?_) ?_
 obtain ⟨ac, oz, rx, ry, rz, r0, r1, aj, hvs⟩ := hI
 exact X8 Y7 (Vals.at 0 hvs Z (X4 0 hbef Z)) (Vals.at 3 hvs Z (X4 3 hbef Z)) jg j1 (by omega) (by omega) Z (Xb ⟨ac, oz, rx, ry, rz, r0, r1, aj, Vals.up 4 hvs Z Z Z⟩)
 refine X5 (fun S F zz hS hbef hcl hI => ?_) ?_
 obtain ⟨ac, o0, r2, r3, r4, r5, r6, aj, hvs⟩ := hI
 exact Xd (o' := i2 + 5) Qr (Vals.at 4 hvs Z (X4 4 hbef Z)) Z Z (Xb ⟨ac, o0, r2, r3, r4, r5, r6, aj, Vals.up 5 hvs Z Z Z⟩)
 refine X5 (fun S F z0 hS hbef hcl hI => ?_) ?_
 obtain ⟨ac, jx, r7, r8, r9, sb, sd, aj, hvs⟩ := hI
 exact Xh (v := .slice (mj ms E).sa (mj ms E).t.slots.length (mj ms E).sc) Jo (Vals.at 5 hvs Z (X4 5 hbef Z)) ((Yo j2 jx) 5 _ Z) Z (Xb ⟨ac, jx, r7, r8, r9, sb, sd, aj, Vals.up 6 hvs Z Z Z⟩)
 refine X5 (fun S F z2 hS hbef hcl hI => ?_) ?_
 obtain ⟨ac, o1, se, sf, sg, na, sh, aj, hvs⟩ := hI
 exact Xd (o' := 2) Jq na Z Z (Xb ⟨ac, o1, se, sf, sg, na, sh, aj, Vals.up 7 hvs Z Z Z⟩)
 refine X5 (fun S F z3 hS hbef hcl hI => ?_) ?_
 obtain ⟨ac, jy, si, sk, sm, sn, so, aj, hvs⟩ := hI
 exact Xh (v := vi aa) X3 (Vals.at 7 hvs Z (X4 7 hbef Z)) ((a9.grown0 jy).cell Z) Z (Xb ⟨ac, jy, si, sk, sm, sn, so, aj, Vals.up 8 hvs Z Z Z⟩)
 refine X5 (fun S F z6 hS hbef hcl hI => ?_) ?_
 obtain ⟨ac, o3, sp, sq, sr, su, sv, aj, hvs⟩ := hI
 exact X8 V1 (Vals.at 6 hvs Z (X4 6 hbef Z)) (Vals.at 8 hvs Z (X4 8 hbef Z)) oo po (by omega) (by omega) Z (Xb ⟨ac, o3, sp, sq, sr, su, sv, aj, Vals.up 9 hvs Z Z Z⟩)
 refine X5 (fun S F z7 hS hbef hcl hI => ?_) ?_
 obtain ⟨ac, jz, sw, sy, s0, s1, s3, aj, hvs⟩ := hI
 exact Xp (vs := [vi (rAt (mj ms E).t.slots (aa).toNat).th, vi (rAt (mj ms E).t.slots (aa).toNat).ve, vb (rAt (mj ms E).t.slots (aa).toNat).rd, vb (rAt (mj ms E).t.slots (aa).toNat).wr, vb (rAt (mj ms E).t.slots (aa).toNat).wk]) Yv (Vals.at 9 hvs Z (X4 9 hbef Z)) Z (Qi (Yo pq jz) 0 5 Z) Z (Xb ⟨ac, jz, sw, sy, s0, s1, s3, aj, Vals.up 10 hvs Z Z Z⟩)
 refine X5 (fun S F z8 hS hbef hcl hI => ?_) ?_
 obtain ⟨ac, cz, s4, s5, s6, s7, s8, aj, hvs⟩ := hI
 refine Yd (cs := #[vi 0, vi 0, vb false, vb false, vb false]) Ks Z Z ?_
 intro m4 z9 cg
 have mc := X9 cg (low0 dh cz)
 have tk : hi ≤ m4 := nt (nt (nt (nt hhs O.size) V.size) cz.size) (Nat.le_of_eq cg.eq.symm)
 have eg := Xn cg ((((ak.gn O).grown0 V).grown0 cz)).lt
 have eh := Xn cg ((a9.grown0 cz)).lt
 have g9 := Xn cg (((dl.grown0 V).grown0 cz)).lt
 exact Xb ⟨m4, (low0 cz cg.grw), s4, s5, s6, s7, s8, fun _ => ⟨Z, mc, cg.blk, eg, eh, g9, (nt cz.size (Nat.le_of_eq cg.eq.symm))⟩, Vals.keep hvs Z⟩
 exact Ke
 intro S F Aa hall hI
 obtain ⟨ac, af, i5, ej, i6, d6, i7, aj, hvs⟩ := hI
 obtain ⟨ia, uy, kz, ll, ly, qi, tv⟩ := aj (hall 11 (by decide))
 refine Xt (vs := [vi (rAt (mj ms E).t.slots (aa).toNat).th, vi (rAt (mj ms E).t.slots (aa).toNat).ve, vb (rAt (mj ms E).t.slots (aa).toNat).rd, vb (rAt (mj ms E).t.slots (aa).toNat).wr, vb (rAt (mj ms E).t.slots (aa).toNat).wk]) (cs' := #[vi (rAt (mj ms E).t.slots (aa).toNat).th, vi (rAt (mj ms E).t.slots (aa).toNat).ve, vb (rAt (mj ms E).t.slots (aa).toNat).rd, vb (rAt (mj ms E).t.slots (aa).toNat).wr, vb (rAt (mj ms E).t.slots (aa).toNat).wk]) Yv ia (Vals.at 10 hvs Z (hall 10 (by decide))) Z (by simp [Value.oneCell']) kz (Nat.le_of_ble_eq_true Z) Z ?_
 intro i3 ab
 refine Xb (Xr (Xs (Jp (fun f' w' => (f' 0 = pt R 0 ∧ f' 1 = .slice ta ms.length tc ∧ f' 4 = pt ei 0 ∧ f' 5 = pt ce 0 ∧ f' 6 = vi (i : Int) ∧ f' 79 = vb ((decide (kk = 3)) || (inR (rAt (mj ms E).t.slots (aa).toNat).th 1 (ms.length : Int) && kindFor kk (mj ms (rAt (mj ms E).t.slots (aa).toNat).th).t.kind))) ∧ i3.grownBy w' none) ?_ ?_)))
 rcases X6 (decide (kk = 3)) with ag | ag
 have yq := of_decide_eq_true ag
 refine Y8 (m := 19) (vals := [(58, pt ce 0), (59, vi kk), (60, vb (decide (kk = 3))), (61, vb (decide (kk = 3))), (62, undef), (63, undef), (64, undef), (65, undef), (66, undef), (67, undef), (68, undef), (69, undef), (70, undef), (71, undef), (72, undef), (73, undef), (74, undef), (75, undef), (76, undef)]) (fun w' => i3.grownBy w' none) Qb (by kernel_rfl) (Yf _) ?_ ?_
 refine yl Z (fun _ _ k => Xd (o' := 0) Qu d6 Z Z k) (yl Z (fun _ o4 k => Xh (v := vi kk) X3 Z ((((a9.grown0 af).gn ab.grw).grown0 o4).cell Z) Z k) (yl Z (fun _ _ k => Xw (q := decide (kk = 3)) Z Z Z Z k) (yl Z (fun _ _ k => Xc (v := vb (decide (kk = 3))) Z Z k) (yl Z (fun _ _ k => Xi Z Z Z ag Z k) (yl Z (fun _ _ k => Xi Z Z Z ag Z k) (yl Z (fun _ _ k => Xi Z Z Z ag Z k) (yl Z (fun _ _ k => Xi Z Z Z ag Z k) (yl Z (fun _ _ k => Xi Z Z Z ag Z k) (yl Z (fun _ _ k => Xi Z Z Z ag Z k) (yl Z (fun _ _ k => Yc Z Z Z Z k) ?_))))))))))
 exact yl Z (fun _ _ k => Yc Z Z Z Z k) (yl Z (fun _ _ k => Yc Z Z Z Z k) (yl Z (fun _ _ k => Yc Z Z Z Z k) (yl Z (fun _ _ k => Yc Z Z Z Z k) (yl Z (fun _ _ k => Yc Z Z Z Z k) (yl Z (fun _ _ k => Yc Z Z Z Z k) (yl Z (fun _ _ k => Yc Z Z Z Z k) (yl Z (fun _ _ k => Yc Z Z Z Z k) Qd)))))))
 intro Ab o5
 exact Yc Z Z Z Z (Xi Z Z Z ag Z (Xo (v := vb true) Z ag Z Z (Xb (Xr ⟨⟨i5, ej, i6, d6, i7, (cB (by simp [cf, bw, bc, ek, ag]))⟩, o5⟩))))
 have yr := of_decide_eq_false ag
 rcases X6 (inR (rAt (mj ms E).t.slots (aa).toNat).th 1 (ms.length : Int)) with ai | ai
 have w9 := Yu.1 ai
 have mb := (TabG.ge (TabG.low dx af) ab.grw hTH (by omega))
 obtain ⟨m6, zg, lj, oq, pp, pr⟩ := SlAt.at (TabG.at mb).1 (Yi (xg ms ((rAt (mj ms E).t.slots (aa).toNat).th - 1).toNat))
 have u7 := TabLen.at hlen (xg ms ((rAt (mj ms E).t.slots (aa).toNat).th - 1).toNat)
 refine Y8 (m := 19) (vals := [(58, pt ce 0), (59, vi kk), (60, vb (decide (kk = 3))), (61, vb (decide (kk = 3))), (62, pt ac 0), (63, vi (rAt (mj ms E).t.slots (aa).toNat).th), (64, .slice ta ms.length tc), (65, vi (ms.length : Int)), (66, vb (inR (rAt (mj ms E).t.slots (aa).toNat).th 1 (ms.length : Int))), (67, vb (inR (rAt (mj ms E).t.slots (aa).toNat).th 1 (ms.length : Int))), (68, pt ce 0), (69, vi kk), (70, .slice ta ms.length tc), (71, pt ac 0), (72, vi (rAt (mj ms E).t.slots (aa).toNat).th), (73, vi ((rAt (mj ms E).t.slots (aa).toNat).th - 1)), (74, pt m6 lj), (75, pt m6 lj), (76, vi (mj ms (rAt (mj ms E).t.slots (aa).toNat).th).t.kind)]) (fun w' => i3.grownBy w' none) Qb (by kernel_rfl) (Yf _) ?_ ?_
 refine yl Z (fun _ _ k => Xd (o' := 0) Qu d6 Z Z k) (yl Z (fun _ o6 k => Xh (v := vi kk) X3 Z ((((a9.grown0 af).gn ab.grw).grown0 o6).cell Z) Z k) (yl Z (fun _ _ k => Xw (q := decide (kk = 3)) Z Z Z Z k) (yl Z (fun _ _ k => Xc (v := vb (decide (kk = 3))) Z Z k) (yl Z (fun _ _ k => Xe Z Z Z ag (Xd (o' := 0) Ym ia Z Z k)) (yl Z (fun _ o7 k => Xe Z Z Z ag (Xh (v := vi (rAt (mj ms E).t.slots (aa).toNat).th) X3 Z ((ab.blk.grown0 o7).cell Z) Z k)) (yl Z (fun _ _ k => Xe Z Z Z ag (Xc (v := .slice ta ms.length tc) ej Z k)) (yl Z (fun _ _ k => Xe Z Z Z ag (Yj (by kernel_rfl) Z Z k)) ?_)))))))
 refine Yq Z (fun Ac o8 => ?_) ?_
 refine Xe Z Z Z ag (Xm Jw (Xf Z (Xf Z (Xf Z Xl))) Z (Jb (rAt (mj ms E).t.slots (aa).toNat).th 1 (ms.length : Int) _) ?_)
 rintro _ Ad ⟨rfl, ot⟩
 exact Xb ⟨Z, (grown_trans o8 ot)⟩
 exact yl Z (fun _ _ k => Xe Z Z Z ag (Xc (v := vb (inR (rAt (mj ms E).t.slots (aa).toNat).th 1 (ms.length : Int))) Z Z k)) (yl Z (fun _ _ k => Xe Z Z Z ai (Xd (o' := 0) Qu d6 Z Z k)) (yl Z (fun _ o9 k => Xe Z Z Z ai (Xh (v := vi kk) X3 Z ((((a9.grown0 af).gn ab.grw).grown0 o9).cell Z) Z k)) (yl Z (fun _ _ k => Xe Z Z Z ai (Xc (v := .slice ta ms.length tc) ej Z k)) (yl Z (fun _ _ k => Xe Z Z Z ai (Xd (o' := 0) Ym ia Z Z k)) (yl Z (fun _ pb k => Xe Z Z Z ai (Xh (v := vi (rAt (mj ms E).t.slots (aa).toNat).th) X3 Z ((ab.blk.grown0 pb).cell Z) Z k)) (yl Z (fun _ _ k => Xe Z Z Z ai (Y0 (c := (rAt (mj ms E).t.slots (aa).toNat).th - 1) Z Z (by omega) (by omega) (by omega) Z k)) (yl Z (fun _ _ k => Xe Z Z Z ai (X8 Y7 Z Z oq pp (by omega) (by omega) Z k)) (yl Z (fun _ _ k => Xe Z Z Z ai (Xd (o' := lj) Yl Z Z Z k)) (yl Z (fun _ pc k => Xe Z Z Z ai (Xh (v := vi (mj ms (rAt (mj ms E).t.slots (aa).toNat).th).t.kind) X3 Z ((Yo pr pc) 0 _ Z) Z k)) Qd)))))))))
 intro Ae pd
 refine Xe Z Z Z ai (Xm Wh (Xf Z (Xf Z Xl)) Z (J7 kk (mj ms (rAt (mj ms E).t.slots (aa).toNat).th).t.kind _) ?_)
 rintro _ Af ⟨rfl, ou⟩
 exact Xe Z Z Z ag (Xo (v := vb (kindFor kk (mj ms (rAt (mj ms E).t.slots (aa).toNat).th).t.kind)) Z ai Z Z (Xj (v := vb (kindFor kk (mj ms (rAt (mj ms E).t.slots (aa).toNat).th).t.kind)) Z ag Z Z (Xb (Xr ⟨⟨i5, ej, i6, d6, i7, (cB (by simp [cf, bw, bc, ek, ag, ai]))⟩, (grown_trans pd ou)⟩))))
 refine Y8 (m := 19) (vals := [(58, pt ce 0), (59, vi kk), (60, vb (decide (kk = 3))), (61, vb (decide (kk = 3))), (62, pt ac 0), (63, vi (rAt (mj ms E).t.slots (aa).toNat).th), (64, .slice ta ms.length tc), (65, vi (ms.length : Int)), (66, vb (inR (rAt (mj ms E).t.slots (aa).toNat).th 1 (ms.length : Int))), (67, vb (inR (rAt (mj ms E).t.slots (aa).toNat).th 1 (ms.length : Int))), (68, undef), (69, undef), (70, undef), (71, undef), (72, undef), (73, undef), (74, undef), (75, undef), (76, undef)]) (fun w' => i3.grownBy w' none) Qb (by kernel_rfl) (Yf _) ?_ ?_
 refine yl Z (fun _ _ k => Xd (o' := 0) Qu d6 Z Z k) (yl Z (fun _ pe k => Xh (v := vi kk) X3 Z ((((a9.grown0 af).gn ab.grw).grown0 pe).cell Z) Z k) (yl Z (fun _ _ k => Xw (q := decide (kk = 3)) Z Z Z Z k) (yl Z (fun _ _ k => Xc (v := vb (decide (kk = 3))) Z Z k) (yl Z (fun _ _ k => Xe Z Z Z ag (Xd (o' := 0) Ym ia Z Z k)) (yl Z (fun _ pf k => Xe Z Z Z ag (Xh (v := vi (rAt (mj ms E).t.slots (aa).toNat).th) X3 Z ((ab.blk.grown0 pf).cell Z) Z k)) (yl Z (fun _ _ k => Xe Z Z Z ag (Xc (v := .slice ta ms.length tc) ej Z k)) (yl Z (fun _ _ k => Xe Z Z Z ag (Yj (by kernel_rfl) Z Z k)) ?_)))))))
 refine Yq Z (fun Ag pg => ?_) ?_
 refine Xe Z Z Z ag (Xm Jw (Xf Z (Xf Z (Xf Z Xl))) Z (Jb (rAt (mj ms E).t.slots (aa).toNat).th 1 (ms.length : Int) _) ?_)
 rintro _ Ah ⟨rfl, ov⟩
 exact Xb ⟨Z, (grown_trans pg ov)⟩
 exact yl Z (fun _ _ k => Xe Z Z Z ag (Xc (v := vb (inR (rAt (mj ms E).t.slots (aa).toNat).th 1 (ms.length : Int))) Z Z k)) (yl Z (fun _ _ k => Xi Z Z Z ai Z k) (yl Z (fun _ _ k => Xi Z Z Z ai Z k) (yl Z (fun _ _ k => Xi Z Z Z ai Z k) (yl Z (fun _ _ k => Xi Z Z Z ai Z k) (yl Z (fun _ _ k => Xi Z Z Z ai Z k) (yl Z (fun _ _ k => Xi Z Z Z ai Z k) (yl Z (fun _ _ k => Xi Z Z Z ai Z k) (yl Z (fun _ _ k => Xi Z Z Z ai Z k) (yl Z (fun _ _ k => Xi Z Z Z ai Z k) Qd)))))))))
 intro Ai ph
 exact Xi Z Z Z ai Z (Xe Z Z Z ag (Xj (v := vb false) Z ai Z Z (Xj (v := vb false) Z ag Z Z (Xb (Xr ⟨⟨i5, ej, i6, d6, i7, (cB (by simp [cf, bw, bc, ek, ag, ai]))⟩, ph⟩)))))
 rintro ym Aj ⟨⟨d7, s9, db, ct, td, te⟩, ah⟩
 have fu := low0 (low1 (low0 dh af) ab.grw (by omega)) ah
 refine Xu te (fun i8 => ?_) (fun i8 => ?_)
 refine Y9 (Y6 (T7 (by decide) (Y6 (Y6 (Jd (Xr (Xs (Xa (Xc (v := pt R 0) d7 Z (Xm Yt (Xf Z (Xf Z Xl)) Z (Yh (p1 + 1) 50 (by omega) _ R bs _ _ _ ((((dl.grown0 V).grown0 af).gn ab.grw).grown0 ah) (by omega) (SlLt.low1 hs fu hlo) (by first | exact hb | exact fun b h => hb b (List.mem_of_mem_take h)) (by first | omega | (rw [List.length_take]; omega))) ?_))))))))))
 rintro _ Ak ⟨ep, rfl, v7, v8, c8, an⟩
 have cv := grown_trans fu an
 refine Xb (Ya (Xa (Xw (q := decide (ep = 0)) Z Z Z Z (Xg (v := vb (decide (ep = 0))) Z Z (Xb (Xu Z (fun i9 => ?_) (fun i9 => ?_)))))))
 have yu := of_decide_eq_true i9
 refine Xx (Xy (ps := [(0, vi 0), (1, vi 10)]) (e := 3) (cs := (([0, 10] : List Int).flatMap icell).toArray) (Xk Z (Xk Z Xz)) (fun _ => by kernel_rfl) Z ?_)
 intro q0 Al bd
 have uz := X9 bd cv
 have tl : hi ≤ q0 := nt (nt (nt (nt (nt (nt (nt hhs O.size) V.size) af.size) ab.grw.size) ah.size) an.size) (Nat.le_of_eq bd.eq.symm)
 have nd := ((((((ak.gn O).grown0 V).grown0 af).gn ab.grw).grown0 ah).gn an)
 have lm := Xn bd (nd).lt
 have ne := ((((a9.grown0 af).gn ab.grw).grown0 ah).gn an)
 have lz := Xn bd (ne).lt
 have qj := Xn bd (c8).lt
 have l8 := Xn bd (((ab.blk.grown0 ah).gn an)).lt
 have jo := low0 cv bd.grw
 refine Xc (v := pt R 0) d7 Z (Xm Yt (Xf Z (Xf Z Xl)) Z (Yh (p1 + 1 + 1) 2 (by omega) _ R bs _ _ _ (c8.grown0 bd.grw) (by omega) (SlLt.low1 hs jo hlo) (by first | exact hb | exact fun b h => hb b (List.mem_of_mem_take h)) (by first | omega | (rw [List.length_take]; omega))) ?_)
 rintro _ Am ⟨kr, rfl, v9, wa, py, fv⟩
 refine X1 (o' := (kr).toNat * 1) Je Z Z (by omega) (by omega) (by omega) Z ?_
 obtain ⟨cj, j3⟩ := Qa (l := ([0, 10] : List Int)) (i := (kr).toNat) (lq (kr).toNat 2)
 have pi := List.mem_of_getElem? j3
 simp only [List.mem_cons, List.not_mem_nil, or_false] at pi
 refine Xh (v := vi cj) X3 Z ((Y2 Yn (bd.blk.gn fv) j3) 0 _ Z) Z (Xd (o' := 0) Qu ct Z Z (Yb (v := vi cj) (cs' := #[vi cj, vi E, vi aa, vi G, vi J]) X3 Z Z Z ((ne.grown0 bd.grw).gn fv) (Nat.le_of_ble_eq_true Z) Z ?_))
 intro An fk
 refine Xb (Ys (Xr (Xa (Xp (vs := [vi cj, vi E, vi aa, vi G, vi J]) Yp ct Z (fk.blk.rangeL 0 5 Z) Z (Xt (vs := [vi cj, vi E, vi aa, vi G, vi J]) (cs' := #[vi cj, vi E, vi aa, vi G, vi J]) Yp db Z Z (by simp [Value.oneCell']) (((nd.grown0 bd.grw).gn fv).gn fk.grw) (Nat.le_of_ble_eq_true Z) Z ?_)))))
 intro Ao gl
 refine Xb (Xq ?_)
 refine ⟨.agg #[vi cj, vi E, vi aa, vi G, vi J], Qo Z (X7 (vs := [vi cj, vi E, vi aa, vi G, vi J]) Yp db Z (gl.blk.rangeL 0 5 Z)), ⟨cj, E, aa, G, J⟩, (p1 + 1 + 1 + 1), Z, ⟨⟨show (0 : Int) ≤ cj by omega, show cj ≤ (10 : Int) by omega⟩, ⟨show (1 : Int) ≤ E by omega, show E ≤ (ms.length : Int) by omega⟩, ⟨show (-1 : Int) ≤ aa by omega, show aa ≤ (4 : Int) by omega⟩, ⟨show (0 : Int) ≤ G by omega, show G ≤ (3 : Int) by omega⟩, show (-1 : Int) ≤ J by omega, show J ≤ (100 : Int) by omega⟩, by omega, by omega, ((py.gn fk.grw).gn gl.grw), (low1 (low1 (grown_trans jo fv) fk.grw (by omega)) gl.grw (by omega))⟩
 have yv := of_decide_eq_false i9
 refine Xa (Xw (q := decide (ep = 1)) Z Z Z Z (Xg (v := vb (decide (ep = 1))) Z Z (Xb (Xu Z (fun ja => ?_) (fun ja => ?_)))))
 have yw := of_decide_eq_true ja
 refine Xx (Xy (ps := [(0, vi (-1)), (1, vi 4)]) (e := 3) (cs := (([(-1), 4] : List Int).flatMap icell).toArray) (Xk Z (Xk Z Xz)) (fun _ => by kernel_rfl) Z ?_)
 intro q1 Ap be
 have u0 := X9 be cv
 have tn : hi ≤ q1 := nt (nt (nt (nt (nt (nt (nt hhs O.size) V.size) af.size) ab.grw.size) ah.size) an.size) (Nat.le_of_eq be.eq.symm)
 have nf := ((((((ak.gn O).grown0 V).grown0 af).gn ab.grw).grown0 ah).gn an)
 have ln := Xn be (nf).lt
 have ng := ((((a9.grown0 af).gn ab.grw).grown0 ah).gn an)
 have l0 := Xn be (ng).lt
 have qk := Xn be (c8).lt
 have l9 := Xn be (((ab.blk.grown0 ah).gn an)).lt
 have jp := low0 cv be.grw
 refine Xc (v := pt R 0) d7 Z (Xm Yt (Xf Z (Xf Z Xl)) Z (Yh (p1 + 1 + 1) 2 (by omega) _ R bs _ _ _ (c8.grown0 be.grw) (by omega) (SlLt.low1 hs jp hlo) (by first | exact hb | exact fun b h => hb b (List.mem_of_mem_take h)) (by first | omega | (rw [List.length_take]; omega))) ?_)
 rintro _ Aq ⟨ks, rfl, wb, wc, pz, fw⟩
 refine X1 (o' := (ks).toNat * 1) Je Z Z (by omega) (by omega) (by omega) Z ?_
 obtain ⟨ck, j4⟩ := Qa (l := ([(-1), 4] : List Int)) (i := (ks).toNat) (lq (ks).toNat 2)
 have pj := List.mem_of_getElem? j4
 simp only [List.mem_cons, List.not_mem_nil, or_false] at pj
 refine Xh (v := vi ck) X3 Z ((Y2 Yn (be.blk.gn fw) j4) 0 _ Z) Z (Xd (o' := 2) Jq ct Z Z (Yb (v := vi ck) (cs' := #[vi kk, vi E, vi ck, vi G, vi J]) X3 Z Z Z ((ng.grown0 be.grw).gn fw) (Nat.le_of_ble_eq_true Z) Z ?_))
 intro Ar fm
 refine Xb (Ys (Xr (Xa (Xp (vs := [vi kk, vi E, vi ck, vi G, vi J]) Yp ct Z (fm.blk.rangeL 0 5 Z) Z (Xt (vs := [vi kk, vi E, vi ck, vi G, vi J]) (cs' := #[vi kk, vi E, vi ck, vi G, vi J]) Yp db Z Z (by simp [Value.oneCell']) (((nf.grown0 be.grw).gn fw).gn fm.grw) (Nat.le_of_ble_eq_true Z) Z ?_)))))
 intro As gm
 refine Xb (Xq ?_)
 refine ⟨.agg #[vi kk, vi E, vi ck, vi G, vi J], Qo Z (X7 (vs := [vi kk, vi E, vi ck, vi G, vi J]) Yp db Z (gm.blk.rangeL 0 5 Z)), ⟨kk, E, ck, G, J⟩, (p1 + 1 + 1 + 1), Z, ⟨⟨show (0 : Int) ≤ kk by omega, show kk ≤ (10 : Int) by omega⟩, ⟨show (1 : Int) ≤ E by omega, show E ≤ (ms.length : Int) by omega⟩, ⟨show (-1 : Int) ≤ ck by omega, show ck ≤ (4 : Int) by omega⟩, ⟨show (0 : Int) ≤ G by omega, show G ≤ (3 : Int) by omega⟩, show (-1 : Int) ≤ J by omega, show J ≤ (100 : Int) by omega⟩, by omega, by omega, ((pz.gn fm.grw).gn gm.grw), (low1 (low1 (grown_trans jp fw) fm.grw (by omega)) gm.grw (by omega))⟩
 have yx := of_decide_eq_false ja
 refine Xa (Xw (q := decide (ep = 2)) Z Z Z Z (Xg (v := vb (decide (ep = 2))) Z Z (Xb (Xu Z (fun jb => ?_) (fun jb => ?_)))))
 have yy := of_decide_eq_true jb
 refine Xx (Xy (ps := [(0, vi (-1)), (1, vi 100)]) (e := 3) (cs := (([(-1), 100] : List Int).flatMap icell).toArray) (Xk Z (Xk Z Xz)) (fun _ => by kernel_rfl) Z ?_)
 intro q2 At bf
 have u1 := X9 bf cv
 have tp : hi ≤ q2 := nt (nt (nt (nt (nt (nt (nt hhs O.size) V.size) af.size) ab.grw.size) ah.size) an.size) (Nat.le_of_eq bf.eq.symm)
 have nh := ((((((ak.gn O).grown0 V).grown0 af).gn ab.grw).grown0 ah).gn an)
 have lp := Xn bf (nh).lt
 have ni := ((((a9.grown0 af).gn ab.grw).grown0 ah).gn an)
 have l3 := Xn bf (ni).lt
 have qm := Xn bf (c8).lt
 have ma := Xn bf (((ab.blk.grown0 ah).gn an)).lt
 have jq := low0 cv bf.grw
 refine Xc (v := pt R 0) d7 Z (Xm Yt (Xf Z (Xf Z Xl)) Z (Yh (p1 + 1 + 1) 2 (by omega) _ R bs _ _ _ (c8.grown0 bf.grw) (by omega) (SlLt.low1 hs jq hlo) (by first | exact hb | exact fun b h => hb b (List.mem_of_mem_take h)) (by first | omega | (rw [List.length_take]; omega))) ?_)
 rintro _ Au ⟨kt, rfl, wd, we, p0, fx⟩
 refine X1 (o' := (kt).toNat * 1) Je Z Z (by omega) (by omega) (by omega) Z ?_
 obtain ⟨cl, j5⟩ := Qa (l := ([(-1), 100] : List Int)) (i := (kt).toNat) (lq (kt).toNat 2)
 have pk := List.mem_of_getElem? j5
 simp only [List.mem_cons, List.not_mem_nil, or_false] at pk
 refine Xh (v := vi cl) X3 Z ((Y2 Yn (bf.blk.gn fx) j5) 0 _ Z) Z (Xd (o' := 4) K6 ct Z Z (Yb (v := vi cl) (cs' := #[vi kk, vi E, vi aa, vi G, vi cl]) X3 Z Z Z ((ni.grown0 bf.grw).gn fx) (Nat.le_of_ble_eq_true Z) Z ?_))
 intro Av fo
 refine Xb (Ys (Xr (Xa (Xp (vs := [vi kk, vi E, vi aa, vi G, vi cl]) Yp ct Z (fo.blk.rangeL 0 5 Z) Z (Xt (vs := [vi kk, vi E, vi aa, vi G, vi cl]) (cs' := #[vi kk, vi E, vi aa, vi G, vi cl]) Yp db Z Z (by simp [Value.oneCell']) (((nh.grown0 bf.grw).gn fx).gn fo.grw) (Nat.le_of_ble_eq_true Z) Z ?_)))))
 intro Aw gp
 refine Xb (Xq ?_)
 refine ⟨.agg #[vi kk, vi E, vi aa, vi G, vi cl], Qo Z (X7 (vs := [vi kk, vi E, vi aa, vi G, vi cl]) Yp db Z (gp.blk.rangeL 0 5 Z)), ⟨kk, E, aa, G, cl⟩, (p1 + 1 + 1 + 1), Z, ⟨⟨show (0 : Int) ≤ kk by omega, show kk ≤ (10 : Int) by omega⟩, ⟨show (1 : Int) ≤ E by omega, show E ≤ (ms.length : Int) by omega⟩, ⟨show (-1 : Int) ≤ aa by omega, show aa ≤ (4 : Int) by omega⟩, ⟨show (0 : Int) ≤ G by omega, show G ≤ (3 : Int) by omega⟩, show (-1 : Int) ≤ cl by omega, show cl ≤ (100 : Int) by omega⟩, by omega, by omega, ((p0.gn fo.grw).gn gp.grw), (low1 (low1 (grown_trans jq fx) fo.grw (by omega)) gp.grw (by omega))⟩
 have yz := of_decide_eq_false jb
 refine Xv (Ys (Xr (Xa (Xp (vs := [vi kk, vi E, vi aa, vi G, vi J]) Yp ct Z (((((a9.grown0 af).gn ab.grw).grown0 ah).gn an).rangeL 0 5 Z) Z (Xt (vs := [vi kk, vi E, vi aa, vi G, vi J]) (cs' := #[vi kk, vi E, vi aa, vi G, vi J]) Yp db Z Z (by simp [Value.oneCell']) ((((((ak.gn O).grown0 V).grown0 af).gn ab.grw).grown0 ah).gn an) (Nat.le_of_ble_eq_true Z) Z ?_)))))
 intro Ax gq
 refine Xb (Xq ?_)
 refine ⟨.agg #[vi kk, vi E, vi aa, vi G, vi J], Qo Z (X7 (vs := [vi kk, vi E, vi aa, vi G, vi J]) Yp db Z (gq.blk.rangeL 0 5 Z)), ⟨kk, E, aa, G, J⟩, (p1 + 1 + 1), Z, ⟨⟨show (0 : Int) ≤ kk by omega, show kk ≤ (10 : Int) by omega⟩, ⟨show (1 : Int) ≤ E by omega, show E ≤ (ms.length : Int) by omega⟩, ⟨show (-1 : Int) ≤ aa by omega, show aa ≤ (4 : Int) by omega⟩, ⟨show (0 : Int) ≤ G by omega, show G ≤ (3 : Int) by omega⟩, show (-1 : Int) ≤ J by omega, show J ≤ (100 : Int) by omega⟩, by omega, by omega, (c8.gn gq.grw), (low1 cv gq.grw (by omega))⟩
 have tf := Jm i8
 have y2 := of_decide_eq_false tf
 have y3 := Jn i8
 refine Xv (Xr (Xa (Xc (v := pt R 0) d7 Z (Xm Yt (Xf Z (Xf Z Xl)) Z (Yh (p1 + 1) 4 (by omega) _ R bs _ _ _ ((((dl.grown0 V).grown0 af).gn ab.grw).grown0 ah) (by omega) (SlLt.low1 hs fu hlo) (by first | exact hb | exact fun b h => hb b (List.mem_of_mem_take h)) (by first | omega | (rw [List.length_take]; omega))) ?_))))
 rintro _ Ay ⟨i0, rfl, wg, wh, p8, ee⟩
 refine Xd (o' := 2) Jq ct Z Z (Yb (v := vi i0) (cs' := #[vi kk, vi E, vi i0, vi G, vi J]) X3 Z Z Z ((((a9.grown0 af).gn ab.grw).grown0 ah).gn ee) (Nat.le_of_ble_eq_true Z) Z ?_)
 intro Az df
 have jr := low1 (grown_trans fu ee) df.grw (by omega)
 refine Xb (Xx (Xc (v := pt R 0) d7 Z (Xm Yt (Xf Z (Xf Z Xl)) Z (Yh (p1 + 1 + 1) 9 (by omega) _ R bs _ _ _ (p8.gn df.grw) (by omega) (SlLt.low1 hs jr hlo) (by first | exact hb | exact fun b h => hb b (List.mem_of_mem_take h)) (by first | omega | (rw [List.length_take]; omega))) ?_)))
 rintro _ A0 ⟨i1, rfl, wi, wj, p9, ef⟩
 refine Yw (c := 1 + i1) Z Z (by omega) (by omega) (by omega) Z (Xd (o' := 0) Qu ct Z Z (Yb (v := vi (1 + i1)) (cs' := #[vi (1 + i1), vi E, vi i0, vi G, vi J]) X3 Z Z Z (df.blk.gn ef) (Nat.le_of_ble_eq_true Z) Z ?_))
 intro A1 dg
 exact Xb (Ys (Xr (Xx (Xc (v := vi (i : Int)) td Z (Yw (c := (i : Int) + 1) Z Z (by omega) (by omega) (by omega) Z (Xg (v := vi ((i : Int) + 1)) Z Z (Xb (Xr (⟨6 - (i + 1), by omega, (i + 1), (p1 + 1 + 1 + 1), (1 + i1), i0, Z, (by omega), (by omega), (by omega), (by omega), (TabG.ge (TabG.lt (TabG.ge (TabG.lt (TabG.low (TabG.ge (TabG.low dx af) ab.grw hTH (by omega)) ah) ee (by omega)) df.grw hTH (by omega)) ef (by omega)) dg.grw hTH (by omega)), (nt (nt (nt (nt (nt (nt (nt (nt (nt hhs O.size) V.size) af.size) ab.grw.size) ah.size) ee.size) df.grw.size) ef.size) dg.grw.size), Z, d7, s9, db, ct, (low1 (grown_trans jr ef) dg.grw (by omega)), (((((((((ak.gn O).grown0 V).grown0 af).gn ab.grw).grown0 ah).gn ee).gn df.grw).gn ef).gn dg.grw), dg.blk, (p9.gn dg.grw)⟩)))))))))
 have y6 := of_decide_eq_false ek
 refine Y9 (Y6 (Y6 (Jd (Xr (Xs (Xa (Xc (v := pt R 0) ao Z (Xm Yt (Xf Z (Xf Z Xl)) Z (Yh (p1 + 1) 50 (by omega) _ R bs _ _ _ (dl.grown0 V) (by omega) (SlLt.low1 hs dh hlo) (by first | exact hb | exact fun b h => hb b (List.mem_of_mem_take h)) (by first | omega | (rw [List.length_take]; omega))) ?_))))))))
 rintro _ A2 ⟨eu, rfl, wl, wm, c9, ba⟩
 have cw := grown_trans dh ba
 refine Xb (Ya (Xa (Xw (q := decide (eu = 0)) Z Z Z Z (Xg (v := vb (decide (eu = 0))) Z Z (Xb (Xu Z (fun jc => ?_) (fun jc => ?_)))))))
 have y7 := of_decide_eq_true jc
 refine Xx (Xy (ps := [(0, vi 0), (1, vi 10)]) (e := 3) (cs := (([0, 10] : List Int).flatMap icell).toArray) (Xk Z (Xk Z Xz)) (fun _ => by kernel_rfl) Z ?_)
 intro q3 A3 br
 have u2 := X9 br cw
 have tq : hi ≤ q3 := nt (nt (nt (nt hhs O.size) V.size) ba.size) (Nat.le_of_eq br.eq.symm)
 have nj := (((ak.gn O).grown0 V).gn ba)
 have lu := Xn br (nj).lt
 have nk := (a9.gn ba)
 have l4 := Xn br (nk).lt
 have qn := Xn br (c9).lt
 have js := low0 cw br.grw
 refine Xc (v := pt R 0) ao Z (Xm Yt (Xf Z (Xf Z Xl)) Z (Yh (p1 + 1 + 1) 2 (by omega) _ R bs _ _ _ (c9.grown0 br.grw) (by omega) (SlLt.low1 hs js hlo) (by first | exact hb | exact fun b h => hb b (List.mem_of_mem_take h)) (by first | omega | (rw [List.length_take]; omega))) ?_)
 rintro _ A4 ⟨ku, rfl, wn, wo, qb, fy⟩
 refine X1 (o' := (ku).toNat * 1) Je Z Z (by omega) (by omega) (by omega) Z ?_
 obtain ⟨cm, j6⟩ := Qa (l := ([0, 10] : List Int)) (i := (ku).toNat) (lq (ku).toNat 2)
 have pl := List.mem_of_getElem? j6
 simp only [List.mem_cons, List.not_mem_nil, or_false] at pl
 refine Xh (v := vi cm) X3 Z ((Y2 Yn (br.blk.gn fy) j6) 0 _ Z) Z (Xd (o' := 0) Qu ae Z Z (Yb (v := vi cm) (cs' := #[vi cm, vi E, vi aa, vi G, vi J]) X3 Z Z Z ((nk.grown0 br.grw).gn fy) (Nat.le_of_ble_eq_true Z) Z ?_))
 intro A5 fp
 refine Xb (Ys (Xr (Xa (Xp (vs := [vi cm, vi E, vi aa, vi G, vi J]) Yp ae Z (fp.blk.rangeL 0 5 Z) Z (Xt (vs := [vi cm, vi E, vi aa, vi G, vi J]) (cs' := #[vi cm, vi E, vi aa, vi G, vi J]) Yp ad Z Z (by simp [Value.oneCell']) (((nj.grown0 br.grw).gn fy).gn fp.grw) (Nat.le_of_ble_eq_true Z) Z ?_)))))
 intro A6 gr
 refine Xb (Xq ?_)
 refine ⟨.agg #[vi cm, vi E, vi aa, vi G, vi J], Qo Z (X7 (vs := [vi cm, vi E, vi aa, vi G, vi J]) Yp ad Z (gr.blk.rangeL 0 5 Z)), ⟨cm, E, aa, G, J⟩, (p1 + 1 + 1 + 1), Z, ⟨⟨show (0 : Int) ≤ cm by omega, show cm ≤ (10 : Int) by omega⟩, ⟨show (1 : Int) ≤ E by omega, show E ≤ (ms.length : Int) by omega⟩, ⟨show (-1 : Int) ≤ aa by omega, show aa ≤ (4 : Int) by omega⟩, ⟨show (0 : Int) ≤ G by omega, show G ≤ (3 : Int) by omega⟩, show (-1 : Int) ≤ J by omega, show J ≤ (100 : Int) by omega⟩, by omega, by omega, ((qb.gn fp.grw).gn gr.grw), (low1 (low1 (grown_trans js fy) fp.grw (by omega)) gr.grw (by omega))⟩
 have y8 := of_decide_eq_false jc
 refine Xa (Xw (q := decide (eu = 1)) Z Z Z Z (Xg (v := vb (decide (eu = 1))) Z Z (Xb (Xu Z (fun jd => ?_) (fun jd => ?_)))))
 have y9 := of_decide_eq_true jd
 refine Xx (Xy (ps := [(0, vi (-1)), (1, vi 4)]) (e := 3) (cs := (([(-1), 4] : List Int).flatMap icell).toArray) (Xk Z (Xk Z Xz)) (fun _ => by kernel_rfl) Z ?_)
 intro q4 A7 bt
 have u3 := X9 bt cw
 have tr : hi ≤ q4 := nt (nt (nt (nt hhs O.size) V.size) ba.size) (Nat.le_of_eq bt.eq.symm)
 have nn := (((ak.gn O).grown0 V).gn ba)
 have lv := Xn bt (nn).lt
 have no := (a9.gn ba)
 have l5 := Xn bt (no).lt
 have qo := Xn bt (c9).lt
 have jt := low0 cw bt.grw
 refine Xc (v := pt R 0) ao Z (Xm Yt (Xf Z (Xf Z Xl)) Z (Yh (p1 + 1 + 1) 2 (by omega) _ R bs _ _ _ (c9.grown0 bt.grw) (by omega) (SlLt.low1 hs jt hlo) (by first | exact hb | exact fun b h => hb b (List.mem_of_mem_take h)) (by first | omega | (rw [List.length_take]; omega))) ?_)
 rintro _ A8 ⟨kv, rfl, wq, ws, qd, fz⟩
 refine X1 (o' := (kv).toNat * 1) Je Z Z (by omega) (by omega) (by omega) Z ?_
 obtain ⟨cn, j7⟩ := Qa (l := ([(-1), 4] : List Int)) (i := (kv).toNat) (lq (kv).toNat 2)
 have pm := List.mem_of_getElem? j7
 simp only [List.mem_cons, List.not_mem_nil, or_false] at pm
 refine Xh (v := vi cn) X3 Z ((Y2 Yn (bt.blk.gn fz) j7) 0 _ Z) Z (Xd (o' := 2) Jq ae Z Z (Yb (v := vi cn) (cs' := #[vi kk, vi E, vi cn, vi G, vi J]) X3 Z Z Z ((no.grown0 bt.grw).gn fz) (Nat.le_of_ble_eq_true Z) Z ?_))
 intro A9 fq
 refine Xb (Ys (Xr (Xa (Xp (vs := [vi kk, vi E, vi cn, vi G, vi J]) Yp ae Z (fq.blk.rangeL 0 5 Z) Z (Xt (vs := [vi kk, vi E, vi cn, vi G, vi J]) (cs' := #[vi kk, vi E, vi cn, vi G, vi J]) Yp ad Z Z (by simp [Value.oneCell']) (((nn.grown0 bt.grw).gn fz).gn fq.grw) (Nat.le_of_ble_eq_true Z) Z ?_)))))
 intro Ba gt
 refine Xb (Xq ?_)
 refine ⟨.agg #[vi kk, vi E, vi cn, vi G, vi J], Qo Z (X7 (vs := [vi kk, vi E, vi cn, vi G, vi J]) Yp ad Z (gt.blk.rangeL 0 5 Z)), ⟨kk, E, cn, G, J⟩, (p1 + 1 + 1 + 1), Z, ⟨⟨show (0 : Int) ≤ kk by omega, show kk ≤ (10 : Int) by omega⟩, ⟨show (1 : Int) ≤ E by omega, show E ≤ (ms.length : Int) by omega⟩, ⟨show (-1 : Int) ≤ cn by omega, show cn ≤ (4 : Int) by omega⟩, ⟨show (0 : Int) ≤ G by omega, show G ≤ (3 : Int) by omega⟩, show (-1 : Int) ≤ J by omega, show J ≤ (100 : Int) by omega⟩, by omega, by omega, ((qd.gn fq.grw).gn gt.grw), (low1 (low1 (grown_trans jt fz) fq.grw (by omega)) gt.grw (by omega))⟩
 have za := of_decide_eq_false jd
 refine Xa (Xw (q := decide (eu = 2)) Z Z Z Z (Xg (v := vb (decide (eu = 2))) Z Z (Xb (Xu Z (fun je => ?_) (fun je => ?_)))))
 have zb := of_decide_eq_true je
 refine Xx (Xy (ps := [(0, vi (-1)), (1, vi 100)]) (e := 3) (cs := (([(-1), 100] : List Int).flatMap icell).toArray) (Xk Z (Xk Z Xz)) (fun _ => by kernel_rfl) Z ?_)
 intro q5 Bb bu
 have u4 := X9 bu cw
 have tt : hi ≤ q5 := nt (nt (nt (nt hhs O.size) V.size) ba.size) (Nat.le_of_eq bu.eq.symm)
 have np := (((ak.gn O).grown0 V).gn ba)
 have lw := Xn bu (np).lt
 have nq := (a9.gn ba)
 have l6 := Xn bu (nq).lt
 have qp := Xn bu (c9).lt
 have ju := low0 cw bu.grw
 refine Xc (v := pt R 0) ao Z (Xm Yt (Xf Z (Xf Z Xl)) Z (Yh (p1 + 1 + 1) 2 (by omega) _ R bs _ _ _ (c9.grown0 bu.grw) (by omega) (SlLt.low1 hs ju hlo) (by first | exact hb | exact fun b h => hb b (List.mem_of_mem_take h)) (by first | omega | (rw [List.length_take]; omega))) ?_)
 rintro _ Bc ⟨kw, rfl, wt, wu, qe, f8⟩
 refine X1 (o' := (kw).toNat * 1) Je Z Z (by omega) (by omega) (by omega) Z ?_
 obtain ⟨co, j8⟩ := Qa (l := ([(-1), 100] : List Int)) (i := (kw).toNat) (lq (kw).toNat 2)
 have pn := List.mem_of_getElem? j8
 simp only [List.mem_cons, List.not_mem_nil, or_false] at pn
 refine Xh (v := vi co) X3 Z ((Y2 Yn (bu.blk.gn f8) j8) 0 _ Z) Z (Xd (o' := 4) K6 ae Z Z (Yb (v := vi co) (cs' := #[vi kk, vi E, vi aa, vi G, vi co]) X3 Z Z Z ((nq.grown0 bu.grw).gn f8) (Nat.le_of_ble_eq_true Z) Z ?_))
 intro Bd fr
 refine Xb (Ys (Xr (Xa (Xp (vs := [vi kk, vi E, vi aa, vi G, vi co]) Yp ae Z (fr.blk.rangeL 0 5 Z) Z (Xt (vs := [vi kk, vi E, vi aa, vi G, vi co]) (cs' := #[vi kk, vi E, vi aa, vi G, vi co]) Yp ad Z Z (by simp [Value.oneCell']) (((np.grown0 bu.grw).gn f8).gn fr.grw) (Nat.le_of_ble_eq_true Z) Z ?_)))))
 intro Be gu
 refine Xb (Xq ?_)
 refine ⟨.agg #[vi kk, vi E, vi aa, vi G, vi co], Qo Z (X7 (vs := [vi kk, vi E, vi aa, vi G, vi co]) Yp ad Z (gu.blk.rangeL 0 5 Z)), ⟨kk, E, aa, G, co⟩, (p1 + 1 + 1 + 1), Z, ⟨⟨show (0 : Int) ≤ kk by omega, show kk ≤ (10 : Int) by omega⟩, ⟨show (1 : Int) ≤ E by omega, show E ≤ (ms.length : Int) by omega⟩, ⟨show (-1 : Int) ≤ aa by omega, show aa ≤ (4 : Int) by omega⟩, ⟨show (0 : Int) ≤ G by omega, show G ≤ (3 : Int) by omega⟩, show (-1 : Int) ≤ co by omega, show co ≤ (100 : Int) by omega⟩, by omega, by omega, ((qe.gn fr.grw).gn gu.grw), (low1 (low1 (grown_trans ju f8) fr.grw (by omega)) gu.grw (by omega))⟩
 have zc := of_decide_eq_false je
 refine Xv (Ys (Xr (Xa (Xp (vs := [vi kk, vi E, vi aa, vi G, vi J]) Yp ae Z ((a9.gn ba).rangeL 0 5 Z) Z (Xt (vs := [vi kk, vi E, vi aa, vi G, vi J]) (cs' := #[vi kk, vi E, vi aa, vi G, vi J]) Yp ad Z Z (by simp [Value.oneCell']) (((ak.gn O).grown0 V).gn ba) (Nat.le_of_ble_eq_true Z) Z ?_)))))
 intro Bf gv
 refine Xb (Xq ?_)
 refine ⟨.agg #[vi kk, vi E, vi aa, vi G, vi J], Qo Z (X7 (vs := [vi kk, vi E, vi aa, vi G, vi J]) Yp ad Z (gv.blk.rangeL 0 5 Z)), ⟨kk, E, aa, G, J⟩, (p1 + 1 + 1), Z, ⟨⟨show (0 : Int) ≤ kk by omega, show kk ≤ (10 : Int) by omega⟩, ⟨show (1 : Int) ≤ E by omega, show E ≤ (ms.length : Int) by omega⟩, ⟨show (-1 : Int) ≤ aa by omega, show aa ≤ (4 : Int) by omega⟩, ⟨show (0 : Int) ≤ G by omega, show G ≤ (3 : Int) by omega⟩, show (-1 : Int) ≤ J by omega, show J ≤ (100 : Int) by omega⟩, by omega, by omega, (c9.gn gv.grw), (low1 cw gv.grw (by omega))⟩
 iterate 9 refine Xi rfl rfl rfl bc rfl ?_
 refine Xj (v := vb false) Z bc Z Z (Xb (Qm Z Z (Y9 (Y6 (Y6 (Jd (Xr (Xs (Xa (Xc (v := pt R 0) ao Z (Xm Yt (Xf Z (Xf Z Xl)) Z (Yh (p1 + 1) 50 (by omega) _ R bs _ _ _ (dl.grown0 V) (by omega) (SlLt.low1 hs dh hlo) (by first | exact hb | exact fun b h => hb b (List.mem_of_mem_take h)) (by first | omega | (rw [List.length_take]; omega))) ?_)))))))))))
 rintro _ Bg ⟨ew, rfl, wv, ww, da, bb⟩
 have cy := grown_trans dh bb
 refine Xb (Ya (Xa (Xw (q := decide (ew = 0)) Z Z Z Z (Xg (v := vb (decide (ew = 0))) Z Z (Xb (Xu Z (fun jf => ?_) (fun jf => ?_)))))))
 have zd := of_decide_eq_true jf
 refine Xx (Xy (ps := [(0, vi 0), (1, vi 10)]) (e := 3) (cs := (([0, 10] : List Int).flatMap icell).toArray) (Xk Z (Xk Z Xz)) (fun _ => by kernel_rfl) Z ?_)
 intro q6 Bh bv
 have u5 := X9 bv cy
 have tu : hi ≤ q6 := nt (nt (nt (nt hhs O.size) V.size) bb.size) (Nat.le_of_eq bv.eq.symm)
 have nr := (((ak.gn O).grown0 V).gn bb)
 have lx := Xn bv (nr).lt
 have nu := ((eo.grown0 V).gn bb)
 have l7 := Xn bv (nu).lt
 have qq := Xn bv (da).lt
 have jv := low0 cy bv.grw
 refine Xc (v := pt R 0) ao Z (Xm Yt (Xf Z (Xf Z Xl)) Z (Yh (p1 + 1 + 1) 2 (by omega) _ R bs _ _ _ (da.grown0 bv.grw) (by omega) (SlLt.low1 hs jv hlo) (by first | exact hb | exact fun b h => hb b (List.mem_of_mem_take h)) (by first | omega | (rw [List.length_take]; omega))) ?_)
 rintro _ xa ⟨kx, rfl, wx, wy, qf, f9⟩
 refine X1 (o' := (kx).toNat * 1) Je Z Z (by omega) (by omega) (by omega) Z ?_
 obtain ⟨bg, ip⟩ := Qa (l := ([0, 10] : List Int)) (i := (kx).toNat) (lq (kx).toNat 2)
 have me := List.mem_of_getElem? ip
 simp only [List.mem_cons, List.not_mem_nil, or_false] at me
 refine Xh (v := vi bg) X3 Z ((Y2 Yn (bv.blk.gn f9) ip) 0 _ Z) Z (Xd (o' := 0) Qu ae Z Z (Yb (v := vi bg) (cs' := #[vi bg, vi E, vi aa, vi G, vi J]) X3 Z Z Z ((nu.grown0 bv.grw).gn f9) (Nat.le_of_ble_eq_true Z) Z ?_))
 intro xb dm
 refine Xb (Ys (Xr (Xa (Xp (vs := [vi bg, vi E, vi aa, vi G, vi J]) Yp ae Z (dm.blk.rangeL 0 5 Z) Z (Xt (vs := [vi bg, vi E, vi aa, vi G, vi J]) (cs' := #[vi bg, vi E, vi aa, vi G, vi J]) Yp ad Z Z (by simp [Value.oneCell']) (((nr.grown0 bv.grw).gn f9).gn dm.grw) (Nat.le_of_ble_eq_true Z) Z ?_)))))
 intro xc ez
 refine Xb (Xq ?_)
 refine ⟨.agg #[vi bg, vi E, vi aa, vi G, vi J], Qo Z (X7 (vs := [vi bg, vi E, vi aa, vi G, vi J]) Yp ad Z (ez.blk.rangeL 0 5 Z)), ⟨bg, E, aa, G, J⟩, (p1 + 1 + 1 + 1), Z, ⟨⟨show (0 : Int) ≤ bg by omega, show bg ≤ (10 : Int) by omega⟩, ⟨show (1 : Int) ≤ E by omega, show E ≤ (ms.length : Int) by omega⟩, ⟨show (-1 : Int) ≤ aa by omega, show aa ≤ (4 : Int) by omega⟩, ⟨show (0 : Int) ≤ G by omega, show G ≤ (3 : Int) by omega⟩, show (-1 : Int) ≤ J by omega, show J ≤ (100 : Int) by omega⟩, by omega, by omega, ((qf.gn dm.grw).gn ez.grw), (low1 (low1 (grown_trans jv f9) dm.grw (by omega)) ez.grw (by omega))⟩
 have u9 := of_decide_eq_false jf
 refine Xa (Xw (q := decide (ew = 1)) Z Z Z Z (Xg (v := vb (decide (ew = 1))) Z Z (Xb (Xu Z (fun gb => ?_) (fun gb => ?_)))))
 have va := of_decide_eq_true gb
 refine Xx (Xy (ps := [(0, vi (-1)), (1, vi 4)]) (e := 3) (cs := (([(-1), 4] : List Int).flatMap icell).toArray) (Xk Z (Xk Z Xz)) (fun _ => by kernel_rfl) Z ?_)
 intro ob xd ap
 have tw := X9 ap cy
 have qr : hi ≤ ob := nt (nt (nt (nt hhs O.size) V.size) bb.size) (Nat.le_of_eq ap.eq.symm)
 have j9 := (((ak.gn O).grown0 V).gn bb)
 have k0 := Xn ap (j9).lt
 have ka := ((eo.grown0 V).gn bb)
 have la := Xn ap (ka).lt
 have nv := Xn ap (da).lt
 have ie := low0 cy ap.grw
 refine Xc (v := pt R 0) ao Z (Xm Yt (Xf Z (Xf Z Xl)) Z (Yh (p1 + 1 + 1) 2 (by omega) _ R bs _ _ _ (da.grown0 ap.grw) (by omega) (SlLt.low1 hs ie hlo) (by first | exact hb | exact fun b h => hb b (List.mem_of_mem_take h)) (by first | omega | (rw [List.length_take]; omega))) ?_)
 rintro _ xe ⟨gx, rfl, t6, t7, mr, dy⟩
 refine X1 (o' := (gx).toNat * 1) Je Z Z (by omega) (by omega) (by omega) Z ?_
 obtain ⟨bh, iq⟩ := Qa (l := ([(-1), 4] : List Int)) (i := (gx).toNat) (lq (gx).toNat 2)
 have mf := List.mem_of_getElem? iq
 simp only [List.mem_cons, List.not_mem_nil, or_false] at mf
 refine Xh (v := vi bh) X3 Z ((Y2 Yn (ap.blk.gn dy) iq) 0 _ Z) Z (Xd (o' := 2) Jq ae Z Z (Yb (v := vi bh) (cs' := #[vi kk, vi E, vi bh, vi G, vi J]) X3 Z Z Z ((ka.grown0 ap.grw).gn dy) (Nat.le_of_ble_eq_true Z) Z ?_))
 intro xf dn
 refine Xb (Ys (Xr (Xa (Xp (vs := [vi kk, vi E, vi bh, vi G, vi J]) Yp ae Z (dn.blk.rangeL 0 5 Z) Z (Xt (vs := [vi kk, vi E, vi bh, vi G, vi J]) (cs' := #[vi kk, vi E, vi bh, vi G, vi J]) Yp ad Z Z (by simp [Value.oneCell']) (((j9.grown0 ap.grw).gn dy).gn dn.grw) (Nat.le_of_ble_eq_true Z) Z ?_)))))
 intro xh e0
 refine Xb (Xq ?_)
 refine ⟨.agg #[vi kk, vi E, vi bh, vi G, vi J], Qo Z (X7 (vs := [vi kk, vi E, vi bh, vi G, vi J]) Yp ad Z (e0.blk.rangeL 0 5 Z)), ⟨kk, E, bh, G, J⟩, (p1 + 1 + 1 + 1), Z, ⟨⟨show (0 : Int) ≤ kk by omega, show kk ≤ (10 : Int) by omega⟩, ⟨show (1 : Int) ≤ E by omega, show E ≤ (ms.length : Int) by omega⟩, ⟨show (-1 : Int) ≤ bh by omega, show bh ≤ (4 : Int) by omega⟩, ⟨show (0 : Int) ≤ G by omega, show G ≤ (3 : Int) by omega⟩, show (-1 : Int) ≤ J by omega, show J ≤ (100 : Int) by omega⟩, by omega, by omega, ((mr.gn dn.grw).gn e0.grw), (low1 (low1 (grown_trans ie dy) dn.grw (by omega)) e0.grw (by omega))⟩
 have vc := of_decide_eq_false gb
 refine Xa (Xw (q := decide (ew = 2)) Z Z Z Z (Xg (v := vb (decide (ew = 2))) Z Z (Xb (Xu Z (fun gc => ?_) (fun gc => ?_)))))
 have vd := of_decide_eq_true gc
 refine Xx (Xy (ps := [(0, vi (-1)), (1, vi 100)]) (e := 3) (cs := (([(-1), 100] : List Int).flatMap icell).toArray) (Xk Z (Xk Z Xz)) (fun _ => by kernel_rfl) Z ?_)
 intro oc xi aq
 have tx := X9 aq cy
 have qt : hi ≤ oc := nt (nt (nt (nt hhs O.size) V.size) bb.size) (Nat.le_of_eq aq.eq.symm)
 have kb := (((ak.gn O).grown0 V).gn bb)
 have k3 := Xn aq (kb).lt
 have kc := ((eo.grown0 V).gn bb)
 have lc := Xn aq (kc).lt
 have nw := Xn aq (da).lt
 have ig := low0 cy aq.grw
 refine Xc (v := pt R 0) ao Z (Xm Yt (Xf Z (Xf Z Xl)) Z (Yh (p1 + 1 + 1) 2 (by omega) _ R bs _ _ _ (da.grown0 aq.grw) (by omega) (SlLt.low1 hs ig hlo) (by first | exact hb | exact fun b h => hb b (List.mem_of_mem_take h)) (by first | omega | (rw [List.length_take]; omega))) ?_)
 rintro _ xj ⟨gy, rfl, t8, t9, mt, dz⟩
 refine X1 (o' := (gy).toNat * 1) Je Z Z (by omega) (by omega) (by omega) Z ?_
 obtain ⟨bi, ir⟩ := Qa (l := ([(-1), 100] : List Int)) (i := (gy).toNat) (lq (gy).toNat 2)
 have mg := List.mem_of_getElem? ir
 simp only [List.mem_cons, List.not_mem_nil, or_false] at mg
 refine Xh (v := vi bi) X3 Z ((Y2 Yn (aq.blk.gn dz) ir) 0 _ Z) Z (Xd (o' := 4) K6 ae Z Z (Yb (v := vi bi) (cs' := #[vi kk, vi E, vi aa, vi G, vi bi]) X3 Z Z Z ((kc.grown0 aq.grw).gn dz) (Nat.le_of_ble_eq_true Z) Z ?_))
 intro xk dp
 refine Xb (Ys (Xr (Xa (Xp (vs := [vi kk, vi E, vi aa, vi G, vi bi]) Yp ae Z (dp.blk.rangeL 0 5 Z) Z (Xt (vs := [vi kk, vi E, vi aa, vi G, vi bi]) (cs' := #[vi kk, vi E, vi aa, vi G, vi bi]) Yp ad Z Z (by simp [Value.oneCell']) (((kb.grown0 aq.grw).gn dz).gn dp.grw) (Nat.le_of_ble_eq_true Z) Z ?_)))))
 intro xl fa
 refine Xb (Xq ?_)
 refine ⟨.agg #[vi kk, vi E, vi aa, vi G, vi bi], Qo Z (X7 (vs := [vi kk, vi E, vi aa, vi G, vi bi]) Yp ad Z (fa.blk.rangeL 0 5 Z)), ⟨kk, E, aa, G, bi⟩, (p1 + 1 + 1 + 1), Z, ⟨⟨show (0 : Int) ≤ kk by omega, show kk ≤ (10 : Int) by omega⟩, ⟨show (1 : Int) ≤ E by omega, show E ≤ (ms.length : Int) by omega⟩, ⟨show (-1 : Int) ≤ aa by omega, show aa ≤ (4 : Int) by omega⟩, ⟨show (0 : Int) ≤ G by omega, show G ≤ (3 : Int) by omega⟩, show (-1 : Int) ≤ bi by omega, show bi ≤ (100 : Int) by omega⟩, by omega, by omega, ((mt.gn dp.grw).gn fa.grw), (low1 (low1 (grown_trans ig dz) dp.grw (by omega)) fa.grw (by omega))⟩
 have vf := of_decide_eq_false gc
 refine Xv (Ys (Xr (Xa (Xp (vs := [vi kk, vi E, vi aa, vi G, vi J]) Yp ae Z (((eo.grown0 V).gn bb).rangeL 0 5 Z) Z (Xt (vs := [vi kk, vi E, vi aa, vi G, vi J]) (cs' := #[vi kk, vi E, vi aa, vi G, vi J]) Yp ad Z Z (by simp [Value.oneCell']) (((ak.gn O).grown0 V).gn bb) (Nat.le_of_ble_eq_true Z) Z ?_)))))
 intro xm fb
 refine Xb (Xq ?_)
 refine ⟨.agg #[vi kk, vi E, vi aa, vi G, vi J], Qo Z (X7 (vs := [vi kk, vi E, vi aa, vi G, vi J]) Yp ad Z (fb.blk.rangeL 0 5 Z)), ⟨kk, E, aa, G, J⟩, (p1 + 1 + 1), Z, ⟨⟨show (0 : Int) ≤ kk by omega, show kk ≤ (10 : Int) by omega⟩, ⟨show (1 : Int) ≤ E by omega, show E ≤ (ms.length : Int) by omega⟩, ⟨show (-1 : Int) ≤ aa by omega, show aa ≤ (4 : Int) by omega⟩, ⟨show (0 : Int) ≤ G by omega, show G ≤ (3 : Int) by omega⟩, show (-1 : Int) ≤ J by omega, show J ≤ (100 : Int) by omega⟩, by omega, by omega, (da.gn fb.grw), (low1 cy fb.grw (by omega))⟩
 have vg := of_decide_eq_false bw
 iterate 4 refine Xi rfl rfl rfl bw rfl ?_
 refine Xj (v := vb false) Z bw Z Z (Xc (v := vb false) Z Z ?_)
 iterate 9 refine Xi rfl rfl rfl rfl rfl ?_
 refine Xj (v := vb false) Z Z Z Z (Xb (Qm Z Z (Y9 (Y6 (Y6 (Jd (Xr (Xs (Xa (Xc (v := pt R 0) ao Z (Xm Yt (Xf Z (Xf Z Xl)) Z (Yh (p1 + 1) 50 (by omega) _ R bs _ _ _ dl (by omega) (SlLt.low1 hs gw hlo) (by first | exact hb | exact fun b h => hb b (List.mem_of_mem_take h)) (by first | omega | (rw [List.length_take]; omega))) ?_)))))))))))
 rintro _ xn ⟨di, rfl, ua, uc, cc, al⟩
 have bz := grown_trans gw al
 refine Xb (Ya (Xa (Xw (q := decide (di = 0)) Z Z Z Z (Xg (v := vb (decide (di = 0))) Z Z (Xb (Xu Z (fun gf => ?_) (fun gf => ?_)))))))
 have vh := of_decide_eq_true gf
 refine Xx (Xy (ps := [(0, vi 0), (1, vi 10)]) (e := 3) (cs := (([0, 10] : List Int).flatMap icell).toArray) (Xk Z (Xk Z Xz)) (fun _ => by kernel_rfl) Z ?_)
 intro od xo ar
 have tz := X9 ar bz
 have qu : hi ≤ od := nt (nt (nt hhs O.size) al.size) (Nat.le_of_eq ar.eq.symm)
 have ke := ((ak.gn O).gn al)
 have k4 := Xn ar (ke).lt
 have kf := ((dc.gn O).gn al)
 have ld := Xn ar (kf).lt
 have nx := Xn ar (cc).lt
 have ii := low0 bz ar.grw
 refine Xc (v := pt R 0) ao Z (Xm Yt (Xf Z (Xf Z Xl)) Z (Yh (p1 + 1 + 1) 2 (by omega) _ R bs _ _ _ (cc.grown0 ar.grw) (by omega) (SlLt.low1 hs ii hlo) (by first | exact hb | exact fun b h => hb b (List.mem_of_mem_take h)) (by first | omega | (rw [List.length_take]; omega))) ?_)
 rintro _ xp ⟨gz, rfl, ud, ue, mu, d0⟩
 refine X1 (o' := (gz).toNat * 1) Je Z Z (by omega) (by omega) (by omega) Z ?_
 obtain ⟨bj, it⟩ := Qa (l := ([0, 10] : List Int)) (i := (gz).toNat) (lq (gz).toNat 2)
 have mh := List.mem_of_getElem? it
 simp only [List.mem_cons, List.not_mem_nil, or_false] at mh
 refine Xh (v := vi bj) X3 Z ((Y2 Yn (ar.blk.gn d0) it) 0 _ Z) Z (Xd (o' := 0) Qu ae Z Z (Yb (v := vi bj) (cs' := #[vi bj, vi E, vi aa, vi G, vi J]) X3 Z Z Z ((kf.grown0 ar.grw).gn d0) (Nat.le_of_ble_eq_true Z) Z ?_))
 intro xq dq
 refine Xb (Ys (Xr (Xa (Xp (vs := [vi bj, vi E, vi aa, vi G, vi J]) Yp ae Z (dq.blk.rangeL 0 5 Z) Z (Xt (vs := [vi bj, vi E, vi aa, vi G, vi J]) (cs' := #[vi bj, vi E, vi aa, vi G, vi J]) Yp ad Z Z (by simp [Value.oneCell']) (((ke.grown0 ar.grw).gn d0).gn dq.grw) (Nat.le_of_ble_eq_true Z) Z ?_)))))
 intro xu fc
 refine Xb (Xq ?_)
 refine ⟨.agg #[vi bj, vi E, vi aa, vi G, vi J], Qo Z (X7 (vs := [vi bj, vi E, vi aa, vi G, vi J]) Yp ad Z (fc.blk.rangeL 0 5 Z)), ⟨bj, E, aa, G, J⟩, (p1 + 1 + 1 + 1), Z, ⟨⟨show (0 : Int) ≤ bj by omega, show bj ≤ (10 : Int) by omega⟩, ⟨show (1 : Int) ≤ E by omega, show E ≤ (ms.length : Int) by omega⟩, ⟨show (-1 : Int) ≤ aa by omega, show aa ≤ (4 : Int) by omega⟩, ⟨show (0 : Int) ≤ G by omega, show G ≤ (3 : Int) by omega⟩, show (-1 : Int) ≤ J by omega, show J ≤ (100 : Int) by omega⟩, by omega, by omega, ((mu.gn dq.grw).gn fc.grw), (low1 (low1 (grown_trans ii d0) dq.grw (by omega)) fc.grw (by omega))⟩
 have vj := of_decide_eq_false gf
 refine Xa (Xw (q := decide (di = 1)) Z Z Z Z (Xg (v := vb (decide (di = 1))) Z Z (Xb (Xu Z (fun gg => ?_) (fun gg => ?_)))))
 have vk := of_decide_eq_true gg
 refine Xx (Xy (ps := [(0, vi (-1)), (1, vi 4)]) (e := 3) (cs := (([(-1), 4] : List Int).flatMap icell).toArray) (Xk Z (Xk Z Xz)) (fun _ => by kernel_rfl) Z ?_)
 intro oe xv au
 have t0 := X9 au bz
 have qv : hi ≤ oe := nt (nt (nt hhs O.size) al.size) (Nat.le_of_eq au.eq.symm)
 have kg := ((ak.gn O).gn al)
 have k5 := Xn au (kg).lt
 have kh := ((dc.gn O).gn al)
 have le := Xn au (kh).lt
 have ny := Xn au (cc).lt
 have ij := low0 bz au.grw
 refine Xc (v := pt R 0) ao Z (Xm Yt (Xf Z (Xf Z Xl)) Z (Yh (p1 + 1 + 1) 2 (by omega) _ R bs _ _ _ (cc.grown0 au.grw) (by omega) (SlLt.low1 hs ij hlo) (by first | exact hb | exact fun b h => hb b (List.mem_of_mem_take h)) (by first | omega | (rw [List.length_take]; omega))) ?_)
 rintro _ xw ⟨g0, rfl, uf, ug, mv, d1⟩
 refine X1 (o' := (g0).toNat * 1) Je Z Z (by omega) (by omega) (by omega) Z ?_
 obtain ⟨bk, iu⟩ := Qa (l := ([(-1), 4] : List Int)) (i := (g0).toNat) (lq (g0).toNat 2)
 have ml := List.mem_of_getElem? iu
 simp only [List.mem_cons, List.not_mem_nil, or_false] at ml
 refine Xh (v := vi bk) X3 Z ((Y2 Yn (au.blk.gn d1) iu) 0 _ Z) Z (Xd (o' := 2) Jq ae Z Z (Yb (v := vi bk) (cs' := #[vi kk, vi E, vi bk, vi G, vi J]) X3 Z Z Z ((kh.grown0 au.grw).gn d1) (Nat.le_of_ble_eq_true Z) Z ?_))
 intro xx dr
 refine Xb (Ys (Xr (Xa (Xp (vs := [vi kk, vi E, vi bk, vi G, vi J]) Yp ae Z (dr.blk.rangeL 0 5 Z) Z (Xt (vs := [vi kk, vi E, vi bk, vi G, vi J]) (cs' := #[vi kk, vi E, vi bk, vi G, vi J]) Yp ad Z Z (by simp [Value.oneCell']) (((kg.grown0 au.grw).gn d1).gn dr.grw) (Nat.le_of_ble_eq_true Z) Z ?_)))))
 intro xy fd
 refine Xb (Xq ?_)
 refine ⟨.agg #[vi kk, vi E, vi bk, vi G, vi J], Qo Z (X7 (vs := [vi kk, vi E, vi bk, vi G, vi J]) Yp ad Z (fd.blk.rangeL 0 5 Z)), ⟨kk, E, bk, G, J⟩, (p1 + 1 + 1 + 1), Z, ⟨⟨show (0 : Int) ≤ kk by omega, show kk ≤ (10 : Int) by omega⟩, ⟨show (1 : Int) ≤ E by omega, show E ≤ (ms.length : Int) by omega⟩, ⟨show (-1 : Int) ≤ bk by omega, show bk ≤ (4 : Int) by omega⟩, ⟨show (0 : Int) ≤ G by omega, show G ≤ (3 : Int) by omega⟩, show (-1 : Int) ≤ J by omega, show J ≤ (100 : Int) by omega⟩, by omega, by omega, ((mv.gn dr.grw).gn fd.grw), (low1 (low1 (grown_trans ij d1) dr.grw (by omega)) fd.grw (by omega))⟩
 have vl := of_decide_eq_false gg
 refine Xa (Xw (q := decide (di = 2)) Z Z Z Z (Xg (v := vb (decide (di = 2))) Z Z (Xb (Xu Z (fun gh => ?_) (fun gh => ?_)))))
 have vm := of_decide_eq_true gh
 refine Xx (Xy (ps := [(0, vi (-1)), (1, vi 100)]) (e := 3) (cs := (([(-1), 100] : List Int).flatMap icell).toArray) (Xk Z (Xk Z Xz)) (fun _ => by kernel_rfl) Z ?_)
 intro og xz av
 have t1 := X9 av bz
 have qw : hi ≤ og := nt (nt (nt hhs O.size) al.size) (Nat.le_of_eq av.eq.symm)
 have ki := ((ak.gn O).gn al)
 have k6 := Xn av (ki).lt
 have kj := ((dc.gn O).gn al)
 have lf := Xn av (kj).lt
 have nz := Xn av (cc).lt
 have ik := low0 bz av.grw
 refine Xc (v := pt R 0) ao Z (Xm Yt (Xf Z (Xf Z Xl)) Z (Yh (p1 + 1 + 1) 2 (by omega) _ R bs _ _ _ (cc.grown0 av.grw) (by omega) (SlLt.low1 hs ik hlo) (by first | exact hb | exact fun b h => hb b (List.mem_of_mem_take h)) (by first | omega | (rw [List.length_take]; omega))) ?_)
 rintro _ x0 ⟨g5, rfl, uh, uj, mw, d2⟩
 refine X1 (o' := (g5).toNat * 1) Je Z Z (by omega) (by omega) (by omega) Z ?_
 obtain ⟨bl, iv⟩ := Qa (l := ([(-1), 100] : List Int)) (i := (g5).toNat) (lq (g5).toNat 2)
 have mn := List.mem_of_getElem? iv
 simp only [List.mem_cons, List.not_mem_nil, or_false] at mn
 refine Xh (v := vi bl) X3 Z ((Y2 Yn (av.blk.gn d2) iv) 0 _ Z) Z (Xd (o' := 4) K6 ae Z Z (Yb (v := vi bl) (cs' := #[vi kk, vi E, vi aa, vi G, vi bl]) X3 Z Z Z ((kj.grown0 av.grw).gn d2) (Nat.le_of_ble_eq_true Z) Z ?_))
 intro x3 dt
 refine Xb (Ys (Xr (Xa (Xp (vs := [vi kk, vi E, vi aa, vi G, vi bl]) Yp ae Z (dt.blk.rangeL 0 5 Z) Z (Xt (vs := [vi kk, vi E, vi aa, vi G, vi bl]) (cs' := #[vi kk, vi E, vi aa, vi G, vi bl]) Yp ad Z Z (by simp [Value.oneCell']) (((ki.grown0 av.grw).gn d2).gn dt.grw) (Nat.le_of_ble_eq_true Z) Z ?_)))))
 intro x4 fe
 refine Xb (Xq ?_)
 refine ⟨.agg #[vi kk, vi E, vi aa, vi G, vi bl], Qo Z (X7 (vs := [vi kk, vi E, vi aa, vi G, vi bl]) Yp ad Z (fe.blk.rangeL 0 5 Z)), ⟨kk, E, aa, G, bl⟩, (p1 + 1 + 1 + 1), Z, ⟨⟨show (0 : Int) ≤ kk by omega, show kk ≤ (10 : Int) by omega⟩, ⟨show (1 : Int) ≤ E by omega, show E ≤ (ms.length : Int) by omega⟩, ⟨show (-1 : Int) ≤ aa by omega, show aa ≤ (4 : Int) by omega⟩, ⟨show (0 : Int) ≤ G by omega, show G ≤ (3 : Int) by omega⟩, show (-1 : Int) ≤ bl by omega, show bl ≤ (100 : Int) by omega⟩, by omega, by omega, ((mw.gn dt.grw).gn fe.grw), (low1 (low1 (grown_trans ik d2) dt.grw (by omega)) fe.grw (by omega))⟩
 have vn := of_decide_eq_false gh
 refine Xv (Ys (Xr (Xa (Xp (vs := [vi kk, vi E, vi aa, vi G, vi J]) Yp ae Z (((dc.gn O).gn al).rangeL 0 5 Z) Z (Xt (vs := [vi kk, vi E, vi aa, vi G, vi J]) (cs' := #[vi kk, vi E, vi aa, vi G, vi J]) Yp ad Z Z (by simp [Value.oneCell']) ((ak.gn O).gn al) (Nat.le_of_ble_eq_true Z) Z ?_)))))
 intro x5 ff
 refine Xb (Xq ?_)
 refine ⟨.agg #[vi kk, vi E, vi aa, vi G, vi J], Qo Z (X7 (vs := [vi kk, vi E, vi aa, vi G, vi J]) Yp ad Z (ff.blk.rangeL 0 5 Z)), ⟨kk, E, aa, G, J⟩, (p1 + 1 + 1), Z, ⟨⟨show (0 : Int) ≤ kk by omega, show kk ≤ (10 : Int) by omega⟩, ⟨show (1 : Int) ≤ E by omega, show E ≤ (ms.length : Int) by omega⟩, ⟨show (-1 : Int) ≤ aa by omega, show aa ≤ (4 : Int) by omega⟩, ⟨show (0 : Int) ≤ G by omega, show G ≤ (3 : Int) by omega⟩, show (-1 : Int) ≤ J by omega, show J ≤ (100 : Int) by omega⟩, by omega, by omega, (cc.gn ff.grw), (low1 bz ff.grw (by omega))⟩
 have vo := of_decide_eq_false cf
 iterate 3 refine Xi rfl rfl rfl cf rfl ?_
 refine Xj (v := vb false) Z cf Z Z (Xc (v := vb false) Z Z ?_)
 iterate 4 refine Xi rfl rfl rfl rfl rfl ?_
 refine Xj (v := vb false) Z Z Z Z (Xc (v := vb false) Z Z ?_)
 iterate 9 refine Xi rfl rfl rfl rfl rfl ?_
 refine Xj (v := vb false) Z Z Z Z (Xb (Qm Z Z (Y9 (Y6 (Y6 (Jd (Xr (Xs (Xa (Xc (v := pt R 0) ao Z (Xm Yt (Xf Z (Xf Z Xl)) Z (Yh p1 50 (by omega) _ R bs _ _ _ nc (by omega) (SlLt.low1 hs ft hlo) (by first | exact hb | exact fun b h => hb b (List.mem_of_mem_take h)) (by first | omega | (rw [List.length_take]; omega))) ?_)))))))))))
 rintro _ x6 ⟨dk, rfl, uk, ul, cd, am⟩
 have ca := grown_trans ft am
 refine Xb (Ya (Xa (Xw (q := decide (dk = 0)) Z Z Z Z (Xg (v := vb (decide (dk = 0))) Z Z (Xb (Xu Z (fun gi => ?_) (fun gi => ?_)))))))
 have vp := of_decide_eq_true gi
 refine Xx (Xy (ps := [(0, vi 0), (1, vi 10)]) (e := 3) (cs := (([0, 10] : List Int).flatMap icell).toArray) (Xk Z (Xk Z Xz)) (fun _ => by kernel_rfl) Z ?_)
 intro oh x7 aw
 have t2 := X9 aw ca
 have qx : hi ≤ oh := nt (nt hhs am.size) (Nat.le_of_eq aw.eq.symm)
 have kl := (ak.gn am)
 have k7 := Xn aw (kl).lt
 have km := (dc.gn am)
 have lg := Xn aw (km).lt
 have n5 := Xn aw (cd).lt
 have il := low0 ca aw.grw
 refine Xc (v := pt R 0) ao Z (Xm Yt (Xf Z (Xf Z Xl)) Z (Yh (p1 + 1) 2 (by omega) _ R bs _ _ _ (cd.grown0 aw.grw) (by omega) (SlLt.low1 hs il hlo) (by first | exact hb | exact fun b h => hb b (List.mem_of_mem_take h)) (by first | omega | (rw [List.length_take]; omega))) ?_)
 rintro _ x8 ⟨g6, rfl, um, un, my, d3⟩
 refine X1 (o' := (g6).toNat * 1) Je Z Z (by omega) (by omega) (by omega) Z ?_
 obtain ⟨bm, iw⟩ := Qa (l := ([0, 10] : List Int)) (i := (g6).toNat) (lq (g6).toNat 2)
 have mo := List.mem_of_getElem? iw
 simp only [List.mem_cons, List.not_mem_nil, or_false] at mo
 refine Xh (v := vi bm) X3 Z ((Y2 Yn (aw.blk.gn d3) iw) 0 _ Z) Z (Xd (o' := 0) Qu ae Z Z (Yb (v := vi bm) (cs' := #[vi bm, vi E, vi aa, vi G, vi J]) X3 Z Z Z ((km.grown0 aw.grw).gn d3) (Nat.le_of_ble_eq_true Z) Z ?_))
 intro x9 du
 refine Xb (Ys (Xr (Xa (Xp (vs := [vi bm, vi E, vi aa, vi G, vi J]) Yp ae Z (du.blk.rangeL 0 5 Z) Z (Xt (vs := [vi bm, vi E, vi aa, vi G, vi J]) (cs' := #[vi bm, vi E, vi aa, vi G, vi J]) Yp ad Z Z (by simp [Value.oneCell']) (((kl.grown0 aw.grw).gn d3).gn du.grw) (Nat.le_of_ble_eq_true Z) Z ?_)))))
 intro ya fg
 refine Xb (Xq ?_)
 refine ⟨.agg #[vi bm, vi E, vi aa, vi G, vi J], Qo Z (X7 (vs := [vi bm, vi E, vi aa, vi G, vi J]) Yp ad Z (fg.blk.rangeL 0 5 Z)), ⟨bm, E, aa, G, J⟩, (p1 + 1 + 1), Z, ⟨⟨show (0 : Int) ≤ bm by omega, show bm ≤ (10 : Int) by omega⟩, ⟨show (1 : Int) ≤ E by omega, show E ≤ (ms.length : Int) by omega⟩, ⟨show (-1 : Int) ≤ aa by omega, show aa ≤ (4 : Int) by omega⟩, ⟨show (0 : Int) ≤ G by omega, show G ≤ (3 : Int) by omega⟩, show (-1 : Int) ≤ J by omega, show J ≤ (100 : Int) by omega⟩, by omega, by omega, ((my.gn du.grw).gn fg.grw), (low1 (low1 (grown_trans il d3) du.grw (by omega)) fg.grw (by omega))⟩
 have vq := of_decide_eq_false gi
 refine Xa (Xw (q := decide (dk = 1)) Z Z Z Z (Xg (v := vb (decide (dk = 1))) Z Z (Xb (Xu Z (fun gj => ?_) (fun gj => ?_)))))
 have vr := of_decide_eq_true gj
 refine Xx (Xy (ps := [(0, vi (-1)), (1, vi 4)]) (e := 3) (cs := (([(-1), 4] : List Int).flatMap icell).toArray) (Xk Z (Xk Z Xz)) (fun _ => by kernel_rfl) Z ?_)
 intro ol yb az
 have t3 := X9 az ca
 have qy : hi ≤ ol := nt (nt hhs am.size) (Nat.le_of_eq az.eq.symm)
 have kn := (ak.gn am)
 have k8 := Xn az (kn).lt
 have ko := (dc.gn am)
 have lh := Xn az (ko).lt
 have n7 := Xn az (cd).lt
 have im := low0 ca az.grw
 refine Xc (v := pt R 0) ao Z (Xm Yt (Xf Z (Xf Z Xl)) Z (Yh (p1 + 1) 2 (by omega) _ R bs _ _ _ (cd.grown0 az.grw) (by omega) (SlLt.low1 hs im hlo) (by first | exact hb | exact fun b h => hb b (List.mem_of_mem_take h)) (by first | omega | (rw [List.length_take]; omega))) ?_)
 rintro _ yc ⟨g7, rfl, uo, ut, mz, d4⟩
 refine X1 (o' := (g7).toNat * 1) Je Z Z (by omega) (by omega) (by omega) Z ?_
 obtain ⟨bn, ix⟩ := Qa (l := ([(-1), 4] : List Int)) (i := (g7).toNat) (lq (g7).toNat 2)
 have mp := List.mem_of_getElem? ix
 simp only [List.mem_cons, List.not_mem_nil, or_false] at mp
 refine Xh (v := vi bn) X3 Z ((Y2 Yn (az.blk.gn d4) ix) 0 _ Z) Z (Xd (o' := 2) Jq ae Z Z (Yb (v := vi bn) (cs' := #[vi kk, vi E, vi bn, vi G, vi J]) X3 Z Z Z ((ko.grown0 az.grw).gn d4) (Nat.le_of_ble_eq_true Z) Z ?_))
 intro yd dv
 refine Xb (Ys (Xr (Xa (Xp (vs := [vi kk, vi E, vi bn, vi G, vi J]) Yp ae Z (dv.blk.rangeL 0 5 Z) Z (Xt (vs := [vi kk, vi E, vi bn, vi G, vi J]) (cs' := #[vi kk, vi E, vi bn, vi G, vi J]) Yp ad Z Z (by simp [Value.oneCell']) (((kn.grown0 az.grw).gn d4).gn dv.grw) (Nat.le_of_ble_eq_true Z) Z ?_)))))
 intro ye fh
 refine Xb (Xq ?_)
 refine ⟨.agg #[vi kk, vi E, vi bn, vi G, vi J], Qo Z (X7 (vs := [vi kk, vi E, vi bn, vi G, vi J]) Yp ad Z (fh.blk.rangeL 0 5 Z)), ⟨kk, E, bn, G, J⟩, (p1 + 1 + 1), Z, ⟨⟨show (0 : Int) ≤ kk by omega, show kk ≤ (10 : Int) by omega⟩, ⟨show (1 : Int) ≤ E by omega, show E ≤ (ms.length : Int) by omega⟩, ⟨show (-1 : Int) ≤ bn by omega, show bn ≤ (4 : Int) by omega⟩, ⟨show (0 : Int) ≤ G by omega, show G ≤ (3 : Int) by omega⟩, show (-1 : Int) ≤ J by omega, show J ≤ (100 : Int) by omega⟩, by omega, by omega, ((mz.gn dv.grw).gn fh.grw), (low1 (low1 (grown_trans im d4) dv.grw (by omega)) fh.grw (by omega))⟩
 have vt := of_decide_eq_false gj
 refine Xa (Xw (q := decide (dk = 2)) Z Z Z Z (Xg (v := vb (decide (dk = 2))) Z Z (Xb (Xu Z (fun gk => ?_) (fun gk => ?_)))))
 have vu := of_decide_eq_true gk
 refine Xx (Xy (ps := [(0, vi (-1)), (1, vi 100)]) (e := 3) (cs := (([(-1), 100] : List Int).flatMap icell).toArray) (Xk Z (Xk Z Xz)) (fun _ => by kernel_rfl) Z ?_)
 intro om yf a8
 have t4 := X9 a8 ca
 have qz : hi ≤ om := nt (nt hhs am.size) (Nat.le_of_eq a8.eq.symm)
 have kp := (ak.gn am)
 have k9 := Xn a8 (kp).lt
 have kq := (dc.gn am)
 have li := Xn a8 (kq).lt
 have n9 := Xn a8 (cd).lt
 have io := low0 ca a8.grw
 refine Xc (v := pt R 0) ao Z (Xm Yt (Xf Z (Xf Z Xl)) Z (Yh (p1 + 1) 2 (by omega) _ R bs _ _ _ (cd.grown0 a8.grw) (by omega) (SlLt.low1 hs io hlo) (by first | exact hb | exact fun b h => hb b (List.mem_of_mem_take h)) (by first | omega | (rw [List.length_take]; omega))) ?_)
 rintro _ yg ⟨g8, rfl, uu, uv, m3, d5⟩
 refine X1 (o' := (g8).toNat * 1) Je Z Z (by omega) (by omega) (by omega) Z ?_
 obtain ⟨bp, iy⟩ := Qa (l := ([(-1), 100] : List Int)) (i := (g8).toNat) (lq (g8).toNat 2)
 have mq := List.mem_of_getElem? iy
 simp only [List.mem_cons, List.not_mem_nil, or_false] at mq
 refine Xh (v := vi bp) X3 Z ((Y2 Yn (a8.blk.gn d5) iy) 0 _ Z) Z (Xd (o' := 4) K6 ae Z Z (Yb (v := vi bp) (cs' := #[vi kk, vi E, vi aa, vi G, vi bp]) X3 Z Z Z ((kq.grown0 a8.grw).gn d5) (Nat.le_of_ble_eq_true Z) Z ?_))
 intro yh dw
 refine Xb (Ys (Xr (Xa (Xp (vs := [vi kk, vi E, vi aa, vi G, vi bp]) Yp ae Z (dw.blk.rangeL 0 5 Z) Z (Xt (vs := [vi kk, vi E, vi aa, vi G, vi bp]) (cs' := #[vi kk, vi E, vi aa, vi G, vi bp]) Yp ad Z Z (by simp [Value.oneCell']) (((kp.grown0 a8.grw).gn d5).gn dw.grw) (Nat.le_of_ble_eq_true Z) Z ?_)))))
 intro yi fi
 refine Xb (Xq ?_)
 refine ⟨.agg #[vi kk, vi E, vi aa, vi G, vi bp], Qo Z (X7 (vs := [vi kk, vi E, vi aa, vi G, vi bp]) Yp ad Z (fi.blk.rangeL 0 5 Z)), ⟨kk, E, aa, G, bp⟩, (p1 + 1 + 1), Z, ⟨⟨show (0 : Int) ≤ kk by omega, show kk ≤ (10 : Int) by omega⟩, ⟨show (1 : Int) ≤ E by omega, show E ≤ (ms.length : Int) by omega⟩, ⟨show (-1 : Int) ≤ aa by omega, show aa ≤ (4 : Int) by omega⟩, ⟨show (0 : Int) ≤ G by omega, show G ≤ (3 : Int) by omega⟩, show (-1 : Int) ≤ bp by omega, show bp ≤ (100 : Int) by omega⟩, by omega, by omega, ((m3.gn dw.grw).gn fi.grw), (low1 (low1 (grown_trans io d5) dw.grw (by omega)) fi.grw (by omega))⟩
 have vv := of_decide_eq_false gk
 refine Xv (Ys (Xr (Xa (Xp (vs := [vi kk, vi E, vi aa, vi G, vi J]) Yp ae Z ((dc.gn am).rangeL 0 5 Z) Z (Xt (vs := [vi kk, vi E, vi aa, vi G, vi J]) (cs' := #[vi kk, vi E, vi aa, vi G, vi J]) Yp ad Z Z (by simp [Value.oneCell']) (ak.gn am) (Nat.le_of_ble_eq_true Z) Z ?_)))))
 intro yj fj
 refine Xb (Xq ?_)
 refine ⟨.agg #[vi kk, vi E, vi aa, vi G, vi J], Qo Z (X7 (vs := [vi kk, vi E, vi aa, vi G, vi J]) Yp ad Z (fj.blk.rangeL 0 5 Z)), ⟨kk, E, aa, G, J⟩, (p1 + 1), Z, ⟨⟨show (0 : Int) ≤ kk by omega, show kk ≤ (10 : Int) by omega⟩, ⟨show (1 : Int) ≤ E by omega, show E ≤ (ms.length : Int) by omega⟩, ⟨show (-1 : Int) ≤ aa by omega, show aa ≤ (4 : Int) by omega⟩, ⟨show (0 : Int) ≤ G by omega, show G ≤ (3 : Int) by omega⟩, show (-1 : Int) ≤ J by omega, show J ≤ (100 : Int) by omega⟩, by omega, by omega, (cd.gn fj.grw), (low1 ca fj.grw (by omega))⟩
end Go.Proofs.YtjpgffmkcmcolabDoor
end
section
namespace Go.Proofs.YtjpgffmkcmcolabDoor
open Go.RowKit Go.Dw
set_option maxRecDepth 100000
set_option maxHeartbeats 4000000
set_option linter.unusedSimpArgs false
set_option linter.unusedVariables false
theorem Vh : elemSz Tryd.prog 86 = some 1 := by kernel_rfl
theorem Vw : fieldOff Tryd.prog 38 2 = some 2 := by kernel_rfl
theorem Ml : goFn Tryd.prog 40 = true := by kernel_rfl
theorem Mm : goFn Tryd.prog 41 = true := by kernel_rfl
theorem Tc : goFn Tryd.prog 42 = true := by kernel_rfl
theorem Mn : goFn Tryd.prog 43 = true := by kernel_rfl
theorem L9 (q : Int) (w : World) : CallsR Tryd.prog 40 #[vi q] w (fun v w' => ∃ B : Nat, v = .slice (pa B) 4 4 ∧ w.heap.size ≤ B ∧ Blk w' B 4 #[vb (need0 q), vb (need1 q), vb (need0 q), vb (need1 q)] ∧ w.grownBy w' none) := by
 refine X0 (n := 12) Tryd.func40 Z Tryd.ntmps40 Z ?_
 have G := World.grownBy.refl w none
 refine Xa (Xg (v := .slice none 0 0) Z Z (Xb (Xs (Xa (Xc (v := vi q) Z Z (Xb (Ya (Xs (Xa (Xw (q := decide (q = 1)) Z Z Z Z (Xg (v := vb (decide (q = 1))) Z Z (Xb ?_))))))))))))
 refine Xu Z (fun ac => ?_) (fun ac => ?_)
 have ao := of_decide_eq_true ac
 refine Xv (Xr (Y3 Z ac (Xa (Xy (ps := [(0, vb true), (1, vb false), (2, vb true), (3, vb false)]) (e := 4) (cs := #[vb true, vb false, vb true, vb false]) (Xk Z (Xk Z (Xk Z (Xk Z Xz)))) (fun _ => by kernel_rfl) Z ?_))))
 intro ae au J
 have ak := X9 J G
 refine Xg (v := .slice (pa ae) 4 4) Z Z (Xb (Xq (Y5 (Ye ?_))))
 have e0 : need0 q = true := by unfold need0; simp [ao]
 have e1 : need1 q = false := by unfold need1; simp [ao]
 refine ⟨.slice (pa ae) 4 4, Yy Z Z, ae, Z, ak, ?_, (low0 G J.grw)⟩
 rw [e0, e1]
 exact J.blk
 have E := of_decide_eq_false ac
 refine Xx (Xw (q := decide (q = 4)) Z Z Z Z (Xg (v := vb (decide (q = 4))) Z Z (Xb (Xr (Xu Z (fun ai => ?_) (fun ai => ?_))))))
 have ap := of_decide_eq_true ai
 refine Xa (Xy (ps := [(0, vb true), (1, vb false), (2, vb true), (3, vb false)]) (e := 4) (cs := #[vb true, vb false, vb true, vb false]) (Xk Z (Xk Z (Xk Z (Xk Z Xz)))) (fun _ => by kernel_rfl) Z ?_)
 intro af av O
 have al := X9 O G
 refine Xg (v := .slice (pa af) 4 4) Z Z (Xb (Xq (Y5 (Ye ?_))))
 have e0 : need0 q = true := by unfold need0; simp [E, ap]
 have e1 : need1 q = false := by unfold need1; simp [E, ap]
 refine ⟨.slice (pa af) 4 4, Yy Z Z, af, Z, al, ?_, (low0 G O.grw)⟩
 rw [e0, e1]
 exact O.blk
 have ad := of_decide_eq_false ai
 refine Xa (Xw (q := decide (q = 7)) Z Z Z Z (Xg (v := vb (decide (q = 7))) Z Z (Xb (Xu Z (fun aj => ?_) (fun aj => ?_)))))
 have aq := of_decide_eq_true aj
 refine Xa (Xy (ps := [(0, vb true), (1, vb true), (2, vb true), (3, vb true)]) (e := 4) (cs := #[vb true, vb true, vb true, vb true]) (Xk Z (Xk Z (Xk Z (Xk Z Xz)))) (fun _ => by kernel_rfl) Z ?_)
 intro ag aw V
 have am := X9 V G
 refine Xg (v := .slice (pa ag) 4 4) Z Z (Xb (Xq (Y5 (Ye ?_))))
 have e0 : need0 q = true := by unfold need0; simp [E, ad, aq]
 have e1 : need1 q = true := by unfold need1; simp [E, ad, aq]
 refine ⟨.slice (pa ag) 4 4, Yy Z Z, ag, Z, am, ?_, (low0 G V.grw)⟩
 rw [e0, e1]
 exact V.blk
 have ar := of_decide_eq_false aj
 refine Xv (Ys (Xr (Xa (Xy (ps := [(0, vb false), (1, vb true), (2, vb false), (3, vb true)]) (e := 4) (cs := #[vb false, vb true, vb false, vb true]) (Xk Z (Xk Z (Xk Z (Xk Z Xz)))) (fun _ => by kernel_rfl) Z ?_))))
 intro ah az ab
 have an := X9 ab G
 refine Xg (v := .slice (pa ah) 4 4) Z Z (Xb (Xq ?_))
 have e0 : need0 q = false := by unfold need0; simp [E, ad, ar]
 have e1 : need1 q = true := by unfold need1; simp [E, ad, ar]
 refine ⟨.slice (pa ah) 4 4, Yy Z Z, ah, Z, an, ?_, (low0 G ab.grw)⟩
 rw [e0, e1]
 exact ab.blk
theorem L8 (q : Cl) (w : World) (ms : List MTh) (a : Option Addr) (c : Nat) (ht : TabAt w a ms) (hlen : TabLen ms) (hn : ms.length ≤ 1048576) (hT : tableOk (tabT ms) = true) (hc : callOk q = true) (hk : kindAt (tabT ms) q.run 3 = true) : CallsR Tryd.prog 18 #[.slice a ms.length c, .agg #[vi q.kind, vi q.run, vi q.a, vi q.b, vi q.n]] w (fun v w' => v = vi (check1 (tabT ms) q) ∧ w.grownBy w' none) := by
 refine X0 (n := 95) Tryd.func18 Z Tryd.ntmps18 Z ?_
 have jo := World.grownBy.refl w none
 have hco := Q2 hc
 have hkp := (Js hk).1
 have h4 := Vy hT hk
 refine Xa (Yr (v := .agg #[vi q.kind, vi q.run, vi q.a, vi q.b, vi q.n]) (cs := #[vi q.kind, vi q.run, vi q.a, vi q.b, vi q.n]) Z Z Z ?_)
 intro a9 eo bd
 have js := X9 bd jo
 have bn := low0 jo bd.grw
 refine Xg (v := vi 0) Z Z (Xb (Xs (Xa (Xd (o' := 0) Qu Z Z Z (Xh (v := vi q.kind) X3 Z (bd.blk.cell Z) Z (Xw (q := decide (q.kind = 3)) Z Z Z Z (Xb (Xu Z (fun O => ?_) (fun O => ?_)))))))))
 have kf := of_decide_eq_true O
 refine Xa (Xg (v := vi 0) Z Z (Xb (Xq (Ye (⟨vi 0, Yy Z Z, ?_, bn⟩)))))
 exact congrArg (Value.int .i64) (Wc O)
 have kg := of_decide_eq_false O
 refine Xv (Xr (Xs ?_))
 obtain ⟨d4, kk, dn, fa, gx, g9⟩ := SlAt.at (TabAt.low ht bn).1 (Yi (xg ms (q.run - 1).toNat))
 have jv := TabLen.at hlen (xg ms (q.run - 1).toNat)
 obtain ⟨im, kl, jq, fb, gy, ia⟩ := SlAt.at (TabAt.th (TabAt.low ht bn) (xg ms (q.run - 1).toNat)).1 (Yi (xr (mAt ms (q.run - 1).toNat).t.slots (q.a).toNat))
 have j3 := Lh hT (lq (q.run - 1).toNat ms.length) (lq (q.a).toNat (mAt ms (q.run - 1).toNat).t.slots.length)
 refine J3 (m := 12) [[], [], [1], [1, 2], [0, 1, 2, 3], [0, 1, 2, 3, 4], [0, 1, 2, 3, 4, 5], [], [7], [0, 1, 2, 3, 4, 5, 6, 7, 8], [0, 1, 2, 3, 4, 5, 6, 7, 8, 9], [], [0, 1, 2, 3, 4, 5, 6, 7, 8, 9, 10, 11]] (fun S F w' => ∃ (J : Nat), eo.grownBy w' none ∧ F 0 = .slice a ms.length c ∧ F 3 = pt a9 0 ∧ F 4 = vi 0 ∧ (S 11 = true → F 5 = pt J 0 ∧ w.heap.size ≤ J ∧ Blk w' J 38 #[vi 0, vi 0, vb false, vb false, vb false] ∧ a9 < J ∧ eo.heap.size ≤ J) ∧ Vals S F [(0, 11, .slice a ms.length c), (1, 12, pt a9 1), (2, 13, vi q.run), (3, 14, vi (q.run - 1)), (4, 15, pt d4 dn), (5, 16, pt d4 (dn + 5)), (6, 17, .slice (mAt ms (q.run - 1).toNat).sa (mAt ms (q.run - 1).toNat).t.slots.length (mAt ms (q.run - 1).toNat).sc), (7, 18, pt a9 2), (8, 19, vi q.a), (9, 20, pt im jq), (10, 21, .agg #[vi (rAt (mAt ms (q.run - 1).toNat).t.slots (q.a).toNat).th, vi (rAt (mAt ms (q.run - 1).toNat).t.slots (q.a).toNat).ve, vb (rAt (mAt ms (q.run - 1).toNat).t.slots (q.a).toNat).rd, vb (rAt (mAt ms (q.run - 1).toNat).t.slots (q.a).toNat).wr, vb (rAt (mAt ms (q.run - 1).toNat).t.slots (q.a).toNat).wk])]) Qb (by kernel_rfl) ⟨0, Yf _, Z, Z, Z, Y4, Vn _⟩ ?_ ?_
 refine X5 (fun S F ks hS hbef hcl hI => ?_) ?_
 obtain ⟨J, fj, eb, io, ip, af, hvs⟩ := hI
 exact Xc (v := .slice a ms.length c) eb Z (Xb ⟨J, fj, eb, io, ip, af, Vals.up 0 hvs Z Z Z⟩)
 refine X5 (fun S F kt hS hbef hcl hI => ?_) ?_
 obtain ⟨J, fk, iq, ed, ir, af, hvs⟩ := hI
 exact Xd (o' := 1) Qn ed Z Z (Xb ⟨J, fk, iq, ed, ir, af, Vals.up 1 hvs Z Z Z⟩)
 refine X5 (fun S F ku hS hbef hcl hI => ?_) ?_
 obtain ⟨J, de, it, iu, iv, af, hvs⟩ := hI
 exact Xh (v := vi q.run) X3 (Vals.at 1 hvs Z (X4 1 hbef Z)) ((bd.blk.grown0 de).cell Z) Z (Xb ⟨J, de, it, iu, iv, af, Vals.up 2 hvs Z Z Z⟩)
 refine X5 (fun S F kv hS hbef hcl hI => ?_) ?_
 obtain ⟨J, fm, iw, ix, iy, af, hvs⟩ := hI
 exact Y0 (c := q.run - 1) (Vals.at 2 hvs Z (X4 2 hbef Z)) Z (by omega) (by omega) (by omega) Z (Xb ⟨J, fm, iw, ix, iy, af, Vals.up 3 hvs Z Z Z⟩)
 refine X5 (fun S F kw hS hbef hcl hI => ?_) ?_
 obtain ⟨J, fo, iz, i0, i1, af, hvs⟩ := hI
 exact X8 Y7 (Vals.at 0 hvs Z (X4 0 hbef Z)) (Vals.at 3 hvs Z (X4 3 hbef Z)) fa gx (by omega) (by omega) Z (Xb ⟨J, fo, iz, i0, i1, af, Vals.up 4 hvs Z Z Z⟩)
 refine X5 (fun S F kx hS hbef hcl hI => ?_) ?_
 obtain ⟨J, fp, i2, i3, i4, af, hvs⟩ := hI
 exact Xd (o' := dn + 5) Qr (Vals.at 4 hvs Z (X4 4 hbef Z)) Z Z (Xb ⟨J, fp, i2, i3, i4, af, Vals.up 5 hvs Z Z Z⟩)
 refine X5 (fun S F ky hS hbef hcl hI => ?_) ?_
 obtain ⟨J, df, i5, i6, i7, af, hvs⟩ := hI
 exact Xh (v := .slice (mAt ms (q.run - 1).toNat).sa (mAt ms (q.run - 1).toNat).t.slots.length (mAt ms (q.run - 1).toNat).sc) Jo (Vals.at 5 hvs Z (X4 5 hbef Z)) ((Yo g9 df) 5 _ Z) Z (Xb ⟨J, df, i5, i6, i7, af, Vals.up 6 hvs Z Z Z⟩)
 refine X5 (fun S F kz hS hbef hcl hI => ?_) ?_
 obtain ⟨J, fq, i8, ee, i9, af, hvs⟩ := hI
 exact Xd (o' := 2) Jq ee Z Z (Xb ⟨J, fq, i8, ee, i9, af, Vals.up 7 hvs Z Z Z⟩)
 refine X5 (fun S F k0 hS hbef hcl hI => ?_) ?_
 obtain ⟨J, dg, ja, jb, jc, af, hvs⟩ := hI
 exact Xh (v := vi q.a) X3 (Vals.at 7 hvs Z (X4 7 hbef Z)) ((bd.blk.grown0 dg).cell Z) Z (Xb ⟨J, dg, ja, jb, jc, af, Vals.up 8 hvs Z Z Z⟩)
 refine X5 (fun S F k3 hS hbef hcl hI => ?_) ?_
 obtain ⟨J, fr, jd, je, jf, af, hvs⟩ := hI
 exact X8 V1 (Vals.at 6 hvs Z (X4 6 hbef Z)) (Vals.at 8 hvs Z (X4 8 hbef Z)) fb gy (by omega) (by omega) Z (Xb ⟨J, fr, jd, je, jf, af, Vals.up 9 hvs Z Z Z⟩)
 refine X5 (fun S F k4 hS hbef hcl hI => ?_) ?_
 obtain ⟨J, dh, jg, jh, ji, af, hvs⟩ := hI
 exact Xp (vs := [vi (rAt (mAt ms (q.run - 1).toNat).t.slots (q.a).toNat).th, vi (rAt (mAt ms (q.run - 1).toNat).t.slots (q.a).toNat).ve, vb (rAt (mAt ms (q.run - 1).toNat).t.slots (q.a).toNat).rd, vb (rAt (mAt ms (q.run - 1).toNat).t.slots (q.a).toNat).wr, vb (rAt (mAt ms (q.run - 1).toNat).t.slots (q.a).toNat).wk]) Yv (Vals.at 9 hvs Z (X4 9 hbef Z)) Z (Qi (Yo ia dh) 0 5 Z) Z (Xb ⟨J, dh, jg, jh, ji, af, Vals.up 10 hvs Z Z Z⟩)
 refine X5 (fun S F k5 hS hbef hcl hI => ?_) ?_
 obtain ⟨J, bz, jj, jk, jl, af, hvs⟩ := hI
 refine Yd (cs := #[vi 0, vi 0, vb false, vb false, vb false]) Ks Z Z ?_
 intro il k6 bm
 have d3 := X9 bm (low0 bn bz)
 have bp := Xn bm ((bd.blk.grown0 bz)).lt
 exact Xb ⟨il, (low0 bz bm.grw), jj, jk, jl, fun _ => ⟨Z, d3, bm.blk, bp, (nt bz.size (Nat.le_of_eq bm.eq.symm))⟩, Vals.keep hvs Z⟩
 exact Ke
 intro S F k7 hall hI
 obtain ⟨J, di, a8, ar, bk, af, hvs⟩ := hI
 obtain ⟨ae, jt, dm, dw, jp⟩ := af (hall 11 (by decide))
 refine Xt (vs := [vi (rAt (mAt ms (q.run - 1).toNat).t.slots (q.a).toNat).th, vi (rAt (mAt ms (q.run - 1).toNat).t.slots (q.a).toNat).ve, vb (rAt (mAt ms (q.run - 1).toNat).t.slots (q.a).toNat).rd, vb (rAt (mAt ms (q.run - 1).toNat).t.slots (q.a).toNat).wr, vb (rAt (mAt ms (q.run - 1).toNat).t.slots (q.a).toNat).wk]) (cs' := #[vi (rAt (mAt ms (q.run - 1).toNat).t.slots (q.a).toNat).th, vi (rAt (mAt ms (q.run - 1).toNat).t.slots (q.a).toNat).ve, vb (rAt (mAt ms (q.run - 1).toNat).t.slots (q.a).toNat).rd, vb (rAt (mAt ms (q.run - 1).toNat).t.slots (q.a).toNat).wr, vb (rAt (mAt ms (q.run - 1).toNat).t.slots (q.a).toNat).wk]) Yv ae (Vals.at 10 hvs Z (hall 10 (by decide))) Z (by simp [Value.oneCell']) dm (Nat.le_of_ble_eq_true Z) Z ?_
 intro k8 ab
 have db := low1 (low0 bn di) ab.grw (by omega)
 refine Xb (Xr (Xa (Xd (o' := 0) Qu ar Z Z ?_)))
 have bg := ((bd.blk.grown0 di).gn ab.grw)
 refine Xh (v := vi q.kind) X3 Z (bg.cell Z) Z (Xm Ml (Xf Z Xl) Z (L9 q.kind _) ?_)
 rintro _ bj ⟨aq, rfl, bx, bq, V⟩
 have be := low0 db V
 have ju := nt db.size bx
 have dx := nl (bg).lt bx
 have dy := nl (ab.blk).lt bx
 refine Xg (v := .slice (pa aq) 4 4) Z Z (Xb (Xs (Jp (fun f' w' => (f' 0 = .slice a ms.length c ∧ f' 3 = pt a9 0 ∧ f' 4 = vi 0 ∧ f' 5 = pt J 0 ∧ f' 6 = .slice (pa aq) 4 4 ∧ f' 60 = vb ((((decide ((rAt (mAt ms (q.run - 1).toNat).t.slots (q.a).toNat).th = 0)) || (!kindFor q.kind (mAt ms ((rAt (mAt ms (q.run - 1).toNat).t.slots (q.a).toNat).th - 1).toNat).t.kind)) || (need0 q.kind && (!(rAt (mAt ms (q.run - 1).toNat).t.slots (q.a).toNat).rd))) || (need1 q.kind && (!(rAt (mAt ms (q.run - 1).toNat).t.slots (q.a).toNat).wr)))) ∧ bj.grownBy w' none) ?_ ?_)))
 rcases X6 (decide ((rAt (mAt ms (q.run - 1).toNat).t.slots (q.a).toNat).th = 0)) with E | E
 have kh := of_decide_eq_true E
 refine Y8 (m := 13) (vals := [(25, pt J 0), (26, vi (rAt (mAt ms (q.run - 1).toNat).t.slots (q.a).toNat).th), (27, vb (decide ((rAt (mAt ms (q.run - 1).toNat).t.slots (q.a).toNat).th = 0))), (28, vb (decide ((rAt (mAt ms (q.run - 1).toNat).t.slots (q.a).toNat).th = 0))), (29, undef), (30, undef), (31, undef), (32, undef), (33, undef), (34, undef), (35, undef), (36, undef), (37, undef)]) (fun w' => bj.grownBy w' none) Qb (by kernel_rfl) (Yf _) ?_ ?_
 refine yl Z (fun _ _ k => Xd (o' := 0) Ym ae Z Z k) (yl Z (fun _ ft k => Xh (v := vi (rAt (mAt ms (q.run - 1).toNat).t.slots (q.a).toNat).th) X3 Z (((ab.blk.grown0 V).grown0 ft).cell Z) Z k) (yl Z (fun _ _ k => Xw (q := decide ((rAt (mAt ms (q.run - 1).toNat).t.slots (q.a).toNat).th = 0)) Z Z Z Z k) (yl Z (fun _ _ k => Xc (v := vb (decide ((rAt (mAt ms (q.run - 1).toNat).t.slots (q.a).toNat).th = 0))) Z Z k) (yl Z (fun _ _ k => Xi Z Z Z E Z k) (yl Z (fun _ _ k => Xi Z Z Z E Z k) (yl Z (fun _ _ k => Xi Z Z Z E Z k) (yl Z (fun _ _ k => Xi Z Z Z E Z k) (yl Z (fun _ _ k => Xi Z Z Z E Z k) (yl Z (fun _ _ k => Xi Z Z Z E Z k) (yl Z (fun _ _ k => Xi Z Z Z E Z k) ?_))))))))))
 exact yl Z (fun _ _ k => Xi Z Z Z E Z k) (yl Z (fun _ _ k => Xi Z Z Z E Z k) Qd)
 intro k9 fu
 refine Xi Z Z Z E Z (Xi Z Z Z E Z (Xo (v := vb true) Z E Z Z (Xc (v := vb true) Z Z ?_)))
 iterate 4 refine Xi rfl rfl rfl rfl rfl ?_
 iterate 3 refine Yc rfl rfl rfl rfl ?_
 refine Xi Z Z Z Z Z (Xo (v := vb true) Z Z Z Z (Xc (v := vb true) Z Z ?_))
 iterate 4 refine Xi rfl rfl rfl rfl rfl ?_
 iterate 3 refine Yc rfl rfl rfl rfl ?_
 exact Xi Z Z Z Z Z (Xo (v := vb true) Z Z Z Z (Xb (Xr ⟨⟨a8, ar, bk, ae, Z, (congrArg Value.bool (by first | (simp only [O, E, hT, b0, b1, b2, b3, b4, b5, b6, b7, b8, b9]; done) | simp [O, E, hT]))⟩, fu⟩)))
 have ki := of_decide_eq_false E
 rcases X6 (!kindFor q.kind (mAt ms ((rAt (mAt ms (q.run - 1).toNat).t.slots (q.a).toNat).th - 1).toNat).t.kind) with G | G
 have ef := Q8 G
 obtain ⟨d5, km, dp, fc, gz, ib⟩ := SlAt.at (TabAt.low ht be).1 (Yi (xg ms ((rAt (mAt ms (q.run - 1).toNat).t.slots (q.a).toNat).th - 1).toNat))
 have jw := TabLen.at hlen (xg ms ((rAt (mAt ms (q.run - 1).toNat).t.slots (q.a).toNat).th - 1).toNat)
 refine Y8 (m := 13) (vals := [(25, pt J 0), (26, vi (rAt (mAt ms (q.run - 1).toNat).t.slots (q.a).toNat).th), (27, vb (decide ((rAt (mAt ms (q.run - 1).toNat).t.slots (q.a).toNat).th = 0))), (28, vb (decide ((rAt (mAt ms (q.run - 1).toNat).t.slots (q.a).toNat).th = 0))), (29, pt a9 0), (30, vi q.kind), (31, .slice a ms.length c), (32, pt J 0), (33, vi (rAt (mAt ms (q.run - 1).toNat).t.slots (q.a).toNat).th), (34, vi ((rAt (mAt ms (q.run - 1).toNat).t.slots (q.a).toNat).th - 1)), (35, pt d5 dp), (36, pt d5 dp), (37, vi (mAt ms ((rAt (mAt ms (q.run - 1).toNat).t.slots (q.a).toNat).th - 1).toNat).t.kind)]) (fun w' => bj.grownBy w' none) Qb (by kernel_rfl) (Yf _) ?_ ?_
 refine yl Z (fun _ _ k => Xd (o' := 0) Ym ae Z Z k) (yl Z (fun _ fv k => Xh (v := vi (rAt (mAt ms (q.run - 1).toNat).t.slots (q.a).toNat).th) X3 Z (((ab.blk.grown0 V).grown0 fv).cell Z) Z k) (yl Z (fun _ _ k => Xw (q := decide ((rAt (mAt ms (q.run - 1).toNat).t.slots (q.a).toNat).th = 0)) Z Z Z Z k) (yl Z (fun _ _ k => Xc (v := vb (decide ((rAt (mAt ms (q.run - 1).toNat).t.slots (q.a).toNat).th = 0))) Z Z k) (yl Z (fun _ _ k => Xe Z Z Z E (Xd (o' := 0) Qu ar Z Z k)) (yl Z (fun _ fw k => Xe Z Z Z E (Xh (v := vi q.kind) X3 Z (((bg.grown0 V).grown0 fw).cell Z) Z k)) (yl Z (fun _ _ k => Xe Z Z Z E (Xc (v := .slice a ms.length c) a8 Z k)) (yl Z (fun _ _ k => Xe Z Z Z E (Xd (o' := 0) Ym ae Z Z k)) (yl Z (fun _ fx k => Xe Z Z Z E (Xh (v := vi (rAt (mAt ms (q.run - 1).toNat).t.slots (q.a).toNat).th) X3 Z (((ab.blk.grown0 V).grown0 fx).cell Z) Z k)) (yl Z (fun _ _ k => Xe Z Z Z E (Y0 (c := (rAt (mAt ms (q.run - 1).toNat).t.slots (q.a).toNat).th - 1) Z Z (by omega) (by omega) (by omega) Z k)) (yl Z (fun _ _ k => Xe Z Z Z E (X8 Y7 Z Z fc gz (by omega) (by omega) Z k)) ?_))))))))))
 exact yl Z (fun _ _ k => Xe Z Z Z E (Xd (o' := dp) Yl Z Z Z k)) (yl Z (fun _ fy k => Xe Z Z Z E (Xh (v := vi (mAt ms ((rAt (mAt ms (q.run - 1).toNat).t.slots (q.a).toNat).th - 1).toNat).t.kind) X3 Z ((Yo ib fy) 0 _ Z) Z k)) Qd)
 intro la fz
 refine Xe Z Z Z E (Xm Wh (Xf Z (Xf Z Xl)) Z (J7 q.kind (mAt ms ((rAt (mAt ms (q.run - 1).toNat).t.slots (q.a).toNat).th - 1).toNat).t.kind _) ?_)
 rintro _ lc ⟨rfl, fi⟩
 refine Xe Z Z Z E (Yg (b' := !kindFor q.kind (mAt ms ((rAt (mAt ms (q.run - 1).toNat).t.slots (q.a).toNat).th - 1).toNat).t.kind) Z Z Z (Xj (v := vb (!kindFor q.kind (mAt ms ((rAt (mAt ms (q.run - 1).toNat).t.slots (q.a).toNat).th - 1).toNat).t.kind)) Z E Z Z (Xc (v := vb (!kindFor q.kind (mAt ms ((rAt (mAt ms (q.run - 1).toNat).t.slots (q.a).toNat).th - 1).toNat).t.kind)) Z Z ?_)))
 iterate 4 refine Xi rfl rfl rfl G rfl ?_
 iterate 3 refine Yc rfl rfl rfl rfl ?_
 refine Xi Z Z Z G Z (Xo (v := vb true) Z G Z Z (Xc (v := vb true) Z Z ?_))
 iterate 4 refine Xi rfl rfl rfl rfl rfl ?_
 iterate 3 refine Yc rfl rfl rfl rfl ?_
 exact Xi Z Z Z Z Z (Xo (v := vb true) Z Z Z Z (Xb (Xr ⟨⟨a8, ar, bk, ae, Z, (congrArg Value.bool (by first | (simp only [O, E, G, ef, hT, b0, b1, b2, b3, b4, b5, b6, b7, b8, b9]; done) | simp [O, E, G, ef, hT]))⟩, (grown_trans fz fi)⟩)))
 have bc := Qp G
 rcases X6 (need0 q.kind) with ad | ad
 rcases X6 (!(rAt (mAt ms (q.run - 1).toNat).t.slots (q.a).toNat).rd) with ag | ag
 have eg := Q8 ag
 obtain ⟨d6, kn, dq, fd, g0, ic⟩ := SlAt.at (TabAt.low ht be).1 (Yi (xg ms ((rAt (mAt ms (q.run - 1).toNat).t.slots (q.a).toNat).th - 1).toNat))
 have jx := TabLen.at hlen (xg ms ((rAt (mAt ms (q.run - 1).toNat).t.slots (q.a).toNat).th - 1).toNat)
 refine Y8 (m := 13) (vals := [(25, pt J 0), (26, vi (rAt (mAt ms (q.run - 1).toNat).t.slots (q.a).toNat).th), (27, vb (decide ((rAt (mAt ms (q.run - 1).toNat).t.slots (q.a).toNat).th = 0))), (28, vb (decide ((rAt (mAt ms (q.run - 1).toNat).t.slots (q.a).toNat).th = 0))), (29, pt a9 0), (30, vi q.kind), (31, .slice a ms.length c), (32, pt J 0), (33, vi (rAt (mAt ms (q.run - 1).toNat).t.slots (q.a).toNat).th), (34, vi ((rAt (mAt ms (q.run - 1).toNat).t.slots (q.a).toNat).th - 1)), (35, pt d6 dq), (36, pt d6 dq), (37, vi (mAt ms ((rAt (mAt ms (q.run - 1).toNat).t.slots (q.a).toNat).th - 1).toNat).t.kind)]) (fun w' => bj.grownBy w' none) Qb (by kernel_rfl) (Yf _) ?_ ?_
 refine yl Z (fun _ _ k => Xd (o' := 0) Ym ae Z Z k) (yl Z (fun _ f8 k => Xh (v := vi (rAt (mAt ms (q.run - 1).toNat).t.slots (q.a).toNat).th) X3 Z (((ab.blk.grown0 V).grown0 f8).cell Z) Z k) (yl Z (fun _ _ k => Xw (q := decide ((rAt (mAt ms (q.run - 1).toNat).t.slots (q.a).toNat).th = 0)) Z Z Z Z k) (yl Z (fun _ _ k => Xc (v := vb (decide ((rAt (mAt ms (q.run - 1).toNat).t.slots (q.a).toNat).th = 0))) Z Z k) (yl Z (fun _ _ k => Xe Z Z Z E (Xd (o' := 0) Qu ar Z Z k)) (yl Z (fun _ f9 k => Xe Z Z Z E (Xh (v := vi q.kind) X3 Z (((bg.grown0 V).grown0 f9).cell Z) Z k)) (yl Z (fun _ _ k => Xe Z Z Z E (Xc (v := .slice a ms.length c) a8 Z k)) (yl Z (fun _ _ k => Xe Z Z Z E (Xd (o' := 0) Ym ae Z Z k)) (yl Z (fun _ ga k => Xe Z Z Z E (Xh (v := vi (rAt (mAt ms (q.run - 1).toNat).t.slots (q.a).toNat).th) X3 Z (((ab.blk.grown0 V).grown0 ga).cell Z) Z k)) (yl Z (fun _ _ k => Xe Z Z Z E (Y0 (c := (rAt (mAt ms (q.run - 1).toNat).t.slots (q.a).toNat).th - 1) Z Z (by omega) (by omega) (by omega) Z k)) (yl Z (fun _ _ k => Xe Z Z Z E (X8 Y7 Z Z fd g0 (by omega) (by omega) Z k)) ?_))))))))))
 exact yl Z (fun _ _ k => Xe Z Z Z E (Xd (o' := dq) Yl Z Z Z k)) (yl Z (fun _ gb k => Xe Z Z Z E (Xh (v := vi (mAt ms ((rAt (mAt ms (q.run - 1).toNat).t.slots (q.a).toNat).th - 1).toNat).t.kind) X3 Z ((Yo ic gb) 0 _ Z) Z k)) Qd)
 intro ld ck
 refine Xe Z Z Z E (Xm Wh (Xf Z (Xf Z Xl)) Z (J7 q.kind (mAt ms ((rAt (mAt ms (q.run - 1).toNat).t.slots (q.a).toNat).th - 1).toNat).t.kind _) ?_)
 rintro _ le ⟨rfl, ce⟩
 refine Xe Z Z Z E (Yg (b' := !kindFor q.kind (mAt ms ((rAt (mAt ms (q.run - 1).toNat).t.slots (q.a).toNat).th - 1).toNat).t.kind) Z Z Z (Xj (v := vb (!kindFor q.kind (mAt ms ((rAt (mAt ms (q.run - 1).toNat).t.slots (q.a).toNat).th - 1).toNat).t.kind)) Z E Z Z (Xc (v := vb (!kindFor q.kind (mAt ms ((rAt (mAt ms (q.run - 1).toNat).t.slots (q.a).toNat).th - 1).toNat).t.kind)) Z Z (Xe Z Z Z G (Xc (v := .slice (pa aq) 4 4) Z Z (Xe Z Z Z G (X1 (o' := 0) Vh Z Z (by omega) (by omega) Z Z (Xe Z Z Z G (Xh (v := vb (need0 q.kind)) Q3 Z (((bq.grown0 ck).grown0 ce).cell Z) Z (Xe Z Z Z G (Xc (v := vb (need0 q.kind)) Z Z (Xe Z Z Z ad ?_))))))))))))
 refine Xd (o' := 2) Vw ae Z Z (Xe Z Z Z ad (Xh (v := vb (rAt (mAt ms (q.run - 1).toNat).t.slots (q.a).toNat).rd) Q3 Z ((((ab.blk.grown0 V).grown0 ck).grown0 ce).cell Z) Z (Xe Z Z Z ad (Yg (b' := !(rAt (mAt ms (q.run - 1).toNat).t.slots (q.a).toNat).rd) Z Z Z (Xe Z Z Z G (Xo (v := vb (!(rAt (mAt ms (q.run - 1).toNat).t.slots (q.a).toNat).rd)) Z ad Z Z (Xj (v := vb (!(rAt (mAt ms (q.run - 1).toNat).t.slots (q.a).toNat).rd)) Z G Z Z (Xc (v := vb (!(rAt (mAt ms (q.run - 1).toNat).t.slots (q.a).toNat).rd)) Z Z ?_))))))))
 iterate 4 refine Xi rfl rfl rfl ag rfl ?_
 iterate 3 refine Yc rfl rfl rfl rfl ?_
 exact Xi Z Z Z ag Z (Xo (v := vb true) Z ag Z Z (Xb (Xr ⟨⟨a8, ar, bk, ae, Z, (congrArg Value.bool (by first | (simp only [O, E, G, bc, ad, ag, eg, hT, b0, b1, b2, b3, b4, b5, b6, b7, b8, b9]; done) | simp [O, E, G, bc, ad, ag, eg, hT]))⟩, (grown_trans ck ce)⟩)))
 have ct := Qp ag
 rcases X6 (need1 q.kind) with ba | ba
 obtain ⟨d7, ko, dr, fe, g5, ie⟩ := SlAt.at (TabAt.low ht be).1 (Yi (xg ms ((rAt (mAt ms (q.run - 1).toNat).t.slots (q.a).toNat).th - 1).toNat))
 have jy := TabLen.at hlen (xg ms ((rAt (mAt ms (q.run - 1).toNat).t.slots (q.a).toNat).th - 1).toNat)
 refine Y8 (m := 13) (vals := [(25, pt J 0), (26, vi (rAt (mAt ms (q.run - 1).toNat).t.slots (q.a).toNat).th), (27, vb (decide ((rAt (mAt ms (q.run - 1).toNat).t.slots (q.a).toNat).th = 0))), (28, vb (decide ((rAt (mAt ms (q.run - 1).toNat).t.slots (q.a).toNat).th = 0))), (29, pt a9 0), (30, vi q.kind), (31, .slice a ms.length c), (32, pt J 0), (33, vi (rAt (mAt ms (q.run - 1).toNat).t.slots (q.a).toNat).th), (34, vi ((rAt (mAt ms (q.run - 1).toNat).t.slots (q.a).toNat).th - 1)), (35, pt d7 dr), (36, pt d7 dr), (37, vi (mAt ms ((rAt (mAt ms (q.run - 1).toNat).t.slots (q.a).toNat).th - 1).toNat).t.kind)]) (fun w' => bj.grownBy w' none) Qb (by kernel_rfl) (Yf _) ?_ ?_
 refine yl Z (fun _ _ k => Xd (o' := 0) Ym ae Z Z k) (yl Z (fun _ gc k => Xh (v := vi (rAt (mAt ms (q.run - 1).toNat).t.slots (q.a).toNat).th) X3 Z (((ab.blk.grown0 V).grown0 gc).cell Z) Z k) (yl Z (fun _ _ k => Xw (q := decide ((rAt (mAt ms (q.run - 1).toNat).t.slots (q.a).toNat).th = 0)) Z Z Z Z k) (yl Z (fun _ _ k => Xc (v := vb (decide ((rAt (mAt ms (q.run - 1).toNat).t.slots (q.a).toNat).th = 0))) Z Z k) (yl Z (fun _ _ k => Xe Z Z Z E (Xd (o' := 0) Qu ar Z Z k)) (yl Z (fun _ gf k => Xe Z Z Z E (Xh (v := vi q.kind) X3 Z (((bg.grown0 V).grown0 gf).cell Z) Z k)) (yl Z (fun _ _ k => Xe Z Z Z E (Xc (v := .slice a ms.length c) a8 Z k)) (yl Z (fun _ _ k => Xe Z Z Z E (Xd (o' := 0) Ym ae Z Z k)) (yl Z (fun _ gg k => Xe Z Z Z E (Xh (v := vi (rAt (mAt ms (q.run - 1).toNat).t.slots (q.a).toNat).th) X3 Z (((ab.blk.grown0 V).grown0 gg).cell Z) Z k)) (yl Z (fun _ _ k => Xe Z Z Z E (Y0 (c := (rAt (mAt ms (q.run - 1).toNat).t.slots (q.a).toNat).th - 1) Z Z (by omega) (by omega) (by omega) Z k)) (yl Z (fun _ _ k => Xe Z Z Z E (X8 Y7 Z Z fe g5 (by omega) (by omega) Z k)) ?_))))))))))
 exact yl Z (fun _ _ k => Xe Z Z Z E (Xd (o' := dr) Yl Z Z Z k)) (yl Z (fun _ gh k => Xe Z Z Z E (Xh (v := vi (mAt ms ((rAt (mAt ms (q.run - 1).toNat).t.slots (q.a).toNat).th - 1).toNat).t.kind) X3 Z ((Yo ie gh) 0 _ Z) Z k)) Qd)
 intro lf cl
 refine Xe Z Z Z E (Xm Wh (Xf Z (Xf Z Xl)) Z (J7 q.kind (mAt ms ((rAt (mAt ms (q.run - 1).toNat).t.slots (q.a).toNat).th - 1).toNat).t.kind _) ?_)
 rintro _ lg ⟨rfl, cf⟩
 refine Xe Z Z Z E (Yg (b' := !kindFor q.kind (mAt ms ((rAt (mAt ms (q.run - 1).toNat).t.slots (q.a).toNat).th - 1).toNat).t.kind) Z Z Z (Xj (v := vb (!kindFor q.kind (mAt ms ((rAt (mAt ms (q.run - 1).toNat).t.slots (q.a).toNat).th - 1).toNat).t.kind)) Z E Z Z (Xc (v := vb (!kindFor q.kind (mAt ms ((rAt (mAt ms (q.run - 1).toNat).t.slots (q.a).toNat).th - 1).toNat).t.kind)) Z Z (Xe Z Z Z G (Xc (v := .slice (pa aq) 4 4) Z Z (Xe Z Z Z G (X1 (o' := 0) Vh Z Z (by omega) (by omega) Z Z (Xe Z Z Z G ?_))))))))
 have eh := ((bq.grown0 cl).grown0 cf)
 refine Xh (v := vb (need0 q.kind)) Q3 Z (eh.cell Z) Z (Xe Z Z Z G (Xc (v := vb (need0 q.kind)) Z Z (Xe Z Z Z ad (Xd (o' := 2) Vw ae Z Z (Xe Z Z Z ad ?_)))))
 have ei := (((ab.blk.grown0 V).grown0 cl).grown0 cf)
 refine Xh (v := vb (rAt (mAt ms (q.run - 1).toNat).t.slots (q.a).toNat).rd) Q3 Z (ei.cell Z) Z (Xe Z Z Z ad (Yg (b' := !(rAt (mAt ms (q.run - 1).toNat).t.slots (q.a).toNat).rd) Z Z Z (Xe Z Z Z G (Xo (v := vb (!(rAt (mAt ms (q.run - 1).toNat).t.slots (q.a).toNat).rd)) Z ad Z Z (Xj (v := vb (!(rAt (mAt ms (q.run - 1).toNat).t.slots (q.a).toNat).rd)) Z G Z Z (Xc (v := vb (!(rAt (mAt ms (q.run - 1).toNat).t.slots (q.a).toNat).rd)) Z Z (Xe Z Z Z ag (Xc (v := .slice (pa aq) 4 4) Z Z (Xe Z Z Z ag (X1 (o' := 1) Vh Z Z (by omega) (by omega) Z Z (Xe Z Z Z ag (Xh (v := vb (need1 q.kind)) Q3 Z (eh.cell Z) Z ?_))))))))))))
 exact Xe Z Z Z ag (Xc (v := vb (need1 q.kind)) Z Z (Xe Z Z Z ba (Xd (o' := 3) Ki ae Z Z (Xe Z Z Z ba (Xh (v := vb (rAt (mAt ms (q.run - 1).toNat).t.slots (q.a).toNat).wr) Q3 Z (ei.cell Z) Z (Xe Z Z Z ba (Yg (b' := !(rAt (mAt ms (q.run - 1).toNat).t.slots (q.a).toNat).wr) Z Z Z (Xe Z Z Z ag (Xo (v := vb (!(rAt (mAt ms (q.run - 1).toNat).t.slots (q.a).toNat).wr)) Z ba Z Z (Xj (v := vb (!(rAt (mAt ms (q.run - 1).toNat).t.slots (q.a).toNat).wr)) Z ag Z Z (Xb (Xr ⟨⟨a8, ar, bk, ae, Z, (congrArg Value.bool (by first | (simp only [O, E, G, bc, ad, ag, ct, ba, hT, b0, b1, b2, b3, b4, b5, b6, b7, b8, b9]; done) | simp [O, E, G, bc, ad, ag, ct, ba, hT]))⟩, (grown_trans cl cf)⟩))))))))))))
 obtain ⟨d8, kp, dt, ff, g6, ig⟩ := SlAt.at (TabAt.low ht be).1 (Yi (xg ms ((rAt (mAt ms (q.run - 1).toNat).t.slots (q.a).toNat).th - 1).toNat))
 have jz := TabLen.at hlen (xg ms ((rAt (mAt ms (q.run - 1).toNat).t.slots (q.a).toNat).th - 1).toNat)
 refine Y8 (m := 13) (vals := [(25, pt J 0), (26, vi (rAt (mAt ms (q.run - 1).toNat).t.slots (q.a).toNat).th), (27, vb (decide ((rAt (mAt ms (q.run - 1).toNat).t.slots (q.a).toNat).th = 0))), (28, vb (decide ((rAt (mAt ms (q.run - 1).toNat).t.slots (q.a).toNat).th = 0))), (29, pt a9 0), (30, vi q.kind), (31, .slice a ms.length c), (32, pt J 0), (33, vi (rAt (mAt ms (q.run - 1).toNat).t.slots (q.a).toNat).th), (34, vi ((rAt (mAt ms (q.run - 1).toNat).t.slots (q.a).toNat).th - 1)), (35, pt d8 dt), (36, pt d8 dt), (37, vi (mAt ms ((rAt (mAt ms (q.run - 1).toNat).t.slots (q.a).toNat).th - 1).toNat).t.kind)]) (fun w' => bj.grownBy w' none) Qb (by kernel_rfl) (Yf _) ?_ ?_
 refine yl Z (fun _ _ k => Xd (o' := 0) Ym ae Z Z k) (yl Z (fun _ gi k => Xh (v := vi (rAt (mAt ms (q.run - 1).toNat).t.slots (q.a).toNat).th) X3 Z (((ab.blk.grown0 V).grown0 gi).cell Z) Z k) (yl Z (fun _ _ k => Xw (q := decide ((rAt (mAt ms (q.run - 1).toNat).t.slots (q.a).toNat).th = 0)) Z Z Z Z k) (yl Z (fun _ _ k => Xc (v := vb (decide ((rAt (mAt ms (q.run - 1).toNat).t.slots (q.a).toNat).th = 0))) Z Z k) (yl Z (fun _ _ k => Xe Z Z Z E (Xd (o' := 0) Qu ar Z Z k)) (yl Z (fun _ gj k => Xe Z Z Z E (Xh (v := vi q.kind) X3 Z (((bg.grown0 V).grown0 gj).cell Z) Z k)) (yl Z (fun _ _ k => Xe Z Z Z E (Xc (v := .slice a ms.length c) a8 Z k)) (yl Z (fun _ _ k => Xe Z Z Z E (Xd (o' := 0) Ym ae Z Z k)) (yl Z (fun _ gk k => Xe Z Z Z E (Xh (v := vi (rAt (mAt ms (q.run - 1).toNat).t.slots (q.a).toNat).th) X3 Z (((ab.blk.grown0 V).grown0 gk).cell Z) Z k)) (yl Z (fun _ _ k => Xe Z Z Z E (Y0 (c := (rAt (mAt ms (q.run - 1).toNat).t.slots (q.a).toNat).th - 1) Z Z (by omega) (by omega) (by omega) Z k)) (yl Z (fun _ _ k => Xe Z Z Z E (X8 Y7 Z Z ff g6 (by omega) (by omega) Z k)) ?_))))))))))
 exact yl Z (fun _ _ k => Xe Z Z Z E (Xd (o' := dt) Yl Z Z Z k)) (yl Z (fun _ gl k => Xe Z Z Z E (Xh (v := vi (mAt ms ((rAt (mAt ms (q.run - 1).toNat).t.slots (q.a).toNat).th - 1).toNat).t.kind) X3 Z ((Yo ig gl) 0 _ Z) Z k)) Qd)
 intro lh cm
 refine Xe Z Z Z E (Xm Wh (Xf Z (Xf Z Xl)) Z (J7 q.kind (mAt ms ((rAt (mAt ms (q.run - 1).toNat).t.slots (q.a).toNat).th - 1).toNat).t.kind _) ?_)
 rintro _ li ⟨rfl, cg⟩
 refine Xe Z Z Z E (Yg (b' := !kindFor q.kind (mAt ms ((rAt (mAt ms (q.run - 1).toNat).t.slots (q.a).toNat).th - 1).toNat).t.kind) Z Z Z (Xj (v := vb (!kindFor q.kind (mAt ms ((rAt (mAt ms (q.run - 1).toNat).t.slots (q.a).toNat).th - 1).toNat).t.kind)) Z E Z Z (Xc (v := vb (!kindFor q.kind (mAt ms ((rAt (mAt ms (q.run - 1).toNat).t.slots (q.a).toNat).th - 1).toNat).t.kind)) Z Z (Xe Z Z Z G (Xc (v := .slice (pa aq) 4 4) Z Z (Xe Z Z Z G (X1 (o' := 0) Vh Z Z (by omega) (by omega) Z Z (Xe Z Z Z G ?_))))))))
 have ej := ((bq.grown0 cm).grown0 cg)
 refine Xh (v := vb (need0 q.kind)) Q3 Z (ej.cell Z) Z (Xe Z Z Z G (Xc (v := vb (need0 q.kind)) Z Z (Xe Z Z Z ad (Xd (o' := 2) Vw ae Z Z (Xe Z Z Z ad (Xh (v := vb (rAt (mAt ms (q.run - 1).toNat).t.slots (q.a).toNat).rd) Q3 Z ((((ab.blk.grown0 V).grown0 cm).grown0 cg).cell Z) Z (Xe Z Z Z ad (Yg (b' := !(rAt (mAt ms (q.run - 1).toNat).t.slots (q.a).toNat).rd) Z Z Z (Xe Z Z Z G (Xo (v := vb (!(rAt (mAt ms (q.run - 1).toNat).t.slots (q.a).toNat).rd)) Z ad Z Z (Xj (v := vb (!(rAt (mAt ms (q.run - 1).toNat).t.slots (q.a).toNat).rd)) Z G Z Z (Xc (v := vb (!(rAt (mAt ms (q.run - 1).toNat).t.slots (q.a).toNat).rd)) Z Z ?_))))))))))))
 refine Xe Z Z Z ag (Xc (v := .slice (pa aq) 4 4) Z Z (Xe Z Z Z ag (X1 (o' := 1) Vh Z Z (by omega) (by omega) Z Z (Xe Z Z Z ag (Xh (v := vb (need1 q.kind)) Q3 Z (ej.cell Z) Z (Xe Z Z Z ag (Xc (v := vb (need1 q.kind)) Z Z ?_)))))))
 iterate 3 refine Xi rfl rfl rfl ba rfl ?_
 exact Xe Z Z Z ag (Xj (v := vb false) Z ba Z Z (Xj (v := vb false) Z ag Z Z (Xb (Xr ⟨⟨a8, ar, bk, ae, Z, (congrArg Value.bool (by first | (simp only [O, E, G, bc, ad, ag, ct, ba, hT, b0, b1, b2, b3, b4, b5, b6, b7, b8, b9]; done) | simp [O, E, G, bc, ad, ag, ct, ba, hT]))⟩, (grown_trans cm cg)⟩))))
 rcases X6 (need1 q.kind) with bb | bb
 obtain ⟨d9, kq, du, fg, g7, ii⟩ := SlAt.at (TabAt.low ht be).1 (Yi (xg ms ((rAt (mAt ms (q.run - 1).toNat).t.slots (q.a).toNat).th - 1).toNat))
 have j1 := TabLen.at hlen (xg ms ((rAt (mAt ms (q.run - 1).toNat).t.slots (q.a).toNat).th - 1).toNat)
 refine Y8 (m := 13) (vals := [(25, pt J 0), (26, vi (rAt (mAt ms (q.run - 1).toNat).t.slots (q.a).toNat).th), (27, vb (decide ((rAt (mAt ms (q.run - 1).toNat).t.slots (q.a).toNat).th = 0))), (28, vb (decide ((rAt (mAt ms (q.run - 1).toNat).t.slots (q.a).toNat).th = 0))), (29, pt a9 0), (30, vi q.kind), (31, .slice a ms.length c), (32, pt J 0), (33, vi (rAt (mAt ms (q.run - 1).toNat).t.slots (q.a).toNat).th), (34, vi ((rAt (mAt ms (q.run - 1).toNat).t.slots (q.a).toNat).th - 1)), (35, pt d9 du), (36, pt d9 du), (37, vi (mAt ms ((rAt (mAt ms (q.run - 1).toNat).t.slots (q.a).toNat).th - 1).toNat).t.kind)]) (fun w' => bj.grownBy w' none) Qb (by kernel_rfl) (Yf _) ?_ ?_
 refine yl Z (fun _ _ k => Xd (o' := 0) Ym ae Z Z k) (yl Z (fun _ gm k => Xh (v := vi (rAt (mAt ms (q.run - 1).toNat).t.slots (q.a).toNat).th) X3 Z (((ab.blk.grown0 V).grown0 gm).cell Z) Z k) (yl Z (fun _ _ k => Xw (q := decide ((rAt (mAt ms (q.run - 1).toNat).t.slots (q.a).toNat).th = 0)) Z Z Z Z k) (yl Z (fun _ _ k => Xc (v := vb (decide ((rAt (mAt ms (q.run - 1).toNat).t.slots (q.a).toNat).th = 0))) Z Z k) (yl Z (fun _ _ k => Xe Z Z Z E (Xd (o' := 0) Qu ar Z Z k)) (yl Z (fun _ gp k => Xe Z Z Z E (Xh (v := vi q.kind) X3 Z (((bg.grown0 V).grown0 gp).cell Z) Z k)) (yl Z (fun _ _ k => Xe Z Z Z E (Xc (v := .slice a ms.length c) a8 Z k)) (yl Z (fun _ _ k => Xe Z Z Z E (Xd (o' := 0) Ym ae Z Z k)) (yl Z (fun _ gq k => Xe Z Z Z E (Xh (v := vi (rAt (mAt ms (q.run - 1).toNat).t.slots (q.a).toNat).th) X3 Z (((ab.blk.grown0 V).grown0 gq).cell Z) Z k)) (yl Z (fun _ _ k => Xe Z Z Z E (Y0 (c := (rAt (mAt ms (q.run - 1).toNat).t.slots (q.a).toNat).th - 1) Z Z (by omega) (by omega) (by omega) Z k)) (yl Z (fun _ _ k => Xe Z Z Z E (X8 Y7 Z Z fg g7 (by omega) (by omega) Z k)) ?_))))))))))
 exact yl Z (fun _ _ k => Xe Z Z Z E (Xd (o' := du) Yl Z Z Z k)) (yl Z (fun _ gr k => Xe Z Z Z E (Xh (v := vi (mAt ms ((rAt (mAt ms (q.run - 1).toNat).t.slots (q.a).toNat).th - 1).toNat).t.kind) X3 Z ((Yo ii gr) 0 _ Z) Z k)) Qd)
 intro lj cn
 refine Xe Z Z Z E (Xm Wh (Xf Z (Xf Z Xl)) Z (J7 q.kind (mAt ms ((rAt (mAt ms (q.run - 1).toNat).t.slots (q.a).toNat).th - 1).toNat).t.kind _) ?_)
 rintro _ lk ⟨rfl, cj⟩
 refine Xe Z Z Z E (Yg (b' := !kindFor q.kind (mAt ms ((rAt (mAt ms (q.run - 1).toNat).t.slots (q.a).toNat).th - 1).toNat).t.kind) Z Z Z (Xj (v := vb (!kindFor q.kind (mAt ms ((rAt (mAt ms (q.run - 1).toNat).t.slots (q.a).toNat).th - 1).toNat).t.kind)) Z E Z Z (Xc (v := vb (!kindFor q.kind (mAt ms ((rAt (mAt ms (q.run - 1).toNat).t.slots (q.a).toNat).th - 1).toNat).t.kind)) Z Z (Xe Z Z Z G (Xc (v := .slice (pa aq) 4 4) Z Z (Xe Z Z Z G (X1 (o' := 0) Vh Z Z (by omega) (by omega) Z Z (Xe Z Z Z G ?_))))))))
 have ek := ((bq.grown0 cn).grown0 cj)
 refine Xh (v := vb (need0 q.kind)) Q3 Z (ek.cell Z) Z (Xe Z Z Z G (Xc (v := vb (need0 q.kind)) Z Z ?_))
 iterate 3 refine Xi rfl rfl rfl ad rfl ?_
 refine Xe Z Z Z G (Xj (v := vb false) Z ad Z Z (Xj (v := vb false) Z G Z Z (Xc (v := vb false) Z Z (Xe Z Z Z Z (Xc (v := .slice (pa aq) 4 4) Z Z (Xe Z Z Z Z (X1 (o' := 1) Vh Z Z (by omega) (by omega) Z Z (Xe Z Z Z Z (Xh (v := vb (need1 q.kind)) Q3 Z (ek.cell Z) Z (Xe Z Z Z Z (Xc (v := vb (need1 q.kind)) Z Z (Xe Z Z Z bb ?_))))))))))))
 exact Xd (o' := 3) Ki ae Z Z (Xe Z Z Z bb (Xh (v := vb (rAt (mAt ms (q.run - 1).toNat).t.slots (q.a).toNat).wr) Q3 Z ((((ab.blk.grown0 V).grown0 cn).grown0 cj).cell Z) Z (Xe Z Z Z bb (Yg (b' := !(rAt (mAt ms (q.run - 1).toNat).t.slots (q.a).toNat).wr) Z Z Z (Xe Z Z Z Z (Xo (v := vb (!(rAt (mAt ms (q.run - 1).toNat).t.slots (q.a).toNat).wr)) Z bb Z Z (Xj (v := vb (!(rAt (mAt ms (q.run - 1).toNat).t.slots (q.a).toNat).wr)) Z Z Z Z (Xb (Xr ⟨⟨a8, ar, bk, ae, Z, (congrArg Value.bool (by first | (simp only [O, E, G, bc, ad, bb, hT, b0, b1, b2, b3, b4, b5, b6, b7, b8, b9]; done) | simp [O, E, G, bc, ad, bb, hT]))⟩, (grown_trans cn cj)⟩)))))))))
 obtain ⟨ea, kr, dv, fh, g8, ij⟩ := SlAt.at (TabAt.low ht be).1 (Yi (xg ms ((rAt (mAt ms (q.run - 1).toNat).t.slots (q.a).toNat).th - 1).toNat))
 have j2 := TabLen.at hlen (xg ms ((rAt (mAt ms (q.run - 1).toNat).t.slots (q.a).toNat).th - 1).toNat)
 refine Y8 (m := 13) (vals := [(25, pt J 0), (26, vi (rAt (mAt ms (q.run - 1).toNat).t.slots (q.a).toNat).th), (27, vb (decide ((rAt (mAt ms (q.run - 1).toNat).t.slots (q.a).toNat).th = 0))), (28, vb (decide ((rAt (mAt ms (q.run - 1).toNat).t.slots (q.a).toNat).th = 0))), (29, pt a9 0), (30, vi q.kind), (31, .slice a ms.length c), (32, pt J 0), (33, vi (rAt (mAt ms (q.run - 1).toNat).t.slots (q.a).toNat).th), (34, vi ((rAt (mAt ms (q.run - 1).toNat).t.slots (q.a).toNat).th - 1)), (35, pt ea dv), (36, pt ea dv), (37, vi (mAt ms ((rAt (mAt ms (q.run - 1).toNat).t.slots (q.a).toNat).th - 1).toNat).t.kind)]) (fun w' => bj.grownBy w' none) Qb (by kernel_rfl) (Yf _) ?_ ?_
 refine yl Z (fun _ _ k => Xd (o' := 0) Ym ae Z Z k) (yl Z (fun _ gt k => Xh (v := vi (rAt (mAt ms (q.run - 1).toNat).t.slots (q.a).toNat).th) X3 Z (((ab.blk.grown0 V).grown0 gt).cell Z) Z k) (yl Z (fun _ _ k => Xw (q := decide ((rAt (mAt ms (q.run - 1).toNat).t.slots (q.a).toNat).th = 0)) Z Z Z Z k) (yl Z (fun _ _ k => Xc (v := vb (decide ((rAt (mAt ms (q.run - 1).toNat).t.slots (q.a).toNat).th = 0))) Z Z k) (yl Z (fun _ _ k => Xe Z Z Z E (Xd (o' := 0) Qu ar Z Z k)) (yl Z (fun _ gu k => Xe Z Z Z E (Xh (v := vi q.kind) X3 Z (((bg.grown0 V).grown0 gu).cell Z) Z k)) (yl Z (fun _ _ k => Xe Z Z Z E (Xc (v := .slice a ms.length c) a8 Z k)) (yl Z (fun _ _ k => Xe Z Z Z E (Xd (o' := 0) Ym ae Z Z k)) (yl Z (fun _ gv k => Xe Z Z Z E (Xh (v := vi (rAt (mAt ms (q.run - 1).toNat).t.slots (q.a).toNat).th) X3 Z (((ab.blk.grown0 V).grown0 gv).cell Z) Z k)) (yl Z (fun _ _ k => Xe Z Z Z E (Y0 (c := (rAt (mAt ms (q.run - 1).toNat).t.slots (q.a).toNat).th - 1) Z Z (by omega) (by omega) (by omega) Z k)) (yl Z (fun _ _ k => Xe Z Z Z E (X8 Y7 Z Z fh g8 (by omega) (by omega) Z k)) ?_))))))))))
 exact yl Z (fun _ _ k => Xe Z Z Z E (Xd (o' := dv) Yl Z Z Z k)) (yl Z (fun _ gw k => Xe Z Z Z E (Xh (v := vi (mAt ms ((rAt (mAt ms (q.run - 1).toNat).t.slots (q.a).toNat).th - 1).toNat).t.kind) X3 Z ((Yo ij gw) 0 _ Z) Z k)) Qd)
 intro ll dk
 refine Xe Z Z Z E (Xm Wh (Xf Z (Xf Z Xl)) Z (J7 q.kind (mAt ms ((rAt (mAt ms (q.run - 1).toNat).t.slots (q.a).toNat).th - 1).toNat).t.kind _) ?_)
 rintro _ lm ⟨rfl, dc⟩
 refine Xe Z Z Z E (Yg (b' := !kindFor q.kind (mAt ms ((rAt (mAt ms (q.run - 1).toNat).t.slots (q.a).toNat).th - 1).toNat).t.kind) Z Z Z (Xj (v := vb (!kindFor q.kind (mAt ms ((rAt (mAt ms (q.run - 1).toNat).t.slots (q.a).toNat).th - 1).toNat).t.kind)) Z E Z Z (Xc (v := vb (!kindFor q.kind (mAt ms ((rAt (mAt ms (q.run - 1).toNat).t.slots (q.a).toNat).th - 1).toNat).t.kind)) Z Z (Xe Z Z Z G (Xc (v := .slice (pa aq) 4 4) Z Z (Xe Z Z Z G (X1 (o' := 0) Vh Z Z (by omega) (by omega) Z Z (Xe Z Z Z G ?_))))))))
 have em := ((bq.grown0 dk).grown0 dc)
 refine Xh (v := vb (need0 q.kind)) Q3 Z (em.cell Z) Z (Xe Z Z Z G (Xc (v := vb (need0 q.kind)) Z Z ?_))
 iterate 3 refine Xi rfl rfl rfl ad rfl ?_
 refine Xe Z Z Z G (Xj (v := vb false) Z ad Z Z (Xj (v := vb false) Z G Z Z (Xc (v := vb false) Z Z (Xe Z Z Z Z (Xc (v := .slice (pa aq) 4 4) Z Z (Xe Z Z Z Z (X1 (o' := 1) Vh Z Z (by omega) (by omega) Z Z (Xe Z Z Z Z (Xh (v := vb (need1 q.kind)) Q3 Z (em.cell Z) Z (Xe Z Z Z Z (Xc (v := vb (need1 q.kind)) Z Z ?_)))))))))))
 iterate 3 refine Xi rfl rfl rfl bb rfl ?_
 exact Xe Z Z Z Z (Xj (v := vb false) Z bb Z Z (Xj (v := vb false) Z Z Z Z (Xb (Xr ⟨⟨a8, ar, bk, ae, Z, (congrArg Value.bool (by first | (simp only [O, E, G, bc, ad, bb, hT, b0, b1, b2, b3, b4, b5, b6, b7, b8, b9]; done) | simp [O, E, G, bc, ad, bb, hT]))⟩, (grown_trans dk dc)⟩))))
 rintro ke ln ⟨⟨bh, c8, ca, bi, c9, jm⟩, bw⟩
 have cc := low0 be bw
 refine Xu jm (fun ai => ?_) (fun ai => ?_)
 refine Xa (Xg (v := vi (-1)) Z Z (Xb (Xq (Ye (⟨vi (-1), Yy Z Z, ?_, cc⟩)))))
 exact congrArg (Value.int .i64) (Gz O ai)
 have am := Jm ai
 have an := Jm am
 have ao := Jm an
 have kj := of_decide_eq_false ao
 have ap := Jn an
 have au := Qp ap
 have av := Jn am
 have aw := Jn ai
 refine Xv (Xr (Xa (Xc (v := .slice a ms.length c) bh Z (Xd (o' := 1) Qn c8 Z Z ?_))))
 have dl := ((bg.grown0 V).grown0 bw)
 refine Xh (v := vi q.run) X3 Z (dl.cell Z) Z (Xd (o' := 0) Ym bi Z Z ?_)
 have cy := ((ab.blk.grown0 V).grown0 bw)
 refine Xh (v := vi (rAt (mAt ms (q.run - 1).toNat).t.slots (q.a).toNat).th) X3 Z (cy.cell Z) Z (Xm Mm (Xf Z (Xf Z (Xf Z Xl))) Z (Pk q.run (rAt (mAt ms (q.run - 1).toNat).t.slots (q.a).toNat).th _ ms _ _ (TabAt.low ht cc) hlen (by omega) hT (by omega) (by omega)) ?_)
 rintro _ jr ⟨rfl, bf⟩
 have cd := low0 cc bf
 refine Xg (v := vb (sees (tabT ms) q.run (rAt (mAt ms (q.run - 1).toNat).t.slots (q.a).toNat).th)) Z Z (Xb (Xs (X2 (fun f' w' => (f' 0 = .slice a ms.length c ∧ f' 4 = vi 0 ∧ f' 5 = pt J 0 ∧ f' 7 = vb (sees (tabT ms) q.run (rAt (mAt ms (q.run - 1).toNat).t.slots (q.a).toNat).th) ∧ f' 87 = vb ((need0 q.kind && (!sees (tabT ms) q.run (rAt (mAt ms (q.run - 1).toNat).t.slots (q.a).toNat).th)) || (need1 q.kind && (!touches (tabT ms) q.run (rAt (mAt ms (q.run - 1).toNat).t.slots (q.a).toNat).th)))) ∧ jr.grownBy w' none) ?_ ?_)))
 refine Xc (v := .slice (pa aq) 4 4) c9 Z (X1 (o' := 2) Vh Z Z (by omega) (by omega) Z Z ?_)
 have co := ((bq.grown0 bw).grown0 bf)
 refine Xh (v := vb (need0 q.kind)) Q3 Z (co.cell Z) Z (Xc (v := vb (need0 q.kind)) Z Z ?_)
 rcases X6 (need0 q.kind) with ah | ah
 refine Xe Z Z Z ah (Xc (v := vb (sees (tabT ms) q.run (rAt (mAt ms (q.run - 1).toNat).t.slots (q.a).toNat).th)) Z Z (Xe Z Z Z ah (Yg (b' := !sees (tabT ms) q.run (rAt (mAt ms (q.run - 1).toNat).t.slots (q.a).toNat).th) Z Z Z (Xo (v := vb (!sees (tabT ms) q.run (rAt (mAt ms (q.run - 1).toNat).t.slots (q.a).toNat).th)) Z ah Z Z (Xc (v := vb (!sees (tabT ms) q.run (rAt (mAt ms (q.run - 1).toNat).t.slots (q.a).toNat).th)) Z Z ?_)))))
 rcases X6 (!sees (tabT ms) q.run (rAt (mAt ms (q.run - 1).toNat).t.slots (q.a).toNat).th) with ac | ac
 have da := Q8 ac
 iterate 4 refine Xi rfl rfl rfl ac rfl ?_
 iterate 7 refine Yc rfl rfl rfl rfl ?_
 exact Xi Z Z Z ac Z (Xo (v := vb true) Z ac Z Z (Xb ⟨⟨bh, ca, bi, Z, (congrArg Value.bool (by first | (simp only [ah, ac, da, O, ai, am, an, ao, ap, au, av, aw, hT, b0, b1, b2, b3, b4, b5, b6, b7, b8, b9]; done) | simp [ah, ac, da, O, ai, am, an, ao, ap, au, av, aw, hT]))⟩, (World.grownBy.refl _ _)⟩))
 have br := Qp ac
 refine Xe Z Z Z ac (Xc (v := .slice (pa aq) 4 4) c9 Z (Xe Z Z Z ac (X1 (o' := 3) Vh Z Z (by omega) (by omega) Z Z (Xe Z Z Z ac (Xh (v := vb (need1 q.kind)) Q3 Z (co.cell Z) Z (Xe Z Z Z ac (Xc (v := vb (need1 q.kind)) Z Z ?_)))))))
 rcases X6 (need1 q.kind) with aj | aj
 refine Xe Z Z Z aj (Xc (v := .slice a ms.length c) bh Z (Xe Z Z Z aj (Xd (o' := 1) Qn c8 Z Z (Xe Z Z Z aj (Xh (v := vi q.run) X3 Z ((dl.grown0 bf).cell Z) Z (Xe Z Z Z aj (Xd (o' := 0) Ym bi Z Z (Xe Z Z Z aj (Xh (v := vi (rAt (mAt ms (q.run - 1).toNat).t.slots (q.a).toNat).th) X3 Z ((cy.grown0 bf).cell Z) Z (Xe Z Z Z aj (Xm Tc (Xf Z (Xf Z (Xf Z Xl))) Z (Ub q.run (rAt (mAt ms (q.run - 1).toNat).t.slots (q.a).toNat).th _ ms _ _ (TabAt.low ht cd) hlen (by omega) hT (by omega) (by omega)) ?_)))))))))))
 rintro _ j9 ⟨rfl, dz⟩
 exact Xe Z Z Z aj (Yg (b' := !touches (tabT ms) q.run (rAt (mAt ms (q.run - 1).toNat).t.slots (q.a).toNat).th) Z Z Z (Xe Z Z Z ac (Xo (v := vb (!touches (tabT ms) q.run (rAt (mAt ms (q.run - 1).toNat).t.slots (q.a).toNat).th)) Z aj Z Z (Xj (v := vb (!touches (tabT ms) q.run (rAt (mAt ms (q.run - 1).toNat).t.slots (q.a).toNat).th)) Z ac Z Z (Xb ⟨⟨bh, ca, bi, Z, (congrArg Value.bool (by first | (simp only [ah, ac, br, aj, O, ai, am, an, ao, ap, au, av, aw, hT, b0, b1, b2, b3, b4, b5, b6, b7, b8, b9]; done) | simp [ah, ac, br, aj, O, ai, am, an, ao, ap, au, av, aw, hT]))⟩, dz⟩)))))
 iterate 7 refine Xi rfl rfl rfl aj rfl ?_
 exact Xe Z Z Z ac (Xj (v := vb false) Z aj Z Z (Xj (v := vb false) Z ac Z Z (Xb ⟨⟨bh, ca, bi, Z, (congrArg Value.bool (by first | (simp only [ah, ac, br, aj, O, ai, am, an, ao, ap, au, av, aw, hT, b0, b1, b2, b3, b4, b5, b6, b7, b8, b9]; done) | simp [ah, ac, br, aj, O, ai, am, an, ao, ap, au, av, aw, hT]))⟩, (World.grownBy.refl _ _)⟩)))
 refine Xi Z Z Z ah Z (Xi Z Z Z ah Z (Xj (v := vb false) Z ah Z Z (Xc (v := vb false) Z Z (Xe Z Z Z Z (Xc (v := .slice (pa aq) 4 4) c9 Z (Xe Z Z Z Z (X1 (o' := 3) Vh Z Z (by omega) (by omega) Z Z (Xe Z Z Z Z (Xh (v := vb (need1 q.kind)) Q3 Z (co.cell Z) Z (Xe Z Z Z Z (Xc (v := vb (need1 q.kind)) Z Z ?_)))))))))))
 rcases X6 (need1 q.kind) with ak | ak
 refine Xe Z Z Z ak (Xc (v := .slice a ms.length c) bh Z (Xe Z Z Z ak (Xd (o' := 1) Qn c8 Z Z (Xe Z Z Z ak (Xh (v := vi q.run) X3 Z ((dl.grown0 bf).cell Z) Z (Xe Z Z Z ak (Xd (o' := 0) Ym bi Z Z (Xe Z Z Z ak (Xh (v := vi (rAt (mAt ms (q.run - 1).toNat).t.slots (q.a).toNat).th) X3 Z ((cy.grown0 bf).cell Z) Z (Xe Z Z Z ak (Xm Tc (Xf Z (Xf Z (Xf Z Xl))) Z (Ub q.run (rAt (mAt ms (q.run - 1).toNat).t.slots (q.a).toNat).th _ ms _ _ (TabAt.low ht cd) hlen (by omega) hT (by omega) (by omega)) ?_)))))))))))
 rintro _ ka ⟨rfl, d0⟩
 exact Xe Z Z Z ak (Yg (b' := !touches (tabT ms) q.run (rAt (mAt ms (q.run - 1).toNat).t.slots (q.a).toNat).th) Z Z Z (Xe Z Z Z Z (Xo (v := vb (!touches (tabT ms) q.run (rAt (mAt ms (q.run - 1).toNat).t.slots (q.a).toNat).th)) Z ak Z Z (Xj (v := vb (!touches (tabT ms) q.run (rAt (mAt ms (q.run - 1).toNat).t.slots (q.a).toNat).th)) Z Z Z Z (Xb ⟨⟨bh, ca, bi, Z, (congrArg Value.bool (by first | (simp only [ah, ak, O, ai, am, an, ao, ap, au, av, aw, hT, b0, b1, b2, b3, b4, b5, b6, b7, b8, b9]; done) | simp [ah, ak, O, ai, am, an, ao, ap, au, av, aw, hT]))⟩, d0⟩)))))
 iterate 7 refine Xi rfl rfl rfl ak rfl ?_
 exact Xe Z Z Z Z (Xj (v := vb false) Z ak Z Z (Xj (v := vb false) Z Z Z Z (Xb ⟨⟨bh, ca, bi, Z, (congrArg Value.bool (by first | (simp only [ah, ak, O, ai, am, an, ao, ap, au, av, aw, hT, b0, b1, b2, b3, b4, b5, b6, b7, b8, b9]; done) | simp [ah, ak, O, ai, am, an, ao, ap, au, av, aw, hT]))⟩, (World.grownBy.refl _ _)⟩)))
 rintro j5 ik ⟨⟨ep, cz, eu, ew, ex⟩, cw⟩
 have bv := low0 cd cw
 refine Xu ex (fun az => ?_) (fun az => ?_)
 refine Xa (Xg (v := vi (-2)) Z Z (Xb (Xq (Ye (⟨vi (-2), Yy Z Z, ?_, bv⟩)))))
 exact congrArg (Value.int .i64) (Nt O ai az)
 have bt := Jm az
 have bu := Jn az
 refine Xv (Xr (Xs (X2 (fun f' w' => (f' 4 = vi 0 ∧ f' 94 = vb (sees (tabT ms) q.run (rAt (mAt ms (q.run - 1).toNat).t.slots (q.a).toNat).th && (!live (tabT ms) (rAt (mAt ms (q.run - 1).toNat).t.slots (q.a).toNat)))) ∧ ik.grownBy w' none) ?_ ?_)))
 refine Xc (v := vb (sees (tabT ms) q.run (rAt (mAt ms (q.run - 1).toNat).t.slots (q.a).toNat).th)) ew Z (Xc (v := vb (sees (tabT ms) q.run (rAt (mAt ms (q.run - 1).toNat).t.slots (q.a).toNat).th)) Z Z ?_)
 rcases X6 (sees (tabT ms) q.run (rAt (mAt ms (q.run - 1).toNat).t.slots (q.a).toNat).th) with al | al
 refine Xe Z Z Z al (Xc (v := .slice a ms.length c) ep Z (Xe Z Z Z al (Xp (vs := [vi (rAt (mAt ms (q.run - 1).toNat).t.slots (q.a).toNat).th, vi (rAt (mAt ms (q.run - 1).toNat).t.slots (q.a).toNat).ve, vb (rAt (mAt ms (q.run - 1).toNat).t.slots (q.a).toNat).rd, vb (rAt (mAt ms (q.run - 1).toNat).t.slots (q.a).toNat).wr, vb (rAt (mAt ms (q.run - 1).toNat).t.slots (q.a).toNat).wk]) Yv eu Z (((cy.grown0 bf).grown0 cw).rangeL 0 5 Z) Z (Xe Z Z Z al (Xm Mn (Xf Z (Xf Z Xl)) Z (Rm (rAt (mAt ms (q.run - 1).toNat).t.slots (q.a).toNat) (by omega) _ ms _ _ (TabAt.low ht bv) hlen (by omega)) ?_)))))
 rintro _ kb ⟨rfl, d1⟩
 exact Xe Z Z Z al (Yg (b' := !live (tabT ms) (rAt (mAt ms (q.run - 1).toNat).t.slots (q.a).toNat)) Z Z Z (Xo (v := vb (!live (tabT ms) (rAt (mAt ms (q.run - 1).toNat).t.slots (q.a).toNat))) Z al Z Z (Xb ⟨⟨cz, (congrArg Value.bool (by first | (simp only [az, bt, bu, al, O, ai, am, an, ao, ap, au, av, aw, hT, b0, b1, b2, b3, b4, b5, b6, b7, b8, b9]; done) | simp [az, bt, bu, al, O, ai, am, an, ao, ap, au, av, aw, hT]))⟩, d1⟩)))
 iterate 4 refine Xi rfl rfl rfl al rfl ?_
 exact Xj (v := vb false) Z al Z Z (Xb ⟨⟨cz, (congrArg Value.bool (by first | (simp only [az, bt, bu, al, O, ai, am, an, ao, ap, au, av, aw, hT, b0, b1, b2, b3, b4, b5, b6, b7, b8, b9]; done) | simp [az, bt, bu, al, O, ai, am, an, ao, ap, au, av, aw, hT]))⟩, (World.grownBy.refl _ _)⟩)
 rintro j6 kc ⟨⟨j4, ez⟩, d2⟩
 have cv := low0 bv d2
 refine Xu ez (fun bl => ?_) (fun bl => ?_)
 have j7 := Np bl
 have e0 := Nq bl
 have j8 := Q8 e0
 refine Xa (Xg (v := vi (-3)) Z Z (Xb (Xq (Ye (⟨vi (-3), Yy Z Z, ?_, cv⟩)))))
 exact congrArg (Value.int .i64) (Nu O ai az bl)
 refine Xv (Xr (Xa (Xg (v := vi 0) Z Z (Xb (Xq (⟨vi 0, Yy Z Z, ?_, cv⟩))))))
 exact congrArg (Value.int .i64) (Ns O ai az bl)
end Go.Proofs.YtjpgffmkcmcolabDoor
end
section
namespace Go.Dw
structure Keeps (lo : Nat) (K : List TypeId) (w w' : World) : Prop where
  os : w'.os = w.os
  tape : w'.tape = w.tape
  output : w'.output = w.output
  size : w.heap.size ≤ w'.heap.size
  block : ∀ k, k < w.heap.size → (k < lo ∨ ∀ cs T p, w.heap[k]? = some (.cells cs T p) → T ∉ K) → w'.heap[k]? = w.heap[k]?
section
variable {lo : Nat} {K : List TypeId} {w w1 w2 : World}
theorem Keeps.of0 (hg : w.grownBy w1 none) : Keeps lo K w w1 := ⟨hg.os, hg.tape, hg.output, hg.size, fun k hk _ => hg.block k hk (by simp)⟩
theorem Keeps.refl (w : World) : Keeps lo K w w := Keeps.of0 (World.grownBy.refl w none)
theorem Keeps.trans (h : Keeps lo K w w1) (k : Keeps lo K w1 w2) : Keeps lo K w w2 :=
  ⟨k.os.trans h.os, k.tape.trans h.tape, k.output.trans h.output, Nat.le_trans h.size k.size, fun b hb hc => by
    have h1 := h.block b hb hc
    exact (k.block b (Nat.lt_of_lt_of_le hb h.size) (by rcases hc with h2 | h2; exact Or.inl h2; exact Or.inr (fun cs T p e => h2 cs T p (h1.symm.trans e)))).trans h1⟩
theorem Keeps.low (h : Keeps lo K w w1) (hg : w1.grownBy w2 none) : Keeps lo K w w2 := h.trans (Keeps.of0 hg)
theorem Keeps.put {B : Nat} {T : TypeId} {cs : Array Value} (h : Keeps lo K w w1) (hg : w1.grownBy w2 (some B)) (hb : Blk w1 B T cs) (hT : T ∈ K) (hl : lo ≤ B) : Keeps lo K w w2 := h.trans
  ⟨hg.os, hg.tape, hg.output, hg.size, fun k hk hc => hg.block k hk (by
    intro e
    have e : k = B := by simpa using e
    subst e
    rcases hc with h2 | h2
    · omega
    · exact h2 cs T (0, 0) hb hT)⟩
theorem Keeps.own {B sz cap n : Nat} {T : TypeId} {vs : List Value} (h : Keeps lo K w w1) (hg : w1.grownBy w2 (some B)) (ho : Own w1 B T sz cap n vs) (hT : T ∈ K) (hl : lo ≤ B) : Keeps lo K w w2 :=
  let ⟨_, _, hb, _⟩ := ho.blk; h.put hg hb hT hl
theorem Keeps.grown {r : Option Nat} (hg : w.grownBy w1 r) (h : Keeps lo K w1 w2) (hl : w.heap.size ≤ lo) : w.grownBy w2 r :=
  ⟨h.os.trans hg.os, h.tape.trans hg.tape, h.output.trans hg.output, Nat.le_trans hg.size h.size, fun k hk hr => (h.block k (Nat.lt_of_lt_of_le hk hg.size) (Or.inl (by omega))).trans (hg.block k hk hr)⟩
end
section
variable {l sz cap n : Nat} {a : Option Addr} {U : TypeId} {us : List Value} {w w1 w2 : World}
end
structure RowS (TR TI lo : Nat) (w : World) (m : MTh) : Prop where
  s : ∃ (S : Nat) (xs : List Rt), m.sa = some ⟨S, 0, none⟩ ∧ lo ≤ S ∧ m.sc = m.t.slots.length ∧ xs.length = m.t.slots.length ∧ Blk w S TR (xs.flatMap Rt.cells).toArray
  q : ∃ (S : Nat) (xs : List Int), m.qa = some ⟨S, 0, none⟩ ∧ lo ≤ S ∧ m.qc = m.t.queue.length ∧ xs.length = m.t.queue.length ∧ Blk w S TI (xs.flatMap icell).toArray
  ls : m.t.slots.length ≤ 1048576
  lq : m.t.queue.length ≤ 1048576
def RowsS (TR TI lo : Nat) (w : World) (ms : List MTh) : Prop := ∀ m ∈ ms, RowS TR TI lo w m
theorem L1 {w : World} {b c : Nat} {T U : TypeId} {cs ds : Array Value} (h : Blk w b T cs) (k : Blk w c U ds) (hT : T ≠ U) : b ≠ c := fun e => by
  subst e
  have h1 : some (Obj.cells cs T (0, 0)) = some (Obj.cells ds U (0, 0)) := Eq.trans (Eq.symm h) k
  simp only [Option.some.injEq, Obj.cells.injEq] at h1
  exact hT h1.2.1
section
variable {TR TI lo : Nat} {w w' : World} {m : MTh} {ms : List MTh}
theorem RowS.step {b : Nat} {U : TypeId} {ds : Array Value} (h : RowS TR TI lo w m) (hg : w.grownBy w' (some b)) (k : Blk w b U ds) (h1 : TR ≠ U) (h2 : TI ≠ U) : RowS TR TI lo w' m := by
  obtain ⟨⟨S, xs, a1, a2, a3, a4, a5⟩, ⟨Q, ys, b1, b2, b3, b4, b5⟩, h3, h4⟩ := h
  exact ⟨⟨S, xs, a1, a2, a3, a4, a5.grown hg (Q1 (L1 a5 k h1))⟩, ⟨Q, ys, b1, b2, b3, b4, b5.grown hg (Q1 (L1 b5 k h2))⟩, h3, h4⟩
theorem RowS.low (h : RowS TR TI lo w m) (hg : w.grownBy w' none) : RowS TR TI lo w' m := by
  obtain ⟨⟨S, xs, a1, a2, a3, a4, a5⟩, ⟨Q, ys, b1, b2, b3, b4, b5⟩, h3, h4⟩ := h
  exact ⟨⟨S, xs, a1, a2, a3, a4, a5.grown0 hg⟩, ⟨Q, ys, b1, b2, b3, b4, b5.grown0 hg⟩, h3, h4⟩
theorem RowS.mono {lo' : Nat} (h : RowS TR TI lo w m) (hl : lo' ≤ lo) : RowS TR TI lo' w m := by
  obtain ⟨⟨S, xs, a1, a2, a3, a4, a5⟩, ⟨Q, ys, b1, b2, b3, b4, b5⟩, h3, h4⟩ := h
  exact ⟨⟨S, xs, a1, Nat.le_trans hl a2, a3, a4, a5⟩, ⟨Q, ys, b1, Nat.le_trans hl b2, b3, b4, b5⟩, h3, h4⟩
theorem RowsS.low (h : RowsS TR TI lo w ms) (hg : w.grownBy w' none) : RowsS TR TI lo w' ms := fun m hm => (h m hm).low hg
theorem RowsS.own {b sz cap n : Nat} {U : TypeId} {vs : List Value} (h : RowsS TR TI lo w ms) (hg : w.grownBy w' (some b)) (k : Own w b U sz cap n vs) (h1 : TR ≠ U) (h2 : TI ≠ U) : RowsS TR TI lo w' ms := fun m hm => let ⟨_, _, hb, _⟩ := k.blk; (h m hm).step hg hb h1 h2
theorem Nf {b c sz cap n : Nat} {T U : TypeId} {vs : List Value} {ds : Array Value} (h : Own w b T sz cap n vs) (k : Blk w c U ds) (hT : T ≠ U) : b ≠ c := let ⟨_, _, hb, _⟩ := h.blk; L1 hb k hT
theorem RowsS.at (h : RowsS TR TI lo w ms) {i : Nat} (hi : i < ms.length) : RowS TR TI lo w (mAt ms i) := h _ (List.mem_of_getElem? (Qw hi))
theorem RowsS.set (h : RowsS TR TI lo w ms) {i : Nat} (hi : i < ms.length) {m' : MTh} (hq : m'.qa = (mAt ms i).qa ∧ m'.qc = (mAt ms i).qc ∧ m'.t.queue = (mAt ms i).t.queue) (hs : m'.sa = (mAt ms i).sa ∧ m'.sc = (mAt ms i).sc ∧ m'.t.slots = (mAt ms i).t.slots) : RowsS TR TI lo w (ms.set i m') := fun x hx => by
  rcases List.mem_or_eq_of_mem_set hx with h1 | rfl
  · exact h x h1
  · have h0 := h.at hi
    obtain ⟨h1, h2, h3⟩ := hq
    obtain ⟨h4, h5, h6⟩ := hs
    refine ⟨?_, ?_, ?_, ?_⟩
    · rw [h4, h5, h6]; exact h0.s
    · rw [h1, h2, h3]; exact h0.q
    · rw [h6]; exact h0.ls
    · rw [h3]; exact h0.lq
end
end Go.Dw
end
section
namespace Go.Dw
def setTh (ts : List Th) (k : Int) (t : Th) : List Th := ts.set (k - 1).toNat t
def putSl (ts : List Th) (k j : Int) (x : Rt) : List Th := setTh ts k { thAt ts k with slots := (thAt ts k).slots.set j.toNat x }
section
variable {ts : List Th} {k : Int} {t t' : Th}
theorem R3 (h : 1 ≤ k ∧ k ≤ (ts.length : Int)) : ts[(k - 1).toNat]? = some (thAt ts k) := by
  unfold thAt
  rw [List.getD_eq_getElem?_getD, List.getElem?_eq_getElem (by omega)]
  rfl
theorem Kq (h : 1 ≤ k ∧ k ≤ (ts.length : Int)) (j : Int) (hj : 1 ≤ j) : thAt (setTh ts k t) j = if j = k then t else thAt ts j := by
  unfold thAt setTh
  rw [List.getD_eq_getElem?_getD, List.getD_eq_getElem?_getD, List.getElem?_set]
  by_cases e : j = k
  · subst e
    rw [if_pos rfl, if_pos rfl, if_pos (by omega)]
    rfl
  · rw [if_neg e, if_neg (by omega)]
theorem K0 : (setTh ts k t).length = ts.length := List.length_set ..
theorem Lb (h : 1 ≤ k ∧ k ≤ (ts.length : Int)) (hv : (thAt ts k).ve ≤ t.ve) {r : Rt} (hr : rightTo ts r = true) : rightTo (setTh ts k t) r = true := by
  unfold rightTo at hr ⊢
  rw [Bool.or_eq_true] at hr ⊢
  rcases hr with h0 | h0
  · exact Or.inl h0
  · rw [Bool.and_eq_true] at h0
    have h1 := Yu.1 h0.1
    have h2 := of_decide_eq_true h0.2
    refine Or.inr (Bool.and_eq_true_iff.2 ⟨?_, decide_eq_true ?_⟩)
    · rw [K0]; exact h0.1
    · rw [Kq h r.th h1.1]
      split
      · rename_i e; rw [e] at h2; omega
      · exact h2
theorem Wk (h : 1 ≤ k ∧ k ≤ (ts.length : Int)) (hk : t.kind = (thAt ts k).kind) (j kd : Int) : kindAt (setTh ts k t) j kd = kindAt ts j kd := by
  unfold kindAt
  rw [K0]
  by_cases hj : 1 ≤ j
  · rw [Kq h j hj]
    split
    · rename_i e; rw [hk, e]
    · rfl
  · have : inR j 1 (ts.length : Int) = false := by simp [inR]; omega
    rw [this]; rfl
theorem L5 (h : 1 ≤ k ∧ k ≤ (ts.length : Int)) (hk : t.kind = (thAt ts k).kind) (s : Th) : gateOk (setTh ts k t) s = gateOk ts s := by
  unfold gateOk
  rw [Wk h hk]
theorem Nh (hT : tableOk ts = true) {s : Th} (hs : s ∈ ts) : thingOk s = true ∧ gateOk ts s = true ∧ ∀ r ∈ s.slots, rightTo ts r = true := by
  rw [J6] at hT
  have h1 := List.all_eq_true.1 (Bool.and_eq_true_iff.1 hT).2 s hs
  unfold rowOk at h1
  rw [Bool.and_eq_true, Bool.and_eq_true] at h1
  exact ⟨h1.1.1, h1.1.2, fun r hr => List.all_eq_true.1 h1.2 r hr⟩
theorem Vb (hT : tableOk ts = true) (h : 1 ≤ k ∧ k ≤ (ts.length : Int)) : thingOk (thAt ts k) = true ∧ gateOk ts (thAt ts k) = true ∧ ∀ r ∈ (thAt ts k).slots, rightTo ts r = true :=
  Nh hT (List.mem_of_getElem? (R3 h))
theorem Gn (hT : tableOk ts = true) (h : 1 ≤ k ∧ k ≤ (ts.length : Int)) (hok : thingOk t = true) (hk : t.kind = (thAt ts k).kind) (hv : (thAt ts k).ve ≤ t.ve) (hto : t.to = (thAt ts k).to) (hs : ∀ r ∈ t.slots, rightTo ts r = true) : tableOk (setTh ts k t) = true := by
  have hT' := hT
  rw [J6] at hT ⊢
  rw [Bool.and_eq_true] at hT ⊢
  refine ⟨by rw [K0]; exact hT.1, List.all_eq_true.2 fun s hs' => ?_⟩
  have key : thingOk s = true ∧ gateOk ts s = true ∧ ∀ r ∈ s.slots, rightTo ts r = true := by
    rcases List.mem_or_eq_of_mem_set hs' with h1 | rfl
    · exact Nh hT' h1
    · refine ⟨hok, ?_, hs⟩
      have h2 := (Vb hT' h).2.1
      unfold gateOk at h2 ⊢
      rw [hk, hto]; exact h2
  unfold rowOk
  rw [Bool.and_eq_true, Bool.and_eq_true]
  exact ⟨⟨key.1, by rw [L5 h hk]; exact key.2.1⟩, List.all_eq_true.2 fun r hr => Lb h hv (key.2.2 r hr)⟩
theorem Hh (hT : tableOk ts = true) (h : 1 ≤ k ∧ k ≤ (ts.length : Int)) (j : Int) : rightOk (slotAt ts k j) = true ∧ rightTo ts (slotAt ts k j) = true := by
  have h1 := Vb hT h
  unfold slotAt
  by_cases hj : j.toNat < (thAt ts k).slots.length
  · have h2 := List.mem_of_getElem? (Kb hj)
    exact ⟨List.all_eq_true.1 (Wx h1.1) _ h2, h1.2.2 _ h2⟩
  · have : rAt (thAt ts k).slots j.toNat = Rt.zero := by
      unfold rAt
      rw [List.getD_eq_getElem?_getD, List.getElem?_eq_none (by omega)]
      rfl
    rw [this]
    exact ⟨by decide, by simp [rightTo, Rt.zero]⟩
end
theorem Ug {ts : List Th} {k kd : Int} (h : kindAt ts k kd = true) : (1 ≤ k ∧ k ≤ (ts.length : Int)) ∧ (thAt ts k).kind = kd := by
  unfold kindAt at h
  rw [Bool.and_eq_true] at h
  exact ⟨Yu.1 h.1, of_decide_eq_true h.2⟩
theorem Pg (ts : List Th) (q : Cl) : -3 ≤ check1 ts q ∧ check1 ts q ≤ 0 := by
  unfold check1
  split
  · omega
  · split
    · omega
    · split
      · omega
      · split <;> omega
theorem Qq {ts : List Th} {q : Cl} (hp : callPoss ts q = true) : tableOk ts = true ∧ callOk q = true ∧ kindAt ts q.run 3 = true := by
  unfold callPoss at hp
  rw [Bool.and_eq_true, Bool.and_eq_true] at hp
  exact ⟨hp.1.1, hp.1.2, hp.2⟩
end Go.Dw
end
section
namespace Go.Dw
structure KeepsI (lo hi : Nat) (K : List TypeId) (w w' : World) : Prop where
  os : w'.os = w.os
  tape : w'.tape = w.tape
  output : w'.output = w.output
  size : w.heap.size ≤ w'.heap.size
  block : ∀ k, k < w.heap.size → (k < lo ∨ hi ≤ k ∨ ∀ cs T p, w.heap[k]? = some (.cells cs T p) → T ∉ K) → w'.heap[k]? = w.heap[k]?
section
variable {lo hi : Nat} {K : List TypeId} {w w1 w2 : World}
theorem KeepsI.of0 (hg : w.grownBy w1 none) : KeepsI lo hi K w w1 := ⟨hg.os, hg.tape, hg.output, hg.size, fun k hk _ => hg.block k hk (by simp)⟩
theorem KeepsI.refl (w : World) : KeepsI lo hi K w w := KeepsI.of0 (World.grownBy.refl w none)
theorem KeepsI.trans (h : KeepsI lo hi K w w1) (k : KeepsI lo hi K w1 w2) : KeepsI lo hi K w w2 :=
  ⟨k.os.trans h.os, k.tape.trans h.tape, k.output.trans h.output, Nat.le_trans h.size k.size, fun b hb hc => by
    have h1 := h.block b hb hc
    exact (k.block b (Nat.lt_of_lt_of_le hb h.size) (by rcases hc with h2 | h2 | h2; exact Or.inl h2; exact Or.inr (Or.inl h2); exact Or.inr (Or.inr (fun cs T p e => h2 cs T p (h1.symm.trans e))))).trans h1⟩
theorem KeepsI.low (h : KeepsI lo hi K w w1) (hg : w1.grownBy w2 none) : KeepsI lo hi K w w2 := h.trans (KeepsI.of0 hg)
theorem KeepsI.own {B sz cap n : Nat} {T : TypeId} {vs : List Value} (h : KeepsI lo hi K w w1) (hg : w1.grownBy w2 (some B)) (ho : Own w1 B T sz cap n vs) (hT : T ∈ K) (hl : lo ≤ B) (hh : B < hi) : KeepsI lo hi K w w2 := h.trans
  ⟨hg.os, hg.tape, hg.output, hg.size, fun k hk hc => hg.block k hk (by
    intro e
    have e : k = B := by simpa using e
    subst e
    obtain ⟨_, cs, hb, _⟩ := ho.blk
    rcases hc with h2 | h2 | h2
    · omega
    · omega
    · exact h2 cs T (0, 0) hb hT)⟩
theorem KeepsI.grown {r : Option Nat} (hg : w.grownBy w1 r) (h : KeepsI lo hi K w1 w2) (hl : w.heap.size ≤ lo) : w.grownBy w2 r :=
  ⟨h.os.trans hg.os, h.tape.trans hg.tape, h.output.trans hg.output, Nat.le_trans hg.size h.size, fun k hk hr => (h.block k (Nat.lt_of_lt_of_le hk hg.size) (Or.inl (by omega))).trans (hg.block k hk hr)⟩
end
structure RowO (TR TI lo : Nat) (w : World) (m : MTh) : Prop where
  s : OwnN lo w m.sa TR 5 m.sc m.t.slots.length (m.t.slots.flatMap Rt.cells)
  q : OwnN lo w m.qa TI 1 m.qc m.t.queue.length (m.t.queue.flatMap icell)
structure RowsO (TR TI lo : Nat) (w : World) (ms : List MTh) : Prop where
  row : ∀ m ∈ ms, RowO TR TI lo w m
  apart : ∀ i j S, i < ms.length → j < ms.length → i ≠ j → (mAt ms i).sa = some ⟨S, 0, none⟩ → (mAt ms j).sa ≠ some ⟨S, 0, none⟩
def HiO (hi : Nat) (ms : List MTh) : Prop := ∀ m ∈ ms, ∀ c, (m.sa = some ⟨c, 0, none⟩ ∨ m.qa = some ⟨c, 0, none⟩) → c < hi
section
variable {TR TI lo : Nat} {w w' : World} {m : MTh} {ms : List MTh}
theorem RowO.low (h : RowO TR TI lo w m) (hg : w.grownBy w' none) : RowO TR TI lo w' m := ⟨h.s.grown0 hg, h.q.grown0 hg⟩
theorem RowO.lt {R : Nat} (h : RowO TR TI lo w m) (hg : w.grownBy w' (some R)) (hR : R < lo) : RowO TR TI lo w' m := ⟨h.s.grown_lt hg hR, h.q.grown_lt hg hR⟩
theorem RowO.typ {B U sz cap n : Nat} {us : List Value} (h : RowO TR TI lo w m) (hg : w.grownBy w' (some B)) (k : Own w B U sz cap n us) (h1 : TR ≠ U) (h2 : TI ≠ U) : RowO TR TI lo w' m := ⟨h.s.typ hg k h1, h.q.typ hg k h2⟩
theorem RowO.mono {lo' : Nat} (h : RowO TR TI lo w m) (hl : lo' ≤ lo) : RowO TR TI lo' w m := ⟨h.s.mono hl, h.q.mono hl⟩
theorem RowO.th (h : RowO TR TI lo w m) : ThAt w m := ⟨OwnN.sl Qs (by omega) h.s, OwnN.sl Yn (by omega) h.q, OwnN.cap0 h.s, OwnN.cap0 h.q⟩
theorem RowO.g (h : RowO TR TI lo w m) : ThG lo w m := ⟨SlG.ownN Qs (by omega) h.s, SlG.ownN Yn (by omega) h.q, OwnN.cap0 h.s, OwnN.cap0 h.q⟩
theorem RowsO.low (h : RowsO TR TI lo w ms) (hg : w.grownBy w' none) : RowsO TR TI lo w' ms := ⟨fun m hm => (h.row m hm).low hg, h.apart⟩
theorem RowsO.lt {R : Nat} (h : RowsO TR TI lo w ms) (hg : w.grownBy w' (some R)) (hR : R < lo) : RowsO TR TI lo w' ms := ⟨fun m hm => (h.row m hm).lt hg hR, h.apart⟩
theorem RowsO.own {B U sz cap n : Nat} {us : List Value} (h : RowsO TR TI lo w ms) (hg : w.grownBy w' (some B)) (k : Own w B U sz cap n us) (h1 : TR ≠ U) (h2 : TI ≠ U) : RowsO TR TI lo w' ms := ⟨fun m hm => (h.row m hm).typ hg k h1 h2, h.apart⟩
theorem RowsO.mono {lo' : Nat} (h : RowsO TR TI lo w ms) (hl : lo' ≤ lo) : RowsO TR TI lo' w ms := ⟨fun m hm => (h.row m hm).mono hl, h.apart⟩
theorem RowsO.ge {b hi : Nat} (h : RowsO TR TI lo w ms) (hg : w.grownBy w' (some b)) (hH : HiO hi ms) (hb : hi ≤ b) : RowsO TR TI lo w' ms :=
  ⟨fun m hm => ⟨(h.row m hm).s.grown hg (fun B e => Q1 (by have := hH m hm B (Or.inl e); omega)), (h.row m hm).q.grown hg (fun B e => Q1 (by have := hH m hm B (Or.inr e); omega))⟩, h.apart⟩
theorem Nz {T sz cap n lo c : Nat} {a : Option Addr} {vs : List Value} (h : OwnN lo w a T sz cap n vs) (e : a = some ⟨c, 0, none⟩) : c < w.heap.size ∧ lo ≤ c := by
  rcases h.form with ⟨e2, _⟩ | ⟨B, e2, h2, h3, _⟩
  · rw [e2] at e; cases e
  · rw [e2] at e
    simp only [Option.some.injEq, Addr.mk.injEq, and_true] at e
    omega
theorem RowsO.hi (h : RowsO TR TI lo w ms) : HiO w.heap.size ms := fun m hm c hc => by
  rcases hc with e | e
  · exact (Nz (h.row m hm).s e).1
  · exact (Nz (h.row m hm).q e).1
theorem RowsO.at (h : RowsO TR TI lo w ms) {i : Nat} (hi : i < ms.length) : RowO TR TI lo w (mAt ms i) := h.row _ (List.mem_of_getElem? (Qw hi))
theorem RowsO.tab {B T cap : Nat} (h : RowsO TR TI lo w ms) (ho : Own w B T 8 cap ms.length (ms.flatMap MTh.cells)) : TabAt w (some ⟨B, 0, none⟩) ms := ⟨Own.sl Qf ho, fun m hm => (h.row m hm).th⟩
theorem RowsO.nil : RowsO TR TI lo w [] := ⟨(fun m hm => by cases hm), fun i j S hi => absurd hi (Nat.not_lt_zero _)⟩
theorem Uy {i j : Nat} (hi : i < ms.length) : mAt (ms.set i m) j = if j = i then m else mAt ms j := by
  unfold mAt
  rw [List.getD_eq_getElem?_getD, List.getD_eq_getElem?_getD, List.getElem?_set]
  by_cases e : j = i
  · subst e
    rw [if_pos rfl, if_pos rfl, if_pos hi]
    rfl
  · rw [if_neg e, if_neg (by omega)]
theorem H5 {j : Nat} (hj : j < (ms ++ [m]).length) : mAt (ms ++ [m]) j = if j = ms.length then m else mAt ms j := by
  have hj' : j ≤ ms.length := by rw [List.length_append, List.length_singleton] at hj; omega
  unfold mAt
  rw [List.getD_eq_getElem?_getD, List.getD_eq_getElem?_getD]
  by_cases e : j = ms.length
  · subst e
    rw [if_pos rfl, List.getElem?_append_right (Nat.le_refl _), Nat.sub_self]
    rfl
  · rw [if_neg e, List.getElem?_append_left (by omega)]
theorem RowsO.snoc {hi : Nat} (h : RowsO TR TI lo w ms) (hm : RowO TR TI lo w m) (hH : HiO hi ms) (hS : ∀ S, m.sa = some ⟨S, 0, none⟩ → hi ≤ S) : RowsO TR TI lo w (ms ++ [m]) := by
  refine ⟨fun x hx => ?_, fun i j S hi' hj hne => ?_⟩
  · rcases List.mem_append.1 hx with h1 | h1
    · exact h.row x h1
    · simp at h1; subst h1; exact hm
  · rw [H5 hi', H5 hj]
    rw [List.length_append, List.length_singleton] at hi' hj
    split
    · rename_i e1
      rw [if_neg (by omega)]
      intro e2 e3
      have h1 := hS S e2
      have h2 := hH _ (List.mem_of_getElem? (Qw (show j < ms.length by omega))) S (Or.inl e3)
      omega
    · rename_i e1
      split
      · intro e2 e3
        have h1 := hS S e3
        have h2 := hH _ (List.mem_of_getElem? (Qw (show i < ms.length by omega))) S (Or.inl e2)
        omega
      · exact h.apart i j S (by omega) (by omega) hne
theorem RowsO.setr {i : Nat} (h : RowsO TR TI lo w ms) (hi : i < ms.length) {m' : MTh} (hm : RowO TR TI lo w m') (hS : ∀ S, m'.sa = some ⟨S, 0, none⟩ → (mAt ms i).sa = some ⟨S, 0, none⟩ ∨ ∀ x ∈ ms, x.sa ≠ some ⟨S, 0, none⟩) : RowsO TR TI lo w (ms.set i m') := by
  refine ⟨fun x hx => ?_, fun a b S ha hb hne => ?_⟩
  · rcases List.mem_or_eq_of_mem_set hx with h1 | rfl
    · exact h.row x h1
    · exact hm
  · rw [List.length_set] at ha hb
    rw [Uy hi, Uy hi]
    split
    · rename_i e1
      rw [if_neg (by omega)]
      intro e2
      rcases hS S e2 with h1 | h1
      · exact h.apart i b S hi hb (by omega) h1
      · exact h1 _ (List.mem_of_getElem? (Qw hb))
    · rename_i e1
      split
      · intro e2 e3
        rcases hS S e3 with h1 | h1
        · exact h.apart a i S ha hi (by omega) e2 h1
        · exact h1 _ (List.mem_of_getElem? (Qw ha)) e2
      · exact h.apart a b S ha hb hne
theorem RowsO.set {i : Nat} (h : RowsO TR TI lo w ms) (hi : i < ms.length) {m' : MTh} (hq : m'.qa = (mAt ms i).qa ∧ m'.qc = (mAt ms i).qc ∧ m'.t.queue = (mAt ms i).t.queue) (hs : m'.sa = (mAt ms i).sa ∧ m'.sc = (mAt ms i).sc ∧ m'.t.slots = (mAt ms i).t.slots) : RowsO TR TI lo w (ms.set i m') := by
  obtain ⟨h1, h2, h3⟩ := hq
  obtain ⟨h4, h5, h6⟩ := hs
  refine h.setr hi ⟨?_, ?_⟩ fun S e => Or.inl (by rw [← h4]; exact e)
  · rw [h4, h5, h6]; exact (h.at hi).s
  · rw [h1, h2, h3]; exact (h.at hi).q
theorem RowsO.setn {i hi' : Nat} (h : RowsO TR TI lo w ms) (hi : i < ms.length) {m' : MTh} (hm : RowO TR TI lo w m') (hH : HiO hi' ms) (hS : ∀ S, m'.sa = some ⟨S, 0, none⟩ → hi' ≤ S) : RowsO TR TI lo w (ms.set i m') :=
  h.setr hi hm fun S e => Or.inr fun x hx e2 => by
    have h1 := hS S e
    have h2 := hH x hx S (Or.inl e2)
    omega
theorem RowsO.slot {i : Nat} (h : RowsO TR TI lo w ms) (hi : i < ms.length) (hs : 0 < (mAt ms i).t.slots.length) : ∃ S : Nat, (mAt ms i).sa = some ⟨S, 0, none⟩ ∧ lo ≤ S ∧ Own w S TR 5 (mAt ms i).sc (mAt ms i).t.slots.length ((mAt ms i).t.slots.flatMap Rt.cells) :=
  (h.at hi).s.some_ hs
end
def putS (m : MTh) (j : Nat) (x : Rt) : MTh := { m with t := { m.t with slots := m.t.slots.set j x } }
def putT (ms : List MTh) (i j : Nat) (x : Rt) : List MTh := ms.set i (putS (mAt ms i) j x)
theorem H9 {ms : List MTh} {i j : Nat} {x : Rt} : (putT ms i j x).length = ms.length := List.length_set ..
theorem RowsO.put {TR TI lo : Nat} {w w' : World} {ms : List MTh} {i k S cap : Nat} {x : Rt} (h : RowsO TR TI lo w ms) (hi : i < ms.length) (hS : (mAt ms i).sa = some ⟨S, 0, none⟩) (hl : lo ≤ S)
    (ho : Own w S TR 5 cap (mAt ms i).t.slots.length ((mAt ms i).t.slots.flatMap Rt.cells)) (hc : cap = (mAt ms i).sc) (hO : Own w' S TR 5 cap ((mAt ms i).t.slots.set k x).length (((mAt ms i).t.slots.set k x).flatMap Rt.cells)) (hg : w.grownBy w' (some S)) (hT : TI ≠ TR) : RowsO TR TI lo w' (putT ms i k x) := by
  subst hc
  refine ⟨fun y hy => ?_, fun a b Z ha hb hne => ?_⟩
  · obtain ⟨j, hj, e⟩ := List.getElem_of_mem hy
    have hy' : y = mAt (putT ms i k x) j := by
      unfold mAt
      rw [List.getD_eq_getElem?_getD, List.getElem?_eq_getElem hj, e]
      rfl
    have hj' : j < ms.length := by rwa [H9] at hj
    unfold putT at hy'
    rw [Uy hi] at hy'
    split at hy'
    · subst hy'
      refine ⟨?_, (h.at hi).q.typ hg ho hT⟩
      show OwnN lo w' (mAt ms i).sa TR 5 (mAt ms i).sc _ _
      rw [hS]
      exact OwnN.of hO hl
    · rename_i e2
      subst hy'
      refine ⟨(h.at hj').s.grown hg (fun Z hZ => Q1 fun e3 => ?_), (h.at hj').q.typ hg ho hT⟩
      subst e3
      exact h.apart i j Z hi hj' (by omega) hS hZ
  · rw [H9] at ha hb
    have hsa : ∀ j, (mAt (putT ms i k x) j).sa = (mAt ms j).sa := fun j => by
      unfold putT
      rw [Uy hi]
      split
      · rename_i e; rw [e]; rfl
      · rfl
    rw [hsa, hsa]
    exact h.apart a b Z ha hb hne
theorem TabLen.ok {ms : List MTh} (h : tableOk (tabT ms) = true) : TabLen ms := fun m hm => by
  have h1 := Qg (Nh h (List.mem_map.2 ⟨m, hm, rfl⟩)).1
  have h5 := h1.2.2.2.2.1
  have h6 := h1.2.2.2.2.2.1
  unfold slotsOk at h5
  unfold queueOk at h6
  constructor
  · split at h5
    · have := of_decide_eq_true (Bool.and_eq_true_iff.1 h5).1
      omega
    · have := of_decide_eq_true h5
      omega
  · split at h6
    · have := of_decide_eq_true (Bool.and_eq_true_iff.1 h6).1
      omega
    · have := of_decide_eq_true h6
      omega
theorem Lf {ms : List MTh} {i : Nat} {m : MTh} : tabT (ms.set i m) = (tabT ms).set i m.t := List.map_set ..
section
variable {ms : List MTh} {q : Cl} {r : Rt}
end
section
variable {ms ms1 : List MTh} {q : Cl}
end
theorem Ul {ts : List Th} {q : Cl} (h1 : tableOk ts = true) (h2 : callOk q = true) (h3 : kindAt ts q.run 3 = true) : callPoss ts q = true := by unfold callPoss; rw [h1, h2, h3]; rfl
section
variable {P : Program} {n : Nat} {ops : Array Oper} {K : Fr → World → Prop} {l : List Oper} {f : Fr} {w : World} {ty : TypeId} {pos : String} {aft : Array Edge} {d : Nat}
theorem N9 {x y : Operand} {k : IntKind} {a b c : Int} {ts : Array TypeId} (hx : ev f x = .int k a) (hy : ev f y = .int k b) (hc : c = min a b) (hd : Nat.blt d n = true)
    (h : WpO P n ops K l (up f d (.int k c)) w) : WpO P n ops K (⟨some d, .call ⟨.builtin .min, #[x, y], ts⟩, ty, pos, aft, none⟩ :: l) f w := by
  refine Qc rfl hd (v := .int k c) (w' := w) ?_ h
  have e : (if b < a then b else a) = c := by rw [hc]; split <;> omega
  simp [execOp, resolve, invoke, builtin, hx, hy, Builtin.min_, Builtin.min2, e]
theorem W0 {x : Operand} {nm : String} {T : TypeId} {k : FuncId} {rv v0 : Value} {args : Array Operand} {tys : Array TypeId} {vs : List Value} {R : Value → World → Prop} (hk : goFn P k = true) (hx : ev f x = .iface T rv) (hm : ∀ w : World, (Go.method (P.types.size + Made.depth) T rv nm).run P w = .ok (k, v0) w) (ha : args.toList.map (ev f) = vs) (hd : Nat.blt d n = true)
    (hc : CallsR P k (v0 :: vs).toArray w R) (h : ∀ v w', R v w' → WpO P n ops K l (up f d v) w') : WpO P n ops K (⟨some d, .call ⟨.invoke x nm, args, tys⟩, ty, pos, aft, none⟩ :: l) f w :=
  Gu (R := R) (k := k) (args := (v0 :: vs).toArray) rfl hd (by
    have e : args.map (ev f) = vs.toArray := by rw [← ha]; apply Array.ext'; simp
    have e2 : (#[Value.iface T rv] ++ vs.toArray).extract 1 (#[Value.iface T rv] ++ vs.toArray).size = vs.toArray := by apply Array.ext'; simp
    have e3 : (#[v0] ++ vs.toArray) = (v0 :: vs).toArray := by apply Array.ext'; simp
    have e4 : (#[Value.iface T rv] ++ vs.toArray)[0]? = some (Value.iface T rv) := by simp
    simp only [execOp, resolve, invoke, callMethod, hx, e, e2, e4, Sem.run_bind, Sem.run_pure, run_program, Result.andThen_ok, hm, Wr hk, e3]) hc h
end
end Go.Dw
end
section
namespace Go.Dw
def chkAll (ts : List Th) (q : Cl) : Int := if callPoss ts q = true then check1 ts q else -1
def chkSees (ts : List Th) (run th : Int) : Bool := ((tableOk ts && kindAt ts run 3) && inR th 1 (ts.length : Int)) && sees ts run th
def kindsOf (c : Int) : List Int := if c = 1 ∨ c = 2 then [1] else if c = 4 ∨ c = 5 then [2] else if c = 6 ∨ c = 7 then [4] else if c = 9 then [5] else [1, 2, 4]
theorem Ri (c x : Int) : (kindsOf c).any (fun y => decide (y = x)) = kindFor c x := by
  have e : ∀ a b : Int, decide (a = b) = decide (b = a) := fun a b => by rw [Bool.eq_iff_iff]; simp [eq_comm]
  unfold kindsOf kindFor
  split
  · simp [e 1 x]
  split
  · simp [e 2 x]
  split
  · simp [e 4 x]
  split
  · simp [e 5 x]
  · simp [e 1 x, e 2 x, e 4 x, Bool.or_assoc]
section
variable {ts : List Th} {q : Cl}
theorem Ja : -3 ≤ chkAll ts q ∧ chkAll ts q ≤ 0 := by
  have := Pg ts q
  unfold chkAll
  split <;> omega
theorem Q5 (h : callPoss ts q = true) : chkAll ts q = check1 ts q := by unfold chkAll; rw [if_pos h]
theorem W9 (h : callPoss ts q = false) : chkAll ts q = -1 := by unfold chkAll; rw [h]; rfl
theorem Hy (h : (((!tableOk ts) || (!callOk q)) || (!kindAt ts q.run 3)) = true) : callPoss ts q = false := by
  unfold callPoss
  cases h1 : tableOk ts <;> cases h2 : callOk q <;> cases h3 : kindAt ts q.run 3 <;> simp_all
theorem Gy (h : (((!tableOk ts) || (!callOk q)) || (!kindAt ts q.run 3)) = false) : callPoss ts q = true := by
  unfold callPoss
  cases h1 : tableOk ts <;> cases h2 : callOk q <;> cases h3 : kindAt ts q.run 3 <;> simp_all
theorem Hz (h : ¬ chkAll ts q = -1) : callPoss ts q = true := by
  unfold chkAll at h
  split at h
  · assumption
  · exact absurd rfl h
theorem L3 (hT : tableOk ts = true) (hk : kindAt ts q.run 3 = true) {t : Int} (ht : 1 ≤ t ∧ t ≤ (ts.length : Int)) : chkSees ts q.run t = sees ts q.run t := by
  unfold chkSees
  rw [hT, hk, Yu.2 ht]
  rfl
theorem T1 {ms : List MTh} {run th : Int} (hT : tableOk (tabT ms) = true) (hr : 1 ≤ run ∧ run ≤ (ms.length : Int)) (ht : 1 ≤ th ∧ th ≤ (ms.length : Int)) : labelFlow (mAt ms (th - 1).toNat).t.lab (mAt ms (run - 1).toNat).t.lab = sees (tabT ms) run th := by
  rw [← Rz]
  unfold labelFlow
  rw [Kw hT (i := (th - 1).toNat) (by omega), Kw hT (i := (run - 1).toNat) (by omega)]
  rfl
theorem P0 {ms : List MTh} {run th : Int} (hT : tableOk (tabT ms) = true) (hr : 1 ≤ run ∧ run ≤ (ms.length : Int)) (ht : 1 ≤ th ∧ th ≤ (ms.length : Int)) : labelFlow (mAt ms (run - 1).toNat).t.lab (mAt ms (th - 1).toNat).t.lab = touches (tabT ms) run th := by
  rw [← Gp]
  unfold labelFlow
  rw [Kw hT (i := (th - 1).toNat) (by omega), Kw hT (i := (run - 1).toNat) (by omega)]
  rfl
theorem Pj {c : Int} : (kindsOf c).length ≤ 3 := by
  unfold kindsOf
  repeat' split
  all_goals decide
theorem Ts {ms : List MTh} {r : Rt} (h : (decide (r.th = 0) || !kindFor q.kind (mAt ms (r.th - 1).toNat).t.kind) = true) : chk1m ms q r = true := by unfold chk1m; rw [h]; rfl
theorem Tt {ms : List MTh} {r : Rt} (h : (decide (r.th = 0) || !kindFor q.kind (mAt ms (r.th - 1).toNat).t.kind) = false) (h2 : ((need0 q.kind && !r.rd) || (need1 q.kind && !r.wr)) = true) : chk1m ms q r = true := by unfold chk1m; rw [h, Bool.false_or]; exact h2
theorem L4 {ms : List MTh} {r : Rt} (h : (decide (r.th = 0) || !kindFor q.kind (mAt ms (r.th - 1).toNat).t.kind) = false) (h2 : ((need0 q.kind && !r.rd) || (need1 q.kind && !r.wr)) = false) : chk1m ms q r = false := by unfold chk1m; rw [h, Bool.false_or]; exact h2
theorem Gc {ms : List MTh} {k kd : Int} (h1 : 1 ≤ k ∧ k ≤ (ms.length : Int)) (h2 : (mAt ms (k - 1).toNat).t.kind = kd) : kindAt (tabT ms) k kd = true := by
  rw [← Ua, Bool.and_eq_true]
  exact ⟨Yu.2 h1, decide_eq_true h2⟩
theorem So {r : Rt} (h : rightOk r = true) (h0 : decide (r.th = 0) = true) : r = Rt.zero := by
  rw [← Gh h0] at h
  exact of_decide_eq_true h
end
end Go.Dw
end
section
namespace Go.Dw
section
variable {ts : List Th} {q : Cl}
def Like (a b : Th) : Prop := b.kind = a.kind ∧ b.lab = a.lab ∧ b.to = a.to ∧ a.ve ≤ b.ve
theorem Like.refl (a : Th) : Like a a := ⟨rfl, rfl, rfl, Int.le_refl _⟩
theorem Like.trans {a b c : Th} (h : Like a b) (k : Like b c) : Like a c := ⟨k.1.trans h.1, k.2.1.trans h.2.1, k.2.2.1.trans h.2.2.1, Int.le_trans h.2.2.2 k.2.2.2⟩
theorem TabG.nil {lo : Nat} {w : World} {a : Option Addr} : TabG lo w a [] := ⟨fun k x h => by simp at h, fun m hm => by cases hm⟩
end
end Go.Dw
end
section
namespace Go.Proofs.YtjpgffmkcmcolabDoor
open Go.RowKit Go.Dw
set_option maxRecDepth 100000
set_option maxHeartbeats 4000000
set_option linter.unusedSimpArgs false
set_option linter.unusedVariables false
theorem Mb : goFn Tryd.prog 12 = true := by kernel_rfl
theorem Mc : goFn Tryd.prog 13 = true := by kernel_rfl
theorem Md : goFn Tryd.prog 14 = true := by kernel_rfl
theorem Me : goFn Tryd.prog 18 = true := by kernel_rfl
theorem Tv : goFn Tryd.prog 9 = true := by kernel_rfl
theorem Kk (q : Cl) (w : World) (ms : List MTh) (a : Option Addr) (c : Nat) (ht : TabAt w a ms) (hlen : TabLen ms) (hn : ms.length ≤ 1048576) : CallsR Tryd.prog 7 #[.slice a ms.length c, .agg #[vi q.kind, vi q.run, vi q.a, vi q.b, vi q.n]] w (fun v w' => v = vi (chkAll (tabT ms) q) ∧ w.grownBy w' none) := by
 refine X0 (n := 23) Tryd.func7 Z Tryd.ntmps7 Z ?_
 have a9 := World.grownBy.refl w none
 refine Xa (Yr (v := .agg #[vi q.kind, vi q.run, vi q.a, vi q.b, vi q.n]) (cs := #[vi q.kind, vi q.run, vi q.a, vi q.b, vi q.n]) Z Z Z ?_)
 intro am ba O
 have bd := X9 O a9
 have ac := low0 a9 O.grw
 refine Xg (v := vi 0) Z Z (Xb (Xs (X2 (fun f' w' => (f' 0 = .slice a ms.length c ∧ f' 3 = pt am 0 ∧ f' 4 = vi 0 ∧ f' 19 = vb (((!tableOk (tabT ms)) || (!callOk q)) || (!kindAt (tabT ms) q.run 3))) ∧ ba.grownBy w' none) ?_ ?_)))
 refine Xc (v := .slice a ms.length c) Z Z (Xm Sg (Xf Z Xl) Z (Vc  _ ms _ _ (TabAt.low ht ac) hlen (by omega)) ?_)
 rintro _ bg ⟨rfl, J⟩
 refine Yg (b' := !tableOk (tabT ms)) Z Z Z (Xc (v := vb (!tableOk (tabT ms))) Z Z ?_)
 rcases X6 (!tableOk (tabT ms)) with G | G
 have aq := Q8 G
 iterate 3 refine Xi rfl rfl rfl G rfl ?_
 refine Xo (v := vb true) Z G Z Z (Xc (v := vb true) Z Z ?_)
 iterate 5 refine Xi rfl rfl rfl rfl rfl ?_
 exact Xo (v := vb true) Z Z Z Z (Xb ⟨⟨Z, Z, Z, (cB (by simp [G, aq]))⟩, J⟩)
 have af := Qp G
 refine Xe Z Z Z G ?_
 have aj := (O.blk.grown0 J)
 refine Xp (vs := [vi q.kind, vi q.run, vi q.a, vi q.b, vi q.n]) Yp Z Z (aj.rangeL 0 5 Z) Z (Xe Z Z Z G (Xm Tv (Xf Z Xl) Z (Uh q _) ?_))
 rintro _ bh ⟨rfl, V⟩
 refine Xe Z Z Z G (Yg (b' := !callOk q) Z Z Z (Xj (v := vb (!callOk q)) Z G Z Z (Xc (v := vb (!callOk q)) Z Z ?_)))
 rcases X6 (!callOk q) with E | E
 have ar := Q8 E
 iterate 5 refine Xi rfl rfl rfl E rfl ?_
 exact Xo (v := vb true) Z E Z Z (Xb ⟨⟨Z, Z, Z, (cB (by simp [G, af, E, ar]))⟩, (grown_trans J V)⟩)
 have ag := Qp E
 have bb := Q2 ag
 refine Xe Z Z Z E (Xc (v := .slice a ms.length c) Z Z (Xe Z Z Z E (Xd (o' := 1) Qn Z Z Z (Xe Z Z Z E (Xh (v := vi q.run) X3 Z ((aj.grown0 V).cell Z) Z (Xe Z Z Z E (Xm S6 (Xf Z (Xf Z Xl)) Z (H3 q.run (by omega) _ ms _ _ (TabAt.low ht (low0 (low0 ac J) V)) hlen (by omega)) ?_)))))))
 rintro _ bi ⟨rfl, ak⟩
 exact Xe Z Z Z E (Yg (b' := !kindAt (tabT ms) q.run 3) Z Z Z (Xj (v := vb (!kindAt (tabT ms) q.run 3)) Z E Z Z (Xb ⟨⟨Z, Z, Z, (cB (by simp [G, af, E, ag]))⟩, (grown_trans (grown_trans J V) ak)⟩)))
 rintro bf bj ⟨⟨an, ao, be, ap⟩, ae⟩
 have ad := low0 ac ae
 refine Xu ap (fun ab => ?_) (fun ab => ?_)
 refine Xa (Xg (v := vi (-1)) Z Z (Xb (Xq (Ye (⟨vi (-1), Yy Z Z, ?_, ad⟩)))))
 exact congrArg (Value.int .i64) (W9 (Hy ab)).symm
 have ah := Jm ab
 have au := Jm ah
 have av := Qp au
 have aw := Jn ah
 have ai := Qp aw
 have bc := Q2 ai
 have az := Jn ab
 have a8 := Qp az
 refine Xv (Xr (Xa (Xc (v := .slice a ms.length c) an Z (Xp (vs := [vi q.kind, vi q.run, vi q.a, vi q.b, vi q.n]) Yp ao Z ((O.blk.grown0 ae).rangeL 0 5 Z) Z (Xm Me (Xf Z (Xf Z Xl)) Z (L8 q _ ms _ _ (TabAt.low ht ad) hlen (by omega) av ai a8) ?_)))))
 rintro _ bk ⟨rfl, al⟩
 refine Xg (v := vi (check1 (tabT ms) q)) Z Z (Xb (Xq (⟨vi (check1 (tabT ms) q), Yy Z Z, ?_, (low0 ad al)⟩)))
 exact congrArg (Value.int .i64) (Q5 (Gy ab)).symm
theorem Vg (bs : List Int) (a : Option Addr) (c : Nat) (w : World) (bf : SlAt w a 1 (bs.map bcell)) (hb : ∀ b ∈ bs, 0 ≤ b ∧ b ≤ 255) (hn : bs.length ≤ 1048576) (hc : bs.length ≤ c) : CallsR Tryd.prog 5 #[.slice a bs.length c] w (fun v w' => ∃ (B cap : Nat) (ms : List MTh) (q : Cl), v = .tuple #[.slice (pa B) ms.length cap, .agg #[vi q.kind, vi q.run, vi q.a, vi q.b, vi q.n]] ∧ TabG w.heap.size w' (pa B) ms ∧ Small ms ∧ (3 ≤ ms.length ∧ ms.length ≤ 8) ∧ ((0 ≤ q.kind ∧ q.kind ≤ 10) ∧ (1 ≤ q.run ∧ q.run ≤ (ms.length : Int)) ∧ (-1 ≤ q.a ∧ q.a ≤ 4) ∧ (0 ≤ q.b ∧ q.b ≤ 3) ∧ -1 ≤ q.n ∧ q.n ≤ 100) ∧ w.grownBy w' none) := by
 refine X0 (n := 14) Tryd.func5 Z Tryd.ntmps5 Z ?_
 have au := World.grownBy.refl w none
 have hs := SlAt.lt V7 (by omega) bf
 refine Xa (Xg (v := .slice none 0 0) Z Z (Yd (cs := #[vi 0, vi 0, vi 0, vi 0, vi 0]) Lr Z Z ?_))
 intro bh bj V
 have aw := X9 V au
 have ai := low0 au V.grw
 refine Xb (Xa (Xc (v := .slice a bs.length c) Z Z (Xm Mb (Xf Z Xl) Z (Rn bs a c _ (by omega) (by omega)) ?_)))
 rintro _ bk ⟨ab, rfl, ah, am, ak⟩
 have ad := low0 ai ak
 have az := nt ai.size ah
 have an := nl (V.blk).lt ah
 refine Xg (v := pt ab 0) Z Z (Xb (Xa (Xc (v := pt ab 0) Z Z ?_)))
 have aq := (V.blk.grown0 ak)
 have a8 := (aq).lt
 have a9 := (am).lt
 refine Xm Mc (Xf Z Xl) Z (Pn 0 (by omega) _ ab (bs.take 2000) _ _ _ am (by omega) (SlLt.low0 (SlLt.take hs 2000) ad) (by first | exact hb | exact fun b h => hb b (List.mem_of_mem_take h)) (by first | omega | (rw [List.length_take]; omega))) ?_
 rintro _ bl ⟨O, G, J, av, rfl, af, ag, ap, ba, bb, ar, al⟩
 have aj := low1 ad al (by omega)
 have ao := ag.len
 refine Xg (v := .slice (pa O) J.length G) Z Z (Xb (Xa (Xc (v := .slice (pa O) J.length G) Z Z (Xc (v := pt ab 0) Z Z (Xc (v := .slice (pa O) J.length G) Z Z (Xm Md (Xf Z (Xf Z Xl)) Z (Pm av (by omega) _ ab (bs.take 2000) _ _ _ ar (by omega) (SlLt.low0 (SlLt.take hs 2000) aj) (by first | exact hb | exact fun b h => hb b (List.mem_of_mem_take h)) (by first | omega | (rw [List.length_take]; omega)) J _ _ _ af (by omega) ao (by omega)) ?_))))))
 rintro _ bm ⟨E, bi, rfl, be, bc, bd, bg, ae⟩
 refine Xg (v := .slice (pa O) J.length G) Z Z (Xt (vs := [vi E.kind, vi E.run, vi E.a, vi E.b, vi E.n]) (cs' := #[vi E.kind, vi E.run, vi E.a, vi E.b, vi E.n]) Yp Z Z Z (by simp [Value.oneCell']) ((aq.gn al).gn ae) (Nat.le_of_ble_eq_true Z) Z ?_)
 intro bn ac
 refine Xb (Xq ?_)
 refine ⟨.tuple #[.slice (pa O) J.length G, .agg #[vi E.kind, vi E.run, vi E.a, vi E.b, vi E.n]], M6 Z Z (X7 (vs := [vi E.kind, vi E.run, vi E.a, vi E.b, vi E.n]) Yp Z Z (ac.blk.rangeL 0 5 Z)), O, G, J, E, Z, (TabG.mono (TabG.lt (TabG.lt af ae (by omega)) ac.grw (by omega)) ad.size), ag, ap, by omega, (low1 (low1 aj ae (by omega)) ac.grw (by omega))⟩
end Go.Proofs.YtjpgffmkcmcolabDoor
end
section
namespace Go.Proofs.YtjpgffmkcmcolabDoor
open Go.RowKit Go.Extern.Stop Go.Stop Go.Extern
theorem To (t : Value) (w : World) :
    Calls Tryd.prog 15 #[.nilIface, t] w fun e w' => e = .returned (.bool false) ∧ w' = w := by
  go_enter Tryd.func15, Tryd.ntmps15
  go_wp2
  go_ret
  exact ⟨rfl, rfl⟩
theorem Gv (t : Addr) (w : World) : (ReflectliteValue.unpack (.iface 51 (.pointer (some t)))).run Tryd.prog w
    = .ok (.agg #[.pointer (some ⟨1, 51, none⟩), .pointer (some ⟨w.heap.size, 0, none⟩), .int .u64 150]) (w.alloc (.cells #[.pointer (some t)] 51)) := by kernel_rfl
theorem Pf (a : Addr) (w : World) : (ReflectliteValue.methodAny (ReflectliteValue.valueError "reflectlite.Value.Type" 0) (fun t _ _ _ => ReflectliteType.toType t) #[.agg #[.pointer (some ⟨1, 51, none⟩), .pointer (some a), .int .u64 150]]).run Tryd.prog w
    = .ok (.iface 100 (.agg #[.pointer (some ⟨1, 51, none⟩)])) w := by kernel_rfl
theorem W4 (h : Value) (w : World) : (Go.method 255 100 (.agg #[h]) "Kind").run Tryd.prog w = .ok (84, h) w := by kernel_rfl
theorem Pd (w : World) : ((ReflectliteType.abiMethod fun t => (fun a : Nat => Value.int IntKind.u8 (a : Int)) <$> Rtype.kind t) #[.pointer (some ⟨1, 51, none⟩)]).run Tryd.prog w = .ok (.int .u8 22) w := by kernel_rfl
theorem P5 (w : World) : ((ReflectliteType.abiMethod fun t => (fun a : Nat => Value.int IntKind.u8 (a : Int)) <$> Rtype.kind t) #[.pointer (some ⟨1, 46, none⟩)]).run Tryd.prog w = .ok (.int .u8 22) w := by kernel_rfl
theorem rlm (z : Sem Value) (f : TypeId → Addr → Nat → Nat → Sem Value) (v : Value) :
    ReflectliteValue.method z f #[v] = (do match ← ReflectliteValue.parts v with | none => z | some (t, a, fl) => f t a fl (fl % 32)) := rfl
theorem U8 (a : Addr) (w : World) : (ReflectliteValue.parts (.agg #[.pointer (some ⟨1, 51, none⟩), .pointer (some a), .int .u64 150])).run Tryd.prog w = .ok (some (51, a, 150)) w := by kernel_rfl
theorem Lw (a p : Addr) (W : World) (ha : W.cell? a = some (.pointer (some p))) :
    (ReflectliteValue.method (ReflectliteValue.valueError "reflectlite.Value.IsNil" 0) ReflectliteValue.isNil #[.agg #[.pointer (some ⟨1, 51, none⟩), .pointer (some a), .int .u64 150]]).run Tryd.prog W = .ok (.bool false) W := by
  rw [rlm]
  simp only [Sem.run_bind, U8, Result.andThen]
  simp [ReflectliteValue.isNil, loadVar, isAgg, underlying, Tryd.underlying51, ha, Result.andThen]
theorem W3 (h : Value) (w : World) : (Go.method 255 100 (.agg #[h]) "Elem").run Tryd.prog w = .ok (98, .agg #[h]) w := by kernel_rfl
theorem V0 (h : Value) (w : World) : (Go.method 255 100 (.agg #[h]) "Implements").run Tryd.prog w = .ok (99, .agg #[h]) w := by kernel_rfl
theorem Vi (h : Value) (w : World) : (Go.method 255 100 (.agg #[h]) "AssignableTo").run Tryd.prog w = .ok (96, .agg #[h]) w := by kernel_rfl
theorem Pc (w : World) : (ReflectliteType.method ReflectliteType.elem #[.agg #[.pointer (some ⟨1, 51, none⟩)]]).run Tryd.prog w = .ok (.iface 100 (.agg #[.pointer (some ⟨1, 46, none⟩)])) w := by kernel_rfl
theorem U7 (w : World) : (ReflectliteType.relation "Implements" ReflectliteType.implements_ #[.agg #[.pointer (some ⟨1, 46, none⟩)], .iface 100 (.agg #[.pointer (some ⟨1, 49, none⟩)])]).run Tryd.prog w = .ok (.bool true) w := by kernel_rfl
theorem Ly (v : Value) (w : World) : (ReflectliteType.typeOf #[.iface 46 v]).run Tryd.prog w = .ok (.iface 100 (.agg #[.pointer (some ⟨1, 46, none⟩)])) w := by kernel_rfl
theorem U6 (w : World) : (ReflectliteType.relation "AssignableTo" ReflectliteType.assignableTo #[.agg #[.pointer (some ⟨1, 46, none⟩)], .iface 100 (.agg #[.pointer (some ⟨1, 46, none⟩)])]).run Tryd.prog w = .ok (.bool true) w := by kernel_rfl
theorem Hx (e : Addr) (w : World) : (ReflectliteValue.unpack (.iface 46 (.pointer (some e)))).run Tryd.prog w
    = .ok (.agg #[.pointer (some ⟨1, 46, none⟩), .pointer (some ⟨w.heap.size, 0, none⟩), .int .u64 150]) (w.alloc (.cells #[.pointer (some e)] 46)) := by kernel_rfl
theorem Hw (w : World) : (Rtype.elem? 51).run Tryd.prog w = .ok (some 46) w := by kernel_rfl
theorem Tn (p : Addr) (w : World) : (ReflectliteValue.mk 46 p ReflectliteValue.flagAddr).run Tryd.prog w = .ok (.agg #[.pointer (some ⟨1, 46, none⟩), .pointer (some p), .int .u64 406]) w := by kernel_rfl
theorem Lv (a p : Addr) (W : World) (ha : W.cell? a = some (.pointer (some p))) :
    (ReflectliteValue.method (ReflectliteValue.valueError "reflectlite.Value.Elem" 0) ReflectliteValue.elem #[.agg #[.pointer (some ⟨1, 51, none⟩), .pointer (some a), .int .u64 150]]).run Tryd.prog W
      = .ok (.agg #[.pointer (some ⟨1, 46, none⟩), .pointer (some p), .int .u64 406]) W := by
  rw [rlm]
  simp only [Sem.run_bind, U8, Result.andThen]
  simp [ReflectliteValue.elem, loadVar, isAgg, underlying, Tryd.underlying51, ha, Result.andThen, Hw, Tn]
theorem rls (v x : Value) : ReflectliteValue.set #[v, x] = (do
    let (some (dst, a, fl), some (src, b, _)) := (← ReflectliteValue.parts v, ← ReflectliteValue.parts x)
      | unsupported (.noEntry "extern/(internal/reflectlite.Value).Set.zeroValue")
    if fl / ReflectliteValue.flagAddr % 2 == 0 then unsupported (.noEntry "extern/(internal/reflectlite.Value).Set.unaddressable")
    let val ← loadVar src b
    if ← Rtype.directlyAssignable dst src then storeVar dst a val
    else if ← Rtype.implements dst src then
      if (← Rtype.kind src) == 20 then
        match val with
        | .nilIface => unsupported (.noEntry "extern/reflectlite: a nil value of one interface type handed on as a value of another")
        | _ => storeVar dst a val
      else storeVar dst a (.iface src val)
    else panicString ("reflectlite.Set: value of type " ++ (← Rtype.spelt src) ++ " is not assignable to type " ++ (← Rtype.spelt dst))
    pure (.tuple #[])) := rfl
theorem Lx (a : Addr) (w : World) : (ReflectliteValue.parts (.agg #[.pointer (some ⟨1, 46, none⟩), .pointer (some a), .int .u64 406])).run Tryd.prog w = .ok (some (46, a, 406)) w := by kernel_rfl
theorem Pe (a : Addr) (w : World) : (ReflectliteValue.parts (.agg #[.pointer (some ⟨1, 46, none⟩), .pointer (some a), .int .u64 150])).run Tryd.prog w = .ok (some (46, a, 150)) w := by kernel_rfl
theorem Lu (w : World) : (Rtype.directlyAssignable 46 46).run Tryd.prog w = .ok true w := by kernel_rfl
theorem R7 (ta b e : Addr) (old : Value) (W : World) (hb : W.cell? b = some (.pointer (some e))) (ht : W.cell? ta = some old) (hf : W.frozen? ta = false) :
    (ReflectliteValue.set #[.agg #[.pointer (some ⟨1, 46, none⟩), .pointer (some ta), .int .u64 406], .agg #[.pointer (some ⟨1, 46, none⟩), .pointer (some b), .int .u64 150]]).run Tryd.prog W
      = .ok (.tuple #[]) (W.setCell ta (.pointer (some e))) := by
  rw [rls]
  simp only [Sem.run_bind, Lx, Pe, Result.andThen]
  simp [ReflectliteValue.flagAddr, loadVar, isAgg, underlying, Tryd.underlying46, hb, Result.andThen, Lu, storeVar, Value.cells, storeCells, Addr.add]
  rw [run_store Tryd.prog W ta _ _ (by rfl)]
  simp [ht, hf]
set_option maxHeartbeats 4000000 in
theorem Tm (e t : Addr) (old : Value) (w : World) (hg : w.cell? ⟨0, 0, none⟩ = some (.iface 100 (.agg #[.pointer (some ⟨1, 49, none⟩)]))) (ht0 : w.cell? t = some old) (hf0 : w.frozen? t = false) :
    Calls Tryd.prog 15 #[.iface 46 (.pointer (some e)), .iface 51 (.pointer (some t))] w fun ev w' => ev = .returned (.bool true) ∧ w' = ((((w.alloc (.cells #[.pointer (some t)] 51)).alloc (.cells #[.pointer (some ⟨1, 51, none⟩), .pointer (some ⟨w.heap.size, 0, none⟩), .int .u64 150] 70)).alloc (.cells #[.pointer (some ⟨1, 51, none⟩), .pointer (some ⟨w.heap.size, 0, none⟩), .int .u64 150] 70)).alloc (.cells #[.pointer (some e)] 46)).setCell t (.pointer (some e)) := by
  have h6 := @run_callFunc_extern Tryd.prog 31 _ (fun args => ReflectliteValue.unpack (args.getD 0 (.tuple #[]))) Tryd.func31 (by kernel_rfl) (by kernel_rfl) (by kernel_rfl) (by kernel_rfl)
  have h7 := @run_callFunc_extern Tryd.prog 32 _ (ReflectliteValue.methodAny (ReflectliteValue.valueError "reflectlite.Value.Type" 0) (fun t _ _ _ => ReflectliteType.toType t)) Tryd.func32 (by kernel_rfl) (by kernel_rfl) (by kernel_rfl) (by kernel_rfl)
  have h8 := @run_callFunc_extern Tryd.prog 33 _ (ReflectliteValue.method (ReflectliteValue.valueError "reflectlite.Value.IsNil" 0) ReflectliteValue.isNil) Tryd.func33 (by kernel_rfl) (by kernel_rfl) (by kernel_rfl) (by kernel_rfl)
  have h27 := @run_callFunc_extern Tryd.prog 84 _ (ReflectliteType.abiMethod fun t => do pure (.int .u8 (← Rtype.kind t))) Tryd.func84 (by kernel_rfl) (by kernel_rfl) (by kernel_rfl) (by kernel_rfl)
  have h37 := @run_callFunc_extern Tryd.prog 98 _ (ReflectliteType.method ReflectliteType.elem) Tryd.func98 (by kernel_rfl) (by kernel_rfl) (by kernel_rfl) (by kernel_rfl)
  have h38 := @run_callFunc_extern Tryd.prog 99 _ (ReflectliteType.relation "Implements" ReflectliteType.implements_) Tryd.func99 (by kernel_rfl) (by kernel_rfl) (by kernel_rfl) (by kernel_rfl)
  have h10 := @run_callFunc_extern Tryd.prog 53 _ ReflectliteType.typeOf Tryd.func53 (by kernel_rfl) (by kernel_rfl) (by kernel_rfl) (by kernel_rfl)
  have h35 := @run_callFunc_extern Tryd.prog 96 _ (ReflectliteType.relation "AssignableTo" ReflectliteType.assignableTo) Tryd.func96 (by kernel_rfl) (by kernel_rfl) (by kernel_rfl) (by kernel_rfl)
  have h11 := @run_callFunc_extern Tryd.prog 54 _ (ReflectliteValue.method (ReflectliteValue.valueError "reflectlite.Value.Elem" 0) ReflectliteValue.elem) Tryd.func54 (by kernel_rfl) (by kernel_rfl) (by kernel_rfl) (by kernel_rfl)
  have h12 := @run_callFunc_extern Tryd.prog 55 _ ReflectliteValue.set Tryd.func55 (by kernel_rfl) (by kernel_rfl) (by kernel_rfl) (by kernel_rfl)
  have tO := Ly
  have mA := Vi
  have a25 := U6
  have v25 := Hx
  have f6 := Gv
  have f7 := Pf
  have mK := W4
  have mE := W3
  have mI := V0
  have k27 := Pd
  have k25 := P5
  have e27 := Pc
  have i25 := U7
  have n8 := Lw ⟨w.heap.size, 0, none⟩ t ((w.alloc (.cells #[.pointer (some t)] 51)).alloc (.cells #[.pointer (some ⟨1, 51, none⟩), .pointer (some ⟨w.heap.size, 0, none⟩), .int .u64 150] 70)) (by simp)
  have hlt : 0 < w.heap.size := by
    rcases Nat.lt_or_ge 0 w.heap.size with h | h
    · exact h
    · simp [World.cell?, Array.getElem?_eq_none h] at hg
  have hg2 : ((w.alloc (.cells #[.pointer (some t)] 51)).alloc (.cells #[.pointer (some ⟨1, 51, none⟩), .pointer (some ⟨w.heap.size, 0, none⟩), .int .u64 150] 70)).cell? ⟨0, 0, none⟩ = some (.iface 100 (.agg #[.pointer (some ⟨1, 49, none⟩)])) := by
    rw [World.cell?_alloc_lt _ _ ⟨0, 0, none⟩ (by simp), World.cell?_alloc_lt _ _ ⟨0, 0, none⟩ hlt]; exact hg
  have htl : t.block < w.heap.size := by
    rcases Nat.lt_or_ge t.block w.heap.size with h | h
    · exact h
    · simp [World.cell?, Array.getElem?_eq_none h] at ht0
  have el := Lv ⟨w.heap.size, 0, none⟩ t (((w.alloc (.cells #[.pointer (some t)] 51)).alloc (.cells #[.pointer (some ⟨1, 51, none⟩), .pointer (some ⟨w.heap.size, 0, none⟩), .int .u64 150] 70)).alloc (.cells #[.pointer (some ⟨1, 51, none⟩), .pointer (some ⟨w.heap.size, 0, none⟩), .int .u64 150] 70)) (by rw [World.cell?_alloc_lt _ _ ⟨w.heap.size, 0, none⟩ (by simp; omega)]; simp)
  have st := R7 t ⟨w.heap.size + 1 + 1 + 1, 0, none⟩ e old ((((w.alloc (.cells #[.pointer (some t)] 51)).alloc (.cells #[.pointer (some ⟨1, 51, none⟩), .pointer (some ⟨w.heap.size, 0, none⟩), .int .u64 150] 70)).alloc (.cells #[.pointer (some ⟨1, 51, none⟩), .pointer (some ⟨w.heap.size, 0, none⟩), .int .u64 150] 70)).alloc (.cells #[.pointer (some e)] 46))
    (by rw [World.cell?_alloc_at _ _ _ _ (by simp)]; rfl)
    (by rw [World.cell?_alloc_lt _ _ t (by simp; omega), World.cell?_alloc_lt _ _ t (by simp; omega), World.cell?_alloc_lt _ _ t (by simp; omega), World.cell?_alloc_lt _ _ t htl]; exact ht0)
    (by rw [World.frozen?_alloc_old _ _ t (by simp; omega), World.frozen?_alloc_old _ _ t (by simp; omega), World.frozen?_alloc_old _ _ t (by simp; omega), World.frozen?_alloc_old _ _ t (Nat.ne_of_lt htl)]; exact hf0)
  go_enter Tryd.func15, Tryd.ntmps15
  go_wp2
  refine wp_loop_rounds 1 ?_
  rw [rounds_succ]
  go_wp2
  go_ret
  exact ⟨rfl, rfl⟩
def ErrT (w : World) : Prop := w.cell? ⟨0, 0, none⟩ = some (.iface 100 (.agg #[.pointer (some ⟨1, 49, none⟩)]))
theorem ErrT.lt {w : World} (h : ErrT w) : 0 < w.heap.size := by
  rcases Nat.lt_or_ge 0 w.heap.size with h1 | h1
  · exact h1
  · simp [ErrT, World.cell?, Array.getElem?_eq_none h1] at h
theorem ErrT.grown0 {w w' : World} (h : ErrT w) (hg : w.grownBy w' none) : ErrT w' := by
  have h1 := hg.block 0 h.lt (by simp)
  unfold ErrT World.cell? at h ⊢
  rw [h1]; exact h
theorem P6 (t : Value) (w : World) : Dw.CallsR Tryd.prog 15 #[.nilIface, t] w fun v w' => v = .bool false ∧ w' = w :=
  Calls.mono (To t w) fun _ _ ⟨h1, h2⟩ => ⟨_, h1, rfl, h2⟩
theorem P4 (e T : Nat) (old : Value) (w : World) (hg : ErrT w) (hT : Dw.Blk w T 46 #[old]) : Dw.CallsR Tryd.prog 15 #[.iface 46 (.pointer (some ⟨e, 0, none⟩)), .iface 51 (.pointer (some ⟨T, 0, none⟩))] w fun v w' => v = .bool true ∧ Dw.Blk w' T 46 #[.pointer (some ⟨e, 0, none⟩)] ∧ w.grownBy w' (some T) := by
  refine Calls.mono (Tm ⟨e, 0, none⟩ ⟨T, 0, none⟩ old w hg (hT.cell rfl) (hT.froz 0)) ?_
  rintro _ _ ⟨rfl, rfl⟩
  have g4 := Dw.grown_trans (Dw.grown_trans (Dw.grown_trans (World.grownBy_alloc w (.cells #[.pointer (some ⟨T, 0, none⟩)] 51) none) (World.grownBy_alloc _ (.cells #[.pointer (some ⟨1, 51, none⟩), .pointer (some ⟨w.heap.size, 0, none⟩), .int .u64 150] 70) none)) (World.grownBy_alloc _ (.cells #[.pointer (some ⟨1, 51, none⟩), .pointer (some ⟨w.heap.size, 0, none⟩), .int .u64 150] 70) none)) (World.grownBy_alloc _ (.cells #[.pointer (some ⟨e, 0, none⟩)] 46) none)
  have hb := hT.grown0 g4
  have s := Dw.setB_setRow hb #[.pointer (some ⟨e, 0, none⟩)]
  refine ⟨_, rfl, rfl, ?_⟩
  rw [setCell_eq_setRow _ T 0 #[old] 46 (0, 0) _ hb]
  exact ⟨s.blk, Dw.grown_trans ⟨g4.os, g4.tape, g4.output, g4.size, fun i hi _ => g4.block i hi (by simp)⟩ s.grw⟩
end Go.Proofs.YtjpgffmkcmcolabDoor
end
section
namespace Go.Proofs.YtjpgffmkcmcolabDoor
open Go.RowKit Go.Dw
set_option maxRecDepth 100000
set_option maxHeartbeats 4000000
set_option linter.unusedSimpArgs false
set_option linter.unusedVariables false
theorem Vk : elemSz Tryd.prog 113 = some 6 := by kernel_rfl
theorem Sb : fieldOff Tryd.prog 53 0 = some 0 := by kernel_rfl
theorem Ku : fieldOff Tryd.prog 82 0 = some 0 := by kernel_rfl
theorem Sc : fieldOff Tryd.prog 82 1 = some 1 := by kernel_rfl
theorem Sd : fieldOff Tryd.prog 82 2 = some 2 := by kernel_rfl
theorem Nw : fieldOff Tryd.prog 82 3 = some 3 := by kernel_rfl
theorem Se : fieldOff Tryd.prog 82 4 = some 4 := by kernel_rfl
theorem Nx : fieldOff Tryd.prog 82 5 = some 5 := by kernel_rfl
theorem S4 : goFn Tryd.prog 15 = true := by kernel_rfl
theorem S5 : goFn Tryd.prog 16 = true := by kernel_rfl
theorem S9 : goFn Tryd.prog 26 = true := by kernel_rfl
theorem Mg : goFn Tryd.prog 35 = true := by kernel_rfl
theorem Mh : goFn Tryd.prog 36 = true := by kernel_rfl
theorem Mi : goFn Tryd.prog 37 = true := by kernel_rfl
theorem Tb : goFn Tryd.prog 38 = true := by kernel_rfl
theorem Mj : goFn Tryd.prog 39 = true := by kernel_rfl
theorem Te : goFn Tryd.prog 50 = true := by kernel_rfl
theorem M4 : oneTy Tryd.prog 46 = true := by kernel_rfl
theorem Qk : rowTy Tryd.prog 82 = some 6 := by kernel_rfl
theorem Tl : zeroTy Tryd.prog 46 = some (.pointer none) := by kernel_rfl
theorem V4 : zeroTy Tryd.prog 82 = some (.agg #[.int .i64 0, .slice none 0 0, .bool false, .bool false, .bool false, .bool false]) := by kernel_rfl
theorem Uq (run thing : Int) (w : World) (ms : List MTh) (a : Option Addr) (c : Nat) (ht : TabAt w a ms) (hlen : TabLen ms) (hn : ms.length ≤ 1048576) (hT : tableOk (tabT ms) = true) (hr : 1 ≤ run ∧ run ≤ (ms.length : Int)) (hth : 1 ≤ thing ∧ thing ≤ (ms.length : Int)) : CallsR Tryd.prog 26 #[.slice a ms.length c, vi run, vi thing] w (fun v w' => v = vb (sees (tabT ms) run thing) ∧ w.grownBy w' none) := by
 refine X0 (n := 20) Tryd.func26 Z Tryd.ntmps26 Z ?_
 have ac := World.grownBy.refl w none
 refine Xa (Xg (v := vb false) Z Z (Xb (Xs ?_)))
 obtain ⟨J, an, E, V, ah, aj⟩ := SlAt.at (TabAt.low ht ac).1 (Yi (xg ms (thing - 1).toNat))
 have al := TabLen.at hlen (xg ms (thing - 1).toNat)
 obtain ⟨O, ao, G, ab, ai, ak⟩ := SlAt.at (TabAt.low ht ac).1 (Yi (xg ms (run - 1).toNat))
 have am := TabLen.at hlen (xg ms (run - 1).toNat)
 refine Y8 (m := 12) (vals := [(7, .slice a ms.length c), (8, vi thing), (9, vi (thing - 1)), (10, pt J E), (11, pt J (E + 1)), (12, .agg #[vi (mj ms thing).t.lab.s, vi (mj ms thing).t.lab.v]), (13, .slice a ms.length c), (14, vi run), (15, vi (run - 1)), (16, pt O G), (17, pt O (G + 1)), (18, .agg #[vi (mj ms run).t.lab.s, vi (mj ms run).t.lab.v])]) (fun w' => w.grownBy w' none) Qb (by kernel_rfl) (Yf _) ?_ ?_
 refine yl Z (fun _ _ k => Xc (v := .slice a ms.length c) Z Z k) (yl Z (fun _ _ k => Xc (v := vi thing) Z Z k) (yl Z (fun _ _ k => Y0 (c := thing - 1) Z Z (by omega) (by omega) (by omega) Z k) (yl Z (fun _ _ k => X8 Y7 Z Z V ah (by omega) (by omega) Z k) (yl Z (fun _ _ k => Xd (o' := E + 1) Ka Z Z Z k) (yl Z (fun _ ae k => Xp (vs := [vi (mj ms thing).t.lab.s, vi (mj ms thing).t.lab.v]) Ji Z Z (Qi (Yo aj ae) 1 2 Z) Z k) (yl Z (fun _ _ k => Xc (v := .slice a ms.length c) Z Z k) (yl Z (fun _ _ k => Xc (v := vi run) Z Z k) (yl Z (fun _ _ k => Y0 (c := run - 1) Z Z (by omega) (by omega) (by omega) Z k) (yl Z (fun _ _ k => X8 Y7 Z Z ab ai (by omega) (by omega) Z k) (yl Z (fun _ _ k => Xd (o' := G + 1) Ka Z Z Z k) ?_))))))))))
 exact yl Z (fun _ af k => Xp (vs := [vi (mj ms run).t.lab.s, vi (mj ms run).t.lab.v]) Ji Z Z (Qi (Yo ak af) 1 2 Z) Z k) Qd
 intro ap ag
 refine Xm Te (Xf Z (Xf Z Xl)) Z (Uj (mj ms thing).t.lab (mj ms run).t.lab _) ?_
 rintro _ aq ⟨rfl, ad⟩
 refine Xg (v := vb (labelFlow (mj ms thing).t.lab (mj ms run).t.lab)) Z Z (Xb (Xr (Xq (⟨vb (labelFlow (mj ms thing).t.lab (mj ms run).t.lab), Yy Z Z, ?_, (low0 (low0 ac ag) ad)⟩))))
 exact cB (T1 hT hr hth)
theorem Vl (run thing : Int) (w : World) (ms : List MTh) (a : Option Addr) (c : Nat) (ht : TabAt w a ms) (hlen : TabLen ms) (hn : ms.length ≤ 1048576) (hT : tableOk (tabT ms) = true) (hr : 1 ≤ run ∧ run ≤ (ms.length : Int)) (hth : 1 ≤ thing ∧ thing ≤ (ms.length : Int)) : CallsR Tryd.prog 38 #[.slice a ms.length c, vi run, vi thing] w (fun v w' => v = vb (touches (tabT ms) run thing) ∧ w.grownBy w' none) := by
 refine X0 (n := 20) Tryd.func38 Z Tryd.ntmps38 Z ?_
 have ac := World.grownBy.refl w none
 refine Xa (Xg (v := vb false) Z Z (Xb (Xs ?_)))
 obtain ⟨J, an, E, V, ah, aj⟩ := SlAt.at (TabAt.low ht ac).1 (Yi (xg ms (run - 1).toNat))
 have al := TabLen.at hlen (xg ms (run - 1).toNat)
 obtain ⟨O, ao, G, ab, ai, ak⟩ := SlAt.at (TabAt.low ht ac).1 (Yi (xg ms (thing - 1).toNat))
 have am := TabLen.at hlen (xg ms (thing - 1).toNat)
 refine Y8 (m := 12) (vals := [(7, .slice a ms.length c), (8, vi run), (9, vi (run - 1)), (10, pt J E), (11, pt J (E + 1)), (12, .agg #[vi (mj ms run).t.lab.s, vi (mj ms run).t.lab.v]), (13, .slice a ms.length c), (14, vi thing), (15, vi (thing - 1)), (16, pt O G), (17, pt O (G + 1)), (18, .agg #[vi (mj ms thing).t.lab.s, vi (mj ms thing).t.lab.v])]) (fun w' => w.grownBy w' none) Qb (by kernel_rfl) (Yf _) ?_ ?_
 refine yl Z (fun _ _ k => Xc (v := .slice a ms.length c) Z Z k) (yl Z (fun _ _ k => Xc (v := vi run) Z Z k) (yl Z (fun _ _ k => Y0 (c := run - 1) Z Z (by omega) (by omega) (by omega) Z k) (yl Z (fun _ _ k => X8 Y7 Z Z V ah (by omega) (by omega) Z k) (yl Z (fun _ _ k => Xd (o' := E + 1) Ka Z Z Z k) (yl Z (fun _ ae k => Xp (vs := [vi (mj ms run).t.lab.s, vi (mj ms run).t.lab.v]) Ji Z Z (Qi (Yo aj ae) 1 2 Z) Z k) (yl Z (fun _ _ k => Xc (v := .slice a ms.length c) Z Z k) (yl Z (fun _ _ k => Xc (v := vi thing) Z Z k) (yl Z (fun _ _ k => Y0 (c := thing - 1) Z Z (by omega) (by omega) (by omega) Z k) (yl Z (fun _ _ k => X8 Y7 Z Z ab ai (by omega) (by omega) Z k) (yl Z (fun _ _ k => Xd (o' := G + 1) Ka Z Z Z k) ?_))))))))))
 exact yl Z (fun _ af k => Xp (vs := [vi (mj ms thing).t.lab.s, vi (mj ms thing).t.lab.v]) Ji Z Z (Qi (Yo ak af) 1 2 Z) Z k) Qd
 intro ap ag
 refine Xm Te (Xf Z (Xf Z Xl)) Z (Uj (mj ms run).t.lab (mj ms thing).t.lab _) ?_
 rintro _ aq ⟨rfl, ad⟩
 refine Xg (v := vb (labelFlow (mj ms run).t.lab (mj ms thing).t.lab)) Z Z (Xb (Xr (Xq (⟨vb (labelFlow (mj ms run).t.lab (mj ms thing).t.lab), Yy Z Z, ?_, (low0 (low0 ac ag) ad)⟩))))
 exact cB (P0 hT hr hth)
theorem La (r : Rt) (hr : -9223372036854775807 ≤ r.th) (w : World) (ms : List MTh) (a : Option Addr) (c : Nat) (ht : TabAt w a ms) (hlen : TabLen ms) (hn : ms.length ≤ 1048576) : CallsR Tryd.prog 39 #[.slice a ms.length c, .agg #[vi r.th, vi r.ve, vb r.rd, vb r.wr, vb r.wk]] w (fun v w' => v = vb (live (tabT ms) r) ∧ w.grownBy w' none) := by
 refine X0 (n := 21) Tryd.func39 Z Tryd.ntmps39 Z ?_
 have av := World.grownBy.refl w none
 refine Xa (Yr (v := .agg #[vi r.th, vi r.ve, vb r.rd, vb r.wr, vb r.wk]) (cs := #[vi r.th, vi r.ve, vb r.rd, vb r.wr, vb r.wk]) Z Z Z ?_)
 intro J ab G
 have aw := X9 G av
 have O := low0 av G.grw
 refine Xg (v := vb false) Z Z (Xb (Jp (fun f' w' => (f' 4 = vb (inR r.th 1 (ms.length : Int) && (decide ((mj ms r.th).t.ve = r.ve)))) ∧ ab.grownBy w' none) ?_ ?_))
 rcases X6 (inR r.th 1 (ms.length : Int)) with E | E
 have a8 := Yu.1 E
 obtain ⟨ac, ba, V, ad, aq, ar⟩ := SlAt.at (TabAt.low ht O).1 (Yi (xg ms (r.th - 1).toNat))
 have az := TabLen.at hlen (xg ms (r.th - 1).toNat)
 refine Y8 (m := 14) (vals := [(5, .slice a ms.length c), (6, pt J 0), (7, vi r.th), (8, vb (inR r.th 1 (ms.length : Int))), (9, vb (inR r.th 1 (ms.length : Int))), (10, .slice a ms.length c), (11, pt J 0), (12, vi r.th), (13, vi (r.th - 1)), (14, pt ac V), (15, pt ac (V + 3)), (16, vi (mj ms r.th).t.ve), (17, pt J 1), (18, vi r.ve)]) (fun w' => ab.grownBy w' none) Qb (by kernel_rfl) (Yf _) ?_ ?_
 refine yl Z (fun _ _ k => Xc (v := .slice a ms.length c) Z Z k) (yl Z (fun _ _ k => Xd (o' := 0) Ym Z Z Z k) (yl Z (fun _ ah k => Xh (v := vi r.th) X3 Z ((G.blk.grown0 ah).cell Z) Z k) ?_))
 refine Yq Z (fun bb ai => ?_) ?_
 refine Xm Gb (Xf Z (Xf Z Xl)) Z (Jk r.th _ _ _ _) ?_
 rintro _ bc ⟨rfl, ae⟩
 exact Xb ⟨Z, (grown_trans ai ae)⟩
 exact yl Z (fun _ _ k => Xc (v := vb (inR r.th 1 (ms.length : Int))) Z Z k) (yl Z (fun _ _ k => Xe Z Z Z E (Xc (v := .slice a ms.length c) Z Z k)) (yl Z (fun _ _ k => Xe Z Z Z E (Xd (o' := 0) Ym Z Z Z k)) (yl Z (fun _ aj k => Xe Z Z Z E (Xh (v := vi r.th) X3 Z ((G.blk.grown0 aj).cell Z) Z k)) (yl Z (fun _ _ k => Xe Z Z Z E (Y0 (c := r.th - 1) Z Z (by omega) (by omega) (by omega) Z k)) (yl Z (fun _ _ k => Xe Z Z Z E (X8 Y7 Z Z ad aq (by omega) (by omega) Z k)) (yl Z (fun _ _ k => Xe Z Z Z E (Xd (o' := V + 3) Qv Z Z Z k)) (yl Z (fun _ ak k => Xe Z Z Z E (Xh (v := vi (mj ms r.th).t.ve) X3 Z ((Yo ar ak) 3 _ Z) Z k)) (yl Z (fun _ _ k => Xe Z Z Z E (Xd (o' := 1) Jr Z Z Z k)) (yl Z (fun _ al k => Xe Z Z Z E (Xh (v := vi r.ve) X3 Z ((G.blk.grown0 al).cell Z) Z k)) Qd)))))))))
 intro bd am
 exact Xe Z Z Z E (Xw (q := decide ((mj ms r.th).t.ve = r.ve)) Z Z Z Z (Xo (v := vb (decide ((mj ms r.th).t.ve = r.ve))) Z E Z Z (Xg (v := vb (decide ((mj ms r.th).t.ve = r.ve))) Z Z (Xb (Xr ⟨(cB (by simp [E])), am⟩)))))
 refine Y8 (m := 14) (vals := [(5, .slice a ms.length c), (6, pt J 0), (7, vi r.th), (8, vb (inR r.th 1 (ms.length : Int))), (9, vb (inR r.th 1 (ms.length : Int))), (10, undef), (11, undef), (12, undef), (13, undef), (14, undef), (15, undef), (16, undef), (17, undef), (18, undef)]) (fun w' => ab.grownBy w' none) Qb (by kernel_rfl) (Yf _) ?_ ?_
 refine yl Z (fun _ _ k => Xc (v := .slice a ms.length c) Z Z k) (yl Z (fun _ _ k => Xd (o' := 0) Ym Z Z Z k) (yl Z (fun _ an k => Xh (v := vi r.th) X3 Z ((G.blk.grown0 an).cell Z) Z k) ?_))
 refine Yq Z (fun be ao => ?_) ?_
 refine Xm Gb (Xf Z (Xf Z Xl)) Z (Jk r.th _ _ _ _) ?_
 rintro _ bf ⟨rfl, af⟩
 exact Xb ⟨Z, (grown_trans ao af)⟩
 exact yl Z (fun _ _ k => Xc (v := vb (inR r.th 1 (ms.length : Int))) Z Z k) (yl Z (fun _ _ k => Xi Z Z Z E Z k) (yl Z (fun _ _ k => Xi Z Z Z E Z k) (yl Z (fun _ _ k => Xi Z Z Z E Z k) (yl Z (fun _ _ k => Xi Z Z Z E Z k) (yl Z (fun _ _ k => Xi Z Z Z E Z k) (yl Z (fun _ _ k => Xi Z Z Z E Z k) (yl Z (fun _ _ k => Xi Z Z Z E Z k) (yl Z (fun _ _ k => Xi Z Z Z E Z k) (yl Z (fun _ _ k => Xi Z Z Z E Z k) Qd)))))))))
 intro bg ap
 exact Xi Z Z Z E Z (Xj (v := vb false) Z E Z Z (Xg (v := vb false) Z Z (Xb (Xr ⟨(cB (by simp [E])), ap⟩))))
 rintro a9 bh ⟨au, ag⟩
 refine Xq (⟨vb (inR r.th 1 (ms.length : Int) && (decide ((mj ms r.th).t.ve = r.ve))), Yy Z au, ?_, (low0 O ag)⟩)
 exact cB Rr
theorem Hs (run thing : Int) (hr : -9223372036854775807 ≤ run) (w : World) (ms : List MTh) (a : Option Addr) (c : Nat) (ht : TabAt w a ms) (hlen : TabLen ms) (hn : ms.length ≤ 1048576) : CallsR Tryd.prog 11 #[.slice a ms.length c, vi run, vi thing] w (fun v w' => v = vb (chkSees (tabT ms) run thing) ∧ w.grownBy w' none) := by
 refine X0 (n := 25) Tryd.func11 Z Tryd.ntmps11 Z ?_
 have ad := World.grownBy.refl w none
 refine Xa (Xg (v := vb false) Z Z (Xb (X2 (fun f' w' => (f' 6 = vb (((tableOk (tabT ms) && kindAt (tabT ms) run 3) && inR thing 1 (ms.length : Int)) && sees (tabT ms) run thing)) ∧ w.grownBy w' none) ?_ ?_)))
 refine Xc (v := .slice a ms.length c) Z Z (Xm S8 (Xf Z Xl) Z (W8  _ ms _ _ (TabAt.low ht ad) hlen (by omega)) ?_)
 rintro _ ak ⟨rfl, O⟩
 have ac := low0 ad O
 refine Xc (v := vb (tableOk (tabT ms))) Z Z ?_
 rcases X6 (tableOk (tabT ms)) with E | E
 refine Xe Z Z Z E (Xc (v := .slice a ms.length c) Z Z (Xe Z Z Z E (Xc (v := vi run) Z Z (Xe Z Z Z E (Xm Rf (Xf Z (Xf Z (Xf Z Xl))) Z (Wj run 3 (by omega) _ ms _ _ (TabAt.low ht ac) hlen (by omega)) ?_)))))
 rintro _ al ⟨rfl, V⟩
 refine Xo (v := vb (kindAt (tabT ms) run 3)) Z E Z Z (Xc (v := vb (kindAt (tabT ms) run 3)) Z Z ?_)
 rcases X6 (kindAt (tabT ms) run 3) with G | G
 have ah := (Js G).1
 refine Xe Z Z Z G (Xc (v := .slice a ms.length c) Z Z (Xe Z Z Z G (Xc (v := vi thing) Z Z (Xe Z Z Z G (Xm Gb (Xf Z (Xf Z Xl)) Z (Jk thing _ _ _ _) ?_)))))
 rintro _ am ⟨rfl, ab⟩
 refine Xo (v := vb (inR thing 1 (ms.length : Int))) Z G Z Z (Xc (v := vb (inR thing 1 (ms.length : Int))) Z Z ?_)
 rcases X6 (inR thing 1 (ms.length : Int)) with J | J
 have ai := Yu.1 J
 refine Xe Z Z Z J (Xc (v := .slice a ms.length c) Z Z (Xe Z Z Z J (Xc (v := vi run) Z Z (Xe Z Z Z J (Xc (v := vi thing) Z Z (Xe Z Z Z J (Xm S9 (Xf Z (Xf Z (Xf Z Xl))) Z (Uq run thing _ ms _ _ (TabAt.low ht (low0 (low0 ac V) ab)) hlen (by omega) E (by omega) (by omega)) ?_)))))))
 rintro _ an ⟨rfl, ae⟩
 exact Xo (v := vb (sees (tabT ms) run thing)) Z J Z Z (Xg (v := vb (sees (tabT ms) run thing)) Z Z (Xb ⟨(cB (by simp [E, G, J])), (grown_trans (grown_trans (grown_trans O V) ab) ae)⟩))
 iterate 4 refine Xi rfl rfl rfl J rfl ?_
 exact Xj (v := vb false) Z J Z Z (Xg (v := vb false) Z Z (Xb ⟨(cB (by simp [E, G, J])), (grown_trans (grown_trans O V) ab)⟩))
 iterate 3 refine Xi rfl rfl rfl G rfl ?_
 refine Xj (v := vb false) Z G Z Z (Xc (v := vb false) Z Z ?_)
 iterate 4 refine Xi rfl rfl rfl rfl rfl ?_
 exact Xj (v := vb false) Z Z Z Z (Xg (v := vb false) Z Z (Xb ⟨(cB (by simp [E, G])), (grown_trans O V)⟩))
 iterate 3 refine Xi rfl rfl rfl E rfl ?_
 refine Xj (v := vb false) Z E Z Z (Xc (v := vb false) Z Z ?_)
 iterate 3 refine Xi rfl rfl rfl rfl rfl ?_
 refine Xj (v := vb false) Z Z Z Z (Xc (v := vb false) Z Z ?_)
 iterate 4 refine Xi rfl rfl rfl rfl rfl ?_
 exact Xj (v := vb false) Z Z Z Z (Xg (v := vb false) Z Z (Xb ⟨(cB (by simp [E])), O⟩))
 rintro aj ao ⟨ag, af⟩
 refine Xq (⟨vb (((tableOk (tabT ms) && kindAt (tabT ms) run 3) && inR thing 1 (ms.length : Int)) && sees (tabT ms) run thing), Yy Z ag, ?_, (low0 ad af)⟩)
 unfold chkSees; rw [Q9]
theorem Sn (q : Int) (hq : (1 ≤ q ∧ q ≤ 9) ∧ ¬ q = 3) (w : World) : CallsR Tryd.prog 36 #[vi q] w (fun v w' => ∃ B : Nat, v = .agg #[vi q, .slice (pa B) (kindsOf q).length (kindsOf q).length, vb (need0 q), vb (need1 q), vb (need0 q), vb (need1 q)] ∧ w.heap.size ≤ B ∧ Blk w' B 3 ((kindsOf q).flatMap icell).toArray ∧ w.grownBy w' none) := by
 refine X0 (n := 37) Tryd.func36 Z Tryd.ntmps36 Z ?_
 have lk := World.grownBy.refl w none
 refine Xa (Yd (cs := #[vi 0, .slice none 0 0, vb false, vb false, vb false, vb false]) V4 Z Z ?_)
 intro j6 nc bx
 have lz := X9 bx lk
 have dg := low0 lk bx.grw
 refine Xb (Xa (Xy (ps := [(0, vi 1)]) (e := 3) (cs := (([1] : List Int).flatMap icell).toArray) (Xk Z Xz) (fun _ => by kernel_rfl) Z ?_))
 intro bk nd bw
 have jx := X9 bw dg
 have d8 := Xn bw (bx.blk).lt
 have dh := low0 dg bw.grw
 refine Yk (ps := [(0, vi 1), (1, .slice (pa bk) 1 1), (2, vb true), (4, vb true)]) (v := .agg #[vi 1, .slice (pa bk) 1 1, vb true, vb false, vb true, vb false]) (Xk Z (Xk Z (Xk Z (Xk Z Xz)))) (by kernel_rfl) Z (Xy (ps := [(0, vi 1)]) (e := 3) (cs := (([1] : List Int).flatMap icell).toArray) (Xk Z Xz) (fun _ => by kernel_rfl) Z ?_)
 intro bl ne bv
 have jy := X9 bv dh
 have j7 := (bx.blk.grown0 bw.grw)
 have d9 := Xn bv (j7).lt
 have ex := Xn bv (bw.blk).lt
 have di := low0 dh bv.grw
 refine Yk (ps := [(0, vi 2), (1, .slice (pa bl) 1 1), (3, vb true), (5, vb true)]) (v := .agg #[vi 2, .slice (pa bl) 1 1, vb false, vb true, vb false, vb true]) (Xk Z (Xk Z (Xk Z (Xk Z Xz)))) (by kernel_rfl) Z (Xy (ps := [(0, vi 2)]) (e := 3) (cs := (([2] : List Int).flatMap icell).toArray) (Xk Z Xz) (fun _ => by kernel_rfl) Z ?_)
 intro bm nf bu
 have jz := X9 bu di
 have j8 := (j7.grown0 bv.grw)
 have ea := Xn bu (j8).lt
 have j9 := (bw.blk.grown0 bv.grw)
 have ez := Xn bu (j9).lt
 have fp := Xn bu (bv.blk).lt
 have dk := low0 di bu.grw
 refine Yk (ps := [(0, vi 4), (1, .slice (pa bm) 1 1), (2, vb true), (4, vb true)]) (v := .agg #[vi 4, .slice (pa bm) 1 1, vb true, vb false, vb true, vb false]) (Xk Z (Xk Z (Xk Z (Xk Z Xz)))) (by kernel_rfl) Z (Xy (ps := [(0, vi 2)]) (e := 3) (cs := (([2] : List Int).flatMap icell).toArray) (Xk Z Xz) (fun _ => by kernel_rfl) Z ?_)
 intro bn ng bi
 have j1 := X9 bi dk
 have ka := (j8.grown0 bu.grw)
 have eb := Xn bi (ka).lt
 have kb := (j9.grown0 bu.grw)
 have e0 := Xn bi (kb).lt
 have kc := (bv.blk.grown0 bu.grw)
 have fq := Xn bi (kc).lt
 have gf := Xn bi (bu.blk).lt
 have dl := low0 dk bi.grw
 refine Yk (ps := [(0, vi 5), (1, .slice (pa bn) 1 1), (3, vb true), (5, vb true)]) (v := .agg #[vi 5, .slice (pa bn) 1 1, vb false, vb true, vb false, vb true]) (Xk Z (Xk Z (Xk Z (Xk Z Xz)))) (by kernel_rfl) Z (Xy (ps := [(0, vi 4)]) (e := 3) (cs := (([4] : List Int).flatMap icell).toArray) (Xk Z Xz) (fun _ => by kernel_rfl) Z ?_)
 intro bp nh az
 have j2 := X9 az dl
 have ke := (ka.grown0 bi.grw)
 have ed := Xn az (ke).lt
 have kf := (kb.grown0 bi.grw)
 have fa := Xn az (kf).lt
 have kg := (kc.grown0 bi.grw)
 have fr := Xn az (kg).lt
 have kh := (bu.blk.grown0 bi.grw)
 have gg := Xn az (kh).lt
 have gw := Xn az (bi.blk).lt
 have dm := low0 dl az.grw
 refine Yk (ps := [(0, vi 6), (1, .slice (pa bp) 1 1), (3, vb true), (5, vb true)]) (v := .agg #[vi 6, .slice (pa bp) 1 1, vb false, vb true, vb false, vb true]) (Xk Z (Xk Z (Xk Z (Xk Z Xz)))) (by kernel_rfl) Z (Xy (ps := [(0, vi 4)]) (e := 3) (cs := (([4] : List Int).flatMap icell).toArray) (Xk Z Xz) (fun _ => by kernel_rfl) Z ?_)
 intro bq ni al
 have j3 := X9 al dm
 have ki := (ke.grown0 az.grw)
 have ee := Xn al (ki).lt
 have kj := (kf.grown0 az.grw)
 have fb := Xn al (kj).lt
 have kk := (kg.grown0 az.grw)
 have ft := Xn al (kk).lt
 have kl := (kh.grown0 az.grw)
 have gh := Xn al (kl).lt
 have km := (bi.blk.grown0 az.grw)
 have gx := Xn al (km).lt
 have ie := Xn al (az.blk).lt
 have dn := low0 dm al.grw
 refine Yk (ps := [(0, vi 7), (1, .slice (pa bq) 1 1), (2, vb true), (3, vb true), (4, vb true), (5, vb true)]) (v := .agg #[vi 7, .slice (pa bq) 1 1, vb true, vb true, vb true, vb true]) (Xk Z (Xk Z (Xk Z (Xk Z (Xk Z (Xk Z Xz)))))) (by kernel_rfl) Z (Xy (ps := [(0, vi 1), (1, vi 2), (2, vi 4)]) (e := 3) (cs := (([1, 2, 4] : List Int).flatMap icell).toArray) (Xk Z (Xk Z (Xk Z Xz))) (fun _ => by kernel_rfl) Z ?_)
 intro br nj aj
 have j4 := X9 aj dn
 have kn := (ki.grown0 al.grw)
 have ef := Xn aj (kn).lt
 have ko := (kj.grown0 al.grw)
 have fc := Xn aj (ko).lt
 have kp := (kk.grown0 al.grw)
 have fu := Xn aj (kp).lt
 have kq := (kl.grown0 al.grw)
 have gi := Xn aj (kq).lt
 have kr := (km.grown0 al.grw)
 have gy := Xn aj (kr).lt
 have ks := (az.blk.grown0 al.grw)
 have ig := Xn aj (ks).lt
 have iu := Xn aj (al.blk).lt
 have dp := low0 dn aj.grw
 refine Yk (ps := [(0, vi 8), (1, .slice (pa br) 3 3), (3, vb true), (5, vb true)]) (v := .agg #[vi 8, .slice (pa br) 3 3, vb false, vb true, vb false, vb true]) (Xk Z (Xk Z (Xk Z (Xk Z Xz)))) (by kernel_rfl) Z (Xy (ps := [(0, vi 5)]) (e := 3) (cs := (([5] : List Int).flatMap icell).toArray) (Xk Z Xz) (fun _ => by kernel_rfl) Z ?_)
 intro bt nk af
 have j5 := X9 af dp
 have kt := (kn.grown0 aj.grw)
 have eg := Xn af (kt).lt
 have ku := (ko.grown0 aj.grw)
 have fd := Xn af (ku).lt
 have kv := (kp.grown0 aj.grw)
 have fv := Xn af (kv).lt
 have kw := (kq.grown0 aj.grw)
 have gj := Xn af (kw).lt
 have kx := (kr.grown0 aj.grw)
 have gz := Xn af (kx).lt
 have ky := (ks.grown0 aj.grw)
 have ii := Xn af (ky).lt
 have kz := (al.blk.grown0 aj.grw)
 have iv := Xn af (kz).lt
 have i5 := Xn af (aj.blk).lt
 have dq := low0 dp af.grw
 refine Yk (ps := [(0, vi 9), (1, .slice (pa bt) 1 1), (3, vb true), (5, vb true)]) (v := .agg #[vi 9, .slice (pa bt) 1 1, vb false, vb true, vb false, vb true]) (Xk Z (Xk Z (Xk Z (Xk Z Xz)))) (by kernel_rfl) Z (Xy (ps := [(0, .agg #[vi 1, .slice (pa bk) 1 1, vb true, vb false, vb true, vb false]), (1, .agg #[vi 2, .slice (pa bl) 1 1, vb false, vb true, vb false, vb true]), (2, .agg #[vi 4, .slice (pa bm) 1 1, vb true, vb false, vb true, vb false]), (3, .agg #[vi 5, .slice (pa bn) 1 1, vb false, vb true, vb false, vb true]), (4, .agg #[vi 6, .slice (pa bp) 1 1, vb false, vb true, vb false, vb true]), (5, .agg #[vi 7, .slice (pa bq) 1 1, vb true, vb true, vb true, vb true]), (6, .agg #[vi 8, .slice (pa br) 3 3, vb false, vb true, vb false, vb true]), (7, .agg #[vi 9, .slice (pa bt) 1 1, vb false, vb true, vb false, vb true])]) (e := 82) (cs := #[vi 1, .slice (pa bk) 1 1, vb true, vb false, vb true, vb false, vi 2, .slice (pa bl) 1 1, vb false, vb true, vb false, vb true, vi 4, .slice (pa bm) 1 1, vb true, vb false, vb true, vb false, vi 5, .slice (pa bn) 1 1, vb false, vb true, vb false, vb true, vi 6, .slice (pa bp) 1 1, vb false, vb true, vb false, vb true, vi 7, .slice (pa bq) 1 1, vb true, vb true, vb true, vb true, vi 8, .slice (pa br) 3 3, vb false, vb true, vb false, vb true, vi 9, .slice (pa bt) 1 1, vb false, vb true, vb false, vb true]) (Xk Z (Xk Z (Xk Z (Xk Z (Xk Z (Xk Z (Xk Z (Xk Z Xz)))))))) (fun _ => by kernel_rfl) Z ?_)
 intro ck nn ae
 have l0 := X9 ae dq
 have k0 := (kt.grown0 af.grw)
 have eh := Xn ae (k0).lt
 have k3 := (ku.grown0 af.grw)
 have fe := Xn ae (k3).lt
 have k4 := (kv.grown0 af.grw)
 have fw := Xn ae (k4).lt
 have k5 := (kw.grown0 af.grw)
 have gk := Xn ae (k5).lt
 have k6 := (kx.grown0 af.grw)
 have g0 := Xn ae (k6).lt
 have k7 := (ky.grown0 af.grw)
 have ij := Xn ae (k7).lt
 have k8 := (kz.grown0 af.grw)
 have iw := Xn ae (k8).lt
 have k9 := (aj.blk.grown0 af.grw)
 have i6 := Xn ae (k9).lt
 have jf := Xn ae (af.blk).lt
 have la := low0 dq ae.grw
 refine Xg (v := .slice (pa ck) 8 8) Z Z (Xb (Xs (Xa (Xc (v := .slice (pa ck) 8 8) Z Z (Yj (by kernel_rfl) Z Z (Xc (v := vi 0) Z Z (Xb (Ya ?_))))))))
 have ll := (k0.grown0 ae.grw)
 have lm := (k3.grown0 ae.grw)
 have ln := (k4.grown0 ae.grw)
 have lp := (k5.grown0 ae.grw)
 have lu := (k6.grown0 ae.grw)
 have lv := (k7.grown0 ae.grw)
 have lw := (k8.grown0 ae.grw)
 have lx := (k9.grown0 ae.grw)
 have ly := (af.blk.grown0 ae.grw)
 refine Qj (fun mm f' w' => ∃ (i : Int), mm = (8 - i : Int).toNat ∧ ((0 ≤ i ∧ i ≤ 8) ∧ (0 < i → ¬ q = 1) ∧ (1 < i → ¬ q = 2) ∧ (2 < i → ¬ q = 4) ∧ (3 < i → ¬ q = 5) ∧ (4 < i → ¬ q = 6) ∧ (5 < i → ¬ q = 7) ∧ (6 < i → ¬ q = 8) ∧ (7 < i → ¬ q = 9)) ∧ f' 25 = vi i ∧ f' 0 = vi q ∧ f' 2 = pt j6 0 ∧ f' 23 = .slice (pa ck) 8 8 ∧ f' 24 = vi 8 ∧ w.grownBy w' none ∧ Blk w' j6 82 #[vi 0, .slice none 0 0, vb false, vb false, vb false, vb false] ∧ Blk w' bk 3 (([1] : List Int).flatMap icell).toArray ∧ Blk w' bl 3 (([1] : List Int).flatMap icell).toArray ∧ Blk w' bm 3 (([2] : List Int).flatMap icell).toArray ∧ Blk w' bn 3 (([2] : List Int).flatMap icell).toArray ∧ Blk w' bp 3 (([4] : List Int).flatMap icell).toArray ∧ Blk w' bq 3 (([4] : List Int).flatMap icell).toArray ∧ Blk w' br 3 (([1, 2, 4] : List Int).flatMap icell).toArray ∧ Blk w' bt 3 (([5] : List Int).flatMap icell).toArray ∧ Blk w' ck 82 #[vi 1, .slice (pa bk) 1 1, vb true, vb false, vb true, vb false, vi 2, .slice (pa bl) 1 1, vb false, vb true, vb false, vb true, vi 4, .slice (pa bm) 1 1, vb true, vb false, vb true, vb false, vi 5, .slice (pa bn) 1 1, vb false, vb true, vb false, vb true, vi 6, .slice (pa bp) 1 1, vb false, vb true, vb false, vb true, vi 7, .slice (pa bq) 1 1, vb true, vb true, vb true, vb true, vi 8, .slice (pa br) 3 3, vb false, vb true, vb false, vb true, vi 9, .slice (pa bt) 1 1, vb false, vb true, vb false, vb true]) (8 - 0 : Int).toNat ⟨0, Z, (by omega), Z, Z, Z, Z, Z, la, ll, lm, ln, lp, lu, lv, lw, lx, ly, ae.blk⟩ ?_
 rintro mm mq no ⟨i, mc, hi, ag, a8, ah, bj, a9, am, ai, ba, bb, bc, bd, be, bf, bg, bh, ak⟩
 rcases (show i = 0 ∨ i = 1 ∨ i = 2 ∨ i = 3 ∨ i = 4 ∨ i = 5 ∨ i = 6 ∨ i = 7 ∨ i = 8 by omega) with rfl | rfl | rfl | rfl | rfl | rfl | rfl | rfl | rfl
 refine Xa (Qh (q := true) ag a9 (by decide) Z (Xb (Xs (Y3 Z Z (Xv (Xr (Xs (Ya (Xa (X1 (o' := 0) Vk bj ag (by omega) (by omega) Z Z (Xp (vs := [vi 1, .slice (pa bk) 1 1, vb true, vb false, vb true, vb false]) Qk Z Z (ak.rangeL 0 6 Z) Z (Yd (cs := #[vi 0, .slice none 0 0, vb false, vb false, vb false, vb false]) V4 Z Z ?_))))))))))))
 intro me np E
 have l3 := X9 E am
 have ei := Xn E (ai).lt
 have ff := Xn E (ba).lt
 have fx := Xn E (bb).lt
 have gl := Xn E (bc).lt
 have g5 := Xn E (bd).lt
 have ik := Xn E (be).lt
 have ix := Xn E (bf).lt
 have i7 := Xn E (bg).lt
 have jg := Xn E (bh).lt
 have jp := Xn E (ak).lt
 refine Xt (vs := [vi 1, .slice (pa bk) 1 1, vb true, vb false, vb true, vb false]) (cs' := #[vi 1, .slice (pa bk) 1 1, vb true, vb false, vb true, vb false]) Qk Z Z Z (by simp [Value.oneCell']) E.blk (Nat.le_of_ble_eq_true Z) Z ?_
 intro nq an
 have dr := low1 (low0 am E.grw) an.grw (by omega)
 refine Xb (Xa (Xd (o' := 0) Ku Z Z Z (Xh (v := vi 1) X3 Z (an.blk.cell Z) Z (Xc (v := vi q) a8 Z (Xw (q := decide (1 = q)) Z Z Z Z (Xb (Xu Z (fun cl => ?_) (fun cl => ?_))))))))
 have mr := of_decide_eq_true cl
 refine Xa (Xp (vs := [vi 1, .slice (pa bk) 1 1, vb true, vb false, vb true, vb false]) Qk Z Z (an.blk.rangeL 0 6 Z) Z (Xt (vs := [vi 1, .slice (pa bk) 1 1, vb true, vb false, vb true, vb false]) (cs' := #[vi 1, .slice (pa bk) 1 1, vb true, vb false, vb true, vb false]) Qk ah Z Z (by simp [Value.oneCell']) ((ai.grown0 E.grw).gn an.grw) (Nat.le_of_ble_eq_true Z) Z ?_))
 intro nr bz
 refine Xb (Xq (Y5 (Ye (Ye (Y5 (Ye ?_))))))
 have cz := of_decide_eq_true cl
 have lc := (((ba.grown0 E.grw).gn an.grw).gn bz.grw)
 have d0 : kindsOf q = ([1] : List Int) := by rw [← cz]; decide
 refine ⟨.agg #[vi 1, .slice (pa bk) 1 1, vb true, vb false, vb true, vb false], Qo Z (X7 (vs := [vi 1, .slice (pa bk) 1 1, vb true, vb false, vb true, vb false]) Qk ah Z (bz.blk.rangeL 0 6 Z)), bk, ?_, jx, ?_, (low1 dr bz.grw (by omega))⟩
 rw [d0, ← cz]; rfl
 rw [d0]; exact lc
 have mt := of_decide_eq_false cl
 exact Xv (Ys (Xr (Xx (Yw (c := 1) ag Z (by omega) (by omega) (by omega) Z (Xc (v := vi 1) Z Z (Xb (Xr (⟨(8 - 1 : Int).toNat, by omega, 1, Z, (by omega), Z, a8, ah, bj, a9, dr, ((ai.grown0 E.grw).gn an.grw), ((ba.grown0 E.grw).gn an.grw), ((bb.grown0 E.grw).gn an.grw), ((bc.grown0 E.grw).gn an.grw), ((bd.grown0 E.grw).gn an.grw), ((be.grown0 E.grw).gn an.grw), ((bf.grown0 E.grw).gn an.grw), ((bg.grown0 E.grw).gn an.grw), ((bh.grown0 E.grw).gn an.grw), ((ak.grown0 E.grw).gn an.grw)⟩))))))))
 refine Xa (Qh (q := true) ag a9 (by decide) Z (Xb (Xs (Y3 Z Z (Xv (Xr (Xs (Ya (Xa (X1 (o' := 6) Vk bj ag (by omega) (by omega) Z Z (Xp (vs := [vi 2, .slice (pa bl) 1 1, vb false, vb true, vb false, vb true]) Qk Z Z (ak.rangeL 6 6 Z) Z (Yd (cs := #[vi 0, .slice none 0 0, vb false, vb false, vb false, vb false]) V4 Z Z ?_))))))))))))
 intro mf nu G
 have l4 := X9 G am
 have ej := Xn G (ai).lt
 have fg := Xn G (ba).lt
 have fy := Xn G (bb).lt
 have gm := Xn G (bc).lt
 have g6 := Xn G (bd).lt
 have il := Xn G (be).lt
 have iy := Xn G (bf).lt
 have i8 := Xn G (bg).lt
 have jh := Xn G (bh).lt
 have jq := Xn G (ak).lt
 refine Xt (vs := [vi 2, .slice (pa bl) 1 1, vb false, vb true, vb false, vb true]) (cs' := #[vi 2, .slice (pa bl) 1 1, vb false, vb true, vb false, vb true]) Qk Z Z Z (by simp [Value.oneCell']) G.blk (Nat.le_of_ble_eq_true Z) Z ?_
 intro nv ao
 have dt := low1 (low0 am G.grw) ao.grw (by omega)
 refine Xb (Xa (Xd (o' := 0) Ku Z Z Z (Xh (v := vi 2) X3 Z (ao.blk.cell Z) Z (Xc (v := vi q) a8 Z (Xw (q := decide (2 = q)) Z Z Z Z (Xb (Xu Z (fun cm => ?_) (fun cm => ?_))))))))
 have mu := of_decide_eq_true cm
 refine Xa (Xp (vs := [vi 2, .slice (pa bl) 1 1, vb false, vb true, vb false, vb true]) Qk Z Z (ao.blk.rangeL 0 6 Z) Z (Xt (vs := [vi 2, .slice (pa bl) 1 1, vb false, vb true, vb false, vb true]) (cs' := #[vi 2, .slice (pa bl) 1 1, vb false, vb true, vb false, vb true]) Qk ah Z Z (by simp [Value.oneCell']) ((ai.grown0 G.grw).gn ao.grw) (Nat.le_of_ble_eq_true Z) Z ?_))
 intro nw ca
 refine Xb (Xq (Y5 (Ye (Ye (Y5 (Ye ?_))))))
 have c8 := of_decide_eq_true cm
 have ld := (((bb.grown0 G.grw).gn ao.grw).gn ca.grw)
 have d1 : kindsOf q = ([1] : List Int) := by rw [← c8]; decide
 refine ⟨.agg #[vi 2, .slice (pa bl) 1 1, vb false, vb true, vb false, vb true], Qo Z (X7 (vs := [vi 2, .slice (pa bl) 1 1, vb false, vb true, vb false, vb true]) Qk ah Z (ca.blk.rangeL 0 6 Z)), bl, ?_, jy, ?_, (low1 dt ca.grw (by omega))⟩
 rw [d1, ← c8]; rfl
 rw [d1]; exact ld
 have mv := of_decide_eq_false cm
 exact Xv (Ys (Xr (Xx (Yw (c := 2) ag Z (by omega) (by omega) (by omega) Z (Xc (v := vi 2) Z Z (Xb (Xr (⟨(8 - 2 : Int).toNat, by omega, 2, Z, (by omega), Z, a8, ah, bj, a9, dt, ((ai.grown0 G.grw).gn ao.grw), ((ba.grown0 G.grw).gn ao.grw), ((bb.grown0 G.grw).gn ao.grw), ((bc.grown0 G.grw).gn ao.grw), ((bd.grown0 G.grw).gn ao.grw), ((be.grown0 G.grw).gn ao.grw), ((bf.grown0 G.grw).gn ao.grw), ((bg.grown0 G.grw).gn ao.grw), ((bh.grown0 G.grw).gn ao.grw), ((ak.grown0 G.grw).gn ao.grw)⟩))))))))
 refine Xa (Qh (q := true) ag a9 (by decide) Z (Xb (Xs (Y3 Z Z (Xv (Xr (Xs (Ya (Xa (X1 (o' := 12) Vk bj ag (by omega) (by omega) Z Z (Xp (vs := [vi 4, .slice (pa bm) 1 1, vb true, vb false, vb true, vb false]) Qk Z Z (ak.rangeL 12 6 Z) Z (Yd (cs := #[vi 0, .slice none 0 0, vb false, vb false, vb false, vb false]) V4 Z Z ?_))))))))))))
 intro mg nx J
 have l5 := X9 J am
 have ek := Xn J (ai).lt
 have fh := Xn J (ba).lt
 have fz := Xn J (bb).lt
 have gp := Xn J (bc).lt
 have g7 := Xn J (bd).lt
 have im := Xn J (be).lt
 have iz := Xn J (bf).lt
 have i9 := Xn J (bg).lt
 have ji := Xn J (bh).lt
 have jr := Xn J (ak).lt
 refine Xt (vs := [vi 4, .slice (pa bm) 1 1, vb true, vb false, vb true, vb false]) (cs' := #[vi 4, .slice (pa bm) 1 1, vb true, vb false, vb true, vb false]) Qk Z Z Z (by simp [Value.oneCell']) J.blk (Nat.le_of_ble_eq_true Z) Z ?_
 intro ny ap
 have du := low1 (low0 am J.grw) ap.grw (by omega)
 refine Xb (Xa (Xd (o' := 0) Ku Z Z Z (Xh (v := vi 4) X3 Z (ap.blk.cell Z) Z (Xc (v := vi q) a8 Z (Xw (q := decide (4 = q)) Z Z Z Z (Xb (Xu Z (fun cn => ?_) (fun cn => ?_))))))))
 have mw := of_decide_eq_true cn
 refine Xa (Xp (vs := [vi 4, .slice (pa bm) 1 1, vb true, vb false, vb true, vb false]) Qk Z Z (ap.blk.rangeL 0 6 Z) Z (Xt (vs := [vi 4, .slice (pa bm) 1 1, vb true, vb false, vb true, vb false]) (cs' := #[vi 4, .slice (pa bm) 1 1, vb true, vb false, vb true, vb false]) Qk ah Z Z (by simp [Value.oneCell']) ((ai.grown0 J.grw).gn ap.grw) (Nat.le_of_ble_eq_true Z) Z ?_))
 intro nz cc
 refine Xb (Xq (Y5 (Ye (Ye (Y5 (Ye ?_))))))
 have c9 := of_decide_eq_true cn
 have le := (((bc.grown0 J.grw).gn ap.grw).gn cc.grw)
 have d2 : kindsOf q = ([2] : List Int) := by rw [← c9]; decide
 refine ⟨.agg #[vi 4, .slice (pa bm) 1 1, vb true, vb false, vb true, vb false], Qo Z (X7 (vs := [vi 4, .slice (pa bm) 1 1, vb true, vb false, vb true, vb false]) Qk ah Z (cc.blk.rangeL 0 6 Z)), bm, ?_, jz, ?_, (low1 du cc.grw (by omega))⟩
 rw [d2, ← c9]; rfl
 rw [d2]; exact le
 have my := of_decide_eq_false cn
 exact Xv (Ys (Xr (Xx (Yw (c := 3) ag Z (by omega) (by omega) (by omega) Z (Xc (v := vi 3) Z Z (Xb (Xr (⟨(8 - 3 : Int).toNat, by omega, 3, Z, (by omega), Z, a8, ah, bj, a9, du, ((ai.grown0 J.grw).gn ap.grw), ((ba.grown0 J.grw).gn ap.grw), ((bb.grown0 J.grw).gn ap.grw), ((bc.grown0 J.grw).gn ap.grw), ((bd.grown0 J.grw).gn ap.grw), ((be.grown0 J.grw).gn ap.grw), ((bf.grown0 J.grw).gn ap.grw), ((bg.grown0 J.grw).gn ap.grw), ((bh.grown0 J.grw).gn ap.grw), ((ak.grown0 J.grw).gn ap.grw)⟩))))))))
 refine Xa (Qh (q := true) ag a9 (by decide) Z (Xb (Xs (Y3 Z Z (Xv (Xr (Xs (Ya (Xa (X1 (o' := 18) Vk bj ag (by omega) (by omega) Z Z (Xp (vs := [vi 5, .slice (pa bn) 1 1, vb false, vb true, vb false, vb true]) Qk Z Z (ak.rangeL 18 6 Z) Z (Yd (cs := #[vi 0, .slice none 0 0, vb false, vb false, vb false, vb false]) V4 Z Z ?_))))))))))))
 intro mh n5 O
 have l6 := X9 O am
 have em := Xn O (ai).lt
 have fi := Xn O (ba).lt
 have f8 := Xn O (bb).lt
 have gq := Xn O (bc).lt
 have g8 := Xn O (bd).lt
 have io := Xn O (be).lt
 have i0 := Xn O (bf).lt
 have ja := Xn O (bg).lt
 have jj := Xn O (bh).lt
 have js := Xn O (ak).lt
 refine Xt (vs := [vi 5, .slice (pa bn) 1 1, vb false, vb true, vb false, vb true]) (cs' := #[vi 5, .slice (pa bn) 1 1, vb false, vb true, vb false, vb true]) Qk Z Z Z (by simp [Value.oneCell']) O.blk (Nat.le_of_ble_eq_true Z) Z ?_
 intro n7 aq
 have dv := low1 (low0 am O.grw) aq.grw (by omega)
 refine Xb (Xa (Xd (o' := 0) Ku Z Z Z (Xh (v := vi 5) X3 Z (aq.blk.cell Z) Z (Xc (v := vi q) a8 Z (Xw (q := decide (5 = q)) Z Z Z Z (Xb (Xu Z (fun co => ?_) (fun co => ?_))))))))
 have mz := of_decide_eq_true co
 refine Xa (Xp (vs := [vi 5, .slice (pa bn) 1 1, vb false, vb true, vb false, vb true]) Qk Z Z (aq.blk.rangeL 0 6 Z) Z (Xt (vs := [vi 5, .slice (pa bn) 1 1, vb false, vb true, vb false, vb true]) (cs' := #[vi 5, .slice (pa bn) 1 1, vb false, vb true, vb false, vb true]) Qk ah Z Z (by simp [Value.oneCell']) ((ai.grown0 O.grw).gn aq.grw) (Nat.le_of_ble_eq_true Z) Z ?_))
 intro n9 cd
 refine Xb (Xq (Y5 (Ye (Ye (Y5 (Ye ?_))))))
 have da := of_decide_eq_true co
 have lf := (((bd.grown0 O.grw).gn aq.grw).gn cd.grw)
 have d3 : kindsOf q = ([2] : List Int) := by rw [← da]; decide
 refine ⟨.agg #[vi 5, .slice (pa bn) 1 1, vb false, vb true, vb false, vb true], Qo Z (X7 (vs := [vi 5, .slice (pa bn) 1 1, vb false, vb true, vb false, vb true]) Qk ah Z (cd.blk.rangeL 0 6 Z)), bn, ?_, j1, ?_, (low1 dv cd.grw (by omega))⟩
 rw [d3, ← da]; rfl
 rw [d3]; exact lf
 have m3 := of_decide_eq_false co
 exact Xv (Ys (Xr (Xx (Yw (c := 4) ag Z (by omega) (by omega) (by omega) Z (Xc (v := vi 4) Z Z (Xb (Xr (⟨(8 - 4 : Int).toNat, by omega, 4, Z, (by omega), Z, a8, ah, bj, a9, dv, ((ai.grown0 O.grw).gn aq.grw), ((ba.grown0 O.grw).gn aq.grw), ((bb.grown0 O.grw).gn aq.grw), ((bc.grown0 O.grw).gn aq.grw), ((bd.grown0 O.grw).gn aq.grw), ((be.grown0 O.grw).gn aq.grw), ((bf.grown0 O.grw).gn aq.grw), ((bg.grown0 O.grw).gn aq.grw), ((bh.grown0 O.grw).gn aq.grw), ((ak.grown0 O.grw).gn aq.grw)⟩))))))))
 refine Xa (Qh (q := true) ag a9 (by decide) Z (Xb (Xs (Y3 Z Z (Xv (Xr (Xs (Ya (Xa (X1 (o' := 24) Vk bj ag (by omega) (by omega) Z Z (Xp (vs := [vi 6, .slice (pa bp) 1 1, vb false, vb true, vb false, vb true]) Qk Z Z (ak.rangeL 24 6 Z) Z (Yd (cs := #[vi 0, .slice none 0 0, vb false, vb false, vb false, vb false]) V4 Z Z ?_))))))))))))
 intro ml oa V
 have l7 := X9 V am
 have eo := Xn V (ai).lt
 have fj := Xn V (ba).lt
 have f9 := Xn V (bb).lt
 have gr := Xn V (bc).lt
 have g9 := Xn V (bd).lt
 have ip := Xn V (be).lt
 have i1 := Xn V (bf).lt
 have jb := Xn V (bg).lt
 have jk := Xn V (bh).lt
 have jt := Xn V (ak).lt
 refine Xt (vs := [vi 6, .slice (pa bp) 1 1, vb false, vb true, vb false, vb true]) (cs' := #[vi 6, .slice (pa bp) 1 1, vb false, vb true, vb false, vb true]) Qk Z Z Z (by simp [Value.oneCell']) V.blk (Nat.le_of_ble_eq_true Z) Z ?_
 intro ob ar
 have dw := low1 (low0 am V.grw) ar.grw (by omega)
 refine Xb (Xa (Xd (o' := 0) Ku Z Z Z (Xh (v := vi 6) X3 Z (ar.blk.cell Z) Z (Xc (v := vi q) a8 Z (Xw (q := decide (6 = q)) Z Z Z Z (Xb (Xu Z (fun ct => ?_) (fun ct => ?_))))))))
 have m4 := of_decide_eq_true ct
 refine Xa (Xp (vs := [vi 6, .slice (pa bp) 1 1, vb false, vb true, vb false, vb true]) Qk Z Z (ar.blk.rangeL 0 6 Z) Z (Xt (vs := [vi 6, .slice (pa bp) 1 1, vb false, vb true, vb false, vb true]) (cs' := #[vi 6, .slice (pa bp) 1 1, vb false, vb true, vb false, vb true]) Qk ah Z Z (by simp [Value.oneCell']) ((ai.grown0 V.grw).gn ar.grw) (Nat.le_of_ble_eq_true Z) Z ?_))
 intro oc ce
 refine Xb (Xq (Y5 (Ye (Ye (Y5 (Ye ?_))))))
 have db := of_decide_eq_true ct
 have lg := (((be.grown0 V.grw).gn ar.grw).gn ce.grw)
 have d4 : kindsOf q = ([4] : List Int) := by rw [← db]; decide
 refine ⟨.agg #[vi 6, .slice (pa bp) 1 1, vb false, vb true, vb false, vb true], Qo Z (X7 (vs := [vi 6, .slice (pa bp) 1 1, vb false, vb true, vb false, vb true]) Qk ah Z (ce.blk.rangeL 0 6 Z)), bp, ?_, j2, ?_, (low1 dw ce.grw (by omega))⟩
 rw [d4, ← db]; rfl
 rw [d4]; exact lg
 have m5 := of_decide_eq_false ct
 exact Xv (Ys (Xr (Xx (Yw (c := 5) ag Z (by omega) (by omega) (by omega) Z (Xc (v := vi 5) Z Z (Xb (Xr (⟨(8 - 5 : Int).toNat, by omega, 5, Z, (by omega), Z, a8, ah, bj, a9, dw, ((ai.grown0 V.grw).gn ar.grw), ((ba.grown0 V.grw).gn ar.grw), ((bb.grown0 V.grw).gn ar.grw), ((bc.grown0 V.grw).gn ar.grw), ((bd.grown0 V.grw).gn ar.grw), ((be.grown0 V.grw).gn ar.grw), ((bf.grown0 V.grw).gn ar.grw), ((bg.grown0 V.grw).gn ar.grw), ((bh.grown0 V.grw).gn ar.grw), ((ak.grown0 V.grw).gn ar.grw)⟩))))))))
 refine Xa (Qh (q := true) ag a9 (by decide) Z (Xb (Xs (Y3 Z Z (Xv (Xr (Xs (Ya (Xa (X1 (o' := 30) Vk bj ag (by omega) (by omega) Z Z (Xp (vs := [vi 7, .slice (pa bq) 1 1, vb true, vb true, vb true, vb true]) Qk Z Z (ak.rangeL 30 6 Z) Z (Yd (cs := #[vi 0, .slice none 0 0, vb false, vb false, vb false, vb false]) V4 Z Z ?_))))))))))))
 intro mn od ab
 have l8 := X9 ab am
 have ep := Xn ab (ai).lt
 have fk := Xn ab (ba).lt
 have ga := Xn ab (bb).lt
 have gt := Xn ab (bc).lt
 have ia := Xn ab (bd).lt
 have iq := Xn ab (be).lt
 have i2 := Xn ab (bf).lt
 have jc := Xn ab (bg).lt
 have jl := Xn ab (bh).lt
 have ju := Xn ab (ak).lt
 refine Xt (vs := [vi 7, .slice (pa bq) 1 1, vb true, vb true, vb true, vb true]) (cs' := #[vi 7, .slice (pa bq) 1 1, vb true, vb true, vb true, vb true]) Qk Z Z Z (by simp [Value.oneCell']) ab.blk (Nat.le_of_ble_eq_true Z) Z ?_
 intro oe au
 have dx := low1 (low0 am ab.grw) au.grw (by omega)
 refine Xb (Xa (Xd (o' := 0) Ku Z Z Z (Xh (v := vi 7) X3 Z (au.blk.cell Z) Z (Xc (v := vi q) a8 Z (Xw (q := decide (7 = q)) Z Z Z Z (Xb (Xu Z (fun cv => ?_) (fun cv => ?_))))))))
 have m6 := of_decide_eq_true cv
 refine Xa (Xp (vs := [vi 7, .slice (pa bq) 1 1, vb true, vb true, vb true, vb true]) Qk Z Z (au.blk.rangeL 0 6 Z) Z (Xt (vs := [vi 7, .slice (pa bq) 1 1, vb true, vb true, vb true, vb true]) (cs' := #[vi 7, .slice (pa bq) 1 1, vb true, vb true, vb true, vb true]) Qk ah Z Z (by simp [Value.oneCell']) ((ai.grown0 ab.grw).gn au.grw) (Nat.le_of_ble_eq_true Z) Z ?_))
 intro og cf
 refine Xb (Xq (Y5 (Ye (Ye (Y5 (Ye ?_))))))
 have dc := of_decide_eq_true cv
 have lh := (((bf.grown0 ab.grw).gn au.grw).gn cf.grw)
 have d5 : kindsOf q = ([4] : List Int) := by rw [← dc]; decide
 refine ⟨.agg #[vi 7, .slice (pa bq) 1 1, vb true, vb true, vb true, vb true], Qo Z (X7 (vs := [vi 7, .slice (pa bq) 1 1, vb true, vb true, vb true, vb true]) Qk ah Z (cf.blk.rangeL 0 6 Z)), bq, ?_, j3, ?_, (low1 dx cf.grw (by omega))⟩
 rw [d5, ← dc]; rfl
 rw [d5]; exact lh
 have m7 := of_decide_eq_false cv
 exact Xv (Ys (Xr (Xx (Yw (c := 6) ag Z (by omega) (by omega) (by omega) Z (Xc (v := vi 6) Z Z (Xb (Xr (⟨(8 - 6 : Int).toNat, by omega, 6, Z, (by omega), Z, a8, ah, bj, a9, dx, ((ai.grown0 ab.grw).gn au.grw), ((ba.grown0 ab.grw).gn au.grw), ((bb.grown0 ab.grw).gn au.grw), ((bc.grown0 ab.grw).gn au.grw), ((bd.grown0 ab.grw).gn au.grw), ((be.grown0 ab.grw).gn au.grw), ((bf.grown0 ab.grw).gn au.grw), ((bg.grown0 ab.grw).gn au.grw), ((bh.grown0 ab.grw).gn au.grw), ((ak.grown0 ab.grw).gn au.grw)⟩))))))))
 refine Xa (Qh (q := true) ag a9 (by decide) Z (Xb (Xs (Y3 Z Z (Xv (Xr (Xs (Ya (Xa (X1 (o' := 36) Vk bj ag (by omega) (by omega) Z Z (Xp (vs := [vi 8, .slice (pa br) 3 3, vb false, vb true, vb false, vb true]) Qk Z Z (ak.rangeL 36 6 Z) Z (Yd (cs := #[vi 0, .slice none 0 0, vb false, vb false, vb false, vb false]) V4 Z Z ?_))))))))))))
 intro mo oh ac
 have l9 := X9 ac am
 have eu := Xn ac (ai).lt
 have fm := Xn ac (ba).lt
 have gb := Xn ac (bb).lt
 have gu := Xn ac (bc).lt
 have ib := Xn ac (bd).lt
 have ir := Xn ac (be).lt
 have i3 := Xn ac (bf).lt
 have jd := Xn ac (bg).lt
 have jm := Xn ac (bh).lt
 have jv := Xn ac (ak).lt
 refine Xt (vs := [vi 8, .slice (pa br) 3 3, vb false, vb true, vb false, vb true]) (cs' := #[vi 8, .slice (pa br) 3 3, vb false, vb true, vb false, vb true]) Qk Z Z Z (by simp [Value.oneCell']) ac.blk (Nat.le_of_ble_eq_true Z) Z ?_
 intro ol av
 have dy := low1 (low0 am ac.grw) av.grw (by omega)
 refine Xb (Xa (Xd (o' := 0) Ku Z Z Z (Xh (v := vi 8) X3 Z (av.blk.cell Z) Z (Xc (v := vi q) a8 Z (Xw (q := decide (8 = q)) Z Z Z Z (Xb (Xu Z (fun cw => ?_) (fun cw => ?_))))))))
 have m8 := of_decide_eq_true cw
 refine Xa (Xp (vs := [vi 8, .slice (pa br) 3 3, vb false, vb true, vb false, vb true]) Qk Z Z (av.blk.rangeL 0 6 Z) Z (Xt (vs := [vi 8, .slice (pa br) 3 3, vb false, vb true, vb false, vb true]) (cs' := #[vi 8, .slice (pa br) 3 3, vb false, vb true, vb false, vb true]) Qk ah Z Z (by simp [Value.oneCell']) ((ai.grown0 ac.grw).gn av.grw) (Nat.le_of_ble_eq_true Z) Z ?_))
 intro om cg
 refine Xb (Xq (Y5 (Ye (Ye (Y5 (Ye ?_))))))
 have de := of_decide_eq_true cw
 have li := (((bg.grown0 ac.grw).gn av.grw).gn cg.grw)
 have d6 : kindsOf q = ([1, 2, 4] : List Int) := by rw [← de]; decide
 refine ⟨.agg #[vi 8, .slice (pa br) 3 3, vb false, vb true, vb false, vb true], Qo Z (X7 (vs := [vi 8, .slice (pa br) 3 3, vb false, vb true, vb false, vb true]) Qk ah Z (cg.blk.rangeL 0 6 Z)), br, ?_, j4, ?_, (low1 dy cg.grw (by omega))⟩
 rw [d6, ← de]; rfl
 rw [d6]; exact li
 have m9 := of_decide_eq_false cw
 exact Xv (Ys (Xr (Xx (Yw (c := 7) ag Z (by omega) (by omega) (by omega) Z (Xc (v := vi 7) Z Z (Xb (Xr (⟨(8 - 7 : Int).toNat, by omega, 7, Z, (by omega), Z, a8, ah, bj, a9, dy, ((ai.grown0 ac.grw).gn av.grw), ((ba.grown0 ac.grw).gn av.grw), ((bb.grown0 ac.grw).gn av.grw), ((bc.grown0 ac.grw).gn av.grw), ((bd.grown0 ac.grw).gn av.grw), ((be.grown0 ac.grw).gn av.grw), ((bf.grown0 ac.grw).gn av.grw), ((bg.grown0 ac.grw).gn av.grw), ((bh.grown0 ac.grw).gn av.grw), ((ak.grown0 ac.grw).gn av.grw)⟩))))))))
 refine Xa (Qh (q := true) ag a9 (by decide) Z (Xb (Xs (Y3 Z Z (Xv (Xr (Xs (Ya (Xa (X1 (o' := 42) Vk bj ag (by omega) (by omega) Z Z (Xp (vs := [vi 9, .slice (pa bt) 1 1, vb false, vb true, vb false, vb true]) Qk Z Z (ak.rangeL 42 6 Z) Z (Yd (cs := #[vi 0, .slice none 0 0, vb false, vb false, vb false, vb false]) V4 Z Z ?_))))))))))))
 intro mp oo ad
 have ma := X9 ad am
 have ew := Xn ad (ai).lt
 have fo := Xn ad (ba).lt
 have gc := Xn ad (bb).lt
 have gv := Xn ad (bc).lt
 have ic := Xn ad (bd).lt
 have it := Xn ad (be).lt
 have i4 := Xn ad (bf).lt
 have je := Xn ad (bg).lt
 have jo := Xn ad (bh).lt
 have jw := Xn ad (ak).lt
 refine Xt (vs := [vi 9, .slice (pa bt) 1 1, vb false, vb true, vb false, vb true]) (cs' := #[vi 9, .slice (pa bt) 1 1, vb false, vb true, vb false, vb true]) Qk Z Z Z (by simp [Value.oneCell']) ad.blk (Nat.le_of_ble_eq_true Z) Z ?_
 intro oq aw
 have dz := low1 (low0 am ad.grw) aw.grw (by omega)
 refine Xb (Xa (Xd (o' := 0) Ku Z Z Z (Xh (v := vi 9) X3 Z (aw.blk.cell Z) Z (Xc (v := vi q) a8 Z (Xw (q := decide (9 = q)) Z Z Z Z (Xb (Xu Z (fun cy => ?_) (fun cy => ?_))))))))
 have na := of_decide_eq_true cy
 refine Xa (Xp (vs := [vi 9, .slice (pa bt) 1 1, vb false, vb true, vb false, vb true]) Qk Z Z (aw.blk.rangeL 0 6 Z) Z (Xt (vs := [vi 9, .slice (pa bt) 1 1, vb false, vb true, vb false, vb true]) (cs' := #[vi 9, .slice (pa bt) 1 1, vb false, vb true, vb false, vb true]) Qk ah Z Z (by simp [Value.oneCell']) ((ai.grown0 ad.grw).gn aw.grw) (Nat.le_of_ble_eq_true Z) Z ?_))
 intro ot cj
 refine Xb (Xq (Y5 (Ye (Ye (Y5 (Ye ?_))))))
 have df := of_decide_eq_true cy
 have lj := (((bh.grown0 ad.grw).gn aw.grw).gn cj.grw)
 have d7 : kindsOf q = ([5] : List Int) := by rw [← df]; decide
 refine ⟨.agg #[vi 9, .slice (pa bt) 1 1, vb false, vb true, vb false, vb true], Qo Z (X7 (vs := [vi 9, .slice (pa bt) 1 1, vb false, vb true, vb false, vb true]) Qk ah Z (cj.blk.rangeL 0 6 Z)), bt, ?_, j5, ?_, (low1 dz cj.grw (by omega))⟩
 rw [d7, ← df]; rfl
 rw [d7]; exact lj
 have nb := of_decide_eq_false cy
 exact Xv (Ys (Xr (Xx (Yw (c := 8) ag Z (by omega) (by omega) (by omega) Z (Xc (v := vi 8) Z Z (Xb (Xr (⟨(8 - 8 : Int).toNat, by omega, 8, Z, (by omega), Z, a8, ah, bj, a9, dz, ((ai.grown0 ad.grw).gn aw.grw), ((ba.grown0 ad.grw).gn aw.grw), ((bb.grown0 ad.grw).gn aw.grw), ((bc.grown0 ad.grw).gn aw.grw), ((bd.grown0 ad.grw).gn aw.grw), ((be.grown0 ad.grw).gn aw.grw), ((bf.grown0 ad.grw).gn aw.grw), ((bg.grown0 ad.grw).gn aw.grw), ((bh.grown0 ad.grw).gn aw.grw), ((ak.grown0 ad.grw).gn aw.grw)⟩))))))))
 refine Xa (Qh (q := false) ag a9 (by decide) Z (Xb (Xs (Qm Z Z (Y9 (Y6 (Y6 (Jd (Xr (Xa (Xc (v := vi q) a8 Z (Yk (ps := [(0, vi q)]) (v := .agg #[vi q, .slice none 0 0, vb false, vb false, vb false, vb false]) (Xk Z Xz) (by kernel_rfl) Z ?_))))))))))))
 refine Xt (vs := [vi q, .slice none 0 0, vb false, vb false, vb false, vb false]) (cs' := #[vi q, .slice none 0 0, vb false, vb false, vb false, vb false]) Qk ah Z Z (by simp [Value.oneCell']) ai (Nat.le_of_ble_eq_true Z) Z ?_
 intro ou mb
 refine Xb (Xq ?_)
 exfalso; omega
theorem Ph (k x : Int) (b0 b1 b2 b3 : Bool) (w : World) (xs : List Int) (a : Option Addr) (c : Nat) (hs : SlAt w a 1 (xs.map icell)) (hn : xs.length ≤ 1048576) : CallsR Tryd.prog 37 #[.agg #[vi k, .slice a xs.length c, vb b0, vb b1, vb b2, vb b3], vi x] w (fun v w' => v = vb (xs.any (fun y : Int => decide (y = x))) ∧ w.grownBy w' none) := by
 refine X0 (n := 18) Tryd.func37 Z Tryd.ntmps37 Z ?_
 have aj := World.grownBy.refl w none
 refine Xa (Yr (v := .agg #[vi k, .slice a xs.length c, vb b0, vb b1, vb b2, vb b3]) (cs := #[vi k, .slice a xs.length c, vb b0, vb b1, vb b2, vb b3]) Z Z Z ?_)
 intro am az J
 have ak := X9 J aj
 refine Xg (v := vb false) Z Z (Xb (Xs (Xa (Xd (o' := 1) Sc Z Z Z (Xh (v := .slice a xs.length c) Ky Z (J.blk.cell Z) Z (Yj (by kernel_rfl) Z Z (Xc (v := vi 0) Z Z (Xb (Ya (Qj (fun mm f' w' => ∃ (k1 : Nat), mm = xs.length - k1 ∧ k1 ≤ xs.length ∧ ((xs.take k1).any (fun y : Int => decide (y = x))) = false ∧ f' 10 = vi (k1 : Int) ∧ f' 1 = vi x ∧ f' 8 = .slice a xs.length c ∧ f' 9 = vi (xs.length : Int) ∧ w.grownBy w' none) (xs.length - 0) ⟨0, Z, (Nat.zero_le _), Z, Z, Z, Z, Z, (low0 aj J.grw)⟩ ?_))))))))))
 rintro mm ao a8 ⟨k1, al, a9, ha, ab, ad, ae, af, E⟩
 refine Xa (Qh (q := decide ((k1 : Int) < (xs.length : Int))) ab af Z Z (Xb (Xs (Xu Z (fun ac => ?_) (fun ac => ?_)))))
 have ap := of_decide_eq_true ac
 refine Xv (Xr (Xs (Ya (Xa ?_))))
 obtain ⟨V, O⟩ := Qa (l := xs) (i := k1) (by omega)
 obtain ⟨an, aw, av, ag, ah, ai⟩ := SlAt.at hs (Yi O)
 refine X8 Je ae ab ag ah (by omega) (by omega) Z (Xh (v := vi V) X3 Z ((Yo ai E) 0 _ Z) Z (Xg (v := vi V) Z Z (Xb (Xa (Xc (v := vi V) Z Z (Xc (v := vi x) ad Z (Xw (q := decide (V = x)) Z Z Z Z (Xb (Xu Z (fun G => ?_) (fun G => ?_))))))))))
 have aq := of_decide_eq_true G
 refine Xa (Xg (v := vb true) Z Z (Xb (Xq (Y5 (Ye (Ye (Y5 (Ye (⟨vb true, Yy Z Z, ?_, E⟩)))))))))
 exact cB (Hv (p := (fun y : Int => decide (y = x))) O G).symm
 have ar := of_decide_eq_false G
 exact Xv (Ys (Xr (Xx (Yw (c := (k1 : Int) + 1) ab Z (by omega) (by omega) (by omega) Z (Xc (v := vi ((k1 : Int) + 1)) Z Z (Xb (Xr (⟨xs.length - (k1 + 1), by omega, (k1 + 1), Z, (by omega), (W6 (p := (fun y : Int => decide (y = x))) ha O G), Z, ad, ae, af, E⟩))))))))
 have au := of_decide_eq_false ac
 refine Y9 (Y6 (Y6 (Jd (Xr (Xa (Xg (v := vb false) Z Z (Xb (Xq (⟨vb false, Yy Z Z, ?_, E⟩)))))))))
 exact cB (Hu (p := (fun y : Int => decide (y = x))) ha (by omega)).symm
theorem Ga (q : Cl) (w : World) (ms : List MTh) (a : Option Addr) (c : Nat) (ht : TabAt w a ms) (hlen : TabLen ms) (hn : ms.length ≤ 1048576) : CallsR Tryd.prog 16 #[.slice a ms.length c, .agg #[vi q.kind, vi q.run, vi q.a, vi q.b, vi q.n]] w (fun v w' => ((chkAll (tabT ms) q = 0 ∧ v = .nilIface) ∨ (∃ R : Nat, (¬ chkAll (tabT ms) q = 0 ∧ v = .iface 46 (pt R 0)) ∧ w.heap.size ≤ R ∧ Blk w' R 53 #[vi (chkAll (tabT ms) q)])) ∧ w.grownBy w' none) := by
 refine X0 (n := 107) Tryd.func16 Z Tryd.ntmps16 Z ?_
 have j2 := World.grownBy.refl w none
 refine Xa (Yr (v := .agg #[vi q.kind, vi q.run, vi q.a, vi q.b, vi q.n]) (cs := #[vi q.kind, vi q.run, vi q.a, vi q.b, vi q.n]) Z Z Z ?_)
 intro cc kz bt
 have ka := X9 bt j2
 have dx := low0 j2 bt.grw
 refine Xg (v := .nilIface) Z Z (Xb (Xs (Xa (Xc (v := .slice a ms.length c) Z Z (Xp (vs := [vi q.kind, vi q.run, vi q.a, vi q.b, vi q.n]) Yp Z Z (bt.blk.rangeL 0 5 Z) Z (Xm Mg (Xf Z (Xf Z Xl)) Z (L2 q _ ms _ _ (TabAt.low ht dx) hlen (by omega)) ?_))))))
 rintro _ k0 ⟨rfl, cz⟩
 have bu := low0 dx cz
 refine Yg (b' := !callPoss (tabT ms) q) Z Z Z (Xb (Xu Z (fun ae => ?_) (fun ae => ?_)))
 have jz := Q8 ae
 refine Xa (Yk (ps := [(0, vi (-1))]) (v := .agg #[vi (-1)]) (Xk Z Xz) (by kernel_rfl) Z (Yr (v := .agg #[vi (-1)]) (cs := #[vi (-1)]) Z Z Z ?_))
 intro c8 k3 cf
 have fj := X9 cf bu
 have ed := Xn cf ((bt.blk.grown0 cz)).lt
 refine Jv (v := pt c8 0) (by kernel_rfl) Z Z (Xg (v := .iface 46 (pt c8 0)) Z Z (Xb (Xq (Ye ?_))))
 have dk : chkAll (tabT ms) q = -1 := W9 jz
 refine ⟨.iface 46 (pt c8 0), Yy Z Z, Or.inr ⟨c8, ⟨by rw [dk]; decide, Z⟩, fj, ?_⟩, (low0 bu cf.grw)⟩
 rw [dk]; exact cf.blk
 have ab := Qp ae
 obtain ⟨G, J, E⟩ := Qq ab
 have j8 := Q2 J
 have j9 := (Js E).1
 have kj := Vy G E
 have kh := Hi G
 refine Xv (Xr (Xs (Xa (Xd (o' := 0) Qu Z Z Z ?_))))
 have dr := (bt.blk.grown0 cz)
 refine Xh (v := vi q.kind) X3 Z (dr.cell Z) Z (Xw (q := decide (q.kind = 3)) Z Z Z Z (Xb (Xu Z (fun V => ?_) (fun V => ?_))))
 have kp := of_decide_eq_true V
 refine Xa (Xg (v := .nilIface) Z Z (Xb (Xq (Ye ?_))))
 have fh : chkAll (tabT ms) q = 0 := (Q5 ab).trans (Wc V).symm
 exact ⟨.nilIface, Yy Z Z, Or.inl ⟨fh, Z⟩, bu⟩
 have kq := of_decide_eq_false V
 refine Xv (Xr (Xa (Xd (o' := 0) Qu Z Z Z (Xh (v := vi q.kind) X3 Z (dr.cell Z) Z (Xm Mh (Xf Z Xl) Z (Sn q.kind (by omega) _) ?_)))))
 rintro _ k4 ⟨ck, rfl, dq, bb, d0⟩
 have dy := low0 bu d0
 have kb := nt bu.size dq
 have ee := nl (dr).lt dq
 refine Yd (cs := #[vi 0, .slice none 0 0, vb false, vb false, vb false, vb false]) V4 Z Z ?_
 intro c9 k5 am
 have kc := X9 am dy
 have bw := (dr.grown0 d0)
 have ef := Xn am (bw).lt
 have em := Xn am (bb).lt
 refine Xt (vs := [vi q.kind, .slice (pa ck) (kindsOf q.kind).length (kindsOf q.kind).length, vb (need0 q.kind), vb (need1 q.kind), vb (need0 q.kind), vb (need1 q.kind)]) (cs' := #[vi q.kind, .slice (pa ck) (kindsOf q.kind).length (kindsOf q.kind).length, vb (need0 q.kind), vb (need1 q.kind), vb (need0 q.kind), vb (need1 q.kind)]) Qk Z Z Z (by simp [Value.oneCell']) am.blk (Nat.le_of_ble_eq_true Z) Z ?_
 intro gb ag
 have cg := low1 (low0 dy am.grw) ag.grw (by omega)
 refine Xb (Xs ?_)
 obtain ⟨fr, kw, d9, gc, g5, g8⟩ := SlAt.at (TabAt.low ht cg).1 (Yi (xg ms (q.run - 1).toNat))
 have kf := TabLen.at hlen (xg ms (q.run - 1).toNat)
 obtain ⟨ic, kx, j4, gf, g6, g9⟩ := SlAt.at (TabAt.th (TabAt.low ht cg) (xg ms (q.run - 1).toNat)).1 (Yi (xr (mAt ms (q.run - 1).toNat).t.slots (q.a).toNat))
 have ki := Lh G (lq (q.run - 1).toNat ms.length) (lq (q.a).toNat (mAt ms (q.run - 1).toNat).t.slots.length)
 refine J3 (m := 12) [[], [], [1], [1, 2], [0, 1, 2, 3], [0, 1, 2, 3, 4], [0, 1, 2, 3, 4, 5], [], [7], [0, 1, 2, 3, 4, 5, 6, 7, 8], [0, 1, 2, 3, 4, 5, 6, 7, 8, 9], [], [0, 1, 2, 3, 4, 5, 6, 7, 8, 9, 10, 11]] (fun S F w' => ∃ (O : Nat), gb.grownBy w' none ∧ F 0 = .slice a ms.length c ∧ F 3 = pt cc 0 ∧ F 4 = .nilIface ∧ F 5 = pt c9 0 ∧ (S 11 = true → F 6 = pt O 0 ∧ w.heap.size ≤ O ∧ Blk w' O 38 #[vi 0, vi 0, vb false, vb false, vb false] ∧ cc < O ∧ ck < O ∧ c9 < O ∧ gb.heap.size ≤ O) ∧ Vals S F [(0, 21, .slice a ms.length c), (1, 22, pt cc 1), (2, 23, vi q.run), (3, 24, vi (q.run - 1)), (4, 25, pt fr d9), (5, 26, pt fr (d9 + 5)), (6, 27, .slice (mAt ms (q.run - 1).toNat).sa (mAt ms (q.run - 1).toNat).t.slots.length (mAt ms (q.run - 1).toNat).sc), (7, 28, pt cc 2), (8, 29, vi q.a), (9, 30, pt ic j4), (10, 31, .agg #[vi (rAt (mAt ms (q.run - 1).toNat).t.slots (q.a).toNat).th, vi (rAt (mAt ms (q.run - 1).toNat).t.slots (q.a).toNat).ve, vb (rAt (mAt ms (q.run - 1).toNat).t.slots (q.a).toNat).rd, vb (rAt (mAt ms (q.run - 1).toNat).t.slots (q.a).toNat).wr, vb (rAt (mAt ms (q.run - 1).toNat).t.slots (q.a).toNat).wk])]) Qb (by kernel_rfl) ⟨0, Yf _, Z, Z, Z, Z, Y4, Vn _⟩ ?_ ?_
 refine X5 (fun S F k6 hS hbef hcl hI => ?_) ?_
 obtain ⟨O, gl, fu, ie, ig, ii, ak, hvs⟩ := hI
 exact Xc (v := .slice a ms.length c) fu Z (Xb ⟨O, gl, fu, ie, ig, ii, ak, Vals.up 0 hvs Z Z Z⟩)
 refine X5 (fun S F k7 hS hbef hcl hI => ?_) ?_
 obtain ⟨O, gm, ij, fv, ik, il, ak, hvs⟩ := hI
 exact Xd (o' := 1) Qn fv Z Z (Xb ⟨O, gm, ij, fv, ik, il, ak, Vals.up 1 hvs Z Z Z⟩)
 refine X5 (fun S F k8 hS hbef hcl hI => ?_) ?_
 obtain ⟨O, d1, im, io, ip, iq, ak, hvs⟩ := hI
 exact Xh (v := vi q.run) X3 (Vals.at 1 hvs Z (X4 1 hbef Z)) ((((bw.grown0 am.grw).gn ag.grw).grown0 d1).cell Z) Z (Xb ⟨O, d1, im, io, ip, iq, ak, Vals.up 2 hvs Z Z Z⟩)
 refine X5 (fun S F k9 hS hbef hcl hI => ?_) ?_
 obtain ⟨O, gp, ir, it, iu, iv, ak, hvs⟩ := hI
 exact Y0 (c := q.run - 1) (Vals.at 2 hvs Z (X4 2 hbef Z)) Z (by omega) (by omega) (by omega) Z (Xb ⟨O, gp, ir, it, iu, iv, ak, Vals.up 3 hvs Z Z Z⟩)
 refine X5 (fun S F la hS hbef hcl hI => ?_) ?_
 obtain ⟨O, gq, iw, ix, iy, iz, ak, hvs⟩ := hI
 exact X8 Y7 (Vals.at 0 hvs Z (X4 0 hbef Z)) (Vals.at 3 hvs Z (X4 3 hbef Z)) gc g5 (by omega) (by omega) Z (Xb ⟨O, gq, iw, ix, iy, iz, ak, Vals.up 4 hvs Z Z Z⟩)
 refine X5 (fun S F lc hS hbef hcl hI => ?_) ?_
 obtain ⟨O, gr, i0, i1, i2, i3, ak, hvs⟩ := hI
 exact Xd (o' := d9 + 5) Qr (Vals.at 4 hvs Z (X4 4 hbef Z)) Z Z (Xb ⟨O, gr, i0, i1, i2, i3, ak, Vals.up 5 hvs Z Z Z⟩)
 refine X5 (fun S F ld hS hbef hcl hI => ?_) ?_
 obtain ⟨O, d2, i4, i5, i6, i7, ak, hvs⟩ := hI
 exact Xh (v := .slice (mAt ms (q.run - 1).toNat).sa (mAt ms (q.run - 1).toNat).t.slots.length (mAt ms (q.run - 1).toNat).sc) Jo (Vals.at 5 hvs Z (X4 5 hbef Z)) ((Yo g8 d2) 5 _ Z) Z (Xb ⟨O, d2, i4, i5, i6, i7, ak, Vals.up 6 hvs Z Z Z⟩)
 refine X5 (fun S F le hS hbef hcl hI => ?_) ?_
 obtain ⟨O, gt, i8, fw, i9, ja, ak, hvs⟩ := hI
 exact Xd (o' := 2) Jq fw Z Z (Xb ⟨O, gt, i8, fw, i9, ja, ak, Vals.up 7 hvs Z Z Z⟩)
 refine X5 (fun S F lf hS hbef hcl hI => ?_) ?_
 obtain ⟨O, d3, jb, jc, jd, je, ak, hvs⟩ := hI
 exact Xh (v := vi q.a) X3 (Vals.at 7 hvs Z (X4 7 hbef Z)) ((((bw.grown0 am.grw).gn ag.grw).grown0 d3).cell Z) Z (Xb ⟨O, d3, jb, jc, jd, je, ak, Vals.up 8 hvs Z Z Z⟩)
 refine X5 (fun S F lg hS hbef hcl hI => ?_) ?_
 obtain ⟨O, gu, jf, jg, jh, ji, ak, hvs⟩ := hI
 exact X8 V1 (Vals.at 6 hvs Z (X4 6 hbef Z)) (Vals.at 8 hvs Z (X4 8 hbef Z)) gf g6 (by omega) (by omega) Z (Xb ⟨O, gu, jf, jg, jh, ji, ak, Vals.up 9 hvs Z Z Z⟩)
 refine X5 (fun S F lh hS hbef hcl hI => ?_) ?_
 obtain ⟨O, d4, jj, jk, jl, jm, ak, hvs⟩ := hI
 exact Xp (vs := [vi (rAt (mAt ms (q.run - 1).toNat).t.slots (q.a).toNat).th, vi (rAt (mAt ms (q.run - 1).toNat).t.slots (q.a).toNat).ve, vb (rAt (mAt ms (q.run - 1).toNat).t.slots (q.a).toNat).rd, vb (rAt (mAt ms (q.run - 1).toNat).t.slots (q.a).toNat).wr, vb (rAt (mAt ms (q.run - 1).toNat).t.slots (q.a).toNat).wk]) Yv (Vals.at 9 hvs Z (X4 9 hbef Z)) Z (Qi (Yo g9 d4) 0 5 Z) Z (Xb ⟨O, d4, jj, jk, jl, jm, ak, Vals.up 10 hvs Z Z Z⟩)
 refine X5 (fun S F li hS hbef hcl hI => ?_) ?_
 obtain ⟨O, bm, jo, jp, jq, jr, ak, hvs⟩ := hI
 refine Yd (cs := #[vi 0, vi 0, vb false, vb false, vb false]) Ks Z Z ?_
 intro ib lj bg
 have fk := X9 bg (low0 cg bm)
 have bx := Xn bg ((((bw.grown0 am.grw).gn ag.grw).grown0 bm)).lt
 have bz := Xn bg ((((bb.grown0 am.grw).gn ag.grw).grown0 bm)).lt
 have ca := Xn bg ((ag.blk.grown0 bm)).lt
 exact Xb ⟨ib, (low0 bm bg.grw), jo, jp, jq, jr, fun _ => ⟨Z, fk, bg.blk, bx, bz, ca, (nt bm.size (Nat.le_of_eq bg.eq.symm))⟩, Vals.keep hvs Z⟩
 exact Ke
 intro S F lk hall hI
 obtain ⟨O, an, dt, fx, fy, du, ak, hvs⟩ := hI
 obtain ⟨cd, ke, d8, eg, eo, ez, j3⟩ := ak (hall 11 (by decide))
 refine Xt (vs := [vi (rAt (mAt ms (q.run - 1).toNat).t.slots (q.a).toNat).th, vi (rAt (mAt ms (q.run - 1).toNat).t.slots (q.a).toNat).ve, vb (rAt (mAt ms (q.run - 1).toNat).t.slots (q.a).toNat).rd, vb (rAt (mAt ms (q.run - 1).toNat).t.slots (q.a).toNat).wr, vb (rAt (mAt ms (q.run - 1).toNat).t.slots (q.a).toNat).wk]) (cs' := #[vi (rAt (mAt ms (q.run - 1).toNat).t.slots (q.a).toNat).th, vi (rAt (mAt ms (q.run - 1).toNat).t.slots (q.a).toNat).ve, vb (rAt (mAt ms (q.run - 1).toNat).t.slots (q.a).toNat).rd, vb (rAt (mAt ms (q.run - 1).toNat).t.slots (q.a).toNat).wr, vb (rAt (mAt ms (q.run - 1).toNat).t.slots (q.a).toNat).wk]) Yv cd (Vals.at 10 hvs Z (hall 10 (by decide))) Z (by simp [Value.oneCell']) d8 (Nat.le_of_ble_eq_true Z) Z ?_
 intro eb ac
 have dz := low1 (low0 cg an) ac.grw (by omega)
 refine Xb (Xr (Xs (Jp (fun f' w' => (f' 0 = .slice a ms.length c ∧ f' 3 = pt cc 0 ∧ f' 4 = .nilIface ∧ f' 5 = pt c9 0 ∧ f' 6 = pt O 0 ∧ f' 46 = vb ((decide ((rAt (mAt ms (q.run - 1).toNat).t.slots (q.a).toNat).th = 0)) || (!kindFor q.kind (mAt ms ((rAt (mAt ms (q.run - 1).toNat).t.slots (q.a).toNat).th - 1).toNat).t.kind))) ∧ eb.grownBy w' none) ?_ ?_)))
 rcases X6 (decide ((rAt (mAt ms (q.run - 1).toNat).t.slots (q.a).toNat).th = 0)) with af | af
 have kr := of_decide_eq_true af
 refine Y8 (m := 12) (vals := [(32, pt O 0), (33, vi (rAt (mAt ms (q.run - 1).toNat).t.slots (q.a).toNat).th), (34, vb (decide ((rAt (mAt ms (q.run - 1).toNat).t.slots (q.a).toNat).th = 0))), (35, vb (decide ((rAt (mAt ms (q.run - 1).toNat).t.slots (q.a).toNat).th = 0))), (36, undef), (37, undef), (38, undef), (39, undef), (40, undef), (41, undef), (42, undef), (43, undef)]) (fun w' => eb.grownBy w' none) Qb (by kernel_rfl) (Yf _) ?_ ?_
 refine yl Z (fun _ _ k => Xd (o' := 0) Ym cd Z Z k) (yl Z (fun _ gv k => Xh (v := vi (rAt (mAt ms (q.run - 1).toNat).t.slots (q.a).toNat).th) X3 Z ((ac.blk.grown0 gv).cell Z) Z k) (yl Z (fun _ _ k => Xw (q := decide ((rAt (mAt ms (q.run - 1).toNat).t.slots (q.a).toNat).th = 0)) Z Z Z Z k) (yl Z (fun _ _ k => Xc (v := vb (decide ((rAt (mAt ms (q.run - 1).toNat).t.slots (q.a).toNat).th = 0))) Z Z k) (yl Z (fun _ _ k => Xi Z Z Z af Z k) (yl Z (fun _ _ k => Xi Z Z Z af Z k) (yl Z (fun _ _ k => Xi Z Z Z af Z k) (yl Z (fun _ _ k => Xi Z Z Z af Z k) (yl Z (fun _ _ k => Xi Z Z Z af Z k) (yl Z (fun _ _ k => Xi Z Z Z af Z k) (yl Z (fun _ _ k => Xi Z Z Z af Z k) ?_))))))))))
 exact yl Z (fun _ _ k => Xi Z Z Z af Z k) Qd
 intro ll gw
 exact Xi Z Z Z af Z (Xi Z Z Z af Z (Xo (v := vb true) Z af Z Z (Xb (Xr ⟨⟨dt, fx, fy, du, cd, (congrArg Value.bool (by first | (simp only [ae, ab, V, af, G, J, E, b0, b1, b2, b3, b4, b5, b6, b7, b8, b9]; done) | simp [ae, ab, V, af, G, J, E]))⟩, gw⟩))))
 have ks := of_decide_eq_false af
 obtain ⟨ft, ky, ea, gg, g7, ia⟩ := SlAt.at (TabAt.low ht dz).1 (Yi (xg ms ((rAt (mAt ms (q.run - 1).toNat).t.slots (q.a).toNat).th - 1).toNat))
 have kg := TabLen.at hlen (xg ms ((rAt (mAt ms (q.run - 1).toNat).t.slots (q.a).toNat).th - 1).toNat)
 refine Y8 (m := 12) (vals := [(32, pt O 0), (33, vi (rAt (mAt ms (q.run - 1).toNat).t.slots (q.a).toNat).th), (34, vb (decide ((rAt (mAt ms (q.run - 1).toNat).t.slots (q.a).toNat).th = 0))), (35, vb (decide ((rAt (mAt ms (q.run - 1).toNat).t.slots (q.a).toNat).th = 0))), (36, .agg #[vi q.kind, .slice (pa ck) (kindsOf q.kind).length (kindsOf q.kind).length, vb (need0 q.kind), vb (need1 q.kind), vb (need0 q.kind), vb (need1 q.kind)]), (37, .slice a ms.length c), (38, pt O 0), (39, vi (rAt (mAt ms (q.run - 1).toNat).t.slots (q.a).toNat).th), (40, vi ((rAt (mAt ms (q.run - 1).toNat).t.slots (q.a).toNat).th - 1)), (41, pt ft ea), (42, pt ft ea), (43, vi (mAt ms ((rAt (mAt ms (q.run - 1).toNat).t.slots (q.a).toNat).th - 1).toNat).t.kind)]) (fun w' => eb.grownBy w' none) Qb (by kernel_rfl) (Yf _) ?_ ?_
 refine yl Z (fun _ _ k => Xd (o' := 0) Ym cd Z Z k) (yl Z (fun _ gx k => Xh (v := vi (rAt (mAt ms (q.run - 1).toNat).t.slots (q.a).toNat).th) X3 Z ((ac.blk.grown0 gx).cell Z) Z k) (yl Z (fun _ _ k => Xw (q := decide ((rAt (mAt ms (q.run - 1).toNat).t.slots (q.a).toNat).th = 0)) Z Z Z Z k) (yl Z (fun _ _ k => Xc (v := vb (decide ((rAt (mAt ms (q.run - 1).toNat).t.slots (q.a).toNat).th = 0))) Z Z k) (yl Z (fun _ gy k => Xe Z Z Z af (Xp (vs := [vi q.kind, .slice (pa ck) (kindsOf q.kind).length (kindsOf q.kind).length, vb (need0 q.kind), vb (need1 q.kind), vb (need0 q.kind), vb (need1 q.kind)]) Qk du Z ((((ag.blk.grown0 an).gn ac.grw).grown0 gy).rangeL 0 6 Z) Z k)) (yl Z (fun _ _ k => Xe Z Z Z af (Xc (v := .slice a ms.length c) dt Z k)) (yl Z (fun _ _ k => Xe Z Z Z af (Xd (o' := 0) Ym cd Z Z k)) (yl Z (fun _ gz k => Xe Z Z Z af (Xh (v := vi (rAt (mAt ms (q.run - 1).toNat).t.slots (q.a).toNat).th) X3 Z ((ac.blk.grown0 gz).cell Z) Z k)) (yl Z (fun _ _ k => Xe Z Z Z af (Y0 (c := (rAt (mAt ms (q.run - 1).toNat).t.slots (q.a).toNat).th - 1) Z Z (by omega) (by omega) (by omega) Z k)) (yl Z (fun _ _ k => Xe Z Z Z af (X8 Y7 Z Z gg g7 (by omega) (by omega) Z k)) (yl Z (fun _ _ k => Xe Z Z Z af (Xd (o' := ea) Yl Z Z Z k)) ?_))))))))))
 exact yl Z (fun _ g0 k => Xe Z Z Z af (Xh (v := vi (mAt ms ((rAt (mAt ms (q.run - 1).toNat).t.slots (q.a).toNat).th - 1).toNat).t.kind) X3 Z ((Yo ia g0) 0 _ Z) Z k)) Qd
 intro lm d5
 refine Xe Z Z Z af (Xm Mi (Xf Z (Xf Z Xl)) Z (Ph q.kind (mAt ms ((rAt (mAt ms (q.run - 1).toNat).t.slots (q.a).toNat).th - 1).toNat).t.kind (need0 q.kind) (need1 q.kind) (need0 q.kind) (need1 q.kind) _ (kindsOf q.kind) _ _ (Jh Yn (((((bb.grown0 am.grw).gn ag.grw).grown0 an).gn ac.grw).grown0 d5)) (by exact nt Pj (by decide))) ?_)
 rintro _ ln ⟨rfl, gh⟩
 exact Xe Z Z Z af (Yg (b' := !kindFor q.kind (mAt ms ((rAt (mAt ms (q.run - 1).toNat).t.slots (q.a).toNat).th - 1).toNat).t.kind) (congrArg Value.bool (Ri q.kind (mAt ms ((rAt (mAt ms (q.run - 1).toNat).t.slots (q.a).toNat).th - 1).toNat).t.kind)) Z Z (Xj (v := vb (!kindFor q.kind (mAt ms ((rAt (mAt ms (q.run - 1).toNat).t.slots (q.a).toNat).th - 1).toNat).t.kind)) Z af Z Z (Xb (Xr ⟨⟨dt, fx, fy, du, cd, (congrArg Value.bool (by first | (simp only [ae, ab, V, af, G, J, E, b0, b1, b2, b3, b4, b5, b6, b7, b8, b9]; done) | simp [ae, ab, V, af, G, J, E]))⟩, (grown_trans d5 gh)⟩))))
 rintro kl j5 ⟨⟨cl, cm, cn, bn, bp, js⟩, ah⟩
 have bl := low0 dz ah
 refine Xu js (fun ad => ?_) (fun ad => ?_)
 refine Xa (Yk (ps := [(0, vi (-1))]) (v := .agg #[vi (-1)]) (Xk Z Xz) (by kernel_rfl) Z (Yr (v := .agg #[vi (-1)]) (cs := #[vi (-1)]) Z Z Z ?_))
 intro da lp bh
 have fm := X9 bh bl
 have eh := Xn bh ((((((bw.grown0 am.grw).gn ag.grw).grown0 an).gn ac.grw).grown0 ah)).lt
 have ep := Xn bh ((((((bb.grown0 am.grw).gn ag.grw).grown0 an).gn ac.grw).grown0 ah)).lt
 have e0 := Xn bh ((((ag.blk.grown0 an).gn ac.grw).grown0 ah)).lt
 have fd := Xn bh ((ac.blk.grown0 ah)).lt
 refine Jv (v := pt da 0) (by kernel_rfl) Z Z (Xg (v := .iface 46 (pt da 0)) Z Z (Xb (Xq (Ye ?_))))
 have dl : chkAll (tabT ms) q = -1 := (Q5 ab).trans (Gz V (Ts ad)).symm
 refine ⟨.iface 46 (pt da 0), Yy Z Z, Or.inr ⟨da, ⟨by rw [dl]; decide, Z⟩, fm, ?_⟩, (low0 bl bh.grw)⟩
 rw [dl]; exact bh.blk
 have ai := Jm ad
 have kt := of_decide_eq_false ai
 have aj := Jn ad
 have al := Qp aj
 refine Xv (Xr (Xs (X2 (fun f' w' => (f' 0 = .slice a ms.length c ∧ f' 3 = pt cc 0 ∧ f' 4 = .nilIface ∧ f' 5 = pt c9 0 ∧ f' 6 = pt O 0 ∧ f' 65 = vb ((need0 q.kind && (!(rAt (mAt ms (q.run - 1).toNat).t.slots (q.a).toNat).rd)) || (need1 q.kind && (!(rAt (mAt ms (q.run - 1).toNat).t.slots (q.a).toNat).wr)))) ∧ j5 = w') ?_ ?_)))
 refine Xd (o' := 2) Sd bn Z Z ?_
 have d6 := (((ag.blk.grown0 an).gn ac.grw).grown0 ah)
 refine Xh (v := vb (need0 q.kind)) Q3 Z (d6.cell Z) Z (Xc (v := vb (need0 q.kind)) Z Z ?_)
 rcases X6 (need0 q.kind) with au | au
 refine Xe Z Z Z au (Xd (o' := 2) Vw bp Z Z (Xe Z Z Z au ?_))
 have ga := (ac.blk.grown0 ah)
 refine Xh (v := vb (rAt (mAt ms (q.run - 1).toNat).t.slots (q.a).toNat).rd) Q3 Z (ga.cell Z) Z (Xe Z Z Z au (Yg (b' := !(rAt (mAt ms (q.run - 1).toNat).t.slots (q.a).toNat).rd) Z Z Z (Xo (v := vb (!(rAt (mAt ms (q.run - 1).toNat).t.slots (q.a).toNat).rd)) Z au Z Z (Xc (v := vb (!(rAt (mAt ms (q.run - 1).toNat).t.slots (q.a).toNat).rd)) Z Z ?_))))
 rcases X6 (!(rAt (mAt ms (q.run - 1).toNat).t.slots (q.a).toNat).rd) with aq | aq
 have f8 := Q8 aq
 iterate 3 refine Xi rfl rfl rfl aq rfl ?_
 iterate 3 refine Yc rfl rfl rfl rfl ?_
 exact Xi Z Z Z aq Z (Xo (v := vb true) Z aq Z Z (Xb ⟨⟨cl, cm, cn, bn, bp, (congrArg Value.bool (by first | (simp only [ae, ab, V, ad, ai, aj, al, au, aq, f8, G, J, E, b0, b1, b2, b3, b4, b5, b6, b7, b8, b9]; done) | simp [ae, ab, V, ad, ai, aj, al, au, aq, f8, G, J, E]))⟩, Z⟩))
 have df := Qp aq
 refine Xe Z Z Z aq (Xd (o' := 3) Nw bn Z Z (Xe Z Z Z aq (Xh (v := vb (need1 q.kind)) Q3 Z (d6.cell Z) Z (Xe Z Z Z aq (Xc (v := vb (need1 q.kind)) Z Z ?_)))))
 rcases X6 (need1 q.kind) with bd | bd
 exact Xe Z Z Z bd (Xd (o' := 3) Ki bp Z Z (Xe Z Z Z bd (Xh (v := vb (rAt (mAt ms (q.run - 1).toNat).t.slots (q.a).toNat).wr) Q3 Z (ga.cell Z) Z (Xe Z Z Z bd (Yg (b' := !(rAt (mAt ms (q.run - 1).toNat).t.slots (q.a).toNat).wr) Z Z Z (Xe Z Z Z aq (Xo (v := vb (!(rAt (mAt ms (q.run - 1).toNat).t.slots (q.a).toNat).wr)) Z bd Z Z (Xj (v := vb (!(rAt (mAt ms (q.run - 1).toNat).t.slots (q.a).toNat).wr)) Z aq Z Z (Xb ⟨⟨cl, cm, cn, bn, bp, (congrArg Value.bool (by first | (simp only [ae, ab, V, ad, ai, aj, al, au, aq, df, bd, G, J, E, b0, b1, b2, b3, b4, b5, b6, b7, b8, b9]; done) | simp [ae, ab, V, ad, ai, aj, al, au, aq, df, bd, G, J, E]))⟩, Z⟩)))))))))
 iterate 3 refine Xi rfl rfl rfl bd rfl ?_
 exact Xe Z Z Z aq (Xj (v := vb false) Z bd Z Z (Xj (v := vb false) Z aq Z Z (Xb ⟨⟨cl, cm, cn, bn, bp, (congrArg Value.bool (by first | (simp only [ae, ab, V, ad, ai, aj, al, au, aq, df, bd, G, J, E, b0, b1, b2, b3, b4, b5, b6, b7, b8, b9]; done) | simp [ae, ab, V, ad, ai, aj, al, au, aq, df, bd, G, J, E]))⟩, Z⟩)))
 iterate 3 refine Xi rfl rfl rfl au rfl ?_
 refine Xj (v := vb false) Z au Z Z (Xc (v := vb false) Z Z (Xe Z Z Z Z (Xd (o' := 3) Nw bn Z Z (Xe Z Z Z Z (Xh (v := vb (need1 q.kind)) Q3 Z (d6.cell Z) Z (Xe Z Z Z Z (Xc (v := vb (need1 q.kind)) Z Z ?_)))))))
 rcases X6 (need1 q.kind) with be | be
 exact Xe Z Z Z be (Xd (o' := 3) Ki bp Z Z (Xe Z Z Z be (Xh (v := vb (rAt (mAt ms (q.run - 1).toNat).t.slots (q.a).toNat).wr) Q3 Z ((ac.blk.grown0 ah).cell Z) Z (Xe Z Z Z be (Yg (b' := !(rAt (mAt ms (q.run - 1).toNat).t.slots (q.a).toNat).wr) Z Z Z (Xe Z Z Z Z (Xo (v := vb (!(rAt (mAt ms (q.run - 1).toNat).t.slots (q.a).toNat).wr)) Z be Z Z (Xj (v := vb (!(rAt (mAt ms (q.run - 1).toNat).t.slots (q.a).toNat).wr)) Z Z Z Z (Xb ⟨⟨cl, cm, cn, bn, bp, (congrArg Value.bool (by first | (simp only [ae, ab, V, ad, ai, aj, al, au, be, G, J, E, b0, b1, b2, b3, b4, b5, b6, b7, b8, b9]; done) | simp [ae, ab, V, ad, ai, aj, al, au, be, G, J, E]))⟩, Z⟩)))))))))
 iterate 3 refine Xi rfl rfl rfl be rfl ?_
 exact Xe Z Z Z Z (Xj (v := vb false) Z be Z Z (Xj (v := vb false) Z Z Z Z (Xb ⟨⟨cl, cm, cn, bn, bp, (congrArg Value.bool (by first | (simp only [ae, ab, V, ad, ai, aj, al, au, be, G, J, E, b0, b1, b2, b3, b4, b5, b6, b7, b8, b9]; done) | simp [ae, ab, V, ad, ai, aj, al, au, be, G, J, E]))⟩, Z⟩)))
 rintro km lu ⟨⟨bq, dv, co, dw, br, jt⟩, rfl⟩
 refine Xu jt (fun ao => ?_) (fun ao => ?_)
 refine Xa (Yk (ps := [(0, vi (-1))]) (v := .agg #[vi (-1)]) (Xk Z Xz) (by kernel_rfl) Z (Yr (v := .agg #[vi (-1)]) (cs := #[vi (-1)]) Z Z Z ?_))
 intro db lv bi
 have fo := X9 bi bl
 have ei := Xn bi ((((((bw.grown0 am.grw).gn ag.grw).grown0 an).gn ac.grw).grown0 ah)).lt
 have eu := Xn bi ((((((bb.grown0 am.grw).gn ag.grw).grown0 an).gn ac.grw).grown0 ah)).lt
 have fa := Xn bi ((((ag.blk.grown0 an).gn ac.grw).grown0 ah)).lt
 have fe := Xn bi ((ac.blk.grown0 ah)).lt
 refine Jv (v := pt db 0) (by kernel_rfl) Z Z (Xg (v := .iface 46 (pt db 0)) Z Z (Xb (Xq (Ye ?_))))
 have dm : chkAll (tabT ms) q = -1 := (Q5 ab).trans (Gz V (Tt ad ao)).symm
 refine ⟨.iface 46 (pt db 0), Yy Z Z, Or.inr ⟨db, ⟨by rw [dm]; decide, Z⟩, fo, ?_⟩, (low0 bl bi.grw)⟩
 rw [dm]; exact bi.blk
 have a8 := Jm ao
 have a9 := Jn ao
 refine Xv (Xr (Xa (Xc (v := .slice a ms.length c) bq Z (Xd (o' := 1) Qn dv Z Z ?_))))
 have cv := (((((bw.grown0 am.grw).gn ag.grw).grown0 an).gn ac.grw).grown0 ah)
 refine Xh (v := vi q.run) X3 Z (cv.cell Z) Z (Xd (o' := 0) Ym br Z Z ?_)
 have ce := (ac.blk.grown0 ah)
 refine Xh (v := vi (rAt (mAt ms (q.run - 1).toNat).t.slots (q.a).toNat).th) X3 Z (ce.cell Z) Z (Xm S9 (Xf Z (Xf Z (Xf Z Xl))) Z (Uq q.run (rAt (mAt ms (q.run - 1).toNat).t.slots (q.a).toNat).th _ ms _ _ (TabAt.low ht bl) hlen (by omega) G (by omega) (by omega)) ?_)
 rintro _ j6 ⟨rfl, ap⟩
 have cw := low0 bl ap
 refine Xg (v := vb (sees (tabT ms) q.run (rAt (mAt ms (q.run - 1).toNat).t.slots (q.a).toNat).th)) Z Z (Xb (Xs (X2 (fun f' w' => (f' 0 = .slice a ms.length c ∧ f' 4 = .nilIface ∧ f' 6 = pt O 0 ∧ f' 7 = vb (sees (tabT ms) q.run (rAt (mAt ms (q.run - 1).toNat).t.slots (q.a).toNat).th) ∧ f' 93 = vb ((need0 q.kind && (!sees (tabT ms) q.run (rAt (mAt ms (q.run - 1).toNat).t.slots (q.a).toNat).th)) || (need1 q.kind && (!touches (tabT ms) q.run (rAt (mAt ms (q.run - 1).toNat).t.slots (q.a).toNat).th)))) ∧ j6.grownBy w' none) ?_ ?_)))
 refine Xd (o' := 4) Se dw Z Z ?_
 have d7 := ((((ag.blk.grown0 an).gn ac.grw).grown0 ah).grown0 ap)
 refine Xh (v := vb (need0 q.kind)) Q3 Z (d7.cell Z) Z (Xc (v := vb (need0 q.kind)) Z Z ?_)
 rcases X6 (need0 q.kind) with av | av
 refine Xe Z Z Z av (Xc (v := vb (sees (tabT ms) q.run (rAt (mAt ms (q.run - 1).toNat).t.slots (q.a).toNat).th)) Z Z (Xe Z Z Z av (Yg (b' := !sees (tabT ms) q.run (rAt (mAt ms (q.run - 1).toNat).t.slots (q.a).toNat).th) Z Z Z (Xo (v := vb (!sees (tabT ms) q.run (rAt (mAt ms (q.run - 1).toNat).t.slots (q.a).toNat).th)) Z av Z Z (Xc (v := vb (!sees (tabT ms) q.run (rAt (mAt ms (q.run - 1).toNat).t.slots (q.a).toNat).th)) Z Z ?_)))))
 rcases X6 (!sees (tabT ms) q.run (rAt (mAt ms (q.run - 1).toNat).t.slots (q.a).toNat).th) with ar | ar
 have f9 := Q8 ar
 iterate 3 refine Xi rfl rfl rfl ar rfl ?_
 iterate 7 refine Yc rfl rfl rfl rfl ?_
 exact Xi Z Z Z ar Z (Xo (v := vb true) Z ar Z Z (Xb ⟨⟨bq, co, br, Z, (congrArg Value.bool (by first | (simp only [ae, ab, V, ad, ai, aj, al, ao, a8, a9, av, ar, f9, G, J, E, b0, b1, b2, b3, b4, b5, b6, b7, b8, b9]; done) | simp [ae, ab, V, ad, ai, aj, al, ao, a8, a9, av, ar, f9, G, J, E]))⟩, (World.grownBy.refl _ _)⟩))
 have dg := Qp ar
 refine Xe Z Z Z ar (Xd (o' := 5) Nx dw Z Z (Xe Z Z Z ar (Xh (v := vb (need1 q.kind)) Q3 Z (d7.cell Z) Z (Xe Z Z Z ar (Xc (v := vb (need1 q.kind)) Z Z ?_)))))
 rcases X6 (need1 q.kind) with aw | aw
 refine Xe Z Z Z aw (Xc (v := .slice a ms.length c) bq Z (Xe Z Z Z aw (Xd (o' := 1) Qn dv Z Z (Xe Z Z Z aw (Xh (v := vi q.run) X3 Z ((cv.grown0 ap).cell Z) Z (Xe Z Z Z aw (Xd (o' := 0) Ym br Z Z (Xe Z Z Z aw (Xh (v := vi (rAt (mAt ms (q.run - 1).toNat).t.slots (q.a).toNat).th) X3 Z ((ce.grown0 ap).cell Z) Z (Xe Z Z Z aw (Xm Tb (Xf Z (Xf Z (Xf Z Xl))) Z (Vl q.run (rAt (mAt ms (q.run - 1).toNat).t.slots (q.a).toNat).th _ ms _ _ (TabAt.low ht cw) hlen (by omega) G (by omega) (by omega)) ?_)))))))))))
 rintro _ lw ⟨rfl, gi⟩
 exact Xe Z Z Z aw (Yg (b' := !touches (tabT ms) q.run (rAt (mAt ms (q.run - 1).toNat).t.slots (q.a).toNat).th) Z Z Z (Xe Z Z Z ar (Xo (v := vb (!touches (tabT ms) q.run (rAt (mAt ms (q.run - 1).toNat).t.slots (q.a).toNat).th)) Z aw Z Z (Xj (v := vb (!touches (tabT ms) q.run (rAt (mAt ms (q.run - 1).toNat).t.slots (q.a).toNat).th)) Z ar Z Z (Xb ⟨⟨bq, co, br, Z, (congrArg Value.bool (by first | (simp only [ae, ab, V, ad, ai, aj, al, ao, a8, a9, av, ar, dg, aw, G, J, E, b0, b1, b2, b3, b4, b5, b6, b7, b8, b9]; done) | simp [ae, ab, V, ad, ai, aj, al, ao, a8, a9, av, ar, dg, aw, G, J, E]))⟩, gi⟩)))))
 iterate 7 refine Xi rfl rfl rfl aw rfl ?_
 exact Xe Z Z Z ar (Xj (v := vb false) Z aw Z Z (Xj (v := vb false) Z ar Z Z (Xb ⟨⟨bq, co, br, Z, (congrArg Value.bool (by first | (simp only [ae, ab, V, ad, ai, aj, al, ao, a8, a9, av, ar, dg, aw, G, J, E, b0, b1, b2, b3, b4, b5, b6, b7, b8, b9]; done) | simp [ae, ab, V, ad, ai, aj, al, ao, a8, a9, av, ar, dg, aw, G, J, E]))⟩, (World.grownBy.refl _ _)⟩)))
 refine Xi Z Z Z av Z (Xi Z Z Z av Z (Xj (v := vb false) Z av Z Z (Xc (v := vb false) Z Z (Xe Z Z Z Z (Xd (o' := 5) Nx dw Z Z (Xe Z Z Z Z (Xh (v := vb (need1 q.kind)) Q3 Z (d7.cell Z) Z (Xe Z Z Z Z (Xc (v := vb (need1 q.kind)) Z Z ?_)))))))))
 rcases X6 (need1 q.kind) with az | az
 refine Xe Z Z Z az (Xc (v := .slice a ms.length c) bq Z (Xe Z Z Z az (Xd (o' := 1) Qn dv Z Z (Xe Z Z Z az (Xh (v := vi q.run) X3 Z ((cv.grown0 ap).cell Z) Z (Xe Z Z Z az (Xd (o' := 0) Ym br Z Z (Xe Z Z Z az (Xh (v := vi (rAt (mAt ms (q.run - 1).toNat).t.slots (q.a).toNat).th) X3 Z ((ce.grown0 ap).cell Z) Z (Xe Z Z Z az (Xm Tb (Xf Z (Xf Z (Xf Z Xl))) Z (Vl q.run (rAt (mAt ms (q.run - 1).toNat).t.slots (q.a).toNat).th _ ms _ _ (TabAt.low ht cw) hlen (by omega) G (by omega) (by omega)) ?_)))))))))))
 rintro _ lx ⟨rfl, gj⟩
 exact Xe Z Z Z az (Yg (b' := !touches (tabT ms) q.run (rAt (mAt ms (q.run - 1).toNat).t.slots (q.a).toNat).th) Z Z Z (Xe Z Z Z Z (Xo (v := vb (!touches (tabT ms) q.run (rAt (mAt ms (q.run - 1).toNat).t.slots (q.a).toNat).th)) Z az Z Z (Xj (v := vb (!touches (tabT ms) q.run (rAt (mAt ms (q.run - 1).toNat).t.slots (q.a).toNat).th)) Z Z Z Z (Xb ⟨⟨bq, co, br, Z, (congrArg Value.bool (by first | (simp only [ae, ab, V, ad, ai, aj, al, ao, a8, a9, av, az, G, J, E, b0, b1, b2, b3, b4, b5, b6, b7, b8, b9]; done) | simp [ae, ab, V, ad, ai, aj, al, ao, a8, a9, av, az, G, J, E]))⟩, gj⟩)))))
 iterate 7 refine Xi rfl rfl rfl az rfl ?_
 exact Xe Z Z Z Z (Xj (v := vb false) Z az Z Z (Xj (v := vb false) Z Z Z Z (Xb ⟨⟨bq, co, br, Z, (congrArg Value.bool (by first | (simp only [ae, ab, V, ad, ai, aj, al, ao, a8, a9, av, az, G, J, E, b0, b1, b2, b3, b4, b5, b6, b7, b8, b9]; done) | simp [ae, ab, V, ad, ai, aj, al, ao, a8, a9, av, az, G, J, E]))⟩, (World.grownBy.refl _ _)⟩)))
 rintro kn j7 ⟨⟨ju, fz, jv, jw, jx⟩, ba⟩
 have cj := low0 cw ba
 refine Xu jx (fun bf => ?_) (fun bf => ?_)
 refine Xa (Yk (ps := [(0, vi (-2))]) (v := .agg #[vi (-2)]) (Xk Z Xz) (by kernel_rfl) Z (Yr (v := .agg #[vi (-2)]) (cs := #[vi (-2)]) Z Z Z ?_))
 intro dc ly bj
 have fp := X9 bj cj
 have ej := Xn bj (((cv.grown0 ap).grown0 ba)).lt
 have ew := Xn bj ((((((((bb.grown0 am.grw).gn ag.grw).grown0 an).gn ac.grw).grown0 ah).grown0 ap).grown0 ba)).lt
 have fb := Xn bj ((((((ag.blk.grown0 an).gn ac.grw).grown0 ah).grown0 ap).grown0 ba)).lt
 have ff := Xn bj (((ce.grown0 ap).grown0 ba)).lt
 refine Jv (v := pt dc 0) (by kernel_rfl) Z Z (Xg (v := .iface 46 (pt dc 0)) Z Z (Xb (Xq (Ye ?_))))
 have dn : chkAll (tabT ms) q = -2 := (Q5 ab).trans (Nt V (L4 ad ao) bf).symm
 refine ⟨.iface 46 (pt dc 0), Yy Z Z, Or.inr ⟨dc, ⟨by rw [dn]; decide, Z⟩, fp, ?_⟩, (low0 cj bj.grw)⟩
 rw [dn]; exact bj.blk
 have dh := Jm bf
 have di := Jn bf
 refine Xv (Xr (Xs (X2 (fun f' w' => (f' 4 = .nilIface ∧ f' 103 = vb (sees (tabT ms) q.run (rAt (mAt ms (q.run - 1).toNat).t.slots (q.a).toNat).th && (!live (tabT ms) (rAt (mAt ms (q.run - 1).toNat).t.slots (q.a).toNat)))) ∧ j7.grownBy w' none) ?_ ?_)))
 refine Xc (v := vb (sees (tabT ms) q.run (rAt (mAt ms (q.run - 1).toNat).t.slots (q.a).toNat).th)) jw Z (Xc (v := vb (sees (tabT ms) q.run (rAt (mAt ms (q.run - 1).toNat).t.slots (q.a).toNat).th)) Z Z ?_)
 rcases X6 (sees (tabT ms) q.run (rAt (mAt ms (q.run - 1).toNat).t.slots (q.a).toNat).th) with bc | bc
 refine Xe Z Z Z bc (Xc (v := .slice a ms.length c) ju Z (Xe Z Z Z bc (Xp (vs := [vi (rAt (mAt ms (q.run - 1).toNat).t.slots (q.a).toNat).th, vi (rAt (mAt ms (q.run - 1).toNat).t.slots (q.a).toNat).ve, vb (rAt (mAt ms (q.run - 1).toNat).t.slots (q.a).toNat).rd, vb (rAt (mAt ms (q.run - 1).toNat).t.slots (q.a).toNat).wr, vb (rAt (mAt ms (q.run - 1).toNat).t.slots (q.a).toNat).wk]) Yv jv Z (((ce.grown0 ap).grown0 ba).rangeL 0 5 Z) Z (Xe Z Z Z bc (Xm Mj (Xf Z (Xf Z Xl)) Z (La (rAt (mAt ms (q.run - 1).toNat).t.slots (q.a).toNat) (by omega) _ ms _ _ (TabAt.low ht cj) hlen (by omega)) ?_)))))
 rintro _ lz ⟨rfl, gk⟩
 exact Xe Z Z Z bc (Yg (b' := !live (tabT ms) (rAt (mAt ms (q.run - 1).toNat).t.slots (q.a).toNat)) Z Z Z (Xo (v := vb (!live (tabT ms) (rAt (mAt ms (q.run - 1).toNat).t.slots (q.a).toNat))) Z bc Z Z (Xb ⟨⟨fz, (congrArg Value.bool (by first | (simp only [ae, ab, V, ad, ai, aj, al, ao, a8, a9, bf, dh, di, bc, G, J, E, b0, b1, b2, b3, b4, b5, b6, b7, b8, b9]; done) | simp [ae, ab, V, ad, ai, aj, al, ao, a8, a9, bf, dh, di, bc, G, J, E]))⟩, gk⟩)))
 iterate 4 refine Xi rfl rfl rfl bc rfl ?_
 exact Xj (v := vb false) Z bc Z Z (Xb ⟨⟨fz, (congrArg Value.bool (by first | (simp only [ae, ab, V, ad, ai, aj, al, ao, a8, a9, bf, dh, di, bc, G, J, E, b0, b1, b2, b3, b4, b5, b6, b7, b8, b9]; done) | simp [ae, ab, V, ad, ai, aj, al, ao, a8, a9, bf, dh, di, bc, G, J, E]))⟩, (World.grownBy.refl _ _)⟩)
 rintro ko l0 ⟨⟨kk, jy⟩, bv⟩
 have cy := low0 cj bv
 refine Xu jy (fun ct => ?_) (fun ct => ?_)
 have ku := Np ct
 have j1 := Nq ct
 have kv := Q8 j1
 refine Xa (Yk (ps := [(0, vi (-3))]) (v := .agg #[vi (-3)]) (Xk Z Xz) (by kernel_rfl) Z (Yr (v := .agg #[vi (-3)]) (cs := #[vi (-3)]) Z Z Z ?_))
 intro de l3 bk
 have fq := X9 bk cy
 have ek := Xn bk ((((cv.grown0 ap).grown0 ba).grown0 bv)).lt
 have ex := Xn bk (((((((((bb.grown0 am.grw).gn ag.grw).grown0 an).gn ac.grw).grown0 ah).grown0 ap).grown0 ba).grown0 bv)).lt
 have fc := Xn bk (((((((ag.blk.grown0 an).gn ac.grw).grown0 ah).grown0 ap).grown0 ba).grown0 bv)).lt
 have fg := Xn bk ((((ce.grown0 ap).grown0 ba).grown0 bv)).lt
 refine Jv (v := pt de 0) (by kernel_rfl) Z Z (Xg (v := .iface 46 (pt de 0)) Z Z (Xb (Xq (Ye ?_))))
 have dp : chkAll (tabT ms) q = -3 := (Q5 ab).trans (Nu V (L4 ad ao) bf ct).symm
 refine ⟨.iface 46 (pt de 0), Yy Z Z, Or.inr ⟨de, ⟨by rw [dp]; decide, Z⟩, fq, ?_⟩, (low0 cy bk.grw)⟩
 rw [dp]; exact bk.blk
 refine Xv (Xr (Xa (Xg (v := .nilIface) Z Z (Xb (Xq ?_)))))
 have fi : chkAll (tabT ms) q = 0 := (Q5 ab).trans (Ns V (L4 ad ao) bf ct).symm
 exact ⟨.nilIface, Yy Z Z, Or.inl ⟨fi, Z⟩, cy⟩
theorem Hq (q : Cl) (w : World) (ms : List MTh) (a : Option Addr) (c : Nat) (ht : TabAt w a ms) (hlen : TabLen ms) (hn : ms.length ≤ 1048576) (hE : ErrT w) (hck : chkAll (tabT ms) q = 0) : CallsR Tryd.prog 6 #[.slice a ms.length c, .agg #[vi q.kind, vi q.run, vi q.a, vi q.b, vi q.n]] w (fun v w' => v = vi (chkAll (tabT ms) q) ∧ w.grownBy w' none) := by
 refine X0 (n := 15) Tryd.func6 Z Tryd.ntmps6 Z ?_
 have ae := World.grownBy.refl w none
 refine Xa (Yr (v := .agg #[vi q.kind, vi q.run, vi q.a, vi q.b, vi q.n]) (cs := #[vi q.kind, vi q.run, vi q.a, vi q.b, vi q.n]) Z Z Z ?_)
 intro ah ai E
 have af := X9 E ae
 have J := low0 ae E.grw
 refine Xg (v := vi 0) Z Z (Xb (Xa (Yd (cs := #[.pointer none]) Tl Z Z ?_)))
 intro ad aj G
 have ag := X9 G J
 have V := Xn G (E.blk).lt
 have O := low0 J G.grw
 refine Xb (Xs (Xa (Xc (v := .slice a ms.length c) Z Z (Xp (vs := [vi q.kind, vi q.run, vi q.a, vi q.b, vi q.n]) Yp Z Z ((E.blk.grown0 G.grw).rangeL 0 5 Z) Z (Xm S5 (Xf Z (Xf Z Xl)) Z (Ga q _ ms _ _ (TabAt.low ht O) hlen (by omega)) ?_)))))
 rintro _ ak ⟨ac, ab⟩
 obtain ⟨_, rfl⟩ := ac.resolve_right (fun ⟨_, h, _⟩ => h.1 hck)
 refine Jv (v := pt ad 0) (by kernel_rfl) Z Z (Xm S4 (Xf Z (Xf Z Xl)) Z (P6 _ _) ?_)
 rintro _ _ ⟨rfl, rfl⟩
 refine Xb (Qm Z Z (Xv (Xr (Xa (Xg (v := vi 0) Z Z (Xb (Xq (⟨vi 0, Yy Z Z, ?_, (low0 O ab)⟩))))))))
 rw [hck]
theorem Hr (q : Cl) (w : World) (ms : List MTh) (a : Option Addr) (c : Nat) (ht : TabAt w a ms) (hlen : TabLen ms) (hn : ms.length ≤ 1048576) (hE : ErrT w) (hck : ¬ chkAll (tabT ms) q = 0) : CallsR Tryd.prog 6 #[.slice a ms.length c, .agg #[vi q.kind, vi q.run, vi q.a, vi q.b, vi q.n]] w (fun v w' => v = vi (chkAll (tabT ms) q) ∧ w.grownBy w' none) := by
 refine X0 (n := 15) Tryd.func6 Z Tryd.ntmps6 Z ?_
 have al := World.grownBy.refl w none
 refine Xa (Yr (v := .agg #[vi q.kind, vi q.run, vi q.a, vi q.b, vi q.n]) (cs := #[vi q.kind, vi q.run, vi q.a, vi q.b, vi q.n]) Z Z Z ?_)
 intro ar au G
 have ao := X9 G al
 have V := low0 al G.grw
 refine Xg (v := vi 0) Z Z (Xb (Xa (Yd (cs := #[.pointer none]) Tl Z Z ?_)))
 intro ah av E
 have ap := X9 E V
 have ae := Xn E (G.blk).lt
 have O := low0 V E.grw
 refine Xb (Xs (Xa (Xc (v := .slice a ms.length c) Z Z ?_)))
 have aj := (G.blk.grown0 E.grw)
 refine Xp (vs := [vi q.kind, vi q.run, vi q.a, vi q.b, vi q.n]) Yp Z Z (aj.rangeL 0 5 Z) Z (Xm S5 (Xf Z (Xf Z Xl)) Z (Ga q _ ms _ _ (TabAt.low ht O) hlen (by omega)) ?_)
 rintro _ aw ⟨ak, ac⟩
 obtain ⟨ai, ⟨_, rfl⟩, J, am⟩ := ak.resolve_left (fun h => hck h.1)
 have ab := low0 O ac
 have aq := nt O.size J
 have af := nl (aj).lt J
 have ag := nl (E.blk).lt J
 refine Jv (v := pt ah 0) (by kernel_rfl) Z Z (Xm S4 (Xf Z (Xf Z Xl)) Z (P4 ai ah _ _ (ErrT.grown0 hE ab) (E.blk.grown0 ac)) ?_)
 rintro _ az ⟨rfl, an, ad⟩
 refine Xb (Y3 Z Z (Xa (Xh (v := pt ai 0) M4 Z (an.cell Z) Z (Ql Z Z (Xd (o' := 0) Sb Z Z Z (Xh (v := vi (chkAll (tabT ms) q)) X3 Z ((am.gn ad).cell Z) Z (Xg (v := vi (chkAll (tabT ms) q)) Z Z (Xb (Xq (Ye (⟨vi (chkAll (tabT ms) q), Yy Z Z, ?_, (low1 ab ad (by omega))⟩)))))))))))
 rfl
theorem J2 (q : Cl) (w : World) (ms : List MTh) (a : Option Addr) (c : Nat) (ht : TabAt w a ms) (hlen : TabLen ms) (hn : ms.length ≤ 1048576) (hE : ErrT w) : CallsR Tryd.prog 6 #[.slice a ms.length c, .agg #[vi q.kind, vi q.run, vi q.a, vi q.b, vi q.n]] w (fun v w' => v = vi (chkAll (tabT ms) q) ∧ w.grownBy w' none) := by
 by_cases hck : chkAll (tabT ms) q = 0
 exact Hq q w ms a c ht hlen hn hE hck
 exact Hr q w ms a c ht hlen hn hE hck
end Go.Proofs.YtjpgffmkcmcolabDoor
end
section
namespace Go.Dw
open Go.ChangeShapes Go.WideShapes Go.ChangeAt Go.RowKit Go.Deep
section
variable {H : Type} {enc : TypeId × Value → H} {P : Program} {w : World} {base : Nat} {spare : Nat → Bool} {held : Bool} {fuel : Nat} {cs : List Value} {x : DataW H × List MemPlace}
theorem Ng {α : Type} {g : α → List Value} {ok : α → Prop} {t e : TypeId} {sz : Nat} (ht : P.underlying t = some (.slice e)) (hc : P.cellsOf e = sz) (hz : 0 < sz) (hg : Wide g sz) (hrd : ∀ n cs x, DataW.trod enc P w base spare held n e cs = some x → ∃ a, cs = g a ∧ ok a)
    (h : DataW.trod enc P w base spare held fuel t cs = some x) :
    ∃ (a : Option Addr) (xs : List α) (c : Nat), cs = [.slice a xs.length c] ∧ xs.length ≤ c ∧ c ≤ maxLen ∧ SlAt w a sz (xs.map g) ∧ (∀ y ∈ xs, ok y) ∧ (a = none → c = 0) := by
  rcases open_slice ht h with ⟨rfl, _⟩ | ⟨a, len, cap, m, n, D, Pl, rfl, _, hl, hm, hmm, _, hi⟩
  · exact ⟨none, [], 0, rfl, Nat.le_refl _, Nat.zero_le _, fun k x hk => by simp at hk, fun y hy => by simp at hy, fun _ => rfl⟩
  · have hlm : len ≤ m := by
      rw [hmm]; split <;> omega
    have hex : ∀ i : Fin len, ∃ y : α, ok y ∧ ∀ j, j < sz → w.cell? (a.add (i.val * sz + j)) = (g y)[j]? := fun i => by
      obtain ⟨cs', hcs, htr⟩ := hi i.val (by omega)
      obtain ⟨y, rfl, hy⟩ := hrd _ _ _ htr
      rw [hc] at hcs
      obtain ⟨_, _, hat⟩ := World.cells?_some hcs
      refine ⟨y, hy, fun j hj => ?_⟩
      rw [← hat j hj, add_add]
    refine ⟨some a, List.ofFn fun i : Fin len => Classical.choose (hex i), cap, by simp, by simpa using hl, hm, fun k x hk => ?_, fun y hy => ?_, fun hn => by cases hn⟩
    · rw [List.getElem?_map] at hk
      cases hy : (List.ofFn fun i : Fin len => Classical.choose (hex i))[k]? with
      | none => rw [hy] at hk; simp at hk
      | some y =>
        rw [hy] at hk
        obtain rfl : g y = x := by simpa using hk
        have hkl : k < len := by
          have := (List.getElem?_eq_some_iff.1 hy).1
          simpa using this
        have hye : Classical.choose (hex ⟨k, hkl⟩) = y := by
          rw [List.getElem?_ofFn] at hy
          simpa [hkl] using hy
        have hat := (Classical.choose_spec (hex ⟨k, hkl⟩)).2
        rw [hye] at hat
        obtain ⟨b, o, spot⟩ := a
        have hspot : spot = none := by
          obtain ⟨y0, _, hy0⟩ := hex ⟨0, by omega⟩
          have h0 := hy0 0 hz
          obtain ⟨v, hv⟩ : ∃ v, (g y0)[0]? = some v := ⟨_, List.getElem?_eq_getElem (by rw [hg]; exact hz)⟩
          rw [hv] at h0
          have := World.cell?_spot h0
          simpa [Addr.add] using this
        subst hspot
        refine ⟨b, o, rfl, fun j v hj => ?_⟩
        have hjl : j < sz := by rw [← hg y]; exact (List.getElem?_eq_some_iff.1 hj).1
        rw [← hj, ← hat j hjl]
        simp only [Addr.add]
        split
        · rename_i he
          rw [show o + k * sz + j = o by omega]
        · rw [show o + (k * sz + j) = o + k * sz + j by omega]
    · obtain ⟨i, rfl⟩ := List.mem_ofFn.1 hy
      exact (Classical.choose_spec (hex i)).1
theorem U0 {α : Type} {g : α → List Value} {ok : α → Prop} {r : Reach} {b0 : Nat} {t e sz : Nat} {v : Value} {d : DataW H} {p : List MemPlace} (hs : P.underlying t = some (.slice e)) (hc : P.cellsOf e = sz) (hz : 0 < sz) (hg : Wide g sz)
    (hrd : ∀ n cs x, DataW.trod enc P w base spare held n e cs = some x → ∃ a, cs = g a ∧ ok a) (hv : Value.okWide P w r b0 t v) (h : DataW.Trod enc P w base spare held t v d p) :
    ∃ (a : Option Addr) (xs : List α) (c : Nat), v = .slice a xs.length c ∧ xs.length ≤ 9223372036854775807 ∧ xs.length ≤ c ∧ SlAt w a sz (xs.map g) ∧ ∀ y ∈ xs, ok y := by
  obtain ⟨a, len, cap, rfl⟩ := okWide_slice hs hv
  obtain ⟨fuel, hf⟩ := h
  obtain ⟨a', xs, c, h1, h2, h3, h4, h5, h7⟩ := Ng hs hc hz hg hrd hf
  have h6 : Value.slice a len cap = .slice a' xs.length c := by simpa [Value.cells] using h1
  refine ⟨a', xs, c, h6, ?_, h2, h4, h5⟩
  have : maxLen = 9223372036854775807 := by decide
  omega
theorem Hb {t : TypeId} (ht : P.underlying t = some (.int .u8)) (h : DataW.trod enc P w base spare held fuel t cs = some x) : ∃ n : Int, cs = bcell n ∧ (0 ≤ n ∧ n ≤ 255) := by
  obtain ⟨n, hn, _, hw⟩ := DataW.trod_int ht h
  refine ⟨n, hn, ?_⟩
  have h2 := Bool.and_eq_true_iff.1 hw
  have h3 := of_decide_eq_true h2.1
  have h4 := of_decide_eq_true h2.2
  exact ⟨h3, h4⟩
theorem V3 (hl : laidOutB P = true) {W W' : World} (hb : Below W.heap.size W W') : ∀ (ts : List TypeId) (vs : List Value) (ds : List (DataW H)) (ps : List MemPlace), ts.all (fun t => P.readableRec t && decide (t < P.types.size)) = true →
    DataW.TrodAll enc P W 0 (fun _ => true) true ts vs ds ps → (∀ y ∈ ps, y.block < W.heap.size) → DataW.TrodAll enc P W' 0 (fun b => decide (b < W.heap.size)) true ts vs ds ps
  | [], _, _, _, _, h, _ => by
    obtain ⟨rfl, rfl, rfl⟩ := trodAll_nil h
    exact rfl
  | t :: ts, _, _, _, ht, h, hlt => by
    obtain ⟨v, vs, d, ds, p, q, rfl, rfl, rfl, h1, h2⟩ := trodAll_cons h
    simp only [List.all_cons, Bool.and_eq_true, decide_eq_true_eq] at ht
    exact ⟨p, q, Below.trod hl ht.1.1 ht.1.2 h1 hb fun y hy => hlt y (List.mem_append_left _ hy), V3 hl hb ts vs ds q ht.2 h2 fun y hy => hlt y (List.mem_append_right _ hy), rfl⟩
theorem Gf {f : Func} {s : ChangeSpec} {apart handsOn : Bool} {W W' : World} {args : Array Value} {ds gs : List (DataW H)} {before pa : List MemPlace} {tb : TypeId} (hl : laidOutB P = true)
    (hr : f.params.toList.all (fun t => P.readableRec t && decide (t < P.types.size)) = true) (hW : DataW.Whole enc P f.params.toList s.vars apart W args.toList ds gs before)
    (hA : DataW.TrodAll enc P W 0 (fun _ => true) true f.params.toList args.toList ds pa) (hlt : ∀ y ∈ pa, y.block < W.heap.size) (hs : s.fn H (ds ++ gs) = { results := [.lit (.bool true)], args := ds }) (hv : s.vars = [])
    (hres : f.resultTypes = #[tb]) (htb : P.underlying tb = some .bool) (hb : Below W.heap.size W W') : s.post enc P f apart true handsOn false W args (.bool true) W' := by
  refine ⟨ds, gs, before, [], pa, [], hW, ?_, ?_, ?_, hb.frame _, fun h => by cases h⟩
  · rw [hs, hres]
    exact trodAll_mk1 (shut_bool htb _)
  · rw [hs]
    exact V3 hl hb _ _ _ _ hr hA hlt
  · rw [hs, hv]
    rfl
end
end Go.Dw
end
section
namespace Go.Proofs.YtjpgffmkcmcolabDoor
open Go.ChangeShapes Go.WideShapes Go.RowKit
def laidE : List (String × DataW Unit) := [("errors.errorType", Rows.laid_errors_errorType)]
theorem T4 : Tryd.prog.globalNamed "errors.errorType" = some 0 := by kernel_rfl
theorem T5 : (Tryd.prog.cutTypes.find? (·.1 == "internal/reflectlite.rtype")).map (·.2) = some 100 := by kernel_rfl
theorem Tp : ((List.range 155).filter fun t => Tryd.prog.rowNamed t [101, 114, 114, 111, 114]) = [49] := by kernel_rfl
theorem R8 : Tryd.prog.types.size = 155 := by kernel_rfl
theorem V9 {W : World} (h : laidMetH Tryd.prog laidE W) : ErrT W := by
  have h' : laidMet Tryd.prog [] W ∧ handlesMet Tryd.prog laidE W := h
  obtain ⟨name, u, ty, e1, e2, e3, e4, e5⟩ := h'.2 _ (List.mem_singleton.2 rfl)
  have en : name = [101, 114, 114, 111, 114] := (Option.some.inj e1).symm
  subst en
  obtain rfl := Option.some.inj (T5.symm.trans e2)
  have hm : ty ∈ (List.range 155).filter fun t => Tryd.prog.rowNamed t [101, 114, 114, 111, 114] := List.mem_filter.2 ⟨List.mem_range.2 (by rw [← R8]; exact e3), e4⟩
  rw [Tp] at hm
  obtain rfl := List.mem_singleton.1 hm
  have hh : typeHandle Tryd.prog 49 = .pointer (some ⟨1, 49, none⟩) := by kernel_rfl
  rw [hh] at e5
  simpa [ErrT] using World.var?_cell T4 e5 0
noncomputable def laidWorld (os : Os) : World :=
  let w0 := World.holding Tryd.prog os ⟨#[], #[], []⟩
  { w0 with heap := w0.heap.modify 0 fun
      | .cells _ t frozen => .cells #[.iface 100 (.agg #[.pointer (some ⟨1, 49, none⟩)])] t frozen
      | o => o }
theorem V2 (os : Os) (args : Array Value) : laidMetH Tryd.prog laidE ((laidWorld os).forCall (fun _ _ => 0) ⟨#[], args, []⟩).memory :=
  laidMetH_of_parts (laidMet_nil _ _) (by kernel_rfl)
end Go.Proofs.YtjpgffmkcmcolabDoor
end
