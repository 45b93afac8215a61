/- Laws and walks: my templates, and what a program of mine (gen.py) printed out of the functions; only what the row reaches. -/
import Derived.Test.YtlhhijnmacogcaaGreatDoorT35
section
namespace Go.Dw
set_option linter.unusedVariables false
set_option linter.unusedSimpArgs false
section
variable {ts : List Th} {q : Cl}
theorem S5 (hp : callPoss ts q = true) : thAt (doCall ts q).1 q.run = { thAt (doPre ts q) q.run with num := doAns ts q } := by
  rw [Kn]
  unfold setNum
  rw [Jf (To hp) q.run (To hp).1, if_pos rfl]
theorem Sf (hp : callPoss ts q = true) : callPoss (doCall ts q).1 q = true := by
  obtain ⟨hT, hc, hr⟩ := Yd hp
  have h := Wc hp
  have hr := Qq hr
  unfold callPoss
  rw [h.1, hc, M3 (by rw [h.2.1]; exact hr.1) ((h.2.2 _ hr.1.1).trans hr.2)]
  rfl
def Kept (n : Int) (a b : Th) : Prop := (a.kind = 1 → b.num = a.num ∨ b.num = 0 ∨ b.num = n ∨ b.num = n % 2) ∧ ∀ v ∈ b.queue, v = n ∨ v ∈ a.queue
theorem Kept.refl (n : Int) (a : Th) : Kept n a a := ⟨fun _ => Or.inl rfl, fun _ h => Or.inr h⟩
section
variable {ms xs : List MTh}
theorem Wo (hp : callPoss (tabT ms) q = true) : (callDo (tabT ms) q).2 = doAns (tabT ms) q := by rw [Jb hp, Rz]
theorem Kr (ht : tabT xs = (callDo (tabT ms) q).1) (hp : callPoss (tabT ms) q = true) : (mAt xs (q.run - 1).toNat).t.slots.length = 4 := by
  have h := Sf hp
  have h2 := (Yd h)
  rw [← Jb hp, ← ht] at h2
  exact Qt h2.1 h2.2.2
end
end
end Go.Dw
end
section
namespace Go.Dw
set_option linter.unusedVariables false
set_option linter.unusedSimpArgs false
def RowsA (w : World) (l : List MTh) : Prop := ∀ m ∈ l, ThAt w m
theorem RowsA.set {w : World} {l : List MTh} {i : Nat} {m : MTh} (h : RowsA w l) (hi : i < l.length) (e : m.sa = (mAt l i).sa ∧ m.sc = (mAt l i).sc ∧ m.qa = (mAt l i).qa ∧ m.qc = (mAt l i).qc ∧ m.t.slots = (mAt l i).t.slots ∧ m.t.queue = (mAt l i).t.queue) : RowsA w (l.set i m) := fun x hx => by
  rcases List.mem_or_eq_of_mem_set hx with h1 | rfl
  · exact h x h1
  · have := h _ (List.mem_of_getElem? (Jw hi))
    unfold ThAt at this ⊢
    rw [e.1, e.2.1, e.2.2.1, e.2.2.2.1, e.2.2.2.2.1, e.2.2.2.2.2]
    exact this
section
variable {ms xs : List MTh} {q : Cl}
end
end Go.Dw
end
section
namespace Go.Dw
set_option linter.unusedVariables false
set_option linter.unusedSimpArgs false
section
variable {ts us : List Th} {q p : Cl}
theorem Kk {k run a b n : Int} (h : (1 ≤ k ∧ k ≤ 9) ∧ (1 ≤ run ∧ run ≤ 8) ∧ (0 ≤ a ∧ a ≤ 3) ∧ (0 ≤ b ∧ b ≤ 3) ∧ 0 ≤ n ∧ n ≤ 99) : callOk ⟨k, run, a, b, n⟩ = true := by
  unfold callOk
  simp only [Bool.and_eq_true]
  exact ⟨⟨⟨⟨Qh.2 h.1, Qh.2 h.2.1⟩, Qh.2 h.2.2.1⟩, Qh.2 h.2.2.2.1⟩, Qh.2 h.2.2.2.2⟩
theorem Vo (hp : callPoss ts q = true) (hc : callOk p = true) (hr : p.run = q.run) : callPoss ts p = true := by
  obtain ⟨hT, _, hk⟩ := Yd hp
  unfold callPoss
  rw [hT, hc, hr, hk]
  rfl
theorem E3 (hp : callPoss ts q = true) (h3 : q.kind = 3) : doAns ts q = 0 ∧ slotAt (doCall ts q).1 q.run q.b = lessBits (slotAt ts q.run q.a) q.n := by
  have h := Rp (ts := ts) (q := q) rfl h3
  obtain ⟨hT, hc, hr⟩ := Yd hp
  have hco := Yw hc
  have hr := Qq hr
  have h4 := Uv (Vk hT hr.1).1 (Or.inr hr.2)
  refine ⟨h.1, ?_⟩
  unfold slotAt
  rw [S5 hp, h.2]
  show rAt (thAt (setTh ts _ _) q.run).slots q.b.toNat = _
  rw [Jf hr.1 _ hr.1.1, if_pos rfl]
  show rAt ((thAt ts q.run).slots.set q.b.toNat _) q.b.toNat = _
  unfold rAt
  rw [List.getD_eq_getElem?_getD, List.getElem?_set, if_pos rfl, if_pos (by omega)]
  rfl
theorem O4 {r : Rt} : lessBits r 7 = r := by
  unfold lessBits l2Less
  split
  · rfl
  · show (⟨r.th, r.ve, r.rd && true, (r.wr && true) && true, r.wk || !true⟩ : Rt) = r
    simp
theorem O3 {r : Rt} (h : rightOk r = true) : (((!(lessBits r 0).rd) && (!(lessBits r 0).wr)) && ((decide ((lessBits r 0).th = 0)) || (lessBits r 0).wk)) = true := by
  unfold lessBits l2Less
  split
  · rename_i h0
    rw [P1 h (decide_eq_true h0)]
    rfl
  · simp
end
end Go.Dw
end
section
namespace Go.Dw
set_option linter.unusedVariables false
set_option linter.unusedSimpArgs false
section
variable {ts : List Th} {q p : Cl}
end
section
variable {ms xs ys zs us : List MTh} {q p s t : Cl}
theorem Ku (ht : tabT xs = (callDo (tabT ms) q).1) (hp : callPoss (tabT ms) q = true) : tabT xs = (doCall (tabT ms) q).1 := by rw [ht, Jb hp]
theorem Cq (ht : tabT xs = (callDo (tabT ms) q).1) (hp : callPoss (tabT ms) q = true) (h3 : q.kind = 3) : (callDo (tabT ms) q).2 = 0 ∧ rAt (mAt xs (q.run - 1).toNat).t.slots q.b.toNat = lessBits (rAt (mAt ms (q.run - 1).toNat).t.slots q.a.toNat) q.n ∧ rightOk (rAt (mAt ms (q.run - 1).toNat).t.slots q.a.toNat) = true := by
  have h := E3 hp h3
  obtain ⟨hT, _, hr⟩ := Yd hp
  rw [Wo hp, Qy, Qy, Ku ht hp]
  exact ⟨h.1, h.2, (Vb hT (Qq hr).1 q.a).1⟩
end
end Go.Dw
end
section
namespace Go.Proofs.YtlhhijnmacogcaaGreatDoor
open Go.RowKit Go.Dw
set_option maxRecDepth 100000
set_option maxHeartbeats 4000000
set_option linter.unusedSimpArgs false
set_option linter.unusedVariables false
theorem Ug : goFn Tryz.prog 15 = true := by kernel_rfl
theorem Uh : goFn Tryz.prog 16 = true := by kernel_rfl
theorem Ks : goFn Tryz.prog 17 = true := by kernel_rfl
theorem K6 : goFn Tryz.prog 18 = true := by kernel_rfl
theorem Ui : goFn Tryz.prog 19 = true := by kernel_rfl
theorem law_FnCopySame (bs : List Int) (a : Option Addr) (c : Nat) (w : World) (gv : SlAt w a 1 (bs.map bcell)) (hb : ∀ b ∈ bs, 0 ≤ b ∧ b ≤ 255) (hn : bs.length ≤ 9223372036854775807) (hc : bs.length ≤ c) (m : Nat) (a2 : Option Addr) (c2 : Nat) (hm : m ≤ 9223372036854775807) (hE : ErrT w) : CallsR Tryz.prog 6 #[.slice a bs.length c, .slice a2 m c2] w (fun v w' => v = .bool true ∧ w.grownBy w' none) := by
 refine Xw (n := 144) Tryz.func6 Z Tryz.ntmps6 Z ?_
 have ej := World.grownBy.refl w none
 have hs := SlAt.lt Kh (by omega) gv
 refine Xa (Xf (v := vb false) Z Z (Xc (Xs (X8 (fun f' w' => (f' 0 = .slice a bs.length c ∧ f' 1 = .slice a2 m c2 ∧ f' 4 = vb false ∧ f' 25 = vb ((decide (1048576 < (bs.length : Int))) || (decide (1048576 < (m : Int))))) ∧ w = w') ?_ ?_))))
 refine Xb (v := .slice a bs.length c) Z Z (Yr (by kernel_rfl) Z Z (Qw (q := decide (1048576 < (bs.length : Int))) Z Z Z Z (Xb (v := vb (decide (1048576 < (bs.length : Int)))) Z Z ?_)))
 rcases Yb (decide (1048576 < (bs.length : Int))) with ai | ai
 have jh := of_decide_eq_true ai
 iterate 3 refine Xi rfl rfl rfl ai rfl ?_
 exact Xo (v := vb true) Z ai Z Z (Xc ⟨⟨Z, Z, Z, (congrArg Value.bool (by first | (simp only [ai, b0, b1, b2, b3, b4, b5, b6, b7, b8, b9]; done) | simp [ai]))⟩, Z⟩)
 have ji := of_decide_eq_false ai
 exact Xe Z Z Z ai (Xb (v := .slice a2 m c2) Z Z (Xe Z Z Z ai (Yr (by kernel_rfl) Z Z (Xe Z Z Z ai (Qw (q := decide (1048576 < (m : Int))) Z Z Z Z (Xn (v := vb (decide (1048576 < (m : Int)))) Z ai Z Z (Xc ⟨⟨Z, Z, Z, (congrArg Value.bool (by first | (simp only [ai, b0, b1, b2, b3, b4, b5, b6, b7, b8, b9]; done) | simp [ai]))⟩, Z⟩)))))))
 rintro jf jz ⟨⟨gj, gk, je, gl⟩, rfl⟩
 refine X2 gl (fun bi => ?_) (fun bi => ?_)
 refine Xa (Xf (v := vb true) Z Z (Xc (Xt (Yo (⟨vb true, Yx Z Z, ?_, ej⟩)))))
 rfl
 have cc := J3 bi
 have jj := of_decide_eq_false cc
 have cd := J4 bi
 have jk := of_decide_eq_false cd
 refine Xy (Xv (Xa (Xb (v := .slice a bs.length c) gj Z (Xm Ug (Xg Z Xl) Z (Kp bs a c _ (SlAt.low gv ej) hb (by omega) (by omega)) ?_))))
 rintro _ j1 ⟨a9, ae, G, E, rfl, bg, d1, ia, i9, fa⟩
 have dc := low0 ej fa
 have aq := d1.len
 refine Xb (v := .tuple #[.slice (pa a9) G.length ae, .agg #[vi E.kind, vi E.run, vi E.a, vi E.b, vi E.n]]) Z Z (X1 (v := .slice (pa a9) G.length ae) Z Z Z (X1 (v := .agg #[vi E.kind, vi E.run, vi E.a, vi E.b, vi E.n]) Z Z Z (Yf (cs := #[vi 0, vi 0, vi 0, vi 0, vi 0]) Wa Z Z ?_)))
 intro d2 j2 af
 have ie := Yi af dc
 refine Xf (v := .slice (pa a9) G.length ae) Z Z (Xx (vs := [vi E.kind, vi E.run, vi E.a, vi E.b, vi E.n]) (cs' := #[vi E.kind, vi E.run, vi E.a, vi E.b, vi E.n]) Y1 Z Z Z (by simp [Value.oneCell']) af.blk (Nat.le_of_ble_eq_true Z) Z ?_)
 intro j3 ao
 refine Xc (Xa (Xb (v := .slice (pa a9) G.length ae) Z Z (Xq (vs := [vi E.kind, vi E.run, vi E.a, vi E.b, vi E.n]) Y1 Z Z (ao.blk.rangeL 0 5 Z) Z ?_)))
 have io := (ao.blk).lt
 refine Xm Uh (Xg Z (Xg Z Xl)) Z (Vr E _ G _ _ (TabG.at (TabG.low bg (low1 af.grw ao.grw (nt ((World.grownBy.refl _ none)).size (Nat.le_of_eq af.eq.symm))))) aq (by omega)) ?_
 rintro _ j4 ⟨ca, ba, az, rfl, dz, bp, bl⟩
 have de := low0 (low1 (low0 dc af.grw) ao.grw (by omega)) bl
 have cv := Qn bp
 have ix := Y8 bp
 refine Xb (v := .tuple #[.slice (pa ca) az.length ba, vi (callDo (tabT G) E).2]) Z Z (X1 (v := .slice (pa ca) az.length ba) Z Z Z (X1 (v := vi (callDo (tabT G) E).2) Z Z Z (Xf (v := .slice (pa ca) az.length ba) Z Z (Xf (v := vi (callDo (tabT G) E).2) Z Z (Xc (Xa (Xb (v := .slice (pa a9) G.length ae) Z Z ?_)))))))
 have dl := (ao.blk.grown0 bl)
 refine Xq (vs := [vi E.kind, vi E.run, vi E.a, vi E.b, vi E.n]) Y1 Z Z (dl.rangeL 0 5 Z) Z ?_
 have ip := (dl).lt
 refine Xm Ks (Xg Z (Xg Z Xl)) Z (Jq E _ G _ _ (TabG.at (TabG.low bg (low0 (low1 af.grw ao.grw (nt ((World.grownBy.refl _ none)).size (Nat.le_of_eq af.eq.symm))) bl))) aq (by omega) (ErrT.grown0 hE de)) ?_
 rintro _ j5 ⟨cf, bb, a8, rfl, bv, be, bm⟩
 have cw := Qn be
 have iy := Y8 be
 refine Xb (v := .tuple #[.slice cf a8.length bb, vi (callDo (tabT G) E).2]) Z Z (X1 (v := .slice cf a8.length bb) Z Z Z (X1 (v := vi (callDo (tabT G) E).2) Z Z Z (Xf (v := .slice cf a8.length bb) Z Z (Xf (v := vi (callDo (tabT G) E).2) Z Z (Xc (Xs (Xa (Xb (v := vi (callDo (tabT G) E).2) Z Z (Xb (v := vi (callDo (tabT G) E).2) Z Z (Qj (q := false) Z Z (by simp) Z (Xb (v := vb false) Z Z (Xe Z Z Z Z ?_))))))))))))
 refine Xb (v := .slice cf a8.length bb) Z Z (Xe Z Z Z Z (Xb (v := .slice (pa ca) az.length ba) Z Z (Xe Z Z Z Z ?_)))
 have bw := (TabG.low dz bm)
 refine Xm K6 (Xg Z (Xg Z Xl)) Z (Js _ a8 az _ _ _ _ (TabG.at bv) (TabG.at bw) cw cv (by omega) (by omega)) ?_
 rintro _ j6 ⟨rfl, ap⟩
 refine Xe Z Z Z Z (Yj (b' := false) (congrArg Value.bool (decide_eq_true (be.trans bp.symm))) Z Z (Xn (v := vb false) Z Z Z Z (Xb (v := vb false) Z Z (Xe Z Z Z Z (Xb (v := .slice (pa a9) G.length ae) Z Z (Xe Z Z Z Z ?_))))))
 have d8 := ((dl.grown0 bm).grown0 ap)
 refine Xq (vs := [vi E.kind, vi E.run, vi E.a, vi E.b, vi E.n]) Y1 Z Z (d8.rangeL 0 5 Z) Z (Xe Z Z Z Z (Xm Ui (Xg Z (Xg Z Xl)) Z (Ut E _ G _ _ (TabG.at (TabG.low bg (low0 (low0 (low0 (low1 af.grw ao.grw (nt ((World.grownBy.refl _ none)).size (Nat.le_of_eq af.eq.symm))) bl) bm) ap))) aq (by omega)) ?_))
 rintro _ g0 ⟨rfl, av⟩
 have cg := low0 (low0 (low0 de bm) ap) av
 refine Xe Z Z Z Z (Yj (b' := !callPoss (tabT G) E) Z Z Z (Xn (v := vb (!callPoss (tabT G) E)) Z Z Z Z (Xc (X2 Z (fun bj => ?_) (fun bj => ?_)))))
 have jl := Jm bj
 refine Xa (Xb (v := vi (callDo (tabT G) E).2) Z Z (Xb (v := vi (callDo (tabT G) E).2) Z Z (X3 (q := true) Z Z (by simp) Z (Xb (v := vb true) Z Z (Xe Z Z Z Z (Xb (v := .slice cf a8.length bb) Z Z (Xe Z Z Z Z (Xb (v := .slice (pa ca) az.length ba) Z Z (Xe Z Z Z Z (Xm K6 (Xg Z (Xg Z Xl)) Z (Js _ a8 az _ _ _ _ (TabG.at (TabG.low (TabG.low bv ap) av)) (TabG.at (TabG.low (TabG.low bw ap) av)) cw cv (by omega) (by omega)) ?_))))))))))
 rintro _ j7 ⟨rfl, fb⟩
 refine Xo (v := vb true) Z Z (congrArg Value.bool (decide_eq_true (be.trans bp.symm))) Z (Xf (v := vb true) Z Z (Xc (Xt (Yo (⟨vb true, Yx Z Z, ?_, (low0 cg fb)⟩)))))
 rfl
 have am := Qu bj
 obtain ⟨au, bk, ar⟩ := Yd am
 have ib := Yw bk
 have ic := (Y5 ar).1
 have i5 := Qt au ar
 have iv := Jk au
 have hde := Jb am
 have hrk := Qq (Yd am).2.2
 have iz := Qm bp am
 have i0 := Qm be am
 obtain ⟨hi, hhi⟩ : ∃ n, n = g0.heap.size := ⟨_, rfl⟩
 have bh := (TabG.low bg (low0 (low0 (low0 (low0 (low1 af.grw ao.grw (nt ((World.grownBy.refl _ none)).size (Nat.le_of_eq af.eq.symm))) bl) bm) ap) av))
 have d5 := TabG.hi bh
 rw [← hhi] at d5
 have gp := TabG.hi (TabG.low (TabG.low bw ap) av)
 rw [← hhi] at gp
 have gq := TabG.hi (TabG.low (TabG.low bv ap) av)
 rw [← hhi] at gq
 have g7 := Kr be am
 refine Xy (Xv (Xa (Xb (v := .slice a2 m c2) gk Z (Yr (by kernel_rfl) Z Z (Q4 (c := (m : Int) % 4) Z Z (by omega) (by omega) (by omega) Z Z (Xf (v := vi ((m : Int) % 4)) Z Z (Xc (Xa (Xb (v := .slice (pa a9) G.length ae) Z Z (Xd (o' := 1) Y9 Z Z Z ?_))))))))))
 have dm := (d8.grown0 av)
 refine Xh (v := vi E.run) Xz Z (dm.cell Z) Z (Ym (c := E.run - 1) Z Z (by omega) (by omega) (by omega) Z ?_)
 obtain ⟨ja, jr, gw, ea, fm, fw⟩ := SlAt.at (TabG.at bh).1 (Yk (xg G (E.run - 1).toNat))
 have ij := TabLen.at aq (xg G (E.run - 1).toNat)
 refine X0 Y6 Z Z ea fm (by omega) (by omega) Z (Xd (o' := gw + 5) Qi Z Z Z (Xh (v := .slice (mAt G (E.run - 1).toNat).sa (mAt G (E.run - 1).toNat).t.slots.length (mAt G (E.run - 1).toNat).sc) Jd Z (fw 5 _ Z) Z (Xb (v := vi ((m : Int) % 4)) Z Z ?_)))
 obtain ⟨jb, js, jp, eb, fo, fx⟩ := SlAt.at (TabAt.th (TabG.at bh) (xg G (E.run - 1).toNat)).1 (Yk (xr (mAt G (E.run - 1).toNat).t.slots ((m : Int) % 4).toNat))
 have iw := Vg au (lq (E.run - 1).toNat G.length) (show ((m : Int) % 4).toNat < (mAt G (E.run - 1).toNat).t.slots.length by omega)
 refine X0 J9 Z Z eb fo (by omega) (by omega) Z (Xq (vs := [vi (rAt (mAt G (E.run - 1).toNat).t.slots ((m : Int) % 4).toNat).th, vi (rAt (mAt G (E.run - 1).toNat).t.slots ((m : Int) % 4).toNat).ve, vb (rAt (mAt G (E.run - 1).toNat).t.slots ((m : Int) % 4).toNat).rd, vb (rAt (mAt G (E.run - 1).toNat).t.slots ((m : Int) % 4).toNat).wr, vb (rAt (mAt G (E.run - 1).toNat).t.slots ((m : Int) % 4).toNat).wk]) Yz Z Z (Y3 fx 0 5 Z) Z (Yf (cs := #[vi 0, vi 0, vb false, vb false, vb false]) K7 Z Z ?_))
 intro gg j8 an
 have ig := Yi an cg
 have gt : hi ≤ gg := nt (Nat.le_of_eq hhi) (Nat.le_of_eq an.eq.symm)
 have dw := Xr an (dm).lt
 refine Xx (vs := [vi (rAt (mAt G (E.run - 1).toNat).t.slots ((m : Int) % 4).toNat).th, vi (rAt (mAt G (E.run - 1).toNat).t.slots ((m : Int) % 4).toNat).ve, vb (rAt (mAt G (E.run - 1).toNat).t.slots ((m : Int) % 4).toNat).rd, vb (rAt (mAt G (E.run - 1).toNat).t.slots ((m : Int) % 4).toNat).wr, vb (rAt (mAt G (E.run - 1).toNat).t.slots ((m : Int) % 4).toNat).wk]) (cs' := #[vi (rAt (mAt G (E.run - 1).toNat).t.slots ((m : Int) % 4).toNat).th, vi (rAt (mAt G (E.run - 1).toNat).t.slots ((m : Int) % 4).toNat).ve, vb (rAt (mAt G (E.run - 1).toNat).t.slots ((m : Int) % 4).toNat).rd, vb (rAt (mAt G (E.run - 1).toNat).t.slots ((m : Int) % 4).toNat).wr, vb (rAt (mAt G (E.run - 1).toNat).t.slots ((m : Int) % 4).toNat).wk]) Yz Z Z Z (by simp [Value.oneCell']) an.blk (Nat.le_of_ble_eq_true Z) Z ?_
 intro j9 bc
 have df := low1 (low0 cg an.grw) bc.grw (by omega)
 refine Xc (Xa (Xb (v := .slice (pa a9) G.length ae) Z Z (Xd (o' := 1) Y9 Z Z Z ?_)))
 have dn := ((dm.grown0 an.grw).gn bc.grw)
 refine Xh (v := vi E.run) Xz Z (dn.cell Z) Z (Xb (v := vi ((m : Int) % 4)) Z Z (Ys (ps := [(0, vi 3), (1, vi E.run), (2, vi ((m : Int) % 4)), (3, vi 2), (4, vi 7)]) (v := .agg #[vi 3, vi E.run, vi ((m : Int) % 4), vi 2, vi 7]) (Xj Z (Xj Z (Xj Z (Xj Z (Xj Z X5))))) (by kernel_rfl) Z ?_))
 have cn := (TabG.ge (TabG.low bh an.grw) bc.grw d5 (by omega))
 have iq := (dn).lt
 have ir := (bc.blk).lt
 refine Xm Ks (Xg Z (Xg Z Xl)) Z (Jq ⟨3, E.run, (m : Int) % 4, 2, 7⟩ _ G _ _ (TabG.at cn) aq (by omega) (ErrT.grown0 hE df)) ?_
 rintro _ g5 ⟨bt, ak, O, rfl, bx, bq, bn⟩
 have dg := low0 df bn
 obtain ⟨i7, d6⟩ : ∃ n, n = g5.heap.size := ⟨_, rfl⟩
 have db := TabG.hi bx
 rw [← d6] at db
 have cy := Qn bq
 have i1 := Y8 bq
 have ek : callOk ⟨3, E.run, (m : Int) % 4, 2, 7⟩ = true := Kk (by omega)
 have cj : callPoss (tabT G) ⟨3, E.run, (m : Int) % 4, 2, 7⟩ = true := Vo am ek rfl
 have i2 : O.length = G.length := Qm bq cj
 have g8 : (mAt O (E.run - 1).toNat).t.slots.length = 4 := Kr (q := ⟨3, E.run, (m : Int) % 4, 2, 7⟩) bq cj
 obtain ⟨eo, ep, i6⟩ := Cq bq cj rfl
 have ag : (decide ((callDo (tabT G) ⟨3, E.run, (m : Int) % 4, 2, 7⟩).2 = 0)) = true := decide_eq_true eo
 have ad : (decide ((rAt (mAt O (E.run - 1).toNat).t.slots 2) = (rAt (mAt G (E.run - 1).toNat).t.slots ((m : Int) % 4).toNat))) = true := decide_eq_true (ep.trans O4)
 refine Xb (v := .tuple #[.slice bt O.length ak, vi (callDo (tabT G) ⟨3, E.run, (m : Int) % 4, 2, 7⟩).2]) Z Z (X1 (v := .slice bt O.length ak) Z Z Z (X1 (v := vi (callDo (tabT G) ⟨3, E.run, (m : Int) % 4, 2, 7⟩).2) Z Z Z (Xf (v := .slice bt O.length ak) Z Z (Xf (v := vi (callDo (tabT G) ⟨3, E.run, (m : Int) % 4, 2, 7⟩).2) Z Z (Xc (Xa (Xb (v := .slice (pa a9) G.length ae) Z Z (Xd (o' := 1) Y9 Z Z Z ?_))))))))
 have dp := (dn.grown0 bn)
 refine Xh (v := vi E.run) Xz Z (dp.cell Z) Z (Xb (v := vi ((m : Int) % 4)) Z Z (Ys (ps := [(0, vi 3), (1, vi E.run), (2, vi ((m : Int) % 4)), (3, vi 2)]) (v := .agg #[vi 3, vi E.run, vi ((m : Int) % 4), vi 2, vi 0]) (Xj Z (Xj Z (Xj Z (Xj Z X5)))) (by kernel_rfl) Z ?_))
 have it := (dp).lt
 have d9 := (bc.blk.grown0 bn)
 have iu := (d9).lt
 refine Xm Ks (Xg Z (Xg Z Xl)) Z (Jq ⟨3, E.run, (m : Int) % 4, 2, 0⟩ _ G _ _ (TabG.at (TabG.low cn bn)) aq (by omega) (ErrT.grown0 hE dg)) ?_
 rintro _ g6 ⟨c9, bf, J, rfl, bz, br, aw⟩
 have dh := low0 dg aw
 obtain ⟨i8, d7⟩ : ∃ n, n = g6.heap.size := ⟨_, rfl⟩
 have gr := TabG.hi bz
 rw [← d7] at gr
 have d0 := Qn br
 have i3 := Y8 br
 have em : callOk ⟨3, E.run, (m : Int) % 4, 2, 0⟩ = true := Kk (by omega)
 have ck : callPoss (tabT G) ⟨3, E.run, (m : Int) % 4, 2, 0⟩ = true := Vo am em rfl
 have i4 : J.length = G.length := Qm br ck
 have g9 : (mAt J (E.run - 1).toNat).t.slots.length = 4 := Kr (q := ⟨3, E.run, (m : Int) % 4, 2, 0⟩) br ck
 obtain ⟨eu, ew, ez⟩ := Cq br ck rfl
 have V : (decide ((callDo (tabT G) ⟨3, E.run, (m : Int) % 4, 2, 0⟩).2 = 0)) = true := decide_eq_true eu
 have e0 : (rAt (mAt J (E.run - 1).toNat).t.slots 2) = lessBits (rAt (mAt G (E.run - 1).toNat).t.slots ((m : Int) % 4).toNat) 0 := ew
 have bd : (((!(rAt (mAt J (E.run - 1).toNat).t.slots 2).rd) && (!(rAt (mAt J (E.run - 1).toNat).t.slots 2).wr)) && ((decide ((rAt (mAt J (E.run - 1).toNat).t.slots 2).th = 0)) || (rAt (mAt J (E.run - 1).toNat).t.slots 2).wk)) = true := by rw [e0]; exact O3 ez
 have bu := Nr bd
 have ah := Nr bu
 have cl := Jm ah
 have ac := Ns bu
 have cm := Jm ac
 have ce := Ns bd
 refine Xb (v := .tuple #[.slice c9 J.length bf, vi (callDo (tabT G) ⟨3, E.run, (m : Int) % 4, 2, 0⟩).2]) Z Z (X1 (v := .slice c9 J.length bf) Z Z Z (X1 (v := vi (callDo (tabT G) ⟨3, E.run, (m : Int) % 4, 2, 0⟩).2) Z Z Z (Xf (v := .slice c9 J.length bf) Z Z (Xf (v := vi (callDo (tabT G) ⟨3, E.run, (m : Int) % 4, 2, 0⟩).2) Z Z (Xc (Xa (Xb (v := .slice c9 J.length bf) Z Z (Xd (o' := 1) Y9 Z Z Z ?_))))))))
 have cz := (dp.grown0 aw)
 refine Xh (v := vi E.run) Xz Z (cz.cell Z) Z (Ym (c := E.run - 1) Z Z (by omega) (by omega) (by omega) Z ?_)
 obtain ⟨jc, jt, gx, ed, fp, fy⟩ := SlAt.at (TabG.at bz).1 (Yk (xg J (E.run - 1).toNat))
 have ik := TabLen.at d0 (xg J (E.run - 1).toNat)
 refine X0 Y6 Z Z ed fp (by omega) (by omega) Z (Xd (o' := gx + 5) Qi Z Z Z (Xh (v := .slice (mAt J (E.run - 1).toNat).sa (mAt J (E.run - 1).toNat).t.slots.length (mAt J (E.run - 1).toNat).sc) Jd Z (fy 5 _ Z) Z ?_))
 obtain ⟨jd, ju, jq, ee, fq, fz⟩ := SlAt.at (TabAt.th (TabG.at bz) (xg J (E.run - 1).toNat)).1 (Yk (xr (mAt J (E.run - 1).toNat).t.slots 2))
 refine X0 J9 Z Z ee fq (by omega) (by omega) Z (Xq (vs := [vi (rAt (mAt J (E.run - 1).toNat).t.slots 2).th, vi (rAt (mAt J (E.run - 1).toNat).t.slots 2).ve, vb (rAt (mAt J (E.run - 1).toNat).t.slots 2).rd, vb (rAt (mAt J (E.run - 1).toNat).t.slots 2).wr, vb (rAt (mAt J (E.run - 1).toNat).t.slots 2).wk]) Yz Z Z (Y3 fz 0 5 Z) Z (Yf (cs := #[vi 0, vi 0, vb false, vb false, vb false]) K7 Z Z ?_))
 intro da ka ab
 have ii := Yi ab dh
 have gu : hi ≤ da := nt (nt (nt (nt (nt (Nat.le_of_eq hhi) an.grw.size) bc.grw.size) bn.size) aw.size) (Nat.le_of_eq ab.eq.symm)
 have gc : i7 ≤ da := nt (nt (Nat.le_of_eq d6) aw.size) (Nat.le_of_eq ab.eq.symm)
 have gf : i8 ≤ da := nt (Nat.le_of_eq d7) (Nat.le_of_eq ab.eq.symm)
 have dx := Xr ab (cz).lt
 have dq := (d9.grown0 aw)
 have dy := Xr ab (dq).lt
 refine Xx (vs := [vi (rAt (mAt J (E.run - 1).toNat).t.slots 2).th, vi (rAt (mAt J (E.run - 1).toNat).t.slots 2).ve, vb (rAt (mAt J (E.run - 1).toNat).t.slots 2).rd, vb (rAt (mAt J (E.run - 1).toNat).t.slots 2).wr, vb (rAt (mAt J (E.run - 1).toNat).t.slots 2).wk]) (cs' := #[vi (rAt (mAt J (E.run - 1).toNat).t.slots 2).th, vi (rAt (mAt J (E.run - 1).toNat).t.slots 2).ve, vb (rAt (mAt J (E.run - 1).toNat).t.slots 2).rd, vb (rAt (mAt J (E.run - 1).toNat).t.slots 2).wr, vb (rAt (mAt J (E.run - 1).toNat).t.slots 2).wk]) Yz Z Z Z (by simp [Value.oneCell']) ab.blk (Nat.le_of_ble_eq_true Z) Z ?_
 intro dv al
 refine Xc (Ki (fun f' w' => (f' 4 = vb ((((((decide ((callDo (tabT G) ⟨3, E.run, (m : Int) % 4, 2, 7⟩).2 = 0)) && (decide ((callDo (tabT G) ⟨3, E.run, (m : Int) % 4, 2, 0⟩).2 = 0))) && (decide ((rAt (mAt O (E.run - 1).toNat).t.slots 2) = (rAt (mAt G (E.run - 1).toNat).t.slots ((m : Int) % 4).toNat)))) && (!(rAt (mAt J (E.run - 1).toNat).t.slots 2).rd)) && (!(rAt (mAt J (E.run - 1).toNat).t.slots 2).wr)) && ((decide ((rAt (mAt J (E.run - 1).toNat).t.slots 2).th = 0)) || (rAt (mAt J (E.run - 1).toNat).t.slots 2).wk))) ∧ dv.grownBy w' none) ?_ ?_)
 rcases Yb (decide ((rAt (mAt J (E.run - 1).toNat).t.slots 2).th = 0)) with aj | aj
 have jm := of_decide_eq_true aj
 have co := (TabG.ge (TabG.low (TabG.low bx aw) ab.grw) al.grw db (by omega))
 obtain ⟨d3, jv, dt, ef, fr, f8⟩ := SlAt.at (TabG.at co).1 (Yk (xg O (E.run - 1).toNat))
 have il := TabLen.at cy (xg O (E.run - 1).toNat)
 obtain ⟨gh, jw, gy, eg, ft, f9⟩ := SlAt.at (TabAt.th (TabG.at co) (xg O (E.run - 1).toNat)).1 (Yk (xr (mAt O (E.run - 1).toNat).t.slots 2))
 refine Yt (m := 17) (vals := [(106, vi (callDo (tabT G) ⟨3, E.run, (m : Int) % 4, 2, 7⟩).2), (107, vb (decide ((callDo (tabT G) ⟨3, E.run, (m : Int) % 4, 2, 7⟩).2 = 0))), (108, vb (decide ((callDo (tabT G) ⟨3, E.run, (m : Int) % 4, 2, 7⟩).2 = 0))), (109, vi (callDo (tabT G) ⟨3, E.run, (m : Int) % 4, 2, 0⟩).2), (110, vb (decide ((callDo (tabT G) ⟨3, E.run, (m : Int) % 4, 2, 0⟩).2 = 0))), (111, vb (decide ((callDo (tabT G) ⟨3, E.run, (m : Int) % 4, 2, 0⟩).2 = 0))), (112, vb (decide ((callDo (tabT G) ⟨3, E.run, (m : Int) % 4, 2, 0⟩).2 = 0))), (113, .slice bt O.length ak), (114, pt d2 1), (115, vi E.run), (116, vi (E.run - 1)), (117, pt d3 dt), (118, pt d3 (dt + 5)), (119, .slice (mAt O (E.run - 1).toNat).sa (mAt O (E.run - 1).toNat).t.slots.length (mAt O (E.run - 1).toNat).sc), (120, pt gh gy), (121, .agg #[vi (rAt (mAt O (E.run - 1).toNat).t.slots 2).th, vi (rAt (mAt O (E.run - 1).toNat).t.slots 2).ve, vb (rAt (mAt O (E.run - 1).toNat).t.slots 2).rd, vb (rAt (mAt O (E.run - 1).toNat).t.slots 2).wr, vb (rAt (mAt O (E.run - 1).toNat).t.slots 2).wk]), (122, .agg #[vi (rAt (mAt G (E.run - 1).toNat).t.slots ((m : Int) % 4).toNat).th, vi (rAt (mAt G (E.run - 1).toNat).t.slots ((m : Int) % 4).toNat).ve, vb (rAt (mAt G (E.run - 1).toNat).t.slots ((m : Int) % 4).toNat).rd, vb (rAt (mAt G (E.run - 1).toNat).t.slots ((m : Int) % 4).toNat).wr, vb (rAt (mAt G (E.run - 1).toNat).t.slots ((m : Int) % 4).toNat).wk])]) (fun w' => dv.grownBy w' none) Y0 (by kernel_rfl) (X7 _) ?_ ?_
 refine yl Z (fun _ _ k => Xb (v := vi (callDo (tabT G) ⟨3, E.run, (m : Int) % 4, 2, 7⟩).2) Z Z k) (yl Z (fun _ _ k => X3 (q := decide ((callDo (tabT G) ⟨3, E.run, (m : Int) % 4, 2, 7⟩).2 = 0)) Z Z Z Z k) (yl Z (fun _ _ k => Xb (v := vb (decide ((callDo (tabT G) ⟨3, E.run, (m : Int) % 4, 2, 7⟩).2 = 0))) Z Z k) (yl Z (fun _ _ k => Xe Z Z Z ag (Xb (v := vi (callDo (tabT G) ⟨3, E.run, (m : Int) % 4, 2, 0⟩).2) Z Z k)) (yl Z (fun _ _ k => Xe Z Z Z ag (X3 (q := decide ((callDo (tabT G) ⟨3, E.run, (m : Int) % 4, 2, 0⟩).2 = 0)) Z Z Z Z k)) (yl Z (fun _ _ k => Xo (v := vb (decide ((callDo (tabT G) ⟨3, E.run, (m : Int) % 4, 2, 0⟩).2 = 0))) Z ag Z Z k) (yl Z (fun _ _ k => Xb (v := vb (decide ((callDo (tabT G) ⟨3, E.run, (m : Int) % 4, 2, 0⟩).2 = 0))) Z Z k) (yl Z (fun _ _ k => Xe Z Z Z V (Xb (v := .slice bt O.length ak) Z Z k)) (yl Z (fun _ _ k => Xe Z Z Z V (Xd (o' := 1) Y9 Z Z Z k)) (yl Z (fun _ fd k => Xe Z Z Z V (Xh (v := vi E.run) Xz Z ((((cz.grown0 ab.grw).gn al.grw).grown0 fd).cell Z) Z k)) (yl Z (fun _ _ k => Xe Z Z Z V (Ym (c := E.run - 1) Z Z (by omega) (by omega) (by omega) Z k)) ?_))))))))))
 exact yl Z (fun _ _ k => Xe Z Z Z V (X0 Y6 Z Z ef fr (by omega) (by omega) Z k)) (yl Z (fun _ _ k => Xe Z Z Z V (Xd (o' := dt + 5) Qi Z Z Z k)) (yl Z (fun _ fe k => Xe Z Z Z V (Xh (v := .slice (mAt O (E.run - 1).toNat).sa (mAt O (E.run - 1).toNat).t.slots.length (mAt O (E.run - 1).toNat).sc) Jd Z ((Ye f8 fe) 5 _ Z) Z k)) (yl Z (fun _ _ k => Xe Z Z Z V (X0 J9 Z Z eg ft (by omega) (by omega) Z k)) (yl Z (fun _ ff k => Xe Z Z Z V (Xq (vs := [vi (rAt (mAt O (E.run - 1).toNat).t.slots 2).th, vi (rAt (mAt O (E.run - 1).toNat).t.slots 2).ve, vb (rAt (mAt O (E.run - 1).toNat).t.slots 2).rd, vb (rAt (mAt O (E.run - 1).toNat).t.slots 2).wr, vb (rAt (mAt O (E.run - 1).toNat).t.slots 2).wk]) Yz Z Z (Y3 (Ye f9 ff) 0 5 Z) Z k)) (yl Z (fun _ fg k => Xe Z Z Z V (Xq (vs := [vi (rAt (mAt G (E.run - 1).toNat).t.slots ((m : Int) % 4).toNat).th, vi (rAt (mAt G (E.run - 1).toNat).t.slots ((m : Int) % 4).toNat).ve, vb (rAt (mAt G (E.run - 1).toNat).t.slots ((m : Int) % 4).toNat).rd, vb (rAt (mAt G (E.run - 1).toNat).t.slots ((m : Int) % 4).toNat).wr, vb (rAt (mAt G (E.run - 1).toNat).t.slots ((m : Int) % 4).toNat).wk]) Yz Z Z ((((dq.grown0 ab.grw).gn al.grw).grown0 fg).rangeL 0 5 Z) Z k)) Y2)))))
 intro kb di
 refine Xe Z Z Z V (V9 (q := decide ((rAt (mAt O (E.run - 1).toNat).t.slots 2) = (rAt (mAt G (E.run - 1).toNat).t.slots ((m : Int) % 4).toNat))) Z Z (Lu _ _ (rAt (mAt O (E.run - 1).toNat).t.slots 2) (rAt (mAt G (E.run - 1).toNat).t.slots ((m : Int) % 4).toNat) _) (Ht (rAt (mAt O (E.run - 1).toNat).t.slots 2) (rAt (mAt G (E.run - 1).toNat).t.slots ((m : Int) % 4).toNat) _) Z Z (Xo (v := vb (decide ((rAt (mAt O (E.run - 1).toNat).t.slots 2) = (rAt (mAt G (E.run - 1).toNat).t.slots ((m : Int) % 4).toNat)))) Z V Z Z (Xb (v := vb (decide ((rAt (mAt O (E.run - 1).toNat).t.slots 2) = (rAt (mAt G (E.run - 1).toNat).t.slots ((m : Int) % 4).toNat)))) Z Z (Xe Z Z Z ad (Xd (o' := 2) Kx Z Z Z (Xe Z Z Z ad ?_))))))
 have dr := (al.blk.grown0 di)
 refine Xh (v := vb (rAt (mAt J (E.run - 1).toNat).t.slots 2).rd) Jn Z (dr.cell Z) Z (Xe Z Z Z ad (Yj (b' := !(rAt (mAt J (E.run - 1).toNat).t.slots 2).rd) Z Z Z (Xo (v := vb (!(rAt (mAt J (E.run - 1).toNat).t.slots 2).rd)) Z ad Z Z (Xb (v := vb (!(rAt (mAt J (E.run - 1).toNat).t.slots 2).rd)) Z Z (Xe Z Z Z ah (Xd (o' := 3) Kb Z Z Z (Xe Z Z Z ah (Xh (v := vb (rAt (mAt J (E.run - 1).toNat).t.slots 2).wr) Jn Z (dr.cell Z) Z (Xe Z Z Z ah (Yj (b' := !(rAt (mAt J (E.run - 1).toNat).t.slots 2).wr) Z Z Z (Xo (v := vb (!(rAt (mAt J (E.run - 1).toNat).t.slots 2).wr)) Z ah Z Z (Xb (v := vb (!(rAt (mAt J (E.run - 1).toNat).t.slots 2).wr)) Z Z ?_))))))))))))
 refine Xe Z Z Z ac (Xd (o' := 0) Yl Z Z Z (Xe Z Z Z ac (Xh (v := vi (rAt (mAt J (E.run - 1).toNat).t.slots 2).th) Xz Z (dr.cell Z) Z (Xe Z Z Z ac (X3 (q := decide ((rAt (mAt J (E.run - 1).toNat).t.slots 2).th = 0)) Z Z Z Z (Xe Z Z Z ac (Xb (v := vb (decide ((rAt (mAt J (E.run - 1).toNat).t.slots 2).th = 0))) Z Z (Xi Z Z Z aj Z (Xi Z Z Z aj Z (Xe Z Z Z ac (Xo (v := vb true) Z aj Z Z (Xo (v := vb true) Z ac Z Z ?_))))))))))))
 exact Xf (v := vb true) Z Z (Xc (Xv ⟨(congrArg Value.bool (by first | (simp only [bi, cc, cd, bj, am, bu, ah, cl, ac, cm, ce, aj, au, bk, bd, ag, ad, V, ar, b0, b1, b2, b3, b4, b5, b6, b7, b8, b9]; done) | simp [bi, cc, cd, bj, am, bu, ah, cl, ac, cm, ce, aj, au, bk, bd, ag, ad, V, ar])), di⟩))
 have jo := of_decide_eq_false aj
 have ct := (TabG.ge (TabG.low (TabG.low bx aw) ab.grw) al.grw db (by omega))
 obtain ⟨d4, jx, du, eh, fu, ga⟩ := SlAt.at (TabG.at ct).1 (Yk (xg O (E.run - 1).toNat))
 have im := TabLen.at cy (xg O (E.run - 1).toNat)
 obtain ⟨gi, jy, gz, ei, fv, gb⟩ := SlAt.at (TabAt.th (TabG.at ct) (xg O (E.run - 1).toNat)).1 (Yk (xr (mAt O (E.run - 1).toNat).t.slots 2))
 refine Yt (m := 17) (vals := [(106, vi (callDo (tabT G) ⟨3, E.run, (m : Int) % 4, 2, 7⟩).2), (107, vb (decide ((callDo (tabT G) ⟨3, E.run, (m : Int) % 4, 2, 7⟩).2 = 0))), (108, vb (decide ((callDo (tabT G) ⟨3, E.run, (m : Int) % 4, 2, 7⟩).2 = 0))), (109, vi (callDo (tabT G) ⟨3, E.run, (m : Int) % 4, 2, 0⟩).2), (110, vb (decide ((callDo (tabT G) ⟨3, E.run, (m : Int) % 4, 2, 0⟩).2 = 0))), (111, vb (decide ((callDo (tabT G) ⟨3, E.run, (m : Int) % 4, 2, 0⟩).2 = 0))), (112, vb (decide ((callDo (tabT G) ⟨3, E.run, (m : Int) % 4, 2, 0⟩).2 = 0))), (113, .slice bt O.length ak), (114, pt d2 1), (115, vi E.run), (116, vi (E.run - 1)), (117, pt d4 du), (118, pt d4 (du + 5)), (119, .slice (mAt O (E.run - 1).toNat).sa (mAt O (E.run - 1).toNat).t.slots.length (mAt O (E.run - 1).toNat).sc), (120, pt gi gz), (121, .agg #[vi (rAt (mAt O (E.run - 1).toNat).t.slots 2).th, vi (rAt (mAt O (E.run - 1).toNat).t.slots 2).ve, vb (rAt (mAt O (E.run - 1).toNat).t.slots 2).rd, vb (rAt (mAt O (E.run - 1).toNat).t.slots 2).wr, vb (rAt (mAt O (E.run - 1).toNat).t.slots 2).wk]), (122, .agg #[vi (rAt (mAt G (E.run - 1).toNat).t.slots ((m : Int) % 4).toNat).th, vi (rAt (mAt G (E.run - 1).toNat).t.slots ((m : Int) % 4).toNat).ve, vb (rAt (mAt G (E.run - 1).toNat).t.slots ((m : Int) % 4).toNat).rd, vb (rAt (mAt G (E.run - 1).toNat).t.slots ((m : Int) % 4).toNat).wr, vb (rAt (mAt G (E.run - 1).toNat).t.slots ((m : Int) % 4).toNat).wk])]) (fun w' => dv.grownBy w' none) Y0 (by kernel_rfl) (X7 _) ?_ ?_
 refine yl Z (fun _ _ k => Xb (v := vi (callDo (tabT G) ⟨3, E.run, (m : Int) % 4, 2, 7⟩).2) Z Z k) (yl Z (fun _ _ k => X3 (q := decide ((callDo (tabT G) ⟨3, E.run, (m : Int) % 4, 2, 7⟩).2 = 0)) Z Z Z Z k) (yl Z (fun _ _ k => Xb (v := vb (decide ((callDo (tabT G) ⟨3, E.run, (m : Int) % 4, 2, 7⟩).2 = 0))) Z Z k) (yl Z (fun _ _ k => Xe Z Z Z ag (Xb (v := vi (callDo (tabT G) ⟨3, E.run, (m : Int) % 4, 2, 0⟩).2) Z Z k)) (yl Z (fun _ _ k => Xe Z Z Z ag (X3 (q := decide ((callDo (tabT G) ⟨3, E.run, (m : Int) % 4, 2, 0⟩).2 = 0)) Z Z Z Z k)) (yl Z (fun _ _ k => Xo (v := vb (decide ((callDo (tabT G) ⟨3, E.run, (m : Int) % 4, 2, 0⟩).2 = 0))) Z ag Z Z k) (yl Z (fun _ _ k => Xb (v := vb (decide ((callDo (tabT G) ⟨3, E.run, (m : Int) % 4, 2, 0⟩).2 = 0))) Z Z k) (yl Z (fun _ _ k => Xe Z Z Z V (Xb (v := .slice bt O.length ak) Z Z k)) (yl Z (fun _ _ k => Xe Z Z Z V (Xd (o' := 1) Y9 Z Z Z k)) (yl Z (fun _ fh k => Xe Z Z Z V (Xh (v := vi E.run) Xz Z ((((cz.grown0 ab.grw).gn al.grw).grown0 fh).cell Z) Z k)) (yl Z (fun _ _ k => Xe Z Z Z V (Ym (c := E.run - 1) Z Z (by omega) (by omega) (by omega) Z k)) ?_))))))))))
 exact yl Z (fun _ _ k => Xe Z Z Z V (X0 Y6 Z Z eh fu (by omega) (by omega) Z k)) (yl Z (fun _ _ k => Xe Z Z Z V (Xd (o' := du + 5) Qi Z Z Z k)) (yl Z (fun _ fi k => Xe Z Z Z V (Xh (v := .slice (mAt O (E.run - 1).toNat).sa (mAt O (E.run - 1).toNat).t.slots.length (mAt O (E.run - 1).toNat).sc) Jd Z ((Ye ga fi) 5 _ Z) Z k)) (yl Z (fun _ _ k => Xe Z Z Z V (X0 J9 Z Z ei fv (by omega) (by omega) Z k)) (yl Z (fun _ fj k => Xe Z Z Z V (Xq (vs := [vi (rAt (mAt O (E.run - 1).toNat).t.slots 2).th, vi (rAt (mAt O (E.run - 1).toNat).t.slots 2).ve, vb (rAt (mAt O (E.run - 1).toNat).t.slots 2).rd, vb (rAt (mAt O (E.run - 1).toNat).t.slots 2).wr, vb (rAt (mAt O (E.run - 1).toNat).t.slots 2).wk]) Yz Z Z (Y3 (Ye gb fj) 0 5 Z) Z k)) (yl Z (fun _ fk k => Xe Z Z Z V (Xq (vs := [vi (rAt (mAt G (E.run - 1).toNat).t.slots ((m : Int) % 4).toNat).th, vi (rAt (mAt G (E.run - 1).toNat).t.slots ((m : Int) % 4).toNat).ve, vb (rAt (mAt G (E.run - 1).toNat).t.slots ((m : Int) % 4).toNat).rd, vb (rAt (mAt G (E.run - 1).toNat).t.slots ((m : Int) % 4).toNat).wr, vb (rAt (mAt G (E.run - 1).toNat).t.slots ((m : Int) % 4).toNat).wk]) Yz Z Z ((((dq.grown0 ab.grw).gn al.grw).grown0 fk).rangeL 0 5 Z) Z k)) Y2)))))
 intro kc dk
 refine Xe Z Z Z V (V9 (q := decide ((rAt (mAt O (E.run - 1).toNat).t.slots 2) = (rAt (mAt G (E.run - 1).toNat).t.slots ((m : Int) % 4).toNat))) Z Z (Lu _ _ (rAt (mAt O (E.run - 1).toNat).t.slots 2) (rAt (mAt G (E.run - 1).toNat).t.slots ((m : Int) % 4).toNat) _) (Ht (rAt (mAt O (E.run - 1).toNat).t.slots 2) (rAt (mAt G (E.run - 1).toNat).t.slots ((m : Int) % 4).toNat) _) Z Z (Xo (v := vb (decide ((rAt (mAt O (E.run - 1).toNat).t.slots 2) = (rAt (mAt G (E.run - 1).toNat).t.slots ((m : Int) % 4).toNat)))) Z V Z Z (Xb (v := vb (decide ((rAt (mAt O (E.run - 1).toNat).t.slots 2) = (rAt (mAt G (E.run - 1).toNat).t.slots ((m : Int) % 4).toNat)))) Z Z (Xe Z Z Z ad (Xd (o' := 2) Kx Z Z Z (Xe Z Z Z ad ?_))))))
 have c8 := (al.blk.grown0 dk)
 refine Xh (v := vb (rAt (mAt J (E.run - 1).toNat).t.slots 2).rd) Jn Z (c8.cell Z) Z (Xe Z Z Z ad (Yj (b' := !(rAt (mAt J (E.run - 1).toNat).t.slots 2).rd) Z Z Z (Xo (v := vb (!(rAt (mAt J (E.run - 1).toNat).t.slots 2).rd)) Z ad Z Z (Xb (v := vb (!(rAt (mAt J (E.run - 1).toNat).t.slots 2).rd)) Z Z (Xe Z Z Z ah (Xd (o' := 3) Kb Z Z Z (Xe Z Z Z ah (Xh (v := vb (rAt (mAt J (E.run - 1).toNat).t.slots 2).wr) Jn Z (c8.cell Z) Z (Xe Z Z Z ah (Yj (b' := !(rAt (mAt J (E.run - 1).toNat).t.slots 2).wr) Z Z Z (Xo (v := vb (!(rAt (mAt J (E.run - 1).toNat).t.slots 2).wr)) Z ah Z Z (Xb (v := vb (!(rAt (mAt J (E.run - 1).toNat).t.slots 2).wr)) Z Z ?_))))))))))))
 refine Xe Z Z Z ac (Xd (o' := 0) Yl Z Z Z (Xe Z Z Z ac (Xh (v := vi (rAt (mAt J (E.run - 1).toNat).t.slots 2).th) Xz Z (c8.cell Z) Z (Xe Z Z Z ac (X3 (q := decide ((rAt (mAt J (E.run - 1).toNat).t.slots 2).th = 0)) Z Z Z Z (Xe Z Z Z ac (Xb (v := vb (decide ((rAt (mAt J (E.run - 1).toNat).t.slots 2).th = 0))) Z Z (Xe Z Z Z aj (Xd (o' := 4) K9 Z Z Z (Xe Z Z Z aj (Xh (v := vb (rAt (mAt J (E.run - 1).toNat).t.slots 2).wk) Jn Z (c8.cell Z) Z (Xe Z Z Z ac ?_))))))))))))
 exact Xn (v := vb (rAt (mAt J (E.run - 1).toNat).t.slots 2).wk) Z aj Z Z (Xo (v := vb (rAt (mAt J (E.run - 1).toNat).t.slots 2).wk) Z ac Z Z (Xf (v := vb (rAt (mAt J (E.run - 1).toNat).t.slots 2).wk) Z Z (Xc (Xv ⟨(congrArg Value.bool (by first | (simp only [bi, cc, cd, bj, am, bu, ah, cl, ac, cm, ce, aj, au, bk, bd, ag, ad, V, ar, b0, b1, b2, b3, b4, b5, b6, b7, b8, b9]; done) | simp [bi, cc, cd, bj, am, bu, ah, cl, ac, cm, ce, aj, au, bk, bd, ag, ad, V, ar])), dk⟩))))
 rintro jg ke ⟨gm, fc⟩
 refine Xt (⟨vb ((((((decide ((callDo (tabT G) ⟨3, E.run, (m : Int) % 4, 2, 7⟩).2 = 0)) && (decide ((callDo (tabT G) ⟨3, E.run, (m : Int) % 4, 2, 0⟩).2 = 0))) && (decide ((rAt (mAt O (E.run - 1).toNat).t.slots 2) = (rAt (mAt G (E.run - 1).toNat).t.slots ((m : Int) % 4).toNat)))) && (!(rAt (mAt J (E.run - 1).toNat).t.slots 2).rd)) && (!(rAt (mAt J (E.run - 1).toNat).t.slots 2).wr)) && ((decide ((rAt (mAt J (E.run - 1).toNat).t.slots 2).th = 0)) || (rAt (mAt J (E.run - 1).toNat).t.slots 2).wk)), Yx Z gm, ?_, (low0 (low1 (low0 dh ab.grw) al.grw (by omega)) fc)⟩)
 exact congrArg Value.bool (Bool.and_eq_true_iff.2 ⟨(Bool.and_eq_true_iff.2 ⟨(Bool.and_eq_true_iff.2 ⟨(Bool.and_eq_true_iff.2 ⟨(Bool.and_eq_true_iff.2 ⟨ag, V⟩), ad⟩), ah⟩), ac⟩), ce⟩)
end Go.Proofs.YtlhhijnmacogcaaGreatDoor
end
