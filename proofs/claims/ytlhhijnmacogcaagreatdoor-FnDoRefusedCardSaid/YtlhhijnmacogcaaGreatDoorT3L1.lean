/- Laws and walks: my templates, and what a program of mine (gen.py) printed out of the functions; only what the row reaches. -/
import Derived.Test.YtlhhijnmacogcaaGreatDoorT35
section
namespace Go.Dw
set_option linter.unusedVariables false
set_option linter.unusedSimpArgs false
section
variable {ts : List Th} {q : Cl}
theorem Sf (hp : callPoss ts q = true) : callPoss (doCall ts q).1 q = true := by
  obtain ⟨hT, hc, hr⟩ := Yd hp
  have h := Wc hp
  have hr := Qq hr
  unfold callPoss
  rw [h.1, hc, M3 (by rw [h.2.1]; exact hr.1) ((h.2.2 _ hr.1.1).trans hr.2)]
  rfl
def Kept (n : Int) (a b : Th) : Prop := (a.kind = 1 → b.num = a.num ∨ b.num = 0 ∨ b.num = n ∨ b.num = n % 2) ∧ ∀ v ∈ b.queue, v = n ∨ v ∈ a.queue
theorem Kept.refl (n : Int) (a : Th) : Kept n a a := ⟨fun _ => Or.inl rfl, fun _ h => Or.inr h⟩
section
variable {ms xs : List MTh}
theorem Wo (hp : callPoss (tabT ms) q = true) : (callDo (tabT ms) q).2 = doAns (tabT ms) q := by rw [Jb hp, Rz]
theorem Kr (ht : tabT xs = (callDo (tabT ms) q).1) (hp : callPoss (tabT ms) q = true) : (mAt xs (q.run - 1).toNat).t.slots.length = 4 := by
  have h := Sf hp
  have h2 := (Yd h)
  rw [← Jb hp, ← ht] at h2
  exact Qt h2.1 h2.2.2
end
end
end Go.Dw
end
section
namespace Go.Dw
set_option linter.unusedVariables false
set_option linter.unusedSimpArgs false
def RowsA (w : World) (l : List MTh) : Prop := ∀ m ∈ l, ThAt w m
theorem RowsA.of {w : World} {a : Option Addr} {l : List MTh} (h : TabAt w a l) : RowsA w l := h.2
theorem RowsA.set {w : World} {l : List MTh} {i : Nat} {m : MTh} (h : RowsA w l) (hi : i < l.length) (e : m.sa = (mAt l i).sa ∧ m.sc = (mAt l i).sc ∧ m.qa = (mAt l i).qa ∧ m.qc = (mAt l i).qc ∧ m.t.slots = (mAt l i).t.slots ∧ m.t.queue = (mAt l i).t.queue) : RowsA w (l.set i m) := fun x hx => by
  rcases List.mem_or_eq_of_mem_set hx with h1 | rfl
  · exact h x h1
  · have := h _ (List.mem_of_getElem? (Jw hi))
    unfold ThAt at this ⊢
    rw [e.1, e.2.1, e.2.2.1, e.2.2.2.1, e.2.2.2.2.1, e.2.2.2.2.2]
    exact this
theorem RowsA.setn {w : World} {l : List MTh} {i : Nat} {m : MTh} (h : RowsA w l) (hm : ThAt w m) : RowsA w (l.set i m) := fun x hx => by
  rcases List.mem_or_eq_of_mem_set hx with h1 | rfl
  · exact h x h1
  · exact hm
theorem Cc {w : World} {Y T cap : Nat} {l : List MTh} (ho : Own w Y T 8 cap l.length (l.flatMap MTh.cells)) (h : RowsA w l) : TabAt w (some ⟨Y, 0, none⟩) l := ⟨Own.sl Yp ho, h⟩
theorem Em {w : World} {a : Option Addr} {l : List MTh} (h : TabAt w a l) (hn : 0 < l.length) : ¬ a = none := fun e => by
  obtain ⟨x, hx⟩ := Jl hn
  obtain ⟨b, q, o, ha, _, _⟩ := SlAt.at h.1 (Yk hx)
  rw [e] at ha
  cases ha
theorem TabLen.setn {l : List MTh} {i : Nat} {m : MTh} (h : TabLen l) (hi : i < l.length) (e1 : m.t.slots = (mAt l i).t.slots) (e2 : m.t.queue = (mAt l i).t.queue) : TabLen (l.set i m) := fun x hx => by
  rcases List.mem_or_eq_of_mem_set hx with h1 | rfl
  · exact h x h1
  · rw [e1, e2]
    exact h _ (List.mem_of_getElem? (Jw hi))
theorem RowsA.setE {w : World} {L l : List MTh} {i : Nat} {m : MTh} (hL : L = l.set i m) (h : RowsA w l) (hi : i < l.length) (e : m.sa = (mAt l i).sa ∧ m.sc = (mAt l i).sc ∧ m.qa = (mAt l i).qa ∧ m.qc = (mAt l i).qc ∧ m.t.slots = (mAt l i).t.slots ∧ m.t.queue = (mAt l i).t.queue) : RowsA w L := hL ▸ RowsA.set h hi e
theorem RowsA.setnE {w : World} {L l : List MTh} {i : Nat} {m : MTh} (hL : L = l.set i m) (h : RowsA w l) (hm : ThAt w m) : RowsA w L := hL ▸ RowsA.setn h hm
theorem TabLen.setnE {L l : List MTh} {i : Nat} {m : MTh} (hL : L = l.set i m) (h : TabLen l) (hi : i < l.length) (e1 : m.t.slots = (mAt l i).t.slots) (e2 : m.t.queue = (mAt l i).t.queue) : TabLen L := hL ▸ TabLen.setn h hi e1 e2
theorem Mv {P : Program} {k : FuncId} {a : Option Addr} {c n m : Nat} {u : Value} {w : World} {R : Value → World → Prop} (h : m = n) (hc : CallsR P k #[.slice a m c, u] w R) : CallsR P k #[.slice a n c, u] w R := h ▸ hc
theorem Dy {Y b n : Nat} (h : (some ⟨Y, 0, none⟩ : Option Addr).map (·.block) = (some ⟨b, 0, none⟩ : Option Addr).map (·.block) ∨ (some ⟨Y, 0, none⟩ : Option Addr).map (·.block) = some n) : Y = b ∨ Y = n := by simpa using h
section
variable {ms xs : List MTh} {q : Cl}
theorem Ot (ht : tabT xs = (callDo (tabT ms) q).1) (hp : callPoss (tabT ms) q = true) (hpre : doPre (tabT ms) q = tabT ms) {m' : MTh} (h : m'.t = { (mAt xs (q.run - 1).toNat).t with num := (mAt ms (q.run - 1).toNat).t.num }) : tabT (xs.set (q.run - 1).toNat m') = tabT ms := by
  have hr := (Qq (Yd hp).2.2).1
  have e : tabT xs = setNum (tabT ms) q.run (doAns (tabT ms) q) := by rw [ht, Jb hp, Kn, hpre]
  rw [So, h, Qo, Qo, e]
  exact Sn hr
theorem B2 (hp : callPoss (tabT ms) q = true) (h : decide (0 ≤ chkAll (tabT ms) q) = false) : (callDo (tabT ms) q).2 = chkAll (tabT ms) q ∧ doPre (tabT ms) q = tabT ms := by
  have h := of_decide_eq_false h
  rw [Qz hp] at h ⊢
  have := Ve (ts := tabT ms) (q := q) (by omega)
  rw [Wo hp]
  exact this
theorem Dz (hp : callPoss (tabT ms) q = true) (h : decide (0 ≤ chkAll (tabT ms) q) = true) : (decide (0 ≤ (callDo (tabT ms) q).2) || decide ((callDo (tabT ms) q).2 = -4)) = true := by
  have h := of_decide_eq_true h
  rw [Qz hp] at h
  rw [Wo hp]
  rcases (Mx hp).1 with (h1 | h1) | h1
  · rw [decide_eq_true h1]; rfl
  · rw [decide_eq_true h1.1, Bool.or_true]
  · omega
end
end Go.Dw
end
section
namespace Go.Proofs.YtlhhijnmacogcaaGreatDoor
open Go.RowKit Go.Dw
set_option maxRecDepth 100000
set_option maxHeartbeats 4000000
set_option linter.unusedSimpArgs false
set_option linter.unusedVariables false
theorem Ug : goFn Tryz.prog 15 = true := by kernel_rfl
theorem Uh : goFn Tryz.prog 16 = true := by kernel_rfl
theorem Ks : goFn Tryz.prog 17 = true := by kernel_rfl
theorem K6 : goFn Tryz.prog 18 = true := by kernel_rfl
theorem Ui : goFn Tryz.prog 19 = true := by kernel_rfl
theorem law_FnDoRefused (bs : List Int) (a : Option Addr) (c : Nat) (w : World) (dw : SlAt w a 1 (bs.map bcell)) (hb : ∀ b ∈ bs, 0 ≤ b ∧ b ≤ 255) (hn : bs.length ≤ 9223372036854775807) (hc : bs.length ≤ c) (hE : ErrT w) : CallsR Tryz.prog 8 #[.slice a bs.length c] w (fun v w' => v = .bool true ∧ w.grownBy w' none) := by
 refine Xw (n := 89) Tryz.func8 Z Tryz.ntmps8 Z ?_
 have dg := World.grownBy.refl w none
 have hs := SlAt.lt Kh (by omega) dw
 refine Xa (Xf (v := vb false) Z Z (Xc (Xs (Xa (Xb (v := .slice a bs.length c) Z Z (Yr (by kernel_rfl) Z Z (Qw (q := decide (1048576 < (bs.length : Int))) Z Z Z Z (Xc (X2 Z (fun az => ?_) (fun az => ?_))))))))))
 have fb := of_decide_eq_true az
 refine Xa (Xf (v := vb true) Z Z (Xc (Xt (Yo (⟨vb true, Yx Z Z, ?_, dg⟩)))))
 rfl
 have fc := of_decide_eq_false az
 refine Xy (Xv (Xa (Xb (v := .slice a bs.length c) Z Z (Xm Ug (Xg Z Xl) Z (Kp bs a c _ (SlAt.low dw dg) hb (by omega) (by omega)) ?_))))
 rintro _ fj ⟨af, O, G, E, rfl, aw, cw, d3, em, dh⟩
 have cc := low0 dg dh
 have aj := cw.len
 refine Xb (v := .tuple #[.slice (pa af) G.length O, .agg #[vi E.kind, vi E.run, vi E.a, vi E.b, vi E.n]]) Z Z (X1 (v := .slice (pa af) G.length O) Z Z Z (X1 (v := .agg #[vi E.kind, vi E.run, vi E.a, vi E.b, vi E.n]) Z Z Z (Yf (cs := #[vi 0, vi 0, vi 0, vi 0, vi 0]) Wa Z Z ?_)))
 intro bt fk V
 have d7 := Yi V cc
 refine Xf (v := .slice (pa af) G.length O) Z Z (Xx (vs := [vi E.kind, vi E.run, vi E.a, vi E.b, vi E.n]) (cs' := #[vi E.kind, vi E.run, vi E.a, vi E.b, vi E.n]) Y1 Z Z Z (by simp [Value.oneCell']) V.blk (Nat.le_of_ble_eq_true Z) Z ?_)
 intro fm ag
 refine Xc (Xa (Xb (v := .slice (pa af) G.length O) Z Z (Xq (vs := [vi E.kind, vi E.run, vi E.a, vi E.b, vi E.n]) Y1 Z Z (ag.blk.rangeL 0 5 Z) Z ?_)))
 have ed := (ag.blk).lt
 refine Xm Uh (Xg Z (Xg Z Xl)) Z (Vr E _ G _ _ (TabG.at (TabG.low aw (low1 V.grw ag.grw (nt ((World.grownBy.refl _ none)).size (Nat.le_of_eq V.eq.symm))))) aj (by omega)) ?_
 rintro _ fo ⟨bn, ao, an, rfl, ct, be, bb⟩
 have cd := low0 (low1 (low0 cc V.grw) ag.grw (by omega)) bb
 have bw := Qn be
 have eg := Y8 be
 refine Xb (v := .tuple #[.slice (pa bn) an.length ao, vi (callDo (tabT G) E).2]) Z Z (X1 (v := .slice (pa bn) an.length ao) Z Z Z (X1 (v := vi (callDo (tabT G) E).2) Z Z Z (Xf (v := .slice (pa bn) an.length ao) Z Z (Xf (v := vi (callDo (tabT G) E).2) Z Z (Xc (Xa (Xb (v := .slice (pa af) G.length O) Z Z ?_)))))))
 have cj := (ag.blk.grown0 bb)
 refine Xq (vs := [vi E.kind, vi E.run, vi E.a, vi E.b, vi E.n]) Y1 Z Z (cj.rangeL 0 5 Z) Z ?_
 have ee := (cj).lt
 refine Xm Ks (Xg Z (Xg Z Xl)) Z (Jq E _ G _ _ (TabG.at (TabG.low aw (low0 (low1 V.grw ag.grw (nt ((World.grownBy.refl _ none)).size (Nat.le_of_eq V.eq.symm))) bb))) aj (by omega) (ErrT.grown0 hE cd)) ?_
 rintro _ fp ⟨bf, ad, J, rfl, bg, am, bc⟩
 have bk := Qn am
 have eh := Y8 am
 refine Xb (v := .tuple #[.slice bf J.length ad, vi (callDo (tabT G) E).2]) Z Z (X1 (v := .slice bf J.length ad) Z Z Z (X1 (v := vi (callDo (tabT G) E).2) Z Z Z (Xf (v := .slice bf J.length ad) Z Z (Xf (v := vi (callDo (tabT G) E).2) Z Z (Xc (Xs (Xa (Xb (v := vi (callDo (tabT G) E).2) Z Z (Xb (v := vi (callDo (tabT G) E).2) Z Z (Qj (q := false) Z Z (by simp) Z (Xb (v := vb false) Z Z (Xe Z Z Z Z ?_))))))))))))
 refine Xb (v := .slice bf J.length ad) Z Z (Xe Z Z Z Z (Xb (v := .slice (pa bn) an.length ao) Z Z (Xe Z Z Z Z ?_)))
 have bh := (TabG.low ct bc)
 refine Xm K6 (Xg Z (Xg Z Xl)) Z (Js _ J an _ _ _ _ (TabG.at bg) (TabG.at bh) bk bw (by omega) (by omega)) ?_
 rintro _ fq ⟨rfl, ah⟩
 refine Xe Z Z Z Z (Yj (b' := false) (congrArg Value.bool (decide_eq_true (am.trans be.symm))) Z Z (Xn (v := vb false) Z Z Z Z (Xb (v := vb false) Z Z (Xe Z Z Z Z (Xb (v := .slice (pa af) G.length O) Z Z (Xe Z Z Z Z ?_))))))
 have c8 := ((cj.grown0 bc).grown0 ah)
 refine Xq (vs := [vi E.kind, vi E.run, vi E.a, vi E.b, vi E.n]) Y1 Z Z (c8.rangeL 0 5 Z) Z (Xe Z Z Z Z (Xm Ui (Xg Z (Xg Z Xl)) Z (Ut E _ G _ _ (TabG.at (TabG.low aw (low0 (low0 (low0 (low1 V.grw ag.grw (nt ((World.grownBy.refl _ none)).size (Nat.le_of_eq V.eq.symm))) bb) bc) ah))) aj (by omega)) ?_))
 rintro _ dy ⟨rfl, al⟩
 have bp := low0 (low0 (low0 cd bc) ah) al
 refine Xe Z Z Z Z (Yj (b' := !callPoss (tabT G) E) Z Z Z (Xn (v := vb (!callPoss (tabT G) E)) Z Z Z Z (Xc (X2 Z (fun a8 => ?_) (fun a8 => ?_)))))
 have fd := Jm a8
 refine Xa (Xb (v := vi (callDo (tabT G) E).2) Z Z (Xb (v := vi (callDo (tabT G) E).2) Z Z (X3 (q := true) Z Z (by simp) Z (Xb (v := vb true) Z Z (Xe Z Z Z Z (Xb (v := .slice bf J.length ad) Z Z (Xe Z Z Z Z (Xb (v := .slice (pa bn) an.length ao) Z Z (Xe Z Z Z Z (Xm K6 (Xg Z (Xg Z Xl)) Z (Js _ J an _ _ _ _ (TabG.at (TabG.low (TabG.low bg ah) al)) (TabG.at (TabG.low (TabG.low bh ah) al)) bk bw (by omega) (by omega)) ?_))))))))))
 rintro _ fr ⟨rfl, di⟩
 refine Xo (v := vb true) Z Z (congrArg Value.bool (decide_eq_true (am.trans be.symm))) Z (Xf (v := vb true) Z Z (Xc (Xt (Yo (⟨vb true, Yx Z Z, ?_, (low0 bp di)⟩)))))
 rfl
 have ab := Qu a8
 obtain ⟨aq, ba, ak⟩ := Yd ab
 have d5 := Yw ba
 have d6 := (Y5 ak).1
 have ek := Qt aq ak
 have ef := Jk aq
 have hde := Jb ab
 have hrk := Qq (Yd ab).2.2
 have ei := Qm be ab
 have ej := Qm am ab
 obtain ⟨hi, hhi⟩ : ∃ n, n = dy.heap.size := ⟨_, rfl⟩
 have bi := (TabG.low aw (low0 (low0 (low0 (low0 (low1 V.grw ag.grw (nt ((World.grownBy.refl _ none)).size (Nat.le_of_eq V.eq.symm))) bb) bc) ah) al))
 have bz := TabG.hi bi
 rw [← hhi] at bz
 have du := TabG.hi (TabG.low (TabG.low bh ah) al)
 rw [← hhi] at du
 have bu := (TabG.low (TabG.low bg ah) al)
 have ca := TabG.hi bu
 rw [← hhi] at ca
 have d2 := Kr am ab
 refine Xy (Xv (Xa (Xb (v := .slice (pa af) G.length O) Z Z ?_)))
 have c9 := (c8.grown0 al)
 refine Xq (vs := [vi E.kind, vi E.run, vi E.a, vi E.b, vi E.n]) Y1 Z Z (c9.rangeL 0 5 Z) Z (Xm Dc (Xg Z (Xg Z Xl)) Z (W3 E _ G _ _ (TabG.at bi) aj (by omega) (ErrT.grown0 hE bp)) ?_)
 rintro _ dz ⟨rfl, ar⟩
 have bq := low0 bp ar
 have d4 := Wm (ts := tabT G) (q := E)
 refine Xf (v := vi (chkAll (tabT G) E)) Z Z (Xc (Xs (Xa (Xb (v := vi (chkAll (tabT G) E)) Z Z (Ua (q := decide (0 ≤ chkAll (tabT G) E)) Z Z Z Z (Xc (X2 Z (fun ap => ?_) (fun ap => ?_))))))))
 have fe := of_decide_eq_true ap
 refine X8 (fun f' w' => (f' 2 = vb ((decide (0 ≤ (callDo (tabT G) E).2)) || (decide ((callDo (tabT G) E).2 = (-4)))) ∧ f' 3 = .slice (pa af) G.length O ∧ f' 4 = pt bt 0 ∧ f' 7 = .slice bf J.length ad ∧ f' 8 = vi (callDo (tabT G) E).2 ∧ f' 9 = vi (chkAll (tabT G) E)) ∧ dz = w') ?_ ?_
 refine Xb (v := vi (callDo (tabT G) E).2) Z Z (Ua (q := decide (0 ≤ (callDo (tabT G) E).2)) Z Z Z Z (Xb (v := vb (decide (0 ≤ (callDo (tabT G) E).2))) Z Z ?_))
 rcases Yb (decide (0 ≤ (callDo (tabT G) E).2)) with ac | ac
 have ff := of_decide_eq_true ac
 exact Xi Z Z Z ac Z (Xi Z Z Z ac Z (Xo (v := vb true) Z ac Z Z (Xf (v := vb true) Z Z (Xc ⟨⟨(congrArg Value.bool (by first | (simp only [az, a8, ab, ap, ac, aq, ba, ak, b0, b1, b2, b3, b4, b5, b6, b7, b8, b9]; done) | simp [az, a8, ab, ap, ac, aq, ba, ak])), Z, Z, Z, Z, Z⟩, Z⟩))))
 have fg := of_decide_eq_false ac
 exact Xe Z Z Z ac (Xb (v := vi (callDo (tabT G) E).2) Z Z (Xe Z Z Z ac (X3 (q := decide ((callDo (tabT G) E).2 = (-4))) Z Z Z Z (Xn (v := vb (decide ((callDo (tabT G) E).2 = (-4)))) Z ac Z Z (Xf (v := vb (decide ((callDo (tabT G) E).2 = (-4)))) Z Z (Xc ⟨⟨(congrArg Value.bool (by first | (simp only [az, a8, ab, ap, ac, aq, ba, ak, b0, b1, b2, b3, b4, b5, b6, b7, b8, b9]; done) | simp [az, a8, ab, ap, ac, aq, ba, ak])), Z, Z, Z, Z, Z⟩, Z⟩))))))
 rintro fa ft ⟨⟨dt, ep, eu, ew, ez, e0⟩, rfl⟩
 refine Xt (Yo (⟨vb ((decide (0 ≤ (callDo (tabT G) E).2)) || (decide ((callDo (tabT G) E).2 = (-4)))), Yx Z dt, ?_, bq⟩))
 exact congrArg Value.bool (Dz ab ap)
 have cf := B2 ab ap
 have bm : (decide ((callDo (tabT G) E).2 = chkAll (tabT G) E)) = true := decide_eq_true cf.1
 have fh := of_decide_eq_false ap
 refine Xy (Xv (Xa (X9 (ps := []) (e := 39) (cs := (([] : List MTh).flatMap MTh.cells).toArray) X5 (fun _ => by kernel_rfl) Z ?_)))
 intro cy d0 ae
 have d8 := Yi ae bq
 have cg : hi ≤ cy := nt (nt (Nat.le_of_eq hhi) ar.size) (Nat.le_of_eq ae.eq.symm)
 have da := (c9.grown0 ar)
 have cn := Xr ae (da).lt
 have ce := low0 bq ae.grw
 refine Xb (v := .slice bf J.length ad) Z Z ?_
 have ck := (da.grown0 ae.grw)
 have bj := (TabG.low (TabG.low bu ar) ae.grw)
 refine Jp (g := MTh.cells) (ys := []) (zs := J) (lo := hi) Me Z Yp (by omega) K3 Z Z (OwnN.of (Own.rows Yp ae.blk (by simp)) cg) (TabG.at bj).1 (fun h => absurd h (Em (TabG.at bj) (by omega))) (by simp only [List.length_nil]; omega) (by omega) (nt (nt (Nat.le_of_eq hhi) ar.size) ae.grw.size) Z ?_
 intro eo ai cm db dk bx
 have bd : World.grownBy d0 cm (some cy) := dk
 obtain ⟨av, rfl, dv, de⟩ := OwnN.some_ db (lq 0 J.length)
 have ea : w.heap.size ≤ av := by have h2 := Dy bx; have h3 := (ce).size; omega
 have co : bt ≠ av := by have h := (ck).lt; have h2 := Dy bx; omega
 refine Xf (v := .slice (pa av) J.length ai) Z Z (Xc (Xs ?_))
 have bv := (TabG.ge (TabG.low (TabG.low bi ar) ae.grw) bd bz (by omega))
 obtain ⟨cz, fi, cl, df, dq, dr⟩ := SlAt.at (TabG.at bv).1 (Yk (xg G (E.run - 1).toNat))
 have eb := TabLen.at aj (xg G (E.run - 1).toNat)
 refine Yt (m := 11) (vals := [(68, .slice (pa av) J.length ai), (69, pt bt 1), (70, vi E.run), (71, vi (E.run - 1)), (72, .slice (pa af) G.length O), (73, pt bt 1), (74, vi E.run), (75, vi (E.run - 1)), (76, pt cz cl), (77, pt cz (cl + 4)), (78, vi (mAt G (E.run - 1).toNat).t.num)]) (fun w' => cm.grownBy w' none) Y0 (by kernel_rfl) (X7 _) ?_ ?_
 refine yl Z (fun _ _ k => Xb (v := .slice (pa av) J.length ai) Z Z k) (yl Z (fun _ _ k => Xd (o' := 1) Y9 Z Z Z k) (yl Z (fun _ dm k => Xh (v := vi E.run) Xz Z (((ck.gn bd).grown0 dm).cell Z) Z k) (yl Z (fun _ _ k => Ym (c := E.run - 1) Z Z (by omega) (by omega) (by omega) Z k) (yl Z (fun _ _ k => Xb (v := .slice (pa af) G.length O) Z Z k) (yl Z (fun _ _ k => Xd (o' := 1) Y9 Z Z Z k) (yl Z (fun _ dn k => Xh (v := vi E.run) Xz Z (((ck.gn bd).grown0 dn).cell Z) Z k) (yl Z (fun _ _ k => Ym (c := E.run - 1) Z Z (by omega) (by omega) (by omega) Z k) (yl Z (fun _ _ k => X0 Y6 Z Z df dq (by omega) (by omega) Z k) (yl Z (fun _ _ k => Xd (o' := cl + 4) Q8 Z Z Z k) (yl Z (fun _ dp k => Xh (v := vi (mAt G (E.run - 1).toNat).t.num) Xz Z ((Ye dr dp) 4 _ Z) Z k) ?_))))))))))
 exact Y2
 intro fu bl
 refine Ya (o' := (E.run - 1).toNat * 8) Y6 Z Z (by omega) (by omega) (by omega) Z (Xd (o' := (E.run - 1).toNat * 8 + 4) Q8 Z Z Z (Jh (g := MTh.cells) (j := 4) (z := (mAt J (E.run - 1).toNat)) (z' := (⟨⟨(mAt J (E.run - 1).toNat).t.kind, (mAt J (E.run - 1).toNat).t.lab, (mAt J (E.run - 1).toNat).t.ve, (mAt G (E.run - 1).toNat).t.num, (mAt J (E.run - 1).toNat).t.slots, (mAt J (E.run - 1).toNat).t.queue, (mAt J (E.run - 1).toNat).t.to⟩, (mAt J (E.run - 1).toNat).sa, (mAt J (E.run - 1).toNat).sc, (mAt J (E.run - 1).toNat).qa, (mAt J (E.run - 1).toNat).qc⟩ : MTh)) (v := vi (mAt G (E.run - 1).toNat).t.num) Xz Z Z Z Yp ((show Dw.Own cm av 39 8 ai J.length (J.flatMap MTh.cells) from de).grown0 bl) (xg J (E.run - 1).toNat) (by omega) Z Z ?_))
 intro d1 dc br
 obtain ⟨au, a9⟩ : ∃ l, l = J.set (E.run - 1).toNat (⟨⟨(mAt J (E.run - 1).toNat).t.kind, (mAt J (E.run - 1).toNat).t.lab, (mAt J (E.run - 1).toNat).t.ve, (mAt G (E.run - 1).toNat).t.num, (mAt J (E.run - 1).toNat).t.slots, (mAt J (E.run - 1).toNat).t.queue, (mAt J (E.run - 1).toNat).t.to⟩, (mAt J (E.run - 1).toNat).sa, (mAt J (E.run - 1).toNat).sc, (mAt J (E.run - 1).toNat).qa, (mAt J (E.run - 1).toNat).qc⟩ : MTh) := ⟨_, rfl⟩
 have dx : Dw.Own d1 av 39 8 ai au.length (au.flatMap MTh.cells) := by rw [a9]; exact dc
 have d9 : au.length = J.length := by rw [a9]; simp only [List.length_set]
 refine Xc (Xv (Xa (Xb (v := vi (callDo (tabT G) E).2) Z Z (Xb (v := vi (chkAll (tabT G) E)) Z Z (X3 (q := decide ((callDo (tabT G) E).2 = chkAll (tabT G) E)) Z Z Z Z (Xb (v := vb (decide ((callDo (tabT G) E).2 = chkAll (tabT G) E))) Z Z (Xe Z Z Z bm (Xb (v := .slice (pa av) J.length ai) Z Z (Xe Z Z Z bm (Xb (v := .slice (pa af) G.length O) Z Z (Xe Z Z Z bm ?_)))))))))))
 have cv := (TabG.ge (TabG.low bv bl) br bz (by omega))
 refine Xm K6 (Xg Z (Xg Z Xl)) Z (Mv (show au.length = J.length by first | omega | simp only [List.length_set]) (Js _ au G _ _ _ _ (Cc dx (RowsA.setE (m := (⟨⟨(mAt J (E.run - 1).toNat).t.kind, (mAt J (E.run - 1).toNat).t.lab, (mAt J (E.run - 1).toNat).t.ve, (mAt G (E.run - 1).toNat).t.num, (mAt J (E.run - 1).toNat).t.slots, (mAt J (E.run - 1).toNat).t.queue, (mAt J (E.run - 1).toNat).t.to⟩, (mAt J (E.run - 1).toNat).sa, (mAt J (E.run - 1).toNat).sc, (mAt J (E.run - 1).toNat).qa, (mAt J (E.run - 1).toNat).qc⟩ : MTh)) a9 (RowsA.of (TabG.at (TabG.ge (TabG.low (TabG.ge bj bd ca (by omega)) bl) br ca (by omega)))) (by omega) ⟨Z, Z, Z, Z, Z, Z⟩)) (TabG.at cv) (TabLen.setnE (m := (⟨⟨(mAt J (E.run - 1).toNat).t.kind, (mAt J (E.run - 1).toNat).t.lab, (mAt J (E.run - 1).toNat).t.ve, (mAt G (E.run - 1).toNat).t.num, (mAt J (E.run - 1).toNat).t.slots, (mAt J (E.run - 1).toNat).t.queue, (mAt J (E.run - 1).toNat).t.to⟩, (mAt J (E.run - 1).toNat).sa, (mAt J (E.run - 1).toNat).sc, (mAt J (E.run - 1).toNat).qa, (mAt J (E.run - 1).toNat).qc⟩ : MTh)) a9 bk (by omega) Z Z) aj (by first | omega | (simp only [List.length_set]; omega)) (by omega))) ?_
 rintro _ fv ⟨rfl, dl⟩
 refine Xo (v := vb (decide (tabT au = tabT G))) Z bm Z Z (Xf (v := vb (decide (tabT au = tabT G))) Z Z (Xc (Xt (⟨vb (decide (tabT au = tabT G)), Yx Z Z, ?_, (low0 (low1 (low0 (low1 ce bd (by omega)) bl) br (by omega)) dl)⟩))))
 subst a9
 exact congrArg Value.bool (decide_eq_true (Ot am ab cf.2 Z))
end Go.Proofs.YtlhhijnmacogcaaGreatDoor
end
