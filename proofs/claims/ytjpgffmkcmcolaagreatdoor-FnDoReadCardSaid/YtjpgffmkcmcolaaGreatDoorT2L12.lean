/- Laws and walks: my templates, and what a program of mine (gen.py) printed out of the functions; only what the row reaches. -/
import Derived.Test.YtjpgffmkcmcolaaGreatDoorT25
section
namespace Go.Dw
set_option linter.unusedVariables false
set_option linter.unusedSimpArgs false
section
variable {ts : List Th} {q : Cl}
theorem W2 (hp : callPoss ts q = true) (h : 0 ≤ doAns ts q) : check1 ts q = 0 := by
  have hr := Kj ts q
  by_cases h0 : check1 ts q < 0
  · have := (Wl h0).1
    omega
  · omega
theorem Ht (hp : callPoss ts q = true) (h0 : check1 ts q = 0) (h3 : ¬ q.kind = 3) : (1 ≤ (slotAt ts q.run q.a).th ∧ (slotAt ts q.run q.a).th ≤ (ts.length : Int)) ∧ kindFor q.kind (thAt ts (slotAt ts q.run q.a).th).kind = true ∧ (need0 q.kind = true → sees ts q.run (slotAt ts q.run q.a).th = true) := by
  have e := Jr hp
  have h := Ni (ts := ts) (q := q) (by omega) h3
  exact ⟨h.1, h.2.1, (Rj (ts := ts) (q := q) (by omega) (by omega) h3).1⟩
theorem R3 (hp : callPoss ts q = true) : callPoss (doCall ts q).1 q = true := by
  obtain ⟨hT, hc, hr⟩ := Yh hp
  have h := Uj hp
  have hr := Qn hr
  unfold callPoss
  rw [h.1, hc, Mu (by rw [h.2.1]; exact hr.1) ((h.2.2 _ hr.1.1).trans hr.2)]
  rfl
def Kept (n : Int) (a b : Th) : Prop := (a.kind = 1 → b.num = a.num ∨ b.num = 0 ∨ b.num = n ∨ b.num = n % 2) ∧ ∀ v ∈ b.queue, v = n ∨ v ∈ a.queue
theorem Kept.refl (n : Int) (a : Th) : Kept n a a := ⟨fun _ => Or.inl rfl, fun _ h => Or.inr h⟩
section
variable {ms xs : List MTh}
theorem Nc (hp : callPoss (tabT ms) q = true) : (callDo (tabT ms) q).2 = doAns (tabT ms) q := by rw [Qs hp, Um]
theorem Hi (ht : tabT xs = (callDo (tabT ms) q).1) (hp : callPoss (tabT ms) q = true) : (mAt xs (q.run - 1).toNat).t.slots.length = 4 := by
  have h := R3 hp
  have h2 := (Yh h)
  rw [← Qs hp, ← ht] at h2
  exact Qp h2.1 h2.2.2
end
end
end Go.Dw
end
section
namespace Go.Dw
set_option linter.unusedVariables false
set_option linter.unusedSimpArgs false
def RowsA (w : World) (l : List MTh) : Prop := ∀ m ∈ l, ThAt w m
theorem RowsA.of {w : World} {a : Option Addr} {l : List MTh} (h : TabAt w a l) : RowsA w l := h.2
theorem RowsA.set {w : World} {l : List MTh} {i : Nat} {m : MTh} (h : RowsA w l) (hi : i < l.length) (e : m.sa = (mAt l i).sa ∧ m.sc = (mAt l i).sc ∧ m.qa = (mAt l i).qa ∧ m.qc = (mAt l i).qc ∧ m.t.slots = (mAt l i).t.slots ∧ m.t.queue = (mAt l i).t.queue) : RowsA w (l.set i m) := fun x hx => by
  rcases List.mem_or_eq_of_mem_set hx with h1 | rfl
  · exact h x h1
  · have := h _ (List.mem_of_getElem? (J5 hi))
    unfold ThAt at this ⊢
    rw [e.1, e.2.1, e.2.2.1, e.2.2.2.1, e.2.2.2.2.1, e.2.2.2.2.2]
    exact this
theorem RowsA.setn {w : World} {l : List MTh} {i : Nat} {m : MTh} (h : RowsA w l) (hm : ThAt w m) : RowsA w (l.set i m) := fun x hx => by
  rcases List.mem_or_eq_of_mem_set hx with h1 | rfl
  · exact h x h1
  · exact hm
theorem Bf {w : World} {Y T cap : Nat} {l : List MTh} (ho : Own w Y T 8 cap l.length (l.flatMap MTh.cells)) (h : RowsA w l) : TabAt w (some ⟨Y, 0, none⟩) l := ⟨Own.sl Yo ho, h⟩
theorem Dr {w : World} {a : Option Addr} {l : List MTh} (h : TabAt w a l) (hn : 0 < l.length) : ¬ a = none := fun e => by
  obtain ⟨x, hx⟩ := Jn hn
  obtain ⟨b, q, o, ha, _, _⟩ := SlAt.at h.1 (Yi hx)
  rw [e] at ha
  cases ha
theorem TabLen.setn {l : List MTh} {i : Nat} {m : MTh} (h : TabLen l) (hi : i < l.length) (e1 : m.t.slots = (mAt l i).t.slots) (e2 : m.t.queue = (mAt l i).t.queue) : TabLen (l.set i m) := fun x hx => by
  rcases List.mem_or_eq_of_mem_set hx with h1 | rfl
  · exact h x h1
  · rw [e1, e2]
    exact h _ (List.mem_of_getElem? (J5 hi))
theorem Mn {P : Program} {k : FuncId} {a : Option Addr} {c n m : Nat} {u : Value} {w : World} {R : Value → World → Prop} (h : m = n) (hc : CallsR P k #[.slice a m c, u] w R) : CallsR P k #[.slice a n c, u] w R := h ▸ hc
theorem C4 {Y b n : Nat} (h : (some ⟨Y, 0, none⟩ : Option Addr).map (·.block) = (some ⟨b, 0, none⟩ : Option Addr).map (·.block) ∨ (some ⟨Y, 0, none⟩ : Option Addr).map (·.block) = some n) : Y = b ∨ Y = n := by simpa using h
section
variable {ms xs : List MTh} {q : Cl}
theorem I1 (ht : tabT xs = (callDo (tabT ms) q).1) (hp : callPoss (tabT ms) q = true) (hpre : doPre (tabT ms) q = tabT ms) {m' : MTh} (h : m'.t = { (mAt xs (q.run - 1).toNat).t with num := (mAt ms (q.run - 1).toNat).t.num }) : tabT (xs.set (q.run - 1).toNat m') = tabT ms := by
  have hr := (Qn (Yh hp).2.2).1
  have e : tabT xs = setNum (tabT ms) q.run (doAns (tabT ms) q) := by rw [ht, Qs hp, U8, hpre]
  rw [Sd, h, Qw, Qw, e]
  exact Sc hr
theorem Oj (ht : tabT xs = (callDo (tabT ms) q).1) (hp : callPoss (tabT ms) q = true) (h : ((!decide (q.kind = 1)) || decide ((callDo (tabT ms) q).2 < 0)) = false) :
    (1 ≤ (rAt (mAt ms (q.run - 1).toNat).t.slots q.a.toNat).th ∧ (rAt (mAt ms (q.run - 1).toNat).t.slots q.a.toNat).th ≤ (ms.length : Int)) ∧ (callDo (tabT ms) q).2 = (mAt ms ((rAt (mAt ms (q.run - 1).toNat).t.slots q.a.toNat).th - 1).toNat).t.num ∧ doPre (tabT ms) q = tabT ms := by
  simp only [Bool.or_eq_false_iff, Bool.not_eq_false', decide_eq_true_eq, decide_eq_false_iff_not] at h
  have ha : 0 ≤ doAns (tabT ms) q := by rw [← Nc hp]; omega
  have hw := D8 hp h.1 ha
  have hf := Ht hp (W2 hp ha) (by omega)
  rw [Qd] at hf
  rw [Jq, Nc hp, Qw]
  exact ⟨hf.1, hw⟩
end
end Go.Dw
end
section
namespace Go.Proofs.YtjpgffmkcmcolaaGreatDoor
open Go.RowKit Go.Dw
set_option maxRecDepth 100000
set_option maxHeartbeats 4000000
set_option linter.unusedSimpArgs false
set_option linter.unusedVariables false
theorem Va : goFn Tryz.prog 15 = true := by kernel_rfl
theorem Vb : goFn Tryz.prog 16 = true := by kernel_rfl
theorem K8 : goFn Tryz.prog 17 = true := by kernel_rfl
theorem Kc : goFn Tryz.prog 18 = true := by kernel_rfl
theorem Vc : goFn Tryz.prog 19 = true := by kernel_rfl
theorem law_FnDoRead (bs : List Int) (a : Option Addr) (c : Nat) (w : World) (eu : SlAt w a 1 (bs.map bcell)) (hb : ∀ b ∈ bs, 0 ≤ b ∧ b ≤ 255) (hn : bs.length ≤ 9223372036854775807) (hc : bs.length ≤ c) (hE : ErrT w) : CallsR Tryz.prog 14 #[.slice a bs.length c] w (fun v w' => v = .bool true ∧ w.grownBy w' none) := by
 refine Xx (n := 100) Tryz.func14 Z Tryz.ntmps14 Z ?_
 have dt := World.grownBy.refl w none
 have hs := SlAt.lt Kl (by omega) eu
 refine Xa (Xe (v := vb false) Z Z (Xc (Xq (Xa (Xb (v := .slice a bs.length c) Z Z (Yu (by kernel_rfl) Z Z (Jd (q := decide (1048576 < (bs.length : Int))) Z Z Z Z (Xc (Xy Z (fun az => ?_) (fun az => ?_))))))))))
 have fy := of_decide_eq_true az
 refine Xa (Xe (v := vb true) Z Z (Xc (Xt (Yk (⟨vb true, Yp Z Z, ?_, dt⟩)))))
 rfl
 have fz := of_decide_eq_false az
 refine Xw (Xu (Xa (Xb (v := .slice a bs.length c) Z Z (Xl Va (Xg Z Xk) Z (J0 bs a c _ (SlAt.low eu dt) hb (by omega) (by omega)) ?_))))
 rintro _ gj ⟨V, O, J, E, rfl, av, da, e0, fu, dw⟩
 have cf := low0 dt dw
 have af := da.len
 refine Xb (v := .tuple #[.slice (pa V) J.length O, .agg #[vi E.kind, vi E.run, vi E.a, vi E.b, vi E.n]]) Z Z (X4 (v := .slice (pa V) J.length O) Z Z Z (X4 (v := .agg #[vi E.kind, vi E.run, vi E.a, vi E.b, vi E.n]) Z Z Z (Ye (cs := #[vi 0, vi 0, vi 0, vi 0, vi 0]) Uh Z Z ?_)))
 intro bf gk ab
 have fc := Yj ab cf
 refine Xe (v := .slice (pa V) J.length O) Z Z (X0 (vs := [vi E.kind, vi E.run, vi E.a, vi E.b, vi E.n]) (cs' := #[vi E.kind, vi E.run, vi E.a, vi E.b, vi E.n]) Y1 Z Z Z (by simp [Value.oneCell']) ab.blk (Nat.le_of_ble_eq_true Z) Z ?_)
 intro gl ah
 refine Xc (Xa (Xb (v := .slice (pa V) J.length O) Z Z (Xp (vs := [vi E.kind, vi E.run, vi E.a, vi E.b, vi E.n]) Y1 Z Z (ah.blk.rangeL 0 5 Z) Z ?_)))
 have fi := (ah.blk).lt
 refine Xl Vb (Xg Z (Xg Z Xk)) Z (Ku E _ J _ _ (TabG.at (TabG.low av (low1 ab.grw ah.grw (nt ((World.grownBy.refl _ none)).size (Nat.le_of_eq ab.eq.symm))))) af (by omega)) ?_
 rintro _ gm ⟨bn, ap, ao, rfl, cz, bd, ba⟩
 have cg := low0 (low1 (low0 cf ab.grw) ah.grw (by omega)) ba
 have bx := Q3 bd
 have fm := Qo bd
 refine Xb (v := .tuple #[.slice (pa bn) ao.length ap, vi (callDo (tabT J) E).2]) Z Z (X4 (v := .slice (pa bn) ao.length ap) Z Z Z (X4 (v := vi (callDo (tabT J) E).2) Z Z Z (Xe (v := .slice (pa bn) ao.length ap) Z Z (Xe (v := vi (callDo (tabT J) E).2) Z Z (Xc (Xa (Xb (v := .slice (pa V) J.length O) Z Z ?_)))))))
 have cl := (ah.blk.grown0 ba)
 refine Xp (vs := [vi E.kind, vi E.run, vi E.a, vi E.b, vi E.n]) Y1 Z Z (cl.rangeL 0 5 Z) Z ?_
 have fj := (cl).lt
 refine Xl K8 (Xg Z (Xg Z Xk)) Z (K2 E _ J _ _ (TabG.at (TabG.low av (low0 (low1 ab.grw ah.grw (nt ((World.grownBy.refl _ none)).size (Nat.le_of_eq ab.eq.symm))) ba))) af (by omega) (ErrT.grown0 hE cg)) ?_
 rintro _ gp ⟨be, ad, G, rfl, bg, ak, bb⟩
 have bj := Q3 ak
 have fo := Qo ak
 refine Xb (v := .tuple #[.slice be G.length ad, vi (callDo (tabT J) E).2]) Z Z (X4 (v := .slice be G.length ad) Z Z Z (X4 (v := vi (callDo (tabT J) E).2) Z Z Z (Xe (v := .slice be G.length ad) Z Z (Xe (v := vi (callDo (tabT J) E).2) Z Z (Xc (Xq (Xa (Xb (v := vi (callDo (tabT J) E).2) Z Z (Xb (v := vi (callDo (tabT J) E).2) Z Z (Y8 (q := false) Z Z (by simp) Z (Xb (v := vb false) Z Z (Xf Z Z Z Z ?_))))))))))))
 refine Xb (v := .slice be G.length ad) Z Z (Xf Z Z Z Z (Xb (v := .slice (pa bn) ao.length ap) Z Z (Xf Z Z Z Z ?_)))
 have bh := (TabG.low cz bb)
 refine Xl Kc (Xg Z (Xg Z Xk)) Z (Q9 _ G ao _ _ _ _ (TabG.at bg) (TabG.at bh) bj bx (by omega) (by omega)) ?_
 rintro _ gq ⟨rfl, ai⟩
 refine Xf Z Z Z Z (Yl (b' := false) (congrArg Value.bool (decide_eq_true (ak.trans bd.symm))) Z Z (Xo (v := vb false) Z Z Z Z (Xb (v := vb false) Z Z (Xf Z Z Z Z (Xb (v := .slice (pa V) J.length O) Z Z (Xf Z Z Z Z ?_))))))
 have cm := ((cl.grown0 bb).grown0 ai)
 refine Xp (vs := [vi E.kind, vi E.run, vi E.a, vi E.b, vi E.n]) Y1 Z Z (cm.rangeL 0 5 Z) Z (Xf Z Z Z Z (Xl Vc (Xg Z (Xg Z Xk)) Z (Vl E _ J _ _ (TabG.at (TabG.low av (low0 (low0 (low0 (low1 ab.grw ah.grw (nt ((World.grownBy.refl _ none)).size (Nat.le_of_eq ab.eq.symm))) ba) bb) ai))) af (by omega)) ?_))
 rintro _ di ⟨rfl, aj⟩
 have bk := low0 (low0 (low0 cg bb) ai) aj
 refine Xf Z Z Z Z (Yl (b' := !callPoss (tabT J) E) Z Z Z (Xo (v := vb (!callPoss (tabT J) E)) Z Z Z Z (Xc (Xy Z (fun a8 => ?_) (fun a8 => ?_)))))
 have f8 := Q2 a8
 refine Xa (Xb (v := vi (callDo (tabT J) E).2) Z Z (Xb (v := vi (callDo (tabT J) E).2) Z Z (X3 (q := true) Z Z (by simp) Z (Xb (v := vb true) Z Z (Xf Z Z Z Z (Xb (v := .slice be G.length ad) Z Z (Xf Z Z Z Z (Xb (v := .slice (pa bn) ao.length ap) Z Z (Xf Z Z Z Z (Xl Kc (Xg Z (Xg Z Xk)) Z (Q9 _ G ao _ _ _ _ (TabG.at (TabG.low (TabG.low bg ai) aj)) (TabG.at (TabG.low (TabG.low bh ai) aj)) bj bx (by omega) (by omega)) ?_))))))))))
 rintro _ gr ⟨rfl, dx⟩
 refine Xs (v := vb true) Z Z (congrArg Value.bool (decide_eq_true (ak.trans bd.symm))) Z (Xe (v := vb true) Z Z (Xc (Xt (Yk (⟨vb true, Yp Z Z, ?_, (low0 bk dx)⟩)))))
 rfl
 have ag := Qx a8
 obtain ⟨aq, a9, am⟩ := Yh ag
 have fa := Yq a9
 have fb := (Y3 am).1
 have fr := Qp aq am
 have fk := Jb aq
 have hde := Qs ag
 have hrk := Qn (Yh ag).2.2
 have fp := Q1 bd ag
 have fq := Q1 ak ag
 obtain ⟨hi, hhi⟩ : ∃ n, n = di.heap.size := ⟨_, rfl⟩
 have bu := (TabG.low av (low0 (low0 (low0 (low0 (low1 ab.grw ah.grw (nt ((World.grownBy.refl _ none)).size (Nat.le_of_eq ab.eq.symm))) ba) bb) ai) aj))
 have cd := TabG.hi bu
 rw [← hhi] at cd
 have ep := TabG.hi (TabG.low (TabG.low bh ai) aj)
 rw [← hhi] at ep
 have bv := (TabG.low (TabG.low bg ai) aj)
 have ce := TabG.hi bv
 rw [← hhi] at ce
 have ez := Hi ak ag
 refine Xw (Xu (Xq (X7 (fun f' w' => (f' 2 = vb false ∧ f' 3 = .slice (pa V) J.length O ∧ f' 4 = pt bf 0 ∧ f' 7 = .slice be G.length ad ∧ f' 8 = vi (callDo (tabT J) E).2 ∧ f' 59 = vb ((!(decide (E.kind = 1))) || (decide ((callDo (tabT J) E).2 < 0)))) ∧ di = w') ?_ ?_)))
 refine Xd (o' := 0) Ja Z Z Z (Xh (v := vi E.kind) X1 Z ((cm.grown0 aj).cell Z) Z (Y8 (q := !(decide (E.kind = 1))) Z Z Z Z (Xb (v := vb (!(decide (E.kind = 1)))) Z Z ?_)))
 rcases Yf (!(decide (E.kind = 1))) with ac | ac
 have ca := Q2 ac
 have f9 := of_decide_eq_false ca
 exact Xi Z Z Z ac Z (Xi Z Z Z ac Z (Xs (v := vb true) Z ac Z Z (Xc ⟨⟨Z, Z, Z, Z, Z, (congrArg Value.bool (by first | (simp only [az, a8, ag, ac, ca, aq, a9, am, b0, b1, b2, b3, b4, b5, b6, b7, b8, b9]; done) | simp [az, a8, ag, ac, ca, aq, a9, am]))⟩, Z⟩)))
 have cc := Qx ac
 have ga := of_decide_eq_true cc
 exact Xf Z Z Z ac (Xb (v := vi (callDo (tabT J) E).2) Z Z (Xf Z Z Z ac (Qa (q := decide ((callDo (tabT J) E).2 < 0)) Z Z Z Z (Xo (v := vb (decide ((callDo (tabT J) E).2 < 0))) Z ac Z Z (Xc ⟨⟨Z, Z, Z, Z, Z, (congrArg Value.bool (by first | (simp only [az, a8, ag, ac, cc, aq, a9, am, b0, b1, b2, b3, b4, b5, b6, b7, b8, b9]; done) | simp [az, a8, ag, ac, cc, aq, a9, am]))⟩, Z⟩)))))
 rintro fx gt ⟨⟨fw, bq, br, eh, ei, ej⟩, rfl⟩
 refine Xy ej (fun bt => ?_) (fun bt => ?_)
 refine Xa (Xe (v := vb true) Z Z (Xc (Xt (Yk (⟨vb true, Yp Z Z, ?_, bk⟩)))))
 rfl
 obtain ⟨ft, du, dv⟩ := Oj ak ag bt
 have bm : (decide ((callDo (tabT J) E).2 = (mAt J ((rAt (mAt J (E.run - 1).toNat).t.slots (E.a).toNat).th - 1).toNat).t.num)) = true := decide_eq_true du
 have ek := Kq bt
 have em := Qx ek
 have gb := of_decide_eq_true em
 have eo := Kr bt
 have gc := of_decide_eq_false eo
 refine Xw (Xu (Xa (Ya (ps := []) (e := 38) (cs := (([] : List MTh).flatMap MTh.cells).toArray) X8 (fun _ => by kernel_rfl) Z ?_)))
 intro db ex ae
 have fd := Yj ae bk
 have ck : hi ≤ db := nt (Nat.le_of_eq hhi) (Nat.le_of_eq ae.eq.symm)
 have dh := (cm.grown0 aj)
 have cx := Xr ae (dh).lt
 have cj := low0 bk ae.grw
 refine Xb (v := .slice be G.length ad) eh Z ?_
 have bp := (dh.grown0 ae.grw)
 have bi := (TabG.low bv ae.grw)
 refine Jp (g := MTh.cells) (ys := []) (zs := G) (lo := hi) T5 Z Yo (by omega) Kv Z Z (OwnN.of (Own.rows Yo ae.blk (by simp)) ck) (TabG.at bi).1 (fun h => absurd h (Dr (TabG.at bi) (by omega))) (by simp only [List.length_nil]; omega) (by omega) (nt (Nat.le_of_eq hhi) ae.grw.size) Z ?_
 intro fv al cw dk dy bz
 have an : World.grownBy ex cw (some db) := dy
 obtain ⟨au, rfl, er, dm⟩ := OwnN.some_ dk (lq 0 G.length)
 have fe : w.heap.size ≤ au := by have h2 := C4 bz; have h3 := (cj).size; omega
 have cy : bf ≠ au := by have h := (bp).lt; have h2 := C4 bz; omega
 refine Xe (v := .slice (pa au) G.length al) Z Z (Xc (Xq ?_))
 have bw := (TabG.ge (TabG.low bu ae.grw) an cd (by omega))
 obtain ⟨dc, gf, cn, dn, d8, ed⟩ := SlAt.at (TabG.at bw).1 (Yi (xg J (E.run - 1).toNat))
 have ff := TabLen.at af (xg J (E.run - 1).toNat)
 refine Yw (m := 11) (vals := [(63, .slice (pa au) G.length al), (64, pt bf 1), (65, vi E.run), (66, vi (E.run - 1)), (67, .slice (pa V) J.length O), (68, pt bf 1), (69, vi E.run), (70, vi (E.run - 1)), (71, pt dc cn), (72, pt dc (cn + 4)), (73, vi (mAt J (E.run - 1).toNat).t.num)]) (fun w' => cw.grownBy w' none) Yy (by kernel_rfl) (X6 _) ?_ ?_
 refine yl Z (fun _ _ k => Xb (v := .slice (pa au) G.length al) Z Z k) (yl Z (fun _ _ k => Xd (o' := 1) Qv br Z Z k) (yl Z (fun _ d0 k => Xh (v := vi E.run) X1 Z (((bp.gn an).grown0 d0).cell Z) Z k) (yl Z (fun _ _ k => Ys (c := E.run - 1) Z Z (by omega) (by omega) (by omega) Z k) (yl Z (fun _ _ k => Xb (v := .slice (pa V) J.length O) bq Z k) (yl Z (fun _ _ k => Xd (o' := 1) Qv br Z Z k) (yl Z (fun _ d1 k => Xh (v := vi E.run) X1 Z (((bp.gn an).grown0 d1).cell Z) Z k) (yl Z (fun _ _ k => Ys (c := E.run - 1) Z Z (by omega) (by omega) (by omega) Z k) (yl Z (fun _ _ k => Xz Y2 Z Z dn d8 (by omega) (by omega) Z k) (yl Z (fun _ _ k => Xd (o' := cn + 4) Q6 Z Z Z k) (yl Z (fun _ d2 k => Xh (v := vi (mAt J (E.run - 1).toNat).t.num) X1 Z ((X9 ed d2) 4 _ Z) Z k) ?_))))))))))
 exact Y5
 intro gu ar
 refine Yb (o' := (E.run - 1).toNat * 8) Y2 Z Z (by omega) (by omega) (by omega) Z (Xd (o' := (E.run - 1).toNat * 8 + 4) Q6 Z Z Z (Jj (g := MTh.cells) (j := 4) (z := (mAt G (E.run - 1).toNat)) (z' := (⟨⟨(mAt G (E.run - 1).toNat).t.kind, (mAt G (E.run - 1).toNat).t.lab, (mAt G (E.run - 1).toNat).t.ve, (mAt J (E.run - 1).toNat).t.num, (mAt G (E.run - 1).toNat).t.slots, (mAt G (E.run - 1).toNat).t.queue, (mAt G (E.run - 1).toNat).t.to⟩, (mAt G (E.run - 1).toNat).sa, (mAt G (E.run - 1).toNat).sc, (mAt G (E.run - 1).toNat).qa, (mAt G (E.run - 1).toNat).qc⟩ : MTh)) (v := vi (mAt J (E.run - 1).toNat).t.num) X1 Z Z Z Yo ((show Dw.Own cw au 38 8 al G.length (G.flatMap MTh.cells) from dm).grown0 ar) (xg G (E.run - 1).toNat) (by omega) Z Z ?_))
 intro ey dl bc
 refine Xc (Xu (Xq ?_))
 have aw := (TabG.ge (TabG.low bw ar) bc cd (by omega))
 obtain ⟨de, gg, co, dp, d9, ee⟩ := SlAt.at (TabG.at aw).1 (Yi (xg J (E.run - 1).toNat))
 have fg := TabLen.at af (xg J (E.run - 1).toNat)
 obtain ⟨df, gh, ct, dq, ea, ef⟩ := SlAt.at (TabAt.th (TabG.at aw) (xg J (E.run - 1).toNat)).1 (Yi (xr (mAt J (E.run - 1).toNat).t.slots (E.a).toNat))
 obtain ⟨dg, gi, cv, dr, eb, eg⟩ := SlAt.at (TabG.at aw).1 (Yi (xg J ((rAt (mAt J (E.run - 1).toNat).t.slots (E.a).toNat).th - 1).toNat))
 have fh := TabLen.at af (xg J ((rAt (mAt J (E.run - 1).toNat).t.slots (E.a).toNat).th - 1).toNat)
 refine Yw (m := 22) (vals := [(76, vi (callDo (tabT J) E).2), (77, .slice (pa V) J.length O), (78, .slice (pa V) J.length O), (79, pt bf 1), (80, vi E.run), (81, vi (E.run - 1)), (82, pt de co), (83, pt de (co + 5)), (84, .slice (mAt J (E.run - 1).toNat).sa (mAt J (E.run - 1).toNat).t.slots.length (mAt J (E.run - 1).toNat).sc), (85, pt bf 2), (86, vi E.a), (87, pt df ct), (88, pt df ct), (89, vi (rAt (mAt J (E.run - 1).toNat).t.slots (E.a).toNat).th), (90, vi ((rAt (mAt J (E.run - 1).toNat).t.slots (E.a).toNat).th - 1)), (91, pt dg cv), (92, pt dg (cv + 4)), (93, vi (mAt J ((rAt (mAt J (E.run - 1).toNat).t.slots (E.a).toNat).th - 1).toNat).t.num), (94, vb (decide ((callDo (tabT J) E).2 = (mAt J ((rAt (mAt J (E.run - 1).toNat).t.slots (E.a).toNat).th - 1).toNat).t.num))), (95, vb (decide ((callDo (tabT J) E).2 = (mAt J ((rAt (mAt J (E.run - 1).toNat).t.slots (E.a).toNat).th - 1).toNat).t.num))), (96, .slice (pa au) G.length al), (97, .slice (pa V) J.length O)]) (fun w' => ey.grownBy w' none) Yy (by kernel_rfl) (X6 _) ?_ ?_
 refine yl Z (fun _ _ k => Xb (v := vi (callDo (tabT J) E).2) ei Z k) (yl Z (fun _ _ k => Xb (v := .slice (pa V) J.length O) bq Z k) (yl Z (fun _ _ k => Xb (v := .slice (pa V) J.length O) bq Z k) (yl Z (fun _ _ k => Xd (o' := 1) Qv br Z Z k) (yl Z (fun _ d3 k => Xh (v := vi E.run) X1 Z (((((bp.gn an).grown0 ar).gn bc).grown0 d3).cell Z) Z k) (yl Z (fun _ _ k => Ys (c := E.run - 1) Z Z (by omega) (by omega) (by omega) Z k) (yl Z (fun _ _ k => Xz Y2 Z Z dp d9 (by omega) (by omega) Z k) (yl Z (fun _ _ k => Xd (o' := co + 5) Qj Z Z Z k) (yl Z (fun _ d4 k => Xh (v := .slice (mAt J (E.run - 1).toNat).sa (mAt J (E.run - 1).toNat).t.slots.length (mAt J (E.run - 1).toNat).sc) Jh Z ((X9 ee d4) 5 _ Z) Z k) (yl Z (fun _ _ k => Xd (o' := 2) Km br Z Z k) (yl Z (fun _ d5 k => Xh (v := vi E.a) X1 Z (((((bp.gn an).grown0 ar).gn bc).grown0 d5).cell Z) Z k) ?_))))))))))
 refine yl Z (fun _ _ k => Xz Ka Z Z dq ea (by omega) (by omega) Z k) (yl Z (fun _ _ k => Xd (o' := ct) Yz Z Z Z k) (yl Z (fun _ d6 k => Xh (v := vi (rAt (mAt J (E.run - 1).toNat).t.slots (E.a).toNat).th) X1 Z ((X9 ef d6) 0 _ Z) Z k) (yl Z (fun _ _ k => Ys (c := (rAt (mAt J (E.run - 1).toNat).t.slots (E.a).toNat).th - 1) Z Z (by omega) (by omega) (by omega) Z k) (yl Z (fun _ _ k => Xz Y2 Z Z dr eb (by omega) (by omega) Z k) (yl Z (fun _ _ k => Xd (o' := cv + 4) Q6 Z Z Z k) (yl Z (fun _ d7 k => Xh (v := vi (mAt J ((rAt (mAt J (E.run - 1).toNat).t.slots (E.a).toNat).th - 1).toNat).t.num) X1 Z ((X9 eg d7) 4 _ Z) Z k) (yl Z (fun _ _ k => X3 (q := decide ((callDo (tabT J) E).2 = (mAt J ((rAt (mAt J (E.run - 1).toNat).t.slots (E.a).toNat).th - 1).toNat).t.num)) Z Z Z Z k) (yl Z (fun _ _ k => Xb (v := vb (decide ((callDo (tabT J) E).2 = (mAt J ((rAt (mAt J (E.run - 1).toNat).t.slots (E.a).toNat).th - 1).toNat).t.num))) Z Z k) (yl Z (fun _ _ k => Xf Z Z Z bm (Xb (v := .slice (pa au) G.length al) Z Z k)) (yl Z (fun _ _ k => Xf Z Z Z bm (Xb (v := .slice (pa V) J.length O) bq Z k)) ?_))))))))))
 exact Y5
 intro gv bl
 refine Xf Z Z Z bm ?_
 have c8 := (TabG.low (TabG.ge (TabG.low (TabG.ge bi an ce (by omega)) ar) bc ce (by omega)) bl)
 have ew := (dl.grown0 bl)
 have c9 := (TabG.low aw bl)
 refine Xl Kc (Xg Z (Xg Z Xk)) Z (Mn (show (G.set (E.run - 1).toNat (⟨⟨(mAt G (E.run - 1).toNat).t.kind, (mAt G (E.run - 1).toNat).t.lab, (mAt G (E.run - 1).toNat).t.ve, (mAt J (E.run - 1).toNat).t.num, (mAt G (E.run - 1).toNat).t.slots, (mAt G (E.run - 1).toNat).t.queue, (mAt G (E.run - 1).toNat).t.to⟩, (mAt G (E.run - 1).toNat).sa, (mAt G (E.run - 1).toNat).sc, (mAt G (E.run - 1).toNat).qa, (mAt G (E.run - 1).toNat).qc⟩ : MTh)).length = G.length by simp only [List.length_set]) (Q9 _ (G.set (E.run - 1).toNat (⟨⟨(mAt G (E.run - 1).toNat).t.kind, (mAt G (E.run - 1).toNat).t.lab, (mAt G (E.run - 1).toNat).t.ve, (mAt J (E.run - 1).toNat).t.num, (mAt G (E.run - 1).toNat).t.slots, (mAt G (E.run - 1).toNat).t.queue, (mAt G (E.run - 1).toNat).t.to⟩, (mAt G (E.run - 1).toNat).sa, (mAt G (E.run - 1).toNat).sc, (mAt G (E.run - 1).toNat).qa, (mAt G (E.run - 1).toNat).qc⟩ : MTh)) J _ _ _ _ (Bf ew (RowsA.set (m := (⟨⟨(mAt G (E.run - 1).toNat).t.kind, (mAt G (E.run - 1).toNat).t.lab, (mAt G (E.run - 1).toNat).t.ve, (mAt J (E.run - 1).toNat).t.num, (mAt G (E.run - 1).toNat).t.slots, (mAt G (E.run - 1).toNat).t.queue, (mAt G (E.run - 1).toNat).t.to⟩, (mAt G (E.run - 1).toNat).sa, (mAt G (E.run - 1).toNat).sc, (mAt G (E.run - 1).toNat).qa, (mAt G (E.run - 1).toNat).qc⟩ : MTh)) (RowsA.of (TabG.at c8)) (by omega) ⟨Z, Z, Z, Z, Z, Z⟩)) (TabG.at c9) (TabLen.setn (m := (⟨⟨(mAt G (E.run - 1).toNat).t.kind, (mAt G (E.run - 1).toNat).t.lab, (mAt G (E.run - 1).toNat).t.ve, (mAt J (E.run - 1).toNat).t.num, (mAt G (E.run - 1).toNat).t.slots, (mAt G (E.run - 1).toNat).t.queue, (mAt G (E.run - 1).toNat).t.to⟩, (mAt G (E.run - 1).toNat).sa, (mAt G (E.run - 1).toNat).sc, (mAt G (E.run - 1).toNat).qa, (mAt G (E.run - 1).toNat).qc⟩ : MTh)) bj (by omega) Z Z) af (by simp only [List.length_set]; omega) (by omega))) ?_
 rintro _ gw ⟨rfl, dz⟩
 refine Xs (v := vb (decide (tabT (G.set (E.run - 1).toNat (⟨⟨(mAt G (E.run - 1).toNat).t.kind, (mAt G (E.run - 1).toNat).t.lab, (mAt G (E.run - 1).toNat).t.ve, (mAt J (E.run - 1).toNat).t.num, (mAt G (E.run - 1).toNat).t.slots, (mAt G (E.run - 1).toNat).t.queue, (mAt G (E.run - 1).toNat).t.to⟩, (mAt G (E.run - 1).toNat).sa, (mAt G (E.run - 1).toNat).sc, (mAt G (E.run - 1).toNat).qa, (mAt G (E.run - 1).toNat).qc⟩ : MTh)) = tabT J))) Z bm Z Z (Xe (v := vb (decide (tabT (G.set (E.run - 1).toNat (⟨⟨(mAt G (E.run - 1).toNat).t.kind, (mAt G (E.run - 1).toNat).t.lab, (mAt G (E.run - 1).toNat).t.ve, (mAt J (E.run - 1).toNat).t.num, (mAt G (E.run - 1).toNat).t.slots, (mAt G (E.run - 1).toNat).t.queue, (mAt G (E.run - 1).toNat).t.to⟩, (mAt G (E.run - 1).toNat).sa, (mAt G (E.run - 1).toNat).sc, (mAt G (E.run - 1).toNat).qa, (mAt G (E.run - 1).toNat).qc⟩ : MTh)) = tabT J))) Z Z (Xc (Xu (Xt (⟨vb (decide (tabT (G.set (E.run - 1).toNat (⟨⟨(mAt G (E.run - 1).toNat).t.kind, (mAt G (E.run - 1).toNat).t.lab, (mAt G (E.run - 1).toNat).t.ve, (mAt J (E.run - 1).toNat).t.num, (mAt G (E.run - 1).toNat).t.slots, (mAt G (E.run - 1).toNat).t.queue, (mAt G (E.run - 1).toNat).t.to⟩, (mAt G (E.run - 1).toNat).sa, (mAt G (E.run - 1).toNat).sc, (mAt G (E.run - 1).toNat).qa, (mAt G (E.run - 1).toNat).qc⟩ : MTh)) = tabT J)), Yp Z Z, ?_, (low0 (low0 (low1 (low0 (low1 cj an (by omega)) ar) bc (by omega)) bl) dz)⟩)))))
 exact congrArg Value.bool (decide_eq_true (I1 ak ag dv Z))
end Go.Proofs.YtjpgffmkcmcolaaGreatDoor
end
