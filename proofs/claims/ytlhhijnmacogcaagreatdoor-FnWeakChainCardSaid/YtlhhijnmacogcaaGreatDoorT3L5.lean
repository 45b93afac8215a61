/- Laws and walks: my templates, and what a program of mine (gen.py) printed out of the functions; only what the row reaches. -/
import Derived.Test.YtlhhijnmacogcaaGreatDoorT35
section
namespace Go.Dw
set_option linter.unusedVariables false
set_option linter.unusedSimpArgs false
section
variable {ts : List Th} {q : Cl}
theorem G8 (hp : callPoss ts q = true) (h : 0 ≤ doAns ts q) : check1 ts q = 0 := by
  have hr := Kl ts q
  by_cases h0 : check1 ts q < 0
  · have := (Ve h0).1
    omega
  · omega
theorem R3 (hp : callPoss ts q = true) (h0 : check1 ts q = 0) (h3 : ¬ q.kind = 3) : (1 ≤ (slotAt ts q.run q.a).th ∧ (slotAt ts q.run q.a).th ≤ (ts.length : Int)) ∧ kindFor q.kind (thAt ts (slotAt ts q.run q.a).th).kind = true ∧ (need0 q.kind = true → sees ts q.run (slotAt ts q.run q.a).th = true) := by
  have e := Qz hp
  have h := Hs (ts := ts) (q := q) (by omega) h3
  exact ⟨h.1, h.2.1, (Lp (ts := ts) (q := q) (by omega) (by omega) h3).1⟩
theorem K0 (hp : callPoss ts q = true) (h0 : check1 ts q = 0) (h3 : ¬ q.kind = 3) : FarOk ts q (slotAt ts q.run q.a) := by
  have h := R3 hp h0 h3
  obtain ⟨hT, hc, hr⟩ := Yd hp
  exact ⟨hT, hc, hr, h.1, h.2.1, h3⟩
theorem T0 (hp : callPoss ts q = true) {j : Int} (hj : 1 ≤ j) (hne : ¬ j = q.run) : thAt (doCall ts q).1 j = thAt (doPre ts q) j := by
  rw [Kn]
  unfold setNum
  rw [Jf (To hp) j hj, if_neg hne]
theorem S5 (hp : callPoss ts q = true) : thAt (doCall ts q).1 q.run = { thAt (doPre ts q) q.run with num := doAns ts q } := by
  rw [Kn]
  unfold setNum
  rw [Jf (To hp) q.run (To hp).1, if_pos rfl]
theorem Pg (hp : callPoss ts q = true) (h0 : check1 ts q = 0) (h3 : ¬ q.kind = 3) : ¬ (slotAt ts q.run q.a).th = q.run := fun e => by
  have h := R3 hp h0 h3
  have hr := (Qq (Yd hp).2.2).2
  have hc := Yw (Yd hp).2.1
  have hk := Q5 h.2.1 hc.1
  rw [e, hr] at hk
  omega
theorem Ha (hp : callPoss ts q = true) (h4 : q.kind = 4) (ha : 0 ≤ doAns ts q) : doAns ts q = 0 ∧ (1 ≤ (slotAt ts q.run q.a).th ∧ (slotAt ts q.run q.a).th ≤ (ts.length : Int)) ∧ (thAt ts (slotAt ts q.run q.a).th).kind = 2 ∧ thAt (doCall ts q).1 (slotAt ts q.run q.a).th = thAt ts (slotAt ts q.run q.a).th ∧ slotAt (doCall ts q).1 q.run q.b = fetched (slotAt ts (slotAt ts q.run q.a).th (q.n % 4)) (slotAt ts q.run q.a).wk := by
  have h3 : ¬ q.kind = 3 := by omega
  have h0 := G8 hp ha
  have hF := K0 hp h0 h3
  have hfd := R3 hp h0 h3
  have hc := Yw (Yd hp).2.1
  have hrun := Qq (Yd hp).2.2
  have e := Qz hp
  have hs := hfd.2.2 (by unfold need0; rw [if_pos (Or.inr h4)])
  have hl := W5 (ts := ts) (q := q) (by omega) h3 hs
  have hne := Pg hp h0 h3
  have h := Vl rfl h0 h3 hl hF
  have hf : far ts q (slotAt ts q.run q.a) = (putSl ts q.run q.b (fetched (slotAt ts (slotAt ts q.run q.a).th (q.n % 4)) (slotAt ts q.run q.a).wk), 0) := by
    unfold far
    rw [if_neg (by omega), if_neg (by omega), if_pos h4]
  rw [hf] at h
  refine ⟨by rw [h.1]; split <;> rfl, hF.th, (Q5 hfd.2.1 hc.1).2.2.1 h4, ?_, ?_⟩
  · rw [T0 hp hF.th.1 hne, h.2]
    show thAt (setTh ts _ _) _ = _
    rw [Jf hrun.1 _ hF.th.1, if_neg hne]
  · have h4s := Uv (Vk (Yd hp).1 hrun.1).1 (Or.inr hrun.2)
    unfold slotAt
    rw [S5 hp, h.2]
    show rAt (thAt (setTh ts _ _) q.run).slots q.b.toNat = _
    rw [Jf hrun.1 _ hrun.1.1, if_pos rfl]
    show rAt ((thAt ts q.run).slots.set q.b.toNat _) q.b.toNat = _
    unfold rAt
    rw [List.getD_eq_getElem?_getD, List.getElem?_set, if_pos rfl, if_pos (by omega)]
    rfl
theorem Lw {r : Rt} (h : rightOk r = true) : (fetched r true).wr = false := by
  unfold fetched l2Less
  rw [if_pos rfl]
  split
  · rename_i h0
    rw [P1 h (decide_eq_true h0)]
    rfl
  · simp
theorem Ta {r : Rt} (h : rightOk r = true) : fetched r true = rightLess r true false false := by
  unfold fetched rightLess
  rw [if_pos rfl, if_pos h]
theorem Sf (hp : callPoss ts q = true) : callPoss (doCall ts q).1 q = true := by
  obtain ⟨hT, hc, hr⟩ := Yd hp
  have h := Wc hp
  have hr := Qq hr
  unfold callPoss
  rw [h.1, hc, M3 (by rw [h.2.1]; exact hr.1) ((h.2.2 _ hr.1.1).trans hr.2)]
  rfl
def Kept (n : Int) (a b : Th) : Prop := (a.kind = 1 → b.num = a.num ∨ b.num = 0 ∨ b.num = n ∨ b.num = n % 2) ∧ ∀ v ∈ b.queue, v = n ∨ v ∈ a.queue
theorem Kept.refl (n : Int) (a : Th) : Kept n a a := ⟨fun _ => Or.inl rfl, fun _ h => Or.inr h⟩
section
variable {ms xs : List MTh}
theorem Wo (hp : callPoss (tabT ms) q = true) : (callDo (tabT ms) q).2 = doAns (tabT ms) q := by rw [Jb hp, Rz]
theorem Xa1 (ht : tabT xs = (callDo (tabT ms) q).1) (hp : callPoss (tabT ms) q = true) (k : Int) : (mAt xs (k - 1).toNat).t = thAt (doCall (tabT ms) q).1 k := by rw [Qo, ht, Jb hp]
theorem Kr (ht : tabT xs = (callDo (tabT ms) q).1) (hp : callPoss (tabT ms) q = true) : (mAt xs (q.run - 1).toNat).t.slots.length = 4 := by
  have h := Sf hp
  have h2 := (Yd h)
  rw [← Jb hp, ← ht] at h2
  exact Qt h2.1 h2.2.2
theorem M8 (hT : tableOk (tabT ms) = true) {k : Int} (h : 1 ≤ k ∧ k ≤ (ms.length : Int)) (hk : (mAt ms (k - 1).toNat).t.kind = 2) : (mAt ms (k - 1).toNat).t.slots.length = 4 := Uv (Jt hT (by omega)) (Or.inl hk)
theorem Fa (ht : tabT xs = (callDo (tabT ms) q).1) (hp : callPoss (tabT ms) q = true) (h : ((!decide (q.kind = 4)) || decide ((callDo (tabT ms) q).2 < 0)) = false) :
    (1 ≤ (rAt (mAt ms (q.run - 1).toNat).t.slots q.a.toNat).th ∧ (rAt (mAt ms (q.run - 1).toNat).t.slots q.a.toNat).th ≤ (ms.length : Int)) ∧ (callDo (tabT ms) q).2 = 0 ∧ (mAt ms ((rAt (mAt ms (q.run - 1).toNat).t.slots q.a.toNat).th - 1).toNat).t.slots.length = 4 ∧ (mAt xs ((rAt (mAt ms (q.run - 1).toNat).t.slots q.a.toNat).th - 1).toNat).t = (mAt ms ((rAt (mAt ms (q.run - 1).toNat).t.slots q.a.toNat).th - 1).toNat).t ∧ rAt (mAt xs (q.run - 1).toNat).t.slots q.b.toNat = fetched (rAt (mAt ms ((rAt (mAt ms (q.run - 1).toNat).t.slots q.a.toNat).th - 1).toNat).t.slots (q.n % 4).toNat) (rAt (mAt ms (q.run - 1).toNat).t.slots q.a.toNat).wk ∧ rightOk (rAt (mAt ms ((rAt (mAt ms (q.run - 1).toNat).t.slots q.a.toNat).th - 1).toNat).t.slots (q.n % 4).toNat) = true := by
  simp only [Bool.or_eq_false_iff, Bool.not_eq_false', decide_eq_true_eq, decide_eq_false_iff_not] at h
  have ha : 0 ≤ doAns (tabT ms) q := by rw [← Wo hp]; omega
  obtain ⟨h0, h1, hk, h2, h3⟩ := Ha hp h.1 ha
  have hT := (Yd hp).1
  have hok := Vb hT h1 (q.n % 4)
  rw [Qa] at h1
  rw [Qy, Wo hp, Xa1 ht hp]
  rw [← Qo ms (slotAt (tabT ms) q.run q.a).th] at hk h2
  rw [← Qy (k := (slotAt (tabT ms) q.run q.a).th)] at h3 hok
  refine ⟨h1, h0, M8 hT h1 hk, h2, ?_, hok.1⟩
  rw [Qo, ht, Jb hp]
  exact h3
end
end
end Go.Dw
end
section
namespace Go.Dw
set_option linter.unusedVariables false
set_option linter.unusedSimpArgs false
def RowsA (w : World) (l : List MTh) : Prop := ∀ m ∈ l, ThAt w m
theorem RowsA.set {w : World} {l : List MTh} {i : Nat} {m : MTh} (h : RowsA w l) (hi : i < l.length) (e : m.sa = (mAt l i).sa ∧ m.sc = (mAt l i).sc ∧ m.qa = (mAt l i).qa ∧ m.qc = (mAt l i).qc ∧ m.t.slots = (mAt l i).t.slots ∧ m.t.queue = (mAt l i).t.queue) : RowsA w (l.set i m) := fun x hx => by
  rcases List.mem_or_eq_of_mem_set hx with h1 | rfl
  · exact h x h1
  · have := h _ (List.mem_of_getElem? (Jw hi))
    unfold ThAt at this ⊢
    rw [e.1, e.2.1, e.2.2.1, e.2.2.2.1, e.2.2.2.2.1, e.2.2.2.2.2]
    exact this
section
variable {ms xs : List MTh} {q : Cl}
end
end Go.Dw
end
section
namespace Go.Dw
set_option linter.unusedVariables false
set_option linter.unusedSimpArgs false
section
variable {ts us : List Th} {q p : Cl}
theorem Kk {k run a b n : Int} (h : (1 ≤ k ∧ k ≤ 9) ∧ (1 ≤ run ∧ run ≤ 8) ∧ (0 ≤ a ∧ a ≤ 3) ∧ (0 ≤ b ∧ b ≤ 3) ∧ 0 ≤ n ∧ n ≤ 99) : callOk ⟨k, run, a, b, n⟩ = true := by
  unfold callOk
  simp only [Bool.and_eq_true]
  exact ⟨⟨⟨⟨Qh.2 h.1, Qh.2 h.2.1⟩, Qh.2 h.2.2.1⟩, Qh.2 h.2.2.2.1⟩, Qh.2 h.2.2.2.2⟩
theorem Vo (hp : callPoss ts q = true) (hc : callOk p = true) (hr : p.run = q.run) : callPoss ts p = true := by
  obtain ⟨hT, _, hk⟩ := Yd hp
  unfold callPoss
  rw [hT, hc, hr, hk]
  rfl
theorem Wu (hp : callPoss ts q = true) (hc : callOk p = true) (hr : p.run = q.run) : callPoss (doCall ts q).1 p = true := Vo (Sf hp) hc hr
theorem Lv {r : Rt} (h : rightOk r = true) : ((decide ((fetched r true).th = 0)) || (fetched r true).wk) = true := by
  unfold fetched l2Less
  rw [if_pos rfl]
  split
  · rename_i h0
    rw [decide_eq_true h0]
    rfl
  · simp
theorem Tv (hp : callPoss ts q = true) (h4 : q.kind = 4) (ha : 0 ≤ doAns ts q) (hw : (slotAt ts q.run q.a).wk = true) (hc : callOk p = true) (hr : p.run = q.run) (hk : p.kind = 4) (hb : p.a = q.b) :
    ((decide ((slotAt (doCall ts q).1 q.run q.b).th = 0)) || (slotAt (doCall ts q).1 q.run q.b).wk) = true ∧ (0 ≤ doAns (doCall ts q).1 p → (slotAt (doCall (doCall ts q).1 p).1 q.run p.b).th = 0 ∨ ((slotAt (doCall (doCall ts q).1 p).1 q.run p.b).wk = true ∧ (slotAt (doCall (doCall ts q).1 p).1 q.run p.b).wr = false)) := by
  obtain ⟨_, hth, _, _, hy⟩ := Ha hp h4 ha
  have hs := (Vb (Yd hp).1 hth (q.n % 4)).1
  rw [hw] at hy
  have h1 := Lv hs
  rw [← hy] at h1
  refine ⟨h1, fun ha2 => ?_⟩
  have hpx := Wu hp hc hr
  obtain ⟨_, hth2, _, _, hz⟩ := Ha hpx hk ha2
  have es : slotAt (doCall ts q).1 p.run p.a = slotAt (doCall ts q).1 q.run q.b := by rw [hr, hb]
  rw [es] at hz hth2
  have hwk : (slotAt (doCall ts q).1 q.run q.b).wk = true := by
    rcases Bool.or_eq_true_iff.1 h1 with h | h
    · have := of_decide_eq_true h
      omega
    · exact h
  rw [hwk] at hz
  have hs2 := (Vb (Yd hpx).1 hth2 (p.n % 4)).1
  rw [← hr, hz]
  have h2 := Lv hs2
  rcases Bool.or_eq_true_iff.1 h2 with h | h
  · exact Or.inl (of_decide_eq_true h)
  · exact Or.inr ⟨h, Lw hs2⟩
end
end Go.Dw
end
section
namespace Go.Dw
set_option linter.unusedVariables false
set_option linter.unusedSimpArgs false
section
variable {ts : List Th} {q p : Cl}
theorem Cp {r : Rt} (hr : slotAt ts q.run q.a = r) (h0 : ¬ r.th = 0) (hk : kindFor q.kind (thAt ts r.th).kind = true) (hrd : r.rd = true) (hwr : r.wr = true) (hs : sees ts q.run r.th = true) (ht : touches ts q.run r.th = true) (hl : live ts r = true) : check1 ts q = 0 := by
  unfold check1 chk1 chk2 chk3
  rw [hr, hk, hrd, hwr, hs, ht, hl, decide_eq_false h0]
  simp
structure Free (us : List Th) (run a : Int) (r : Rt) (kd : Int) : Prop where
  slot : slotAt us run a = r
  nz : ¬ r.th = 0
  kind : (thAt us r.th).kind = kd
  rd : r.rd = true
  wr : r.wr = true
  sees : sees us run r.th = true
  touches : touches us run r.th = true
  live : live us r = true
theorem Free.check {us : List Th} {run a kd : Int} {r : Rt} (h : Free us run a r kd) (hr : p.run = run) (ha : p.a = a) (hk : kindFor p.kind kd = true) : check1 us p = 0 :=
  Cp (r := r) (by rw [hr, ha]; exact h.slot) h.nz (by rw [h.kind]; exact hk) h.rd h.wr (by rw [hr]; exact h.sees) (by rw [hr]; exact h.touches) h.live
theorem Free.far {us : List Th} {a kd : Int} {r : Rt} (hp : callPoss us p = true) (h : Free us p.run a r kd) (ha : p.a = a) (hk : kindFor p.kind kd = true) (h3 : ¬ p.kind = 3) : FarOk us p r ∧ doAns us p = (Go.Dw.far us p r).2 ∧ (doCall us p).1 = setNum (Go.Dw.far us p r).1 p.run (Go.Dw.far us p r).2 := by
  have h0 := h.check rfl ha hk
  have hs : slotAt us p.run p.a = r := by rw [ha]; exact h.slot
  have hF := K0 hp h0 h3
  rw [hs] at hF
  have hx := Vl hs h0 h3 h.live hF
  rw [if_pos h.sees] at hx
  exact ⟨hF, hx.1, by rw [Kn, hx.1, hx.2]⟩
end
section
variable {ms xs ys zs us : List MTh} {q p s t : Cl}
theorem Vp (ht : tabT xs = (callDo (tabT ms) q).1) (hp : callPoss (tabT ms) q = true) (hc : callOk p = true) (hr : p.run = q.run) : callPoss (tabT xs) p = true := by rw [ht, Jb hp]; exact Wu hp hc hr
theorem Ku (ht : tabT xs = (callDo (tabT ms) q).1) (hp : callPoss (tabT ms) q = true) : tabT xs = (doCall (tabT ms) q).1 := by rw [ht, Jb hp]
theorem Su (ht : tabT xs = (callDo (tabT ms) q).1) (hp : callPoss (tabT ms) q = true) (h4 : q.kind = 4) (ha : ¬ (callDo (tabT ms) q).2 < 0) (hw : (rAt (mAt ms (q.run - 1).toNat).t.slots q.a.toNat).wk = true) (hc : callOk p = true) (hr : p.run = q.run) (hk : p.kind = 4) (hb : p.a = q.b) (hty : tabT ys = (callDo (tabT xs) p).1) :
    ((decide ((rAt (mAt xs (q.run - 1).toNat).t.slots q.b.toNat).th = 0)) || (rAt (mAt xs (q.run - 1).toNat).t.slots q.b.toNat).wk) = true ∧ (¬ (callDo (tabT xs) p).2 < 0 → (rAt (mAt ys (q.run - 1).toNat).t.slots p.b.toNat).th = 0 ∨ ((rAt (mAt ys (q.run - 1).toNat).t.slots p.b.toNat).wk = true ∧ (rAt (mAt ys (q.run - 1).toNat).t.slots p.b.toNat).wr = false)) := by
  rw [Wo hp] at ha
  rw [Qy] at hw
  have hpx := Vp ht hp hc hr
  have h := Tv hp h4 (by omega) hw hc hr hk hb
  rw [Wo hpx, Qy, Qy, Ku hty hpx, Ku ht hp]
  exact ⟨h.1, fun h2 => h.2 (by omega)⟩
theorem Zn {two : Int} {U : Rt} (h : ¬ two < 0 → U.th = 0 ∨ (U.wk = true ∧ U.wr = false)) : (((decide (two < 0)) || (decide (U.th = 0))) || (U.wk && (!U.wr))) = true := by
  by_cases h1 : two < 0
  · rw [decide_eq_true h1]; rfl
  · rcases h h1 with e | e
    · rw [decide_eq_true e, Bool.or_true]; rfl
    · rw [e.1, e.2, Bool.or_comm]; rfl
end
end Go.Dw
end
section
namespace Go.Proofs.YtlhhijnmacogcaaGreatDoor
open Go.RowKit Go.Dw
set_option maxRecDepth 100000
set_option maxHeartbeats 4000000
set_option linter.unusedSimpArgs false
set_option linter.unusedVariables false
theorem Ug : goFn Tryz.prog 15 = true := by kernel_rfl
theorem Uh : goFn Tryz.prog 16 = true := by kernel_rfl
theorem Ks : goFn Tryz.prog 17 = true := by kernel_rfl
theorem K6 : goFn Tryz.prog 18 = true := by kernel_rfl
theorem Ui : goFn Tryz.prog 19 = true := by kernel_rfl
theorem law_FnWeakChain (bs : List Int) (a : Option Addr) (c : Nat) (w : World) (jz : SlAt w a 1 (bs.map bcell)) (hb : ∀ b ∈ bs, 0 ≤ b ∧ b ≤ 255) (hn : bs.length ≤ 9223372036854775807) (hc : bs.length ≤ c) (m : Nat) (a2 : Option Addr) (c2 : Nat) (hm : m ≤ 9223372036854775807) (hE : ErrT w) : CallsR Tryz.prog 11 #[.slice a bs.length c, .slice a2 m c2] w (fun v w' => v = .bool true ∧ w.grownBy w' none) := by
 refine Xw (n := 143) Tryz.func11 Z Tryz.ntmps11 Z ?_
 have fk := World.grownBy.refl w none
 have hs := SlAt.lt Kh (by omega) jz
 refine Xa (Xf (v := vb false) Z Z (Xc (Xs (X8 (fun f' w' => (f' 0 = .slice a bs.length c ∧ f' 1 = .slice a2 m c2 ∧ f' 4 = vb false ∧ f' 22 = vb ((decide (1048576 < (bs.length : Int))) || (decide (1048576 < (m : Int))))) ∧ w = w') ?_ ?_))))
 refine Xb (v := .slice a bs.length c) Z Z (Yr (by kernel_rfl) Z Z (Qw (q := decide (1048576 < (bs.length : Int))) Z Z Z Z (Xb (v := vb (decide (1048576 < (bs.length : Int)))) Z Z ?_)))
 rcases Yb (decide (1048576 < (bs.length : Int))) with bk | bk
 have lc := of_decide_eq_true bk
 iterate 3 refine Xi rfl rfl rfl bk rfl ?_
 exact Xo (v := vb true) Z bk Z Z (Xc ⟨⟨Z, Z, Z, (congrArg Value.bool (by first | (simp only [bk, b0, b1, b2, b3, b4, b5, b6, b7, b8, b9]; done) | simp [bk]))⟩, Z⟩)
 have ld := of_decide_eq_false bk
 exact Xe Z Z Z bk (Xb (v := .slice a2 m c2) Z Z (Xe Z Z Z bk (Yr (by kernel_rfl) Z Z (Xe Z Z Z bk (Qw (q := decide (1048576 < (m : Int))) Z Z Z Z (Xn (v := vb (decide (1048576 < (m : Int)))) Z bk Z Z (Xc ⟨⟨Z, Z, Z, (congrArg Value.bool (by first | (simp only [bk, b0, b1, b2, b3, b4, b5, b6, b7, b8, b9]; done) | simp [bk]))⟩, Z⟩)))))))
 rintro k8 mc ⟨⟨g0, dn, dp, g5⟩, rfl⟩
 refine X2 g5 (fun ah => ?_) (fun ah => ?_)
 refine Xa (Xf (v := vb true) Z Z (Xc (Xt (Yo (⟨vb true, Yx Z Z, ?_, fk⟩)))))
 rfl
 have am := J3 ah
 have le := of_decide_eq_false am
 have an := J4 ah
 have lf := of_decide_eq_false an
 refine Xy (Xv (Xa (Xb (v := .slice a bs.length c) g0 Z (Xm Ug (Xg Z Xl) Z (Kp bs a c _ (SlAt.low jz fk) hb (by omega) (by omega)) ?_))))
 rintro _ me ⟨ce, bj, O, E, rfl, cg, ei, j8, kz, fr⟩
 have du := low0 fk fr
 have ck := ei.len
 refine Xb (v := .tuple #[.slice (pa ce) O.length bj, .agg #[vi E.kind, vi E.run, vi E.a, vi E.b, vi E.n]]) Z Z (X1 (v := .slice (pa ce) O.length bj) Z Z Z (X1 (v := .agg #[vi E.kind, vi E.run, vi E.a, vi E.b, vi E.n]) Z Z Z (Yf (cs := #[vi 0, vi 0, vi 0, vi 0, vi 0]) Wa Z Z ?_)))
 intro bv mf bi
 have kb := Yi bi du
 refine Xf (v := .slice (pa ce) O.length bj) Z Z (Xx (vs := [vi E.kind, vi E.run, vi E.a, vi E.b, vi E.n]) (cs' := #[vi E.kind, vi E.run, vi E.a, vi E.b, vi E.n]) Y1 Z Z Z (by simp [Value.oneCell']) bi.blk (Nat.le_of_ble_eq_true Z) Z ?_)
 intro mg br
 refine Xc (Xa (Xb (v := .slice (pa ce) O.length bj) Z Z (Xq (vs := [vi E.kind, vi E.run, vi E.a, vi E.b, vi E.n]) Y1 Z Z (br.blk.rangeL 0 5 Z) Z ?_)))
 have ki := (br.blk).lt
 refine Xm Uh (Xg Z (Xg Z Xl)) Z (Vr E _ O _ _ (TabG.at (TabG.low cg (low1 bi.grw br.grw (nt ((World.grownBy.refl _ none)).size (Nat.le_of_eq bi.eq.symm))))) ck (by omega)) ?_
 rintro _ mh ⟨de, ca, bz, rfl, eg, co, cl⟩
 have dv := low0 (low1 (low0 du bi.grw) br.grw (by omega)) cl
 have dk := Qn co
 have ko := Y8 co
 refine Xb (v := .tuple #[.slice (pa de) bz.length ca, vi (callDo (tabT O) E).2]) Z Z (X1 (v := .slice (pa de) bz.length ca) Z Z Z (X1 (v := vi (callDo (tabT O) E).2) Z Z Z (Xf (v := .slice (pa de) bz.length ca) Z Z (Xf (v := vi (callDo (tabT O) E).2) Z Z (Xc (Xa (Xb (v := .slice (pa ce) O.length bj) Z Z ?_)))))))
 have d7 := (br.blk.grown0 cl)
 refine Xq (vs := [vi E.kind, vi E.run, vi E.a, vi E.b, vi E.n]) Y1 Z Z (d7.rangeL 0 5 Z) Z ?_
 have kj := (d7).lt
 refine Xm Ks (Xg Z (Xg Z Xl)) Z (Jq E _ O _ _ (TabG.at (TabG.low cg (low0 (low1 bi.grw br.grw (nt ((World.grownBy.refl _ none)).size (Nat.le_of_eq bi.eq.symm))) cl))) ck (by omega) (ErrT.grown0 hE dv)) ?_
 rintro _ ml ⟨bx, bf, G, rfl, cw, bm, cm⟩
 have cj := Qn bm
 have kp := Y8 bm
 refine Xb (v := .tuple #[.slice bx G.length bf, vi (callDo (tabT O) E).2]) Z Z (X1 (v := .slice bx G.length bf) Z Z Z (X1 (v := vi (callDo (tabT O) E).2) Z Z Z (Xf (v := .slice bx G.length bf) Z Z (Xf (v := vi (callDo (tabT O) E).2) Z Z (Xc (Xs (Xa (Xb (v := vi (callDo (tabT O) E).2) Z Z (Xb (v := vi (callDo (tabT O) E).2) Z Z (Qj (q := false) Z Z (by simp) Z (Xb (v := vb false) Z Z (Xe Z Z Z Z ?_))))))))))))
 refine Xb (v := .slice bx G.length bf) Z Z (Xe Z Z Z Z (Xb (v := .slice (pa de) bz.length ca) Z Z (Xe Z Z Z Z ?_)))
 have cy := (TabG.low eg cm)
 refine Xm K6 (Xg Z (Xg Z Xl)) Z (Js _ G bz _ _ _ _ (TabG.at cw) (TabG.at cy) cj dk (by omega) (by omega)) ?_
 rintro _ mm ⟨rfl, bu⟩
 refine Xe Z Z Z Z (Yj (b' := false) (congrArg Value.bool (decide_eq_true (bm.trans co.symm))) Z Z (Xn (v := vb false) Z Z Z Z (Xb (v := vb false) Z Z (Xe Z Z Z Z (Xb (v := .slice (pa ce) O.length bj) Z Z (Xe Z Z Z Z ?_))))))
 have bw := ((d7.grown0 cm).grown0 bu)
 refine Xq (vs := [vi E.kind, vi E.run, vi E.a, vi E.b, vi E.n]) Y1 Z Z (bw.rangeL 0 5 Z) Z (Xe Z Z Z Z (Xm Ui (Xg Z (Xg Z Xl)) Z (Ut E _ O _ _ (TabG.at (TabG.low cg (low0 (low0 (low0 (low1 bi.grw br.grw (nt ((World.grownBy.refl _ none)).size (Nat.le_of_eq bi.eq.symm))) cl) cm) bu))) ck (by omega)) ?_))
 rintro _ dg ⟨rfl, aw⟩
 have dw := low0 (low0 (low0 dv cm) bu) aw
 refine Xe Z Z Z Z (Yj (b' := !callPoss (tabT O) E) Z Z Z (Xn (v := vb (!callPoss (tabT O) E)) Z Z Z Z (Xc (X2 Z (fun ai => ?_) (fun ai => ?_)))))
 have lg := Jm ai
 refine Xa (Xb (v := vi (callDo (tabT O) E).2) Z Z (Xb (v := vi (callDo (tabT O) E).2) Z Z (X3 (q := true) Z Z (by simp) Z (Xb (v := vb true) Z Z (Xe Z Z Z Z (Xb (v := .slice bx G.length bf) Z Z (Xe Z Z Z Z (Xb (v := .slice (pa de) bz.length ca) Z Z (Xe Z Z Z Z (Xm K6 (Xg Z (Xg Z Xl)) Z (Js _ G bz _ _ _ _ (TabG.at (TabG.low (TabG.low cw bu) aw)) (TabG.at (TabG.low (TabG.low cy bu) aw)) cj dk (by omega) (by omega)) ?_))))))))))
 rintro _ mn ⟨rfl, ft⟩
 refine Xo (v := vb true) Z Z (congrArg Value.bool (decide_eq_true (bm.trans co.symm))) Z (Xf (v := vb true) Z Z (Xc (Xt (Yo (⟨vb true, Yx Z Z, ?_, (low0 dw ft)⟩)))))
 rfl
 have ad := Qu ai
 obtain ⟨ab, ac, V⟩ := Yd ad
 have j9 := Yw ac
 have ka := (Y5 V).1
 have ku := Qt ab V
 have km := Jk ab
 have hde := Jb ad
 have hrk := Qq (Yd ad).2.2
 have kq := Qm co ad
 have kr := Qm bm ad
 obtain ⟨hi, hhi⟩ : ∃ n, n = dg.heap.size := ⟨_, rfl⟩
 have cz := (TabG.low cg (low0 (low0 (low0 (low0 (low1 bi.grw br.grw (nt ((World.grownBy.refl _ none)).size (Nat.le_of_eq bi.eq.symm))) cl) cm) bu) aw))
 have jt := TabG.hi cz
 rw [← hhi] at jt
 have ju := TabG.hi (TabG.low (TabG.low cy bu) aw)
 rw [← hhi] at ju
 have di := (TabG.low (TabG.low cw bu) aw)
 have e0 := TabG.hi di
 rw [← hhi] at e0
 have j6 := Kr bm ad
 refine Xy (Xv (Xs (Ki (fun f' w' => (f' 1 = .slice a2 m c2 ∧ f' 4 = vb false ∧ f' 6 = pt bv 0 ∧ f' 9 = .slice bx G.length bf ∧ f' 84 = vb (((!(decide (E.kind = 4))) || (decide ((callDo (tabT O) E).2 < 0))) || (!(rAt (mAt O (E.run - 1).toNat).t.slots (E.a).toNat).wk))) ∧ dg.grownBy w' none) ?_ ?_)))
 rcases Yb (!(decide (E.kind = 4))) with be | be
 have dt := Jm be
 have lh := of_decide_eq_false dt
 refine Yt (m := 17) (vals := [(63, pt bv 0), (64, vi E.kind), (65, vb (!(decide (E.kind = 4)))), (66, vb (!(decide (E.kind = 4)))), (67, undef), (68, undef), (69, vb true), (70, vb true), (71, undef), (72, undef), (73, undef), (74, undef), (75, undef), (76, undef), (77, undef), (78, undef), (79, undef)]) (fun w' => dg.grownBy w' none) Y0 (by kernel_rfl) (X7 _) ?_ ?_
 refine yl Z (fun _ _ k => Xd (o' := 0) Ji Z Z Z k) (yl Z (fun _ fu k => Xh (v := vi E.kind) Xz Z (((bw.grown0 aw).grown0 fu).cell Z) Z k) (yl Z (fun _ _ k => Qj (q := !(decide (E.kind = 4))) Z Z Z Z k) (yl Z (fun _ _ k => Xb (v := vb (!(decide (E.kind = 4)))) Z Z k) (yl Z (fun _ _ k => Xi Z Z Z be Z k) (yl Z (fun _ _ k => Xi Z Z Z be Z k) (yl Z (fun _ _ k => Xo (v := vb true) Z be Z Z k) (yl Z (fun _ _ k => Xb (v := vb true) Z Z k) (yl Z (fun _ _ k => Xi Z Z Z Z Z k) (yl Z (fun _ _ k => Xi Z Z Z Z Z k) (yl Z (fun _ _ k => Xi Z Z Z Z Z k) ?_))))))))))
 exact yl Z (fun _ _ k => Xi Z Z Z Z Z k) (yl Z (fun _ _ k => Xi Z Z Z Z Z k) (yl Z (fun _ _ k => Xi Z Z Z Z Z k) (yl Z (fun _ _ k => Xi Z Z Z Z Z k) (yl Z (fun _ _ k => Xi Z Z Z Z Z k) (yl Z (fun _ _ k => Xi Z Z Z Z Z k) Y2)))))
 intro mo fv
 iterate 4 refine Xi rfl rfl rfl rfl rfl ?_
 exact Xo (v := vb true) Z Z Z Z (Xc (Xv ⟨⟨dn, dp, Z, Z, (congrArg Value.bool (by first | (simp only [ah, am, an, ai, ad, be, dt, ab, ac, V, b0, b1, b2, b3, b4, b5, b6, b7, b8, b9]; done) | simp [ah, am, an, ai, ad, be, dt, ab, ac, V]))⟩, fv⟩))
 have df := Qu be
 have li := of_decide_eq_true df
 rcases Yb (decide ((callDo (tabT O) E).2 < 0)) with ae | ae
 have lj := of_decide_eq_true ae
 refine Yt (m := 17) (vals := [(63, pt bv 0), (64, vi E.kind), (65, vb (!(decide (E.kind = 4)))), (66, vb (!(decide (E.kind = 4)))), (67, vi (callDo (tabT O) E).2), (68, vb (decide ((callDo (tabT O) E).2 < 0))), (69, vb (decide ((callDo (tabT O) E).2 < 0))), (70, vb (decide ((callDo (tabT O) E).2 < 0))), (71, undef), (72, undef), (73, undef), (74, undef), (75, undef), (76, undef), (77, undef), (78, undef), (79, undef)]) (fun w' => dg.grownBy w' none) Y0 (by kernel_rfl) (X7 _) ?_ ?_
 refine yl Z (fun _ _ k => Xd (o' := 0) Ji Z Z Z k) (yl Z (fun _ fw k => Xh (v := vi E.kind) Xz Z (((bw.grown0 aw).grown0 fw).cell Z) Z k) (yl Z (fun _ _ k => Qj (q := !(decide (E.kind = 4))) Z Z Z Z k) (yl Z (fun _ _ k => Xb (v := vb (!(decide (E.kind = 4)))) Z Z k) (yl Z (fun _ _ k => Xe Z Z Z be (Xb (v := vi (callDo (tabT O) E).2) Z Z k)) (yl Z (fun _ _ k => Xe Z Z Z be (Qg (q := decide ((callDo (tabT O) E).2 < 0)) Z Z Z Z k)) (yl Z (fun _ _ k => Xn (v := vb (decide ((callDo (tabT O) E).2 < 0))) Z be Z Z k) (yl Z (fun _ _ k => Xb (v := vb (decide ((callDo (tabT O) E).2 < 0))) Z Z k) (yl Z (fun _ _ k => Xi Z Z Z ae Z k) (yl Z (fun _ _ k => Xi Z Z Z ae Z k) (yl Z (fun _ _ k => Xi Z Z Z ae Z k) ?_))))))))))
 exact yl Z (fun _ _ k => Xi Z Z Z ae Z k) (yl Z (fun _ _ k => Xi Z Z Z ae Z k) (yl Z (fun _ _ k => Xi Z Z Z ae Z k) (yl Z (fun _ _ k => Xi Z Z Z ae Z k) (yl Z (fun _ _ k => Xi Z Z Z ae Z k) (yl Z (fun _ _ k => Xi Z Z Z ae Z k) Y2)))))
 intro mp fx
 iterate 4 refine Xi rfl rfl rfl ae rfl ?_
 exact Xo (v := vb true) Z ae Z Z (Xc (Xv ⟨⟨dn, dp, Z, Z, (congrArg Value.bool (by first | (simp only [ah, am, an, ai, ad, be, df, ae, ab, ac, V, b0, b1, b2, b3, b4, b5, b6, b7, b8, b9]; done) | simp [ah, am, an, ai, ad, be, df, ae, ab, ac, V]))⟩, fx⟩))
 have lk := of_decide_eq_false ae
 obtain ⟨eo, l6, d9, fe, gj, gr⟩ := SlAt.at (TabG.at cz).1 (Yk (xg O (E.run - 1).toNat))
 have kf := TabLen.at ck (xg O (E.run - 1).toNat)
 obtain ⟨k4, l7, j1, ff, gk, gt⟩ := SlAt.at (TabAt.th (TabG.at cz) (xg O (E.run - 1).toNat)).1 (Yk (xr (mAt O (E.run - 1).toNat).t.slots (E.a).toNat))
 have kn := Vg ab (lq (E.run - 1).toNat O.length) (lq (E.a).toNat (mAt O (E.run - 1).toNat).t.slots.length)
 refine Yt (m := 17) (vals := [(63, pt bv 0), (64, vi E.kind), (65, vb (!(decide (E.kind = 4)))), (66, vb (!(decide (E.kind = 4)))), (67, vi (callDo (tabT O) E).2), (68, vb (decide ((callDo (tabT O) E).2 < 0))), (69, vb (decide ((callDo (tabT O) E).2 < 0))), (70, vb (decide ((callDo (tabT O) E).2 < 0))), (71, .slice (pa ce) O.length bj), (72, pt bv 1), (73, vi E.run), (74, vi (E.run - 1)), (75, pt eo d9), (76, pt eo (d9 + 5)), (77, .slice (mAt O (E.run - 1).toNat).sa (mAt O (E.run - 1).toNat).t.slots.length (mAt O (E.run - 1).toNat).sc), (78, pt bv 2), (79, vi E.a)]) (fun w' => dg.grownBy w' none) Y0 (by kernel_rfl) (X7 _) ?_ ?_
 refine yl Z (fun _ _ k => Xd (o' := 0) Ji Z Z Z k) (yl Z (fun _ fy k => Xh (v := vi E.kind) Xz Z (((bw.grown0 aw).grown0 fy).cell Z) Z k) (yl Z (fun _ _ k => Qj (q := !(decide (E.kind = 4))) Z Z Z Z k) (yl Z (fun _ _ k => Xb (v := vb (!(decide (E.kind = 4)))) Z Z k) (yl Z (fun _ _ k => Xe Z Z Z be (Xb (v := vi (callDo (tabT O) E).2) Z Z k)) (yl Z (fun _ _ k => Xe Z Z Z be (Qg (q := decide ((callDo (tabT O) E).2 < 0)) Z Z Z Z k)) (yl Z (fun _ _ k => Xn (v := vb (decide ((callDo (tabT O) E).2 < 0))) Z be Z Z k) (yl Z (fun _ _ k => Xb (v := vb (decide ((callDo (tabT O) E).2 < 0))) Z Z k) (yl Z (fun _ _ k => Xe Z Z Z ae (Xb (v := .slice (pa ce) O.length bj) Z Z k)) (yl Z (fun _ _ k => Xe Z Z Z ae (Xd (o' := 1) Y9 Z Z Z k)) (yl Z (fun _ fz k => Xe Z Z Z ae (Xh (v := vi E.run) Xz Z (((bw.grown0 aw).grown0 fz).cell Z) Z k)) ?_))))))))))
 exact yl Z (fun _ _ k => Xe Z Z Z ae (Ym (c := E.run - 1) Z Z (by omega) (by omega) (by omega) Z k)) (yl Z (fun _ _ k => Xe Z Z Z ae (X0 Y6 Z Z fe gj (by omega) (by omega) Z k)) (yl Z (fun _ _ k => Xe Z Z Z ae (Xd (o' := d9 + 5) Qi Z Z Z k)) (yl Z (fun _ f8 k => Xe Z Z Z ae (Xh (v := .slice (mAt O (E.run - 1).toNat).sa (mAt O (E.run - 1).toNat).t.slots.length (mAt O (E.run - 1).toNat).sc) Jd Z ((Ye gr f8) 5 _ Z) Z k)) (yl Z (fun _ _ k => Xe Z Z Z ae (Xd (o' := 2) Ju Z Z Z k)) (yl Z (fun _ f9 k => Xe Z Z Z ae (Xh (v := vi E.a) Xz Z (((bw.grown0 aw).grown0 f9).cell Z) Z k)) Y2)))))
 intro mq d1
 exact Xe Z Z Z ae (X0 J9 Z Z ff gk (by omega) (by omega) Z (Xe Z Z Z ae (Xd (o' := j1 + 4) K9 Z Z Z (Xe Z Z Z ae (Xh (v := vb (rAt (mAt O (E.run - 1).toNat).t.slots (E.a).toNat).wk) Jn Z ((Ye gt d1) 4 _ Z) Z (Xe Z Z Z ae (Yj (b' := !(rAt (mAt O (E.run - 1).toNat).t.slots (E.a).toNat).wk) Z Z Z (Xn (v := vb (!(rAt (mAt O (E.run - 1).toNat).t.slots (E.a).toNat).wk)) Z ae Z Z (Xc (Xv ⟨⟨dn, dp, Z, Z, (congrArg Value.bool (by first | (simp only [ah, am, an, ai, ad, be, df, ae, ab, ac, V, b0, b1, b2, b3, b4, b5, b6, b7, b8, b9]; done) | simp [ah, am, an, ai, ad, be, df, ae, ab, ac, V]))⟩, d1⟩))))))))))
 rintro k9 eb ⟨⟨g6, g7, g8, g9, ia⟩, bl⟩
 have dh := low0 dw bl
 refine X2 ia (fun au => ?_) (fun au => ?_)
 refine Xa (Xf (v := vb true) Z Z (Xc (Xt (Yo (⟨vb true, Yx Z Z, ?_, dh⟩)))))
 rfl
 have av := J3 au
 obtain ⟨kv, fm, kw, kx, fo, d0⟩ := Fa bm ad av
 have ao : (decide ((callDo (tabT O) E).2 = 0)) = true := decide_eq_true fm
 have ba := J3 av
 have az := Qu ba
 have ll := of_decide_eq_true az
 have a8 := J4 av
 have lm := of_decide_eq_false a8
 have bb := J4 au
 have a9 := Qu bb
 have da := fo
 rw [a9] at da
 have ap : (!(rAt (mAt G (E.run - 1).toNat).t.slots (E.b).toNat).wr) = true := by rw [da, Lw d0]; rfl
 rw [Ta d0] at da
 have aq : (decide ((rAt (mAt G (E.run - 1).toNat).t.slots (E.b).toNat) = (rightLess (rAt (mAt O ((rAt (mAt O (E.run - 1).toNat).t.slots (E.a).toNat).th - 1).toNat).t.slots (E.n % 4).toNat) true false false))) = true := decide_eq_true da
 refine Xy (Xv (Xs ?_))
 have c8 := (TabG.low di bl)
 obtain ⟨ep, l8, ea, fg, gl, gu⟩ := SlAt.at (TabG.at c8).1 (Yk (xg G (E.run - 1).toNat))
 have kg := TabLen.at cj (xg G (E.run - 1).toNat)
 obtain ⟨gz, l9, j2, fh, gm, gv⟩ := SlAt.at (TabAt.th (TabG.at c8) (xg G (E.run - 1).toNat)).1 (Yk (xr (mAt G (E.run - 1).toNat).t.slots (E.b).toNat))
 have k0 : hi ≤ eb.heap.size := (nt (Nat.le_of_eq hhi) bl.size)
 refine Q2 (m := 12) [[], [], [1], [1, 2], [0, 1, 2, 3], [0, 1, 2, 3, 4], [0, 1, 2, 3, 4, 5], [], [7], [0, 1, 2, 3, 4, 5, 6, 7, 8], [0, 1, 2, 3, 4, 5, 6, 7, 8, 9], [], [0, 1, 2, 3, 4, 5, 6, 7, 8, 9, 10, 11]] (fun S F w' => ∃ (ag : Nat), eb.grownBy w' none ∧ F 1 = .slice a2 m c2 ∧ F 4 = vb false ∧ F 6 = pt bv 0 ∧ F 9 = .slice bx G.length bf ∧ (S 11 = true → F 11 = pt ag 0 ∧ w.heap.size ≤ ag ∧ Blk w' ag 33 #[vi 0, vi 0, vb false, vb false, vb false] ∧ bv < ag ∧ eb.heap.size ≤ ag) ∧ Vals S F [(0, 85, .slice bx G.length bf), (1, 86, pt bv 1), (2, 87, vi E.run), (3, 88, vi (E.run - 1)), (4, 89, pt ep ea), (5, 90, pt ep (ea + 5)), (6, 91, .slice (mAt G (E.run - 1).toNat).sa (mAt G (E.run - 1).toNat).t.slots.length (mAt G (E.run - 1).toNat).sc), (7, 92, pt bv 3), (8, 93, vi E.b), (9, 94, pt gz j2), (10, 95, .agg #[vi (rAt (mAt G (E.run - 1).toNat).t.slots (E.b).toNat).th, vi (rAt (mAt G (E.run - 1).toNat).t.slots (E.b).toNat).ve, vb (rAt (mAt G (E.run - 1).toNat).t.slots (E.b).toNat).rd, vb (rAt (mAt G (E.run - 1).toNat).t.slots (E.b).toNat).wr, vb (rAt (mAt G (E.run - 1).toNat).t.slots (E.b).toNat).wk])]) Y0 (by kernel_rfl) ⟨0, X7 _, g6, g7, g8, g9, Yy, Ka _⟩ ?_ ?_
 refine Xk (fun S F mr hS hbef hcl hI => ?_) ?_
 obtain ⟨ag, ga, ib, ic, ie, eu, ar, hvs⟩ := hI
 exact Xb (v := .slice bx G.length bf) eu Z (Xc ⟨ag, ga, ib, ic, ie, eu, ar, Vals.up 0 hvs Z Z Z⟩)
 refine Xk (fun S F mt hS hbef hcl hI => ?_) ?_
 obtain ⟨ag, gb, ig, ii, ew, ij, ar, hvs⟩ := hI
 exact Xd (o' := 1) Y9 ew Z Z (Xc ⟨ag, gb, ig, ii, ew, ij, ar, Vals.up 1 hvs Z Z Z⟩)
 refine Xk (fun S F mu hS hbef hcl hI => ?_) ?_
 obtain ⟨ag, d2, ik, il, im, io, ar, hvs⟩ := hI
 exact Xh (v := vi E.run) Xz (Vals.at 1 hvs Z (Xp 1 hbef Z)) ((((bw.grown0 aw).grown0 bl).grown0 d2).cell Z) Z (Xc ⟨ag, d2, ik, il, im, io, ar, Vals.up 2 hvs Z Z Z⟩)
 refine Xk (fun S F mv hS hbef hcl hI => ?_) ?_
 obtain ⟨ag, gc, ip, iq, ir, it, ar, hvs⟩ := hI
 exact Ym (c := E.run - 1) (Vals.at 2 hvs Z (Xp 2 hbef Z)) Z (by omega) (by omega) (by omega) Z (Xc ⟨ag, gc, ip, iq, ir, it, ar, Vals.up 3 hvs Z Z Z⟩)
 refine Xk (fun S F mw hS hbef hcl hI => ?_) ?_
 obtain ⟨ag, gf, iu, iv, iw, ix, ar, hvs⟩ := hI
 exact X0 Y6 (Vals.at 0 hvs Z (Xp 0 hbef Z)) (Vals.at 3 hvs Z (Xp 3 hbef Z)) fg gl (by omega) (by omega) Z (Xc ⟨ag, gf, iu, iv, iw, ix, ar, Vals.up 4 hvs Z Z Z⟩)
 refine Xk (fun S F my hS hbef hcl hI => ?_) ?_
 obtain ⟨ag, gg, iy, iz, i0, i1, ar, hvs⟩ := hI
 exact Xd (o' := ea + 5) Qi (Vals.at 4 hvs Z (Xp 4 hbef Z)) Z Z (Xc ⟨ag, gg, iy, iz, i0, i1, ar, Vals.up 5 hvs Z Z Z⟩)
 refine Xk (fun S F mz hS hbef hcl hI => ?_) ?_
 obtain ⟨ag, d3, i2, i3, i4, i5, ar, hvs⟩ := hI
 exact Xh (v := .slice (mAt G (E.run - 1).toNat).sa (mAt G (E.run - 1).toNat).t.slots.length (mAt G (E.run - 1).toNat).sc) Jd (Vals.at 5 hvs Z (Xp 5 hbef Z)) ((Ye gu d3) 5 _ Z) Z (Xc ⟨ag, d3, i2, i3, i4, i5, ar, Vals.up 6 hvs Z Z Z⟩)
 refine Xk (fun S F m4 hS hbef hcl hI => ?_) ?_
 obtain ⟨ag, gh, i6, i7, ez, i8, ar, hvs⟩ := hI
 exact Xd (o' := 3) Vx ez Z Z (Xc ⟨ag, gh, i6, i7, ez, i8, ar, Vals.up 7 hvs Z Z Z⟩)
 refine Xk (fun S F m5 hS hbef hcl hI => ?_) ?_
 obtain ⟨ag, d4, i9, ja, jb, jc, ar, hvs⟩ := hI
 exact Xh (v := vi E.b) Xz (Vals.at 7 hvs Z (Xp 7 hbef Z)) ((((bw.grown0 aw).grown0 bl).grown0 d4).cell Z) Z (Xc ⟨ag, d4, i9, ja, jb, jc, ar, Vals.up 8 hvs Z Z Z⟩)
 refine Xk (fun S F m6 hS hbef hcl hI => ?_) ?_
 obtain ⟨ag, gi, jd, je, jf, jg, ar, hvs⟩ := hI
 exact X0 J9 (Vals.at 6 hvs Z (Xp 6 hbef Z)) (Vals.at 8 hvs Z (Xp 8 hbef Z)) fh gm (by omega) (by omega) Z (Xc ⟨ag, gi, jd, je, jf, jg, ar, Vals.up 9 hvs Z Z Z⟩)
 refine Xk (fun S F m7 hS hbef hcl hI => ?_) ?_
 obtain ⟨ag, d5, jh, ji, jj, jk, ar, hvs⟩ := hI
 exact Xq (vs := [vi (rAt (mAt G (E.run - 1).toNat).t.slots (E.b).toNat).th, vi (rAt (mAt G (E.run - 1).toNat).t.slots (E.b).toNat).ve, vb (rAt (mAt G (E.run - 1).toNat).t.slots (E.b).toNat).rd, vb (rAt (mAt G (E.run - 1).toNat).t.slots (E.b).toNat).wr, vb (rAt (mAt G (E.run - 1).toNat).t.slots (E.b).toNat).wk]) Yz (Vals.at 9 hvs Z (Xp 9 hbef Z)) Z (Y3 (Ye gv d5) 0 5 Z) Z (Xc ⟨ag, d5, jh, ji, jj, jk, ar, Vals.up 10 hvs Z Z Z⟩)
 refine Xk (fun S F m8 hS hbef hcl hI => ?_) ?_
 obtain ⟨ag, cn, jl, jm, jo, jp, ar, hvs⟩ := hI
 refine Yf (cs := #[vi 0, vi 0, vb false, vb false, vb false]) K7 Z Z ?_
 intro ek m9 cc
 have ej := Yi cc (low0 dh cn)
 have jw : hi ≤ ek := nt (nt (nt (Nat.le_of_eq hhi) bl.size) cn.size) (Nat.le_of_eq cc.eq.symm)
 have cv := Xr cc ((((bw.grown0 aw).grown0 bl).grown0 cn)).lt
 exact Xc ⟨ek, (low0 cn cc.grw), jl, jm, jo, jp, fun _ => ⟨Z, ej, cc.blk, cv, (nt cn.size (Nat.le_of_eq cc.eq.symm))⟩, Vals.keep hvs Z⟩
 exact Je
 intro S F na hall hI
 obtain ⟨ag, dc, jq, k7, dq, jr, ar, hvs⟩ := hI
 obtain ⟨dr, kc, d8, ed, jy⟩ := ar (hall 11 (by decide))
 refine Xx (vs := [vi (rAt (mAt G (E.run - 1).toNat).t.slots (E.b).toNat).th, vi (rAt (mAt G (E.run - 1).toNat).t.slots (E.b).toNat).ve, vb (rAt (mAt G (E.run - 1).toNat).t.slots (E.b).toNat).rd, vb (rAt (mAt G (E.run - 1).toNat).t.slots (E.b).toNat).wr, vb (rAt (mAt G (E.run - 1).toNat).t.slots (E.b).toNat).wk]) (cs' := #[vi (rAt (mAt G (E.run - 1).toNat).t.slots (E.b).toNat).th, vi (rAt (mAt G (E.run - 1).toNat).t.slots (E.b).toNat).ve, vb (rAt (mAt G (E.run - 1).toNat).t.slots (E.b).toNat).rd, vb (rAt (mAt G (E.run - 1).toNat).t.slots (E.b).toNat).wr, vb (rAt (mAt G (E.run - 1).toNat).t.slots (E.b).toNat).wk]) Yz dr (Vals.at 10 hvs Z (hall 10 (by decide))) Z (by simp [Value.oneCell']) d8 (Nat.le_of_ble_eq_true Z) Z ?_
 intro nb cd
 have dx := low1 (low0 dh dc) cd.grw (by omega)
 refine Xc (Xv (Xa (Xb (v := .slice bx G.length bf) jr Z (Xd (o' := 1) Y9 dq Z Z ?_))))
 have dl := ((((bw.grown0 aw).grown0 bl).grown0 dc).gn cd.grw)
 refine Xh (v := vi E.run) Xz Z (dl.cell Z) Z (Xd (o' := 3) Vx dq Z Z (Xh (v := vi E.b) Xz Z (dl.cell Z) Z (Xb (v := .slice a2 m c2) jq Z (Yr (by kernel_rfl) Z Z (Q4 (c := (m : Int) % 4) Z Z (by omega) (by omega) (by omega) Z Z (Ys (ps := [(0, vi 4), (1, vi E.run), (2, vi E.b), (3, vi 0), (4, vi ((m : Int) % 4))]) (v := .agg #[vi 4, vi E.run, vi E.b, vi 0, vi ((m : Int) % 4)]) (Xj Z (Xj Z (Xj Z (Xj Z (Xj Z X5))))) (by kernel_rfl) Z ?_))))))
 have kk := (dl).lt
 have kl := (cd.blk).lt
 refine Xm Ks (Xg Z (Xg Z Xl)) Z (Jq ⟨4, E.run, E.b, 0, (m : Int) % 4⟩ _ G _ _ (TabG.at (TabG.ge (TabG.low c8 dc) cd.grw e0 (by omega))) cj (by omega) (ErrT.grown0 hE dx)) ?_
 rintro _ j4 ⟨dm, cf, J, rfl, c9, ct, db⟩
 have dy := low0 dx db
 obtain ⟨ky, fa⟩ : ∃ n, n = j4.heap.size := ⟨_, rfl⟩
 have jv := TabG.hi c9
 rw [← fa] at jv
 have eh := Qn ct
 have ks := Y8 ct
 have dz : callOk ⟨4, E.run, E.b, 0, (m : Int) % 4⟩ = true := Kk (by omega)
 have d6 : callPoss (tabT G) ⟨4, E.run, E.b, 0, (m : Int) % 4⟩ = true := Vp bm ad dz rfl
 have kt : J.length = G.length := Qm ct d6
 have j7 : (mAt J (E.run - 1).toNat).t.slots.length = 4 := Kr (q := ⟨4, E.run, E.b, 0, (m : Int) % 4⟩) ct d6
 obtain ⟨fp, fq⟩ := Su bm ad (of_decide_eq_true az) (of_decide_eq_false a8) a9 dz rfl rfl rfl ct
 have ak : ((decide ((rAt (mAt G (E.run - 1).toNat).t.slots (E.b).toNat).th = 0)) || (rAt (mAt G (E.run - 1).toNat).t.slots (E.b).toNat).wk) = true := fp
 have al : (((decide ((callDo (tabT G) ⟨4, E.run, E.b, 0, (m : Int) % 4⟩).2 < 0)) || (decide ((rAt (mAt J (E.run - 1).toNat).t.slots 0).th = 0))) || ((rAt (mAt J (E.run - 1).toNat).t.slots 0).wk && (!(rAt (mAt J (E.run - 1).toNat).t.slots 0).wr))) = true := Zn fq
 refine Xb (v := .tuple #[.slice dm J.length cf, vi (callDo (tabT G) ⟨4, E.run, E.b, 0, (m : Int) % 4⟩).2]) Z Z (X1 (v := .slice dm J.length cf) Z Z Z (X1 (v := vi (callDo (tabT G) ⟨4, E.run, E.b, 0, (m : Int) % 4⟩).2) Z Z Z (Xf (v := .slice dm J.length cf) Z Z (Xf (v := vi (callDo (tabT G) ⟨4, E.run, E.b, 0, (m : Int) % 4⟩).2) Z Z (Xc (Xa (Xb (v := .slice dm J.length cf) Z Z (Xd (o' := 1) Y9 dq Z Z ?_))))))))
 have fb := (dl.grown0 db)
 refine Xh (v := vi E.run) Xz Z (fb.cell Z) Z (Ym (c := E.run - 1) Z Z (by omega) (by omega) (by omega) Z ?_)
 obtain ⟨k5, ma, j3, fi, gp, gw⟩ := SlAt.at (TabG.at c9).1 (Yk (xg J (E.run - 1).toNat))
 have kh := TabLen.at eh (xg J (E.run - 1).toNat)
 refine X0 Y6 Z Z fi gp (by omega) (by omega) Z (Xd (o' := j3 + 5) Qi Z Z Z (Xh (v := .slice (mAt J (E.run - 1).toNat).sa (mAt J (E.run - 1).toNat).t.slots.length (mAt J (E.run - 1).toNat).sc) Jd Z (gw 5 _ Z) Z ?_))
 obtain ⟨k6, mb, l5, fj, gq, gx⟩ := SlAt.at (TabAt.th (TabG.at c9) (xg J (E.run - 1).toNat)).1 (Yk (xr (mAt J (E.run - 1).toNat).t.slots 0))
 refine X0 J9 Z Z fj gq (by omega) (by omega) Z (Xq (vs := [vi (rAt (mAt J (E.run - 1).toNat).t.slots 0).th, vi (rAt (mAt J (E.run - 1).toNat).t.slots 0).ve, vb (rAt (mAt J (E.run - 1).toNat).t.slots 0).rd, vb (rAt (mAt J (E.run - 1).toNat).t.slots 0).wr, vb (rAt (mAt J (E.run - 1).toNat).t.slots 0).wk]) Yz Z Z (Y3 gx 0 5 Z) Z (Yf (cs := #[vi 0, vi 0, vb false, vb false, vb false]) K7 Z Z ?_))
 intro em nc bq
 have ke := Yi bq dy
 have jx : hi ≤ em := nt (nt (nt (nt (nt (Nat.le_of_eq hhi) bl.size) dc.size) cd.grw.size) db.size) (Nat.le_of_eq bq.eq.symm)
 have gy : ky ≤ em := nt (Nat.le_of_eq fa) (Nat.le_of_eq bq.eq.symm)
 have ee := Xr bq (fb).lt
 have fc := (cd.blk.grown0 db)
 have ef := Xr bq (fc).lt
 refine Xx (vs := [vi (rAt (mAt J (E.run - 1).toNat).t.slots 0).th, vi (rAt (mAt J (E.run - 1).toNat).t.slots 0).ve, vb (rAt (mAt J (E.run - 1).toNat).t.slots 0).rd, vb (rAt (mAt J (E.run - 1).toNat).t.slots 0).wr, vb (rAt (mAt J (E.run - 1).toNat).t.slots 0).wk]) (cs' := #[vi (rAt (mAt J (E.run - 1).toNat).t.slots 0).th, vi (rAt (mAt J (E.run - 1).toNat).t.slots 0).ve, vb (rAt (mAt J (E.run - 1).toNat).t.slots 0).rd, vb (rAt (mAt J (E.run - 1).toNat).t.slots 0).wr, vb (rAt (mAt J (E.run - 1).toNat).t.slots 0).wk]) Yz Z Z Z (by simp [Value.oneCell']) bq.blk (Nat.le_of_ble_eq_true Z) Z ?_
 intro j5 bt
 refine Xc (X8 (fun f' w' => (f' 4 = vb (((decide ((rAt (mAt G (E.run - 1).toNat).t.slots (E.b).toNat).th = 0)) || (rAt (mAt G (E.run - 1).toNat).t.slots (E.b).toNat).wk) && (((decide ((callDo (tabT G) ⟨4, E.run, E.b, 0, (m : Int) % 4⟩).2 < 0)) || (decide ((rAt (mAt J (E.run - 1).toNat).t.slots 0).th = 0))) || ((rAt (mAt J (E.run - 1).toNat).t.slots 0).wk && (!(rAt (mAt J (E.run - 1).toNat).t.slots 0).wr))))) ∧ j5 = w') ?_ ?_)
 refine Xd (o' := 0) Yl dr Z Z ?_
 have fd := ((fc.grown0 bq.grw).gn bt.grw)
 refine Xh (v := vi (rAt (mAt G (E.run - 1).toNat).t.slots (E.b).toNat).th) Xz Z (fd.cell Z) Z (X3 (q := decide ((rAt (mAt G (E.run - 1).toNat).t.slots (E.b).toNat).th = 0)) Z Z Z Z (Xb (v := vb (decide ((rAt (mAt G (E.run - 1).toNat).t.slots (E.b).toNat).th = 0))) Z Z ?_))
 rcases Yb (decide ((rAt (mAt G (E.run - 1).toNat).t.slots (E.b).toNat).th = 0)) with aj | aj
 have ln := of_decide_eq_true aj
 refine Xi Z Z Z aj Z (Xi Z Z Z aj Z (Xo (v := vb true) Z aj Z Z (Xb (v := vb true) Z Z (Xe Z Z Z Z (Xb (v := vi (callDo (tabT G) ⟨4, E.run, E.b, 0, (m : Int) % 4⟩).2) Z Z (Xe Z Z Z Z (Qg (q := decide ((callDo (tabT G) ⟨4, E.run, E.b, 0, (m : Int) % 4⟩).2 < 0)) Z Z Z Z (Xe Z Z Z Z (Xb (v := vb (decide ((callDo (tabT G) ⟨4, E.run, E.b, 0, (m : Int) % 4⟩).2 < 0))) Z Z ?_)))))))))
 rcases Yb (decide ((callDo (tabT G) ⟨4, E.run, E.b, 0, (m : Int) % 4⟩).2 < 0)) with bg | bg
 have lp := of_decide_eq_true bg
 iterate 3 refine Xi rfl rfl rfl bg rfl ?_
 refine Xe Z Z Z Z (Xo (v := vb true) Z bg Z Z (Xe Z Z Z Z (Xb (v := vb true) Z Z ?_)))
 iterate 3 refine Xi rfl rfl rfl rfl rfl ?_
 iterate 3 refine Yq rfl rfl rfl rfl ?_
 exact Xi Z Z Z Z Z (Xe Z Z Z Z (Xo (v := vb true) Z Z Z Z (Xo (v := vb true) Z Z Z Z (Xf (v := vb true) Z Z (Xc ⟨(congrArg Value.bool (by first | (simp only [ah, am, an, ai, ad, au, av, ba, az, a8, bb, a9, aj, bg, ab, ac, ao, ap, aq, V, ak, al, b0, b1, b2, b3, b4, b5, b6, b7, b8, b9]; done) | simp [ah, am, an, ai, ad, au, av, ba, az, a8, bb, a9, aj, bg, ab, ac, ao, ap, aq, V, ak, al])), Z⟩)))))
 have lu := of_decide_eq_false bg
 refine Xe Z Z Z bg (Xd (o' := 0) Yl Z Z Z (Xe Z Z Z bg (Xh (v := vi (rAt (mAt J (E.run - 1).toNat).t.slots 0).th) Xz Z (bt.blk.cell Z) Z (Xe Z Z Z bg (X3 (q := decide ((rAt (mAt J (E.run - 1).toNat).t.slots 0).th = 0)) Z Z Z Z (Xe Z Z Z Z (Xn (v := vb (decide ((rAt (mAt J (E.run - 1).toNat).t.slots 0).th = 0))) Z bg Z Z (Xe Z Z Z Z (Xb (v := vb (decide ((rAt (mAt J (E.run - 1).toNat).t.slots 0).th = 0))) Z Z ?_)))))))))
 rcases Yb (decide ((rAt (mAt J (E.run - 1).toNat).t.slots 0).th = 0)) with bc | bc
 have lv := of_decide_eq_true bc
 iterate 3 refine Xi rfl rfl rfl bc rfl ?_
 iterate 3 refine Yq rfl rfl rfl rfl ?_
 exact Xi Z Z Z bc Z (Xe Z Z Z Z (Xo (v := vb true) Z bc Z Z (Xo (v := vb true) Z Z Z Z (Xf (v := vb true) Z Z (Xc ⟨(congrArg Value.bool (by first | (simp only [ah, am, an, ai, ad, au, av, ba, az, a8, bb, a9, aj, bg, bc, ab, ac, ao, ap, aq, V, ak, al, b0, b1, b2, b3, b4, b5, b6, b7, b8, b9]; done) | simp [ah, am, an, ai, ad, au, av, ba, az, a8, bb, a9, aj, bg, bc, ab, ac, ao, ap, aq, V, ak, al])), Z⟩)))))
 have lw := of_decide_eq_false bc
 refine Xe Z Z Z bc (Xd (o' := 4) K9 Z Z Z (Xe Z Z Z bc (Xh (v := vb (rAt (mAt J (E.run - 1).toNat).t.slots 0).wk) Jn Z (bt.blk.cell Z) Z (Xe Z Z Z bc (Xb (v := vb (rAt (mAt J (E.run - 1).toNat).t.slots 0).wk) Z Z ?_)))))
 rcases Yb (rAt (mAt J (E.run - 1).toNat).t.slots 0).wk with bn | bn
 exact Xe Z Z Z bn (Xd (o' := 3) Kb Z Z Z (Xe Z Z Z bn (Xh (v := vb (rAt (mAt J (E.run - 1).toNat).t.slots 0).wr) Jn Z (bt.blk.cell Z) Z (Xe Z Z Z bn (Yj (b' := !(rAt (mAt J (E.run - 1).toNat).t.slots 0).wr) Z Z Z (Xe Z Z Z bc (Xo (v := vb (!(rAt (mAt J (E.run - 1).toNat).t.slots 0).wr)) Z bn Z Z (Xe Z Z Z Z (Xn (v := vb (!(rAt (mAt J (E.run - 1).toNat).t.slots 0).wr)) Z bc Z Z (Xo (v := vb (!(rAt (mAt J (E.run - 1).toNat).t.slots 0).wr)) Z Z Z Z (Xf (v := vb (!(rAt (mAt J (E.run - 1).toNat).t.slots 0).wr)) Z Z (Xc ⟨(congrArg Value.bool (by first | (simp only [ah, am, an, ai, ad, au, av, ba, az, a8, bb, a9, aj, bg, bc, bn, ab, ac, ao, ap, aq, V, ak, al, b0, b1, b2, b3, b4, b5, b6, b7, b8, b9]; done) | simp [ah, am, an, ai, ad, au, av, ba, az, a8, bb, a9, aj, bg, bc, bn, ab, ac, ao, ap, aq, V, ak, al])), Z⟩))))))))))))
 iterate 3 refine Xi rfl rfl rfl bn rfl ?_
 exact Xe Z Z Z bc (Xn (v := vb false) Z bn Z Z (Xe Z Z Z Z (Xn (v := vb false) Z bc Z Z (Xo (v := vb false) Z Z Z Z (Xf (v := vb false) Z Z (Xc ⟨(congrArg Value.bool (by first | (simp only [ah, am, an, ai, ad, au, av, ba, az, a8, bb, a9, aj, bg, bc, bn, ab, ac, ao, ap, aq, V, ak, al, b0, b1, b2, b3, b4, b5, b6, b7, b8, b9]; done) | simp [ah, am, an, ai, ad, au, av, ba, az, a8, bb, a9, aj, bg, bc, bn, ab, ac, ao, ap, aq, V, ak, al])), Z⟩))))))
 have ly := of_decide_eq_false aj
 refine Xe Z Z Z aj (Xd (o' := 4) K9 dr Z Z (Xe Z Z Z aj (Xh (v := vb (rAt (mAt G (E.run - 1).toNat).t.slots (E.b).toNat).wk) Jn Z (fd.cell Z) Z (Xn (v := vb (rAt (mAt G (E.run - 1).toNat).t.slots (E.b).toNat).wk) Z aj Z Z (Xb (v := vb (rAt (mAt G (E.run - 1).toNat).t.slots (E.b).toNat).wk) Z Z ?_)))))
 rcases Yb (rAt (mAt G (E.run - 1).toNat).t.slots (E.b).toNat).wk with af | af
 refine Xe Z Z Z af (Xb (v := vi (callDo (tabT G) ⟨4, E.run, E.b, 0, (m : Int) % 4⟩).2) Z Z (Xe Z Z Z af (Qg (q := decide ((callDo (tabT G) ⟨4, E.run, E.b, 0, (m : Int) % 4⟩).2 < 0)) Z Z Z Z (Xe Z Z Z af (Xb (v := vb (decide ((callDo (tabT G) ⟨4, E.run, E.b, 0, (m : Int) % 4⟩).2 < 0))) Z Z ?_)))))
 rcases Yb (decide ((callDo (tabT G) ⟨4, E.run, E.b, 0, (m : Int) % 4⟩).2 < 0)) with bh | bh
 have lz := of_decide_eq_true bh
 iterate 3 refine Xi rfl rfl rfl bh rfl ?_
 refine Xe Z Z Z af (Xo (v := vb true) Z bh Z Z (Xe Z Z Z af (Xb (v := vb true) Z Z ?_)))
 iterate 3 refine Xi rfl rfl rfl rfl rfl ?_
 iterate 3 refine Yq rfl rfl rfl rfl ?_
 exact Xi Z Z Z Z Z (Xe Z Z Z af (Xo (v := vb true) Z Z Z Z (Xo (v := vb true) Z af Z Z (Xf (v := vb true) Z Z (Xc ⟨(congrArg Value.bool (by first | (simp only [ah, am, an, ai, ad, au, av, ba, az, a8, bb, a9, aj, af, bh, ab, ac, ao, ap, aq, V, ak, al, b0, b1, b2, b3, b4, b5, b6, b7, b8, b9]; done) | simp [ah, am, an, ai, ad, au, av, ba, az, a8, bb, a9, aj, af, bh, ab, ac, ao, ap, aq, V, ak, al])), Z⟩)))))
 have l0 := of_decide_eq_false bh
 refine Xe Z Z Z bh (Xd (o' := 0) Yl Z Z Z (Xe Z Z Z bh (Xh (v := vi (rAt (mAt J (E.run - 1).toNat).t.slots 0).th) Xz Z (bt.blk.cell Z) Z (Xe Z Z Z bh (X3 (q := decide ((rAt (mAt J (E.run - 1).toNat).t.slots 0).th = 0)) Z Z Z Z (Xe Z Z Z af (Xn (v := vb (decide ((rAt (mAt J (E.run - 1).toNat).t.slots 0).th = 0))) Z bh Z Z (Xe Z Z Z af (Xb (v := vb (decide ((rAt (mAt J (E.run - 1).toNat).t.slots 0).th = 0))) Z Z ?_)))))))))
 rcases Yb (decide ((rAt (mAt J (E.run - 1).toNat).t.slots 0).th = 0)) with bd | bd
 have l3 := of_decide_eq_true bd
 iterate 3 refine Xi rfl rfl rfl bd rfl ?_
 iterate 3 refine Yq rfl rfl rfl rfl ?_
 exact Xi Z Z Z bd Z (Xe Z Z Z af (Xo (v := vb true) Z bd Z Z (Xo (v := vb true) Z af Z Z (Xf (v := vb true) Z Z (Xc ⟨(congrArg Value.bool (by first | (simp only [ah, am, an, ai, ad, au, av, ba, az, a8, bb, a9, aj, af, bh, bd, ab, ac, ao, ap, aq, V, ak, al, b0, b1, b2, b3, b4, b5, b6, b7, b8, b9]; done) | simp [ah, am, an, ai, ad, au, av, ba, az, a8, bb, a9, aj, af, bh, bd, ab, ac, ao, ap, aq, V, ak, al])), Z⟩)))))
 have l4 := of_decide_eq_false bd
 refine Xe Z Z Z bd (Xd (o' := 4) K9 Z Z Z (Xe Z Z Z bd (Xh (v := vb (rAt (mAt J (E.run - 1).toNat).t.slots 0).wk) Jn Z (bt.blk.cell Z) Z (Xe Z Z Z bd (Xb (v := vb (rAt (mAt J (E.run - 1).toNat).t.slots 0).wk) Z Z ?_)))))
 rcases Yb (rAt (mAt J (E.run - 1).toNat).t.slots 0).wk with bp | bp
 exact Xe Z Z Z bp (Xd (o' := 3) Kb Z Z Z (Xe Z Z Z bp (Xh (v := vb (rAt (mAt J (E.run - 1).toNat).t.slots 0).wr) Jn Z (bt.blk.cell Z) Z (Xe Z Z Z bp (Yj (b' := !(rAt (mAt J (E.run - 1).toNat).t.slots 0).wr) Z Z Z (Xe Z Z Z bd (Xo (v := vb (!(rAt (mAt J (E.run - 1).toNat).t.slots 0).wr)) Z bp Z Z (Xe Z Z Z af (Xn (v := vb (!(rAt (mAt J (E.run - 1).toNat).t.slots 0).wr)) Z bd Z Z (Xo (v := vb (!(rAt (mAt J (E.run - 1).toNat).t.slots 0).wr)) Z af Z Z (Xf (v := vb (!(rAt (mAt J (E.run - 1).toNat).t.slots 0).wr)) Z Z (Xc ⟨(congrArg Value.bool (by first | (simp only [ah, am, an, ai, ad, au, av, ba, az, a8, bb, a9, aj, af, bh, bd, bp, ab, ac, ao, ap, aq, V, ak, al, b0, b1, b2, b3, b4, b5, b6, b7, b8, b9]; done) | simp [ah, am, an, ai, ad, au, av, ba, az, a8, bb, a9, aj, af, bh, bd, bp, ab, ac, ao, ap, aq, V, ak, al])), Z⟩))))))))))))
 iterate 3 refine Xi rfl rfl rfl bp rfl ?_
 exact Xe Z Z Z bd (Xn (v := vb false) Z bp Z Z (Xe Z Z Z af (Xn (v := vb false) Z bd Z Z (Xo (v := vb false) Z af Z Z (Xf (v := vb false) Z Z (Xc ⟨(congrArg Value.bool (by first | (simp only [ah, am, an, ai, ad, au, av, ba, az, a8, bb, a9, aj, af, bh, bd, bp, ab, ac, ao, ap, aq, V, ak, al, b0, b1, b2, b3, b4, b5, b6, b7, b8, b9]; done) | simp [ah, am, an, ai, ad, au, av, ba, az, a8, bb, a9, aj, af, bh, bd, bp, ab, ac, ao, ap, aq, V, ak, al])), Z⟩))))))
 iterate 3 refine Xi rfl rfl rfl af rfl ?_
 iterate 3 refine Yq rfl rfl rfl rfl ?_
 refine Xi Z Z Z af Z (Xi Z Z Z af Z ?_)
 iterate 7 refine Yq rfl rfl rfl rfl ?_
 exact Xi Z Z Z af Z (Xn (v := vb false) Z af Z Z (Xf (v := vb false) Z Z (Xc ⟨(congrArg Value.bool (by first | (simp only [ah, am, an, ai, ad, au, av, ba, az, a8, bb, a9, aj, af, ab, ac, ao, ap, aq, V, ak, al, b0, b1, b2, b3, b4, b5, b6, b7, b8, b9]; done) | simp [ah, am, an, ai, ad, au, av, ba, az, a8, bb, a9, aj, af, ab, ac, ao, ap, aq, V, ak, al])), Z⟩)))
 rintro la nd ⟨js, rfl⟩
 refine Xt (⟨vb (((decide ((rAt (mAt G (E.run - 1).toNat).t.slots (E.b).toNat).th = 0)) || (rAt (mAt G (E.run - 1).toNat).t.slots (E.b).toNat).wk) && (((decide ((callDo (tabT G) ⟨4, E.run, E.b, 0, (m : Int) % 4⟩).2 < 0)) || (decide ((rAt (mAt J (E.run - 1).toNat).t.slots 0).th = 0))) || ((rAt (mAt J (E.run - 1).toNat).t.slots 0).wk && (!(rAt (mAt J (E.run - 1).toNat).t.slots 0).wr)))), Yx Z js, ?_, (low1 (low0 dy bq.grw) bt.grw (by omega))⟩)
 exact congrArg Value.bool (Bool.and_eq_true_iff.2 ⟨ak, al⟩)
end Go.Proofs.YtlhhijnmacogcaaGreatDoor
end
