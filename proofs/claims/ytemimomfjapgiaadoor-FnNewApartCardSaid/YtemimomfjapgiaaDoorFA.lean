/-
  The plain law of a call that is done.
-/
import Derived.Test.YtemimomfjapgiaaDoorZ
namespace Go.Dw
def setTh (ts : List Th) (k : Int) (t : Th) : List Th := ts.set (k - 1).toNat t
def setNum (ts : List Th) (k n : Int) : List Th := setTh ts k { thAt ts k with num := n }
def putSl (ts : List Th) (k j : Int) (x : Rt) : List Th := setTh ts k { thAt ts k with slots := (thAt ts k).slots.set j.toNat x }
def setQ (ts : List Th) (k : Int) (ns : List Int) : List Th := setTh ts k { thAt ts k with queue := ns }
def renewed (o : Th) : Th := { newTh o.kind o.lab o.to with ve := o.ve + 1 }
def fetched (x : Rt) (wk : Bool) : Rt := if wk = true then l2Less x true false false else x
/-- What a call does to a thing that is as the right says. -/
def far (ts : List Th) (q : Cl) (r : Rt) : List Th × Int :=
  if q.kind = 1 then (ts, (thAt ts r.th).num)
  else if q.kind = 2 then (setNum ts r.th q.n, 0)
  else if q.kind = 4 then (putSl ts q.run q.b (fetched (slotAt ts r.th (q.n % 4)) r.wk), 0)
  else if q.kind = 5 then (putSl ts r.th (q.n % 4) (slotAt ts q.run q.b), 0)
  else if q.kind = 6 then (if (thAt ts r.th).queue.length < 3 then (setQ ts r.th ((thAt ts r.th).queue ++ [q.n]), 0) else (ts, -4))
  else if q.kind = 7 then (if (thAt ts r.th).queue.length = 0 then (ts, -4) else (setQ ts r.th ((thAt ts r.th).queue.drop 1), iAt (thAt ts r.th).queue 0))
  else if q.kind = 8 then (if (thAt ts r.th).ve < 5 then (setTh ts r.th (renewed (thAt ts r.th)), 0) else (ts, -4))
  else (setTh (setNum ts (thAt ts r.th).to (q.n % 2)) r.th { thAt ts r.th with num := min ((thAt ts r.th).num + 1) 99 }, 0)
def lessBits (r : Rt) (n : Int) : Rt := l2Less r (decide (n % 2 = 1)) (decide (n / 2 % 2 = 1)) (decide (n / 4 % 2 = 1))
def told (ts : List Th) (q : Cl) (r : Rt) : Int := if sees (far ts q r).1 q.run r.th = true then (far ts q r).2 else 0
/-- A runner calls. -/
def doCall (ts : List Th) (q : Cl) : List Th × Int :=
  if check1 ts q < 0 then (setNum ts q.run (check1 ts q), check1 ts q)
  else if q.kind = 3 then (setNum (putSl ts q.run q.b (lessBits (slotAt ts q.run q.a) q.n)) q.run (check1 ts q), check1 ts q)
  else if live ts (slotAt ts q.run q.a) = true then (setNum (far ts q (slotAt ts q.run q.a)).1 q.run (told ts q (slotAt ts q.run q.a)), told ts q (slotAt ts q.run q.a))
  else (setNum ts q.run (check1 ts q), check1 ts q)
def callDo (ts : List Th) (q : Cl) : List Th × Int := if callPoss ts q = true then doCall ts q else ([], -1)
/-! ### a table stays one -/
section
variable {ts : List Th} {k : Int} {t t' : Th}
theorem thAt_get (h : 1 ≤ k ∧ k ≤ (ts.length : Int)) : ts[(k - 1).toNat]? = some (thAt ts k) := by
  unfold thAt
  rw [List.getD_eq_getElem?_getD, List.getElem?_eq_getElem (by omega)]
  rfl
theorem thAt_set (h : 1 ≤ k ∧ k ≤ (ts.length : Int)) (j : Int) (hj : 1 ≤ j) : thAt (setTh ts k t) j = if j = k then t else thAt ts j := by
  unfold thAt setTh
  rw [List.getD_eq_getElem?_getD, List.getD_eq_getElem?_getD, List.getElem?_set]
  by_cases e : j = k
  · subst e
    rw [if_pos rfl, if_pos rfl, if_pos (by omega)]
    rfl
  · rw [if_neg e, if_neg (by omega)]
theorem setTh_len : (setTh ts k t).length = ts.length := List.length_set ..
theorem rightTo_set (h : 1 ≤ k ∧ k ≤ (ts.length : Int)) (hv : (thAt ts k).ve ≤ t.ve) {r : Rt} (hr : rightTo ts r = true) : rightTo (setTh ts k t) r = true := by
  unfold rightTo at hr ⊢
  rw [Bool.or_eq_true] at hr ⊢
  rcases hr with h0 | h0
  · exact Or.inl h0
  · rw [Bool.and_eq_true] at h0
    have h1 := inR_iff.1 h0.1
    have h2 := of_decide_eq_true h0.2
    refine Or.inr (Bool.and_eq_true_iff.2 ⟨?_, decide_eq_true ?_⟩)
    · rw [setTh_len]; exact h0.1
    · rw [thAt_set h r.th h1.1]
      split
      · rename_i e; rw [e] at h2; omega
      · exact h2
theorem kindAt_set (h : 1 ≤ k ∧ k ≤ (ts.length : Int)) (hk : t.kind = (thAt ts k).kind) (j kd : Int) : kindAt (setTh ts k t) j kd = kindAt ts j kd := by
  unfold kindAt
  rw [setTh_len]
  by_cases hj : 1 ≤ j
  · rw [thAt_set h j hj]
    split
    · rename_i e; rw [hk, e]
    · rfl
  · have : inR j 1 (ts.length : Int) = false := by simp [inR]; omega
    rw [this]; rfl
theorem gateOk_set (h : 1 ≤ k ∧ k ≤ (ts.length : Int)) (hk : t.kind = (thAt ts k).kind) (s : Th) : gateOk (setTh ts k t) s = gateOk ts s := by
  unfold gateOk
  rw [kindAt_set h hk]
theorem row_of (hT : tableOk ts = true) {s : Th} (hs : s ∈ ts) : thingOk s = true ∧ gateOk ts s = true ∧ ∀ r ∈ s.slots, rightTo ts r = true := by
  rw [tableOk_rows] at hT
  have h1 := List.all_eq_true.1 (Bool.and_eq_true_iff.1 hT).2 s hs
  unfold rowOk at h1
  rw [Bool.and_eq_true, Bool.and_eq_true] at h1
  exact ⟨h1.1.1, h1.1.2, fun r hr => List.all_eq_true.1 h1.2 r hr⟩
theorem row_at (hT : tableOk ts = true) (h : 1 ≤ k ∧ k ≤ (ts.length : Int)) : thingOk (thAt ts k) = true ∧ gateOk ts (thAt ts k) = true ∧ ∀ r ∈ (thAt ts k).slots, rightTo ts r = true :=
  row_of hT (List.mem_of_getElem? (thAt_get h))
theorem table_set (hT : tableOk ts = true) (h : 1 ≤ k ∧ k ≤ (ts.length : Int)) (hok : thingOk t = true) (hk : t.kind = (thAt ts k).kind) (hv : (thAt ts k).ve ≤ t.ve) (hto : t.to = (thAt ts k).to) (hs : ∀ r ∈ t.slots, rightTo ts r = true) : tableOk (setTh ts k t) = true := by
  have hT' := hT
  rw [tableOk_rows] at hT ⊢
  rw [Bool.and_eq_true] at hT ⊢
  refine ⟨by rw [setTh_len]; exact hT.1, List.all_eq_true.2 fun s hs' => ?_⟩
  have key : thingOk s = true ∧ gateOk ts s = true ∧ ∀ r ∈ s.slots, rightTo ts r = true := by
    rcases List.mem_or_eq_of_mem_set hs' with h1 | rfl
    · exact row_of hT' h1
    · refine ⟨hok, ?_, hs⟩
      have h2 := (row_at hT' h).2.1
      unfold gateOk at h2 ⊢
      rw [hk, hto]; exact h2
  unfold rowOk
  rw [Bool.and_eq_true, Bool.and_eq_true]
  exact ⟨⟨key.1, by rw [gateOk_set h hk]; exact key.2.1⟩, List.all_eq_true.2 fun r hr => rightTo_set h hv (key.2.2 r hr)⟩
theorem num_set (hT : tableOk ts = true) (h : 1 ≤ k ∧ k ≤ (ts.length : Int)) {n : Int} (hn : numOk { thAt ts k with num := n } = true) : tableOk (setNum ts k n) = true := by
  have h1 := row_at hT h
  refine table_set hT h ?_ rfl (Int.le_refl _) rfl h1.2.2
  obtain ⟨p1, p2, p3, _, p5, p6, p7⟩ := thingOk_parts h1.1
  unfold thingOk
  simp only [Bool.and_eq_true]
  exact ⟨⟨⟨⟨⟨⟨p1, p2⟩, p3⟩, hn⟩, p5⟩, p6⟩, p7⟩
theorem slot_set (hT : tableOk ts = true) (h : 1 ≤ k ∧ k ≤ (ts.length : Int)) (hk : (thAt ts k).kind = 2 ∨ (thAt ts k).kind = 3) {j : Int} {x : Rt} (hx : rightOk x = true) (hx2 : rightTo ts x = true) : tableOk (putSl ts k j x) = true := by
  have h1 := row_at hT h
  refine table_set hT h ?_ rfl (Int.le_refl _) rfl (fun r hr => ?_)
  · obtain ⟨p1, p2, p3, p4, p5, p6, p7⟩ := thingOk_parts h1.1
    unfold thingOk
    simp only [Bool.and_eq_true]
    refine ⟨⟨⟨⟨⟨⟨p1, p2⟩, p3⟩, p4⟩, ?_⟩, p6⟩, p7⟩
    unfold slotsOk at p5 ⊢
    rw [if_pos hk] at p5 ⊢
    rw [Bool.and_eq_true] at p5 ⊢
    refine ⟨by rw [List.length_set]; exact p5.1, List.all_eq_true.2 fun r hr => ?_⟩
    rcases List.mem_or_eq_of_mem_set hr with h2 | rfl
    · exact List.all_eq_true.1 p5.2 r h2
    · exact hx
  · rcases List.mem_or_eq_of_mem_set hr with h2 | rfl
    · exact h1.2.2 r h2
    · exact hx2
theorem less_ok {r : Rt} {a b c : Bool} (h : rightOk r = true) : rightOk (l2Less r a b c) = true := by
  unfold l2Less
  split
  · exact h
  · rename_i h0
    unfold rightOk at h ⊢
    simp only [Bool.or_eq_true, Bool.and_eq_true, decide_eq_true_eq] at h ⊢
    rcases h with rfl | ⟨⟨h1, h2⟩, h3⟩
    · exact absurd rfl h0
    · refine Or.inr ⟨⟨h1, h2⟩, ?_⟩
      cases hw : r.wr <;> cases hk : r.wk <;> cases b <;> cases c <;> simp_all
theorem less_to {r : Rt} {a b c : Bool} (h : rightTo ts r = true) : rightTo ts (l2Less r a b c) = true := by
  unfold l2Less
  split
  · exact h
  · exact h
theorem slot_ok (hT : tableOk ts = true) (h : 1 ≤ k ∧ k ≤ (ts.length : Int)) (j : Int) : rightOk (slotAt ts k j) = true ∧ rightTo ts (slotAt ts k j) = true := by
  have h1 := row_at hT h
  unfold slotAt
  by_cases hj : j.toNat < (thAt ts k).slots.length
  · have h2 := List.mem_of_getElem? (rAt_get hj)
    exact ⟨List.all_eq_true.1 (th_slots h1.1) _ h2, h1.2.2 _ h2⟩
  · have : rAt (thAt ts k).slots j.toNat = Rt.zero := by
      unfold rAt
      rw [List.getD_eq_getElem?_getD, List.getElem?_eq_none (by omega)]
      rfl
    rw [this]
    exact ⟨by decide, by simp [rightTo, Rt.zero]⟩
end
theorem queue_set {ts : List Th} {k : Int} (hT : tableOk ts = true) (h : 1 ≤ k ∧ k ≤ (ts.length : Int)) (hk : (thAt ts k).kind = 4) {ns : List Int} (hl : ns.length ≤ 3) (hn : ns.all numQ = true) : tableOk (setQ ts k ns) = true := by
  have h1 := row_at hT h
  refine table_set hT h ?_ rfl (Int.le_refl _) rfl h1.2.2
  obtain ⟨p1, p2, p3, p4, p5, _, p7⟩ := thingOk_parts h1.1
  unfold thingOk
  simp only [Bool.and_eq_true]
  refine ⟨⟨⟨⟨⟨⟨p1, p2⟩, p3⟩, p4⟩, p5⟩, ?_⟩, p7⟩
  unfold queueOk
  simp only [hk, if_true, Bool.and_eq_true, decide_eq_true_eq]
  exact ⟨hl, hn⟩
theorem pipe_q {t : Th} (h : thingOk t = true) (hk : t.kind = 4) : t.queue.length ≤ 3 ∧ t.queue.all numQ = true := by
  have h6 := (thingOk_parts h).2.2.2.2.2.1
  unfold queueOk at h6
  rw [if_pos hk, Bool.and_eq_true] at h6
  exact ⟨of_decide_eq_true h6.1, h6.2⟩
theorem renew_ok {t : Th} (h : thingOk t = true) (hk : t.kind = 1 ∨ t.kind = 2 ∨ t.kind = 4) (hv : t.ve < 5) : thingOk (renewed t) = true := by
  obtain ⟨p1, p2, p3, _, _, _, p7⟩ := thingOk_parts h
  unfold versOk at p3
  rw [if_pos hk] at p3
  have p3 := inR_iff.1 p3
  unfold targetOk at p7
  rw [if_neg (by omega)] at p7
  have p7 := of_decide_eq_true p7
  unfold renewed newTh thingOk
  simp only [Bool.and_eq_true]
  refine ⟨⟨⟨⟨⟨⟨p1, p2⟩, ?_⟩, ?_⟩, ?_⟩, ?_⟩, ?_⟩
  · unfold versOk; rw [if_pos hk]; exact inR_iff.2 (show 0 ≤ t.ve + 1 ∧ t.ve + 1 ≤ 5 by omega)
  · unfold numOk
    simp only
    split
    · decide
    · split
      · decide
      · decide
  · unfold slotsOk has4
    rcases hk with e | e | e <;> simp [e] <;> decide
  · unfold queueOk
    simp
  · unfold targetOk; rw [if_neg (show ¬ t.kind = 5 by omega)]; exact decide_eq_true p7
theorem renewOk {t : Th} (h : thingOk t = true) (hk : t.kind = 1 ∨ t.kind = 2 ∨ t.kind = 4) : newOk t.kind t.lab t.to = true := by
  obtain ⟨p1, p2, _, _, _, _, p7⟩ := thingOk_parts h
  unfold targetOk at p7
  rw [if_neg (by omega)] at p7
  have p7 := of_decide_eq_true p7
  unfold newOk newTh thingOk
  simp only [Bool.and_eq_true]
  refine ⟨⟨⟨⟨⟨⟨p1, p2⟩, ?_⟩, ?_⟩, ?_⟩, ?_⟩, ?_⟩
  · unfold versOk; rw [if_pos hk]; rfl
  · unfold numOk
    simp only
    split
    · decide
    · split
      · decide
      · decide
  · unfold slotsOk has4
    rcases hk with e | e | e <;> simp [e] <;> decide
  · unfold queueOk
    simp
  · unfold targetOk; rw [if_neg (show ¬ t.kind = 5 by omega)]; exact decide_eq_true p7
theorem kindFor_k {c k : Int} (h : kindFor c k = true) (hc : 1 ≤ c ∧ c ≤ 9) : (c = 1 → k = 1) ∧ (c = 2 → k = 1) ∧ (c = 4 → k = 2) ∧ (c = 5 → k = 2) ∧ (c = 6 → k = 4) ∧ (c = 7 → k = 4) ∧ (c = 8 → k = 1 ∨ k = 2 ∨ k = 4) ∧ (c = 9 → k = 5) := by
  unfold kindFor at h
  refine ⟨fun e => ?_, fun e => ?_, fun e => ?_, fun e => ?_, fun e => ?_, fun e => ?_, fun e => ?_, fun e => ?_⟩ <;> subst e <;> simp at h <;> omega
/-- What goes far is a call that is such, by a right to a thing that there is, of a kind for it. -/
structure FarOk (ts : List Th) (q : Cl) (r : Rt) : Prop where
  tab : tableOk ts = true
  call : callOk q = true
  run : kindAt ts q.run 3 = true
  th : 1 ≤ r.th ∧ r.th ≤ (ts.length : Int)
  kind : kindFor q.kind (thAt ts r.th).kind = true
  copy : ¬ q.kind = 3
theorem kindAt_th {ts : List Th} {k kd : Int} (h : kindAt ts k kd = true) : (1 ≤ k ∧ k ≤ (ts.length : Int)) ∧ (thAt ts k).kind = kd := by
  unfold kindAt at h
  rw [Bool.and_eq_true] at h
  exact ⟨inR_iff.1 h.1, of_decide_eq_true h.2⟩
theorem kindAt_of {ts : List Th} {k kd : Int} (h : 1 ≤ k ∧ k ≤ (ts.length : Int)) (e : (thAt ts k).kind = kd) : kindAt ts k kd = true := by
  unfold kindAt
  rw [Bool.and_eq_true]
  exact ⟨inR_iff.2 h, decide_eq_true e⟩
theorem gate_to {ts : List Th} (hT : tableOk ts = true) {k : Int} (h : 1 ≤ k ∧ k ≤ (ts.length : Int)) (hk : (thAt ts k).kind = 5) : kindAt ts (thAt ts k).to 1 = true := by
  have h1 := (row_at hT h).2.1
  unfold gateOk at h1
  simpa [hk] using h1
theorem all_drop {α : Type} {p : α → Bool} {l : List α} (h : l.all p = true) (n : Nat) : (l.drop n).all p = true :=
  List.all_eq_true.2 fun x hx => List.all_eq_true.1 h x (List.mem_of_mem_drop hx)
theorem rng_0 : -4 ≤ (0 : Int) ∧ (0 : Int) ≤ 99 := ⟨by decide, by decide⟩
theorem rng_4 : -4 ≤ (-4 : Int) ∧ (-4 : Int) ≤ 99 := ⟨by decide, by decide⟩
/-- What has gone far: a table still, of the same things; an answer that may stand. -/
theorem far_ok {ts : List Th} {q : Cl} {r : Rt} (h : FarOk ts q r) : tableOk (far ts q r).1 = true ∧ (far ts q r).1.length = ts.length ∧ (-4 ≤ (far ts q r).2 ∧ (far ts q r).2 ≤ 99) ∧ (∀ j, 1 ≤ j → (thAt (far ts q r).1 j).kind = (thAt ts j).kind) := by
  have hc := callOk_iff h.call
  have hk := kindFor_k h.kind hc.1
  have hrun := kindAt_th h.run
  have hrow := row_at h.tab h.th
  have hset : ∀ (t : Th) (k : Int), 1 ≤ k ∧ k ≤ (ts.length : Int) → t.kind = (thAt ts k).kind → ∀ j, 1 ≤ j → (thAt (setTh ts k t) j).kind = (thAt ts j).kind := fun t k hk' e j hj => by
    rw [thAt_set hk' j hj]
    split
    · rename_i e2; rw [e, e2]
    · rfl
  have hn := h.copy
  unfold far
  split
  · rename_i e
    refine ⟨h.tab, rfl, ?_, fun _ _ => rfl⟩
    have h4 := (thingOk_parts hrow.1).2.2.2.1
    unfold numOk at h4
    rw [if_pos (Or.inl (hk.1 e))] at h4
    have := inR_iff.1 h4
    exact ⟨by omega, this.2⟩
  split
  · rename_i e
    refine ⟨num_set h.tab h.th ?_, setTh_len, rng_0, hset _ _ h.th rfl⟩
    unfold numOk
    rw [if_pos (Or.inl (hk.2.1 e))]
    exact inR_iff.2 (show 0 ≤ q.n ∧ q.n ≤ 99 by omega)
  split
  · rename_i e
    have h1 := slot_ok h.tab h.th (q.n % 4)
    refine ⟨slot_set h.tab hrun.1 (Or.inr hrun.2) ?_ ?_, setTh_len, rng_0, hset _ _ hrun.1 rfl⟩
    · unfold fetched; split
      · exact less_ok h1.1
      · exact h1.1
    · unfold fetched; split
      · exact less_to h1.2
      · exact h1.2
  split
  · rename_i e
    have h1 := slot_ok h.tab hrun.1 q.b
    exact ⟨slot_set h.tab h.th (Or.inl (hk.2.2.2.1 e)) h1.1 h1.2, setTh_len, rng_0, hset _ _ h.th rfl⟩
  split
  · rename_i e
    have hp := pipe_q hrow.1 (hk.2.2.2.2.1 e)
    split
    · refine ⟨queue_set h.tab h.th (hk.2.2.2.2.1 e) (by rw [List.length_append, List.length_singleton]; omega) ?_, setTh_len, rng_0, hset _ _ h.th rfl⟩
      rw [List.all_append, hp.2]
      simp only [List.all_cons, List.all_nil, Bool.and_true, Bool.true_and]
      exact inR_iff.2 ⟨by omega, by omega⟩
    · exact ⟨h.tab, rfl, rng_4, fun _ _ => rfl⟩
  split
  · rename_i e
    have hp := pipe_q hrow.1 (hk.2.2.2.2.2.1 e)
    split
    · exact ⟨h.tab, rfl, rng_4, fun _ _ => rfl⟩
    · rename_i hl
      refine ⟨queue_set h.tab h.th (hk.2.2.2.2.2.1 e) (by rw [List.length_drop]; omega) (all_drop hp.2 1), setTh_len, ?_, hset _ _ h.th rfl⟩
      have := inR_iff.1 (List.all_eq_true.1 hp.2 _ (List.mem_of_getElem? (iAt_get (i := 0) (by omega))))
      exact ⟨by omega, this.2⟩
  split
  · rename_i e
    split
    · rename_i hv
      refine ⟨table_set h.tab h.th (renew_ok hrow.1 (hk.2.2.2.2.2.2.1 e) hv) rfl ?_ rfl ?_, setTh_len, rng_0, hset _ _ h.th rfl⟩
      · show (thAt ts r.th).ve ≤ (thAt ts r.th).ve + 1
        omega
      · intro x hx
        have : x = Rt.zero := by
          unfold renewed newTh at hx
          simp only at hx
          split at hx
          · simp [zeros4] at hx; exact hx
          · cases hx
        subst this
        simp [rightTo, Rt.zero]
    · exact ⟨h.tab, rfl, rng_4, fun _ _ => rfl⟩
  · rename_i e1 e2 e4 e5 e6 e7 e8
    have e9 : q.kind = 9 := by omega
    have h5 := hk.2.2.2.2.2.2.2 e9
    have hg := kindAt_th (gate_to h.tab h.th h5)
    have hT1 : tableOk (setNum ts (thAt ts r.th).to (q.n % 2)) = true := by
      refine num_set h.tab hg.1 ?_
      unfold numOk
      rw [if_pos (Or.inl hg.2)]
      exact inR_iff.2 (show 0 ≤ q.n % 2 ∧ q.n % 2 ≤ 99 by omega)
    have hne : r.th ≠ (thAt ts r.th).to := fun e => by
      have := hg.2
      rw [← e, h5] at this
      omega
    have hsame : thAt (setNum ts (thAt ts r.th).to (q.n % 2)) r.th = thAt ts r.th := by
      unfold setNum
      rw [thAt_set hg.1 r.th h.th.1, if_neg hne]
    have hth : 1 ≤ r.th ∧ r.th ≤ ((setNum ts (thAt ts r.th).to (q.n % 2)).length : Int) := by
      unfold setNum; rw [setTh_len]; exact h.th
    have hfin := num_set hT1 hth (n := min ((thAt ts r.th).num + 1) 99) (by
      rw [hsame]
      unfold numOk
      rw [if_pos (Or.inr h5)]
      have h4 := (thingOk_parts hrow.1).2.2.2.1
      unfold numOk at h4
      rw [if_pos (Or.inr h5)] at h4
      have := inR_iff.1 h4
      exact inR_iff.2 (show 0 ≤ min ((thAt ts r.th).num + 1) 99 ∧ min ((thAt ts r.th).num + 1) 99 ≤ 99 by omega))
    unfold setNum at hfin
    rw [show thAt (setTh ts (thAt ts r.th).to { thAt ts (thAt ts r.th).to with num := q.n % 2 }) r.th = thAt ts r.th from hsame] at hfin
    refine ⟨hfin, by unfold setNum; rw [setTh_len, setTh_len], rng_0, fun j hj => ?_⟩
    rw [thAt_set hth j hj]
    split
    · rename_i e; rw [e]
    · exact hset { thAt ts (thAt ts r.th).to with num := q.n % 2 } _ hg.1 rfl j hj
theorem check_rng (ts : List Th) (q : Cl) : -3 ≤ check1 ts q ∧ check1 ts q ≤ 0 := by
  unfold check1
  split
  · omega
  · split
    · omega
    · split
      · omega
      · split <;> omega
theorem farOk_of {ts : List Th} {q : Cl} (hp : callPoss ts q = true) (h0 : ¬ check1 ts q < 0) (h3 : ¬ q.kind = 3) (hl : live ts (slotAt ts q.run q.a) = true) : FarOk ts q (slotAt ts q.run q.a) := by
  unfold callPoss at hp
  rw [Bool.and_eq_true, Bool.and_eq_true] at hp
  refine ⟨hp.1.1, hp.1.2, hp.2, ?_, ?_, h3⟩
  · unfold live at hl
    exact inR_iff.1 (Bool.and_eq_true_iff.1 hl).1
  · unfold check1 at h0
    rw [if_neg h3] at h0
    split at h0
    · exact absurd (by decide) h0
    · rename_i hc
      unfold chk1 at hc
      simp only [Bool.or_eq_true, Bool.not_eq_true', not_or] at hc
      simpa using hc.1.1.2
theorem callPoss_parts {ts : List Th} {q : Cl} (hp : callPoss ts q = true) : tableOk ts = true ∧ callOk q = true ∧ kindAt ts q.run 3 = true := by
  unfold callPoss at hp
  rw [Bool.and_eq_true, Bool.and_eq_true] at hp
  exact ⟨hp.1.1, hp.1.2, hp.2⟩
theorem setTh_set {ts : List Th} {k : Int} {t t' : Th} : setTh (setTh ts k t) k t' = setTh ts k t' := by
  unfold setTh
  rw [List.set_set]
theorem told_rng {ts : List Th} {q : Cl} {r : Rt} (h : FarOk ts q r) : -4 ≤ told ts q r ∧ told ts q r ≤ 99 := by
  have := (far_ok h).2.2.1
  unfold told
  split <;> omega
/-- Whatever is called, a table stays one. -/
theorem doCall_ok {ts : List Th} {q : Cl} (hp : callPoss ts q = true) : tableOk (doCall ts q).1 = true ∧ (doCall ts q).1.length = ts.length ∧ ∀ j, 1 ≤ j → (thAt (doCall ts q).1 j).kind = (thAt ts j).kind := by
  obtain ⟨hT, hc, hr⟩ := callPoss_parts hp
  have hrun := kindAt_th hr
  have hrng := check_rng ts q
  have run3 : ∀ (us : List Th) (n : Int), tableOk us = true → us.length = ts.length → (∀ j, 1 ≤ j → (thAt us j).kind = (thAt ts j).kind) → -4 ≤ n → n ≤ 99 →
      tableOk (setNum us q.run n) = true ∧ (setNum us q.run n).length = ts.length ∧ ∀ j, 1 ≤ j → (thAt (setNum us q.run n) j).kind = (thAt ts j).kind := fun us n h1 h2 h3 h4 h5 => by
    have hin : 1 ≤ q.run ∧ q.run ≤ (us.length : Int) := by rw [h2]; exact hrun.1
    have hk3 : (thAt us q.run).kind = 3 := (h3 _ hrun.1.1).trans hrun.2
    refine ⟨num_set h1 hin ?_, by unfold setNum; rw [setTh_len, h2], fun j hj => ?_⟩
    · unfold numOk
      rw [if_neg (by simp only; omega), if_pos hk3]
      exact inR_iff.2 ⟨h4, h5⟩
    · unfold setNum
      rw [thAt_set hin j hj]
      split
      · rename_i e; rw [e]; exact h3 _ hrun.1.1
      · exact h3 j hj
  unfold doCall
  split
  · exact run3 ts _ hT rfl (fun _ _ => rfl) (by omega) (by omega)
  · rename_i h0
    split
    · rename_i h3
      have h1 := slot_ok hT hrun.1 q.a
      refine run3 _ _ (slot_set hT hrun.1 (Or.inr hrun.2) (less_ok h1.1) (less_to h1.2)) setTh_len (fun j hj => ?_) (by omega) (by omega)
      unfold putSl
      rw [thAt_set hrun.1 j hj]
      split
      · rename_i e; rw [e]
      · rfl
    · rename_i h3
      split
      · rename_i hl
        have hf := farOk_of hp h0 h3 hl
        have hok := far_ok hf
        have ht := told_rng hf
        exact run3 _ _ hok.1 hok.2.1 hok.2.2.2 ht.1 ht.2
      · exact run3 ts _ hT rfl (fun _ _ => rfl) (by omega) (by omega)
end Go.Dw
