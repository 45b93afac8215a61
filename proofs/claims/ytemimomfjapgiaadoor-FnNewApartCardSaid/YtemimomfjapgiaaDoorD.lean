/-
  A region that draws its order: operations that only look at memory (or make some), each yielding one value whatever the order; behind them a tail whose order is forced.
-/
import Derived.Test.YtemimomfjapgiaaDoorO
namespace Go.Dw
open Go.RowKit

/-- Which operations must come before number i, as the edges that bind in every mode say: closed under 'before'. -/
def befores (ops : List Oper) : List (List Nat) :=
  (ops.foldl (init := []) fun acc o =>
    acc ++ [o.after.toList.foldl (init := 0) fun s e => if Region.binds .any e then Nat.lor s (Nat.lor (Nat.shiftLeft 1 e.on) (acc.getD e.on 0)) else s]).map fun k => (List.range ops.length).filter (Nat.testBit k)
def looks (ops : List Oper) (o : Oper) : List Nat :=
  (o.op.operands.toList.filterMap fun | .tmp t => some t | _ => none) ++
  (match o.guard with
   | some (g, _) => ((ops[g]?).bind (·.dst)).toList
   | none => [])
def notSel (o : Oper) : Bool := match o.op with | .select .. => false | _ => true
/-- The static look at one operation. -/
def drawOne (n m : Nat) (ops : List Oper) (bs : List (List Nat)) (i : Nat) (o : Oper) : Bool :=
  o.after.toList.all (fun e => !Region.binds .any e || decide (e.on < i)) &&
  (bs.getD i []).all (fun j => o.after.toList.any fun e => Region.binds .any e && (e.on == j || (bs.getD e.on []).contains j)) &&
  (if i < m then
    notSel o && (match o.dst with | some d => decide (d < n) | none => false) &&
    (looks ops o).all fun t => (List.range m).all fun j => (match ops[j]? with | some oj => oj.dst != some t | none => true) || (bs.getD i []).contains j
   else (List.range i).all fun j => (bs.getD i []).contains j)
/-- What the tail asks. -/
def tailOne (m : Nat) (bs : List (List Nat)) (i : Nat) (o : Oper) : Bool :=
  o.after.toList.all (fun e => !Region.binds .any e || decide (e.on < i)) &&
  (bs.getD i []).all (fun j => o.after.toList.any fun e => Region.binds .any e && (e.on == j || (bs.getD e.on []).contains j)) &&
  (decide (i < m) || (List.range i).all fun j => (bs.getD i []).contains j)
theorem tailOne_of {n m : Nat} {ops : List Oper} {bs : List (List Nat)} {i : Nat} {o : Oper} (h : drawOne n m ops bs i o = true) : tailOne m bs i o = true := by
  unfold drawOne at h
  unfold tailOne
  simp only [Bool.and_eq_true] at h ⊢
  refine ⟨h.1, ?_⟩
  rcases Nat.lt_or_ge i m with h' | h'
  · simp [h']
  · have := h.2
    rw [if_neg (by omega)] at this
    rw [this, Bool.or_true]
def drawOkI (m : Nat) (ops : List Oper) (bs : List (List Nat)) : Bool :=
  decide (m ≤ ops.length) && (List.range ops.length).all fun i => match ops[i]? with | some o => tailOne m bs i o | none => true
def drawOk (n m : Nat) (ops : List Oper) (bs : List (List Nat)) : Bool :=
  decide (m ≤ ops.length) &&
  (List.range m).all (fun i => (List.range m).all fun j => i == j || (match ops[i]?, ops[j]? with | some oi, some oj => oi.dst != oj.dst | _, _ => true)) &&
  (List.range ops.length).all fun i => match ops[i]? with | some o => drawOne n m ops bs i o | none => true
def ups (f : Fr) : List (Nat × Value) → Fr
  | [] => f
  | (d, v) :: r => ups (up f d v) r
def YlL (P : Program) (n : Nat) (ops : Array Oper) (Inv : World → Prop) (F : Fr) : List Oper → List (Nat × Value) → Prop
  | [], [] => True
  | o :: l, (d, v) :: r => o.dst = some d ∧ (∀ w, Inv w → WpO P n ops (fun f' w' => f' = up F d v ∧ Inv w') [o] F w) ∧ YlL P n ops Inv F l r
  | _, _ => False
theorem yll_nil {P : Program} {n : Nat} {ops : Array Oper} {Inv : World → Prop} {F : Fr} : YlL P n ops Inv F [] [] := trivial
theorem yll_cons {P : Program} {n : Nat} {ops : Array Oper} {Inv : World → Prop} {F : Fr} {o : Oper} {l : List Oper} {d : Nat} {v : Value} {r : List (Nat × Value)} (hd : o.dst = some d)
    (h : ∀ w, Inv w → WpO P n ops (fun f' w' => f' = up F d v ∧ Inv w') [o] F w) (t : YlL P n ops Inv F l r) : YlL P n ops Inv F (o :: l) ((d, v) :: r) := ⟨hd, h, t⟩

theorem execOp_congr {ρ ρ' : Operand → Value} {o : Oper} (hs : notSel o = true) (h : ∀ x ∈ o.op.operands, ρ x = ρ' x) : execOp ρ o = execOp ρ' o := by
  obtain ⟨dst, op, ty, pos, aft, gd⟩ := o
  have hcall : ∀ c : Call, (∀ x ∈ c.operands, ρ x = ρ' x) → resolve ρ c ty = resolve ρ' c ty := by
    intro c hc
    have hargs : c.args.map ρ = c.args.map ρ' := Array.map_congr_left fun x hx => hc x (by simp [Call.operands, hx])
    unfold resolve
    rw [hargs]
    cases hcal : c.callee with
    | value g => simp only; rw [hc g (by simp [Call.operands, hcal])]
    | invoke r nm => simp only; rw [hc r (by simp [Call.operands, hcal])]
    | builtin b => rfl
  cases op with
  | select cs b => cases hs
  | call c => simp only [execOp]; rw [hcall c (by simpa [Op.operands] using h)]
  | go c => simp only [execOp]; rw [hcall c (by simpa [Op.operands] using h)]
  | defer c => simp only [execOp]; rw [hcall c (by simpa [Op.operands] using h)]
  | build t ps =>
    simp only [execOp]
    have : (ps.map fun (i, x) => (i, ρ x)) = (ps.map fun (i, x) => (i, ρ' x)) := Array.map_congr_left fun p hp => by
      have := h p.2 (by simp only [Op.operands]; simp; exact ⟨p.1, hp⟩)
      simp [this]
    rw [this]
  | buildSlice t k ps =>
    simp only [execOp]
    have : (ps.map fun (i, x) => (i, ρ x)) = (ps.map fun (i, x) => (i, ρ' x)) := Array.map_congr_left fun p hp => by
      have := h p.2 (by simp only [Op.operands]; simp; exact ⟨p.1, hp⟩)
      simp [this]
    rw [this]
  | makeFunc fn a b =>
    simp only [execOp]
    rw [Array.map_congr_left (f := ρ) (g := ρ') (xs := a) fun x hx => h x (by simp [Op.operands, hx]), Array.map_congr_left (f := ρ) (g := ρ') (xs := b) fun x hx => h x (by simp [Op.operands, hx])]
  | makeMap t r =>
    simp only [execOp]
    cases r with
    | none => rfl
    | some x => simp only [Option.map_some]; rw [h x (by simp [Op.operands])]
  | slice t x lo hi mx =>
    simp only [execOp]
    have hx := h x (by simp [Op.operands])
    have hlo : lo.map ρ = lo.map ρ' := by cases lo with | none => rfl | some y => simp only [Option.map_some]; rw [h y (by simp [Op.operands])]
    have hhi : hi.map ρ = hi.map ρ' := by cases hi with | none => rfl | some y => simp only [Option.map_some]; rw [h y (by simp [Op.operands])]
    have hmx : mx.map ρ = mx.map ρ' := by cases mx with | none => rfl | some y => simp only [Option.map_some]; rw [h y (by simp [Op.operands])]
    rw [hx, hlo, hhi, hmx]
  | binOp bo t x y yt => simp only [execOp]; rw [h x (by simp [Op.operands]), h y (by simp [Op.operands])]
  | pick c a b => simp only [execOp]; rw [h c (by simp [Op.operands]), h a (by simp [Op.operands]), h b (by simp [Op.operands])]
  | nilCheck x => simp only [execOp]; rw [h x (by simp [Op.operands])]
  | alloc t => rfl
  | ready g => rfl
  | waits g => rfl
  | store t x y => simp only [execOp]; rw [h x (by simp [Op.operands]), h y (by simp [Op.operands])]
  | makeSlice t x y => simp only [execOp]; rw [h x (by simp [Op.operands]), h y (by simp [Op.operands])]
  | indexAddr t x y => simp only [execOp]; rw [h x (by simp [Op.operands]), h y (by simp [Op.operands])]
  | index t x y => simp only [execOp]; rw [h x (by simp [Op.operands]), h y (by simp [Op.operands])]
  | lookup t x y ok => simp only [execOp]; rw [h x (by simp [Op.operands]), h y (by simp [Op.operands])]
  | mapEntry t x y => simp only [execOp]; rw [h x (by simp [Op.operands]), h y (by simp [Op.operands])]
  | mapUpdate t x y z => simp only [execOp]; rw [h x (by simp [Op.operands]), h y (by simp [Op.operands]), h z (by simp [Op.operands])]
  | entryStore t x y z => simp only [execOp]; rw [h x (by simp [Op.operands]), h y (by simp [Op.operands]), h z (by simp [Op.operands])]
  | insert t x y z => simp only [execOp]; rw [h x (by simp [Op.operands]), h y (by simp [Op.operands]), h z (by simp [Op.operands])]
  | send x y => simp only [execOp]; rw [h x (by simp [Op.operands]), h y (by simp [Op.operands])]
  | move x => simp only [execOp]; rw [h x (by simp [Op.operands])]
  | assign x => simp only [execOp]; rw [h x (by simp [Op.operands])]
  | box t x => simp only [execOp]; rw [h x (by simp [Op.operands])]
  | load t x => simp only [execOp]; rw [h x (by simp [Op.operands])]
  | unOp u t x => simp only [execOp]; rw [h x (by simp [Op.operands])]
  | convert s t x => simp only [execOp]; rw [h x (by simp [Op.operands])]
  | sliceToArrayPointer t x => simp only [execOp]; rw [h x (by simp [Op.operands])]
  | makeInterface t x => simp only [execOp]; rw [h x (by simp [Op.operands])]
  | makeChan t x => simp only [execOp]; rw [h x (by simp [Op.operands])]
  | fieldAddr t x i => simp only [execOp]; rw [h x (by simp [Op.operands])]
  | field t x i => simp only [execOp]; rw [h x (by simp [Op.operands])]
  | range t x => simp only [execOp]; rw [h x (by simp [Op.operands])]
  | next x b => simp only [execOp]; rw [h x (by simp [Op.operands])]
  | entry x => simp only [execOp]; rw [h x (by simp [Op.operands])]
  | typeAssert x t u b => simp only [execOp]; rw [h x (by simp [Op.operands])]
  | extract x i => simp only [execOp]; rw [h x (by simp [Op.operands])]
  | panic x => simp only [execOp]; rw [h x (by simp [Op.operands])]
  | recv t x b => simp only [execOp]; rw [h x (by simp [Op.operands])]
theorem yielded_getD (ops : Array Oper) (t t' : Array Value) (j : Nat) (h : ∀ o d, ops[j]? = some o → o.dst = some d → t.getD d undef = t'.getD d undef) : yielded ops t j = yielded ops t' j := by
  unfold yielded
  cases ho : ops[j]? with
  | none => rfl
  | some o =>
    cases hd : o.dst with
    | none => simp [hd]
    | some d =>
      have := h o d ho hd
      simp only [Option.bind_some, hd]
      rw [Array.getD_eq_getD_getElem?, Array.getD_eq_getD_getElem?] at this
      cases h1 : t[d]? with
      | none =>
        cases h2 : t'[d]? with
        | none => rfl
        | some y => rw [h1, h2] at this; simp at this; subst this; rfl
      | some x =>
        cases h2 : t'[d]? with
        | none => rw [h1, h2] at this; simp at this; subst this; rfl
        | some y => rw [h1, h2] at this; simp at this; rw [this]
section
variable {P : Program} {n : Nat} {ops : List Oper} {F : Fr} {Inv : World → Prop}
theorem loc {i d : Nat} {o : Oper} {v : Value} {w : World} {a aF : Act} (ho : ops[i]? = some o) (hs : notSel o = true) (hd : o.dst = some d) (hdn : d < n) (hF : FEq n aF F)
    (h : WpO P n ops.toArray (fun f' w' => f' = up F d v ∧ Inv w') [o] F w) (hl : ∀ t ∈ looks ops o, a.tmps.getD t undef = F t)
    {K : Act → World → Prop} {Q : Exit → Act → World → Prop} (hK : ∀ w', Inv w' → K (a.put (some d) v) w') : wpOp P ops.toArray Q i K a w := by
  have h1 := h aF hF (fun e a' w' => e = .normal ∧ ∃ f', FEq n a' f' ∧ f' = up F d v ∧ Inv w') (fun a' w' f' hf hk => ⟨rfl, f', hf, hk⟩)
  have hout : ¬ LetsOut (fun (e : Exit) (a' : Act) (w' : World) => e = .normal ∧ ∃ f', FEq n a' f' ∧ f' = up F d v ∧ Inv w') := by
    rintro ⟨_, _, he, _⟩
    cases he
  have hval : ∀ u w', (∃ f', FEq n (aF.put (some d) u) f' ∧ f' = up F d v ∧ Inv w') → u = v ∧ Inv w' := by
    rintro u w' ⟨f', hf, rfl, hi⟩
    refine ⟨?_, hi⟩
    have e1 := hf.at_ d
    rw [up_eq, if_pos rfl] at e1
    rw [← e1]
    simp [Act.put, Array.getD, hF.size, hdn]
  have he : execOp a.eval o = execOp aF.eval o := execOp_congr hs fun x hx => by
    cases x with
    | tmp t =>
      show a.tmps.getD t undef = aF.tmps.getD t undef
      rw [hl t (by simp only [looks]; refine List.mem_append_left _ (List.mem_filterMap.2 ⟨_, by simpa using hx, rfl⟩)), hF.at_ t]
    | _ => rfl
  have hw : Region.wanted o (yielded ops.toArray a.tmps) = Region.wanted o (yielded ops.toArray aF.tmps) := by
    unfold Region.wanted
    cases hg : o.guard with
    | none => rfl
    | some g =>
      obtain ⟨j, b⟩ := g
      simp only
      rw [yielded_getD _ a.tmps aF.tmps j]
      intro oj dj hoj hdj
      rw [hF.at_ dj]
      refine hl dj ?_
      simp only [looks, hg]
      refine List.mem_append_right _ ?_
      have hoj' : ops[j]? = some oj := by simpa using hoj
      simp [hoj', hdj]
  have ho' : ops.toArray[i]? = some o := by simpa using ho
  have hK' : ∀ w', Inv w' → K (a.put o.dst v) w' := by rw [hd]; exact hK
  have hval' : ∀ u w', (∃ f', FEq n (aF.put o.dst u) f' ∧ f' = up F d v ∧ Inv w') → u = v ∧ Inv w' := by rw [hd]; exact hval
  unfold wpOp
  rw [ho']
  simp only
  unfold wpList at h1
  rw [hw]
  split
  · rename_i hwt
    rw [if_pos hwt] at h1
    rcases h1 with h1 | ⟨_, h1⟩
    · left
      unfold Oper.wp at h1 ⊢
      rw [he]
      generalize (execOp aF.eval o).run P w = r at h1 ⊢
      cases r with
      | ok x w' =>
        cases x <;> simp only [Oper.upon, wpList] at h1 ⊢
        case value u =>
          obtain ⟨rfl, hi⟩ := hval' u w' h1.2
          exact hK' w' hi
        case skip =>
          obtain ⟨e, hi⟩ := hval' undef w' h1.2
          rw [e]; exact hK' w' hi
        case defer dd =>
          obtain ⟨f', hf, _⟩ := h1.2
          exact absurd hf.defers (by rw [hd]; simp [Act.put])
        case enter k args =>
          refine h1.mono fun e w'' hh => ?_
          cases e with
          | returned u =>
            obtain ⟨rfl, hi⟩ := hval' u w'' hh.2
            exact hK' w'' hi
          | panicked c => exact absurd hh.1 (by simp)
          | outgrown => exact (hout hh).elim
        case row r args =>
          refine h1.mono fun u w'' hh => ?_
          obtain ⟨rfl, hi⟩ := hval' u w'' hh.2
          exact hK' w'' hi
      | halt x w' =>
        cases x <;> simp only [Oper.upon] at h1 ⊢
        case panic u => exact absurd h1.1 (by simp)
    · exact (hout h1).elim
  · rename_i hwt
    rw [if_neg hwt] at h1
    simp only [wpList] at h1
    obtain ⟨e, hi⟩ := hval' undef w h1.2
    rw [e]
    exact hK' w hi

theorem wpAny_tail {md : Region.Mode} {m : Nat} {bs : List (List Nat)} {Q : Exit → Act → World → Prop} (hmd : md = .any) (hck : ∀ i o, ops[i]? = some o → tailOne m bs i o = true) (hbs : ∀ (listed : Array Bool) (i : Nat) (o : Oper), ops[i]? = some o →
      (∀ e ∈ o.after, Region.binds .any e = true → listed.getD e.on false = true) → (∀ j, listed.getD j false = true → ∀ q ∈ bs.getD j [], listed.getD q false = true) → ∀ q ∈ bs.getD i [], listed.getD q false = true) :
    ∀ (fuel k : Nat) (listed : Array Bool) (a : Act) (w : World), m ≤ k → k ≤ ops.length → listed.size = ops.length → (∀ j, j < k → listed.getD j false = true) → (∀ j, k ≤ j → j < ops.length → listed.getD j false = false) →
      (∀ j, listed.getD j false = true → ∀ q ∈ bs.getD j [], listed.getD q false = true) → ops.length - k ≤ fuel → wpList P ops.toArray Q (ops.drop k) a w → wpAny P md ops.toArray Q fuel listed a w := by
  subst hmd
  intro fuel
  induction fuel with
  | zero =>
    intro k listed a w hmk hk hsz h1 h2 hcl hf h
    have hke : k = ops.length := by omega
    subst hke
    refine ⟨?_, by simpa [wpList] using h⟩
    unfold Region.ready
    rw [List.filter_eq_nil_iff]
    intro i hi
    have hi' : i < ops.length := by simpa using hi
    have hl := h1 i hi'
    have : listed.getD i true = true := by
      rw [Array.getD_eq_getD_getElem?] at hl ⊢
      cases hx : listed[i]? with
      | none => rfl
      | some b => rw [hx] at hl; simpa using hl
    simp [this]
  | succ fuel ih =>
    intro k listed a w hmk hk hsz h1 h2 hcl hf h
    have hready : ∀ i, i ∈ Region.ready .any ops.toArray listed → i = k ∧ k < ops.length := by
      intro i hi
      obtain ⟨hun, o, ho, hall⟩ := mem_ready.1 hi
      have ho' : ops[i]? = some o := by simpa using ho
      have hil : i < ops.length := (List.getElem?_eq_some_iff.1 ho').1
      have hun' : listed.getD i false = false := by
        rw [Array.getD_eq_getD_getElem?] at hun ⊢
        cases hx : listed[i]? with
        | none => rfl
        | some b => rw [hx] at hun; simpa using hun
      have hik : k ≤ i := by
        rcases Nat.lt_or_ge i k with h' | h'
        · rw [h1 i h'] at hun'; cases hun'
        · exact h'
      have hpre := hbs listed i o ho' (fun e he hb => hall e he hb) hcl
      have hone := hck i o ho'
      unfold tailOne at hone
      simp only [Bool.and_eq_true] at hone
      have h3 := hone.2
      rw [show decide (i < m) = false by simp; omega, Bool.false_or] at h3
      refine ⟨?_, by omega⟩
      rcases Nat.lt_or_ge k i with h' | h'
      · have := List.all_eq_true.1 h3 k (by simpa using h')
        have hmem : k ∈ bs.getD i [] := by simpa using this
        have := hpre k hmem
        rw [h2 k (Nat.le_refl _) (by omega)] at this
        cases this
      · omega
    rcases Nat.lt_or_ge k ops.length with hkl | hkl
    · obtain ⟨o, ho⟩ : ∃ o, ops[k]? = some o := ⟨_, List.getElem?_eq_getElem hkl⟩
      have hdrop : ops.drop k = o :: ops.drop (k + 1) := by
        rw [List.drop_eq_getElem_cons hkl]
        congr 1
        rw [List.getElem?_eq_getElem hkl] at ho
        exact Option.some.inj ho
      rw [hdrop] at h
      refine ⟨fun hnil => ?_, fun i hi => ?_⟩
      · exfalso
        have hkr : k ∈ Region.ready .any ops.toArray listed := by
          refine mem_ready.2 ⟨?_, o, by simpa using ho, fun e he hb => ?_⟩
          · have := h2 k (Nat.le_refl _) hkl
            rw [Array.getD_eq_getD_getElem?, Array.getElem?_eq_getElem (by omega)] at this ⊢
            simpa using this
          · have hone := hck k o ho
            unfold tailOne at hone
            simp only [Bool.and_eq_true] at hone
            have := List.all_eq_true.1 hone.1.1 e (by simpa using he)
            simp only [hb, Bool.not_true, Bool.false_or, decide_eq_true_eq] at this
            exact h1 _ this
        rw [hnil] at hkr
        cases hkr
      · obtain ⟨rfl, _⟩ := hready i hi
        have ho' : ops.toArray[i]? = some o := by simpa using ho
        have hnext : ∀ a w, wpList P ops.toArray Q (ops.drop (i + 1)) a w → wpAny P .any ops.toArray Q fuel (listed.setIfInBounds i true) a w := fun a w hh =>
          ih (i + 1) _ a w (by omega) hkl (by simp [hsz]) (fun j hj => by
            rcases Nat.lt_or_ge j i with h' | h'
            · have := h1 j h'
              rw [Array.getD_eq_getD_getElem?] at this ⊢
              rw [Array.getElem?_setIfInBounds_ne (by omega)]; exact this
            · have : j = i := by omega
              subst this
              rw [Array.getD_eq_getD_getElem?, Array.getElem?_setIfInBounds_self_of_lt (by omega)]; rfl)
            (fun j hj hjl => by
              have := h2 j (by omega) hjl
              rw [Array.getD_eq_getD_getElem?] at this ⊢
              rw [Array.getElem?_setIfInBounds_ne (by omega)]; exact this)
            (fun j hj q hq => by
              have hq' : listed.getD q false = true := by
                rcases Nat.decEq j i with hne | he
                · refine hcl j ?_ q hq
                  rw [Array.getD_eq_getD_getElem?, Array.getElem?_setIfInBounds_ne (fun e => hne e.symm)] at hj
                  rw [Array.getD_eq_getD_getElem?]; exact hj
                · subst he
                  obtain ⟨_, o2, ho2, hall⟩ := mem_ready.1 hi
                  exact hbs listed j o2 (by simpa using ho2) (fun e he hb => hall e he hb) hcl q hq
              rw [Array.getD_eq_getD_getElem?] at hq' ⊢
              by_cases hqi : q = i
              · subst hqi
                rw [Array.getElem?_setIfInBounds_self_of_lt (by omega)]; rfl
              · rw [Array.getElem?_setIfInBounds_ne (fun e => hqi e.symm)]; exact hq')
            (by omega) hh
        unfold wpOp
        rw [ho']
        simp only
        unfold wpList at h
        split
        · rename_i hw
          rw [if_pos hw] at h
          exact h.imp (Oper.wp_mono hnext) id
        · rename_i hw
          rw [if_neg hw] at h
          exact hnext _ _ h
    · have hke : k = ops.length := by omega
      subst hke
      refine ⟨fun _ => by simpa [wpList] using h, fun i hi => ?_⟩
      have := (hready i hi).2
      omega
end

/-- How many of the first k have not come up yet. -/
def cnt (listed : Array Bool) : Nat → Nat
  | 0 => 0
  | k + 1 => cnt listed k + (if listed.getD k false then 0 else 1)
theorem getD_set_self {listed : Array Bool} {i : Nat} (h : i < listed.size) : (listed.setIfInBounds i true).getD i false = true := by
  rw [Array.getD_eq_getD_getElem?, Array.getElem?_setIfInBounds_self_of_lt h]; rfl
theorem getD_set_ne {listed : Array Bool} {i j : Nat} (h : j ≠ i) : (listed.setIfInBounds i true).getD j false = listed.getD j false := by
  rw [Array.getD_eq_getD_getElem?, Array.getElem?_setIfInBounds_ne (fun e => h e.symm), Array.getD_eq_getD_getElem?]
theorem cnt_ge {listed : Array Bool} {m : Nat} : ∀ k, (∀ j, m ≤ j → j < k → listed.getD j false = false) → k - m ≤ cnt listed k
  | 0, _ => by simp
  | k + 1, h => by
    have ih := cnt_ge k fun j h1 h2 => h j h1 (by omega)
    unfold cnt
    rcases Nat.lt_or_ge k m with hk | hk
    · omega
    · rw [h k hk (by omega)]; simp; omega
theorem cnt_zero {listed : Array Bool} : ∀ k, cnt listed k = 0 → ∀ j, j < k → listed.getD j false = true
  | 0, _, j, hj => by omega
  | k + 1, h, j, hj => by
    unfold cnt at h
    rcases Nat.lt_or_ge j k with hk | hk
    · exact cnt_zero k (by omega) j hk
    · have : j = k := by omega
      subst this
      cases hx : listed.getD j false with
      | true => rfl
      | false => rw [hx] at h; simp at h
theorem cnt_set_out {listed : Array Bool} {i : Nat} : ∀ k, k ≤ i → cnt (listed.setIfInBounds i true) k = cnt listed k
  | 0, _ => rfl
  | k + 1, h => by
    unfold cnt
    rw [cnt_set_out k (by omega), getD_set_ne (by omega)]
theorem cnt_set {listed : Array Bool} {i : Nat} (hs : i < listed.size) (hi : listed.getD i false = false) : ∀ k, i < k → cnt (listed.setIfInBounds i true) k + 1 = cnt listed k
  | 0, h => by omega
  | k + 1, h => by
    unfold cnt
    rcases Nat.lt_or_ge i k with hk | hk
    · have := cnt_set hs hi k hk
      rw [getD_set_ne (by omega)]
      omega
    · have : i = k := by omega
      subst this
      rw [cnt_set_out i (Nat.le_refl _), getD_set_self hs, hi]
      simp
theorem cnt_init (N : Nat) : ∀ k, cnt (Array.replicate N false) k = k
  | 0 => rfl
  | k + 1 => by
    unfold cnt
    rw [cnt_init N k]
    have : (Array.replicate N false).getD k false = false := by
      rw [Array.getD_eq_getD_getElem?]
      cases h : (Array.replicate N false)[k]? with
      | none => rfl
      | some b =>
        rw [Array.getElem?_replicate] at h
        split at h <;> simp_all
    rw [this]; simp
theorem least {p : Nat → Bool} : ∀ m, (¬ ∀ j, j < m → p j = true) → ∃ j, j < m ∧ p j = false ∧ ∀ i, i < j → p i = true
  | 0, h => absurd (fun j hj => by omega) h
  | m + 1, h => by
    by_cases h' : ∀ j, j < m → p j = true
    · refine ⟨m, by omega, ?_, h'⟩
      cases hx : p m with
      | false => rfl
      | true =>
        exfalso
        apply h
        intro j hj
        rcases Nat.lt_or_ge j m with hk | hk
        · exact h' j hk
        · have : j = m := by omega
          rw [this]; exact hx
    · obtain ⟨j, hj, h1, h2⟩ := least m h'
      exact ⟨j, by omega, h1, h2⟩
theorem ups_not {t : Nat} : ∀ (r : List (Nat × Value)) (f : Fr), (∀ p ∈ r, p.1 ≠ t) → ups f r t = f t
  | [], _, _ => rfl
  | (d, v) :: r, f, h => by
    unfold ups
    rw [ups_not r _ fun p hp => h p (by simp [hp]), up_eq, if_neg]
    exact fun e => h (d, v) (by simp) e.symm
theorem ups_get {d : Nat} {v : Value} : ∀ (r : List (Nat × Value)) (f : Fr) (i : Nat), r[i]? = some (d, v) → (∀ j p, r[j]? = some p → p.1 = d → j = i) → ups f r d = v
  | [], _, _, h, _ => by simp at h
  | (d', v') :: r, f, 0, h, hu => by
    simp at h
    obtain ⟨rfl, rfl⟩ := h
    unfold ups
    rw [ups_not r _ fun p hp e => by
      obtain ⟨j, hj⟩ := List.getElem?_of_mem hp
      have := hu (j + 1) p (by simpa using hj) e
      omega]
    rw [up_eq, if_pos rfl]
  | (d', v') :: r, f, i + 1, h, hu => by
    unfold ups
    exact ups_get r _ i (by simpa using h) fun j p hj e => by
      have := hu (j + 1) p (by simpa using hj) e
      omega
theorem ups_feq {n : Nat} : ∀ (r : List (Nat × Value)) (a : Act) (f : Fr), FEq n a f → (∀ p ∈ r, p.1 < n) → ∃ a', FEq n a' (ups f r)
  | [], a, _, h, _ => ⟨a, h⟩
  | (d, v) :: r, a, f, h, hr => ups_feq r _ _ (h.put (d := d) (by simpa [Nat.blt_eq] using hr (d, v) (by simp)) v) fun p hp => hr p (by simp [hp])
section
variable {P : Program} {n : Nat} {ops : List Oper} {F f : Fr} {Inv : World → Prop}
theorem yll_get {opsA : Array Oper} : ∀ (l : List Oper) (r : List (Nat × Value)), YlL P n opsA Inv F l r → l.length = r.length ∧ ∀ (i : Nat) (o : Oper), l[i]? = some o → ∃ (d : Nat) (v : Value), r[i]? = some (d, v) ∧ o.dst = some d ∧ ∀ w, Inv w → WpO P n opsA (fun f' w' => f' = up F d v ∧ Inv w') [o] F w
  | [], [], _ => ⟨rfl, fun i o h => by simp at h⟩
  | [], _ :: _, h => h.elim
  | _ :: _, [], h => h.elim
  | o :: l, (d, v) :: r, ⟨h1, h2, h3⟩ => by
    obtain ⟨hl, hg⟩ := yll_get l r h3
    refine ⟨by simp [hl], fun i o' h => ?_⟩
    cases i with
    | zero =>
      simp at h
      subst h
      exact ⟨d, v, rfl, h1, h2⟩
    | succ i => simpa using hg i o' (by simpa using h)
theorem drawOk_spec {m : Nat} {bs : List (List Nat)} (hck : drawOk n m ops bs = true) : m ≤ ops.length ∧ (∀ i j oi oj, i < m → j < m → i ≠ j → ops[i]? = some oi → ops[j]? = some oj → oi.dst ≠ oj.dst) ∧ ∀ i o, ops[i]? = some o → drawOne n m ops bs i o = true := by
  unfold drawOk at hck
  simp only [Bool.and_eq_true, decide_eq_true_eq] at hck
  obtain ⟨⟨h1, h2⟩, h3⟩ := hck
  refine ⟨h1, fun i j oi oj hi hj hne hoi hoj => ?_, fun i o ho => ?_⟩
  · have := List.all_eq_true.1 (List.all_eq_true.1 h2 i (by simpa using hi)) j (by simpa using hj)
    rw [hoi, hoj] at this
    simp [hne] at this
    exact this
  · have := List.all_eq_true.1 h3 i (by simpa using (List.getElem?_eq_some_iff.1 ho).1)
    rw [ho] at this
    exact this
theorem drawOne_closed {m : Nat} {bs : List (List Nat)} {i : Nat} {o : Oper} (h : drawOne n m ops bs i o = true) (listed : Array Bool) (hall : ∀ e ∈ o.after, Region.binds .any e = true → listed.getD e.on false = true)
    (hcl : ∀ j, listed.getD j false = true → ∀ q ∈ bs.getD j [], listed.getD q false = true) : ∀ q ∈ bs.getD i [], listed.getD q false = true := by
  intro q hq
  unfold drawOne at h
  simp only [Bool.and_eq_true] at h
  have := List.all_eq_true.1 h.1.2 q hq
  obtain ⟨e, he, hb⟩ := List.any_eq_true.1 this
  simp only [Bool.and_eq_true, Bool.or_eq_true, beq_iff_eq] at hb
  obtain ⟨hbi, hb | hb⟩ := hb
  · rw [← hb]; exact hall e (by simpa using he) hbi
  · exact hcl e.on (hall e (by simpa using he) hbi) q (by simpa using hb)
theorem wpAny_draw {m : Nat} {bs : List (List Nat)} {vals : List (Nat × Value)} {K : Fr → World → Prop} {Q : Exit → Act → World → Prop} {aF : Act} (hck : drawOk n m ops bs = true) (hF : F = ups f vals) (haF : FEq n aF F)
    (hpre : YlL P n ops.toArray Inv F (ops.take m) vals) (htail : ∀ w, Inv w → WpO P n ops.toArray K (ops.drop m) F w) (hQ : ∀ a' w' f', FEq n a' f' → K f' w' → Q .normal a' w') :
    ∀ (fuel : Nat) (listed : Array Bool) (a : Act) (w : World), a.defers = [] → a.tmps.size = n → listed.size = ops.length → Inv w → (∀ j, m ≤ j → listed.getD j false = false) →
      (∀ j, listed.getD j false = true → ∀ q ∈ bs.getD j [], listed.getD q false = true) →
      (∀ t, (∀ j o, j < m → listed.getD j false = true → ops[j]? = some o → o.dst ≠ some t) → a.tmps.getD t undef = f t) →
      (∀ j o t, j < m → listed.getD j false = true → ops[j]? = some o → o.dst = some t → a.tmps.getD t undef = F t) → cnt listed ops.length ≤ fuel → wpAny P .any ops.toArray Q fuel listed a w := by
  obtain ⟨hm, hdist, hone⟩ := drawOk_spec hck
  obtain ⟨hlen, hget⟩ := yll_get _ _ hpre
  have htk : ∀ i o, i < m → ops[i]? = some o → (ops.take m)[i]? = some o := fun i o hi ho => by rw [List.getElem?_take, if_pos hi]; exact ho
  have hFd : ∀ i o d v, i < m → ops[i]? = some o → vals[i]? = some (d, v) → o.dst = some d → F d = v := fun i o d v hi ho hv hd => by
    rw [hF]
    refine ups_get vals f i hv fun j p hj e => ?_
    have hjm : j < m := by
      have := (List.getElem?_eq_some_iff.1 hj).1
      rw [← hlen] at this
      simp at this
      omega
    rcases Nat.decEq j i with hne | he
    · exfalso
      obtain ⟨oj, hoj⟩ : ∃ oj, ops[j]? = some oj := ⟨_, List.getElem?_eq_getElem (by omega)⟩
      obtain ⟨d', v', hv', hd', _⟩ := hget j oj (htk j oj hjm hoj)
      rw [hj] at hv'
      have := Option.some.inj hv'
      subst this
      exact hdist j i oj o hjm hi hne hoj ho (by rw [hd', hd, ← e])
    · exact he
  have hFo : ∀ t, (∀ j o, j < m → ops[j]? = some o → o.dst ≠ some t) → F t = f t := fun t ht => by
    rw [hF]
    refine ups_not vals f fun p hp e => ?_
    obtain ⟨j, hj⟩ := List.getElem?_of_mem hp
    have hjm : j < m := by
      have := (List.getElem?_eq_some_iff.1 hj).1
      rw [← hlen] at this
      simp at this
      omega
    obtain ⟨oj, hoj⟩ : ∃ oj, ops[j]? = some oj := ⟨_, List.getElem?_eq_getElem (by omega)⟩
    obtain ⟨d', v', hv', hd', _⟩ := hget j oj (htk j oj hjm hoj)
    rw [hj] at hv'
    have := Option.some.inj hv'
    subst this
    exact ht j oj hjm hoj (by rw [hd', ← e])
  intro fuel
  induction fuel with
  | zero =>
    intro listed a w had hsz hls hi hlow hcl hout hin hcnt
    have hz := cnt_zero _ (Nat.le_zero.1 hcnt)
    refine wpAny_tail rfl (fun i o ho => tailOne_of (hone i o ho)) (fun l i o ho hall hc => drawOne_closed (hone i o ho) l hall hc) 0 m listed a w (Nat.le_refl _) hm hls (fun j hj => hz j (by omega)) (fun j hj _ => hlow j hj) hcl ?_ ?_
    · have := cnt_ge (listed := listed) (m := m) ops.length fun j h1 _ => hlow j h1
      omega
    · refine htail w hi a ⟨had, hsz, fun t => ?_⟩ Q hQ
      by_cases hx : ∃ j o, j < m ∧ ops[j]? = some o ∧ o.dst = some t
      · obtain ⟨j, o, hj, ho, hd⟩ := hx
        exact hin j o t hj (hz j (by omega)) ho hd
      · rw [hFo t fun j o hj ho hd => hx ⟨j, o, hj, ho, hd⟩]
        exact hout t fun j o hj _ ho hd => hx ⟨j, o, hj, ho, hd⟩
  | succ fuel ih =>
    intro listed a w had hsz hls hi hlow hcl hout hin hcnt
    by_cases hall : ∀ j, j < m → listed.getD j false = true
    · refine wpAny_tail rfl (fun i o ho => tailOne_of (hone i o ho)) (fun l i o ho hall hc => drawOne_closed (hone i o ho) l hall hc) (fuel + 1) m listed a w (Nat.le_refl _) hm hls hall (fun j hj _ => hlow j hj) hcl ?_ ?_
      · have := cnt_ge (listed := listed) (m := m) ops.length fun j h1 _ => hlow j h1
        omega
      · refine htail w hi a ⟨had, hsz, fun t => ?_⟩ Q hQ
        by_cases hx : ∃ j o, j < m ∧ ops[j]? = some o ∧ o.dst = some t
        · obtain ⟨j, o, hj, ho, hd⟩ := hx
          exact hin j o t hj (hall j hj) ho hd
        · rw [hFo t fun j o hj ho hd => hx ⟨j, o, hj, ho, hd⟩]
          exact hout t fun j o hj _ ho hd => hx ⟨j, o, hj, ho, hd⟩
    · obtain ⟨j0, hj0, hun0, hbelow⟩ := least m hall
      refine ⟨fun hnil => ?_, fun i hir => ?_⟩
      · exfalso
        obtain ⟨o, ho⟩ : ∃ o, ops[j0]? = some o := ⟨_, List.getElem?_eq_getElem (by omega)⟩
        have hkr : j0 ∈ Region.ready .any ops.toArray listed := by
          refine mem_ready.2 ⟨?_, o, by simpa using ho, fun e he hb => ?_⟩
          · rw [Array.getD_eq_getD_getElem?, Array.getElem?_eq_getElem (by omega)] at hun0 ⊢
            simpa using hun0
          · have h1 := hone j0 o ho
            unfold drawOne at h1
            simp only [Bool.and_eq_true] at h1
            have := List.all_eq_true.1 h1.1.1 e (by simpa using he)
            simp only [hb, Bool.not_true, Bool.false_or, decide_eq_true_eq] at this
            exact hbelow _ this
        rw [hnil] at hkr
        cases hkr
      · obtain ⟨hun, o, ho, hafter⟩ := mem_ready.1 hir
        have ho' : ops[i]? = some o := by simpa using ho
        have hil : i < ops.length := (List.getElem?_eq_some_iff.1 ho').1
        have hun' : listed.getD i false = false := by
          rw [Array.getD_eq_getD_getElem?, Array.getElem?_eq_getElem (by omega)] at hun ⊢
          simpa using hun
        have hprei := drawOne_closed (hone i o ho') listed (fun e he hb => hafter e he hb) hcl
        have h1 := hone i o ho'
        unfold drawOne at h1
        simp only [Bool.and_eq_true] at h1
        obtain ⟨_, h1⟩ := h1
        have him : i < m := by
          rcases Nat.lt_or_ge i m with h' | h'
          · exact h'
          · exfalso
            rw [if_neg (by omega)] at h1
            have := List.all_eq_true.1 h1 j0 (by simp; omega)
            have := hprei j0 (by simpa using this)
            rw [hun0] at this
            cases this
        rw [if_pos him] at h1
        simp only [Bool.and_eq_true] at h1
        obtain ⟨⟨hsel, hdn⟩, hlooks⟩ := h1
        obtain ⟨d, v, hv, hd, hwp⟩ := hget i o (htk i o him ho')
        rw [hd] at hdn
        have hdn' : d < n := by simpa using hdn
        refine loc ho' hsel hd hdn' haF (hwp w hi) (fun t ht => ?_) fun w' hi' => ?_
        · have h2 := List.all_eq_true.1 hlooks t ht
          by_cases hx : ∃ j oj, j < m ∧ ops[j]? = some oj ∧ oj.dst = some t
          · obtain ⟨j, oj, hj, hoj, hdj⟩ := hx
            have h3 := List.all_eq_true.1 h2 j (by simpa using hj)
            rw [hoj] at h3
            simp [hdj] at h3
            exact hin j oj t hj (hprei j (by simpa using h3)) hoj hdj
          · rw [hFo t fun j o hj ho hd => hx ⟨j, o, hj, ho, hd⟩]
            exact hout t fun j o hj _ ho hd => hx ⟨j, o, hj, ho, hd⟩
        · have hput : ∀ t, t ≠ d → (a.put (some d) v).tmps.getD t undef = a.tmps.getD t undef := fun t ht => by
            simp only [Act.put]
            rw [Array.getD_eq_getD_getElem?, Array.getElem?_setIfInBounds_ne (fun e => ht e.symm), Array.getD_eq_getD_getElem?]
          have hputd : (a.put (some d) v).tmps.getD d undef = v := by
            simp only [Act.put]
            rw [Array.getD_eq_getD_getElem?, Array.getElem?_setIfInBounds_self_of_lt (by omega)]; rfl
          have hFv : F d = v := hFd i o d v him ho' hv hd
          refine ih _ _ w' had (by simp [Act.put, hsz]) (by simp [hls]) hi' (fun j hj => by rw [getD_set_ne (by omega)]; exact hlow j hj) (fun j hj q hq => ?_) (fun t ht => ?_) (fun j oj t hj hlj hoj hdj => ?_) ?_
          · have hq' : listed.getD q false = true := by
              rcases Nat.decEq j i with hne | he
              · rw [getD_set_ne hne] at hj
                exact hcl j hj q hq
              · subst he
                exact hprei q hq
            by_cases hqi : q = i
            · rw [hqi]; exact getD_set_self (by omega)
            · rw [getD_set_ne hqi]; exact hq'
          · have htd : t ≠ d := fun e => ht i o him (getD_set_self (by omega)) ho' (by rw [hd, e])
            rw [hput t htd]
            exact hout t fun j oj hj hlj hoj => ht j oj hj (by
              by_cases hji : j = i
              · rw [hji]; exact getD_set_self (by omega)
              · rw [getD_set_ne hji]; exact hlj) hoj
          · rcases Nat.decEq t d with htd | htd
            · rw [hput t htd]
              rcases Nat.decEq j i with hne | he
              · rw [getD_set_ne hne] at hlj
                exact hin j oj t hj hlj hoj hdj
              · subst he
                rw [ho'] at hoj
                obtain rfl := Option.some.inj hoj
                rw [hd] at hdj
                exact absurd (Option.some.inj hdj).symm htd
            · subst htd
              rw [hputd, hFv]
          · have := cnt_set (listed := listed) (i := i) (by omega) hun' ops.length hil
            omega
/-- THE RULE. -/
theorem wpf_draw {id : Nat} {w : World} {Q : Exit → Fr → World → Prop} (m : Nat) (vals : List (Nat × Value)) (Inv : World → Prop) (hmx : P.follows .mixedOrders = true) (hck : drawOk n m ops (befores ops) = true) (h0 : Inv w.drew)
    (hpre : YlL P n ops.toArray Inv (ups f vals) (ops.take m) vals) (htail : ∀ w', Inv w' → WpO P n ops.toArray (Q .normal) (ops.drop m) (ups f vals) w') : Wpf P n Q (.region id ops.toArray true) f w := fun a ha => by
  obtain ⟨hm, _, hone⟩ := drawOk_spec hck
  obtain ⟨hlen, hget⟩ := yll_get _ _ hpre
  obtain ⟨aF, haF⟩ := ups_feq vals a f ha fun p hp => by
    obtain ⟨j, hj⟩ := List.getElem?_of_mem hp
    have hjm : j < m := by
      have := (List.getElem?_eq_some_iff.1 hj).1
      rw [← hlen] at this
      simp at this
      omega
    obtain ⟨oj, hoj⟩ : ∃ oj, ops[j]? = some oj := ⟨_, List.getElem?_eq_getElem (by omega)⟩
    obtain ⟨d, v, hv, hd, _⟩ := hget j oj (by rw [List.getElem?_take, if_pos hjm]; exact hoj)
    rw [hj] at hv
    have := Option.some.inj hv
    subst this
    have h1 := hone j oj hoj
    unfold drawOne at h1
    simp only [Bool.and_eq_true, if_pos hjm, hd] at h1
    simpa using h1.2.1.2
  refine wp_region_any hmx ?_
  have hrep : ∀ j, (Array.replicate ops.toArray.size false).getD j false = false := fun j => by
    rw [Array.getD_eq_getD_getElem?]
    cases h : (Array.replicate ops.toArray.size false)[j]? with
    | none => rfl
    | some b => rw [Array.getElem?_replicate] at h; split at h <;> simp_all
  refine wpAny_draw (K := Q .normal) hck rfl haF hpre htail (fun a' w' f' hf hK => ⟨f', hf, hK⟩) _ _ a _ ha.defers ha.size (by simp) h0 (fun j _ => hrep j) (fun j hj => by rw [hrep j] at hj; cases hj) (fun t _ => ha.at_ t) (fun j o t _ hj => by rw [hrep j] at hj; cases hj) ?_
  rw [show ops.toArray.size = ops.length by simp, cnt_init]
  exact Nat.le_refl _
theorem grown_drew (w : World) {r : Option Nat} : w.grownBy w.drew r := ⟨rfl, rfl, rfl, Nat.le_refl _, fun _ _ _ => rfl⟩
theorem wpf_mid {c : Code} {w : World} {Q : Exit → Fr → World → Prop} (M : Fr → World → Prop) (h : Wpf P n (thn M Q) c f w) (hM : ∀ f w, M f w → Q .normal f w) : Wpf P n Q c f w :=
  h.mono fun e f w hq => by cases e <;> first | exact hM _ _ hq | exact hq
end
/-! ### the rule with an invariant on what has been done -/
section
variable {P : Program} {n : Nat} {ops : List Oper} {f : Fr}
theorem loc2 {i : Nat} {o : Oper} {w : World} {a : Act} {F : Fr} {K1 : Fr → World → Prop} (ho : ops[i]? = some o) (hF : FEq n a F) (h : WpO P n ops.toArray K1 [o] F w)
    {K : Act → World → Prop} {Q : Exit → Act → World → Prop} (hK : ∀ a' w' f', FEq n a' f' → K1 f' w' → K a' w') : wpOp P ops.toArray Q i K a w := by
  have h1 := h a hF (fun e a' w' => e = .normal ∧ ∃ f', FEq n a' f' ∧ K1 f' w') (fun a' w' f' hf hk => ⟨rfl, f', hf, hk⟩)
  have hout : ¬ LetsOut (fun (e : Exit) (a' : Act) (w' : World) => e = .normal ∧ ∃ f', FEq n a' f' ∧ K1 f' w') := by
    rintro ⟨_, _, he, _⟩
    cases he
  have hK' : ∀ a' w', (∃ f', FEq n a' f' ∧ K1 f' w') → K a' w' := fun a' w' ⟨f', hf, hk⟩ => hK a' w' f' hf hk
  have ho' : ops.toArray[i]? = some o := by simpa using ho
  unfold wpOp
  rw [ho']
  simp only
  unfold wpList at h1
  split
  · rename_i hwt
    rw [if_pos hwt] at h1
    rcases h1 with h1 | ⟨_, h1⟩
    · left
      unfold Oper.wp at h1 ⊢
      generalize (execOp a.eval o).run P w = r at h1 ⊢
      cases r with
      | ok x w' =>
        cases x <;> simp only [Oper.upon, wpList] at h1 ⊢
        case value u => exact hK' _ _ h1.2
        case skip => exact hK' _ _ h1.2
        case defer dd => exact hK' _ _ h1.2
        case enter k args =>
          refine h1.mono fun e w'' hh => ?_
          cases e with
          | returned u => exact hK' _ _ hh.2
          | panicked c => exact absurd hh.1 (by simp)
          | outgrown => exact (hout hh).elim
        case row r args => exact h1.mono fun u w'' hh => hK' _ _ hh.2
      | halt x w' =>
        cases x <;> simp only [Oper.upon] at h1 ⊢
        case panic u => exact absurd h1.1 (by simp)
    · exact (hout h1).elim
  · rename_i hwt
    rw [if_neg hwt] at h1
    simp only [wpList] at h1
    exact hK' _ _ h1.2

theorem tailOne_closed {m : Nat} {bs : List (List Nat)} {i : Nat} {o : Oper} (h : tailOne m bs i o = true) (listed : Array Bool) (hall : ∀ e ∈ o.after, Region.binds .any e = true → listed.getD e.on false = true)
    (hcl : ∀ j, listed.getD j false = true → ∀ q ∈ bs.getD j [], listed.getD q false = true) : ∀ q ∈ bs.getD i [], listed.getD q false = true := by
  intro q hq
  unfold tailOne at h
  simp only [Bool.and_eq_true] at h
  have := List.all_eq_true.1 h.1.2 q hq
  obtain ⟨e, he, hb⟩ := List.any_eq_true.1 this
  simp only [Bool.and_eq_true, Bool.or_eq_true, beq_iff_eq] at hb
  obtain ⟨hbi, hb | hb⟩ := hb
  · rw [← hb]; exact hall e (by simpa using he) hbi
  · exact hcl e.on (hall e (by simpa using he) hbi) q (by simpa using hb)
theorem done_set {listed : Array Bool} {i : Nat} (h : i < listed.size) : (fun j => (listed.setIfInBounds i true).getD j false) = fun j => j == i || listed.getD j false := by
  funext j
  by_cases hj : j = i
  · subst hj; rw [getD_set_self h]; simp
  · rw [getD_set_ne hj]; simp [hj]
theorem wpAny_drawI {m : Nat} {bs : List (List Nat)} {I : (Nat → Bool) → Fr → World → Prop} {K : Fr → World → Prop} {Q : Exit → Act → World → Prop} (hm : m ≤ ops.length) (hone : ∀ i o, ops[i]? = some o → tailOne m bs i o = true)
    (hpre : ∀ i o, i < m → ops[i]? = some o → ∀ S F w, S i = false → (∀ j ∈ bs.getD i [], S j = true) → (∀ j, S j = true → ∀ q ∈ bs.getD j [], S q = true) → I S F w →
      WpO P n ops.toArray (fun F' w' => I (fun j => j == i || S j) F' w') [o] F w)
    (htail : ∀ S F w, (∀ j, j < m → S j = true) → I S F w → WpO P n ops.toArray K (ops.drop m) F w) (hQ : ∀ a' w' f', FEq n a' f' → K f' w' → Q .normal a' w') :
    ∀ (fuel : Nat) (listed : Array Bool) (a : Act) (F : Fr) (w : World), FEq n a F → listed.size = ops.length → I (fun j => listed.getD j false) F w → (∀ j, m ≤ j → listed.getD j false = false) →
      (∀ j, listed.getD j false = true → ∀ q ∈ bs.getD j [], listed.getD q false = true) → cnt listed ops.length ≤ fuel → wpAny P .any ops.toArray Q fuel listed a w := by
  intro fuel
  induction fuel with
  | zero =>
    intro listed a F w ha hls hi hlow hcl hcnt
    have hz := cnt_zero _ (Nat.le_zero.1 hcnt)
    refine wpAny_tail rfl hone (fun l i o ho hall hc => tailOne_closed (hone i o ho) l hall hc) 0 m listed a w (Nat.le_refl _) hm hls (fun j hj => hz j (by omega)) (fun j hj _ => hlow j hj) hcl ?_ ?_
    · have := cnt_ge (listed := listed) (m := m) ops.length fun j h1 _ => hlow j h1
      omega
    · exact htail _ F w (fun j hj => hz j (by omega)) hi a ha Q hQ
  | succ fuel ih =>
    intro listed a F w ha hls hi hlow hcl hcnt
    by_cases hall : ∀ j, j < m → listed.getD j false = true
    · refine wpAny_tail rfl hone (fun l i o ho hall hc => tailOne_closed (hone i o ho) l hall hc) (fuel + 1) m listed a w (Nat.le_refl _) hm hls hall (fun j hj _ => hlow j hj) hcl ?_ ?_
      · have := cnt_ge (listed := listed) (m := m) ops.length fun j h1 _ => hlow j h1
        omega
      · exact htail _ F w hall hi a ha Q hQ
    · obtain ⟨j0, hj0, hun0, hbelow⟩ := least m hall
      refine ⟨fun hnil => ?_, fun i hir => ?_⟩
      · exfalso
        obtain ⟨o, ho⟩ : ∃ o, ops[j0]? = some o := ⟨_, List.getElem?_eq_getElem (by omega)⟩
        have hkr : j0 ∈ Region.ready .any ops.toArray listed := by
          refine mem_ready.2 ⟨?_, o, by simpa using ho, fun e he hb => ?_⟩
          · rw [Array.getD_eq_getD_getElem?, Array.getElem?_eq_getElem (by omega)] at hun0 ⊢
            simpa using hun0
          · have h1 := hone j0 o ho
            unfold tailOne at h1
            simp only [Bool.and_eq_true] at h1
            have := List.all_eq_true.1 h1.1.1 e (by simpa using he)
            simp only [hb, Bool.not_true, Bool.false_or, decide_eq_true_eq] at this
            exact hbelow _ this
        rw [hnil] at hkr
        cases hkr
      · obtain ⟨hun, o, ho, hafter⟩ := mem_ready.1 hir
        have ho' : ops[i]? = some o := by simpa using ho
        have hil : i < ops.length := (List.getElem?_eq_some_iff.1 ho').1
        have hun' : listed.getD i false = false := by
          rw [Array.getD_eq_getD_getElem?, Array.getElem?_eq_getElem (by omega)] at hun ⊢
          simpa using hun
        have hprei := tailOne_closed (hone i o ho') listed (fun e he hb => hafter e he hb) hcl
        have him : i < m := by
          rcases Nat.lt_or_ge i m with h' | h'
          · exact h'
          · exfalso
            have h1 := hone i o ho'
            unfold tailOne at h1
            simp only [Bool.and_eq_true] at h1
            have h3 := h1.2
            rw [show decide (i < m) = false by simp; omega, Bool.false_or] at h3
            have := List.all_eq_true.1 h3 j0 (by simp; omega)
            have := hprei j0 (by simpa using this)
            rw [hun0] at this
            cases this
        refine loc2 ho' ha (hpre i o him ho' _ F w hun' hprei hcl hi) fun a' w' f' hf hI => ?_
        refine ih _ _ f' w' hf (by simp [hls]) ?_ (fun j hj => by rw [getD_set_ne (by omega)]; exact hlow j hj) (fun j hj q hq => ?_) ?_
        · rw [done_set (by omega)]; exact hI
        · have hq' : listed.getD q false = true := by
            rcases Nat.decEq j i with hne | he
            · rw [getD_set_ne hne] at hj
              exact hcl j hj q hq
            · subst he
              exact hprei q hq
          by_cases hqi : q = i
          · rw [hqi]; exact getD_set_self (by omega)
          · rw [getD_set_ne hqi]; exact hq'
        · have := cnt_set (listed := listed) (i := i) (by omega) hun' ops.length hil
          omega
/-- The obligations of the operations in front, from number i on. -/
def PreL (P : Program) (n : Nat) (ops : Array Oper) (bs : List (List Nat)) (I : (Nat → Bool) → Fr → World → Prop) : Nat → List Oper → Prop
  | _, [] => True
  | i, o :: l => (∀ S F w, S i = false → (∀ j ∈ bs.getD i [], S j = true) → (∀ j, S j = true → ∀ q ∈ bs.getD j [], S q = true) → I S F w → WpO P n ops (fun F' w' => I (fun j => j == i || S j) F' w') [o] F w) ∧ PreL P n ops bs I (i + 1) l
theorem preL_nil {ops : Array Oper} {bs : List (List Nat)} {I : (Nat → Bool) → Fr → World → Prop} {i : Nat} : PreL P n ops bs I i [] := trivial
theorem preL_cons {ops : Array Oper} {bs : List (List Nat)} {I : (Nat → Bool) → Fr → World → Prop} {i : Nat} {o : Oper} {l : List Oper}
    (h : ∀ S F w, S i = false → (∀ j ∈ bs.getD i [], S j = true) → (∀ j, S j = true → ∀ q ∈ bs.getD j [], S q = true) → I S F w → WpO P n ops (fun F' w' => I (fun j => j == i || S j) F' w') [o] F w)
    (t : PreL P n ops bs I (i + 1) l) : PreL P n ops bs I i (o :: l) := ⟨h, t⟩
theorem preL_get {opsA : Array Oper} {bs : List (List Nat)} {I : (Nat → Bool) → Fr → World → Prop} : ∀ (l : List Oper) (k i : Nat) (o : Oper), PreL P n opsA bs I k l → l[i]? = some o →
    ∀ S F w, S (k + i) = false → (∀ j ∈ bs.getD (k + i) [], S j = true) → (∀ j, S j = true → ∀ q ∈ bs.getD j [], S q = true) → I S F w → WpO P n opsA (fun F' w' => I (fun j => j == k + i || S j) F' w') [o] F w
  | [], _, _, _, _, ho => by simp at ho
  | p :: l, k, 0, o, h, ho => by
    obtain rfl : p = o := by simpa using ho
    exact h.1
  | p :: l, k, i + 1, o, h, ho => by
    have := preL_get l (k + 1) i o h.2 (by simpa using ho)
    rwa [show k + 1 + i = k + (i + 1) by omega] at this
theorem wpf_drawI {id : Nat} {w : World} {Q : Exit → Fr → World → Prop} (m : Nat) (bs : List (List Nat)) (I : (Nat → Bool) → Fr → World → Prop) (hmx : P.follows .mixedOrders = true) (hck : drawOkI m ops bs = true) (h0 : I (fun _ => false) f w.drew)
    (hpre : PreL P n ops.toArray bs I 0 (ops.take m)) (htail : ∀ S F w, (∀ j, j < m → S j = true) → I S F w → WpO P n ops.toArray (Q .normal) (ops.drop m) F w) : Wpf P n Q (.region id ops.toArray true) f w := fun a ha => by
  unfold drawOkI at hck
  simp only [Bool.and_eq_true, decide_eq_true_eq] at hck
  obtain ⟨hm, hck⟩ := hck
  have hone : ∀ i o, ops[i]? = some o → tailOne m bs i o = true := fun i o ho => by
    have := List.all_eq_true.1 hck i (by simpa using (List.getElem?_eq_some_iff.1 ho).1)
    rw [ho] at this
    exact this
  refine wp_region_any hmx ?_
  have hrep : ∀ j, (Array.replicate ops.toArray.size false).getD j false = false := fun j => by
    rw [Array.getD_eq_getD_getElem?]
    cases h : (Array.replicate ops.toArray.size false)[j]? with
    | none => rfl
    | some b => rw [Array.getElem?_replicate] at h; split at h <;> simp_all
  refine wpAny_drawI (K := Q .normal) hm hone (fun i o hi ho S F w h1 h2 h3 h4 => ?_) htail (fun a' w' f' hf hK => ⟨f', hf, hK⟩) _ _ a f _ ha (by simp) (by simp only [hrep]; exact h0) (fun j _ => hrep j) (fun j hj => by rw [hrep j] at hj; cases hj) ?_
  · have := preL_get _ 0 i o hpre (by rw [List.getElem?_take, if_pos hi]; exact ho) S F w (by simpa using h1) (by simpa using h2) h3 h4
    simpa using this
  · rw [show ops.toArray.size = ops.length by simp, cnt_init]
    exact Nat.le_refl _
theorem not_begun {C : Prop} (h : false = true) : C := by cases h
theorem not_open {C : Prop} (h : true = false) : C := by cases h
/-- What stands behind an operation that has not been done has not been done. -/
theorem undone {S : (Nat → Bool)} {bs : List (List Nat)} {C : Prop} {i : Nat} (j : Nat) (hi : S i = false) (hcl : ∀ j, S j = true → ∀ q ∈ bs.getD j [], S q = true) (hq : (bs.getD j []).contains i = true) (h : S j = true) : C := by
  have := hcl j h i (by simpa using hq)
  rw [hi] at this
  cases this
theorem ready_of {S : (Nat → Bool)} {bs : List (List Nat)} {i : Nat} (j : Nat) (h : ∀ j ∈ bs.getD i [], S j = true) (hq : (bs.getD i []).contains j = true) : S j = true := h j (by simpa using hq)
end
/-- What operations have brought, told at once. -/
def Vals (S : Nat → Bool) (F : Fr) : List (Nat × Nat × Value) → Prop
  | [] => True
  | x :: l => (S x.1 = true → F x.2.1 = x.2.2) ∧ Vals S F l
def vnew (i d : Nat) : List (Nat × Nat × Value) → Bool
  | [] => true
  | x :: l => !Nat.beq x.1 i && !Nat.beq x.2.1 d && vnew i d l
def vnew0 (i : Nat) : List (Nat × Nat × Value) → Bool
  | [] => true
  | x :: l => !Nat.beq x.1 i && vnew0 i l
def vold (i d : Nat) : Nat → List (Nat × Nat × Value) → Bool
  | _, [] => true
  | 0, _ :: l => vnew i d l
  | k + 1, x :: l => !Nat.beq x.1 i && !Nat.beq x.2.1 d && vold i d k l
theorem vals_0 {F : Fr} : ∀ l, Vals (fun _ => false) F l
  | [] => trivial
  | _ :: l => ⟨(fun h => by cases h), vals_0 l⟩
theorem Vals.at {S : Nat → Bool} {F : Fr} : ∀ {l : List (Nat × Nat × Value)} (k : Nat) {i d : Nat} {v : Value}, Vals S F l → l[k]? = some (i, d, v) → S i = true → F d = v
  | [], _, _, _, _, _, h, _ => by simp at h
  | _ :: _, 0, _, _, _, hv, h, hs => by
    simp at h
    subst h
    exact hv.1 hs
  | _ :: _, k + 1, _, _, _, hv, h, hs => Vals.at k hv.2 (by simpa using h) hs
theorem vbeq {a b : Nat} (h : (!Nat.beq a b) = true) : ¬ a = b := fun e => by
  subst e
  rw [Nat.beq_refl] at h
  cases h
theorem Vals.keep {S : Nat → Bool} {F : Fr} {i d : Nat} {v : Value} : ∀ {l : List (Nat × Nat × Value)}, Vals S F l → vnew i d l = true → Vals (fun j => j == i || S j) (up F d v) l
  | [], _, _ => trivial
  | x :: _, hv, h => by
    unfold vnew at h
    rw [Bool.and_eq_true, Bool.and_eq_true] at h
    refine ⟨fun hs => ?_, Vals.keep hv.2 h.2⟩
    rw [up_eq, if_neg (vbeq h.1.2)]
    simp only [beq_iff_eq, Bool.or_eq_true] at hs
    exact hv.1 (hs.resolve_left (vbeq h.1.1))
theorem Vals.keep0 {S : Nat → Bool} {F : Fr} {i : Nat} : ∀ {l : List (Nat × Nat × Value)}, Vals S F l → vnew0 i l = true → Vals (fun j => j == i || S j) F l
  | [], _, _ => trivial
  | x :: _, hv, h => by
    unfold vnew0 at h
    rw [Bool.and_eq_true] at h
    refine ⟨fun hs => ?_, Vals.keep0 hv.2 h.2⟩
    simp only [beq_iff_eq, Bool.or_eq_true] at hs
    exact hv.1 (hs.resolve_left (vbeq h.1))
theorem Vals.up {S : Nat → Bool} {F : Fr} {i d : Nat} {u v : Value} : ∀ {l : List (Nat × Nat × Value)} (k : Nat), Vals S F l → l[k]? = some (i, d, v) → vold i d k l = true → Go.Dw.up F d u d = v → Vals (fun j => j == i || S j) (Go.Dw.up F d u) l
  | [], _, _, h, _, _ => by simp at h
  | x :: _, 0, hv, h1, h2, h3 => by
    simp at h1
    subst h1
    exact ⟨fun _ => h3, Vals.keep hv.2 h2⟩
  | x :: _, k + 1, hv, h1, h, h3 => by
    unfold vold at h
    rw [Bool.and_eq_true, Bool.and_eq_true] at h
    refine ⟨fun hs => ?_, Vals.up k hv.2 (by simpa using h1) h.2 h3⟩
    rw [up_eq, if_neg (vbeq h.1.2)]
    simp only [beq_iff_eq, Bool.or_eq_true] at hs
    exact hv.1 (hs.resolve_left (vbeq h.1.1))
theorem yl {P : Program} {n : Nat} {ops : Array Oper} {Inv : World → Prop} {F : Fr} {o : Oper} {l : List Oper} {d : Nat} {v : Value} {r : List (Nat × Value)} (hd : o.dst = some d)
    (h : ∀ w, Inv w → WpO P n ops (fun f' w' => f' = up F d v ∧ Inv w') [] (up F d v) w → WpO P n ops (fun f' w' => f' = up F d v ∧ Inv w') [o] F w) (t : YlL P n ops Inv F l r) : YlL P n ops Inv F (o :: l) ((d, v) :: r) :=
  yll_cons hd (fun w hi => h w hi (wpo_nil ⟨rfl, hi⟩)) t
end Go.Dw
