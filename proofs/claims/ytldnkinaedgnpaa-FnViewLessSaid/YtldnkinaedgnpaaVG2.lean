/- Laws and walks: my templates, and what a program of mine (gen.py) printed out of the functions; only what the row reaches. -/
import Derived.Test.YtldnkinaedgnpaaVG1
section
namespace Go.Dw
open Go.RowKit
set_option linter.unusedVariables false
section
variable {P : Program} {n : Nat} {ops : Array Oper} {K : Fr → World → Prop} {l : List Oper} {f : Fr} {w w' : World} {d : Nat} {ty : TypeId} {pos : String} {aft : Array Edge}
theorem wpo_bstr {s t e : TypeId} {x : Operand} {b len cap : Nat} {ns : List Int} (hx : ev f x = .slice (some ⟨b, 0, none⟩) len cap) (hs : P.underlying s = some (.slice e)) (he : P.underlying e = some (.int .u8)) (ht : P.underlying t = some .string)
    (hr : (loadCells ⟨b, 0, none⟩ len).run P w = .ok (ns.map (Value.int .u8)).toArray w) (hd : Nat.blt d n = true) (h : WpO P n ops K l (up f d (.string ⟨(ub ns).toArray⟩)) w) :
    WpO P n ops K (⟨some d, .convert s t x, ty, pos, aft, none⟩ :: l) f w :=
  Y5 rfl hd (by
    have e0 : (Conv.bytesToString (.slice (some ⟨b, 0, none⟩) len cap)).run P w = .ok (.string ⟨(ub ns).toArray⟩) w := by
      rw [run_bytesToString w _ len cap ns hr]
      have hp := Zq ns []
      rw [List.nil_append] at hp
      exact congrArg (fun z => Result.ok (Value.string z) w) hp
    simp [execOp, hx, run_convert_bytes_string w s t e _ _ _ hs he ht, e0]) h
end
section
variable {P : Program} {n : Nat} {ops : Array Oper} {K : Fr → World → Prop} {l : List Oper} {f : Fr} {w w' : World} {d : Nat} {ty : TypeId} {pos : String} {aft : Array Edge}
theorem load_blk {b T len : Nat} {cs : Array Value} {ns : List Int} (h : Blk w b T cs) (hn : cs = (ns.map (Value.int .u8)).toArray) (hl : ns.length = len) : (loadCells ⟨b, 0, none⟩ len).run P w = .ok (ns.map (Value.int .u8)).toArray w := by
  subst hl
  have := run_loadCells_list (P := P) (w := w) ⟨b, 0, none⟩ (ns.map (Value.int .u8)) (fun j v hj => by
    have hc := Blk.cell (i := j) (v := v) h (by rw [hn]; simpa using hj)
    have e : Addr.add ⟨b, 0, none⟩ j = ⟨b, j, none⟩ := by simp [Addr.add]; omega
    rw [e]
    exact hc)
  rwa [List.length_map] at this
theorem wpo_neg {t : TypeId} {x : Operand} {a c : Int} (hx : ev f x = .int .i64 a) (hc : -a = c) (h0 : -9223372036854775808 ≤ c) (h1 : c ≤ 9223372036854775807) (hd : Nat.blt d n = true) (h : WpO P n ops K l (up f d (.int .i64 c)) w) : WpO P n ops K (⟨some d, .unOp .neg t x, ty, pos, aft, none⟩ :: l) f w :=
  Y5 rfl hd (by
    have e : (0 : Int) - a = c := by omega
    simp [execOp, hx, Op.unary, Op.intArith, e, IntWalk.i64_in c (by omega)]) h
end
theorem Mb {a : Int} (h0 : 0 ≤ a) (h1 : a ≤ 255) : IntKind.u8.wrap a = a := by rw [IntKind.wrap_u8]; omega
theorem Yt {a b : List UInt8} {n m : Nat} (ha : a.length ≤ n) (hb : b.length ≤ m) : (a ++ b).length ≤ n + m := by rw [List.length_append]; omega
def dg (n : Int) : UInt8 := UInt8.ofNat (48 + n).toNat
def dec2 (n : Int) : List UInt8 := if n < 10 then [dg n] else [dg (n / 10), dg (n % 10)]
def dec (n : Int) : List UInt8 := if n < 0 then 45 :: dec2 (-n) else dec2 n
theorem Wr (n : Int) : (dec2 n).length ≤ 2 := by unfold dec2; split <;> simp
theorem Yz (n : Int) : (dec n).length ≤ 3 := by
  unfold dec
  have h1 := Wr (-n)
  have h2 := Wr n
  split
  · rw [List.length_cons]; omega
  · omega
theorem Xcb {n : Int} (h : n ≤ 9) : dec2 n = ub [48 + n] := by unfold dec2; rw [if_pos (by omega)]; rfl
theorem Xee {n : Int} (h : 10 ≤ n ∧ n ≤ 99) : dec2 n = dec2 (n / 10) ++ ub [48 + n % 10] := by
  rw [Xcb (show n / 10 ≤ 9 by omega)]
  unfold dec2
  rw [if_neg (by omega)]
  rfl
theorem Xef {n : Int} (h : n < 0) : dec n = ([45] : List UInt8) ++ dec2 (-n) := by unfold dec; rw [if_pos h]; rfl
theorem Xcc {n : Int} (h : 0 ≤ n) : dec n = dec2 n := by unfold dec; rw [if_neg (by omega)]
def flg (b : Bool) (l : List UInt8) : List UInt8 := if b = true then l else [45]
def labtx (l : Lab) : List UInt8 := if labelOk l = true then (dec l.s ++ [47]) ++ dec l.v else []
def rtx (r : Rt) : List UInt8 := if rightOk r = true then (if r.th = 0 then [45] else ((((dec r.th ++ [46]) ++ dec r.ve) ++ flg r.rd [114]) ++ flg r.wr [119]) ++ flg r.wk [107]) else []
theorem Kq (b : Bool) (c : UInt8) : (flg b [c]).length ≤ 1 := by unfold flg; split <;> simp
theorem Kv (l : Lab) : (labtx l).length ≤ 7 := by
  unfold labtx
  have h1 := Yz l.s
  have h2 := Yz l.v
  split
  · simp only [List.length_append, List.length_cons, List.length_nil]; omega
  · simp
theorem Mt (r : Rt) : (rtx r).length ≤ 10 := by
  unfold rtx
  have h1 := Yz r.th
  have h2 := Yz r.ve
  have h3 := Kq r.rd 114
  have h4 := Kq r.wr 119
  have h5 := Kq r.wk 107
  split
  · split
    · simp
    · simp only [List.length_append, List.length_cons, List.length_nil]; omega
  · simp
theorem U3 {r : Rt} (h : rightOk r = true) : (0 ≤ r.th ∧ r.th ≤ 8) ∧ 0 ≤ r.ve ∧ r.ve ≤ 5 := by
  unfold rightOk at h
  simp only [Bool.or_eq_true, Bool.and_eq_true, decide_eq_true_eq] at h
  rcases h with h | h
  · rw [h]; exact ⟨by decide, by decide⟩
  · have h1 := Jj.1 h.1.1
    have h2 := Jj.1 h.1.2
    omega
def names6 : List (List UInt8) := [[], [112, 97, 103, 101], [110, 111, 100, 101], [114, 117, 110], [112, 105, 112, 101], [103, 97, 116, 101]]
def scell (s : List UInt8) : List Value := [.string ⟨s.toArray⟩]
theorem Xam : ∀ x, (scell x).length = 1 := fun _ => rfl
def kname (k : Int) : List UInt8 := if k = 1 then [112, 97, 103, 101] else if k = 2 then [110, 111, 100, 101] else if k = 3 then [114, 117, 110] else if k = 4 then [112, 105, 112, 101] else if k = 5 then [103, 97, 116, 101] else []
theorem Ki (k : Int) : (kname k).length ≤ 4 := by
  unfold kname
  (repeat' split) <;> simp
theorem Tj {k : Int} (h : 1 ≤ k ∧ k ≤ 5) : names6[k.toNat]? = some (kname k) := by
  have h1 : k = 1 ∨ k = 2 ∨ k = 3 ∨ k = 4 ∨ k = 5 := by omega
  rcases h1 with rfl | rfl | rfl | rfl | rfl <;> rfl
theorem Ls {t : Th} (h : thingOk t = true) : (1 ≤ t.kind ∧ t.kind ≤ 5) ∧ (0 ≤ t.ve ∧ t.ve ≤ 5) ∧ (-4 ≤ t.num ∧ t.num ≤ 99) ∧ (0 ≤ t.to ∧ t.to ≤ 8) ∧ t.slots.length ≤ 4 ∧ t.queue.length ≤ 3 ∧ ∀ n ∈ t.queue, 0 ≤ n ∧ n ≤ 99 := by
  obtain ⟨h1, _, h3, h4, h5, h6, h7⟩ := Ql h
  refine ⟨Jj.1 h1, ?_, ?_, ?_, ?_, ?_, ?_⟩
  · unfold versOk at h3
    split at h3
    · exact Jj.1 h3
    · have := of_decide_eq_true h3; omega
  · unfold numOk at h4
    split at h4
    · have := Jj.1 h4; omega
    · split at h4
      · exact Jj.1 h4
      · have := of_decide_eq_true h4; omega
  · unfold targetOk at h7
    split at h7
    · have := Jj.1 h7; omega
    · have := of_decide_eq_true h7; omega
  · unfold slotsOk at h5
    split at h5
    · have := of_decide_eq_true (Bool.and_eq_true _ _ ▸ h5).1; omega
    · have := of_decide_eq_true h5; omega
  · unfold queueOk at h6
    split at h6
    · exact of_decide_eq_true (Bool.and_eq_true _ _ ▸ h6).1
    · have := of_decide_eq_true h6; omega
  · intro n hn
    unfold queueOk at h6
    split at h6
    · exact Jj.1 (List.all_eq_true.1 (Bool.and_eq_true _ _ ▸ h6).2 n hn)
    · have := of_decide_eq_true h6
      rw [List.eq_nil_of_length_eq_zero this] at hn
      cases hn
def hd3 (t : Th) : List UInt8 := (((((kname t.kind ++ [32]) ++ labtx t.lab) ++ [32]) ++ dec t.ve) ++ [32]) ++ dec t.num
def ah3 (t : Th) (k : Nat) : List UInt8 := hd3 t ++ (t.slots.take k).flatMap fun r => 32 :: rtx r
def bh3 (t : Th) (k : Nat) : List UInt8 := ah3 t t.slots.length ++ (t.queue.take k).flatMap fun n => 32 :: 60 :: dec n
def thtx (t : Th) : List UInt8 := (if t.kind = 5 then (bh3 t t.queue.length ++ [32, 62]) ++ dec t.to else bh3 t t.queue.length) ++ [10]
theorem Xb6 (t : Th) : hd3 t = ah3 t 0 := by simp [ah3]
theorem Xb7 {t : Th} {k : Nat} {r : Rt} (h : t.slots[k]? = some r) : (ah3 t k ++ [32]) ++ rtx r = ah3 t (k + 1) := by
  unfold ah3
  rw [List.take_add_one, h]
  simp
theorem Xb9 {t : Th} {k : Nat} (h : t.slots.length ≤ k) (hk : k ≤ t.slots.length) : ah3 t k = bh3 t 0 := by
  have e : k = t.slots.length := by omega
  rw [e]
  simp [bh3]
theorem Xca {t : Th} {k : Nat} {n : Int} (h : t.queue[k]? = some n) : (bh3 t k ++ [32, 60]) ++ dec n = bh3 t (k + 1) := by
  unfold bh3
  rw [List.take_add_one, h]
  simp
theorem T9 {t : Th} {k : Nat} (h : t.queue.length ≤ k) (hk : k ≤ t.queue.length) : bh3 t k = bh3 t t.queue.length := by rw [show k = t.queue.length by omega]
theorem Rf {α : Type} (f : α → List UInt8) (m : Nat) (hf : ∀ x, (f x).length ≤ m) (l : List α) : (l.flatMap f).length ≤ m * l.length := by
  induction l with
  | nil => simp
  | cons x l ih =>
    have := hf x
    rw [List.flatMap_cons, List.length_append, List.length_cons, Nat.mul_add]
    omega
theorem Xa3 (t : Th) : (hd3 t).length ≤ 20 := by
  have h1 := Ki t.kind
  have h2 := Kv t.lab
  have h3 := Yz t.ve
  have h4 := Yz t.num
  unfold hd3
  simp only [List.length_append, List.length_cons, List.length_nil]
  omega
theorem Nt {t : Th} {k : Nat} (h : t.slots.length ≤ 4) : (ah3 t k).length ≤ 64 := by
  have h1 := Xa3 t
  have h2 := Rf (fun r => 32 :: rtx r) 11 (fun r => by have := Mt r; rw [List.length_cons]; omega) (t.slots.take k)
  have h3 : (t.slots.take k).length ≤ 4 := by rw [List.length_take]; omega
  unfold ah3
  rw [List.length_append]
  omega
theorem Vt {t : Th} {k : Nat} (h : t.slots.length ≤ 4) (hq : t.queue.length ≤ 3) : (bh3 t k).length ≤ 79 := by
  have h1 := Nt (k := t.slots.length) h
  have h2 := Rf (fun n => 32 :: 60 :: dec n) 5 (fun r => by have := Yz r; rw [List.length_cons, List.length_cons]; omega) (t.queue.take k)
  have h3 : (t.queue.take k).length ≤ 3 := by rw [List.length_take]; omega
  unfold bh3
  rw [List.length_append]
  omega
theorem Sj {t : Th} (h : thingOk t = true) : (thtx t).length ≤ 90 := by
  obtain ⟨_, _, _, _, h5, h6, _⟩ := Ls h
  have h1 := Vt (k := t.queue.length) h5 h6
  have h2 := Yz t.to
  unfold thtx
  split
  · simp only [List.length_append, List.length_cons, List.length_nil]; omega
  · simp only [List.length_append, List.length_cons, List.length_nil]; omega
def sv (l : List UInt8) : Value := .string ⟨l.toArray⟩
def ttx (ts : List Th) : Nat → List UInt8
  | 0 => []
  | k + 1 => ((ttx ts k ++ dec ((k : Int) + 1)) ++ [32]) ++ thtx (ts.getD k Th.zero)
theorem Xac {ms : List MTh} {k : Nat} (h : k < ms.length) : ((ttx (tabT ms) k ++ dec ((k : Int) + 1)) ++ [32]) ++ thtx (mAt ms k).t = ttx (tabT ms) (k + 1) := by
  rw [Ld]
  rfl
def BlkM (w : World) (b : Nat) (T : TypeId) (cs : Array Value) : Prop := w.heap[b]? = some (.cells cs T (cs.size, cs.size + 1))
section
variable {w w' : World} {b : Nat} {T : TypeId} {cs : Array Value}
theorem BlkM.lt (h : BlkM w b T cs) : b < w.heap.size := (Array.getElem?_eq_some_iff.1 h).1
theorem BlkM.cell (h : BlkM w b T cs) {i : Nat} {v : Value} (hv : cs[i]? = some v) : w.cell? ⟨b, i, none⟩ = some v := by
  unfold BlkM at h
  simp [World.cell?, h, hv]
theorem BlkM.froz (h : BlkM w b T cs) {i : Nat} (hi : i < cs.size) : w.frozen? ⟨b, i, none⟩ = false := by
  unfold BlkM at h
  simp [World.frozen?, h]
  omega
theorem BlkM.grown (h : BlkM w b T cs) {r : Option Nat} (hg : w.grownBy w' r) (hne : some b ≠ r) : BlkM w' b T cs := (hg.block b h.lt hne).trans h
theorem BlkM.grown0 (h : BlkM w b T cs) (hg : w.grownBy w' none) : BlkM w' b T cs := h.grown hg (by simp)
end
section
variable {P : Program} {n : Nat} {ops : Array Oper} {K : Fr → World → Prop} {l : List Oper} {f : Fr} {w w' : World} {d : Nat} {ty : TypeId} {pos : String} {aft : Array Edge}
end
end Go.Dw
end
section
namespace Go.Dw.J
open Go.Dw Go.Conc Go.RowKit
set_option linter.unusedVariables false
set_option linter.unusedSimpArgs false
section
variable {P : Program}
theorem Jc {α β : Type} {R : α → Prop} {k : α → Sem β} (hk : ∀ x, R x → Quiet P (k x)) : ∀ {s : Sem α}, Quiet P s → Yields P R s → Quiet P (s.bind k)
  | .pure x, _, y => hk x y
  | .load _ _ _, h, y => ⟨h.1, fun v => Jc hk (h.2 v) (y v)⟩
  | .store _ _ _ k', h, y => ⟨h.1, Jc (s := k') hk h.2 y⟩
  | .new _ _, h, y => ⟨h.1, fun v => Jc hk (h.2 v) (y v)⟩
  | .shape _ _, h, _ => fun v => Yr (h v)
  | .freeze _ _ k', h, _ => Yr (s := k') h
  | .frozen _ _, h, _ => fun v => Yr (h v)
  | .getObj _ _, h, y => fun v hv => (h v hv).imp (fun x => ⟨x.1, Jc hk x.2 (y v)⟩) (fun x => Yr x)
  | .setObj _ _ k', h, y => ⟨h.1, Jc (s := k') hk h.2 y⟩
  | .choose _ _, h, y => fun v => Jc hk (h v) (y v)
  | .sys _ _, h, _ => fun v => Yr (h v)
  | .program k', h, y => Jc (s := k' P) hk h y
  | .mark _ k', h, y => h.imp (fun x => ⟨x.1, Jc (s := k') hk x.2 y⟩) (fun x => Yr (s := k') x)
  | .halt _, _, _ => trivial
theorem qby {α β : Type} {R : α → Prop} {s : Sem α} {k : α → Sem β} (h : Quiet P s) (hy : Yields P R s) (hk : ∀ x, R x → Quiet P (k x)) : Quiet P (s >>= k) := Jc hk h hy
theorem Jd {t : TypeId} {d : TypeDesc} (h : P.underlying t = some d) : Yields P (· = d) (underlying t) := by
  show Yields P (· = d) (match P.underlying t with | some d => (pure d : Sem TypeDesc) | none => _)
  rw [h]
  rfl
theorem Xap {t : TypeId} {i : TypeInfo} (h : P.info? t = some i) : Yields P (· = i.size) (sizeOf t) := by
  show Yields P (· = i.size) (Sem.bind (match P.info? t with | some d => (pure d : Sem TypeInfo) | none => _) fun i => pure i.size)
  rw [h]
  rfl
def Look {α : Type} : Sem α → Prop
  | .pure _ | .shape _ _ | .frozen _ _ | .halt _ => True
  | _ => False
theorem Tt {α β : Type} {k : α → Sem β} (hk : ∀ x, Quiet P (k x)) (hd : ∀ x, Dead P (k x)) : ∀ {s : Sem α}, Look s → Quiet P (s >>= k)
  | .pure x, _ => hk x
  | .shape _ _, _ => fun v => Qm hd
  | .frozen _ _, _ => fun v => Qm hd
  | .halt _, _ => trivial
def atom : Value → Bool
  | .int _ _ | .bool _ | .string _ => true
  | _ => false
def flat1 : Value → Bool
  | .agg xs => xs.toList.all atom
  | v => atom v
theorem Ys {u v : Value} (h : u = v) (hv : flat1 v = true) : flat1 u = true := h ▸ hv
theorem G0 {t : TypeId} {xs : Array Value} {o : Nat} (h : xs.toList.all atom = true) : Yields P (fun v => flat1 v = true) (part t xs o) := by
  have h' : ∀ v ∈ xs.toList, atom v = true := List.all_eq_true.1 h
  unfold part
  have hc : ∀ b, Yields P (fun v => flat1 v = true) (if b = true then (do pure (Value.agg (xs.extract o (o + (← sizeOf t)))) : Sem Value) else match xs[o]? with | some v => pure v | none => stuck "part: no such cell") := fun b => by
    split
    · show Yields P _ (Sem.bind (Sem.bind (Sem.program fun p => _) _) _)
      simp only [Sem.bind, Yields]
      cases hi : P.info? t with
      | none => trivial
      | some i =>
        show flat1 (.agg _) = true
        simp only [flat1, List.all_eq_true]
        intro v hv
        refine h' v ?_
        simp only [Array.toList_extract, List.extract_eq_take_drop] at hv
        exact List.mem_of_mem_drop (List.mem_of_mem_take hv)
    · split
      · rename_i v hv
        have : atom v = true := h' v (Array.mem_toList_iff.2 (Array.mem_of_getElem? hv))
        show flat1 v = true
        unfold flat1
        cases v <;> first | exact this | (simp [atom] at this)
      · trivial
  have h1 : ∀ b, Yields P (fun v => flat1 v = true) ((pure b : Sem Bool) >>= fun b => if b = true then (do pure (Value.agg (xs.extract o (o + (← sizeOf t)))) : Sem Value) else match xs[o]? with | some v => pure v | none => stuck "part: no such cell") := hc
  unfold isAgg
  show Yields P _ (Sem.bind (Sem.bind (Sem.program fun p => _) _) _)
  simp only [Sem.bind, Yields]
  cases hu : P.underlying t with
  | none => trivial
  | some d =>
    show Yields P _ (Sem.bind (match d with | .struct _ | .array _ _ => pure true | _ => pure false) _)
    split <;> first | exact hc true | exact hc false
theorem Lh {α β : Type} {g : α → β → Sem (ForInStep β)} (hg : ∀ a b, Quiet P (g a b)) : ∀ (l : List α) (b : β), Quiet P (forIn l b g)
  | [], b => by rw [List.forIn_nil]; trivial
  | a :: l, b => by
    rw [List.forIn_cons]
    refine qb (hg a b) fun r => ?_
    cases r with
    | done b => trivial
    | yield b => exact Lh hg l b
theorem Ga {α β : Type} {g : α → β → Sem (ForInStep β)} (hg : ∀ a b, Quiet P (g a b)) (l : Array α) (b : β) : Quiet P (forIn l b g) := by
  rw [← Array.forIn_toList]
  exact Lh hg _ _
theorem R3 {β : Type} {g : Nat → β → Sem (ForInStep β)} (hg : ∀ a b, Quiet P (g a b)) (r : Std.Legacy.Range) (b : β) : Quiet P (forIn r b g) := by
  rw [Std.Legacy.Range.forIn_eq_forIn_range']
  exact Lh hg _ _
theorem U0 : ∀ (d : Nat) (t : TypeId) (x y : Value), flat1 x = true → flat1 y = true → Quiet P (Op.equalIn d t x y)
  | 0, _, _, _, _, _ => trivial
  | d + 1, t, x, y, hx, hy => by
    unfold Op.equalIn
    refine qb (X3 t) fun u => ?_
    split <;> first
      | exact qp _
      | exact Qc _
      | (simp [flat1, atom] at hx; done)
      | (simp [flat1, atom] at hy; done)
      | (split <;> first | exact qp _ | exact Qc _)
      | skip
    · rename_i fields xs ys
      refine qb Yy fun p => ?_
      dsimp only
      split
      · refine qb (Yc _) fun _ => ?_
        refine qb (Ga (fun f r => ?_) _ _) fun r => ?_
        · split
          · refine qby (Q0 _ _ _) (G0 hx) fun a ha => qby (Q0 _ _ _) (G0 hy) fun b hb => qb (U0 d _ a b ha hb) fun e => ?_
            split <;> exact qp _
          · exact qp _
        · split <;> exact qp _
      · refine qb (Ga (fun f r => ?_) _ _) fun r => ?_
        · split
          · refine qby (Q0 _ _ _) (G0 hx) fun a ha => qby (Q0 _ _ _) (G0 hy) fun b hb => qb (U0 d _ a b ha hb) fun e => ?_
            split <;> exact qp _
          · exact qp _
        · split <;> exact qp _
    · rename_i len elem xs ys
      refine qb (Y4 _) fun m => ?_
      refine qb (R3 (fun f r => ?_) _ _) fun r => ?_
      · refine qby (Q0 _ _ _) (G0 hx) fun a ha => qby (Q0 _ _ _) (G0 hy) fun b hb => qb (U0 d _ a b ha hb) fun e => ?_
        split <;> exact qp _
      · dsimp only
        split <;> exact qp _
theorem Uj : ∀ (d : Nat) (t : TypeId) (x y : Value), Quiet P (Op.eqGuardIn d t x y)
  | 0, _, _, _ => trivial
  | d + 1, t, x, y => by
    unfold Op.eqGuardIn
    refine qb (X3 t) fun u => ?_
    split
    · exact qp _
    · refine qb (Ga (fun f r => ?_) _ _) fun r => ?_
      · split
        · refine qb (Q0 _ _ _) fun a => qb (Q0 _ _ _) fun b => qb (Uj d _ a b) fun e => ?_
          split <;> exact qp _
        · exact qp _
      · dsimp only
        split <;> exact qp _
    · refine qb (Y4 _) fun m => ?_
      refine qb (R3 (fun f r => ?_) _ _) fun r => ?_
      · refine qb (Q0 _ _ _) fun a => qb (Q0 _ _ _) fun b => qb (Uj d _ a b) fun e => ?_
        split <;> exact qp _
      · dsimp only
        split <;> exact qp _
    · exact qp _
theorem Is (op : BinOp) (t : TypeId) (x y : Operand) (a b : Value) : Quiet P (eqGuard op t x y a b) := by
  unfold eqGuard
  repeat' (first | with_reducible exact qp _ | with_reducible exact Qc _ | with_reducible exact Yc _ | with_reducible exact Qa _ | with_reducible exact qh _ | with_reducible exact Yy | with_reducible exact Qz _ | with_reducible exact Jr _ | with_reducible exact Ja _ _ | with_reducible exact Y1 _ | with_reducible exact X3 _ | with_reducible exact Yv _ | with_reducible exact Y4 _ | with_reducible exact Q6 _ | with_reducible exact Ym _ _ | with_reducible exact Yh _ _ _ | with_reducible exact Qb _ _ | with_reducible exact Y6 _ _ _ | with_reducible exact Qs _ _ | with_reducible exact Qg _ _ | with_reducible exact Qr _ | with_reducible exact X9 _ | with_reducible exact Qf _ | with_reducible exact Jk _ | with_reducible exact Qq _ | with_reducible exact Qy _ | with_reducible exact Y0 _ | with_reducible exact Q0 _ _ _ | with_reducible exact Yn _ _ _ _ | with_reducible exact Q3 _ | with_reducible exact Uj _ _ _ _ | with_reducible refine qb ?_ (fun _ => ?_) | with_reducible refine qm _ ?_ | split | dsimp only)
theorem Tq (op : BinOp) (k : IntKind) (x y : Int) : Quiet P (Op.intArith op k x y) := by
  unfold Op.intArith
  split <;> trivial
theorem Zt (op : BinOp) (k : IntKind) (x y : Int) : Quiet P (Op.intDiv op k x y) := by
  unfold Op.intDiv
  repeat' (first | with_reducible exact qp _ | with_reducible exact Qc _ | with_reducible exact Yc _ | with_reducible exact Qa _ | with_reducible exact qh _ | with_reducible exact Yy | with_reducible exact Qz _ | with_reducible exact Jr _ | with_reducible exact Ja _ _ | with_reducible exact Y1 _ | with_reducible exact X3 _ | with_reducible exact Yv _ | with_reducible exact Y4 _ | with_reducible exact Q6 _ | with_reducible exact Ym _ _ | with_reducible exact Yh _ _ _ | with_reducible exact Qb _ _ | with_reducible exact Y6 _ _ _ | with_reducible exact Qs _ _ | with_reducible exact Qg _ _ | with_reducible exact Qr _ | with_reducible exact X9 _ | with_reducible exact Qf _ | with_reducible exact Jk _ | with_reducible exact Qq _ | with_reducible exact Qy _ | with_reducible exact Y0 _ | with_reducible exact Q0 _ _ _ | with_reducible exact Yn _ _ _ _ | with_reducible exact Q3 _ | with_reducible refine qb ?_ (fun _ => ?_) | with_reducible refine qm _ ?_ | split | dsimp only)
theorem Iy (op : BinOp) (k : IntKind) (x y : Int) : Quiet P (Op.intBits op k x y) := by
  unfold Op.intBits
  dsimp only
  split <;> trivial
theorem Zs (op : BinOp) (x y : Int) : Quiet P (Op.intCmp op x y) := by
  unfold Op.intCmp
  split <;> trivial
theorem Xbk (op : BinOp) (k yk : IntKind) (x y : Int) : Quiet P (Op.shift op k x yk y) := by
  unfold Op.shift
  repeat' (first | with_reducible exact qp _ | with_reducible exact Qc _ | with_reducible exact Yc _ | with_reducible exact Qa _ | with_reducible exact qh _ | with_reducible exact Yy | with_reducible exact Qz _ | with_reducible exact Jr _ | with_reducible exact Ja _ _ | with_reducible exact Y1 _ | with_reducible exact X3 _ | with_reducible exact Yv _ | with_reducible exact Y4 _ | with_reducible exact Q6 _ | with_reducible exact Ym _ _ | with_reducible exact Yh _ _ _ | with_reducible exact Qb _ _ | with_reducible exact Y6 _ _ _ | with_reducible exact Qs _ _ | with_reducible exact Qg _ _ | with_reducible exact Qr _ | with_reducible exact X9 _ | with_reducible exact Qf _ | with_reducible exact Jk _ | with_reducible exact Qq _ | with_reducible exact Qy _ | with_reducible exact Y0 _ | with_reducible exact Q0 _ _ _ | with_reducible exact Yn _ _ _ _ | with_reducible exact Q3 _ | with_reducible refine qb ?_ (fun _ => ?_) | with_reducible refine qm _ ?_ | split | dsimp only)
theorem Ts (op : BinOp) (x y : ByteArray) : Quiet P (Op.stringOp op x y) := by
  unfold Op.stringOp
  repeat' (first | with_reducible exact qp _ | with_reducible exact Qc _ | with_reducible exact Yc _ | with_reducible exact Qa _ | with_reducible exact qh _ | with_reducible exact Yy | with_reducible exact Qz _ | with_reducible exact Jr _ | with_reducible exact Ja _ _ | with_reducible exact Y1 _ | with_reducible exact X3 _ | with_reducible exact Yv _ | with_reducible exact Y4 _ | with_reducible exact Q6 _ | with_reducible exact Ym _ _ | with_reducible exact Yh _ _ _ | with_reducible exact Qb _ _ | with_reducible exact Y6 _ _ _ | with_reducible exact Qs _ _ | with_reducible exact Qg _ _ | with_reducible exact Qr _ | with_reducible exact X9 _ | with_reducible exact Qf _ | with_reducible exact Jk _ | with_reducible exact Qq _ | with_reducible exact Qy _ | with_reducible exact Y0 _ | with_reducible exact Q0 _ _ _ | with_reducible exact Yn _ _ _ _ | with_reducible exact Q3 _ | with_reducible refine qb ?_ (fun _ => ?_) | with_reducible refine qm _ ?_ | split | dsimp only)
theorem Xbg (op : BinOp) (t : TypeId) (x y : Value) (hx : flat1 x = true) (hy : flat1 y = true) : Quiet P (binOp op t x y) := by
  have he : Quiet P (Op.equal t x y) := U0 _ t x y hx hy
  unfold binOp
  split <;> first
    | exact Xbk _ _ _ _ _
    | (split
       · exact Qc _
       · split <;> first | exact Tq _ _ _ _ | exact Zt _ _ _ _ | exact Iy _ _ _ _ | exact Zs _ _ _)
    | exact Ts _ _ _
    | exact qb he fun _ => qp _
    | exact Yc _
    | exact Qc _
    | (simp [flat1, atom] at hx; done)
    | (simp [flat1, atom] at hy; done)
variable {f : Fr} {d : Option Nat} {ty : TypeId} {pos : String} {aft : Array Edge} {g : Option (Nat × Bool)}
theorem qv {s : Sem Value} (h : Quiet P s) : Quiet P (do pure (Next.value (← s)) : Sem Next) := qb h fun _ => trivial
theorem Jz {bo : BinOp} {xt yt : TypeId} {x y : Operand} (hx : flat1 (ev f x) = true) (hy : flat1 (ev f y) = true) : Quiet P (execOp (ev f) ⟨d, .binOp bo xt x y yt, ty, pos, aft, g⟩) :=
  qv (qb (Is ..) fun _ => Xbg _ _ _ _ hx hy)
theorem Pa (a : Addr) (fl : Field) (i : TypeInfo) (hi : P.info? fl.type = some i) (h0 : ¬ i.size = 0) : Quiet P (fieldPlace a fl) := by
  unfold fieldPlace
  refine qby (Y4 _) (Xap hi) fun m hm => ?_
  subst hm
  rw [if_neg h0]
  exact qp _
theorem Iv {s k j : Nat} (h : fieldOff P s k = some j) (v : Value) : Quiet P (Instr.fieldAt s v k) := by
  unfold fieldOff at h
  split at h
  · rename_i fs hu
    split at h
    · rename_i fl hfl
      split at h
      · rename_i i hi
        split at h
        · cases h
        · rename_i hz
          unfold Instr.fieldAt
          refine qby (X3 _) (Jd hu) fun u hu => ?_
          subst hu
          simp only [hfl]
          exact qb (Y0 _) fun a => qb (Pa a fl i hi hz) fun _ => qp _
      · cases h
    · cases h
  · cases h
theorem Xe6 {t et : TypeId} {x : Value} (h : ∀ r, x ≠ .map (some r) ∧ x ≠ .chan (some r)) : Quiet P (Builtin.len_ #[t] et #[x]) := by
  unfold Builtin.len_
  simp only [List.getElem?_toArray, List.getElem?_cons_zero]
  refine qb (X3 _) fun u => ?_
  split <;> first
    | exact qp _
    | exact Qc _
    | exact absurd rfl (h _).1
    | exact absurd rfl (h _).2
    | repeat' (first | with_reducible exact qp _ | with_reducible exact Qc _ | with_reducible exact Yc _ | with_reducible exact Qa _ | with_reducible exact qh _ | with_reducible exact Yy | with_reducible exact Qz _ | with_reducible exact Jr _ | with_reducible exact Ja _ _ | with_reducible exact Y1 _ | with_reducible exact X3 _ | with_reducible exact Yv _ | with_reducible exact Y4 _ | with_reducible exact Q6 _ | with_reducible exact Ym _ _ | with_reducible exact Yh _ _ _ | with_reducible exact Qb _ _ | with_reducible exact Y6 _ _ _ | with_reducible exact Qs _ _ | with_reducible exact Qg _ _ | with_reducible exact Qr _ | with_reducible exact X9 _ | with_reducible exact Qf _ | with_reducible exact Jk _ | with_reducible exact Qq _ | with_reducible exact Qy _ | with_reducible exact Y0 _ | with_reducible exact Q0 _ _ _ | with_reducible exact Yn _ _ _ _ | with_reducible exact Q3 _ | with_reducible refine qb ?_ (fun _ => ?_) | with_reducible refine qm _ ?_ | split | dsimp only)
theorem Tr (k : IntKind) (n : Int) : Quiet P (Conv.intToInt k n) := trivial
theorem Ir {s t : TypeId} {k k' : IntKind} {a : Int} (hs : (P.underlying s).isSome = true) (ht : P.underlying t = some (.int k')) : Quiet P (convert s t (.int k a)) := by
  obtain ⟨ds, hs'⟩ := Option.isSome_iff_exists.1 hs
  unfold convert
  refine qby (X3 _) (Jd hs') fun u hu => qby (X3 _) (Jd ht) fun u2 hu2 => ?_
  subst hu
  subst hu2
  cases u <;> exact Tr _ _
theorem Pb (size n : Nat) (v : Value) : Quiet P (Builtin.firstCells size n v) := by
  unfold Builtin.firstCells
  split
  · exact Ym _ _
  · exact qp _
  · exact qp _
  · exact Qc _
theorem Xbj (v : Value) : Quiet P (Builtin.lenOf v) := by
  unfold Builtin.lenOf
  split <;> first | exact qp _ | exact Qc _
theorem Ly (size sLen n : Nat) (base : Option Addr) (x : Value) : Look (Builtin.mayShare size sLen n base x) := by
  unfold Builtin.mayShare
  cases base with
  | some a => trivial
  | none =>
    show Look (match x with | .slice (some b) _ _ => _ | _ => _)
    split <;> trivial
theorem P7 {α : Type} (r : Bool) (u : Unsupported) : Dead P (if (!r) = true then mark .noRoom >>= fun _ => unsupported u else unsupported u : Sem α) := by
  cases r <;> trivial
theorem Pc {α : Type} (r : Bool) (u : Unsupported) : Quiet P (if (!r) = true then mark .noRoom >>= fun _ => unsupported u else unsupported u : Sem α) := by
  cases r
  · exact Or.inl ⟨rfl, trivial⟩
  · trivial
theorem R0 {t e et : TypeId} (hu : P.underlying t = some (.slice e)) (x y : Value) : Quiet P (Builtin.append_ #[t, t] et #[x, y]) := by
  unfold Builtin.append_
  simp only [List.getElem?_toArray, List.getElem?_cons_zero, List.getElem?_cons_succ]
  refine qby (X3 _) (Jd hu) fun u hu' => ?_
  subst hu'
  dsimp only
  split
  · rename_i base sLen sCap
    refine qb (Y4 _) fun size => ?_
    refine qby (X3 _) (Jd hu) fun u hu' => ?_
    subst hu'
    refine qby (R := (· = false)) (qp _) rfl fun z hz => ?_
    subst hz
    simp only [Bool.false_eq_true, if_false, Bool.not_false, if_true, false_or]
    repeat' (first | with_reducible exact qp _ | with_reducible exact Qc _ | with_reducible exact Yc _ | with_reducible exact Qa _ | with_reducible exact qh _ | with_reducible exact Yy | with_reducible exact Qz _ | with_reducible exact Jr _ | with_reducible exact Ja _ _ | with_reducible exact Y1 _ | with_reducible exact X3 _ | with_reducible exact Yv _ | with_reducible exact Y4 _ | with_reducible exact Q6 _ | with_reducible exact Ym _ _ | with_reducible exact Yh _ _ _ | with_reducible exact Qb _ _ | with_reducible exact Y6 _ _ _ | with_reducible exact Qs _ _ | with_reducible exact Qg _ _ | with_reducible exact Qr _ | with_reducible exact X9 _ | with_reducible exact Qf _ | with_reducible exact Jk _ | with_reducible exact Qq _ | with_reducible exact Qy _ | with_reducible exact Y0 _ | with_reducible exact Q0 _ _ _ | with_reducible exact Yn _ _ _ _ | with_reducible exact Q3 _ | with_reducible exact Pb _ _ _ | with_reducible exact Xbj _ | with_reducible exact Tt (fun r => Pc r _) (fun r => P7 r _) (Ly _ _ _ _ _) | with_reducible refine qb ?_ (fun _ => ?_) | with_reducible refine qm _ ?_ | split | dsimp only)
  · exact Qc _
end
end Go.Dw.J
end
section
namespace Go.Dw
section
variable {ts : List Th} {q : Cl}
def Like (a b : Th) : Prop := b.kind = a.kind ∧ b.lab = a.lab ∧ b.to = a.to ∧ a.ve ≤ b.ve
theorem Like.refl (a : Th) : Like a a := ⟨rfl, rfl, rfl, Int.le_refl _⟩
theorem Like.trans {a b c : Th} (h : Like a b) (k : Like b c) : Like a c := ⟨k.1.trans h.1, k.2.1.trans h.2.1, k.2.2.1.trans h.2.2.1, Int.le_trans h.2.2.2 k.2.2.2⟩
theorem TabG.nil {lo : Nat} {w : World} {a : Option Addr} : TabG lo w a [] := ⟨fun k x h => by simp at h, fun m hm => by cases hm⟩
end
end Go.Dw
end
section
namespace Go.Dw
set_option linter.unusedVariables false
set_option linter.unusedSimpArgs false
section
variable {ts : List Th} {q : Cl}
def Kept (n : Int) (a b : Th) : Prop := (a.kind = 1 → b.num = a.num ∨ b.num = 0 ∨ b.num = n ∨ b.num = n % 2) ∧ ∀ v ∈ b.queue, v = n ∨ v ∈ a.queue
theorem Kept.refl (n : Int) (a : Th) : Kept n a a := ⟨fun _ => Or.inl rfl, fun _ h => Or.inr h⟩
section
variable {ms xs : List MTh}
end
end
end Go.Dw
end
section
namespace Go.Dw
set_option linter.unusedVariables false
set_option linter.unusedSimpArgs false
def RowsA (w : World) (l : List MTh) : Prop := ∀ m ∈ l, ThAt w m
theorem RowsA.of {w : World} {a : Option Addr} {l : List MTh} (h : TabAt w a l) : RowsA w l := h.2
theorem RowsA.set {w : World} {l : List MTh} {i : Nat} {m : MTh} (h : RowsA w l) (hi : i < l.length) (e : m.sa = (mAt l i).sa ∧ m.sc = (mAt l i).sc ∧ m.qa = (mAt l i).qa ∧ m.qc = (mAt l i).qc ∧ m.t.slots = (mAt l i).t.slots ∧ m.t.queue = (mAt l i).t.queue) : RowsA w (l.set i m) := fun x hx => by
  rcases List.mem_or_eq_of_mem_set hx with h1 | rfl
  · exact h x h1
  · have := h _ (List.mem_of_getElem? (Jw hi))
    unfold ThAt at this ⊢
    rw [e.1, e.2.1, e.2.2.1, e.2.2.2.1, e.2.2.2.2.1, e.2.2.2.2.2]
    exact this
theorem TabLen.put {l : List MTh} {i : Nat} {m : MTh} (h : TabLen l) (hm : m.t.slots.length ≤ 1048576 ∧ m.t.queue.length ≤ 1048576) : TabLen (l.set i m) := fun x hx => by
  rcases List.mem_or_eq_of_mem_set hx with h1 | rfl
  · exact h x h1
  · exact hm
section
variable {ms xs : List MTh} {q : Cl}
end
end Go.Dw
end
section
namespace Go.Dw
open Go.RowKit
set_option linter.unusedVariables false
structure NewO (w w' : World) (B : Nat) (T : TypeId) (sz cap n : Nat) (vs : List Value) : Prop where
  eq : B = w.heap.size
  own : Own w' B T sz cap n vs
  grw : w.grownBy w' none
section
variable {P : Program} {n : Nat} {ops : Array Oper} {K : Fr → World → Prop} {l : List Oper} {f : Fr} {w w' : World} {d : Nat} {ty : TypeId} {pos : String} {aft : Array Edge}
end
section
variable {ms : List MTh} {X : MTh} {k : Int} {l : Lab}
end
end Go.Dw
end
section
namespace Go.Dw.J
open Go.Dw Go.RowKit
set_option linter.unusedVariables false
set_option linter.unusedSimpArgs false
set_option linter.unusedSectionVars false
section
variable {A A1 : World}
theorem Ext.cell (h : Ext A A1) {a : Addr} {v : Value} (hc : A.cell? a = some v) : A1.cell? a = some v := by
  obtain ⟨c, T, fr, h1, h2, h3⟩ := Ky hc
  exact Uu (by rw [h.get (Array.getElem?_eq_some_iff.1 h1).1]; exact h1) h2 h3
theorem Ext.range (h : Ext A A1) {b o : Nat} {vs : List Value} (hr : A.rangeAt b o vs) : A1.rangeAt b o vs := fun j v hj => h.cell (hr j v hj)
theorem Ext.blk (h : Ext A A1) {b : Nat} {T : TypeId} {cs : Array Value} (hb : Blk A b T cs) : Blk A1 b T cs := (h.get hb.lt).trans hb
theorem Ext.sl (h : Ext A A1) {a : Option Addr} {sz : Nat} {xs : List (List Value)} (hs : SlAt A a sz xs) : SlAt A1 a sz xs := fun k x hk => by
  obtain ⟨b, o, e, hr⟩ := hs k x hk
  exact ⟨b, o, e, h.range hr⟩
theorem Ext.grow {A' : World} {r : Option Nat} (h : Ext A A1) (hg : A1.grownBy A' r) : A.grownBy (Go.Dw.J.norm A A') r :=
  ⟨hg.os.trans h.choose_spec.2.1, rfl, hg.output.trans h.choose_spec.2.2, Nat.le_trans h.size hg.size, fun b hb hne => (hg.block b (Nat.lt_of_lt_of_le hb h.size) hne).trans (h.get hb)⟩
theorem Ext.grown0 (h : Ext A A1) : A.grownBy { A1 with tape := A.tape } none := ⟨h.choose_spec.2.1, rfl, h.choose_spec.2.2, h.size, fun b hb _ => h.get hb⟩
theorem Ext.own (h : Ext A A1) {B : Nat} {T : TypeId} {sz cap n : Nat} {vs : List Value} (ho : Own A B T sz cap n vs) : Own A1 B T sz cap n vs := by
  have := Own.grown0 ho (grown0 h)
  exact this
theorem Ext.ownN (h : Ext A A1) {lo : Nat} {a : Option Addr} {T : TypeId} {sz cap n : Nat} {vs : List Value} (ho : OwnN lo A a T sz cap n vs) : OwnN lo A1 a T sz cap n vs := by
  have := OwnN.grown0 ho (grown0 h)
  exact this
end
structure NewB (w w' : World) (B : Nat) (T : TypeId) (cs : Array Value) : Prop where
  ge : w.heap.size ≤ B
  blk : Blk w' B T cs
  grw : w.grownBy w' none
structure SetB (w w' : World) (b : Nat) (T : TypeId) (cs : Array Value) : Prop where
  blk : Blk w' b T cs
  grw : w.grownBy w' (some b)
structure NewO (w w' : World) (B : Nat) (T : TypeId) (sz cap n : Nat) (vs : List Value) : Prop where
  ge : w.heap.size ≤ B
  own : Own w' B T sz cap n vs
  grw : w.grownBy w' none
theorem NewB.of {w A1 w' : World} {B : Nat} {T : TypeId} {cs : Array Value} (hE : Ext w A1) (h : Go.Dw.NewB A1 w' B T cs) : NewB w (norm w w') B T cs := ⟨by rw [h.eq]; exact hE.size, h.blk, hE.grow h.grw⟩
theorem SetB.of {w A1 w' : World} {b : Nat} {T : TypeId} {cs : Array Value} (hE : Ext w A1) (h : Go.Dw.SetB A1 w' b T cs) : SetB w (norm w w') b T cs := ⟨h.blk, hE.grow h.grw⟩
theorem NewO.of {w A1 w' : World} {B : Nat} {T : TypeId} {sz cap n : Nat} {vs : List Value} (hE : Ext w A1) (h : Go.Dw.NewO A1 w' B T sz cap n vs) : NewO w (norm w w') B T sz cap n vs := ⟨by rw [h.eq]; exact hE.size, h.own, hE.grow h.grw⟩
theorem Xy {w a b : World} {r : Option Nat} {B : Nat} {T : TypeId} {cs : Array Value} (h : NewB a b B T cs) (hl : w.grownBy a r) : w.heap.size ≤ B := Nat.le_trans hl.size h.ge
theorem Xs {a b : World} {B C : Nat} {T : TypeId} {cs : Array Value} (h : NewB a b B T cs) (hk : C < a.heap.size) : C < B := Nat.lt_of_lt_of_le hk h.ge
def Plain (s : Sem Next) : Prop := ∀ P w x w', s.run P w = .ok x w' → (∃ v, x = .value v) ∨ x = .skip
theorem Uz (v : Value) : Plain (pure (.value v)) := fun P w x w' h => by
  simp only [Sem.run_pure, Result.ok.injEq] at h
  exact Or.inl ⟨v, h.1.symm⟩
theorem Hp {α : Type} {s : Sem α} {k : α → Sem Next} (hk : ∀ x, Plain (k x)) : Plain (s >>= k) := fun P w x w' h => by
  rw [Sem.run_bind] at h
  cases hs : s.run P w with
  | ok y w1 => rw [hs] at h; exact hk y P w1 x w' h
  | halt e w1 => rw [hs] at h; cases h
theorem Yk (s : Sem Value) : Plain (do pure (.value (← s))) := Hp fun _ => Uz _
theorem W8 (s : Sem Unit) : Plain (do s; pure .skip) := Hp fun _ P w x w' h => by
  simp only [Sem.run_pure, Result.ok.injEq] at h
  exact Or.inr h.1.symm
theorem qu {P : Program} {s : Sem Unit} (h : Quiet P s) : Quiet P (do s; pure .skip : Sem Next) := qb h fun _ => trivial
section
variable {P : Program} {f : Fr} {d : Option Nat} {ty : TypeId} {pos : String} {aft : Array Edge} {g : Option (Nat × Bool)}
theorem N9 {b : Builtin} {args : Array Operand} {tys : Array TypeId} (h : Quiet P (builtin b tys ty (args.map fun | .const _ => true | _ => false) (args.map (ev f)))) : Quiet P (execOp (ev f) ⟨d, .call ⟨.builtin b, args, tys⟩, ty, pos, aft, g⟩) := h
theorem Ij {args : Array Operand} {tys : Array TypeId} : Plain (execOp (ev f) ⟨d, .call ⟨.builtin .len, args, tys⟩, ty, pos, aft, g⟩) := Yk (Builtin.len_ tys ty (args.map (ev f)))
theorem W7 {args : Array Operand} {tys : Array TypeId} : Plain (execOp (ev f) ⟨d, .call ⟨.builtin .append, args, tys⟩, ty, pos, aft, g⟩) := Yk (Builtin.append_ tys ty (args.map (ev f)))
end
theorem Ml {P : Program} {t e sz bytes : Nat} {z : Option Value} (h : mkTy P t = some (e, sz, bytes, z)) : P.underlying t = some (.slice e) := by
  unfold mkTy at h
  split at h
  · rename_i el hu
    cases hq : P.info? el with
    | none => rw [hq] at h; cases h
    | some i =>
      rw [hq] at h
      simp only [Option.map_some, Option.some.injEq, Prod.mk.injEq] at h
      rw [hu, h.1]
  · cases h
section
variable [Comp] {P : Program} {n : Nat} {ops : Array Oper} {K : Fr → World → Prop} {l : List Oper} {f : Fr} {A : World} {o : Oper}
theorem execOp_congr {ρ : Operand → Value} {o o' : Oper} (h1 : o'.op = o.op) (h2 : o'.type = o.type) : execOp ρ o' = execOp ρ o := by
  unfold execOp
  rw [h1, h2]
theorem keep {A A1 : World} (hE : Ext A A1) (h : WpO P n ops K l f A) : WpO P n ops K l f (norm A A1) := h.ext hE.norm rfl
theorem Xa9 {K' : Fr → World → Prop} {A1 : World} {a : Act} (hg : o.guard = none) (hp : Plain (execOp (ev f) o)) (ha : FEq n a f) (h : Go.Dw.WpO P n ops K' [o] f A1) :
    ∃ x A1', (execOp a.eval o).run P A1 = .ok x A1' ∧ ((∃ v, x = .value v ∧ ∃ f', FEq n (a.put o.dst v) f' ∧ K' f' A1') ∨ (x = .skip ∧ ∃ f', FEq n (a.put o.dst undef) f' ∧ K' f' A1')) := by
  have h1 := h a ha (fun e a' w' => match e with | .normal => ∃ f', FEq n a' f' ∧ K' f' w' | _ => False) (fun a' w' f' hf hK => ⟨f', hf, hK⟩)
  unfold wpList at h1
  rw [if_pos (by simp [Region.wanted, hg])] at h1
  rcases h1 with h1 | ⟨_, a0, w0, h0⟩
  · unfold Oper.wp at h1
    rw [ha.eval] at h1 ⊢
    cases hr : (execOp (ev f) o).run P A1 with
    | ok x A1' =>
      rw [hr] at h1
      refine ⟨x, A1', rfl, ?_⟩
      rcases hp P A1 x A1' hr with ⟨v, rfl⟩ | rfl
      · exact Or.inl ⟨v, rfl, h1⟩
      · exact Or.inr ⟨rfl, h1⟩
    | halt e A1' =>
      rw [hr] at h1
      cases e <;> exact h1.elim
  · exact h0.elim
theorem jop (hg : o.guard = none) (hq : Quiet P (execOp (ev f) o)) (hp : Plain (execOp (ev f) o)) (h : ∀ A1, Ext A A1 → Go.Dw.WpO P n ops (fun f' A1' => WpO P n ops K l f' (norm A A1')) [o] f A1) : WpO P n ops K (o :: l) f A := fun a ha =>
  Or.inl ⟨by simp [Region.wanted, hg], Or.inl ⟨by rw [ha.eval]; exact hq, fun A1 hE => by
    obtain ⟨x, A1', hr, hx⟩ := Xa9 hg hp ha (h A1 hE)
    rcases hx with ⟨v, e, f', hf, hK⟩ | ⟨e, f', hf, hK⟩
    · exact ⟨x, v, A1', hr, Or.inl e, f', hf, hK⟩
    · exact ⟨x, undef, A1', hr, Or.inr ⟨e, rfl⟩, f', hf, hK⟩⟩⟩
end
section
variable [Comp] {P : Program} {n : Nat} {ops : Array Oper} {K : Fr → World → Prop} {l : List Oper} {f : Fr} {w w' : World} {ty : TypeId} {pos : String} {aft : Array Edge} {d : Nat}
theorem wpo_move {x : Operand} {v : Value} (hx : ev f x = v) (hd : Nat.blt d n = true) (h : WpO P n ops K l (up f d v) w) : WpO P n ops K (⟨some d, .move x, ty, pos, aft, none⟩ :: l) f w :=
  jop rfl (qp _) (Uz _) fun A1 hE => Go.Dw.wpo_move hx hd (Go.Dw.wpo_nil (keep hE h))
theorem wpo_assign {x : Operand} {v : Value} (hx : ev f x = v) (hd : Nat.blt d n = true) (h : WpO P n ops K l (up f d v) w) : WpO P n ops K (⟨some d, .assign x, ty, pos, aft, none⟩ :: l) f w :=
  jop rfl (qp _) (Uz _) fun A1 hE => Go.Dw.wpo_assign hx hd (Go.Dw.wpo_nil (keep hE h))
theorem wpo_pickt {c x y : Operand} {b : Bool} {v : Value} (hc : ev f c = .bool b) (hb : b = true) (hx : ev f x = v) (hd : Nat.blt d n = true) (h : WpO P n ops K l (up f d v) w) : WpO P n ops K (⟨some d, .pick c x y, ty, pos, aft, none⟩ :: l) f w :=
  jop rfl (qb (Qq _) fun _ => qp _) (Hp fun _ => Uz _) fun A1 hE => Go.Dw.wpo_pickt hc hb hx hd (Go.Dw.wpo_nil (keep hE h))
theorem wpo_pickf {c x y : Operand} {b : Bool} {v : Value} (hc : ev f c = .bool b) (hb : b = false) (hy : ev f y = v) (hd : Nat.blt d n = true) (h : WpO P n ops K l (up f d v) w) : WpO P n ops K (⟨some d, .pick c x y, ty, pos, aft, none⟩ :: l) f w :=
  jop rfl (qb (Qq _) fun _ => qp _) (Hp fun _ => Uz _) fun A1 hE => Go.Dw.wpo_pickf hc hb hy hd (Go.Dw.wpo_nil (keep hE h))
theorem wpo_box {T : TypeId} {x : Operand} {v : Value} {cs : Array Value} (hx : ev f x = v) (hcs : v.cells = cs) (hd : Nat.blt d n = true) (h : ∀ B w', NewB w w' B T cs → WpO P n ops K l (up f d (.pointer (some ⟨B, 0, none⟩))) w') : WpO P n ops K (⟨some d, .box T x, ty, pos, aft, none⟩ :: l) f w :=
  jop rfl (qv (Xe5 _ _)) (Yk _) fun A1 hE => Go.Dw.wpo_box hx hcs hd (fun B w' hN => Go.Dw.wpo_nil (h B (norm w w') (NewB.of hE hN)))
theorem wpo_alloc {T : TypeId} {z : Value} {cs : Array Value} (hz : zeroTy P T = some z) (hcs : z.cells = cs) (hd : Nat.blt d n = true) (h : ∀ B w', NewB w w' B T cs → WpO P n ops K l (up f d (.pointer (some ⟨B, 0, none⟩))) w') : WpO P n ops K (⟨some d, .alloc T, ty, pos, aft, none⟩ :: l) f w :=
  jop rfl (qv (Xbf _)) (Yk _) fun A1 hE => Go.Dw.wpo_alloc hz hcs hd (fun B w' hN => Go.Dw.wpo_nil (h B (norm w w') (NewB.of hE hN)))
theorem wpo_load1 {t : TypeId} {x : Operand} {a : Addr} {v : Value} (ht : oneTy P t = true) (hx : ev f x = .pointer (some a)) (hc : w.cell? a = some v) (hd : Nat.blt d n = true) (h : WpO P n ops K l (up f d v) w) : WpO P n ops K (⟨some d, .load t x, ty, pos, aft, none⟩ :: l) f w :=
  jop rfl (qv (R4 _ _)) (Yk _) fun A1 hE => Go.Dw.wpo_load1 ht hx (hE.cell hc) hd (Go.Dw.wpo_nil (keep hE h))
theorem wpo_loadn {t k b o : Nat} {x : Operand} {vs : List Value} (ht : rowTy P t = some k) (hx : ev f x = .pointer (some ⟨b, o, none⟩)) (hl : vs.length = k) (hr : w.rangeAt b o vs) (hd : Nat.blt d n = true) (h : WpO P n ops K l (up f d (.agg vs.toArray)) w) : WpO P n ops K (⟨some d, .load t x, ty, pos, aft, none⟩ :: l) f w :=
  jop rfl (qv (R4 _ _)) (Yk _) fun A1 hE => Go.Dw.wpo_loadn ht hx hl (hE.range hr) hd (Go.Dw.wpo_nil (keep hE h))
theorem wpo_store1 {t b o : Nat} {x y : Operand} {T : TypeId} {cs cs' : Array Value} {v : Value} (ht : oneTy P t = true) (hx : ev f x = .pointer (some ⟨b, o, none⟩)) (hy : ev f y = v) (h1 : v.oneCell' = true) (hb : Blk w b T cs) (ho : o < cs.size) (hcs : cs.setIfInBounds o v = cs') (h : ∀ w', SetB w w' b T cs' → WpO P n ops K l f w') : WpO P n ops K (⟨none, .store t x y, ty, pos, aft, none⟩ :: l) f w :=
  jop rfl (qu (Kw _ _ _)) (W8 _) fun A1 hE => Go.Dw.wpo_store1 ht hx hy h1 (hE.blk hb) ho hcs (fun w' hS => Go.Dw.wpo_nil (h (norm w w') (SetB.of hE hS)))
theorem wpo_storen {t k b o : Nat} {x y : Operand} {T : TypeId} {cs cs' : Array Value} {vs : List Value} (ht : rowTy P t = some k) (hx : ev f x = .pointer (some ⟨b, o, none⟩)) (hy : ev f y = .agg vs.toArray) (hl : vs.length = k) (h1 : ∀ v ∈ vs, v.oneCell' = true) (hb : Blk w b T cs) (ho : o + k ≤ cs.size) (hcs : (cs.toList.take o ++ vs ++ cs.toList.drop (o + k)).toArray = cs') (h : ∀ w', SetB w w' b T cs' → WpO P n ops K l f w') : WpO P n ops K (⟨none, .store t x y, ty, pos, aft, none⟩ :: l) f w :=
  jop rfl (qu (Kw _ _ _)) (W8 _) fun A1 hE => Go.Dw.wpo_storen ht hx hy hl h1 (hE.blk hb) ho hcs (fun w' hS => Go.Dw.wpo_nil (h (norm w w') (SetB.of hE hS)))
theorem wpo_fieldAddr {s k j b o o' : Nat} {x : Operand} (hf : fieldOff P s k = some j) (hx : ev f x = .pointer (some ⟨b, o, none⟩)) (e : o + j = o') (hd : Nat.blt d n = true) (h : WpO P n ops K l (up f d (.pointer (some ⟨b, o', none⟩))) w) : WpO P n ops K (⟨some d, .fieldAddr s x k, ty, pos, aft, none⟩ :: l) f w :=
  jop rfl (qv (Iv hf _)) (Yk _) fun A1 hE => Go.Dw.wpo_fieldAddr hf hx e hd (Go.Dw.wpo_nil (keep hE h))
theorem wpo_indexAddr {t sz b o o' len cap : Nat} {x y : Operand} {k : IntKind} {i : Int} (ht : elemSz P t = some sz) (hx : ev f x = .slice (some ⟨b, o, none⟩) len cap) (hy : ev f y = .int k i) (h0 : 0 ≤ i) (h1 : i < len) (e : o + i.toNat * sz = o') (hd : Nat.blt d n = true) (h : WpO P n ops K l (up f d (.pointer (some ⟨b, o', none⟩))) w) : WpO P n ops K (⟨some d, .indexAddr t x y, ty, pos, aft, none⟩ :: l) f w :=
  jop rfl (qv (Iw _ _ _)) (Yk _) fun A1 hE => Go.Dw.wpo_indexAddr ht hx hy h0 h1 e hd (Go.Dw.wpo_nil (keep hE h))
theorem X6 {t sz len cap b q o' : Nat} {a : Option Addr} {x y : Operand} {k : IntKind} {i : Int} (ht : elemSz P t = some sz) (hx : ev f x = .slice a len cap) (hy : ev f y = .int k i) (ha : a = some ⟨b, q, none⟩) (e : q + i.toNat * sz = o') (h0 : 0 ≤ i) (h1 : i < len)
    (hd : Nat.blt d n = true) (h : WpO P n ops K l (up f d (.pointer (some ⟨b, o', none⟩))) w) : WpO P n ops K (⟨some d, .indexAddr t x y, ty, pos, aft, none⟩ :: l) f w := by
  subst ha
  exact wpo_indexAddr ht hx hy h0 h1 e hd h
theorem wpo_len {t : TypeId} {a : Option Addr} {m c : Nat} {x : Operand} (ht : (match P.underlying t with | some (.slice _) => true | _ => false) = true) (hx : ev f x = .slice a m c) (hd : Nat.blt d n = true) (h : WpO P n ops K l (up f d (.int .i64 (m : Int))) w) : WpO P n ops K (⟨some d, .call ⟨.builtin .len, #[x], #[t]⟩, ty, pos, aft, none⟩ :: l) f w :=
  jop rfl (N9 (by rw [show (#[x]).map (ev f) = #[Value.slice a m c] from by simp [hx]]; exact qv (Xe6 (fun r => ⟨by simp, by simp⟩)))) (Ij) fun A1 hE => Go.Dw.wpo_len ht hx hd (Go.Dw.wpo_nil (keep hE h))
theorem wpo_nilCheck {x : Operand} {a : Addr} (hx : ev f x = .pointer (some a)) (hd : Nat.blt d n = true) (h : WpO P n ops K l (up f d (.pointer (some a))) w) : WpO P n ops K (⟨some d, .nilCheck x, ty, pos, aft, none⟩ :: l) f w :=
  jop rfl (by simp only [execOp, hx]; exact qp _) (by simp only [execOp, hx]; exact Uz _) fun A1 hE => Go.Dw.wpo_nilCheck hx hd (Go.Dw.wpo_nil (keep hE h))
theorem wpo_extract {x : Operand} {i : Nat} {vs : Array Value} {v : Value} (hx : ev f x = .tuple vs) (hv : vs[i]? = some v) (hd : Nat.blt d n = true) (h : WpO P n ops K l (up f d v) w) : WpO P n ops K (⟨some d, .extract x i, ty, pos, aft, none⟩ :: l) f w :=
  jop rfl (qv (Iu _ _)) (Yk _) fun A1 hE => Go.Dw.wpo_extract hx hv hd (Go.Dw.wpo_nil (keep hE h))
theorem wpo_not {t : TypeId} {x : Operand} {b b' : Bool} (hx : ev f x = .bool b) (hb : (!b) = b') (hd : Nat.blt d n = true) (h : WpO P n ops K l (up f d (.bool b')) w) : WpO P n ops K (⟨some d, .unOp .not t x, ty, pos, aft, none⟩ :: l) f w :=
  jop rfl (qv (Mp _ _)) (Yk _) fun A1 hE => Go.Dw.wpo_not hx hb hd (Go.Dw.wpo_nil (keep hE h))
theorem wpo_build {t : TypeId} {parts : Array (Nat × Operand)} {ps : List (Nat × Value)} {v : Value} (hp : parts.toList.map (fun p => (p.1, ev f p.2)) = ps) (hb : ∀ w, (Instr.build t ps.toArray).run P w = .ok v w) (hd : Nat.blt d n = true) (h : WpO P n ops K l (up f d v) w) : WpO P n ops K (⟨some d, .build t parts, ty, pos, aft, none⟩ :: l) f w :=
  jop rfl (qv (Xbh _ _)) (Yk _) fun A1 hE => Go.Dw.wpo_build hp (hb A1) hd (Go.Dw.wpo_nil (keep hE h))
theorem wpo_makeFunc {k : FuncId} {cap : Array Operand} {vs : List Value} (hc : cap.toList.map (ev f) = vs) (hd : Nat.blt d n = true) (h : WpO P n ops K l (up f d (.func (.func k) #[] vs.toArray)) w) : WpO P n ops K (⟨some d, .makeFunc (.func k) #[] cap, ty, pos, aft, none⟩ :: l) f w :=
  jop rfl (qv (qp _)) (Yk _) fun A1 hE => Go.Dw.wpo_makeFunc hc hd (Go.Dw.wpo_nil (keep hE h))
theorem wpo_conv {s t : TypeId} {x : Operand} {k k' : IntKind} {a c : Int} (hx : ev f x = .int k a) (hs : (P.underlying s).isSome = true) (ht : P.underlying t = some (.int k')) (hc : k'.wrap a = c) (hd : Nat.blt d n = true) (h : WpO P n ops K l (up f d (.int k' c)) w) : WpO P n ops K (⟨some d, .convert s t x, ty, pos, aft, none⟩ :: l) f w :=
  jop rfl (by simp only [execOp, hx]; exact qv (Ir hs ht)) (Yk _) fun A1 hE => Go.Dw.wpo_conv hx hs ht hc hd (Go.Dw.wpo_nil (keep hE h))
theorem wpo_eqs {bo : BinOp} {t yt : TypeId} {x y : Operand} {u v : Value} {q q' : Bool} (hx : ev f x = u) (hy : ev f y = v) (hu : flat1 u = true) (hv : flat1 v = true) (hg : ∀ w, (eqGuard bo t x y u v).run P w = .ok () w) (hr : ∀ w, (binOp bo t u v).run P w = .ok (.bool q') w) (hq : q' = q) (hd : Nat.blt d n = true) (h : WpO P n ops K l (up f d (.bool q)) w) : WpO P n ops K (⟨some d, .binOp bo t x y yt, ty, pos, aft, none⟩ :: l) f w :=
  jop rfl (Jz (Ys hx hu) (Ys hy hv)) (Yk _) fun A1 hE => Go.Dw.wpo_eqs hx hy (hg A1) (hr A1) hq hd (Go.Dw.wpo_nil (keep hE h))
theorem wpo_bin {bo : BinOp} {xt yt : TypeId} {x y : Operand} {u u' v : Value} (hx : ev f x = u) (hy : ev f y = u') (hu : flat1 u = true) (hv : flat1 u' = true) (hr : ∀ w, (binOp bo xt u u').run P w = .ok v w) (hg : ∀ x y, eqGuard bo xt x y u u' = pure ()) (hd : Nat.blt d n = true) (h : WpO P n ops K l (up f d v) w) : WpO P n ops K (⟨some d, .binOp bo xt x y yt, ty, pos, aft, none⟩ :: l) f w :=
  jop rfl (Jz (Ys hx hu) (Ys hy hv)) (Yk _) fun A1 hE => Go.Dw.wpo_bin hx hy (hr A1) hg hd (Go.Dw.wpo_nil (keep hE h))
theorem wpo_eqlb {t yt : TypeId} {x y : Operand} {a b q : Bool} (ht : P.underlying t = some .bool) (hx : ev f x = .bool a) (hy : ev f y = .bool b) (hq : decide (a = b) = q) (hd : Nat.blt d n = true) (h : WpO P n ops K l (up f d (.bool q)) w) : WpO P n ops K (⟨some d, .binOp .eql t x y yt, ty, pos, aft, none⟩ :: l) f w :=
  jop rfl (Jz (Ys hx rfl) (Ys hy rfl)) (Yk _) fun A1 hE => Go.Dw.wpo_eqlb ht hx hy hq hd (Go.Dw.wpo_nil (keep hE h))
theorem wpo_neqb {t yt : TypeId} {x y : Operand} {a b q : Bool} (ht : P.underlying t = some .bool) (hx : ev f x = .bool a) (hy : ev f y = .bool b) (hq : (!decide (a = b)) = q) (hd : Nat.blt d n = true) (h : WpO P n ops K l (up f d (.bool q)) w) : WpO P n ops K (⟨some d, .binOp .neq t x y yt, ty, pos, aft, none⟩ :: l) f w :=
  jop rfl (Jz (Ys hx rfl) (Ys hy rfl)) (Yk _) fun A1 hE => Go.Dw.wpo_neqb ht hx hy hq hd (Go.Dw.wpo_nil (keep hE h))
theorem wpo_add {xt yt : TypeId} {x y : Operand} {a b c : Int} (hx : ev f x = .int .i64 a) (hy : ev f y = .int .i64 b) (hc : a + b = c) (h0 : -9223372036854775808 ≤ c) (h1 : c ≤ 9223372036854775807) (hd : Nat.blt d n = true) (h : WpO P n ops K l (up f d (.int .i64 c)) w) : WpO P n ops K (⟨some d, .binOp .add xt x y yt, ty, pos, aft, none⟩ :: l) f w :=
  jop rfl (Jz (Ys hx rfl) (Ys hy rfl)) (Yk _) fun A1 hE => Go.Dw.wpo_add hx hy hc h0 h1 hd (Go.Dw.wpo_nil (keep hE h))
theorem wpo_sub {xt yt : TypeId} {x y : Operand} {a b c : Int} (hx : ev f x = .int .i64 a) (hy : ev f y = .int .i64 b) (hc : a - b = c) (h0 : -9223372036854775808 ≤ c) (h1 : c ≤ 9223372036854775807) (hd : Nat.blt d n = true) (h : WpO P n ops K l (up f d (.int .i64 c)) w) : WpO P n ops K (⟨some d, .binOp .sub xt x y yt, ty, pos, aft, none⟩ :: l) f w :=
  jop rfl (Jz (Ys hx rfl) (Ys hy rfl)) (Yk _) fun A1 hE => Go.Dw.wpo_sub hx hy hc h0 h1 hd (Go.Dw.wpo_nil (keep hE h))
theorem wpo_quo {xt yt : TypeId} {x y : Operand} {a b c : Int} (hx : ev f x = .int .i64 a) (hy : ev f y = .int .i64 b) (h0 : 0 ≤ a) (h1 : 0 < b) (h2 : a ≤ 9223372036854775807) (hc : a / b = c) (hd : Nat.blt d n = true) (h : WpO P n ops K l (up f d (.int .i64 c)) w) : WpO P n ops K (⟨some d, .binOp .quo xt x y yt, ty, pos, aft, none⟩ :: l) f w :=
  jop rfl (Jz (Ys hx rfl) (Ys hy rfl)) (Yk _) fun A1 hE => Go.Dw.wpo_quo hx hy h0 h1 h2 hc hd (Go.Dw.wpo_nil (keep hE h))
theorem wpo_rem {xt yt : TypeId} {x y : Operand} {a b c : Int} (hx : ev f x = .int .i64 a) (hy : ev f y = .int .i64 b) (h0 : 0 ≤ a) (h1 : 0 < b) (_h2 : a ≤ 9223372036854775807) (hc : a % b = c) (hd : Nat.blt d n = true) (h : WpO P n ops K l (up f d (.int .i64 c)) w) : WpO P n ops K (⟨some d, .binOp .rem xt x y yt, ty, pos, aft, none⟩ :: l) f w :=
  jop rfl (Jz (Ys hx rfl) (Ys hy rfl)) (Yk _) fun A1 hE => Go.Dw.wpo_rem hx hy h0 h1 _h2 hc hd (Go.Dw.wpo_nil (keep hE h))
theorem wpo_mul {xt yt : TypeId} {x y : Operand} {a b c : Int} (hx : ev f x = .int .i64 a) (hy : ev f y = .int .i64 b) (hc : a * b = c) (h0 : -9223372036854775808 ≤ c) (h1 : c ≤ 9223372036854775807) (hd : Nat.blt d n = true) (h : WpO P n ops K l (up f d (.int .i64 c)) w) : WpO P n ops K (⟨some d, .binOp .mul xt x y yt, ty, pos, aft, none⟩ :: l) f w :=
  jop rfl (Jz (Ys hx rfl) (Ys hy rfl)) (Yk _) fun A1 hE => Go.Dw.wpo_mul hx hy hc h0 h1 hd (Go.Dw.wpo_nil (keep hE h))
theorem wpo_lss {xt yt : TypeId} {x y : Operand} {k : IntKind} {a b : Int} {q : Bool} (hx : ev f x = .int k a) (hy : ev f y = .int k b) (hq : decide (a < b) = q) (hd : Nat.blt d n = true) (h : WpO P n ops K l (up f d (.bool q)) w) : WpO P n ops K (⟨some d, .binOp .lss xt x y yt, ty, pos, aft, none⟩ :: l) f w :=
  jop rfl (Jz (Ys hx rfl) (Ys hy rfl)) (Yk _) fun A1 hE => Go.Dw.wpo_lss hx hy hq hd (Go.Dw.wpo_nil (keep hE h))
theorem wpo_leq {xt yt : TypeId} {x y : Operand} {k : IntKind} {a b : Int} {q : Bool} (hx : ev f x = .int k a) (hy : ev f y = .int k b) (hq : decide (a ≤ b) = q) (hd : Nat.blt d n = true) (h : WpO P n ops K l (up f d (.bool q)) w) : WpO P n ops K (⟨some d, .binOp .leq xt x y yt, ty, pos, aft, none⟩ :: l) f w :=
  jop rfl (Jz (Ys hx rfl) (Ys hy rfl)) (Yk _) fun A1 hE => Go.Dw.wpo_leq hx hy hq hd (Go.Dw.wpo_nil (keep hE h))
theorem wpo_gtr {xt yt : TypeId} {x y : Operand} {k : IntKind} {a b : Int} {q : Bool} (hx : ev f x = .int k a) (hy : ev f y = .int k b) (hq : decide (b < a) = q) (hd : Nat.blt d n = true) (h : WpO P n ops K l (up f d (.bool q)) w) : WpO P n ops K (⟨some d, .binOp .gtr xt x y yt, ty, pos, aft, none⟩ :: l) f w :=
  jop rfl (Jz (Ys hx rfl) (Ys hy rfl)) (Yk _) fun A1 hE => Go.Dw.wpo_gtr hx hy hq hd (Go.Dw.wpo_nil (keep hE h))
theorem wpo_geq {xt yt : TypeId} {x y : Operand} {k : IntKind} {a b : Int} {q : Bool} (hx : ev f x = .int k a) (hy : ev f y = .int k b) (hq : decide (b ≤ a) = q) (hd : Nat.blt d n = true) (h : WpO P n ops K l (up f d (.bool q)) w) : WpO P n ops K (⟨some d, .binOp .geq xt x y yt, ty, pos, aft, none⟩ :: l) f w :=
  jop rfl (Jz (Ys hx rfl) (Ys hy rfl)) (Yk _) fun A1 hE => Go.Dw.wpo_geq hx hy hq hd (Go.Dw.wpo_nil (keep hE h))
theorem wpo_eql {xt yt : TypeId} {x y : Operand} {k : IntKind} {a b : Int} {q : Bool} (hx : ev f x = .int k a) (hy : ev f y = .int k b) (hq : decide (a = b) = q) (hd : Nat.blt d n = true) (h : WpO P n ops K l (up f d (.bool q)) w) : WpO P n ops K (⟨some d, .binOp .eql xt x y yt, ty, pos, aft, none⟩ :: l) f w :=
  jop rfl (Jz (Ys hx rfl) (Ys hy rfl)) (Yk _) fun A1 hE => Go.Dw.wpo_eql hx hy hq hd (Go.Dw.wpo_nil (keep hE h))
theorem wpo_neq {xt yt : TypeId} {x y : Operand} {k : IntKind} {a b : Int} {q : Bool} (hx : ev f x = .int k a) (hy : ev f y = .int k b) (hq : (!decide (a = b)) = q) (hd : Nat.blt d n = true) (h : WpO P n ops K l (up f d (.bool q)) w) : WpO P n ops K (⟨some d, .binOp .neq xt x y yt, ty, pos, aft, none⟩ :: l) f w :=
  jop rfl (Jz (Ys hx rfl) (Ys hy rfl)) (Yk _) fun A1 hE => Go.Dw.wpo_neq hx hy hq hd (Go.Dw.wpo_nil (keep hE h))
theorem wpo_make {α : Type} {g : α → List Value} {z : α} {t e sz bytes c : Nat} {v : Value} {x y : Operand} (ht : mkTy P t = some (e, sz, bytes, some v)) (hv : v.cells = (g z).toArray) (hg : Wide g sz) (h0 : 0 < sz) (hx : ev f x = .int .i64 (c : Int)) (hy : ev f y = .int .i64 (c : Int)) (hb : bytes * c ≤ 281474976710656) (h63 : c ≤ 9223372036854775807) (hd : Nat.blt d n = true) (h : ∀ B w', NewB w w' B e ((List.replicate c z).flatMap g).toArray → WpO P n ops K l (up f d (.slice (some ⟨B, 0, none⟩) c c)) w') : WpO P n ops K (⟨some d, .makeSlice t x y, ty, pos, aft, none⟩ :: l) f w :=
  jop rfl (qv (R5 _ _ _)) (Yk _) fun A1 hE => Go.Dw.wpo_make ht hv hg h0 hx hy hb h63 hd (fun B w' hN => Go.Dw.wpo_nil (h B (norm w w') (NewB.of hE hN)))
theorem wpo_cut {t : TypeId} {x y : Operand} {a : Option Addr} {m c h : Nat} {k : IntKind} {e sz : Nat} (ht : P.underlying t = some (.slice e)) (hs : (P.info? e).map (·.size) = some sz) (hx : ev f x = .slice a m c) (hy : ev f y = .int k (h : Int)) (hc : h ≤ c) (hd : Nat.blt d n = true) (hk : WpO P n ops K l (up f d (.slice a h c)) w) : WpO P n ops K (⟨some d, .slice t x none (some y) none, ty, pos, aft, none⟩ :: l) f w :=
  jop rfl (qv (Nd _ _ _ _ _)) (Yk _) fun A1 hE => Go.Dw.wpo_cut ht hs hx hy hc hd (Go.Dw.wpo_nil (keep hE hk))
theorem wpo_buildSlice {t len : Nat} {parts : Array (Nat × Operand)} {ps : List (Nat × Value)} {e : TypeId} {cs : Array Value} (hp : parts.toList.map (fun p => (p.1, ev f p.2)) = ps) (hb : ∀ w, (Instr.buildSlice t len ps.toArray).run P w = .ok (.slice (some ⟨w.heap.size, 0, none⟩) len len) (w.alloc (.cells cs e))) (hd : Nat.blt d n = true) (h : ∀ B w', NewB w w' B e cs → WpO P n ops K l (up f d (.slice (some ⟨B, 0, none⟩) len len)) w') : WpO P n ops K (⟨some d, .buildSlice t len parts, ty, pos, aft, none⟩ :: l) f w :=
  jop rfl (qv (N8 _ _ _)) (Yk _) fun A1 hE => Go.Dw.wpo_buildSlice hp hb hd (fun B w' hN => Go.Dw.wpo_nil (h B (norm w w') (NewB.of hE hN)))
theorem wpo_append {α : Type} {g : α → List Value} {t e sz bytes cap c : Nat} {z : Value} {x y : Operand} {B : Nat} {ys zs : List α} {a : Addr} (ht : mkTy P t = some (e, sz, bytes, some z)) (hz : z.cells.size = sz) (hg : Wide g sz) (h0 : 0 < sz) (h1c : ∀ q : α, ∀ u ∈ g q, u.oneCell' = true) (hx : ev f x = .slice (some ⟨B, 0, none⟩) ys.length cap) (hy : ev f y = .slice (some a) zs.length c) (ho : Own w B e sz cap ys.length (ys.flatMap g)) (hs : SlAt w (some a) sz (zs.map g)) (hm : ys.length + zs.length ≤ 1099511627776) (hb : bytes ≤ 128) (hd : Nat.blt d n = true) (h : ∀ B' cap' w', Own w' B' e sz cap' (ys ++ zs).length ((ys ++ zs).flatMap g) → w.grownBy w' (some B) → (B' = B ∨ w.heap.size ≤ B') → WpO P n ops K l (up f d (.slice (some ⟨B', 0, none⟩) (ys ++ zs).length cap')) w') : WpO P n ops K (⟨some d, .call ⟨.builtin .append, #[x, y], #[t, t]⟩, ty, pos, aft, none⟩ :: l) f w :=
  jop rfl (N9 (by rw [show (#[x, y]).map (ev f) = #[Value.slice (some ⟨B, 0, none⟩) ys.length cap, Value.slice (some a) zs.length c] from by simp [hx, hy]]; exact qv (R0 (Ml ht) _ _))) (W7) fun A1 hE => Go.Dw.wpo_append ht hz hg h0 h1c hx hy (hE.own ho) (hE.sl hs) hm hb hd (fun B' cap' w' hO hG hB => Go.Dw.wpo_nil (h B' cap' (norm w w') hO (hE.grow hG) (hB.imp id fun e => by rw [e]; exact hE.size)))
theorem wpo_appendN {α : Type} {g : α → List Value} {lo t e sz bytes cap c : Nat} {z : Value} {x y : Operand} {ax ay : Option Addr} {ys zs : List α} (ht : mkTy P t = some (e, sz, bytes, some z)) (hz : z.cells.size = sz) (hg : Wide g sz) (h0 : 0 < sz) (h1c : ∀ q : α, ∀ u ∈ g q, u.oneCell' = true) (hx : ev f x = .slice ax ys.length cap) (hy : ev f y = .slice ay zs.length c) (ho : OwnN lo w ax e sz cap ys.length (ys.flatMap g)) (hs : SlAt w ay sz (zs.map g)) (hc : ay = none → c = 0) (hm : ys.length + zs.length ≤ 1099511627776) (hb : bytes ≤ 128) (hlo : lo ≤ w.heap.size) (hd : Nat.blt d n = true) (h : ∀ a' cap' w', OwnN lo w' a' e sz cap' (ys ++ zs).length ((ys ++ zs).flatMap g) → w.grownBy w' (ax.map (·.block)) → (a'.map (·.block) = ax.map (·.block) ∨ ∃ B, a'.map (·.block) = some B ∧ w.heap.size ≤ B) → WpO P n ops K l (up f d (.slice a' (ys ++ zs).length cap')) w') : WpO P n ops K (⟨some d, .call ⟨.builtin .append, #[x, y], #[t, t]⟩, ty, pos, aft, none⟩ :: l) f w :=
  jop rfl (N9 (by rw [show (#[x, y]).map (ev f) = #[Value.slice ax ys.length cap, Value.slice ay zs.length c] from by simp [hx, hy]]; exact qv (R0 (Ml ht) _ _))) (W7) fun A1 hE => Go.Dw.wpo_appendN ht hz hg h0 h1c hx hy (hE.ownN ho) (hE.sl hs) hc hm hb (Nat.le_trans hlo hE.size) hd (fun a' cap' w' hO hG hB => Go.Dw.wpo_nil (h a' cap' (norm w w') hO (hE.grow hG) (hB.imp id fun e => ⟨_, e, hE.size⟩)))
theorem wpo_store1O {α : Type} {g : α → List Value} {t b o sz cap k j : Nat} {T : TypeId} {x y : Operand} {v : Value} {ys : List α} {z z' : α} (ht : oneTy P t = true) (hx : ev f x = .pointer (some ⟨b, o, none⟩)) (hy : ev f y = v) (h1 : v.oneCell' = true) (hg : Wide g sz) (ho : Own w b T sz cap ys.length (ys.flatMap g)) (hk : ys[k]? = some z) (hj : j < sz) (e : o = k * sz + j) (hv : (g z).set j v = g z') (h : ∀ w', Own w' b T sz cap (ys.set k z').length ((ys.set k z').flatMap g) → w.grownBy w' (some b) → WpO P n ops K l f w') : WpO P n ops K (⟨none, .store t x y, ty, pos, aft, none⟩ :: l) f w :=
  jop rfl (qu (Kw _ _ _)) (W8 _) fun A1 hE => Go.Dw.wpo_store1O ht hx hy h1 hg (hE.own ho) hk hj e hv (fun w' hO hG => Go.Dw.wpo_nil (h (norm w w') hO (hE.grow hG)))
theorem wpo_storenO {α : Type} {g : α → List Value} {t b o sz cap k : Nat} {T : TypeId} {x y : Operand} {ys : List α} {z' : α} (ht : rowTy P t = some sz) (hx : ev f x = .pointer (some ⟨b, o, none⟩)) (hy : ev f y = .agg (g z').toArray) (h1 : ∀ v ∈ g z', v.oneCell' = true) (hg : Wide g sz) (ho : Own w b T sz cap ys.length (ys.flatMap g)) (hk : k < ys.length) (e : o = k * sz) (h : ∀ w', Own w' b T sz cap (ys.set k z').length ((ys.set k z').flatMap g) → w.grownBy w' (some b) → WpO P n ops K l f w') : WpO P n ops K (⟨none, .store t x y, ty, pos, aft, none⟩ :: l) f w :=
  jop rfl (qu (Kw _ _ _)) (W8 _) fun A1 hE => Go.Dw.wpo_storenO ht hx hy h1 hg (hE.own ho) hk e (fun w' hO hG => Go.Dw.wpo_nil (h (norm w w') hO (hE.grow hG)))
theorem wpo_storeD {t b o cap k : Nat} {T : TypeId} {x y : Operand} {ys : List Rt} {z' : Rt} (ht : rowTy P t = some 5) (hx : ev f x = .pointer (some ⟨b, o, none⟩)) (hy : ev f y = .agg z'.cells.toArray) (ho : Own w b T 5 cap ys.length (ys.flatMap Rt.cells)) (hk : k < ys.length) (e : o = k * 5) (h : ∀ w', PutR T b k z' w w' → w.grownBy w' (some b) → WpO P n ops K l f w') : WpO P n ops K (⟨none, .store t x y, ty, pos, aft, none⟩ :: l) f w :=
  jop rfl (qu (Kw _ _ _)) (W8 _) fun A1 hE => Go.Dw.wpo_storeD ht hx hy (hE.own ho) hk e (fun w' hO hG => Go.Dw.wpo_nil (h (norm w w') (fun cap' n' ys' ho' => hO cap' n' ys' (hE.own ho')) (hE.grow hG)))
theorem wpo_s2a {t e m sz len cap b q : Nat} {a : Option Addr} {x : Operand} (ht : arrTy P t = some (m, e, sz)) (hx : ev f x = .slice a len cap) (ha : a = some ⟨b, q, none⟩) (hm : m ≤ len) (hd : Nat.blt d n = true) (h : WpO P n ops K l (up f d (.pointer (some ⟨b, q, none⟩))) w) : WpO P n ops K (⟨some d, .sliceToArrayPointer t x, ty, pos, aft, none⟩ :: l) f w :=
  jop rfl (qv (Iq _ _)) (Yk _) fun A1 hE => Go.Dw.wpo_s2a ht hx ha hm hd (Go.Dw.wpo_nil (keep hE h))
theorem wpo_sliceArr {t e m sz b o : Nat} {x : Operand} (ht : arrTy P t = some (m, e, sz)) (hx : ev f x = .pointer (some ⟨b, o, none⟩)) (hm : 0 < m) (hd : Nat.blt d n = true) (h : WpO P n ops K l (up f d (.slice (some ⟨b, o, none⟩) m m)) w) : WpO P n ops K (⟨some d, .slice t x none none none, ty, pos, aft, none⟩ :: l) f w :=
  jop rfl (qv (Nd _ _ _ _ _)) (Yk _) fun A1 hE => Go.Dw.wpo_sliceArr ht hx hm hd (Go.Dw.wpo_nil (keep hE h))
theorem wpo_indexArr {α : Type} {g : α → List Value} {ys : List α} {z : α} {t e m sz : Nat} {k : IntKind} {i : Int} {x y : Operand} (ht : arrTy P t = some (m, e, sz)) (hr : rowTy P e = some sz) (hg : Wide g sz) (hx : ev f x = .agg (ys.flatMap g).toArray) (hy : ev f y = .int k i) (h0 : 0 ≤ i) (h1 : i < m) (hk : ys[i.toNat]? = some z) (hd : Nat.blt d n = true) (h : WpO P n ops K l (up f d (.agg (g z).toArray)) w) : WpO P n ops K (⟨some d, .index t x y, ty, pos, aft, none⟩ :: l) f w :=
  jop rfl (qv (Xbi _ _ _)) (Yk _) fun A1 hE => Go.Dw.wpo_indexArr ht hr hg hx hy h0 h1 hk hd (Go.Dw.wpo_nil (keep hE h))
theorem wpo_cat {xt yt : TypeId} {x y : Operand} {a b : List UInt8} (hx : ev f x = .string ⟨a.toArray⟩) (hy : ev f y = .string ⟨b.toArray⟩) (ha : a.length ≤ 1000000) (hb : b.length ≤ 1000000) (hd : Nat.blt d n = true) (h : WpO P n ops K l (up f d (.string ⟨(a ++ b).toArray⟩)) w) : WpO P n ops K (⟨some d, .binOp .add xt x y yt, ty, pos, aft, none⟩ :: l) f w :=
  jop rfl (Jz (Ys hx rfl) (Ys hy rfl)) (Yk _) fun A1 hE => Go.Dw.wpo_cat hx hy ha hb hd (Go.Dw.wpo_nil (keep hE h))
theorem wpo_seql {xt yt : TypeId} {x y : Operand} {a b : List UInt8} {q : Bool} (hx : ev f x = .string ⟨a.toArray⟩) (hy : ev f y = .string ⟨b.toArray⟩) (hq : decide (a = b) = q) (hd : Nat.blt d n = true) (h : WpO P n ops K l (up f d (.bool q)) w) : WpO P n ops K (⟨some d, .binOp .eql xt x y yt, ty, pos, aft, none⟩ :: l) f w :=
  jop rfl (Jz (Ys hx rfl) (Ys hy rfl)) (Yk _) fun A1 hE => Go.Dw.wpo_seql hx hy hq hd (Go.Dw.wpo_nil (keep hE h))
theorem wpo_neg {t : TypeId} {x : Operand} {a c : Int} (hx : ev f x = .int .i64 a) (hc : -a = c) (h0 : -9223372036854775808 ≤ c) (h1 : c ≤ 9223372036854775807) (hd : Nat.blt d n = true) (h : WpO P n ops K l (up f d (.int .i64 c)) w) : WpO P n ops K (⟨some d, .unOp .neg t x, ty, pos, aft, none⟩ :: l) f w :=
  jop rfl (qv (Mp _ _)) (Yk _) fun A1 hE => Go.Dw.wpo_neg hx hc h0 h1 hd (Go.Dw.wpo_nil (keep hE h))
theorem Xd {d : Option Nat} {op : Op} {ty : TypeId} {pos : String} {aft : Array Edge} {j dj : Nat} {b b' : Bool} {oj : Oper} (hj : ops[j]? = some oj) (hdj : oj.dst = some dj) (hb : f dj = .bool b') (hbb : b' = b)
    (h : WpO P n ops K (⟨d, op, ty, pos, aft, none⟩ :: l) f w) : WpO P n ops K (⟨d, op, ty, pos, aft, some (j, b)⟩ :: l) f w :=
  fun a ha => by
    rcases h a ha with ⟨_, h2 | ⟨R, h2, h3⟩⟩ | ⟨h1, _⟩
    · exact Or.inl ⟨by simp [Region.wanted, Vf ha hj hdj hb, hbb], Or.inl h2⟩
    · exact Or.inl ⟨by simp [Region.wanted, Vf ha hj hdj hb, hbb], Or.inr ⟨R, h2, h3⟩⟩
    · simp [Region.wanted] at h1
theorem Xcq {d : Nat} {op : Op} {ty : TypeId} {pos : String} {aft : Array Edge} {j : Nat} {b : Bool} (hw : ∀ a : Act, FEq n a f → Region.wanted ⟨some d, op, ty, pos, aft, some (j, b)⟩ (yielded ops a.tmps) = false)
    (hd : Nat.blt d n = true) (h : WpO P n ops K l (up f d undef) w) : WpO P n ops K (⟨some d, op, ty, pos, aft, some (j, b)⟩ :: l) f w :=
  fun a ha => Or.inr ⟨hw a ha, _, ha.put hd undef, h⟩
theorem Xe {d : Nat} {op : Op} {ty : TypeId} {pos : String} {aft : Array Edge} {j dj : Nat} {b b' : Bool} {oj : Oper} (hj : ops[j]? = some oj) (hdj : oj.dst = some dj) (hb : f dj = .bool b') (hbb : b' = !b)
    (hd : Nat.blt d n = true) (h : WpO P n ops K l (up f d undef) w) : WpO P n ops K (⟨some d, op, ty, pos, aft, some (j, b)⟩ :: l) f w :=
  Xcq (fun a ha => by simp [Region.wanted, Vf ha hj hdj hb, hbb]) hd h
theorem X2 {d : Nat} {op : Op} {ty : TypeId} {pos : String} {aft : Array Edge} {j dj : Nat} {b : Bool} {oj : Oper} (hj : ops[j]? = some oj) (hdj : oj.dst = some dj) (hb : f dj = undef)
    (hd : Nat.blt d n = true) (h : WpO P n ops K l (up f d undef) w) : WpO P n ops K (⟨some d, op, ty, pos, aft, some (j, b)⟩ :: l) f w :=
  Xcq (fun a ha => by simp [Region.wanted, Wa ha hj hdj hb]) hd h
end
end Go.Dw.J
end
section
namespace Go.Dw.J
open Go.Dw Go.RowKit
open Go.Conc (G)
set_option linter.unusedVariables false
set_option linter.unusedSimpArgs false
set_option linter.unusedSectionVars false
theorem Zr {P : Program} {k : FuncId} (h : goFn P k = true) (args : Array Value) : Quiet P (callFunc k args) := by
  unfold goFn at h
  split at h
  · rename_i fn hf
    simp only [Bool.and_eq_true, Bool.not_eq_true'] at h
    obtain ⟨hb, hn⟩ := h
    have hb' : fn.body.isNone = false := by cases hh : fn.body <;> simp_all
    unfold callFunc
    refine qby Yy (R := (· = P)) rfl fun p hp => ?_
    subst hp
    simp only [hf, hn, hb', Bool.false_eq_true, if_false]
    exact qp _
  · cases h
section
variable [Comp] {P : Program} {n : Nat} {ops : Array Oper} {K : Fr → World → Prop} {l : List Oper} {f : Fr} {w : World} {o : Oper} {ty : TypeId} {pos : String} {aft : Array Edge} {d : Nat}
theorem Gz {k : FuncId} {args : Array Value} {R : Value → World → Prop} (hg : o.guard = none) (hd : okd n o.dst = true) (hq : Quiet P (execOp (ev f) o)) (hr : ∀ w, (execOp (ev f) o).run P w = .ok (.enter k args) w)
    (hc : CallsR P k args w R) (h : ∀ v w', R v w' → WpO P n ops K l (upo f o.dst v) w') : WpO P n ops K (o :: l) f w := fun a ha =>
  Or.inl ⟨by simp [Region.wanted, hg], Or.inr ⟨R, U7 (by rw [ha.eval]; exact hq) (fun A1 _ => ⟨_, by rw [ha.eval]; exact hr A1, Or.inl ⟨k, args, rfl, rfl⟩⟩) hc, fun v A' hR => ⟨_, ha.puto hd v, h v A' hR⟩⟩⟩
theorem Xi {k : FuncId} {args : Array Operand} {tys : Array TypeId} {vs : List Value} {R : Value → World → Prop} (hk : goFn P k = true) (ha : args.toList.map (ev f) = vs) (hd : Nat.blt d n = true) (hc : CallsR P k vs.toArray w R)
    (h : ∀ v w', R v w' → WpO P n ops K l (up f d v) w') : WpO P n ops K (⟨some d, .call ⟨.value (.func k), args, tys⟩, ty, pos, aft, none⟩ :: l) f w :=
  Gz (R := R) (k := k) (args := vs.toArray) rfl hd (Zr hk _) (fun w => by
    have : args.map (ev f) = vs.toArray := by rw [← ha]; apply Array.ext'; simp
    simp [execOp, resolve, ev, Deferred.ofValue, invoke, this, We hk]) hc h
end
def resV (P : Program) (fn : Func) (f : Fr) (w : World) (v : Value) : Prop := ∀ A1, Ext w A1 → Go.Dw.resV P fn f A1 v
def endQ (P : Program) (fn : Func) (R : Value → World → Prop) : Exit → Fr → World → Prop
  | .normal, f, w | .ret, f, w => ∃ v, resV P fn f w v ∧ R v w
  | _, _, _ => False
theorem res0 {P : Program} {fn : Func} {f : Fr} {w : World} (h : fn.results = #[]) : resV P fn f w (.tuple #[]) := fun _ _ => Go.Dw.res0 h
theorem res1 {P : Program} {fn : Func} {f : Fr} {w : World} {t : Nat} {v : Value} (h : fn.results = #[.tmp t]) (hv : f t = v) : resV P fn f w v := fun _ _ => Go.Dw.res1 h hv
theorem res2 {P : Program} {fn : Func} {f : Fr} {w : World} {t u : Nat} {v x : Value} (h : fn.results = #[.tmp t, .tmp u]) (hv : f t = v) (hx : f u = x) : resV P fn f w (.tuple #[v, x]) := fun _ _ => Go.Dw.res2 h hv hx
def resCell (P : Program) (f : Fr) (w : World) (t : Nat) (T : TypeId) (v : Value) : Prop := ∀ A1, Ext w A1 → Go.Dw.resCell P f A1 t T v
section
variable {P : Program} {fn : Func} {f : Fr} {w : World}
theorem resCell_mk {t T k b o : Nat} {vs : List Value} (ht : rowTy P T = some k) (hf : f t = .pointer (some ⟨b, o, none⟩)) (hl : vs.length = k) (hr : w.rangeAt b o vs) : resCell P f w t T (.agg vs.toArray) := fun A1 hE => Go.Dw.resCell_mk ht hf hl (hE.range hr)
theorem resCell_mk1 {t T b o : Nat} {v : Value} (ht : oneTy P T = true) (hf : f t = .pointer (some ⟨b, o, none⟩)) (hc : w.cell? ⟨b, o, none⟩ = some v) : resCell P f w t T v := fun A1 hE => Go.Dw.resCell_mk1 ht hf (hE.cell hc)
theorem resC {t T : Nat} {v : Value} (h : fn.results = #[.cell t T]) (hc : resCell P f w t T v) : resV P fn f w v := fun A1 hE => Go.Dw.resC h (hc A1 hE)
theorem resCT {s t T : Nat} {u v : Value} (h : fn.results = #[.cell t T, .tmp s]) (hc : resCell P f w t T v) (hs : f s = u) : resV P fn f w (.tuple #[v, u]) := fun A1 hE => Go.Dw.resCT h (hc A1 hE) hs
theorem resTTC {s t T r : Nat} {u v x : Value} (h : fn.results = #[.tmp s, .tmp r, .cell t T]) (hs : f s = u) (hr : f r = x) (hc : resCell P f w t T v) : resV P fn f w (.tuple #[u, x, v]) := fun A1 hE => Go.Dw.resTTC h hs hr (hc A1 hE)
theorem Nc (fn : Func) (tmps : Array Value) : Quiet P (results fn tmps) := by
  unfold results
  refine qb (Zu (fun r => ?_) _) fun _ => qp _
  split
  · exact qp _
  · exact qb (Qy _) fun _ => Qb _ _
end
section
variable [Comp] {P : Program} {J : Goroutine → World → Prop} {A : World}
theorem Closed.leave (hJ : Closed P J) {b c : Frame} {cs : List Frame} {a : Act} {fn : Func} {v : Value} (hn : b.kind = .normal) (hbd : b.defers = []) (hd : a.defers = []) (hf : P.funcs[b.fn]? = some fn) (hr : ∀ A1, Ext A A1 → (results fn a.tmps).run P A1 = .ok v A1)
    (h : J (G (c.finish v) cs) A) (todo : List Item) : J (G { ato b a todo with mode := .returning } (c :: cs)) A := by
  refine hJ.sem (s := results fn a.tmps) (next := fun v => G (c.finish v) cs) rfl (Nc fn a.tmps) (fun w x w' es hh => ⟨seen P b.fn es, ?_, fun e he => Go.Conc.mem_seen he⟩) fun A1 hE => ⟨v, A1, hr A1 hE, hJ.ext _ _ _ hE.norm rfl h⟩
  have e1 := Sem.runT_fst P (results fn a.tmps) w #[]
  rw [hh] at e1
  have e2 : (results fn a.tmps).events P w #[] = es := by unfold Sem.events; rw [hh]
  simp [G, stepG, unwind, doReturn, ato, hn, hd, hbd, hf, ← e1, e2, GStep.after]
theorem Xq {k : FuncId} {fn : Func} {c : Code} {args : Array Value} {R : Value → World → Prop} {n : Nat}
    (hf : P.funcs[k]? = some fn) (hb : fn.body = some c) (hn : fn.ntmps = n) (hs : Nat.ble args.size n = true)
    (h : Wpf P n (endQ P fn R) c (f0 args) A) : CallsR P k args A R := fun J hJ cf cs hk => by
  have hs' : args.size ≤ n := by simpa [Nat.ble_eq] using hs
  rw [Go.Conc.enter_at args hf hb, ← Hz (b := Go.Conc.base k) rfl rfl]
  have leave : ∀ (a' : Act) (f' : Fr) (A' : World) (todo : List Item), FEq n a' f' → (∃ v, resV P fn f' A' v ∧ R v A') → J (G { ato (Go.Conc.base k) a' todo with mode := .returning } (cf :: cs)) A' := fun a' f' A' todo hf' ⟨v, hv, hR⟩ =>
    hJ.leave (b := Go.Conc.base k) rfl rfl hf'.defers hf (fun A1 hE => hv A1 hE _ hf'.at_) (hk v A' hR) todo
  refine h J hJ (Go.Conc.base k) (by simp [Go.Conc.base]) [] (cf :: cs) _ ⟨rfl, by simp [hn]; omega, fun i => ?_⟩ fun e a' f' A' hf' hQ => ?_
  · simp only [f0, Ux, Array.getD_eq_getD_getElem?, Array.getElem?_toList]
    by_cases hi : i < args.size
    · rw [Array.getElem?_append_left hi]
    · rw [Array.getElem?_append_right (by omega), Array.getElem?_eq_none (by omega : args.size ≤ i)]
      by_cases h2 : i - args.size < fn.ntmps - args.size
      · simp [h2]
      · rw [Array.getElem?_eq_none (by simp; omega)]
  · cases e with
    | normal => exact hJ.move rfl (fun w => Gx rfl) (leave a' f' A' _ hf' hQ)
    | ret =>
      intro k2
      refine hJ.move rfl (g' := G { ato (Go.Conc.base k) a' (.code .ret :: k2) with mode := .returning } (cf :: cs)) (fun w => Vs rfl) (leave a' f' A' _ hf' hQ)
    | exit i => exact hQ.elim
    | goto l => exact hQ.elim
    | panic c => exact hQ.elim
    | outgrown => exact hQ.elim
end
section
variable [Comp]
def OpG (P : Program) (ops : Array Oper) (o : Oper) (K : Act → World → Prop) (a : Act) (A : World) : Prop :=
  (Region.wanted o (yielded ops a.tmps) = true ∧
    ((Quiet P (execOp a.eval o) ∧ ∀ A1, Ext A A1 → ∃ x v A1', (execOp a.eval o).run P A1 = .ok x A1' ∧ (x = .value v ∨ (x = .skip ∧ v = undef)) ∧ K (a.put o.dst v) (norm A A1')) ∨
     (∃ R, Special P ops o (execOp a.eval o) A R ∧ ∀ v A', R v A' → K (a.put o.dst v) A'))) ∨
  (Region.wanted o (yielded ops a.tmps) = false ∧ K (a.put o.dst undef) A)
def LstG (P : Program) (ops : Array Oper) (K : Act → World → Prop) : List Oper → Act → World → Prop
  | [], a, A => K a A
  | o :: l, a, A => OpG P ops o (LstG P ops K l) a A
def AnyJ (P : Program) (md : Region.Mode) (ops : Array Oper) (K : Act → World → Prop) : Nat → Array Bool → Act → World → Prop
  | 0, listed, a, A => Region.ready md ops listed = [] ∧ K a A
  | fuel + 1, listed, a, A => (Region.ready md ops listed = [] → K a A) ∧ ∀ i ∈ Region.ready md ops listed, ∃ o, ops[i]? = some o ∧ OpG P ops o (AnyJ P md ops K fuel (listed.setIfInBounds i true)) a A
variable {P : Program}
theorem Tk {n : Nat} {ops : Array Oper} {o : Oper} {next : Fr → World → Prop} {f : Fr} {A : World} {a : Act} (h : OpJ P n ops o next f A) (ha : FEq n a f) : OpG P ops o (fun a' A' => ∃ f', FEq n a' f' ∧ next f' A') a A := h a ha
theorem OpG.mono {ops : Array Oper} {o : Oper} {K K' : Act → World → Prop} {a : Act} {A : World} (h : OpG P ops o K a A) (hk : ∀ a A, K a A → K' a A) : OpG P ops o K' a A := by
  rcases h with ⟨h1, ⟨h2, h3⟩ | ⟨R, h4, h5⟩⟩ | ⟨h1, h3⟩
  · refine Or.inl ⟨h1, Or.inl ⟨h2, fun A1 hE => ?_⟩⟩
    obtain ⟨x, v, A1', h4, h5, h6⟩ := h3 A1 hE
    exact ⟨x, v, A1', h4, h5, hk _ _ h6⟩
  · exact Or.inl ⟨h1, Or.inr ⟨R, h4, fun v A' hR => hk _ _ (h5 v A' hR)⟩⟩
  · exact Or.inr ⟨h1, hk _ _ h3⟩
theorem OpG.ext {ops : Array Oper} {o : Oper} {K : Act → World → Prop} {a : Act} {A A1 : World} (h : OpG P ops o K a A) (he : Ext A A1) (ht : A1.tape = A.tape) (hn : ∀ a B B1, K a B → Ext B B1 → B1.tape = B.tape → K a B1) : OpG P ops o K a A1 := by
  rcases h with ⟨h1, ⟨h2, h3⟩ | ⟨R, h4, h5⟩⟩ | ⟨h1, h3⟩
  · refine Or.inl ⟨h1, Or.inl ⟨h2, fun A2 hE => ?_⟩⟩
    obtain ⟨x, v, A1', h4, h5, h6⟩ := h3 A2 (he.trans hE)
    exact ⟨x, v, A1', h4, h5, hn _ _ _ h6 ⟨0, by simp [Go.Dw.J.norm], rfl, rfl⟩ ht⟩
  · exact Or.inl ⟨h1, Or.inr ⟨R, h4.ext he ht, h5⟩⟩
  · exact Or.inr ⟨h1, hn _ _ _ h3 he ht⟩
theorem AnyJ.ext {md : Region.Mode} {ops : Array Oper} {K : Act → World → Prop} (hK : ∀ a A A1, K a A → Ext A A1 → A1.tape = A.tape → K a A1) : ∀ {fuel : Nat} {listed : Array Bool} {a : Act} {A A1 : World}, AnyJ P md ops K fuel listed a A → Ext A A1 → A1.tape = A.tape → AnyJ P md ops K fuel listed a A1
  | 0, _, _, _, _, h, he, ht => ⟨h.1, hK _ _ _ h.2 he ht⟩
  | fuel + 1, _, _, _, _, h, he, ht => ⟨fun e => hK _ _ _ (h.1 e) he ht, fun i hi => by
    obtain ⟨o, ho, hop⟩ := h.2 i hi
    exact ⟨o, ho, hop.ext he ht fun a B B1 hB hE hT => AnyJ.ext hK hB hE hT⟩⟩
theorem OpG.run {ops : Array Oper} {o : Oper} {K : Act → World → Prop} {a : Act} {A : World} (h : OpG P ops o K a A) {J : Goroutine → World → Prop} (hJ : Closed P J) {b : Frame} (hb : b.kind ≠ .early) {i : Nat} {rest : List Nat} {k : List Item} {cs : List Frame} (ho : ops[i]? = some o)
    (hk : ∀ a' A', K a' A' → J (G (ato b a' (.inRegion ops rest :: k)) cs) A') : J (G (ato b a (.inRegion ops (i :: rest) :: k)) cs) A := by
  rcases h with ⟨h1, ⟨h2, h3⟩ | ⟨R, h4, h5⟩⟩ | ⟨h1, h3⟩
  · refine hJ.value hb ho h1 h2 fun A1 hE => ?_
    obtain ⟨x, v, A1', h4, h5, h6⟩ := h3 A1 hE
    exact ⟨x, v, A1', h4, h5, hk _ _ h6⟩
  · exact h4 J hJ b hb i rest k cs a o ho rfl h1 rfl fun v A' hR => hk _ _ (h5 v A' hR)
  · exact hJ.move rfl (fun w => Uo ho h1) (hk _ _ h3)
theorem Wy {n : Nat} {ops : Array Oper} {Kf : Fr → World → Prop} {K : Act → World → Prop} (hext : ∀ a A A1, K a A → Ext A A1 → A1.tape = A.tape → K a A1) (hK : ∀ a' f' A', FEq n a' f' → Kf f' A' → K a' A') :
    ∀ (l : List Oper) (f : Fr) (A : World) (a : Act), FEq n a f → WpO P n ops Kf l f A → LstG P ops K l a A
  | [], f, A, a, ha, ⟨A0, h1, h2, h3⟩ => hext _ _ _ (hK a f A0 ha h3) h1 h2
  | o :: l, f, A, a, ha, h => (Tk (o := o) h ha).mono fun a' A' ⟨f', hf, hx⟩ => Wy hext hK l f' A' a' hf hx
theorem Ot {md : Region.Mode} {ops : Array Oper} {K : Act → World → Prop} {J : Goroutine → World → Prop} (hJ : Closed P J) {b : Frame} (hb : b.kind ≠ .early) {k : List Item} {cs : List Frame} (hk : ∀ a A, K a A → J (G (ato b a k) cs) A) :
    ∀ (fuel t : Nat) (listed : Array Bool) (a : Act) (A : World), AnyJ P md ops K fuel listed a A → J (G (ato b a (.inRegion ops (Region.linearise.go md ops fuel t listed []) :: k)) cs) A := by
  intro fuel
  induction fuel with
  | zero => intro t listed a A h; simpa [Region.linearise.go] using hJ.move rfl (fun w => stepG_region_end) (hk _ _ h.2)
  | succ fuel ih =>
    intro t listed a A h
    obtain ⟨h₀, h₁⟩ := h
    simp only [Region.linearise.go]
    change J (G (ato b a (.inRegion ops (match (Region.ready md ops listed)[t % (Region.ready md ops listed).length]? with
      | some i => Region.linearise.go md ops fuel (t / (Region.ready md ops listed).length) (listed.setIfInBounds i true) [i]
      | none => [].reverse) :: k)) cs) A
    cases hi : (Region.ready md ops listed)[t % (Region.ready md ops listed).length]? with
    | none =>
      have hnil : Region.ready md ops listed = [] := by
        cases hr : Region.ready md ops listed with
        | nil => rfl
        | cons x xs =>
          rw [hr] at hi
          have hlt : t % (x :: xs).length < (x :: xs).length := Nat.mod_lt _ (by simp)
          simp at hi
          simp at hlt
          omega
      simpa using hJ.move rfl (fun w => stepG_region_end) (hk _ _ (h₀ hnil))
    | some i =>
      simp only []
      rw [linearise_go_acc, List.reverse_singleton, List.singleton_append]
      obtain ⟨o, ho, hop⟩ := h₁ i (List.mem_of_getElem? hi)
      exact hop.run hJ hb ho fun a' A' hx => ih _ _ a' A' hx
variable {n : Nat} {ops : List Oper} {F f : Fr} {Inv : World → Prop}
def YlL (P : Program) (n : Nat) (ops : Array Oper) (Inv : World → Prop) (F : Fr) : List Oper → List (Nat × Value) → Prop
  | [], [] => True
  | o :: l, (d, v) :: r => o.dst = some d ∧ (∀ w, Inv w → WpO P n ops (fun f' w' => f' = up F d v ∧ Inv w') [o] F w) ∧ YlL P n ops Inv F l r
  | _, _ => False
theorem Y2 {ops : Array Oper} : YlL P n ops Inv F [] [] := trivial
theorem Xc {ops : Array Oper} {o : Oper} {l : List Oper} {d : Nat} {v : Value} {r : List (Nat × Value)} (hd : o.dst = some d)
    (h : ∀ w, Inv w → WpO P n ops (fun f' w' => f' = up F d v ∧ Inv w') [o] F w) (t : YlL P n ops Inv F l r) : YlL P n ops Inv F (o :: l) ((d, v) :: r) := ⟨hd, h, t⟩
theorem yl {ops : Array Oper} {o : Oper} {l : List Oper} {d : Nat} {v : Value} {r : List (Nat × Value)} (hd : o.dst = some d)
    (h : ∀ w, Inv w → WpO P n ops (fun f' w' => f' = up F d v ∧ Inv w') [] (up F d v) w → WpO P n ops (fun f' w' => f' = up F d v ∧ Inv w') [o] F w) (t : YlL P n ops Inv F l r) : YlL P n ops Inv F (o :: l) ((d, v) :: r) :=
  Xc hd (fun w hi => h w hi (wpo_nil ⟨rfl, hi⟩)) t
theorem loc {i d : Nat} {o : Oper} {v : Value} {w : World} {a aF : Act} {K : Act → World → Prop} (hKe : ∀ a A A1, K a A → Ext A A1 → A1.tape = A.tape → K a A1) (ho : ops[i]? = some o) (hs : notSel o = true) (hd : o.dst = some d) (hdn : d < n) (hF : FEq n aF F)
    (h : WpO P n ops.toArray (fun f' w' => f' = up F d v ∧ Inv w') [o] F w) (hl : ∀ t ∈ looks ops o, a.tmps.getD t undef = F t)
    (hK : ∀ w', Inv w' → K (a.put (some d) v) w') : OpG P ops.toArray o K a w := by
  have h1 := Tk (o := o) h hF
  have hval : ∀ u w', (∃ f', FEq n (aF.put o.dst u) f' ∧ WpO P n ops.toArray (fun f' w' => f' = up F d v ∧ Inv w') [] f' w') → u = v ∧ K (a.put (some d) v) w' := by
    rintro u w' ⟨f', hf, A0, hE, hT, rfl, hi⟩
    rw [hd] at hf
    refine ⟨?_, hKe _ _ _ (hK _ hi) hE hT⟩
    have e1 := hf.at_ d
    rw [Lu, if_pos rfl] at e1
    rw [← e1]
    simp [Act.put, Array.getD, hF.size, hdn]
  have he : execOp a.eval o = execOp aF.eval o := Go.Dw.execOp_congr hs fun x hx => by
    cases x with
    | tmp t =>
      show a.tmps.getD t undef = aF.tmps.getD t undef
      rw [hl t (by simp only [looks]; refine List.mem_append_left _ (List.mem_filterMap.2 ⟨_, by simpa using hx, rfl⟩)), hF.at_ t]
    | _ => rfl
  have hw : Region.wanted o (yielded ops.toArray a.tmps) = Region.wanted o (yielded ops.toArray aF.tmps) := by
    unfold Region.wanted
    cases hg : o.guard with
    | none => rfl
    | some g =>
      obtain ⟨j, b⟩ := g
      simp only
      rw [Gm _ a.tmps aF.tmps j]
      intro oj dj hoj hdj
      rw [hF.at_ dj]
      refine hl dj ?_
      simp only [looks, hg]
      refine List.mem_append_right _ ?_
      have hoj' : ops[j]? = some oj := by simpa using hoj
      simp [hoj', hdj]
  have hput : a.put o.dst v = a.put (some d) v := by rw [hd]
  unfold OpG
  rw [hw, he]
  rcases h1 with ⟨h1, ⟨h2, h3⟩ | ⟨R, h4, h5⟩⟩ | ⟨h1, h3⟩
  · refine Or.inl ⟨h1, Or.inl ⟨h2, fun A1 hE => ?_⟩⟩
    obtain ⟨x, u, A1', h4, h5, h6⟩ := h3 A1 hE
    obtain ⟨rfl, hi⟩ := hval _ _ h6
    exact ⟨x, u, A1', h4, h5, hput ▸ hi⟩
  · refine Or.inl ⟨h1, Or.inr ⟨R, h4, fun u A' hR => ?_⟩⟩
    obtain ⟨rfl, hi⟩ := hval _ _ (h5 u A' hR)
    exact hput ▸ hi
  · obtain ⟨e, hi⟩ := hval _ _ h3
    rw [e]
    exact Or.inr ⟨h1, hput ▸ hi⟩
theorem Js {md : Region.Mode} {m : Nat} {bs : List (List Nat)} {K : Act → World → Prop} (hmd : md = .any) (hck : ∀ i o, ops[i]? = some o → tailOne m bs i o = true) (hbs : ∀ (listed : Array Bool) (i : Nat) (o : Oper), ops[i]? = some o →
      (∀ e ∈ o.after, Region.binds .any e = true → listed.getD e.on false = true) → (∀ j, listed.getD j false = true → ∀ q ∈ bs.getD j [], listed.getD q false = true) → ∀ q ∈ bs.getD i [], listed.getD q false = true) :
    ∀ (fuel k : Nat) (listed : Array Bool) (a : Act) (w : World), m ≤ k → k ≤ ops.length → listed.size = ops.length → (∀ j, j < k → listed.getD j false = true) → (∀ j, k ≤ j → j < ops.length → listed.getD j false = false) →
      (∀ j, listed.getD j false = true → ∀ q ∈ bs.getD j [], listed.getD q false = true) → ops.length - k ≤ fuel → LstG P ops.toArray K (ops.drop k) a w → AnyJ P md ops.toArray K fuel listed a w := by
  subst hmd
  intro fuel
  induction fuel with
  | zero =>
    intro k listed a w hmk hk hsz h1 h2 hcl hf h
    have hke : k = ops.length := by omega
    subst hke
    refine ⟨?_, by simpa [LstG] using h⟩
    unfold Region.ready
    rw [List.filter_eq_nil_iff]
    intro i hi
    have hi' : i < ops.length := by simpa using hi
    have hl := h1 i hi'
    have : listed.getD i true = true := by
      rw [Array.getD_eq_getD_getElem?] at hl ⊢
      cases hx : listed[i]? with
      | none => rfl
      | some b => rw [hx] at hl; simpa using hl
    simp [this]
  | succ fuel ih =>
    intro k listed a w hmk hk hsz h1 h2 hcl hf h
    have hready : ∀ i, i ∈ Region.ready .any ops.toArray listed → i = k ∧ k < ops.length := by
      intro i hi
      obtain ⟨hun, o, ho, hall⟩ := mem_ready.1 hi
      have ho' : ops[i]? = some o := by simpa using ho
      have hil : i < ops.length := (List.getElem?_eq_some_iff.1 ho').1
      have hun' : listed.getD i false = false := by
        rw [Array.getD_eq_getD_getElem?] at hun ⊢
        cases hx : listed[i]? with
        | none => rfl
        | some b => rw [hx] at hun; simpa using hun
      have hik : k ≤ i := by
        rcases Nat.lt_or_ge i k with h' | h'
        · rw [h1 i h'] at hun'; cases hun'
        · exact h'
      have hpre := hbs listed i o ho' (fun e he hb => hall e he hb) hcl
      have hone := hck i o ho'
      unfold tailOne at hone
      simp only [Bool.and_eq_true] at hone
      have h3 := hone.2
      rw [show decide (i < m) = false by simp; omega, Bool.false_or] at h3
      refine ⟨?_, by omega⟩
      rcases Nat.lt_or_ge k i with h' | h'
      · have := List.all_eq_true.1 h3 k (by simpa using h')
        have hmem : k ∈ bs.getD i [] := by simpa using this
        have := hpre k hmem
        rw [h2 k (Nat.le_refl _) (by omega)] at this
        cases this
      · omega
    rcases Nat.lt_or_ge k ops.length with hkl | hkl
    · obtain ⟨o, ho⟩ : ∃ o, ops[k]? = some o := ⟨_, List.getElem?_eq_getElem hkl⟩
      have hdrop : ops.drop k = o :: ops.drop (k + 1) := by
        rw [List.drop_eq_getElem_cons hkl]
        congr 1
        rw [List.getElem?_eq_getElem hkl] at ho
        exact Option.some.inj ho
      rw [hdrop] at h
      refine ⟨fun hnil => ?_, fun i hi => ?_⟩
      · exfalso
        have hkr : k ∈ Region.ready .any ops.toArray listed := by
          refine mem_ready.2 ⟨?_, o, by simpa using ho, fun e he hb => ?_⟩
          · have := h2 k (Nat.le_refl _) hkl
            rw [Array.getD_eq_getD_getElem?, Array.getElem?_eq_getElem (by omega)] at this ⊢
            simpa using this
          · have hone := hck k o ho
            unfold tailOne at hone
            simp only [Bool.and_eq_true] at hone
            have := List.all_eq_true.1 hone.1.1 e (by simpa using he)
            simp only [hb, Bool.not_true, Bool.false_or, decide_eq_true_eq] at this
            exact h1 _ this
        rw [hnil] at hkr
        cases hkr
      · obtain ⟨rfl, _⟩ := hready i hi
        have ho' : ops.toArray[i]? = some o := by simpa using ho
        have hnext : ∀ a w, LstG P ops.toArray K (ops.drop (i + 1)) a w → AnyJ P .any ops.toArray K fuel (listed.setIfInBounds i true) a w := fun a w hh =>
          ih (i + 1) _ a w (by omega) hkl (by simp [hsz]) (fun j hj => by
            rcases Nat.lt_or_ge j i with h' | h'
            · have := h1 j h'
              rw [Array.getD_eq_getD_getElem?] at this ⊢
              rw [Array.getElem?_setIfInBounds_ne (by omega)]; exact this
            · have : j = i := by omega
              subst this
              rw [Array.getD_eq_getD_getElem?, Array.getElem?_setIfInBounds_self_of_lt (by omega)]; rfl)
            (fun j hj hjl => by
              have := h2 j (by omega) hjl
              rw [Array.getD_eq_getD_getElem?] at this ⊢
              rw [Array.getElem?_setIfInBounds_ne (by omega)]; exact this)
            (fun j hj q hq => by
              have hq' : listed.getD q false = true := by
                rcases Nat.decEq j i with hne | he
                · refine hcl j ?_ q hq
                  rw [Array.getD_eq_getD_getElem?, Array.getElem?_setIfInBounds_ne (fun e => hne e.symm)] at hj
                  rw [Array.getD_eq_getD_getElem?]; exact hj
                · subst he
                  obtain ⟨_, o2, ho2, hall⟩ := mem_ready.1 hi
                  exact hbs listed j o2 (by simpa using ho2) (fun e he hb => hall e he hb) hcl q hq
              rw [Array.getD_eq_getD_getElem?] at hq' ⊢
              by_cases hqi : q = i
              · subst hqi
                rw [Array.getElem?_setIfInBounds_self_of_lt (by omega)]; rfl
              · rw [Array.getElem?_setIfInBounds_ne (fun e => hqi e.symm)]; exact hq')
            (by omega) hh
        exact ⟨o, ho', h.mono hnext⟩
    · have hke : k = ops.length := by omega
      subst hke
      refine ⟨fun _ => by simpa [LstG] using h, fun i hi => ?_⟩
      have := (hready i hi).2
      omega
theorem V7 {opsA : Array Oper} : ∀ (l : List Oper) (r : List (Nat × Value)), YlL P n opsA Inv F l r → l.length = r.length ∧ ∀ (i : Nat) (o : Oper), l[i]? = some o → ∃ (d : Nat) (v : Value), r[i]? = some (d, v) ∧ o.dst = some d ∧ ∀ w, Inv w → WpO P n opsA (fun f' w' => f' = up F d v ∧ Inv w') [o] F w
  | [], [], _ => ⟨rfl, fun i o h => by simp at h⟩
  | [], _ :: _, h => h.elim
  | _ :: _, [], h => h.elim
  | o :: l, (d, v) :: r, ⟨h1, h2, h3⟩ => by
    obtain ⟨hl, hg⟩ := V7 l r h3
    refine ⟨by simp [hl], fun i o' h => ?_⟩
    cases i with
    | zero =>
      simp at h
      subst h
      exact ⟨d, v, rfl, h1, h2⟩
    | succ i => simpa using hg i o' (by simpa using h)
theorem Wm {m : Nat} {bs : List (List Nat)} {vals : List (Nat × Value)} {Kf : Fr → World → Prop} {K : Act → World → Prop} {aF : Act} (hext : ∀ a A A1, K a A → Ext A A1 → A1.tape = A.tape → K a A1) (hck : drawOk n m ops bs = true) (hF : F = ups f vals) (haF : FEq n aF F)
    (hpre : YlL P n ops.toArray Inv F (ops.take m) vals) (htail : ∀ w, Inv w → WpO P n ops.toArray Kf (ops.drop m) F w) (hQ : ∀ a' f' w', FEq n a' f' → Kf f' w' → K a' w') :
    ∀ (fuel : Nat) (listed : Array Bool) (a : Act) (w : World), a.defers = [] → a.tmps.size = n → listed.size = ops.length → Inv w → (∀ j, m ≤ j → listed.getD j false = false) →
      (∀ j, listed.getD j false = true → ∀ q ∈ bs.getD j [], listed.getD q false = true) →
      (∀ t, (∀ j o, j < m → listed.getD j false = true → ops[j]? = some o → o.dst ≠ some t) → a.tmps.getD t undef = f t) →
      (∀ j o t, j < m → listed.getD j false = true → ops[j]? = some o → o.dst = some t → a.tmps.getD t undef = F t) → cnt listed ops.length ≤ fuel → AnyJ P .any ops.toArray K fuel listed a w := by
  obtain ⟨hm, hdist, hone⟩ := Go.Dw.drawOk_spec hck
  obtain ⟨hlen, hget⟩ := V7 _ _ hpre
  have htk : ∀ i o, i < m → ops[i]? = some o → (ops.take m)[i]? = some o := fun i o hi ho => by rw [List.getElem?_take, if_pos hi]; exact ho
  have hFd : ∀ i o d v, i < m → ops[i]? = some o → vals[i]? = some (d, v) → o.dst = some d → F d = v := fun i o d v hi ho hv hd => by
    rw [hF]
    refine Po vals f i hv fun j p hj e => ?_
    have hjm : j < m := by
      have := (List.getElem?_eq_some_iff.1 hj).1
      rw [← hlen] at this
      simp at this
      omega
    rcases Nat.decEq j i with hne | he
    · exfalso
      obtain ⟨oj, hoj⟩ : ∃ oj, ops[j]? = some oj := ⟨_, List.getElem?_eq_getElem (by omega)⟩
      obtain ⟨d', v', hv', hd', _⟩ := hget j oj (htk j oj hjm hoj)
      rw [hj] at hv'
      have := Option.some.inj hv'
      subst this
      exact hdist j i oj o hjm hi hne hoj ho (by rw [hd', hd, ← e])
    · exact he
  have hFo : ∀ t, (∀ j o, j < m → ops[j]? = some o → o.dst ≠ some t) → F t = f t := fun t ht => by
    rw [hF]
    refine Ht vals f fun p hp e => ?_
    obtain ⟨j, hj⟩ := List.getElem?_of_mem hp
    have hjm : j < m := by
      have := (List.getElem?_eq_some_iff.1 hj).1
      rw [← hlen] at this
      simp at this
      omega
    obtain ⟨oj, hoj⟩ : ∃ oj, ops[j]? = some oj := ⟨_, List.getElem?_eq_getElem (by omega)⟩
    obtain ⟨d', v', hv', hd', _⟩ := hget j oj (htk j oj hjm hoj)
    rw [hj] at hv'
    have := Option.some.inj hv'
    subst this
    exact ht j oj hjm hoj (by rw [hd', ← e])
  intro fuel
  induction fuel with
  | zero =>
    intro listed a w had hsz hls hi hlow hcl hout hin hcnt
    have hz := Ub _ (Nat.le_zero.1 hcnt)
    refine Js rfl (fun i o ho => V3 (hone i o ho)) (fun l i o ho hall hc => Jn (hone i o ho) l hall hc) 0 m listed a w (Nat.le_refl _) hm hls (fun j hj => hz j (by omega)) (fun j hj _ => hlow j hj) hcl ?_ ?_
    · have := Vu (listed := listed) (m := m) ops.length fun j h1 _ => hlow j h1
      omega
    · refine Wy hext hQ _ _ _ a ⟨had, hsz, fun t => ?_⟩ (htail w hi)
      by_cases hx : ∃ j o, j < m ∧ ops[j]? = some o ∧ o.dst = some t
      · obtain ⟨j, o, hj, ho, hd⟩ := hx
        exact hin j o t hj (hz j (by omega)) ho hd
      · rw [hFo t fun j o hj ho hd => hx ⟨j, o, hj, ho, hd⟩]
        exact hout t fun j o hj _ ho hd => hx ⟨j, o, hj, ho, hd⟩
  | succ fuel ih =>
    intro listed a w had hsz hls hi hlow hcl hout hin hcnt
    by_cases hall : ∀ j, j < m → listed.getD j false = true
    · refine Js rfl (fun i o ho => V3 (hone i o ho)) (fun l i o ho hall hc => Jn (hone i o ho) l hall hc) (fuel + 1) m listed a w (Nat.le_refl _) hm hls hall (fun j hj _ => hlow j hj) hcl ?_ ?_
      · have := Vu (listed := listed) (m := m) ops.length fun j h1 _ => hlow j h1
        omega
      · refine Wy hext hQ _ _ _ a ⟨had, hsz, fun t => ?_⟩ (htail w hi)
        by_cases hx : ∃ j o, j < m ∧ ops[j]? = some o ∧ o.dst = some t
        · obtain ⟨j, o, hj, ho, hd⟩ := hx
          exact hin j o t hj (hall j hj) ho hd
        · rw [hFo t fun j o hj ho hd => hx ⟨j, o, hj, ho, hd⟩]
          exact hout t fun j o hj _ ho hd => hx ⟨j, o, hj, ho, hd⟩
    · obtain ⟨j0, hj0, hun0, hbelow⟩ := Rq m hall
      refine ⟨fun hnil => ?_, fun i hir => ?_⟩
      · exfalso
        obtain ⟨o, ho⟩ : ∃ o, ops[j0]? = some o := ⟨_, List.getElem?_eq_getElem (by omega)⟩
        have hkr : j0 ∈ Region.ready .any ops.toArray listed := by
          refine mem_ready.2 ⟨?_, o, by simpa using ho, fun e he hb => ?_⟩
          · rw [Array.getD_eq_getD_getElem?, Array.getElem?_eq_getElem (by omega)] at hun0 ⊢
            simpa using hun0
          · have h1 := hone j0 o ho
            unfold drawOne at h1
            simp only [Bool.and_eq_true] at h1
            have := List.all_eq_true.1 h1.1.1 e (by simpa using he)
            simp only [hb, Bool.not_true, Bool.false_or, decide_eq_true_eq] at this
            exact hbelow _ this
        rw [hnil] at hkr
        cases hkr
      · obtain ⟨hun, o, ho, hafter⟩ := mem_ready.1 hir
        have ho' : ops[i]? = some o := by simpa using ho
        have hil : i < ops.length := (List.getElem?_eq_some_iff.1 ho').1
        have hun' : listed.getD i false = false := by
          rw [Array.getD_eq_getD_getElem?, Array.getElem?_eq_getElem (by omega)] at hun ⊢
          simpa using hun
        have hprei := Jn (hone i o ho') listed (fun e he hb => hafter e he hb) hcl
        have h1 := hone i o ho'
        unfold drawOne at h1
        simp only [Bool.and_eq_true] at h1
        obtain ⟨_, h1⟩ := h1
        have him : i < m := by
          rcases Nat.lt_or_ge i m with h' | h'
          · exact h'
          · exfalso
            rw [if_neg (by omega)] at h1
            have := List.all_eq_true.1 h1 j0 (by simp; omega)
            have := hprei j0 (by simpa using this)
            rw [hun0] at this
            cases this
        rw [if_pos him] at h1
        simp only [Bool.and_eq_true] at h1
        obtain ⟨⟨hsel, hdn⟩, hlooks⟩ := h1
        obtain ⟨d, v, hv, hd, hwp⟩ := hget i o (htk i o him ho')
        rw [hd] at hdn
        have hdn' : d < n := by simpa using hdn
        refine ⟨o, ho, loc (fun a A A1 h => AnyJ.ext hext h) ho' hsel hd hdn' haF (hwp w hi) (fun t ht => ?_) fun w' hi' => ?_⟩
        · have h2 := List.all_eq_true.1 hlooks t ht
          by_cases hx : ∃ j oj, j < m ∧ ops[j]? = some oj ∧ oj.dst = some t
          · obtain ⟨j, oj, hj, hoj, hdj⟩ := hx
            have h3 := List.all_eq_true.1 h2 j (by simpa using hj)
            rw [hoj] at h3
            simp [hdj] at h3
            exact hin j oj t hj (hprei j (by simpa using h3)) hoj hdj
          · rw [hFo t fun j o hj ho hd => hx ⟨j, o, hj, ho, hd⟩]
            exact hout t fun j o hj _ ho hd => hx ⟨j, o, hj, ho, hd⟩
        · have hput : ∀ t, t ≠ d → (a.put (some d) v).tmps.getD t undef = a.tmps.getD t undef := fun t ht => by
            simp only [Act.put]
            rw [Array.getD_eq_getD_getElem?, Array.getElem?_setIfInBounds_ne (fun e => ht e.symm), Array.getD_eq_getD_getElem?]
          have hputd : (a.put (some d) v).tmps.getD d undef = v := by
            simp only [Act.put]
            rw [Array.getD_eq_getD_getElem?, Array.getElem?_setIfInBounds_self_of_lt (by omega)]; rfl
          have hFv : F d = v := hFd i o d v him ho' hv hd
          refine ih _ _ w' had (by simp [Act.put, hsz]) (by simp [hls]) hi' (fun j hj => by rw [Yp (by omega)]; exact hlow j hj) (fun j hj q hq => ?_) (fun t ht => ?_) (fun j oj t hj hlj hoj hdj => ?_) ?_
          · have hq' : listed.getD q false = true := by
              rcases Nat.decEq j i with hne | he
              · rw [Yp hne] at hj
                exact hcl j hj q hq
              · subst he
                exact hprei q hq
            by_cases hqi : q = i
            · rw [hqi]; exact Qk (by omega)
            · rw [Yp hqi]; exact hq'
          · have htd : t ≠ d := fun e => ht i o him (Qk (by omega)) ho' (by rw [hd, e])
            rw [hput t htd]
            exact hout t fun j oj hj hlj hoj => ht j oj hj (by
              by_cases hji : j = i
              · rw [hji]; exact Qk (by omega)
              · rw [Yp hji]; exact hlj) hoj
          · rcases Nat.decEq t d with htd | htd
            · rw [hput t htd]
              rcases Nat.decEq j i with hne | he
              · rw [Yp hne] at hlj
                exact hin j oj t hj hlj hoj hdj
              · subst he
                rw [ho'] at hoj
                obtain rfl := Option.some.inj hoj
                rw [hd] at hdj
                exact absurd (Option.some.inj hdj).symm htd
            · subst htd
              rw [hputd, hFv]
          · have := Wq (listed := listed) (i := i) (by omega) hun' ops.length hil
            omega
theorem Closed.draw {J : Goroutine → World → Prop} (hJ : Closed P J) {ops : Array Oper} {b : Frame} (hb : b.kind ≠ .early) {K : Act → World → Prop} {k : List Item} {cs : List Frame} {a : Act} {w : World} {id : Nat} (hmx : P.follows .mixedOrders = true) (hk : ∀ a A, K a A → J (G (ato b a k) cs) A)
    (h : AnyJ P .any ops K ops.size (Array.replicate ops.size false) a w.drew) : J (G (ato b a (.code (.region id ops true) :: k)) cs) w :=
  hJ.step _ _ (.quiet rfl fun w1 hs => ⟨_, w.drew, { w1 with drawn := w1.drawn + 1 }, #[], Gg, rfl, ⟨hs.os, hs.output, hs.size, hs.vis, hs.nv⟩, ⟨fun b _ h => ⟨rfl, h⟩, fun b h => ⟨rfl, rfl⟩, fun b _ h => h, fun b h => h, Nat.le_refl _, rfl, rfl, rfl, fun b _ h => h⟩, by simp, by
    simp only [Region.schedule, hmx, Bool.true_or, if_true]
    exact Ot hJ hb hk _ _ _ _ _ h⟩)
theorem Yl {id : Nat} {w : World} {Q : Exit → Fr → World → Prop} (m : Nat) (vals : List (Nat × Value)) (Inv : World → Prop) (hmx : P.follows .mixedOrders = true) (hck : drawOk n m ops (befores ops) = true) (h0 : Inv w.drew)
    (hpre : YlL P n ops.toArray Inv (ups f vals) (ops.take m) vals) (htail : ∀ w', Inv w' → WpO P n ops.toArray (Q .normal) (ops.drop m) (ups f vals) w') : Wpf P n Q (.region id ops.toArray true) f w := fun J hJ b hb k cs a ha hc => by
  obtain ⟨hm, _, hone⟩ := Go.Dw.drawOk_spec hck
  obtain ⟨hlen, hget⟩ := V7 _ _ hpre
  obtain ⟨aF, haF⟩ := Pn vals a f ha fun p hp => by
    obtain ⟨j, hj⟩ := List.getElem?_of_mem hp
    have hjm : j < m := by
      have := (List.getElem?_eq_some_iff.1 hj).1
      rw [← hlen] at this
      simp at this
      omega
    obtain ⟨oj, hoj⟩ : ∃ oj, ops[j]? = some oj := ⟨_, List.getElem?_eq_getElem (by omega)⟩
    obtain ⟨d, v, hv, hd, _⟩ := hget j oj (by rw [List.getElem?_take, if_pos hjm]; exact hoj)
    rw [hj] at hv
    have := Option.some.inj hv
    subst this
    have h1 := hone j oj hoj
    unfold drawOne at h1
    simp only [Bool.and_eq_true, if_pos hjm, hd] at h1
    simpa using h1.2.1.2
  refine hJ.draw (K := fun a A => J (G (ato b a k) cs) A) hb hmx (fun _ _ h => h) ?_
  have hrep : ∀ j, (Array.replicate ops.toArray.size false).getD j false = false := fun j => by
    rw [Array.getD_eq_getD_getElem?]
    cases h : (Array.replicate ops.toArray.size false)[j]? with
    | none => rfl
    | some b => rw [Array.getElem?_replicate] at h; split at h <;> simp_all
  refine Wm (Kf := Q .normal) (K := fun a A => J (G (ato b a k) cs) A) (fun a A A1 hh hE hT => hJ.ext _ _ _ hE hT hh) hck rfl haF hpre htail (fun a' f' w' hf hK => hc .normal a' f' w' hf hK) _ _ a _ ha.defers ha.size (by simp) h0 (fun j _ => hrep j) (fun j hj => by rw [hrep j] at hj; cases hj) (fun t _ => ha.at_ t) (fun j o t _ hj => by rw [hrep j] at hj; cases hj) ?_
  rw [show ops.toArray.size = ops.length by simp, Ua]
  exact Nat.le_refl _
theorem Us {m : Nat} {bs : List (List Nat)} {I : (Nat → Bool) → Fr → World → Prop} {Kf : Fr → World → Prop} {K : Act → World → Prop} (hext : ∀ a A A1, K a A → Ext A A1 → A1.tape = A.tape → K a A1) (hm : m ≤ ops.length) (hone : ∀ i o, ops[i]? = some o → tailOne m bs i o = true)
    (hpre : ∀ i o, i < m → ops[i]? = some o → ∀ S F w, S i = false → (∀ j ∈ bs.getD i [], S j = true) → (∀ j, S j = true → ∀ q ∈ bs.getD j [], S q = true) → I S F w →
      WpO P n ops.toArray (fun F' w' => I (fun j => j == i || S j) F' w') [o] F w)
    (htail : ∀ S F w, (∀ j, j < m → S j = true) → I S F w → WpO P n ops.toArray Kf (ops.drop m) F w) (hQ : ∀ a' f' w', FEq n a' f' → Kf f' w' → K a' w') :
    ∀ (fuel : Nat) (listed : Array Bool) (a : Act) (F : Fr) (w : World), FEq n a F → listed.size = ops.length → I (fun j => listed.getD j false) F w → (∀ j, m ≤ j → listed.getD j false = false) →
      (∀ j, listed.getD j false = true → ∀ q ∈ bs.getD j [], listed.getD q false = true) → cnt listed ops.length ≤ fuel → AnyJ P .any ops.toArray K fuel listed a w := by
  intro fuel
  induction fuel with
  | zero =>
    intro listed a F w ha hls hi hlow hcl hcnt
    have hz := Ub _ (Nat.le_zero.1 hcnt)
    refine Js rfl hone (fun l i o ho hall hc => Go.Dw.tailOne_closed (hone i o ho) l hall hc) 0 m listed a w (Nat.le_refl _) hm hls (fun j hj => hz j (by omega)) (fun j hj _ => hlow j hj) hcl ?_ ?_
    · have := Vu (listed := listed) (m := m) ops.length fun j h1 _ => hlow j h1
      omega
    · exact Wy hext hQ _ _ _ a ha (htail _ F w (fun j hj => hz j (by omega)) hi)
  | succ fuel ih =>
    intro listed a F w ha hls hi hlow hcl hcnt
    by_cases hall : ∀ j, j < m → listed.getD j false = true
    · refine Js rfl hone (fun l i o ho hall hc => Go.Dw.tailOne_closed (hone i o ho) l hall hc) (fuel + 1) m listed a w (Nat.le_refl _) hm hls hall (fun j hj _ => hlow j hj) hcl ?_ ?_
      · have := Vu (listed := listed) (m := m) ops.length fun j h1 _ => hlow j h1
        omega
      · exact Wy hext hQ _ _ _ a ha (htail _ F w hall hi)
    · obtain ⟨j0, hj0, hun0, hbelow⟩ := Rq m hall
      refine ⟨fun hnil => ?_, fun i hir => ?_⟩
      · exfalso
        obtain ⟨o, ho⟩ : ∃ o, ops[j0]? = some o := ⟨_, List.getElem?_eq_getElem (by omega)⟩
        have hkr : j0 ∈ Region.ready .any ops.toArray listed := by
          refine mem_ready.2 ⟨?_, o, by simpa using ho, fun e he hb => ?_⟩
          · rw [Array.getD_eq_getD_getElem?, Array.getElem?_eq_getElem (by omega)] at hun0 ⊢
            simpa using hun0
          · have h1 := hone j0 o ho
            unfold tailOne at h1
            simp only [Bool.and_eq_true] at h1
            have := List.all_eq_true.1 h1.1.1 e (by simpa using he)
            simp only [hb, Bool.not_true, Bool.false_or, decide_eq_true_eq] at this
            exact hbelow _ this
        rw [hnil] at hkr
        cases hkr
      · obtain ⟨hun, o, ho, hafter⟩ := mem_ready.1 hir
        have ho' : ops[i]? = some o := by simpa using ho
        have hil : i < ops.length := (List.getElem?_eq_some_iff.1 ho').1
        have hun' : listed.getD i false = false := by
          rw [Array.getD_eq_getD_getElem?, Array.getElem?_eq_getElem (by omega)] at hun ⊢
          simpa using hun
        have hprei := Go.Dw.tailOne_closed (hone i o ho') listed (fun e he hb => hafter e he hb) hcl
        have him : i < m := by
          rcases Nat.lt_or_ge i m with h' | h'
          · exact h'
          · exfalso
            have h1 := hone i o ho'
            unfold tailOne at h1
            simp only [Bool.and_eq_true] at h1
            have h3 := h1.2
            rw [show decide (i < m) = false by simp; omega, Bool.false_or] at h3
            have := List.all_eq_true.1 h3 j0 (by simp; omega)
            have := hprei j0 (by simpa using this)
            rw [hun0] at this
            cases this
        refine ⟨o, ho, (Tk (o := o) (hpre i o him ho' _ F w hun' hprei hcl hi) ha).mono fun a' w' ⟨f', hf, A0, hE, hT, hI'⟩ => ?_⟩
        refine AnyJ.ext hext (A := A0) ?_ hE hT
        refine ih _ _ f' A0 hf (by simp [hls]) ?_ (fun j hj => by rw [Yp (by omega)]; exact hlow j hj) (fun j hj q hq => ?_) ?_
        · rw [P8 (by omega)]; exact hI'
        · have hq' : listed.getD q false = true := by
            rcases Nat.decEq j i with hne | he
            · rw [Yp hne] at hj
              exact hcl j hj q hq
            · subst he
              exact hprei q hq
          by_cases hqi : q = i
          · rw [hqi]; exact Qk (by omega)
          · rw [Yp hqi]; exact hq'
        · have := Wq (listed := listed) (i := i) (by omega) hun' ops.length hil
          omega
def PreL (P : Program) (n : Nat) (ops : Array Oper) (bs : List (List Nat)) (I : (Nat → Bool) → Fr → World → Prop) : Nat → List Oper → Prop
  | _, [] => True
  | i, o :: l => (∀ S F w, S i = false → (∀ j ∈ bs.getD i [], S j = true) → (∀ j, S j = true → ∀ q ∈ bs.getD j [], S q = true) → I S F w → WpO P n ops (fun F' w' => I (fun j => j == i || S j) F' w') [o] F w) ∧ PreL P n ops bs I (i + 1) l
theorem Jp {ops : Array Oper} {bs : List (List Nat)} {I : (Nat → Bool) → Fr → World → Prop} {i : Nat} : PreL P n ops bs I i [] := trivial
theorem Xl {ops : Array Oper} {bs : List (List Nat)} {I : (Nat → Bool) → Fr → World → Prop} {i : Nat} {o : Oper} {l : List Oper}
    (h : ∀ S F w, S i = false → (∀ j ∈ bs.getD i [], S j = true) → (∀ j, S j = true → ∀ q ∈ bs.getD j [], S q = true) → I S F w → WpO P n ops (fun F' w' => I (fun j => j == i || S j) F' w') [o] F w)
    (t : PreL P n ops bs I (i + 1) l) : PreL P n ops bs I i (o :: l) := ⟨h, t⟩
theorem Uh {opsA : Array Oper} {bs : List (List Nat)} {I : (Nat → Bool) → Fr → World → Prop} : ∀ (l : List Oper) (k i : Nat) (o : Oper), PreL P n opsA bs I k l → l[i]? = some o →
    ∀ S F w, S (k + i) = false → (∀ j ∈ bs.getD (k + i) [], S j = true) → (∀ j, S j = true → ∀ q ∈ bs.getD j [], S q = true) → I S F w → WpO P n opsA (fun F' w' => I (fun j => j == k + i || S j) F' w') [o] F w
  | [], _, _, _, _, ho => by simp at ho
  | p :: l, k, 0, o, h, ho => by
    obtain rfl : p = o := by simpa using ho
    exact h.1
  | p :: l, k, i + 1, o, h, ho => by
    have := Uh l (k + 1) i o h.2 (by simpa using ho)
    rwa [show k + 1 + i = k + (i + 1) by omega] at this
theorem Q8 {id : Nat} {w : World} {Q : Exit → Fr → World → Prop} (m : Nat) (bs : List (List Nat)) (I : (Nat → Bool) → Fr → World → Prop) (hmx : P.follows .mixedOrders = true) (hck : drawOkI m ops bs = true) (h0 : I (fun _ => false) f w.drew)
    (hpre : PreL P n ops.toArray bs I 0 (ops.take m)) (htail : ∀ S F w, (∀ j, j < m → S j = true) → I S F w → WpO P n ops.toArray (Q .normal) (ops.drop m) F w) : Wpf P n Q (.region id ops.toArray true) f w := fun J hJ b hb k cs a ha hc => by
  unfold drawOkI at hck
  simp only [Bool.and_eq_true, decide_eq_true_eq] at hck
  obtain ⟨hm, hck⟩ := hck
  have hone : ∀ i o, ops[i]? = some o → tailOne m bs i o = true := fun i o ho => by
    have := List.all_eq_true.1 hck i (by simpa using (List.getElem?_eq_some_iff.1 ho).1)
    rw [ho] at this
    exact this
  refine hJ.draw (K := fun a A => J (G (ato b a k) cs) A) hb hmx (fun _ _ h => h) ?_
  have hrep : ∀ j, (Array.replicate ops.toArray.size false).getD j false = false := fun j => by
    rw [Array.getD_eq_getD_getElem?]
    cases h : (Array.replicate ops.toArray.size false)[j]? with
    | none => rfl
    | some b => rw [Array.getElem?_replicate] at h; split at h <;> simp_all
  refine Us (Kf := Q .normal) (K := fun a A => J (G (ato b a k) cs) A) (fun a A A1 hh hE hT => hJ.ext _ _ _ hE hT hh) hm hone (fun i o hi ho S F w h1 h2 h3 h4 => ?_) htail (fun a' f' w' hf hK => hc .normal a' f' w' hf hK) _ _ a f _ ha (by simp) (by simp only [hrep]; exact h0) (fun j _ => hrep j) (fun j hj => by rw [hrep j] at hj; cases hj) ?_
  · have := Uh _ 0 i o hpre (by rw [List.getElem?_take, if_pos hi]; exact ho) S F w (by simpa using h1) (by simpa using h2) h3 h4
    simpa using this
  · rw [show ops.toArray.size = ops.length by simp, Ua]
    exact Nat.le_refl _
end
end Go.Dw.J
end
section
namespace Go.Dw.J
open Go.RowKit Go.Dw Go.Proofs
set_option linter.unusedSectionVars false
set_option maxRecDepth 100000
set_option maxHeartbeats 4000000
set_option linter.unusedSimpArgs false
set_option linter.unusedVariables false
theorem Vg : fieldOff Try.prog 25 0 = some 0 := by kernel_rfl
theorem Vw : fieldOff Try.prog 25 1 = some 1 := by kernel_rfl
theorem Qp : fieldOff Try.prog 74 0 = some 0 := by kernel_rfl
theorem J4 : fieldOff Try.prog 74 1 = some 1 := by kernel_rfl
theorem Hh : fieldOff Try.prog 74 3 = some 3 := by kernel_rfl
theorem Uw : fieldOff Try.prog 74 4 = some 4 := by kernel_rfl
theorem L3 : goFn Try.prog 38 = true := by kernel_rfl
theorem Mg : goFn Try.prog 48 = true := by kernel_rfl
theorem Xcl : goFn Try.prog 49 = true := by kernel_rfl
theorem X1 : oneTy Try.prog 3 = true := by kernel_rfl
theorem Vl : oneTy Try.prog 4 = true := by kernel_rfl
theorem Yd : rowTy Try.prog 25 = some 2 := by kernel_rfl
theorem Y9 : rowTy Try.prog 74 = some 5 := by kernel_rfl
theorem Yu : Try.prog.follows .mixedOrders = true := by kernel_rfl
theorem O0 (x y : Operand) (a b : Rt) (w : World) : (eqGuard .eql 74 x y (.agg a.cells.toArray) (.agg b.cells.toArray)).run Try.prog w = .ok () w := by kernel_rfl
theorem S6 (a b : Rt) (w : World) : (binOp .eql 74 (.agg a.cells.toArray) (.agg b.cells.toArray)).run Try.prog w = .ok (vb (decide (a = b))) w := by
 have h := run_equalIn_struct (P := Try.prog) w 9999 74 a.cells.toArray b.cells.toArray (by kernel_rfl) (by kernel_rfl)
 obtain ⟨a0, a1, a2, a3, a4⟩ := a
 obtain ⟨b0, b1, b2, b3, b4⟩ := b
 simp only [binOp, Op.equal, Op.maxDepth, Sem.run_bind, Rt.cells] at h ⊢
 rw [h]
 simp [go_sem]
 (repeat' split) <;> simp_all
theorem Xdk (x y : Operand) (a b : Rt) (w : World) : (eqGuard .neq 74 x y (.agg a.cells.toArray) (.agg b.cells.toArray)).run Try.prog w = .ok () w := by kernel_rfl
theorem Xdl (a b : Rt) (w : World) : (binOp .neq 74 (.agg a.cells.toArray) (.agg b.cells.toArray)).run Try.prog w = .ok (vb (!decide (a = b))) w := by
 have h := S6 a b w
 have h2 := run_equalIn_struct (P := Try.prog) w 9999 74 a.cells.toArray b.cells.toArray (by kernel_rfl) (by kernel_rfl)
 obtain ⟨a0, a1, a2, a3, a4⟩ := a
 obtain ⟨b0, b1, b2, b3, b4⟩ := b
 simp only [binOp, Op.equal, Op.maxDepth, Sem.run_bind, Rt.cells] at h h2 ⊢
 rw [h2] at h ⊢
 revert h
 simp [go_sem]
 (repeat' split) <;> simp_all
theorem Xc6 (x y : Operand) (a b : Lab) (w : World) : (eqGuard .eql 25 x y (.agg a.cells.toArray) (.agg b.cells.toArray)).run Try.prog w = .ok () w := by kernel_rfl
theorem Xc7 (a b : Lab) (w : World) : (binOp .eql 25 (.agg a.cells.toArray) (.agg b.cells.toArray)).run Try.prog w = .ok (vb (decide (a = b))) w := by
 have h := run_equalIn_struct (P := Try.prog) w 9999 25 a.cells.toArray b.cells.toArray (by kernel_rfl) (by kernel_rfl)
 obtain ⟨a0, a1⟩ := a
 obtain ⟨b0, b1⟩ := b
 simp only [binOp, Op.equal, Op.maxDepth, Sem.run_bind, Lab.cells] at h ⊢
 rw [h]
 simp [go_sem]
 (repeat' split) <;> simp_all
theorem Kg [Comp] (l : Lab) (w : World) : CallsR Try.prog 38 #[.agg #[vi l.s, vi l.v]] w (fun v w' => v = vb (labelOk l) ∧ w.grownBy w' none) := by
 refine Xq (n := 21) Try.func38 Z Try.ntmps38 Z ?_
 have ae := World.grownBy.refl w none
 refine Xa (wpo_box (v := .agg #[vi l.s, vi l.v]) (cs := #[vi l.s, vi l.v]) Z Z Z ?_)
 intro ah af ab
 have ag := Xy ab ae
 refine wpo_assign (v := vb false) Z Z (wpo_nil (Xu (fun f' w' => (f' 2 = vb ((((decide (0 ≤ l.s)) && (decide (l.s ≤ 3))) && (decide (0 ≤ l.v))) && (decide (l.v ≤ 3)))) ∧ af = w') ?_ ?_))
 refine wpo_fieldAddr (o' := 0) Vg Z Z Z (wpo_load1 (v := vi l.s) X1 Z (ab.blk.cell Z) Z (wpo_geq (q := decide (0 ≤ l.s)) Z Z Z Z (wpo_move (v := vb (decide (0 ≤ l.s))) Z Z ?_)))
 rcases Xz (decide (0 ≤ l.s)) with E | E
 have aj := of_decide_eq_true E
 refine Xd Z Z Z E (wpo_fieldAddr (o' := 0) Vg Z Z Z (Xd Z Z Z E (wpo_load1 (v := vi l.s) X1 Z (ab.blk.cell Z) Z (Xd Z Z Z E (wpo_leq (q := decide (l.s ≤ 3)) Z Z Z Z (wpo_pickt (v := vb (decide (l.s ≤ 3))) Z E Z Z (wpo_move (v := vb (decide (l.s ≤ 3))) Z Z ?_)))))))
 rcases Xz (decide (l.s ≤ 3)) with O | O
 have ak := of_decide_eq_true O
 refine Xd Z Z Z O (wpo_fieldAddr (o' := 1) Vw Z Z Z (Xd Z Z Z O (wpo_load1 (v := vi l.v) X1 Z (ab.blk.cell Z) Z (Xd Z Z Z O (wpo_geq (q := decide (0 ≤ l.v)) Z Z Z Z (wpo_pickt (v := vb (decide (0 ≤ l.v))) Z O Z Z (wpo_move (v := vb (decide (0 ≤ l.v))) Z Z ?_)))))))
 rcases Xz (decide (0 ≤ l.v)) with V | V
 have al := of_decide_eq_true V
 exact Xd Z Z Z V (wpo_fieldAddr (o' := 1) Vw Z Z Z (Xd Z Z Z V (wpo_load1 (v := vi l.v) X1 Z (ab.blk.cell Z) Z (Xd Z Z Z V (wpo_leq (q := decide (l.v ≤ 3)) Z Z Z Z (wpo_pickt (v := vb (decide (l.v ≤ 3))) Z V Z Z (wpo_assign (v := vb (decide (l.v ≤ 3))) Z Z (wpo_nil ⟨(cB (by simp [E, O, V])), Z⟩))))))))
 have am := of_decide_eq_false V
 iterate 3 refine Xe rfl rfl rfl V rfl ?_
 exact wpo_pickf (v := vb false) Z V Z Z (wpo_assign (v := vb false) Z Z (wpo_nil ⟨(cB (by simp [E, O, V])), Z⟩))
 have an := of_decide_eq_false O
 iterate 3 refine Xe rfl rfl rfl O rfl ?_
 refine wpo_pickf (v := vb false) Z O Z Z (wpo_move (v := vb false) Z Z ?_)
 iterate 3 refine Xe rfl rfl rfl rfl rfl ?_
 exact wpo_pickf (v := vb false) Z Z Z Z (wpo_assign (v := vb false) Z Z (wpo_nil ⟨(cB (by simp [E, O])), Z⟩))
 have ao := of_decide_eq_false E
 iterate 3 refine Xe rfl rfl rfl E rfl ?_
 refine wpo_pickf (v := vb false) Z E Z Z (wpo_move (v := vb false) Z Z ?_)
 iterate 3 refine Xe rfl rfl rfl rfl rfl ?_
 refine wpo_pickf (v := vb false) Z Z Z Z (wpo_move (v := vb false) Z Z ?_)
 iterate 3 refine Xe rfl rfl rfl rfl rfl ?_
 exact wpo_pickf (v := vb false) Z Z Z Z (wpo_assign (v := vb false) Z Z (wpo_nil ⟨(cB (by simp [E])), Z⟩))
 rintro ai ap ⟨ac, rfl⟩
 refine Xm (⟨vb ((((decide (0 ≤ l.s)) && (decide (l.s ≤ 3))) && (decide (0 ≤ l.v))) && (decide (l.v ≤ 3))), res1 Z ac, ?_, (low0 ae ab.grw)⟩)
 simp [labelOk, inR, Bool.and_assoc]
theorem Vi [Comp] (l : Lab) (hl : labelOk l = true) (w : World) : CallsR Try.prog 48 #[.agg #[vi l.s, vi l.v]] w (fun v w' => v = .tuple #[.int .u64 l.s, .int .u64 l.v] ∧ w.grownBy w' none) := by
 refine Xq (n := 10) Try.func48 Z Try.ntmps48 Z ?_
 have aj := World.grownBy.refl w none
 obtain ⟨⟨hl1, hl2⟩, hl3, aw⟩ := (Yq l).1 hl
 refine Xa (wpo_box (v := .agg #[vi l.s, vi l.v]) (cs := #[vi l.s, vi l.v]) Z Z Z ?_)
 intro ab ak E
 have al := Xy E aj
 refine wpo_assign (v := .int .u64 0) Z Z (wpo_assign (v := .int .u64 0) Z Z (wpo_nil (Xk (Yl (m := 7) (vals := [(4, pt ab 0), (5, vi l.s), (6, .int .u64 l.s), (7, pt ab 1), (8, vi l.v), (9, .int .u64 l.v), (2, .int .u64 l.s)]) (fun w' => ak.grownBy w' none) Yu (by kernel_rfl) (Xx _) ?_ ?_))))
 refine Xc Z (fun am ac => ?_) ?_
 exact wpo_fieldAddr (o' := 0) Vg Z Z Z (wpo_nil ⟨Z, ac⟩)
 refine Xc Z (fun an O => ?_) ?_
 exact wpo_load1 (v := vi l.s) X1 Z ((E.blk.grown0 O).cell Z) Z (wpo_nil ⟨Z, O⟩)
 refine Xc Z (fun ao ae => ?_) ?_
 exact wpo_conv (P := Try.prog) (k' := .u64) Z (by kernel_rfl) (by kernel_rfl) (P5 (by omega) (by omega)) Z (wpo_nil ⟨Z, ae⟩)
 refine Xc Z (fun ap af => ?_) ?_
 exact wpo_fieldAddr (o' := 1) Vw Z Z Z (wpo_nil ⟨Z, af⟩)
 refine Xc Z (fun aq V => ?_) ?_
 exact wpo_load1 (v := vi l.v) X1 Z ((E.blk.grown0 V).cell Z) Z (wpo_nil ⟨Z, V⟩)
 refine Xc Z (fun ar ag => ?_) ?_
 exact wpo_conv (P := Try.prog) (k' := .u64) Z (by kernel_rfl) (by kernel_rfl) (P5 (by omega) (by omega)) Z (wpo_nil ⟨Z, ag⟩)
 refine Xc Z (fun au ah => ?_) ?_
 exact wpo_assign (v := .int .u64 l.s) Z Z (wpo_nil ⟨Z, ah⟩)
 exact Y2
 intro av ai
 refine wpo_assign (v := .int .u64 l.v) Z Z (wpo_nil (Xo (Xm (⟨.tuple #[.int .u64 l.s, .int .u64 l.v], res2 Z Z Z, ?_, (low0 (low0 aj E.grw) ai)⟩))))
 rfl
theorem Ss [Comp] (a b : Int) (w : World) : CallsR Try.prog 49 #[.int .u64 a, .int .u64 b] w (fun v w' => v = vb (decide (bits .andNot .u64 a b = 0)) ∧ w.grownBy w' none) := by
 refine Xq (n := 9) Try.func49 Z Try.ntmps49 Z (Xa (wpo_assign (v := vb false) Z Z (wpo_nil (Xa (wpo_move (v := .int .u64 a) Z Z (wpo_move (v := .int .u64 b) Z Z (wpo_bin (u := .int .u64 a) (u' := .int .u64 b) (v := .int .u64 (bits .andNot .u64 a b)) Z Z Z Z (fun _ => by rw [binOp_andNot, intBits_andNot]; rfl) (fun _ _ => eqGuard_at_int ..) Z (wpo_eql (q := decide (bits .andNot .u64 a b = 0)) Z Z Z Z (wpo_assign (v := vb (decide (bits .andNot .u64 a b = 0))) Z Z (wpo_nil (Xm (⟨vb (decide (bits .andNot .u64 a b = 0)), res1 Z Z, ?_, (World.grownBy.refl w none)⟩))))))))))))
 rfl
theorem Pw [Comp] (a b : Lab) (w : World) : CallsR Try.prog 18 #[.agg #[vi a.s, vi a.v], .agg #[vi b.s, vi b.v]] w (fun v w' => v = vb (labelFlow a b) ∧ w.grownBy w' none) := by
 refine Xq (n := 35) Try.func18 Z Try.ntmps18 Z ?_
 have be := World.grownBy.refl w none
 refine Xa (wpo_box (v := .agg #[vi a.s, vi a.v]) (cs := #[vi a.s, vi a.v]) Z Z Z ?_)
 intro av bp ab
 have bh := Xy ab be
 have ak := low0 be ab.grw
 refine wpo_box (v := .agg #[vi b.s, vi b.v]) (cs := #[vi b.s, vi b.v]) Z Z Z ?_
 intro aw bf V
 have bi := Xy V ak
 have ao := Xs V (ab.blk).lt
 refine wpo_assign (v := vb false) Z Z (wpo_nil (Xk (Xu (fun f' w' => (f' 2 = pt av 0 ∧ f' 3 = pt aw 0 ∧ f' 4 = vb false ∧ f' 16 = vb ((!labelOk a) || (!labelOk b))) ∧ bf.grownBy w' none) ?_ ?_)))
 refine wpo_loadn (vs := [vi a.s, vi a.v]) Yd Z Z ((ab.blk.grown0 V.grw).rangeL 0 2 Z) Z (Xi L3 (Xb Z Xg) Z (Kg a _) ?_)
 rintro _ bq ⟨rfl, ae⟩
 refine wpo_not (b' := !labelOk a) Z Z Z (wpo_move (v := vb (!labelOk a)) Z Z ?_)
 rcases Xz (!labelOk a) with E | E
 have bc := Je E
 iterate 3 refine Xe rfl rfl rfl E rfl ?_
 exact wpo_pickt (v := vb true) Z E Z Z (wpo_nil ⟨⟨Z, Z, Z, (cB (by simp [E, bc]))⟩, ae⟩)
 have bd := Qx E
 refine Xd Z Z Z E (wpo_loadn (vs := [vi b.s, vi b.v]) Yd Z Z ((V.blk.grown0 ae).rangeL 0 2 Z) Z (Xd Z Z Z E (Xi L3 (Xb Z Xg) Z (Kg b _) ?_)))
 rintro _ br ⟨rfl, ap⟩
 exact Xd Z Z Z E (wpo_not (b' := !labelOk b) Z Z Z (wpo_pickf (v := vb (!labelOk b)) Z E Z Z (wpo_nil ⟨⟨Z, Z, Z, (cB (by simp [E, bd]))⟩, (Xh ae ap)⟩)))
 rintro bk bt ⟨⟨az, a8, bj, a9⟩, af⟩
 have al := low0 (low0 ak V.grw) af
 refine Xt a9 (fun ac => ?_) (fun ac => ?_)
 refine Xa (wpo_assign (v := vb false) Z Z (wpo_nil (Xm (Ya (⟨vb false, res1 Z Z, ?_, al⟩)))))
 exact cB (Nz ac).symm
 have ai := K5 ac
 have ag := Qx ai
 have aj := K6 ac
 have ah := Qx aj
 refine Xn (Xo (Xa (wpo_loadn (vs := [vi a.s, vi a.v]) Yd az Z (((ab.blk.grown0 V.grw).grown0 af).rangeL 0 2 Z) Z (Xi Mg (Xb Z Xg) Z (Vi a ag _) ?_))))
 rintro _ bu ⟨rfl, am⟩
 refine wpo_move (v := .tuple #[.int .u64 a.s, .int .u64 a.v]) Z Z (wpo_extract (v := .int .u64 a.s) Z Z Z (wpo_extract (v := .int .u64 a.v) Z Z Z (wpo_assign (v := .int .u64 a.s) Z Z (wpo_assign (v := .int .u64 a.v) Z Z (wpo_nil (Xa (wpo_loadn (vs := [vi b.s, vi b.v]) Yd a8 Z (((V.blk.grown0 af).grown0 am).rangeL 0 2 Z) Z (Xi Mg (Xb Z Xg) Z (Vi b ah _) ?_))))))))
 rintro _ bg ⟨rfl, aq⟩
 refine wpo_move (v := .tuple #[.int .u64 b.s, .int .u64 b.v]) Z Z (wpo_extract (v := .int .u64 b.s) Z Z Z (wpo_extract (v := .int .u64 b.v) Z Z Z (wpo_assign (v := .int .u64 b.s) Z Z (wpo_assign (v := .int .u64 b.v) Z Z (wpo_nil (Xu (fun f' w' => (f' 4 = vb ((decide (bits .andNot .u64 a.s b.s = 0)) && (decide (bits .andNot .u64 b.v a.v = 0)))) ∧ bg.grownBy w' none) ?_ ?_))))))
 refine wpo_move (v := .int .u64 a.s) Z Z (wpo_move (v := .int .u64 b.s) Z Z (Xi Xcl (Xb Z (Xb Z Xg)) Z (Ss a.s b.s _) ?_))
 rintro _ bv ⟨rfl, an⟩
 refine wpo_move (v := vb (decide (bits .andNot .u64 a.s b.s = 0))) Z Z ?_
 rcases Xz (decide (bits .andNot .u64 a.s b.s = 0)) with O | O
 have bm := of_decide_eq_true O
 refine Xd Z Z Z O (wpo_move (v := .int .u64 b.v) Z Z (Xd Z Z Z O (wpo_move (v := .int .u64 a.v) Z Z (Xd Z Z Z O (Xi Xcl (Xb Z (Xb Z Xg)) Z (Ss b.v a.v _) ?_)))))
 rintro _ bw ⟨rfl, ar⟩
 exact wpo_pickt (v := vb (decide (bits .andNot .u64 b.v a.v = 0))) Z O Z Z (wpo_assign (v := vb (decide (bits .andNot .u64 b.v a.v = 0))) Z Z (wpo_nil ⟨(cB (by simp [ac, ai, ag, aj, ah, O])), (Xh an ar)⟩))
 have bn := of_decide_eq_false O
 iterate 3 refine Xe rfl rfl rfl O rfl ?_
 exact wpo_pickf (v := vb false) Z O Z Z (wpo_assign (v := vb false) Z Z (wpo_nil ⟨(cB (by simp [ac, ai, ag, aj, ah, O])), an⟩))
 rintro bl bz ⟨ba, au⟩
 refine Xm (⟨vb ((decide (bits .andNot .u64 a.s b.s = 0)) && (decide (bits .andNot .u64 b.v a.v = 0))), res1 Z ba, ?_, (low0 (low0 (low0 al am) aq) au)⟩)
 exact cB (Lx ag ah)
theorem My [Comp] (r : Rt) (w : World) : CallsR Try.prog 97 #[.agg #[vi r.th, vi r.ve, vb r.rd, vb r.wr, vb r.wk]] w (fun v w' => v = vb (rightOk r) ∧ w.grownBy w' none) := by
 refine Xq (n := 33) Try.func97 Z Try.ntmps97 Z ?_
 have ai := World.grownBy.refl w none
 refine Xa (wpo_box (v := .agg #[vi r.th, vi r.ve, vb r.rd, vb r.wr, vb r.wk]) (cs := #[vi r.th, vi r.ve, vb r.rd, vb r.wr, vb r.wk]) Z Z Z ?_)
 intro al aj ac
 have ak := Xy ac ai
 have ag := low0 ai ac.grw
 refine wpo_assign (v := vb false) Z Z (wpo_nil (Xk (Xa (wpo_loadn (vs := [vi r.th, vi r.ve, vb r.rd, vb r.wr, vb r.wk]) Y9 Z Z (ac.blk.rangeL 0 5 Z) Z (wpo_build (ps := []) (v := .agg #[vi 0, vi 0, vb false, vb false, vb false]) Xw (fun _ => by kernel_rfl) Z (wpo_eqs (q := decide (r = Rt.zero)) Z Z Z Z (fun _ => O0 _ _ r Rt.zero _) (fun _ => S6 r Rt.zero _) Z Z (wpo_nil (Xt Z (fun ae => ?_) (fun ae => ?_)))))))))
 have an := of_decide_eq_true ae
 refine Xa (wpo_assign (v := vb true) Z Z (wpo_nil (Xm (Ya (⟨vb true, res1 Z Z, ?_, ag⟩)))))
 simp [rightOk, inR, Bool.and_assoc, ae]
 have ao := of_decide_eq_false ae
 refine Xn (Xo (Xu (fun f' w' => (f' 2 = vb (((((decide (1 ≤ r.th)) && (decide (r.th ≤ 8))) && (decide (0 ≤ r.ve))) && (decide (r.ve ≤ 5))) && (!(r.wk && r.wr)))) ∧ aj = w') ?_ ?_))
 refine wpo_fieldAddr (o' := 0) Qp Z Z Z (wpo_load1 (v := vi r.th) X1 Z (ac.blk.cell Z) Z (wpo_geq (q := decide (1 ≤ r.th)) Z Z Z Z (wpo_move (v := vb (decide (1 ≤ r.th))) Z Z ?_)))
 rcases Xz (decide (1 ≤ r.th)) with O | O
 have ap := of_decide_eq_true O
 refine Xd Z Z Z O (wpo_fieldAddr (o' := 0) Qp Z Z Z (Xd Z Z Z O (wpo_load1 (v := vi r.th) X1 Z (ac.blk.cell Z) Z (Xd Z Z Z O (wpo_leq (q := decide (r.th ≤ 8)) Z Z Z Z (wpo_pickt (v := vb (decide (r.th ≤ 8))) Z O Z Z (wpo_move (v := vb (decide (r.th ≤ 8))) Z Z ?_)))))))
 rcases Xz (decide (r.th ≤ 8)) with V | V
 have aq := of_decide_eq_true V
 refine Xd Z Z Z V (wpo_fieldAddr (o' := 1) J4 Z Z Z (Xd Z Z Z V (wpo_load1 (v := vi r.ve) X1 Z (ac.blk.cell Z) Z (Xd Z Z Z V (wpo_geq (q := decide (0 ≤ r.ve)) Z Z Z Z (wpo_pickt (v := vb (decide (0 ≤ r.ve))) Z V Z Z (wpo_move (v := vb (decide (0 ≤ r.ve))) Z Z ?_)))))))
 rcases Xz (decide (0 ≤ r.ve)) with ab | ab
 have ar := of_decide_eq_true ab
 refine Xd Z Z Z ab (wpo_fieldAddr (o' := 1) J4 Z Z Z (Xd Z Z Z ab (wpo_load1 (v := vi r.ve) X1 Z (ac.blk.cell Z) Z (Xd Z Z Z ab (wpo_leq (q := decide (r.ve ≤ 5)) Z Z Z Z (wpo_pickt (v := vb (decide (r.ve ≤ 5))) Z ab Z Z (wpo_move (v := vb (decide (r.ve ≤ 5))) Z Z ?_)))))))
 rcases Xz (decide (r.ve ≤ 5)) with E | E
 have au := of_decide_eq_true E
 refine Xd Z Z Z E (wpo_fieldAddr (o' := 4) Uw Z Z Z (Xd Z Z Z E (wpo_load1 (v := vb r.wk) Vl Z (ac.blk.cell Z) Z (Xd Z Z Z E (wpo_move (v := vb r.wk) Z Z ?_)))))
 rcases Xz (r.wk) with af | af
 exact Xd Z Z Z af (wpo_fieldAddr (o' := 3) Hh Z Z Z (Xd Z Z Z af (wpo_load1 (v := vb r.wr) Vl Z (ac.blk.cell Z) Z (Xd Z Z Z E (wpo_pickt (v := vb r.wr) Z af Z Z (Xd Z Z Z E (wpo_not (b' := !r.wr) Z Z Z (wpo_pickt (v := vb (!r.wr)) Z E Z Z (wpo_assign (v := vb (!r.wr)) Z Z (wpo_nil ⟨(cB (by simp [ae, O, V, ab, E, af])), Z⟩))))))))))
 exact Xe Z Z Z af Z (Xe Z Z Z af Z (Xd Z Z Z E (wpo_pickf (v := vb false) Z af Z Z (Xd Z Z Z E (wpo_not (b' := true) Z Z Z (wpo_pickt (v := vb true) Z E Z Z (wpo_assign (v := vb true) Z Z (wpo_nil ⟨(cB (by simp [ae, O, V, ab, E, af])), Z⟩))))))))
 have av := of_decide_eq_false E
 iterate 3 refine Xe rfl rfl rfl E rfl ?_
 exact X2 Z Z Z Z (X2 Z Z Z Z (Xe Z Z Z E Z (Xe Z Z Z E Z (wpo_pickf (v := vb false) Z E Z Z (wpo_assign (v := vb false) Z Z (wpo_nil ⟨(cB (by simp [ae, O, V, ab, E])), Z⟩))))))
 have aw := of_decide_eq_false ab
 iterate 3 refine Xe rfl rfl rfl ab rfl ?_
 refine wpo_pickf (v := vb false) Z ab Z Z (wpo_move (v := vb false) Z Z ?_)
 iterate 3 refine Xe rfl rfl rfl rfl rfl ?_
 exact X2 Z Z Z Z (X2 Z Z Z Z (Xe Z Z Z Z Z (Xe Z Z Z Z Z (wpo_pickf (v := vb false) Z Z Z Z (wpo_assign (v := vb false) Z Z (wpo_nil ⟨(cB (by simp [ae, O, V, ab])), Z⟩))))))
 have az := of_decide_eq_false V
 iterate 3 refine Xe rfl rfl rfl V rfl ?_
 refine wpo_pickf (v := vb false) Z V Z Z (wpo_move (v := vb false) Z Z ?_)
 iterate 3 refine Xe rfl rfl rfl rfl rfl ?_
 refine wpo_pickf (v := vb false) Z Z Z Z (wpo_move (v := vb false) Z Z ?_)
 iterate 3 refine Xe rfl rfl rfl rfl rfl ?_
 exact X2 Z Z Z Z (X2 Z Z Z Z (Xe Z Z Z Z Z (Xe Z Z Z Z Z (wpo_pickf (v := vb false) Z Z Z Z (wpo_assign (v := vb false) Z Z (wpo_nil ⟨(cB (by simp [ae, O, V])), Z⟩))))))
 have a8 := of_decide_eq_false O
 iterate 3 refine Xe rfl rfl rfl O rfl ?_
 refine wpo_pickf (v := vb false) Z O Z Z (wpo_move (v := vb false) Z Z ?_)
 iterate 3 refine Xe rfl rfl rfl rfl rfl ?_
 refine wpo_pickf (v := vb false) Z Z Z Z (wpo_move (v := vb false) Z Z ?_)
 iterate 3 refine Xe rfl rfl rfl rfl rfl ?_
 refine wpo_pickf (v := vb false) Z Z Z Z (wpo_move (v := vb false) Z Z ?_)
 iterate 3 refine Xe rfl rfl rfl rfl rfl ?_
 exact X2 Z Z Z Z (X2 Z Z Z Z (Xe Z Z Z Z Z (Xe Z Z Z Z Z (wpo_pickf (v := vb false) Z Z Z Z (wpo_assign (v := vb false) Z Z (wpo_nil ⟨(cB (by simp [ae, O])), Z⟩))))))
 rintro am a9 ⟨ah, rfl⟩
 refine Xm (⟨vb (((((decide (1 ≤ r.th)) && (decide (r.th ≤ 8))) && (decide (0 ≤ r.ve))) && (decide (r.ve ≤ 5))) && (!(r.wk && r.wr))), res1 Z ah, ?_, ag⟩)
 simp [rightOk, inR, Bool.and_assoc, ae]
end Go.Dw.J
end
section
namespace Go.Dw.J
open Go.RowKit Go.Dw Go.Proofs
set_option linter.unusedSectionVars false
set_option maxRecDepth 100000
set_option maxHeartbeats 4000000
set_option linter.unusedSimpArgs false
set_option linter.unusedVariables false
theorem O9 : goFn Try.prog 118 = true := by kernel_rfl
theorem L2 : goFn Try.prog 16 = true := by kernel_rfl
theorem Ue : goFn Try.prog 46 = true := by kernel_rfl
theorem Xey : goFn Try.prog 92 = true := by kernel_rfl
theorem K4 [Comp] (n lo hi : Int) (w : World) : CallsR Try.prog 46 #[vi n, vi lo, vi hi] w (fun v w' => v = vb (inR n lo hi) ∧ w.grownBy w' none) := by
 refine Xq (n := 15) Try.func46 Z Try.ntmps46 Z (Xa (wpo_assign (v := vb false) Z Z (wpo_nil (Xu (fun f' w' => (f' 6 = vb ((decide (lo ≤ n)) && (decide (n ≤ hi)))) ∧ w = w') ?_ ?_))))
 refine wpo_move (v := vi n) Z Z (wpo_move (v := vi lo) Z Z (wpo_geq (q := decide (lo ≤ n)) Z Z Z Z (wpo_move (v := vb (decide (lo ≤ n))) Z Z ?_)))
 rcases Xz (decide (lo ≤ n)) with E | E
 have ab := of_decide_eq_true E
 exact Xd Z Z Z E (wpo_move (v := vi n) Z Z (Xd Z Z Z E (wpo_move (v := vi hi) Z Z (Xd Z Z Z E (wpo_leq (q := decide (n ≤ hi)) Z Z Z Z (wpo_pickt (v := vb (decide (n ≤ hi))) Z E Z Z (wpo_assign (v := vb (decide (n ≤ hi))) Z Z (wpo_nil ⟨(cB (by simp [E])), Z⟩))))))))
 have ac := of_decide_eq_false E
 iterate 3 refine Xe rfl rfl rfl E rfl ?_
 exact wpo_pickf (v := vb false) Z E Z Z (wpo_assign (v := vb false) Z Z (wpo_nil ⟨(cB (by simp [E])), Z⟩))
 rintro V ae ⟨O, rfl⟩
 refine Xm (⟨vb ((decide (lo ≤ n)) && (decide (n ≤ hi))), res1 Z O, ?_, (World.grownBy.refl w none)⟩)
 rfl
theorem Jo [Comp] (n lo hi : Int) (w : World) : CallsR Try.prog 50 #[vi n, vi lo, vi hi] w (fun v w' => v = vb (inR n lo hi) ∧ w.grownBy w' none) := by
 refine Xq (n := 15) Try.func50 Z Try.ntmps50 Z (Xa (wpo_assign (v := vb false) Z Z (wpo_nil (Xu (fun f' w' => (f' 6 = vb ((decide (lo ≤ n)) && (decide (n ≤ hi)))) ∧ w = w') ?_ ?_))))
 refine wpo_move (v := vi lo) Z Z (wpo_move (v := vi n) Z Z (wpo_leq (q := decide (lo ≤ n)) Z Z Z Z (wpo_move (v := vb (decide (lo ≤ n))) Z Z ?_)))
 rcases Xz (decide (lo ≤ n)) with E | E
 have ab := of_decide_eq_true E
 exact Xd Z Z Z E (wpo_move (v := vi n) Z Z (Xd Z Z Z E (wpo_move (v := vi hi) Z Z (Xd Z Z Z E (wpo_leq (q := decide (n ≤ hi)) Z Z Z Z (wpo_pickt (v := vb (decide (n ≤ hi))) Z E Z Z (wpo_assign (v := vb (decide (n ≤ hi))) Z Z (wpo_nil ⟨(cB (by simp [E])), Z⟩))))))))
 have ac := of_decide_eq_false E
 iterate 3 refine Xe rfl rfl rfl E rfl ?_
 exact wpo_pickf (v := vb false) Z E Z Z (wpo_assign (v := vb false) Z Z (wpo_nil ⟨(cB (by simp [E])), Z⟩))
 rintro V ae ⟨O, rfl⟩
 refine Xm (⟨vb ((decide (lo ≤ n)) && (decide (n ≤ hi))), res1 Z O, ?_, (World.grownBy.refl w none)⟩)
 rfl
theorem Kk [Comp] (l : Lab) (w : World) : CallsR Try.prog 16 #[.agg #[vi l.s, vi l.v]] w (fun v w' => v = vb (labelOk l) ∧ w.grownBy w' none) := by
 refine Xq (n := 11) Try.func16 Z Try.ntmps16 Z ?_
 have af := World.grownBy.refl w none
 refine Xa (wpo_box (v := .agg #[vi l.s, vi l.v]) (cs := #[vi l.s, vi l.v]) Z Z Z ?_)
 intro ai ag O
 have ah := Xy O af
 refine wpo_assign (v := vb false) Z Z (wpo_nil (Xu (fun f' w' => (f' 2 = vb (inR l.s 0 3 && inR l.v 0 3)) ∧ ag.grownBy w' none) ?_ ?_))
 refine wpo_fieldAddr (o' := 0) Vg Z Z Z (wpo_load1 (v := vi l.s) X1 Z (O.blk.cell Z) Z (Xi Ue (Xb Z (Xb Z (Xb Z Xg))) Z (K4 l.s 0 3 _) ?_))
 rintro _ ak ⟨rfl, V⟩
 refine wpo_move (v := vb (inR l.s 0 3)) Z Z ?_
 rcases Xz (inR l.s 0 3) with E | E
 refine Xd Z Z Z E (wpo_fieldAddr (o' := 1) Vw Z Z Z (Xd Z Z Z E (wpo_load1 (v := vi l.v) X1 Z ((O.blk.grown0 V).cell Z) Z (Xd Z Z Z E (Xi Ue (Xb Z (Xb Z (Xb Z Xg))) Z (K4 l.v 0 3 _) ?_)))))
 rintro _ al ⟨rfl, ab⟩
 exact wpo_pickt (v := vb (inR l.v 0 3)) Z E Z Z (wpo_assign (v := vb (inR l.v 0 3)) Z Z (wpo_nil ⟨(cB (by simp [E])), (Xh V ab)⟩))
 iterate 3 refine Xe rfl rfl rfl E rfl ?_
 exact wpo_pickf (v := vb false) Z E Z Z (wpo_assign (v := vb false) Z Z (wpo_nil ⟨(cB (by simp [E])), V⟩))
 rintro aj am ⟨ae, ac⟩
 refine Xm (⟨vb (inR l.s 0 3 && inR l.v 0 3), res1 Z ae, ?_, (low0 (low0 af O.grw) ac)⟩)
 rfl
theorem Zg [Comp] (a b : Int) (ha : 0 ≤ a ∧ a ≤ 3) (hb : 0 ≤ b ∧ b ≤ 3) (w : World) : CallsR Try.prog 118 #[vi a, vi b] w (fun v w' => v = vb (l1In a b) ∧ w.grownBy w' none) := by
 refine Xq (n := 17) Try.func118 Z Try.ntmps118 Z (Xa (wpo_assign (v := vb false) Z Z (wpo_nil (Xu (fun f' w' => (f' 4 = vb ((decide (a % 2 ≤ b % 2)) && (decide (a / 2 ≤ b / 2)))) ∧ w = w') ?_ ?_))))
 refine wpo_move (v := vi a) Z Z (wpo_rem (c := a % 2) Z Z (by omega) (by omega) (by omega) Z Z (wpo_move (v := vi b) Z Z (wpo_rem (c := b % 2) Z Z (by omega) (by omega) (by omega) Z Z (wpo_leq (q := decide (a % 2 ≤ b % 2)) Z Z Z Z (wpo_move (v := vb (decide (a % 2 ≤ b % 2))) Z Z ?_)))))
 rcases Xz (decide (a % 2 ≤ b % 2)) with E | E
 have ab := of_decide_eq_true E
 exact Xd Z Z Z E (wpo_move (v := vi a) Z Z (Xd Z Z Z E (wpo_quo (c := a / 2) Z Z (by omega) (by omega) (by omega) Z Z (Xd Z Z Z E (wpo_move (v := vi b) Z Z (Xd Z Z Z E (wpo_quo (c := b / 2) Z Z (by omega) (by omega) (by omega) Z Z (Xd Z Z Z E (wpo_leq (q := decide (a / 2 ≤ b / 2)) Z Z Z Z (wpo_pickt (v := vb (decide (a / 2 ≤ b / 2))) Z E Z Z (wpo_assign (v := vb (decide (a / 2 ≤ b / 2))) Z Z (wpo_nil ⟨(cB (by simp [E])), Z⟩))))))))))))
 have ac := of_decide_eq_false E
 iterate 5 refine Xe rfl rfl rfl E rfl ?_
 exact wpo_pickf (v := vb false) Z E Z Z (wpo_assign (v := vb false) Z Z (wpo_nil ⟨(cB (by simp [E])), Z⟩))
 rintro V ae ⟨O, rfl⟩
 refine Xm (⟨vb ((decide (a % 2 ≤ b % 2)) && (decide (a / 2 ≤ b / 2))), res1 Z O, ?_, (World.grownBy.refl w none)⟩)
 rfl
theorem Rj [Comp] (a b : Lab) (hla : labelOk a = true) (hlb : labelOk b = true) (w : World) : CallsR Try.prog 92 #[.agg #[vi a.s, vi a.v], .agg #[vi b.s, vi b.v]] w (fun v w' => v = vb (flow a b) ∧ w.grownBy w' none) := by
 refine Xq (n := 17) Try.func92 Z Try.ntmps92 Z ?_
 have aj := World.grownBy.refl w none
 obtain ⟨⟨aw, az⟩, ha3, a8⟩ := (Yq a).1 hla
 obtain ⟨⟨hc1, hc2⟩, a9, ba⟩ := (Yq b).1 hlb
 refine Xa (wpo_box (v := .agg #[vi a.s, vi a.v]) (cs := #[vi a.s, vi a.v]) Z Z Z ?_)
 intro an aq V
 have al := Xy V aj
 have ac := low0 aj V.grw
 refine wpo_box (v := .agg #[vi b.s, vi b.v]) (cs := #[vi b.s, vi b.v]) Z Z Z ?_
 intro ao ak O
 have am := Xy O ac
 have ae := Xs O (V.blk).lt
 refine wpo_assign (v := vb false) Z Z (wpo_nil (Xu (fun f' w' => (f' 4 = vb (l1In a.s b.s && l1In b.v a.v)) ∧ ak.grownBy w' none) ?_ ?_))
 refine wpo_fieldAddr (o' := 0) Vg Z Z Z ?_
 have af := (V.blk.grown0 O.grw)
 refine wpo_load1 (v := vi a.s) X1 Z (af.cell Z) Z (wpo_fieldAddr (o' := 0) Vg Z Z Z (wpo_load1 (v := vi b.s) X1 Z (O.blk.cell Z) Z (Xi O9 (Xb Z (Xb Z Xg)) Z (Zg a.s b.s (by omega) (by omega) _) ?_)))
 rintro _ ar ⟨rfl, ab⟩
 refine wpo_move (v := vb (l1In a.s b.s)) Z Z ?_
 rcases Xz (l1In a.s b.s) with E | E
 refine Xd Z Z Z E (wpo_fieldAddr (o' := 1) Vw Z Z Z (Xd Z Z Z E (wpo_load1 (v := vi b.v) X1 Z ((O.blk.grown0 ab).cell Z) Z (Xd Z Z Z E (wpo_fieldAddr (o' := 1) Vw Z Z Z (Xd Z Z Z E (wpo_load1 (v := vi a.v) X1 Z ((af.grown0 ab).cell Z) Z (Xd Z Z Z E (Xi O9 (Xb Z (Xb Z Xg)) Z (Zg b.v a.v (by omega) (by omega) _) ?_)))))))))
 rintro _ au ⟨rfl, ag⟩
 exact wpo_pickt (v := vb (l1In b.v a.v)) Z E Z Z (wpo_assign (v := vb (l1In b.v a.v)) Z Z (wpo_nil ⟨(cB (by simp [E])), (Xh ab ag)⟩))
 iterate 5 refine Xe rfl rfl rfl E rfl ?_
 exact wpo_pickf (v := vb false) Z E Z Z (wpo_assign (v := vb false) Z Z (wpo_nil ⟨(cB (by simp [E])), ab⟩))
 rintro ap av ⟨ai, ah⟩
 refine Xm (⟨vb (l1In a.s b.s && l1In b.v a.v), res1 Z ai, ?_, (low0 (low0 ac O.grw) ah)⟩)
 rfl
theorem Gb [Comp] (a b : Lab) (w : World) : CallsR Try.prog 61 #[.agg #[vi a.s, vi a.v], .agg #[vi b.s, vi b.v]] w (fun v w' => v = vb (labelFlow a b) ∧ w.grownBy w' none) := by
 refine Xq (n := 16) Try.func61 Z Try.ntmps61 Z ?_
 have am := World.grownBy.refl w none
 refine Xa (wpo_box (v := .agg #[vi a.s, vi a.v]) (cs := #[vi a.s, vi a.v]) Z Z Z ?_)
 intro aq av ac
 have ao := Xy ac am
 have af := low0 am ac.grw
 refine wpo_box (v := .agg #[vi b.s, vi b.v]) (cs := #[vi b.s, vi b.v]) Z Z Z ?_
 intro ar an V
 have ap := Xy V af
 have ag := Xs V (ac.blk).lt
 refine wpo_assign (v := vb false) Z Z (wpo_nil (Xu (fun f' w' => (f' 4 = vb ((labelOk a && labelOk b) && flow a b)) ∧ an.grownBy w' none) ?_ ?_))
 have ah := (ac.blk.grown0 V.grw)
 refine wpo_loadn (vs := [vi a.s, vi a.v]) Yd Z Z (ah.rangeL 0 2 Z) Z (Xi L2 (Xb Z Xg) Z (Kk a _) ?_)
 rintro _ aw ⟨rfl, ab⟩
 refine wpo_move (v := vb (labelOk a)) Z Z ?_
 rcases Xz (labelOk a) with E | E
 refine Xd Z Z Z E ?_
 have ai := (V.blk.grown0 ab)
 refine wpo_loadn (vs := [vi b.s, vi b.v]) Yd Z Z (ai.rangeL 0 2 Z) Z (Xd Z Z Z E (Xi L2 (Xb Z Xg) Z (Kk b _) ?_))
 rintro _ az ⟨rfl, ae⟩
 refine wpo_pickt (v := vb (labelOk b)) Z E Z Z (wpo_move (v := vb (labelOk b)) Z Z ?_)
 rcases Xz (labelOk b) with O | O
 refine Xd Z Z Z O (wpo_loadn (vs := [vi a.s, vi a.v]) Yd Z Z (((ah.grown0 ab).grown0 ae).rangeL 0 2 Z) Z (Xd Z Z Z O (wpo_loadn (vs := [vi b.s, vi b.v]) Yd Z Z ((ai.grown0 ae).rangeL 0 2 Z) Z (Xd Z Z Z O (Xi Xey (Xb Z (Xb Z Xg)) Z (Rj a b E O _) ?_)))))
 rintro _ a8 ⟨rfl, aj⟩
 exact wpo_pickt (v := vb (flow a b)) Z O Z Z (wpo_assign (v := vb (flow a b)) Z Z (wpo_nil ⟨(cB (by simp [E, O])), (Xh (Xh ab ae) aj)⟩))
 iterate 3 refine Xe rfl rfl rfl O rfl ?_
 exact wpo_pickf (v := vb false) Z O Z Z (wpo_assign (v := vb false) Z Z (wpo_nil ⟨(cB (by simp [E, O])), (Xh ab ae)⟩))
 refine Xe Z Z Z E Z (Xe Z Z Z E Z (wpo_pickf (v := vb false) Z E Z Z (wpo_move (v := vb false) Z Z ?_)))
 iterate 3 refine Xe rfl rfl rfl rfl rfl ?_
 exact wpo_pickf (v := vb false) Z Z Z Z (wpo_assign (v := vb false) Z Z (wpo_nil ⟨(cB (by simp [E])), ab⟩))
 rintro au a9 ⟨al, ak⟩
 refine Xm (⟨vb ((labelOk a && labelOk b) && flow a b), res1 Z al, ?_, (low0 (low0 af V.grw) ak)⟩)
 rfl
theorem Wh [Comp] (r : Rt) (w : World) : CallsR Try.prog 94 #[.agg #[vi r.th, vi r.ve, vb r.rd, vb r.wr, vb r.wk]] w (fun v w' => v = vb (rightOk r) ∧ w.grownBy w' none) := by
 refine Xq (n := 26) Try.func94 Z Try.ntmps94 Z ?_
 have al := World.grownBy.refl w none
 refine Xa (wpo_box (v := .agg #[vi r.th, vi r.ve, vb r.rd, vb r.wr, vb r.wk]) (cs := #[vi r.th, vi r.ve, vb r.rd, vb r.wr, vb r.wk]) Z Z Z ?_)
 intro ao am ac
 have an := Xy ac al
 have ag := low0 al ac.grw
 refine wpo_assign (v := vb false) Z Z (wpo_nil (Xk (Xa (wpo_fieldAddr (o' := 0) Qp Z Z Z (wpo_load1 (v := vi r.th) X1 Z (ac.blk.cell Z) Z (wpo_eql (q := decide (r.th = 0)) Z Z Z Z (wpo_nil (Xt Z (fun V => ?_) (fun V => ?_)))))))))
 have aq := of_decide_eq_true V
 refine Xa (wpo_loadn (vs := [vi r.th, vi r.ve, vb r.rd, vb r.wr, vb r.wk]) Y9 Z Z (ac.blk.rangeL 0 5 Z) Z (wpo_build (ps := []) (v := .agg #[vi 0, vi 0, vb false, vb false, vb false]) Xw (fun _ => by kernel_rfl) Z (wpo_eqs (q := decide (r = Rt.zero)) Z Z Z Z (fun _ => O0 _ _ r Rt.zero _) (fun _ => S6 r Rt.zero _) Z Z (wpo_assign (v := vb (decide (r = Rt.zero))) Z Z (wpo_nil (Xm (Ya (⟨vb (decide (r = Rt.zero)), res1 Z Z, ?_, ag⟩))))))))
 exact cB (I4 V)
 have ar := of_decide_eq_false V
 refine Xn (Xo (Xu (fun f' w' => (f' 2 = vb ((inR r.th 1 8 && inR r.ve 0 5) && (!(r.wk && r.wr)))) ∧ am.grownBy w' none) ?_ ?_))
 refine wpo_fieldAddr (o' := 0) Qp Z Z Z (wpo_load1 (v := vi r.th) X1 Z (ac.blk.cell Z) Z (Xi Ue (Xb Z (Xb Z (Xb Z Xg))) Z (K4 r.th 1 8 _) ?_))
 rintro _ au ⟨rfl, ae⟩
 refine wpo_move (v := vb (inR r.th 1 8)) Z Z ?_
 rcases Xz (inR r.th 1 8) with O | O
 refine Xd Z Z Z O (wpo_fieldAddr (o' := 1) J4 Z Z Z (Xd Z Z Z O ?_))
 have ah := (ac.blk.grown0 ae)
 refine wpo_load1 (v := vi r.ve) X1 Z (ah.cell Z) Z (Xd Z Z Z O (Xi Ue (Xb Z (Xb Z (Xb Z Xg))) Z (K4 r.ve 0 5 _) ?_))
 rintro _ av ⟨rfl, af⟩
 refine wpo_pickt (v := vb (inR r.ve 0 5)) Z O Z Z (wpo_move (v := vb (inR r.ve 0 5)) Z Z ?_)
 rcases Xz (inR r.ve 0 5) with E | E
 refine Xd Z Z Z E (wpo_fieldAddr (o' := 4) Uw Z Z Z (Xd Z Z Z E ?_))
 have ai := (ah.grown0 af)
 refine wpo_load1 (v := vb r.wk) Vl Z (ai.cell Z) Z (Xd Z Z Z E (wpo_move (v := vb r.wk) Z Z ?_))
 rcases Xz (r.wk) with ab | ab
 exact Xd Z Z Z ab (wpo_fieldAddr (o' := 3) Hh Z Z Z (Xd Z Z Z ab (wpo_load1 (v := vb r.wr) Vl Z (ai.cell Z) Z (Xd Z Z Z E (wpo_pickt (v := vb r.wr) Z ab Z Z (Xd Z Z Z E (wpo_not (b' := !r.wr) Z Z Z (wpo_pickt (v := vb (!r.wr)) Z E Z Z (wpo_assign (v := vb (!r.wr)) Z Z (wpo_nil ⟨(cB (by simp [V, O, E, ab])), (Xh ae af)⟩))))))))))
 exact Xe Z Z Z ab Z (Xe Z Z Z ab Z (Xd Z Z Z E (wpo_pickf (v := vb false) Z ab Z Z (Xd Z Z Z E (wpo_not (b' := true) Z Z Z (wpo_pickt (v := vb true) Z E Z Z (wpo_assign (v := vb true) Z Z (wpo_nil ⟨(cB (by simp [V, O, E, ab])), (Xh ae af)⟩))))))))
 iterate 3 refine Xe rfl rfl rfl E rfl ?_
 exact X2 Z Z Z Z (X2 Z Z Z Z (Xe Z Z Z E Z (Xe Z Z Z E Z (wpo_pickf (v := vb false) Z E Z Z (wpo_assign (v := vb false) Z Z (wpo_nil ⟨(cB (by simp [V, O, E])), (Xh ae af)⟩))))))
 iterate 3 refine Xe rfl rfl rfl O rfl ?_
 refine wpo_pickf (v := vb false) Z O Z Z (wpo_move (v := vb false) Z Z ?_)
 iterate 3 refine Xe rfl rfl rfl rfl rfl ?_
 exact X2 Z Z Z Z (X2 Z Z Z Z (Xe Z Z Z Z Z (Xe Z Z Z Z Z (wpo_pickf (v := vb false) Z Z Z Z (wpo_assign (v := vb false) Z Z (wpo_nil ⟨(cB (by simp [V, O])), ae⟩))))))
 rintro ap aw ⟨ak, aj⟩
 refine Xm (⟨vb ((inR r.th 1 8 && inR r.ve 0 5) && (!(r.wk && r.wr))), res1 Z ak, ?_, (low0 ag aj)⟩)
 exact cB (I3 V)
end Go.Dw.J
end
section
namespace Go.Dw.J
open Go.RowKit Go.Dw Go.Proofs
set_option linter.unusedSectionVars false
set_option maxRecDepth 100000
set_option maxHeartbeats 4000000
set_option linter.unusedSimpArgs false
set_option linter.unusedVariables false
theorem G2 : elemSz Try.prog 32 = some 5 := by kernel_rfl
theorem Xa2 : fieldOff Try.prog 74 2 = some 2 := by kernel_rfl
theorem Mm : mkTy Try.prog 32 = some (74, 5, 24, some (.agg #[.int .i64 0, .int .i64 0, .bool false, .bool false, .bool false])) := by kernel_rfl
theorem Lw : zeroTy Try.prog 74 = some (.agg #[.int .i64 0, .int .i64 0, .bool false, .bool false, .bool false]) := by kernel_rfl
end Go.Dw.J
end
section
namespace Go.Dw.J
open Go.RowKit Go.Dw Go.Proofs
set_option linter.unusedSectionVars false
set_option maxRecDepth 100000
set_option maxHeartbeats 4000000
set_option linter.unusedSimpArgs false
set_option linter.unusedVariables false
theorem O3 : elemSz Try.prog 22 = some 1 := by kernel_rfl
theorem K0 : elemSz Try.prog 33 = some 1 := by kernel_rfl
theorem Vh : fieldOff Try.prog 97 0 = some 0 := by kernel_rfl
theorem Nw : fieldOff Try.prog 97 1 = some 1 := by kernel_rfl
theorem Y7 : goFn Try.prog 60 = true := by kernel_rfl
theorem G5 : oneTy Try.prog 22 = true := by kernel_rfl
theorem Xdm : oneTy Try.prog 5 = true := by kernel_rfl
theorem Yj [Comp] (p n : Int) (hp : 0 ≤ p ∧ p ≤ 1099511627776) (lo R : Nat) (bs : List Int) (a : Option Addr) (c : Nat) (w : World) (hR : Blk w R 97 #[.slice a bs.length c, vi p]) (hlo : lo ≤ R) (hs : SlLt lo w a 1 (bs.map bcell)) (hb : ∀ b ∈ bs, 0 ≤ b ∧ b ≤ 255) (hn : bs.length ≤ 1048576) : CallsR Try.prog 60 #[pt R 0, vi n] w (fun v w' => ∃ k : Int, v = vi k ∧ 0 ≤ k ∧ (k < n ∨ k = 0) ∧ Blk w' R 97 #[.slice a bs.length c, vi (p + 1)] ∧ w.grownBy w' (some R)) := by
 refine Xq (n := 99) Try.func60 Z Try.ntmps60 Z ?_
 have hRlt := hR.lt
 refine Xa (wpo_assign (v := vi 0) Z Z (wpo_nil (Xa (wpo_move (v := pt R 0) Z Z (wpo_move (v := pt R 0) Z Z (wpo_nilCheck Z Z (wpo_fieldAddr (o' := 1) Nw Z Z Z (wpo_load1 (v := vi p) X1 Z (hR.cell Z) Z (wpo_add (c := p + 1) Z Z (by omega) (by omega) (by omega) Z (wpo_nilCheck Z Z (wpo_fieldAddr (o' := 1) Nw Z Z Z (wpo_store1 (v := vi (p + 1)) (cs' := #[.slice a bs.length c, vi (p + 1)]) X1 Z Z Z hR (Nat.le_of_ble_eq_true Z) Z ?_))))))))))))
 intro aw V
 have ac := Xh (World.grownBy.refl w (some R)) V.grw
 refine wpo_nil (Xk (Xu (fun f' w' => (f' 0 = pt R 0 ∧ f' 1 = vi n ∧ f' 4 = vi 0 ∧ f' 24 = vb ((decide (n < 1)) || (decide ((bs.length : Int) = 0)))) ∧ aw = w') ?_ ?_))
 refine wpo_move (v := vi n) Z Z (wpo_lss (q := decide (n < 1)) Z Z Z Z (wpo_move (v := vb (decide (n < 1))) Z Z ?_))
 rcases Xz (decide (n < 1)) with ab | ab
 have ey := of_decide_eq_true ab
 iterate 6 refine Xe rfl rfl rfl ab rfl ?_
 exact wpo_pickt (v := vb true) Z ab Z Z (wpo_nil ⟨⟨Z, Z, Z, (cB (by simp [ab]))⟩, Z⟩)
 have ez := of_decide_eq_false ab
 refine Xd Z Z Z ab (wpo_move (v := pt R 0) Z Z (Xd Z Z Z ab (wpo_nilCheck Z Z (Xd Z Z Z ab (wpo_fieldAddr (o' := 0) Vh Z Z Z (Xd Z Z Z ab (wpo_load1 (v := .slice a bs.length c) G5 Z (V.blk.cell Z) Z (Xd Z Z Z ab (wpo_len (by kernel_rfl) Z Z (Xd Z Z Z ab (wpo_eql (q := decide ((bs.length : Int) = 0)) Z Z Z Z (wpo_pickf (v := vb (decide ((bs.length : Int) = 0))) Z ab Z Z ?_))))))))))))
 exact wpo_nil ⟨⟨Z, Z, Z, (cB (by simp [ab]))⟩, Z⟩
 rintro ex fi ⟨⟨ae, av, ew, dp⟩, rfl⟩
 refine Xt dp (fun ag => ?_) (fun ag => ?_)
 refine Xa (wpo_assign (v := vi 0) Z Z (wpo_nil (Xm (Ya ?_))))
 refine ⟨vi 0, res1 Z Z, 0, Z, by omega, by omega, V.blk, ac⟩
 have dq := K5 ag
 have fa := of_decide_eq_false dq
 have dr := K6 ag
 have fb := of_decide_eq_false dr
 refine Xn (Xo (Xa (wpo_move (v := pt R 0) ae Z (wpo_nilCheck Z Z (wpo_fieldAddr (o' := 1) Nw Z Z Z (wpo_load1 (v := vi (p + 1)) X1 Z (V.blk.cell Z) Z (wpo_sub (c := (p + 1) - 1) Z Z (by omega) (by omega) (by omega) Z (wpo_assign (v := vi ((p + 1) - 1)) Z Z (wpo_nil (Xk (Xa (wpo_move (v := vi ((p + 1) - 1)) Z Z ?_))))))))))))
 refine wpo_move (v := pt R 0) ae Z (wpo_nilCheck Z Z (wpo_fieldAddr (o' := 0) Vh Z Z Z (wpo_load1 (v := .slice a bs.length c) G5 Z (V.blk.cell Z) Z (wpo_len (by kernel_rfl) Z Z (wpo_lss (q := decide ((p + 1) - 1 < (bs.length : Int))) Z Z Z Z (wpo_nil (Xt Z (fun ah => ?_) (fun ah => ?_))))))))
 have fc := of_decide_eq_true ah
 refine Xa (wpo_move (v := pt R 0) ae Z (wpo_nilCheck Z Z (wpo_fieldAddr (o' := 0) Vh Z Z Z (wpo_load1 (v := .slice a bs.length c) G5 Z (V.blk.cell Z) Z (wpo_move (v := vi ((p + 1) - 1)) Z Z ?_)))))
 obtain ⟨af, aq⟩ := Qo (l := bs) (i := ((p + 1) - 1).toNat) (by omega)
 obtain ⟨eu, ff, fe, az, dc, dz, di⟩ := SlLt.at hs (Yw aq)
 have dv := hb af (List.mem_of_getElem? aq)
 refine X6 O3 Z Z az dc (by omega) (by omega) Z (wpo_load1 (v := .int .u8 af) Xdm Z ((Q1 di ac (Qn (by omega))) 0 _ Z) Z (wpo_conv (P := Try.prog) (k' := .i64) Z (by kernel_rfl) (by kernel_rfl) (Uc (by omega) (by omega)) Z (wpo_move (v := vi n) av Z ?_)))
 have d6 := Int.emod_nonneg af (show n ≠ 0 by omega)
 have d7 := Int.emod_lt_of_pos af (show 0 < n by omega)
 refine wpo_rem (c := af % n) Z Z (by omega) (by omega) (by omega) Z Z (wpo_assign (v := vi (af % n)) Z Z (wpo_nil (Xm (Ya ?_))))
 refine ⟨vi (af % n), res1 Z Z, (af % n), Z, by omega, by omega, V.blk, ac⟩
 have fd := of_decide_eq_false ah
 refine Xn (Xo (Xk ?_))
 have d8 := Int.emod_nonneg ((p + 1) - 1) (show (bs.length : Int) ≠ 0 by omega)
 have d9 := Int.emod_lt_of_pos ((p + 1) - 1) (show 0 < (bs.length : Int) by omega)
 obtain ⟨E, ar⟩ := Qo (l := bs) (i := (((p + 1) - 1) % (bs.length : Int)).toNat) (by omega)
 obtain ⟨dm, fg, dt, a8, de, d0, dk⟩ := SlLt.at hs (Yw ar)
 have dw := hb E (List.mem_of_getElem? ar)
 have ea := Int.emod_nonneg (((p + 1) - 1) * 7 + 3) (show (bs.length : Int) ≠ 0 by omega)
 have ed := Int.emod_lt_of_pos (((p + 1) - 1) * 7 + 3) (show 0 < (bs.length : Int) by omega)
 obtain ⟨O, au⟩ := Qo (l := bs) (i := ((((p + 1) - 1) * 7 + 3) % (bs.length : Int)).toNat) (by omega)
 obtain ⟨dn, fh, du, a9, dh, d5, dl⟩ := SlLt.at hs (Yw au)
 have dx := hb O (List.mem_of_getElem? au)
 have ee := Int.ediv_nonneg (show 0 ≤ ((p + 1) - 1) by omega) (show 0 ≤ (bs.length : Int) by omega)
 have ef := Int.ediv_le_self (bs.length : Int) (show 0 ≤ ((p + 1) - 1) by omega)
 refine Yl (m := 44) (vals := [(47, pt R 0), (48, pt R 0), (49, pt R 0), (50, .slice a bs.length c), (51, vi ((p + 1) - 1)), (52, pt R 0), (53, pt R 0), (54, pt R 0), (55, .slice a bs.length c), (56, vi (bs.length : Int)), (57, vi (((p + 1) - 1) % (bs.length : Int))), (58, pt dm dt), (59, .int .u8 E), (60, vi E), (61, vi (E * 131)), (62, pt R 0), (63, pt R 0), (64, pt R 0), (65, .slice a bs.length c), (66, vi ((p + 1) - 1)), (67, vi (((p + 1) - 1) * 7)), (68, vi (((p + 1) - 1) * 7 + 3)), (69, pt R 0), (70, pt R 0), (71, pt R 0), (72, .slice a bs.length c), (73, vi (bs.length : Int)), (74, vi ((((p + 1) - 1) * 7 + 3) % (bs.length : Int))), (75, pt dn du), (76, .int .u8 O), (77, vi O), (78, vi (O * 1117)), (79, vi (E * 131 + (O * 1117))), (80, vi ((p + 1) - 1)), (81, vi (((p + 1) - 1) * 29)), (82, vi (E * 131 + (O * 1117) + (((p + 1) - 1) * 29))), (83, vi ((p + 1) - 1)), (84, pt R 0), (85, pt R 0), (86, pt R 0), (87, .slice a bs.length c), (88, vi (bs.length : Int)), (89, vi (((p + 1) - 1) / (bs.length : Int))), (90, vi ((((p + 1) - 1) / (bs.length : Int)) * 53))]) (fun w' => aw.grownBy w' none) Yu (by kernel_rfl) (Xx _) ?_ ?_
 refine Xc Z (fun fj ba => ?_) ?_
 exact wpo_move (v := pt R 0) ae Z (wpo_nil ⟨Z, ba⟩)
 refine Xc Z (fun fk bc => ?_) ?_
 exact wpo_nilCheck Z Z (wpo_nil ⟨Z, bc⟩)
 refine Xc Z (fun fm bd => ?_) ?_
 exact wpo_fieldAddr (o' := 0) Vh Z Z Z (wpo_nil ⟨Z, bd⟩)
 refine Xc Z (fun fp ai => ?_) ?_
 exact wpo_load1 (v := .slice a bs.length c) G5 Z ((V.blk.grown0 ai).cell Z) Z (wpo_nil ⟨Z, ai⟩)
 refine Xc Z (fun fq be => ?_) ?_
 exact wpo_move (v := vi ((p + 1) - 1)) Z Z (wpo_nil ⟨Z, be⟩)
 refine Xc Z (fun ft bf => ?_) ?_
 exact wpo_move (v := pt R 0) ae Z (wpo_nil ⟨Z, bf⟩)
 refine Xc Z (fun fu bg => ?_) ?_
 exact wpo_nilCheck Z Z (wpo_nil ⟨Z, bg⟩)
 refine Xc Z (fun fv bh => ?_) ?_
 exact wpo_fieldAddr (o' := 0) Vh Z Z Z (wpo_nil ⟨Z, bh⟩)
 refine Xc Z (fun fw aj => ?_) ?_
 exact wpo_load1 (v := .slice a bs.length c) G5 Z ((V.blk.grown0 aj).cell Z) Z (wpo_nil ⟨Z, aj⟩)
 refine Xc Z (fun fx bi => ?_) ?_
 exact wpo_len (by kernel_rfl) Z Z (wpo_nil ⟨Z, bi⟩)
 refine Xc Z (fun fy bj => ?_) ?_
 exact wpo_rem (c := ((p + 1) - 1) % (bs.length : Int)) Z Z (by omega) (by omega) (by omega) Z Z (wpo_nil ⟨Z, bj⟩)
 refine Xc Z (fun fz bk => ?_) ?_
 exact X6 O3 Z Z a8 de (by omega) (by omega) Z (wpo_nil ⟨Z, bk⟩)
 refine Xc Z (fun f7 ak => ?_) ?_
 exact wpo_load1 (v := .int .u8 E) Xdm Z ((Q1 dk (low0 ac ak) (Qn (by omega))) 0 _ Z) Z (wpo_nil ⟨Z, ak⟩)
 refine Xc Z (fun f8 bl => ?_) ?_
 exact wpo_conv (P := Try.prog) (k' := .i64) Z (by kernel_rfl) (by kernel_rfl) (Uc (by omega) (by omega)) Z (wpo_nil ⟨Z, bl⟩)
 refine Xc Z (fun f9 bm => ?_) ?_
 exact wpo_mul (c := E * 131) Z Z Z (by omega) (by omega) Z (wpo_nil ⟨Z, bm⟩)
 refine Xc Z (fun gb bn => ?_) ?_
 exact wpo_move (v := pt R 0) ae Z (wpo_nil ⟨Z, bn⟩)
 refine Xc Z (fun gc bp => ?_) ?_
 exact wpo_nilCheck Z Z (wpo_nil ⟨Z, bp⟩)
 refine Xc Z (fun gf bq => ?_) ?_
 exact wpo_fieldAddr (o' := 0) Vh Z Z Z (wpo_nil ⟨Z, bq⟩)
 refine Xc Z (fun gg al => ?_) ?_
 exact wpo_load1 (v := .slice a bs.length c) G5 Z ((V.blk.grown0 al).cell Z) Z (wpo_nil ⟨Z, al⟩)
 refine Xc Z (fun gh br => ?_) ?_
 exact wpo_move (v := vi ((p + 1) - 1)) Z Z (wpo_nil ⟨Z, br⟩)
 refine Xc Z (fun gi bt => ?_) ?_
 exact wpo_mul (c := ((p + 1) - 1) * 7) Z Z Z (by omega) (by omega) Z (wpo_nil ⟨Z, bt⟩)
 refine Xc Z (fun gj bu => ?_) ?_
 exact wpo_add (c := ((p + 1) - 1) * 7 + 3) Z Z (by omega) (by omega) (by omega) Z (wpo_nil ⟨Z, bu⟩)
 refine Xc Z (fun gl bv => ?_) ?_
 exact wpo_move (v := pt R 0) ae Z (wpo_nil ⟨Z, bv⟩)
 refine Xc Z (fun gm bw => ?_) ?_
 exact wpo_nilCheck Z Z (wpo_nil ⟨Z, bw⟩)
 refine Xc Z (fun gp bz => ?_) ?_
 exact wpo_fieldAddr (o' := 0) Vh Z Z Z (wpo_nil ⟨Z, bz⟩)
 refine Xc Z (fun gq am => ?_) ?_
 exact wpo_load1 (v := .slice a bs.length c) G5 Z ((V.blk.grown0 am).cell Z) Z (wpo_nil ⟨Z, am⟩)
 refine Xc Z (fun gr ca => ?_) ?_
 exact wpo_len (by kernel_rfl) Z Z (wpo_nil ⟨Z, ca⟩)
 refine Xc Z (fun gt cc => ?_) ?_
 exact wpo_rem (c := (((p + 1) - 1) * 7 + 3) % (bs.length : Int)) Z Z (by omega) (by omega) (by omega) Z Z (wpo_nil ⟨Z, cc⟩)
 refine Xc Z (fun gu cd => ?_) ?_
 exact X6 O3 Z Z a9 dh (by omega) (by omega) Z (wpo_nil ⟨Z, cd⟩)
 refine Xc Z (fun gv an => ?_) ?_
 exact wpo_load1 (v := .int .u8 O) Xdm Z ((Q1 dl (low0 ac an) (Qn (by omega))) 0 _ Z) Z (wpo_nil ⟨Z, an⟩)
 refine Xc Z (fun gw ce => ?_) ?_
 exact wpo_conv (P := Try.prog) (k' := .i64) Z (by kernel_rfl) (by kernel_rfl) (Uc (by omega) (by omega)) Z (wpo_nil ⟨Z, ce⟩)
 refine Xc Z (fun gx cg => ?_) ?_
 exact wpo_mul (c := O * 1117) Z Z Z (by omega) (by omega) Z (wpo_nil ⟨Z, cg⟩)
 refine Xc Z (fun gy cj => ?_) ?_
 exact wpo_add (c := E * 131 + (O * 1117)) Z Z (by omega) (by omega) (by omega) Z (wpo_nil ⟨Z, cj⟩)
 refine Xc Z (fun gz ck => ?_) ?_
 exact wpo_move (v := vi ((p + 1) - 1)) Z Z (wpo_nil ⟨Z, ck⟩)
 refine Xc Z (fun g4 cm => ?_) ?_
 exact wpo_mul (c := ((p + 1) - 1) * 29) Z Z Z (by omega) (by omega) Z (wpo_nil ⟨Z, cm⟩)
 refine Xc Z (fun g7 cn => ?_) ?_
 exact wpo_add (c := E * 131 + (O * 1117) + (((p + 1) - 1) * 29)) Z Z (by omega) (by omega) (by omega) Z (wpo_nil ⟨Z, cn⟩)
 refine Xc Z (fun g8 co => ?_) ?_
 exact wpo_move (v := vi ((p + 1) - 1)) Z Z (wpo_nil ⟨Z, co⟩)
 refine Xc Z (fun g9 cw => ?_) ?_
 exact wpo_move (v := pt R 0) ae Z (wpo_nil ⟨Z, cw⟩)
 refine Xc Z (fun ia cx => ?_) ?_
 exact wpo_nilCheck Z Z (wpo_nil ⟨Z, cx⟩)
 refine Xc Z (fun ib cy => ?_) ?_
 exact wpo_fieldAddr (o' := 0) Vh Z Z Z (wpo_nil ⟨Z, cy⟩)
 refine Xc Z (fun ic ao => ?_) ?_
 exact wpo_load1 (v := .slice a bs.length c) G5 Z ((V.blk.grown0 ao).cell Z) Z (wpo_nil ⟨Z, ao⟩)
 refine Xc Z (fun ie cz => ?_) ?_
 exact wpo_len (by kernel_rfl) Z Z (wpo_nil ⟨Z, cz⟩)
 refine Xc Z (fun ig da => ?_) ?_
 exact wpo_quo (c := ((p + 1) - 1) / (bs.length : Int)) Z Z (by omega) (by omega) (by omega) Z Z (wpo_nil ⟨Z, da⟩)
 refine Xc Z (fun ii db => ?_) ?_
 exact wpo_mul (c := (((p + 1) - 1) / (bs.length : Int)) * 53) Z Z Z (by omega) (by omega) Z (wpo_nil ⟨Z, db⟩)
 exact Y2
 intro ij ap
 refine wpo_add (c := E * 131 + (O * 1117) + (((p + 1) - 1) * 29) + ((((p + 1) - 1) / (bs.length : Int)) * 53)) Z Z (by omega) (by omega) (by omega) Z (wpo_assign (v := vi (E * 131 + (O * 1117) + (((p + 1) - 1) * 29) + ((((p + 1) - 1) / (bs.length : Int)) * 53))) Z Z (wpo_nil (Xo (Xa (wpo_move (v := vi (E * 131 + (O * 1117) + (((p + 1) - 1) * 29) + ((((p + 1) - 1) / (bs.length : Int)) * 53))) Z Z (wpo_move (v := vi (E * 131 + (O * 1117) + (((p + 1) - 1) * 29) + ((((p + 1) - 1) / (bs.length : Int)) * 53))) Z Z (wpo_quo (c := (E * 131 + (O * 1117) + (((p + 1) - 1) * 29) + ((((p + 1) - 1) / (bs.length : Int)) * 53)) / 64) Z Z (by omega) (by omega) (by omega) Z Z ?_)))))))
 have ej := Xb4 (x := E * 131 + (O * 1117) + (((p + 1) - 1) * 29) + ((((p + 1) - 1) / (bs.length : Int)) * 53)) (y := (E * 131 + (O * 1117) + (((p + 1) - 1) * 29) + ((((p + 1) - 1) / (bs.length : Int)) * 53)) / 64) (by omega) (by omega) (by omega) (by omega)
 refine wpo_bin (u := vi (E * 131 + (O * 1117) + (((p + 1) - 1) * 29) + ((((p + 1) - 1) / (bs.length : Int)) * 53))) (u' := vi ((E * 131 + (O * 1117) + (((p + 1) - 1) * 29) + ((((p + 1) - 1) / (bs.length : Int)) * 53)) / 64)) (v := vi (bits .xor .i64 (E * 131 + (O * 1117) + (((p + 1) - 1) * 29) + ((((p + 1) - 1) / (bs.length : Int)) * 53)) ((E * 131 + (O * 1117) + (((p + 1) - 1) * 29) + ((((p + 1) - 1) / (bs.length : Int)) * 53)) / 64))) Z Z Z Z (fun _ => by rw [binOp_xor, intBits_xor]; rfl) (fun _ _ => eqGuard_at_int ..) Z (wpo_assign (v := vi (bits .xor .i64 (E * 131 + (O * 1117) + (((p + 1) - 1) * 29) + ((((p + 1) - 1) / (bs.length : Int)) * 53)) ((E * 131 + (O * 1117) + (((p + 1) - 1) * 29) + ((((p + 1) - 1) / (bs.length : Int)) * 53)) / 64))) Z Z (wpo_nil (Xa (wpo_move (v := vi (bits .xor .i64 (E * 131 + (O * 1117) + (((p + 1) - 1) * 29) + ((((p + 1) - 1) / (bs.length : Int)) * 53)) ((E * 131 + (O * 1117) + (((p + 1) - 1) * 29) + ((((p + 1) - 1) / (bs.length : Int)) * 53)) / 64))) Z Z (wpo_move (v := vi n) av Z ?_)))))
 have eh := Int.emod_nonneg (bits .xor .i64 (E * 131 + (O * 1117) + (((p + 1) - 1) * 29) + ((((p + 1) - 1) / (bs.length : Int)) * 53)) ((E * 131 + (O * 1117) + (((p + 1) - 1) * 29) + ((((p + 1) - 1) / (bs.length : Int)) * 53)) / 64)) (show n ≠ 0 by omega)
 have ei := Int.emod_lt_of_pos (bits .xor .i64 (E * 131 + (O * 1117) + (((p + 1) - 1) * 29) + ((((p + 1) - 1) / (bs.length : Int)) * 53)) ((E * 131 + (O * 1117) + (((p + 1) - 1) * 29) + ((((p + 1) - 1) / (bs.length : Int)) * 53)) / 64)) (show 0 < n by omega)
 refine wpo_rem (c := (bits .xor .i64 (E * 131 + (O * 1117) + (((p + 1) - 1) * 29) + ((((p + 1) - 1) / (bs.length : Int)) * 53)) ((E * 131 + (O * 1117) + (((p + 1) - 1) * 29) + ((((p + 1) - 1) / (bs.length : Int)) * 53)) / 64)) % n) Z Z (by omega) (by omega) (by omega) Z Z (wpo_assign (v := vi ((bits .xor .i64 (E * 131 + (O * 1117) + (((p + 1) - 1) * 29) + ((((p + 1) - 1) / (bs.length : Int)) * 53)) ((E * 131 + (O * 1117) + (((p + 1) - 1) * 29) + ((((p + 1) - 1) / (bs.length : Int)) * 53)) / 64)) % n)) Z Z (wpo_nil (Xm ?_)))
 refine ⟨vi ((bits .xor .i64 (E * 131 + (O * 1117) + (((p + 1) - 1) * 29) + ((((p + 1) - 1) / (bs.length : Int)) * 53)) ((E * 131 + (O * 1117) + (((p + 1) - 1) * 29) + ((((p + 1) - 1) / (bs.length : Int)) * 53)) / 64)) % n), res1 Z Z, ((bits .xor .i64 (E * 131 + (O * 1117) + (((p + 1) - 1) * 29) + ((((p + 1) - 1) / (bs.length : Int)) * 53)) ((E * 131 + (O * 1117) + (((p + 1) - 1) * 29) + ((((p + 1) - 1) / (bs.length : Int)) * 53)) / 64)) % n), Z, by omega, by omega, (V.blk.grown0 ap), (low0 ac ap)⟩
theorem Tf [Comp] (p : Int) (hp : 0 ≤ p ∧ p ≤ 1000000000000) (lo R : Nat) (bs : List Int) (a : Option Addr) (c : Nat) (w : World) (hR : Blk w R 97 #[.slice a bs.length c, vi p]) (hlo : lo ≤ R) (hs : SlLt lo w a 1 (bs.map bcell)) (hb : ∀ b ∈ bs, 0 ≤ b ∧ b ≤ 255) (hn : bs.length ≤ 1048576) : CallsR Try.prog 110 #[pt R 0] w (fun v w' => ∃ (r : Rt) (p' : Int), v = .agg #[vi r.th, vi r.ve, vb r.rd, vb r.wr, vb r.wk] ∧ -1 ≤ r.th ∧ r.th ≤ 9 ∧ -1 ≤ r.ve ∧ r.ve ≤ 9 ∧ p ≤ p' ∧ p' ≤ p + 8 ∧ Blk w' R 97 #[.slice a bs.length c, vi p'] ∧ w.grownBy w' (some R)) := by
 refine Xq (n := 49) Try.func110 Z Try.ntmps110 Z ?_
 have f7 := World.grownBy.refl w (some R)
 have hRlt := hR.lt
 refine Xa (wpo_alloc (cs := #[vi 0, vi 0, vb false, vb false, vb false]) Lw Z Z ?_)
 intro ij i6 au
 have f9 := Xy au f7
 have fq := Xs au (hR).lt
 have cy := low0 f7 au.grw
 refine wpo_nil (Xk (Xa (wpo_move (v := pt R 0) Z Z (Xi Y7 (Xb Z (Xb Z Xg)) Z (Yj p 6 (by omega) _ R bs _ _ _ (hR.grown0 au.grw) (by omega) (SlLt.low1 hs cy hlo) (by first | exact hb | exact fun b h => hb b (List.mem_of_mem_take h)) (by first | omega | (rw [List.length_take]; omega))) ?_))))
 rintro _ i7 ⟨f8, rfl, gi, gj, d5, cd⟩
 have cc := Xh cy cd
 refine wpo_eql (q := decide (f8 = 0)) Z Z Z Z (wpo_nil (Xt Z (fun cg => ?_) (fun cg => ?_)))
 have iq := of_decide_eq_true cg
 refine Xa (wpo_build (ps := []) (v := .agg #[vi 0, vi 0, vb false, vb false, vb false]) Xw (fun _ => by kernel_rfl) Z (wpo_storen (vs := [vi 0, vi 0, vb false, vb false, vb false]) (cs' := #[vi 0, vi 0, vb false, vb false, vb false]) Y9 Z Z Z (by simp [Value.oneCell']) (au.blk.gn cd) (Nat.le_of_ble_eq_true Z) Z ?_))
 intro i8 bp
 refine wpo_nil (Xm (Ya ?_))
 refine ⟨.agg #[vi 0, vi 0, vb false, vb false, vb false], resC Z (resCell_mk (vs := [vi 0, vi 0, vb false, vb false, vb false]) Y9 Z Z (bp.blk.rangeL 0 5 Z)), ⟨0, 0, false, false, false⟩, (p + 1), Z, show (-1 : Int) ≤ 0 by omega, show 0 ≤ (9 : Int) by omega, show (-1 : Int) ≤ 0 by omega, show 0 ≤ (9 : Int) by omega, by omega, by omega, (d5.gn bp.grw), (low1 cc bp.grw (by omega))⟩
 have ir := of_decide_eq_false cg
 refine Xn (Xo (Xa (wpo_move (v := pt R 0) Z Z (Xi Y7 (Xb Z (Xb Z Xg)) Z (Yj (p + 1) 8 (by omega) _ R bs _ _ _ d5 (by omega) (SlLt.low1 hs cc hlo) (by first | exact hb | exact fun b h => hb b (List.mem_of_mem_take h)) (by first | omega | (rw [List.length_take]; omega))) ?_))))
 rintro _ i9 ⟨V, rfl, gl, gm, ff, dm⟩
 have cz := Xh cc dm
 refine wpo_add (c := 1 + V) Z Z (by omega) (by omega) (by omega) Z (wpo_move (v := pt R 0) Z Z (Xi Y7 (Xb Z (Xb Z Xg)) Z (Yj (p + 1 + 1) 3 (by omega) _ R bs _ _ _ ff (by omega) (SlLt.low1 hs cz hlo) (by first | exact hb | exact fun b h => hb b (List.mem_of_mem_take h)) (by first | omega | (rw [List.length_take]; omega))) ?_))
 rintro _ ja ⟨ab, rfl, gp, gq, fg, dn⟩
 have da := Xh cz dn
 refine wpo_move (v := pt R 0) Z Z (Xi Y7 (Xb Z (Xb Z Xg)) Z (Yj (p + 1 + 1 + 1) 4 (by omega) _ R bs _ _ _ fg (by omega) (SlLt.low1 hs da hlo) (by first | exact hb | exact fun b h => hb b (List.mem_of_mem_take h)) (by first | omega | (rw [List.length_take]; omega))) ?_)
 rintro _ jb ⟨O, rfl, gr, gt, fh, dp⟩
 have db := Xh da dp
 refine wpo_gtr (q := decide (0 < O)) Z Z Z Z (wpo_move (v := pt R 0) Z Z (Xi Y7 (Xb Z (Xb Z Xg)) Z (Yj (p + 1 + 1 + 1 + 1) 2 (by omega) _ R bs _ _ _ fh (by omega) (SlLt.low1 hs db hlo) (by first | exact hb | exact fun b h => hb b (List.mem_of_mem_take h)) (by first | omega | (rw [List.length_take]; omega))) ?_))
 rintro _ jc ⟨E, rfl, gu, gv, ce, dq⟩
 have dc := Xh db dq
 refine wpo_eql (q := decide (E = 0)) Z Z Z Z (wpo_build (ps := [(0, vi (1 + V)), (1, vi ab), (2, vb (decide (0 < O))), (3, vb (decide (E = 0)))]) (v := .agg #[vi (1 + V), vi ab, vb (decide (0 < O)), vb (decide (E = 0)), vb false]) (Xp Z (Xp Z (Xp Z (Xp Z Xw)))) (fun _ => by kernel_rfl) Z (wpo_alloc (cs := #[vi 0, vi 0, vb false, vb false, vb false]) Lw Z Z ?_))
 intro ik jd af
 have gb := Xy af dc
 have ft := Xs af (ce).lt
 have ar := (((((au.blk.gn cd).gn dm).gn dn).gn dp).gn dq)
 have d6 := Xs af (ar).lt
 refine wpo_storen (vs := [vi (1 + V), vi ab, vb (decide (0 < O)), vb (decide (E = 0)), vb false]) (cs' := #[vi (1 + V), vi ab, vb (decide (0 < O)), vb (decide (E = 0)), vb false]) Y9 Z Z Z (by simp [Value.oneCell']) af.blk (Nat.le_of_ble_eq_true Z) Z ?_
 intro je ac
 have bj := low1 (low0 dc af.grw) ac.grw (by omega)
 refine wpo_nil (Xk (Xa (wpo_fieldAddr (o' := 3) Hh Z Z Z (wpo_load1 (v := vb (decide (E = 0))) Vl Z (ac.blk.cell Z) Z (wpo_not (b' := !(decide (E = 0))) Z Z Z (wpo_nil (Xt Z (fun cj => ?_) (fun cj => ?_))))))))
 have fy := Je cj
 have is := of_decide_eq_false fy
 refine Xr (wpo_move (v := pt R 0) Z Z (Xi Y7 (Xb Z (Xb Z Xg)) Z (Yj (p + 1 + 1 + 1 + 1 + 1) 2 (by omega) _ R bs _ _ _ ((ce.grown0 af.grw).gn ac.grw) (by omega) (SlLt.low1 hs bj hlo) (by first | exact hb | exact fun b h => hb b (List.mem_of_mem_take h)) (by first | omega | (rw [List.length_take]; omega))) ?_))
 rintro _ jf ⟨ae, rfl, gw, gx, fi, az⟩
 refine wpo_eql (q := decide (ae = 0)) Z Z Z Z (wpo_fieldAddr (o' := 4) Uw Z Z Z (wpo_store1 (v := vb (decide (ae = 0))) (cs' := #[vi (1 + V), vi ab, vb (decide (0 < O)), vb (decide (E = 0)), vb (decide (ae = 0))]) Vl Z Z Z (ac.blk.gn az) (Nat.le_of_ble_eq_true Z) Z ?_))
 intro jg ag
 have de := low1 (Xh bj az) ag.grw (by omega)
 refine wpo_nil (Xo (Xk (Xa (wpo_move (v := pt R 0) Z Z (Xi Y7 (Xb Z (Xb Z Xg)) Z (Yj (p + 1 + 1 + 1 + 1 + 1 + 1) 40 (by omega) _ R bs _ _ _ (fi.gn ag.grw) (by omega) (SlLt.low1 hs de hlo) (by first | exact hb | exact fun b h => hb b (List.mem_of_mem_take h)) (by first | omega | (rw [List.length_take]; omega))) ?_)))))
 rintro _ jh ⟨ba, rfl, gy, gz, a8, al⟩
 have av := Xh de al
 refine wpo_nil (Xv (Xa (wpo_eql (q := decide (ba = 0)) Z Z Z Z (wpo_assign (v := vb (decide (ba = 0))) Z Z (wpo_nil (Xt Z (fun ck => ?_) (fun ck => ?_)))))))
 have it := of_decide_eq_true ck
 refine Xr (wpo_fieldAddr (o' := 4) Uw Z Z Z (wpo_store1 (v := vb true) (cs' := #[vi (1 + V), vi ab, vb (decide (0 < O)), vb (decide (E = 0)), vb true]) Vl Z Z Z (ag.blk.gn al) (Nat.le_of_ble_eq_true Z) Z ?_))
 intro ji bd
 refine wpo_nil (Y3 (Xo (Xa (wpo_loadn (vs := [vi (1 + V), vi ab, vb (decide (0 < O)), vb (decide (E = 0)), vb true]) Y9 Z Z (bd.blk.rangeL 0 5 Z) Z (wpo_storen (vs := [vi (1 + V), vi ab, vb (decide (0 < O)), vb (decide (E = 0)), vb true]) (cs' := #[vi (1 + V), vi ab, vb (decide (0 < O)), vb (decide (E = 0)), vb true]) Y9 Z Z Z (by simp [Value.oneCell']) ((((((ar.grown0 af.grw).gn ac.grw).gn az).gn ag.grw).gn al).gn bd.grw) (Nat.le_of_ble_eq_true Z) Z ?_)))))
 intro jj bq
 refine wpo_nil (Xm ?_)
 refine ⟨.agg #[vi (1 + V), vi ab, vb (decide (0 < O)), vb (decide (E = 0)), vb true], resC Z (resCell_mk (vs := [vi (1 + V), vi ab, vb (decide (0 < O)), vb (decide (E = 0)), vb true]) Y9 Z Z (bq.blk.rangeL 0 5 Z)), ⟨1 + V, ab, decide (0 < O), decide (E = 0), true⟩, (p + 1 + 1 + 1 + 1 + 1 + 1 + 1), Z, show (-1 : Int) ≤ 1 + V by omega, show 1 + V ≤ (9 : Int) by omega, show (-1 : Int) ≤ ab by omega, show ab ≤ (9 : Int) by omega, by omega, by omega, ((a8.gn bd.grw).gn bq.grw), (low1 (low1 av bd.grw (by omega)) bq.grw (by omega))⟩
 have iu := of_decide_eq_false ck
 refine Xa (wpo_eql (q := decide (ba = 1)) Z Z Z Z (wpo_assign (v := vb (decide (ba = 1))) Z Z (wpo_nil (Xt Z (fun cm => ?_) (fun cm => ?_)))))
 have iv := of_decide_eq_true cm
 refine Xr (wpo_buildSlice (ps := [(0, vi 0), (1, vi 9), (2, vi (-1))]) (e := 3) (cs := (([0, 9, (-1)] : List Int).flatMap icell).toArray) (Xp Z (Xp Z (Xp Z Xw))) (fun _ => by kernel_rfl) Z ?_)
 intro il jk ah
 have gc := Xy ah av
 have fu := Xs ah (a8).lt
 have ei := (((((ar.grown0 af.grw).gn ac.grw).gn az).gn ag.grw).gn al)
 have d7 := Xs ah (ei).lt
 have ej := (ag.blk.gn al)
 have ed := Xs ah (ej).lt
 have dh := low0 av ah.grw
 refine wpo_move (v := pt R 0) Z Z (Xi Y7 (Xb Z (Xb Z Xg)) Z (Yj (p + 1 + 1 + 1 + 1 + 1 + 1 + 1) 3 (by omega) _ R bs _ _ _ (a8.grown0 ah.grw) (by omega) (SlLt.low1 hs dh hlo) (by first | exact hb | exact fun b h => hb b (List.mem_of_mem_take h)) (by first | omega | (rw [List.length_take]; omega))) ?_)
 rintro _ jl ⟨dw, rfl, g4, g7, fj, bk⟩
 refine wpo_indexAddr (o' := (dw).toNat * 1) K0 Z Z (by omega) (by omega) (by omega) Z ?_
 obtain ⟨an, dr⟩ := Qo (l := ([0, 9, (-1)] : List Int)) (i := (dw).toNat) (lq (dw).toNat 3)
 have fb := List.mem_of_getElem? dr
 simp only [List.mem_cons, List.not_mem_nil, or_false] at fb
 refine wpo_load1 (v := vi an) X1 Z ((Jg Ye (ah.blk.gn bk) dr) 0 _ Z) Z (wpo_fieldAddr (o' := 0) Qp Z Z Z (wpo_store1 (v := vi an) (cs' := #[vi an, vi ab, vb (decide (0 < O)), vb (decide (E = 0)), vb (decide (ae = 0))]) X1 Z Z Z ((ej.grown0 ah.grw).gn bk) (Nat.le_of_ble_eq_true Z) Z ?_))
 intro jm be
 refine wpo_nil (Y3 (Xo (Xa (wpo_loadn (vs := [vi an, vi ab, vb (decide (0 < O)), vb (decide (E = 0)), vb (decide (ae = 0))]) Y9 Z Z (be.blk.rangeL 0 5 Z) Z (wpo_storen (vs := [vi an, vi ab, vb (decide (0 < O)), vb (decide (E = 0)), vb (decide (ae = 0))]) (cs' := #[vi an, vi ab, vb (decide (0 < O)), vb (decide (E = 0)), vb (decide (ae = 0))]) Y9 Z Z Z (by simp [Value.oneCell']) (((ei.grown0 ah.grw).gn bk).gn be.grw) (Nat.le_of_ble_eq_true Z) Z ?_)))))
 intro jo br
 refine wpo_nil (Xm ?_)
 refine ⟨.agg #[vi an, vi ab, vb (decide (0 < O)), vb (decide (E = 0)), vb (decide (ae = 0))], resC Z (resCell_mk (vs := [vi an, vi ab, vb (decide (0 < O)), vb (decide (E = 0)), vb (decide (ae = 0))]) Y9 Z Z (br.blk.rangeL 0 5 Z)), ⟨an, ab, decide (0 < O), decide (E = 0), decide (ae = 0)⟩, (p + 1 + 1 + 1 + 1 + 1 + 1 + 1 + 1), Z, show (-1 : Int) ≤ an by omega, show an ≤ (9 : Int) by omega, show (-1 : Int) ≤ ab by omega, show ab ≤ (9 : Int) by omega, by omega, by omega, ((fj.gn be.grw).gn br.grw), (low1 (low1 (Xh dh bk) be.grw (by omega)) br.grw (by omega))⟩
 have iw := of_decide_eq_false cm
 refine Xa (wpo_eql (q := decide (ba = 2)) Z Z Z Z (wpo_assign (v := vb (decide (ba = 2))) Z Z (wpo_nil (Xt Z (fun cn => ?_) (fun cn => ?_)))))
 have ix := of_decide_eq_true cn
 refine Xr (wpo_buildSlice (ps := [(0, vi (-1)), (1, vi 5), (2, vi 6)]) (e := 3) (cs := (([(-1), 5, 6] : List Int).flatMap icell).toArray) (Xp Z (Xp Z (Xp Z Xw))) (fun _ => by kernel_rfl) Z ?_)
 intro im jp ai
 have gf := Xy ai av
 have fv := Xs ai (a8).lt
 have eu := (((((ar.grown0 af.grw).gn ac.grw).gn az).gn ag.grw).gn al)
 have d8 := Xs ai (eu).lt
 have ew := (ag.blk.gn al)
 have ee := Xs ai (ew).lt
 have di := low0 av ai.grw
 refine wpo_move (v := pt R 0) Z Z (Xi Y7 (Xb Z (Xb Z Xg)) Z (Yj (p + 1 + 1 + 1 + 1 + 1 + 1 + 1) 3 (by omega) _ R bs _ _ _ (a8.grown0 ai.grw) (by omega) (SlLt.low1 hs di hlo) (by first | exact hb | exact fun b h => hb b (List.mem_of_mem_take h)) (by first | omega | (rw [List.length_take]; omega))) ?_)
 rintro _ jq ⟨dx, rfl, g8, g9, fk, bl⟩
 refine wpo_indexAddr (o' := (dx).toNat * 1) K0 Z Z (by omega) (by omega) (by omega) Z ?_
 obtain ⟨ao, dt⟩ := Qo (l := ([(-1), 5, 6] : List Int)) (i := (dx).toNat) (lq (dx).toNat 3)
 have fc := List.mem_of_getElem? dt
 simp only [List.mem_cons, List.not_mem_nil, or_false] at fc
 refine wpo_load1 (v := vi ao) X1 Z ((Jg Ye (ai.blk.gn bl) dt) 0 _ Z) Z (wpo_fieldAddr (o' := 1) J4 Z Z Z (wpo_store1 (v := vi ao) (cs' := #[vi (1 + V), vi ao, vb (decide (0 < O)), vb (decide (E = 0)), vb (decide (ae = 0))]) X1 Z Z Z ((ew.grown0 ai.grw).gn bl) (Nat.le_of_ble_eq_true Z) Z ?_))
 intro jr bf
 refine wpo_nil (Y3 (Xo (Xa (wpo_loadn (vs := [vi (1 + V), vi ao, vb (decide (0 < O)), vb (decide (E = 0)), vb (decide (ae = 0))]) Y9 Z Z (bf.blk.rangeL 0 5 Z) Z (wpo_storen (vs := [vi (1 + V), vi ao, vb (decide (0 < O)), vb (decide (E = 0)), vb (decide (ae = 0))]) (cs' := #[vi (1 + V), vi ao, vb (decide (0 < O)), vb (decide (E = 0)), vb (decide (ae = 0))]) Y9 Z Z Z (by simp [Value.oneCell']) (((eu.grown0 ai.grw).gn bl).gn bf.grw) (Nat.le_of_ble_eq_true Z) Z ?_)))))
 intro js bt
 refine wpo_nil (Xm ?_)
 refine ⟨.agg #[vi (1 + V), vi ao, vb (decide (0 < O)), vb (decide (E = 0)), vb (decide (ae = 0))], resC Z (resCell_mk (vs := [vi (1 + V), vi ao, vb (decide (0 < O)), vb (decide (E = 0)), vb (decide (ae = 0))]) Y9 Z Z (bt.blk.rangeL 0 5 Z)), ⟨1 + V, ao, decide (0 < O), decide (E = 0), decide (ae = 0)⟩, (p + 1 + 1 + 1 + 1 + 1 + 1 + 1 + 1), Z, show (-1 : Int) ≤ 1 + V by omega, show 1 + V ≤ (9 : Int) by omega, show (-1 : Int) ≤ ao by omega, show ao ≤ (9 : Int) by omega, by omega, by omega, ((fk.gn bf.grw).gn bt.grw), (low1 (low1 (Xh di bl) bf.grw (by omega)) bt.grw (by omega))⟩
 have iy := of_decide_eq_false cn
 refine Xn (Y3 (Xo (Xa (wpo_loadn (vs := [vi (1 + V), vi ab, vb (decide (0 < O)), vb (decide (E = 0)), vb (decide (ae = 0))]) Y9 Z Z ((ag.blk.gn al).rangeL 0 5 Z) Z (wpo_storen (vs := [vi (1 + V), vi ab, vb (decide (0 < O)), vb (decide (E = 0)), vb (decide (ae = 0))]) (cs' := #[vi (1 + V), vi ab, vb (decide (0 < O)), vb (decide (E = 0)), vb (decide (ae = 0))]) Y9 Z Z Z (by simp [Value.oneCell']) (((((ar.grown0 af.grw).gn ac.grw).gn az).gn ag.grw).gn al) (Nat.le_of_ble_eq_true Z) Z ?_)))))
 intro jt bu
 refine wpo_nil (Xm ?_)
 refine ⟨.agg #[vi (1 + V), vi ab, vb (decide (0 < O)), vb (decide (E = 0)), vb (decide (ae = 0))], resC Z (resCell_mk (vs := [vi (1 + V), vi ab, vb (decide (0 < O)), vb (decide (E = 0)), vb (decide (ae = 0))]) Y9 Z Z (bu.blk.rangeL 0 5 Z)), ⟨1 + V, ab, decide (0 < O), decide (E = 0), decide (ae = 0)⟩, (p + 1 + 1 + 1 + 1 + 1 + 1 + 1), Z, show (-1 : Int) ≤ 1 + V by omega, show 1 + V ≤ (9 : Int) by omega, show (-1 : Int) ≤ ab by omega, show ab ≤ (9 : Int) by omega, by omega, by omega, (a8.gn bu.grw), (low1 av bu.grw (by omega))⟩
 have fz := Qx cj
 have iz := of_decide_eq_true fz
 refine Xn (Xo (Xk (Xa (wpo_move (v := pt R 0) Z Z (Xi Y7 (Xb Z (Xb Z Xg)) Z (Yj (p + 1 + 1 + 1 + 1 + 1) 40 (by omega) _ R bs _ _ _ ((ce.grown0 af.grw).gn ac.grw) (by omega) (SlLt.low1 hs bj hlo) (by first | exact hb | exact fun b h => hb b (List.mem_of_mem_take h)) (by first | omega | (rw [List.length_take]; omega))) ?_)))))
 rintro _ ju ⟨bc, rfl, ia, ib, a9, am⟩
 have aw := Xh bj am
 refine wpo_nil (Xv (Xa (wpo_eql (q := decide (bc = 0)) Z Z Z Z (wpo_assign (v := vb (decide (bc = 0))) Z Z (wpo_nil (Xt Z (fun co => ?_) (fun co => ?_)))))))
 have i0 := of_decide_eq_true co
 refine Xr (wpo_fieldAddr (o' := 4) Uw Z Z Z (wpo_store1 (v := vb true) (cs' := #[vi (1 + V), vi ab, vb (decide (0 < O)), vb (decide (E = 0)), vb true]) Vl Z Z Z (ac.blk.gn am) (Nat.le_of_ble_eq_true Z) Z ?_))
 intro jv bg
 refine wpo_nil (Y3 (Xo (Xa (wpo_loadn (vs := [vi (1 + V), vi ab, vb (decide (0 < O)), vb (decide (E = 0)), vb true]) Y9 Z Z (bg.blk.rangeL 0 5 Z) Z (wpo_storen (vs := [vi (1 + V), vi ab, vb (decide (0 < O)), vb (decide (E = 0)), vb true]) (cs' := #[vi (1 + V), vi ab, vb (decide (0 < O)), vb (decide (E = 0)), vb true]) Y9 Z Z Z (by simp [Value.oneCell']) ((((ar.grown0 af.grw).gn ac.grw).gn am).gn bg.grw) (Nat.le_of_ble_eq_true Z) Z ?_)))))
 intro jw bv
 refine wpo_nil (Xm ?_)
 refine ⟨.agg #[vi (1 + V), vi ab, vb (decide (0 < O)), vb (decide (E = 0)), vb true], resC Z (resCell_mk (vs := [vi (1 + V), vi ab, vb (decide (0 < O)), vb (decide (E = 0)), vb true]) Y9 Z Z (bv.blk.rangeL 0 5 Z)), ⟨1 + V, ab, decide (0 < O), decide (E = 0), true⟩, (p + 1 + 1 + 1 + 1 + 1 + 1), Z, show (-1 : Int) ≤ 1 + V by omega, show 1 + V ≤ (9 : Int) by omega, show (-1 : Int) ≤ ab by omega, show ab ≤ (9 : Int) by omega, by omega, by omega, ((a9.gn bg.grw).gn bv.grw), (low1 (low1 aw bg.grw (by omega)) bv.grw (by omega))⟩
 have i1 := of_decide_eq_false co
 refine Xa (wpo_eql (q := decide (bc = 1)) Z Z Z Z (wpo_assign (v := vb (decide (bc = 1))) Z Z (wpo_nil (Xt Z (fun cw => ?_) (fun cw => ?_)))))
 have i2 := of_decide_eq_true cw
 refine Xr (wpo_buildSlice (ps := [(0, vi 0), (1, vi 9), (2, vi (-1))]) (e := 3) (cs := (([0, 9, (-1)] : List Int).flatMap icell).toArray) (Xp Z (Xp Z (Xp Z Xw))) (fun _ => by kernel_rfl) Z ?_)
 intro io jy aj
 have gg := Xy aj aw
 have fw := Xs aj (a9).lt
 have ex := (((ar.grown0 af.grw).gn ac.grw).gn am)
 have d9 := Xs aj (ex).lt
 have ey := (ac.blk.gn am)
 have ef := Xs aj (ey).lt
 have dk := low0 aw aj.grw
 refine wpo_move (v := pt R 0) Z Z (Xi Y7 (Xb Z (Xb Z Xg)) Z (Yj (p + 1 + 1 + 1 + 1 + 1 + 1) 3 (by omega) _ R bs _ _ _ (a9.grown0 aj.grw) (by omega) (SlLt.low1 hs dk hlo) (by first | exact hb | exact fun b h => hb b (List.mem_of_mem_take h)) (by first | omega | (rw [List.length_take]; omega))) ?_)
 rintro _ jz ⟨dz, rfl, ic, ie, fm, bm⟩
 refine wpo_indexAddr (o' := (dz).toNat * 1) K0 Z Z (by omega) (by omega) (by omega) Z ?_
 obtain ⟨ap, du⟩ := Qo (l := ([0, 9, (-1)] : List Int)) (i := (dz).toNat) (lq (dz).toNat 3)
 have fd := List.mem_of_getElem? du
 simp only [List.mem_cons, List.not_mem_nil, or_false] at fd
 refine wpo_load1 (v := vi ap) X1 Z ((Jg Ye (aj.blk.gn bm) du) 0 _ Z) Z (wpo_fieldAddr (o' := 0) Qp Z Z Z (wpo_store1 (v := vi ap) (cs' := #[vi ap, vi ab, vb (decide (0 < O)), vb (decide (E = 0)), vb false]) X1 Z Z Z ((ey.grown0 aj.grw).gn bm) (Nat.le_of_ble_eq_true Z) Z ?_))
 intro j1 bh
 refine wpo_nil (Y3 (Xo (Xa (wpo_loadn (vs := [vi ap, vi ab, vb (decide (0 < O)), vb (decide (E = 0)), vb false]) Y9 Z Z (bh.blk.rangeL 0 5 Z) Z (wpo_storen (vs := [vi ap, vi ab, vb (decide (0 < O)), vb (decide (E = 0)), vb false]) (cs' := #[vi ap, vi ab, vb (decide (0 < O)), vb (decide (E = 0)), vb false]) Y9 Z Z Z (by simp [Value.oneCell']) (((ex.grown0 aj.grw).gn bm).gn bh.grw) (Nat.le_of_ble_eq_true Z) Z ?_)))))
 intro j2 bw
 refine wpo_nil (Xm ?_)
 refine ⟨.agg #[vi ap, vi ab, vb (decide (0 < O)), vb (decide (E = 0)), vb false], resC Z (resCell_mk (vs := [vi ap, vi ab, vb (decide (0 < O)), vb (decide (E = 0)), vb false]) Y9 Z Z (bw.blk.rangeL 0 5 Z)), ⟨ap, ab, decide (0 < O), decide (E = 0), false⟩, (p + 1 + 1 + 1 + 1 + 1 + 1 + 1), Z, show (-1 : Int) ≤ ap by omega, show ap ≤ (9 : Int) by omega, show (-1 : Int) ≤ ab by omega, show ab ≤ (9 : Int) by omega, by omega, by omega, ((fm.gn bh.grw).gn bw.grw), (low1 (low1 (Xh dk bm) bh.grw (by omega)) bw.grw (by omega))⟩
 have i3 := of_decide_eq_false cw
 refine Xa (wpo_eql (q := decide (bc = 2)) Z Z Z Z (wpo_assign (v := vb (decide (bc = 2))) Z Z (wpo_nil (Xt Z (fun cx => ?_) (fun cx => ?_)))))
 have i4 := of_decide_eq_true cx
 refine Xr (wpo_buildSlice (ps := [(0, vi (-1)), (1, vi 5), (2, vi 6)]) (e := 3) (cs := (([(-1), 5, 6] : List Int).flatMap icell).toArray) (Xp Z (Xp Z (Xp Z Xw))) (fun _ => by kernel_rfl) Z ?_)
 intro ip j3 ak
 have gh := Xy ak aw
 have fx := Xs ak (a9).lt
 have ez := (((ar.grown0 af.grw).gn ac.grw).gn am)
 have ea := Xs ak (ez).lt
 have fa := (ac.blk.gn am)
 have eh := Xs ak (fa).lt
 have dl := low0 aw ak.grw
 refine wpo_move (v := pt R 0) Z Z (Xi Y7 (Xb Z (Xb Z Xg)) Z (Yj (p + 1 + 1 + 1 + 1 + 1 + 1) 3 (by omega) _ R bs _ _ _ (a9.grown0 ak.grw) (by omega) (SlLt.low1 hs dl hlo) (by first | exact hb | exact fun b h => hb b (List.mem_of_mem_take h)) (by first | omega | (rw [List.length_take]; omega))) ?_)
 rintro _ j4 ⟨d0, rfl, ig, ii, fp, bn⟩
 refine wpo_indexAddr (o' := (d0).toNat * 1) K0 Z Z (by omega) (by omega) (by omega) Z ?_
 obtain ⟨aq, dv⟩ := Qo (l := ([(-1), 5, 6] : List Int)) (i := (d0).toNat) (lq (d0).toNat 3)
 have fe := List.mem_of_getElem? dv
 simp only [List.mem_cons, List.not_mem_nil, or_false] at fe
 refine wpo_load1 (v := vi aq) X1 Z ((Jg Ye (ak.blk.gn bn) dv) 0 _ Z) Z (wpo_fieldAddr (o' := 1) J4 Z Z Z (wpo_store1 (v := vi aq) (cs' := #[vi (1 + V), vi aq, vb (decide (0 < O)), vb (decide (E = 0)), vb false]) X1 Z Z Z ((fa.grown0 ak.grw).gn bn) (Nat.le_of_ble_eq_true Z) Z ?_))
 intro j5 bi
 refine wpo_nil (Y3 (Xo (Xa (wpo_loadn (vs := [vi (1 + V), vi aq, vb (decide (0 < O)), vb (decide (E = 0)), vb false]) Y9 Z Z (bi.blk.rangeL 0 5 Z) Z (wpo_storen (vs := [vi (1 + V), vi aq, vb (decide (0 < O)), vb (decide (E = 0)), vb false]) (cs' := #[vi (1 + V), vi aq, vb (decide (0 < O)), vb (decide (E = 0)), vb false]) Y9 Z Z Z (by simp [Value.oneCell']) (((ez.grown0 ak.grw).gn bn).gn bi.grw) (Nat.le_of_ble_eq_true Z) Z ?_)))))
 intro j6 bz
 refine wpo_nil (Xm ?_)
 refine ⟨.agg #[vi (1 + V), vi aq, vb (decide (0 < O)), vb (decide (E = 0)), vb false], resC Z (resCell_mk (vs := [vi (1 + V), vi aq, vb (decide (0 < O)), vb (decide (E = 0)), vb false]) Y9 Z Z (bz.blk.rangeL 0 5 Z)), ⟨1 + V, aq, decide (0 < O), decide (E = 0), false⟩, (p + 1 + 1 + 1 + 1 + 1 + 1 + 1), Z, show (-1 : Int) ≤ 1 + V by omega, show 1 + V ≤ (9 : Int) by omega, show (-1 : Int) ≤ aq by omega, show aq ≤ (9 : Int) by omega, by omega, by omega, ((fp.gn bi.grw).gn bz.grw), (low1 (low1 (Xh dl bn) bi.grw (by omega)) bz.grw (by omega))⟩
 have i5 := of_decide_eq_false cx
 refine Xn (Y3 (Xo (Xa (wpo_loadn (vs := [vi (1 + V), vi ab, vb (decide (0 < O)), vb (decide (E = 0)), vb false]) Y9 Z Z ((ac.blk.gn am).rangeL 0 5 Z) Z (wpo_storen (vs := [vi (1 + V), vi ab, vb (decide (0 < O)), vb (decide (E = 0)), vb false]) (cs' := #[vi (1 + V), vi ab, vb (decide (0 < O)), vb (decide (E = 0)), vb false]) Y9 Z Z Z (by simp [Value.oneCell']) (((ar.grown0 af.grw).gn ac.grw).gn am) (Nat.le_of_ble_eq_true Z) Z ?_)))))
 intro j7 ca
 refine wpo_nil (Xm ?_)
 refine ⟨.agg #[vi (1 + V), vi ab, vb (decide (0 < O)), vb (decide (E = 0)), vb false], resC Z (resCell_mk (vs := [vi (1 + V), vi ab, vb (decide (0 < O)), vb (decide (E = 0)), vb false]) Y9 Z Z (ca.blk.rangeL 0 5 Z)), ⟨1 + V, ab, decide (0 < O), decide (E = 0), false⟩, (p + 1 + 1 + 1 + 1 + 1 + 1), Z, show (-1 : Int) ≤ 1 + V by omega, show 1 + V ≤ (9 : Int) by omega, show (-1 : Int) ≤ ab by omega, show ab ≤ (9 : Int) by omega, by omega, by omega, (a9.gn ca.grw), (low1 aw ca.grw (by omega))⟩
theorem Zh [Comp] (bs : List Int) (a : Option Addr) (c : Nat) (w : World) (hn : bs.length ≤ 1048576) (hc : bs.length ≤ c) : CallsR Try.prog 34 #[.slice a bs.length c] w (fun v w' => ∃ R : Nat, v = pt R 0 ∧ w.heap.size ≤ R ∧ Blk w' R 97 #[.slice a (bs.take 2000).length c, vi 0] ∧ w.grownBy w' none) := by
 refine Xq (n := 11) Try.func34 Z Try.ntmps34 Z ?_
 have ae := World.grownBy.refl w none
 refine Xa (wpo_assign (v := .pointer none) Z Z (wpo_nil (Xk (Xa (wpo_move (v := .slice a bs.length c) Z Z (wpo_len (by kernel_rfl) Z Z (wpo_gtr (q := decide (2000 < (bs.length : Int))) Z Z Z Z (wpo_nil (Xt Z (fun ac => ?_) (fun ac => ?_))))))))))
 have ah := of_decide_eq_true ac
 refine Xr (wpo_move (v := .slice a bs.length c) Z Z (wpo_cut (e := 5) (sz := 1) (h := 2000) (by kernel_rfl) (by kernel_rfl) Z Z (by omega) Z (wpo_assign (v := .slice a 2000 c) Z Z (wpo_nil (Xo (Xa (wpo_move (v := .slice a 2000 c) Z Z (wpo_build (ps := [(0, .slice a 2000 c)]) (v := .agg #[.slice a 2000 c, vi 0]) (Xp Z Xw) (fun _ => by kernel_rfl) Z (wpo_box (v := .agg #[.slice a 2000 c, vi 0]) (cs := #[.slice a 2000 c, vi 0]) Z Z Z ?_)))))))))
 intro V aj E
 have af := Xy E ae
 refine wpo_assign (v := pt V 0) Z Z (wpo_nil (Xm ?_))
 have hlen : 2000 = (bs.take 2000).length := by rw [List.length_take]; omega
 have kk := E.blk
 rw [hlen] at kk
 refine ⟨pt V 0, res1 Z Z, V, Z, af, kk, (low0 ae E.grw)⟩
 have ai := of_decide_eq_false ac
 refine Xn (Xo (Xa (wpo_move (v := .slice a bs.length c) Z Z (wpo_build (ps := [(0, .slice a bs.length c)]) (v := .agg #[.slice a bs.length c, vi 0]) (Xp Z Xw) (fun _ => by kernel_rfl) Z (wpo_box (v := .agg #[.slice a bs.length c, vi 0]) (cs := #[.slice a bs.length c, vi 0]) Z Z Z ?_)))))
 intro ab ak O
 have ag := Xy O ae
 refine wpo_assign (v := pt ab 0) Z Z (wpo_nil (Xm ?_))
 have hlen : bs.length = (bs.take 2000).length := by rw [List.length_take]; omega
 have kk := O.blk
 rw [hlen] at kk
 refine ⟨pt ab 0, res1 Z Z, ab, Z, ag, kk, (low0 ae O.grw)⟩
end Go.Dw.J
end
section
namespace Go.Dw.J
open Go.RowKit Go.Dw Go.Proofs
set_option linter.unusedSectionVars false
set_option maxRecDepth 100000
set_option maxHeartbeats 4000000
set_option linter.unusedSimpArgs false
set_option linter.unusedVariables false
theorem Ou : arrTy Try.prog 77 = some (4, 74, 5) := by kernel_rfl
theorem X7 : fieldOff Try.prog 35 0 = some 0 := by kernel_rfl
theorem Ke : fieldOff Try.prog 35 1 = some 1 := by kernel_rfl
theorem Q5 : fieldOff Try.prog 35 2 = some 3 := by kernel_rfl
theorem Q9 : fieldOff Try.prog 35 3 = some 4 := by kernel_rfl
theorem Qe : fieldOff Try.prog 35 4 = some 5 := by kernel_rfl
theorem Q2 : fieldOff Try.prog 35 5 = some 6 := by kernel_rfl
theorem Jv : fieldOff Try.prog 35 6 = some 7 := by kernel_rfl
theorem Uf : goFn Try.prog 50 = true := by kernel_rfl
theorem Xen : goFn Try.prog 51 = true := by kernel_rfl
theorem Xeo : goFn Try.prog 52 = true := by kernel_rfl
theorem Xep : goFn Try.prog 53 = true := by kernel_rfl
theorem Xeq : goFn Try.prog 54 = true := by kernel_rfl
theorem Xer : goFn Try.prog 55 = true := by kernel_rfl
theorem Zb : goFn Try.prog 94 = true := by kernel_rfl
theorem H9 : goFn Try.prog 95 = true := by kernel_rfl
theorem Xez : goFn Try.prog 97 = true := by kernel_rfl
theorem Jt : oneTy Try.prog 32 = true := by kernel_rfl
theorem Kc : oneTy Try.prog 33 = true := by kernel_rfl
theorem X0 : rowTy Try.prog 35 = some 8 := by kernel_rfl
theorem Xe7 : rowTy Try.prog 77 = some 20 := by kernel_rfl
theorem Xaf [Comp] (m : MTh) (w : World) : CallsR Try.prog 51 #[.agg #[vi m.t.kind, vi m.t.lab.s, vi m.t.lab.v, vi m.t.ve, vi m.t.num, .slice m.sa m.t.slots.length m.sc, .slice m.qa m.t.queue.length m.qc, vi m.t.to]] w (fun v w' => v = vb (versOk m.t) ∧ w.grownBy w' none) := by
 refine Xq (n := 15) Try.func51 Z Try.ntmps51 Z ?_
 have an := World.grownBy.refl w none
 refine Xa (wpo_box (v := .agg #[vi m.t.kind, vi m.t.lab.s, vi m.t.lab.v, vi m.t.ve, vi m.t.num, .slice m.sa m.t.slots.length m.sc, .slice m.qa m.t.queue.length m.qc, vi m.t.to]) (cs := #[vi m.t.kind, vi m.t.lab.s, vi m.t.lab.v, vi m.t.ve, vi m.t.num, .slice m.sa m.t.slots.length m.sc, .slice m.qa m.t.queue.length m.qc, vi m.t.to]) Z Z Z ?_)
 intro ap aq E
 have ao := Xy E an
 have ab := low0 an E.grw
 refine wpo_assign (v := vb false) Z Z (wpo_nil (Xk (Xa (wpo_fieldAddr (o' := 0) X7 Z Z Z (wpo_load1 (v := vi m.t.kind) X1 Z (E.blk.cell Z) Z (wpo_nil (Xv (Xk (Xa (wpo_eql (q := decide (m.t.kind = 1)) Z Z Z Z (wpo_assign (v := vb (decide (m.t.kind = 1))) Z Z (wpo_nil ?_))))))))))))
 refine Xt Z (fun ac => ?_) (fun ac => ?_)
 have af := of_decide_eq_true ac
 refine Xn (Xo (X8 Z ac (Xa (wpo_fieldAddr (o' := 3) Q5 Z Z Z (wpo_load1 (v := vi m.t.ve) X1 Z (E.blk.cell Z) Z (Xi Uf (Xb Z (Xb Z (Xb Z Xg))) Z (Jo m.t.ve 0 5 _) ?_))))))
 rintro _ ar ⟨rfl, ak⟩
 refine wpo_assign (v := vb (inR m.t.ve 0 5)) Z Z (wpo_nil (Xm (Qv (Ya (⟨vb (inR m.t.ve 0 5), res1 Z Z, ?_, (low0 ab ak)⟩)))))
 · first | (simp [versOk, af]; done) | (simp [versOk, af]; omega) | (simp [versOk, af]; intros; omega)
 have O := of_decide_eq_false ac
 refine Xa (wpo_eql (q := decide (m.t.kind = 2)) Z Z Z Z (wpo_assign (v := vb (decide (m.t.kind = 2))) Z Z (wpo_nil (Xt Z (fun ae => ?_) (fun ae => ?_)))))
 have ag := of_decide_eq_true ae
 refine Xn (Xo (X8 Z ae (Xa (wpo_fieldAddr (o' := 3) Q5 Z Z Z (wpo_load1 (v := vi m.t.ve) X1 Z (E.blk.cell Z) Z (Xi Uf (Xb Z (Xb Z (Xb Z Xg))) Z (Jo m.t.ve 0 5 _) ?_))))))
 rintro _ au ⟨rfl, al⟩
 refine wpo_assign (v := vb (inR m.t.ve 0 5)) Z Z (wpo_nil (Xm (Qv (Ya (⟨vb (inR m.t.ve 0 5), res1 Z Z, ?_, (low0 ab al)⟩)))))
 · first | (simp [versOk, O, ag]; done) | (simp [versOk, O, ag]; omega) | (simp [versOk, O, ag]; intros; omega)
 have V := of_decide_eq_false ae
 refine Xr (wpo_eql (q := decide (m.t.kind = 4)) Z Z Z Z (wpo_assign (v := vb (decide (m.t.kind = 4))) Z Z (wpo_nil (Xo (Xt Z (fun ah => ?_) (fun ah => ?_))))))
 have ai := of_decide_eq_true ah
 refine Xa (wpo_fieldAddr (o' := 3) Q5 Z Z Z (wpo_load1 (v := vi m.t.ve) X1 Z (E.blk.cell Z) Z (Xi Uf (Xb Z (Xb Z (Xb Z Xg))) Z (Jo m.t.ve 0 5 _) ?_)))
 rintro _ av ⟨rfl, am⟩
 refine wpo_assign (v := vb (inR m.t.ve 0 5)) Z Z (wpo_nil (Xm (Qv (Ya (⟨vb (inR m.t.ve 0 5), res1 Z Z, ?_, (low0 ab am)⟩)))))
 · first | (simp [versOk, O, V, ai]; done) | (simp [versOk, O, V, ai]; omega) | (simp [versOk, O, V, ai]; intros; omega)
 have aj := of_decide_eq_false ah
 refine Xn (Y3 (Xo (Xa (wpo_fieldAddr (o' := 3) Q5 Z Z Z (wpo_load1 (v := vi m.t.ve) X1 Z (E.blk.cell Z) Z (wpo_eql (q := decide (m.t.ve = 0)) Z Z Z Z (wpo_assign (v := vb (decide (m.t.ve = 0))) Z Z (wpo_nil (Xm (⟨vb (decide (m.t.ve = 0)), res1 Z Z, ?_, ab⟩))))))))))
 · first | (simp [versOk, O, V, aj]; done) | (simp [versOk, O, V, aj]; omega) | (simp [versOk, O, V, aj]; intros; omega)
theorem Xbb [Comp] (m : MTh) (w : World) : CallsR Try.prog 52 #[.agg #[vi m.t.kind, vi m.t.lab.s, vi m.t.lab.v, vi m.t.ve, vi m.t.num, .slice m.sa m.t.slots.length m.sc, .slice m.qa m.t.queue.length m.qc, vi m.t.to]] w (fun v w' => v = vb (numOk m.t) ∧ w.grownBy w' none) := by
 refine Xq (n := 19) Try.func52 Z Try.ntmps52 Z ?_
 have an := World.grownBy.refl w none
 refine Xa (wpo_box (v := .agg #[vi m.t.kind, vi m.t.lab.s, vi m.t.lab.v, vi m.t.ve, vi m.t.num, .slice m.sa m.t.slots.length m.sc, .slice m.qa m.t.queue.length m.qc, vi m.t.to]) (cs := #[vi m.t.kind, vi m.t.lab.s, vi m.t.lab.v, vi m.t.ve, vi m.t.num, .slice m.sa m.t.slots.length m.sc, .slice m.qa m.t.queue.length m.qc, vi m.t.to]) Z Z Z ?_)
 intro ap aq E
 have ao := Xy E an
 have ab := low0 an E.grw
 refine wpo_assign (v := vb false) Z Z (wpo_nil (Xk (Xa (wpo_fieldAddr (o' := 0) X7 Z Z Z (wpo_load1 (v := vi m.t.kind) X1 Z (E.blk.cell Z) Z (wpo_nil (Xv (Xk (Xa (wpo_eql (q := decide (m.t.kind = 1)) Z Z Z Z (wpo_assign (v := vb (decide (m.t.kind = 1))) Z Z (wpo_nil ?_))))))))))))
 refine Xt Z (fun ac => ?_) (fun ac => ?_)
 have ae := of_decide_eq_true ac
 refine Xn (Xo (X8 Z ac (Xa (wpo_fieldAddr (o' := 4) Q9 Z Z Z (wpo_load1 (v := vi m.t.num) X1 Z (E.blk.cell Z) Z (Xi Uf (Xb Z (Xb Z (Xb Z Xg))) Z (Jo m.t.num 0 99 _) ?_))))))
 rintro _ ar ⟨rfl, ak⟩
 refine wpo_assign (v := vb (inR m.t.num 0 99)) Z Z (wpo_nil (Xm (Qv (Ya (⟨vb (inR m.t.num 0 99), res1 Z Z, ?_, (low0 ab ak)⟩)))))
 · first | (simp [numOk, ae]; done) | (simp [numOk, ae]; omega) | (simp [numOk, ae]; intros; omega)
 have O := of_decide_eq_false ac
 refine Xr (wpo_eql (q := decide (m.t.kind = 5)) Z Z Z Z (wpo_assign (v := vb (decide (m.t.kind = 5))) Z Z (wpo_nil (Xo (Xt Z (fun af => ?_) (fun af => ?_))))))
 have ag := of_decide_eq_true af
 refine Xa (wpo_fieldAddr (o' := 4) Q9 Z Z Z (wpo_load1 (v := vi m.t.num) X1 Z (E.blk.cell Z) Z (Xi Uf (Xb Z (Xb Z (Xb Z Xg))) Z (Jo m.t.num 0 99 _) ?_)))
 rintro _ au ⟨rfl, al⟩
 refine wpo_assign (v := vb (inR m.t.num 0 99)) Z Z (wpo_nil (Xm (Qv (Ya (⟨vb (inR m.t.num 0 99), res1 Z Z, ?_, (low0 ab al)⟩)))))
 · first | (simp [numOk, O, ag]; done) | (simp [numOk, O, ag]; omega) | (simp [numOk, O, ag]; intros; omega)
 have V := of_decide_eq_false af
 refine Xa (wpo_eql (q := decide (m.t.kind = 3)) Z Z Z Z (wpo_assign (v := vb (decide (m.t.kind = 3))) Z Z (wpo_nil (Xt Z (fun ah => ?_) (fun ah => ?_)))))
 have ai := of_decide_eq_true ah
 refine Xa (wpo_fieldAddr (o' := 4) Q9 Z Z Z (wpo_load1 (v := vi m.t.num) X1 Z (E.blk.cell Z) Z (Xi Uf (Xb Z (Xb Z (Xb Z Xg))) Z (Jo m.t.num (-4) 99 _) ?_)))
 rintro _ av ⟨rfl, am⟩
 refine wpo_assign (v := vb (inR m.t.num (-4) 99)) Z Z (wpo_nil (Xm (Qv (Ya (⟨vb (inR m.t.num (-4) 99), res1 Z Z, ?_, (low0 ab am)⟩)))))
 · first | (simp [numOk, O, V, ai]; done) | (simp [numOk, O, V, ai]; omega) | (simp [numOk, O, V, ai]; intros; omega)
 have aj := of_decide_eq_false ah
 refine Xn (Y3 (Xo (Xa (wpo_fieldAddr (o' := 4) Q9 Z Z Z (wpo_load1 (v := vi m.t.num) X1 Z (E.blk.cell Z) Z (wpo_eql (q := decide (m.t.num = 0)) Z Z Z Z (wpo_assign (v := vb (decide (m.t.num = 0))) Z Z (wpo_nil (Xm (⟨vb (decide (m.t.num = 0)), res1 Z Z, ?_, ab⟩))))))))))
 · first | (simp [numOk, O, V, aj]; done) | (simp [numOk, O, V, aj]; omega) | (simp [numOk, O, V, aj]; intros; omega)
theorem T4 [Comp] (m : MTh) (w : World) : CallsR Try.prog 55 #[.agg #[vi m.t.kind, vi m.t.lab.s, vi m.t.lab.v, vi m.t.ve, vi m.t.num, .slice m.sa m.t.slots.length m.sc, .slice m.qa m.t.queue.length m.qc, vi m.t.to]] w (fun v w' => v = vb (targetOk m.t) ∧ w.grownBy w' none) := by
 refine Xq (n := 12) Try.func55 Z Try.ntmps55 Z ?_
 have af := World.grownBy.refl w none
 refine Xa (wpo_box (v := .agg #[vi m.t.kind, vi m.t.lab.s, vi m.t.lab.v, vi m.t.ve, vi m.t.num, .slice m.sa m.t.slots.length m.sc, .slice m.qa m.t.queue.length m.qc, vi m.t.to]) (cs := #[vi m.t.kind, vi m.t.lab.s, vi m.t.lab.v, vi m.t.ve, vi m.t.num, .slice m.sa m.t.slots.length m.sc, .slice m.qa m.t.queue.length m.qc, vi m.t.to]) Z Z Z ?_)
 intro ah ai E
 have ag := Xy E af
 have ac := low0 af E.grw
 refine wpo_assign (v := vb false) Z Z (wpo_nil (Xk (Xa (wpo_fieldAddr (o' := 0) X7 Z Z Z (wpo_load1 (v := vi m.t.kind) X1 Z (E.blk.cell Z) Z (wpo_eql (q := decide (m.t.kind = 5)) Z Z Z Z (wpo_nil (Xt Z (fun O => ?_) (fun O => ?_)))))))))
 have V := of_decide_eq_true O
 refine Xa (wpo_fieldAddr (o' := 7) Jv Z Z Z (wpo_load1 (v := vi m.t.to) X1 Z (E.blk.cell Z) Z (Xi Uf (Xb Z (Xb Z (Xb Z Xg))) Z (Jo m.t.to 1 8 _) ?_)))
 rintro _ aj ⟨rfl, ae⟩
 refine wpo_assign (v := vb (inR m.t.to 1 8)) Z Z (wpo_nil (Xm (Ya (⟨vb (inR m.t.to 1 8), res1 Z Z, ?_, (low0 ac ae)⟩))))
 · first | (simp [targetOk, V]; done) | (simp [targetOk, V]; omega) | (simp [targetOk, V]; intros; omega)
 have ab := of_decide_eq_false O
 refine Xn (Xo (Xa (wpo_fieldAddr (o' := 7) Jv Z Z Z (wpo_load1 (v := vi m.t.to) X1 Z (E.blk.cell Z) Z (wpo_eql (q := decide (m.t.to = 0)) Z Z Z Z (wpo_assign (v := vb (decide (m.t.to = 0))) Z Z (wpo_nil (Xm (⟨vb (decide (m.t.to = 0)), res1 Z Z, ?_, ac⟩)))))))))
 · first | (simp [targetOk, ab]; done) | (simp [targetOk, ab]; omega) | (simp [targetOk, ab]; intros; omega)
theorem I0 [Comp] (m : MTh) (w : World) (hs : SlAt w m.sa 5 (m.t.slots.map Rt.cells)) (hq : SlAt w m.qa 1 (m.t.queue.map icell)) (hsl : m.t.slots.length ≤ 9223372036854775806) (hql : m.t.queue.length ≤ 9223372036854775806) : CallsR Try.prog 54 #[.agg #[vi m.t.kind, vi m.t.lab.s, vi m.t.lab.v, vi m.t.ve, vi m.t.num, .slice m.sa m.t.slots.length m.sc, .slice m.qa m.t.queue.length m.qc, vi m.t.to]] w (fun v w' => v = vb (queueOk m.t) ∧ w.grownBy w' none) := by
 refine Xq (n := 27) Try.func54 Z Try.ntmps54 Z ?_
 have bd := World.grownBy.refl w none
 refine Xa (wpo_box (v := .agg #[vi m.t.kind, vi m.t.lab.s, vi m.t.lab.v, vi m.t.ve, vi m.t.num, .slice m.sa m.t.slots.length m.sc, .slice m.qa m.t.queue.length m.qc, vi m.t.to]) (cs := #[vi m.t.kind, vi m.t.lab.s, vi m.t.lab.v, vi m.t.ve, vi m.t.num, .slice m.sa m.t.slots.length m.sc, .slice m.qa m.t.queue.length m.qc, vi m.t.to]) Z Z Z ?_)
 intro bg bl E
 have be := Xy E bd
 have ab := low0 bd E.grw
 refine wpo_assign (v := vb false) Z Z (wpo_nil (Xk (Xa (wpo_fieldAddr (o' := 0) X7 Z Z Z (wpo_load1 (v := vi m.t.kind) X1 Z (E.blk.cell Z) Z (wpo_neq (q := !(decide (m.t.kind = 4))) Z Z Z Z (wpo_nil (Xt Z (fun ag => ?_) (fun ag => ?_)))))))))
 have aw := Je ag
 have ah := of_decide_eq_false aw
 refine Xa (wpo_fieldAddr (o' := 6) Q2 Z Z Z (wpo_load1 (v := .slice m.qa m.t.queue.length m.qc) Kc Z (E.blk.cell Z) Z (wpo_len (by kernel_rfl) Z Z (wpo_eql (q := decide ((m.t.queue.length : Int) = 0)) Z Z Z Z (wpo_assign (v := vb (decide ((m.t.queue.length : Int) = 0))) Z Z (wpo_nil (Xm (Ya (⟨vb (decide ((m.t.queue.length : Int) = 0)), res1 Z Z, ?_, ab⟩)))))))))
 · first | (simp [queueOk, ah]; done) | (simp [queueOk, ah]; omega) | (simp [queueOk, ah]; intros; omega)
 have az := Qx ag
 have O := of_decide_eq_true az
 refine Xn (Xo (Xk (Xa (wpo_fieldAddr (o' := 6) Q2 Z Z Z (wpo_load1 (v := .slice m.qa m.t.queue.length m.qc) Kc Z (E.blk.cell Z) Z (wpo_len (by kernel_rfl) Z Z (wpo_gtr (q := decide (3 < (m.t.queue.length : Int))) Z Z Z Z (wpo_nil (Xt Z (fun ai => ?_) (fun ai => ?_))))))))))
 have aj := of_decide_eq_true ai
 refine Xa (wpo_assign (v := vb false) Z Z (wpo_nil (Xm (Ya (⟨vb false, res1 Z Z, ?_, ab⟩)))))
 · first | (simp [queueOk, O, aj]; done) | (simp [queueOk, O, aj]; omega) | (simp [queueOk, O, aj]; intros; omega)
 have ap := of_decide_eq_false ai
 refine Xn (Xo (Xk (Xa (wpo_fieldAddr (o' := 6) Q2 Z Z Z (wpo_load1 (v := .slice m.qa m.t.queue.length m.qc) Kc Z (E.blk.cell Z) Z (wpo_len (by kernel_rfl) Z Z (wpo_move (v := vi 0) Z Z (wpo_nil (Xv (Yg (fun mm f' w' => ∃ (k : Nat), mm = m.t.queue.length - k ∧ k ≤ m.t.queue.length ∧ ((m.t.queue.take k).all numQ) = true ∧ f' 19 = vi (k : Int) ∧ f' 17 = .slice m.qa m.t.queue.length m.qc ∧ f' 18 = vi (m.t.queue.length : Int) ∧ w.grownBy w' none) (m.t.queue.length - 0) ⟨0, Z, (Nat.zero_le _), Z, Z, Z, Z, ab⟩ ?_))))))))))
 rintro mm bi bm ⟨k, bf, hk, ha, af, an, ao, ac⟩
 refine Xa (wpo_lss (q := decide ((k : Int) < (m.t.queue.length : Int))) af ao Z Z (wpo_nil (Xk (Xt Z (fun ak => ?_) (fun ak => ?_)))))
 have a8 := of_decide_eq_true ak
 refine Xn (Xo (Xk (Xv (Xa ?_))))
 obtain ⟨V, ae⟩ := Qo (l := m.t.queue) (i := k) (by omega)
 obtain ⟨bh, bk, bj, aq, au, av⟩ := SlAt.at hq (Yw ae)
 refine X6 K0 an af aq au (by omega) (by omega) Z (wpo_load1 (v := vi V) X1 Z ((Y8 av ac) 0 _ Z) Z (wpo_assign (v := vi V) Z Z (wpo_nil (Xa (wpo_move (v := vi V) Z Z (Xi Uf (Xb Z (Xb Z (Xb Z Xg))) Z (Jo V 0 99 _) ?_))))))
 rintro _ bn ⟨rfl, ar⟩
 have am := low0 ac ar
 refine wpo_not (b' := !inR V 0 99) Z Z Z (wpo_nil (Xt Z (fun al => ?_) (fun al => ?_)))
 have a9 := Je al
 refine Xa (wpo_assign (v := vb false) Z Z (wpo_nil (Xm (Qv (Ya (Ya (Qv (Ya (⟨vb false, res1 Z Z, ?_, am⟩)))))))))
 simp [queueOk, O, ap, a8, Jq (p := numQ) ae a9]
 have ba := Qx al
 exact Xn (Y3 (Xo (Xr (wpo_add (c := (k : Int) + 1) af Z (by omega) (by omega) (by omega) Z (wpo_move (v := vi ((k : Int) + 1)) Z Z (wpo_nil (Xo (⟨m.t.queue.length - (k + 1), by omega, (k + 1), rfl, (by omega), (Ji (p := numQ) ha ae ba), rfl, an, ao, am⟩))))))))
 have bc := of_decide_eq_false ak
 refine Yo (Yx (Yx (Jm (Xo (Xa (wpo_assign (v := vb true) Z Z (wpo_nil (Xm (⟨vb true, res1 Z Z, ?_, ac⟩)))))))))
 simp [queueOk, O, ap, bc, Jy (p := numQ) ha (by omega)]; omega
theorem Ob [Comp] (m : MTh) (w : World) (hs : SlAt w m.sa 5 (m.t.slots.map Rt.cells)) (hq : SlAt w m.qa 1 (m.t.queue.map icell)) (hsl : m.t.slots.length ≤ 9223372036854775806) (hql : m.t.queue.length ≤ 9223372036854775806) : CallsR Try.prog 53 #[.agg #[vi m.t.kind, vi m.t.lab.s, vi m.t.lab.v, vi m.t.ve, vi m.t.num, .slice m.sa m.t.slots.length m.sc, .slice m.qa m.t.queue.length m.qc, vi m.t.to]] w (fun v w' => v = vb (slotsOk m.t) ∧ w.grownBy w' none) := by
 refine Xq (n := 32) Try.func53 Z Try.ntmps53 Z ?_
 have bh := World.grownBy.refl w none
 refine Xa (wpo_box (v := .agg #[vi m.t.kind, vi m.t.lab.s, vi m.t.lab.v, vi m.t.ve, vi m.t.num, .slice m.sa m.t.slots.length m.sc, .slice m.qa m.t.queue.length m.qc, vi m.t.to]) (cs := #[vi m.t.kind, vi m.t.lab.s, vi m.t.lab.v, vi m.t.ve, vi m.t.num, .slice m.sa m.t.slots.length m.sc, .slice m.qa m.t.queue.length m.qc, vi m.t.to]) Z Z Z ?_)
 intro aw bi V
 have bj := Xy V bh
 have ac := low0 bh V.grw
 refine wpo_assign (v := vb false) Z Z (wpo_nil (Xk (Xu (fun f' w' => (f' 1 = pt aw 0 ∧ f' 2 = vb false ∧ f' 12 = vb ((!(decide (m.t.kind = 2))) && (!(decide (m.t.kind = 3))))) ∧ bi = w') ?_ ?_)))
 refine wpo_fieldAddr (o' := 0) X7 Z Z Z (wpo_load1 (v := vi m.t.kind) X1 Z (V.blk.cell Z) Z (wpo_neq (q := !(decide (m.t.kind = 2))) Z Z Z Z (wpo_move (v := vb (!(decide (m.t.kind = 2)))) Z Z ?_)))
 rcases Xz (!(decide (m.t.kind = 2))) with O | O
 have ap := Je O
 have bt := of_decide_eq_false ap
 exact Xd Z Z Z O (wpo_fieldAddr (o' := 0) X7 Z Z Z (Xd Z Z Z O (wpo_load1 (v := vi m.t.kind) X1 Z (V.blk.cell Z) Z (Xd Z Z Z O (wpo_neq (q := !(decide (m.t.kind = 3))) Z Z Z Z (wpo_pickt (v := vb (!(decide (m.t.kind = 3)))) Z O Z Z (wpo_nil ⟨⟨Z, Z, (cB (by simp [O, ap]))⟩, Z⟩)))))))
 have aq := Qx O
 have bu := of_decide_eq_true aq
 iterate 3 refine Xe rfl rfl rfl O rfl ?_
 exact wpo_pickf (v := vb false) Z O Z Z (wpo_nil ⟨⟨Z, Z, (cB (by simp [O, aq]))⟩, Z⟩)
 rintro bq cg ⟨⟨ah, bp, az⟩, rfl⟩
 refine Xt az (fun ab => ?_) (fun ab => ?_)
 have a8 := Oo ab
 have a9 := Je a8
 have bv := of_decide_eq_false a9
 have ba := Oq ab
 have bc := Je ba
 have bw := of_decide_eq_false bc
 refine Xa (wpo_fieldAddr (o' := 5) Qe ah Z Z (wpo_load1 (v := .slice m.sa m.t.slots.length m.sc) Jt Z (V.blk.cell Z) Z (wpo_len (by kernel_rfl) Z Z (wpo_eql (q := decide ((m.t.slots.length : Int) = 0)) Z Z Z Z (wpo_assign (v := vb (decide ((m.t.slots.length : Int) = 0))) Z Z (wpo_nil (Xm (Ya (⟨vb (decide ((m.t.slots.length : Int) = 0)), res1 Z Z, ?_, ac⟩)))))))))
 rw [Oc ab]
 refine Xn (Xo (Xk (Xa (wpo_fieldAddr (o' := 5) Qe ah Z Z (wpo_load1 (v := .slice m.sa m.t.slots.length m.sc) Jt Z (V.blk.cell Z) Z (wpo_len (by kernel_rfl) Z Z (wpo_neq (q := !(decide ((m.t.slots.length : Int) = 4))) Z Z Z Z (wpo_nil (Xt Z (fun aj => ?_) (fun aj => ?_))))))))))
 have bd := Je aj
 have bz := of_decide_eq_false bd
 refine Xa (wpo_assign (v := vb false) Z Z (wpo_nil (Xm (Ya (⟨vb false, res1 Z Z, ?_, ac⟩)))))
 rw [Gw ab]
 rw [decide_eq_false (by omega)]; rfl
 have be := Qx aj
 have ca := of_decide_eq_true be
 refine Xn (Xo (Xk (Xa (wpo_fieldAddr (o' := 5) Qe ah Z Z (wpo_load1 (v := .slice m.sa m.t.slots.length m.sc) Jt Z (V.blk.cell Z) Z ?_)))))
 obtain ⟨bn, ce, ar, av⟩ := SlAt.all Qd (by omega) (SlAt.low hs ac) (by omega)
 refine wpo_s2a Ou Z ar (by omega) Z (wpo_loadn (vs := m.t.slots.flatMap Rt.cells) Xe7 Z (by rw [Qt Qd]; omega) av Z (wpo_move (v := vi 0) Z Z (wpo_nil (Xv (Yg (fun mm f' w' => ∃ (k : Nat), mm = m.t.slots.length - k ∧ k ≤ m.t.slots.length ∧ ((m.t.slots.take k).all rightOk) = true ∧ f' 25 = vi (k : Int) ∧ f' 24 = .agg (m.t.slots.flatMap Rt.cells).toArray ∧ w.grownBy w' none) (m.t.slots.length - 0) ⟨0, Z, (Nat.zero_le _), Z, Z, Z, ac⟩ ?_)))))
 rintro mm br cj ⟨k, bl, hk, ha, ai, ao, af⟩
 refine Xa (wpo_lss (q := decide ((k : Int) < 4)) ai Z Z Z (wpo_nil (Xk (Xt Z (fun ak => ?_) (fun ak => ?_)))))
 have cc := of_decide_eq_true ak
 refine Xn (Xo (Xk (Xv (Xa ?_))))
 obtain ⟨E, ag⟩ := Qo (l := m.t.slots) (i := k) (by omega)
 refine wpo_indexArr (g := Rt.cells) (z := E) Ou Y9 Qd ao ai (by omega) (by omega) ag Z (wpo_alloc (cs := #[vi 0, vi 0, vb false, vb false, vb false]) Lw Z Z ?_)
 intro bm ck ae
 have bk := Xy ae af
 refine wpo_storen (vs := [vi E.th, vi E.ve, vb E.rd, vb E.wr, vb E.wk]) (cs' := #[vi E.th, vi E.ve, vb E.rd, vb E.wr, vb E.wk]) Y9 Z Z Z (by simp [Value.oneCell']) ae.blk (Nat.le_of_ble_eq_true Z) Z ?_
 intro cm am
 refine wpo_nil (Xa (wpo_loadn (vs := [vi E.th, vi E.ve, vb E.rd, vb E.wr, vb E.wk]) Y9 Z Z (am.blk.rangeL 0 5 Z) Z (Xi Xez (Xb Z Xg) Z (My E _) ?_)))
 rintro _ cn ⟨rfl, au⟩
 have an := low0 (low1 (low0 af ae.grw) am.grw (by omega)) au
 refine wpo_not (b' := !rightOk E) Z Z Z (wpo_nil (Xt Z (fun al => ?_) (fun al => ?_)))
 have bf := Je al
 refine Xa (wpo_assign (v := vb false) Z Z (wpo_nil (Xm (Qv (Ya (Ya (Qv (Ya (⟨vb false, res1 Z Z, ?_, an⟩)))))))))
 rw [Gw ab]
 simp [Jq (p := rightOk) ag bf]
 have bg := Qx al
 exact Xn (Y3 (Xo (Xr (wpo_add (c := (k : Int) + 1) ai Z (by omega) (by omega) (by omega) Z (wpo_move (v := vi ((k : Int) + 1)) Z Z (wpo_nil (Xo (⟨m.t.slots.length - (k + 1), by omega, (k + 1), rfl, (by omega), (Ji (p := rightOk) ha ag bg), rfl, ao, an⟩))))))))
 have cd := of_decide_eq_false ak
 refine Yo (Yx (Yx (Jm (Xo (Xa (wpo_assign (v := vb true) Z Z (wpo_nil (Xm (⟨vb true, res1 Z Z, ?_, af⟩)))))))))
 rw [Gw ab]
 rw [Jy (p := rightOk) ha (by omega), decide_eq_true (by omega)]; rfl
theorem Vo [Comp] (m : MTh) (w : World) (hs : SlAt w m.sa 5 (m.t.slots.map Rt.cells)) (hq : SlAt w m.qa 1 (m.t.queue.map icell)) (hsl : m.t.slots.length ≤ 9223372036854775806) (hql : m.t.queue.length ≤ 9223372036854775806) : CallsR Try.prog 20 #[.agg #[vi m.t.kind, vi m.t.lab.s, vi m.t.lab.v, vi m.t.ve, vi m.t.num, .slice m.sa m.t.slots.length m.sc, .slice m.qa m.t.queue.length m.qc, vi m.t.to]] w (fun v w' => v = vb (thingOk m.t) ∧ w.grownBy w' none) := by
 refine Xq (n := 31) Try.func20 Z Try.ntmps20 Z ?_
 have a9 := World.grownBy.refl w none
 refine Xa (wpo_box (v := .agg #[vi m.t.kind, vi m.t.lab.s, vi m.t.lab.v, vi m.t.ve, vi m.t.num, .slice m.sa m.t.slots.length m.sc, .slice m.qa m.t.queue.length m.qc, vi m.t.to]) (cs := #[vi m.t.kind, vi m.t.lab.s, vi m.t.lab.v, vi m.t.ve, vi m.t.num, .slice m.sa m.t.slots.length m.sc, .slice m.qa m.t.queue.length m.qc, vi m.t.to]) Z Z Z ?_)
 intro bd ba ak
 have bc := Xy ak a9
 have an := low0 a9 ak.grw
 refine wpo_assign (v := vb false) Z Z (wpo_nil (Xu (fun f' w' => (f' 2 = vb ((((((inR m.t.kind 1 5 && labelOk m.t.lab) && versOk m.t) && numOk m.t) && slotsOk m.t) && queueOk m.t) && targetOk m.t)) ∧ ba.grownBy w' none) ?_ ?_))
 refine wpo_fieldAddr (o' := 0) X7 Z Z Z (wpo_load1 (v := vi m.t.kind) X1 Z (ak.blk.cell Z) Z (Xi Uf (Xb Z (Xb Z (Xb Z Xg))) Z (Jo m.t.kind 1 5 _) ?_))
 rintro _ bf ⟨rfl, V⟩
 refine wpo_move (v := vb (inR m.t.kind 1 5)) Z Z ?_
 rcases Xz (inR m.t.kind 1 5) with E | E
 refine Xd Z Z Z E (wpo_fieldAddr (o' := 1) Ke Z Z Z (Xd Z Z Z E ?_))
 have ap := (ak.blk.grown0 V)
 refine wpo_loadn (vs := [vi m.t.lab.s, vi m.t.lab.v]) Yd Z Z (ap.rangeL 1 2 Z) Z (Xd Z Z Z E (Xi L3 (Xb Z Xg) Z (Kg m.t.lab _) ?_))
 rintro _ bg ⟨rfl, ae⟩
 refine wpo_pickt (v := vb (labelOk m.t.lab)) Z E Z Z (wpo_move (v := vb (labelOk m.t.lab)) Z Z ?_)
 rcases Xz (labelOk m.t.lab) with O | O
 refine Xd Z Z Z O ?_
 have aq := (ap.grown0 ae)
 refine wpo_loadn (vs := [vi m.t.kind, vi m.t.lab.s, vi m.t.lab.v, vi m.t.ve, vi m.t.num, .slice m.sa m.t.slots.length m.sc, .slice m.qa m.t.queue.length m.qc, vi m.t.to]) X0 Z Z (aq.rangeL 0 8 Z) Z (Xd Z Z Z O (Xi Xen (Xb Z Xg) Z (Xaf m _) ?_))
 rintro _ bh ⟨rfl, ag⟩
 refine wpo_pickt (v := vb (versOk m.t)) Z O Z Z (wpo_move (v := vb (versOk m.t)) Z Z ?_)
 rcases Xz (versOk m.t) with ab | ab
 refine Xd Z Z Z ab ?_
 have ar := (aq.grown0 ag)
 refine wpo_loadn (vs := [vi m.t.kind, vi m.t.lab.s, vi m.t.lab.v, vi m.t.ve, vi m.t.num, .slice m.sa m.t.slots.length m.sc, .slice m.qa m.t.queue.length m.qc, vi m.t.to]) X0 Z Z (ar.rangeL 0 8 Z) Z (Xd Z Z Z ab (Xi Xeo (Xb Z Xg) Z (Xbb m _) ?_))
 rintro _ bi ⟨rfl, ai⟩
 have al := low0 (low0 (low0 (low0 an V) ae) ag) ai
 refine wpo_pickt (v := vb (numOk m.t)) Z ab Z Z (wpo_move (v := vb (numOk m.t)) Z Z ?_)
 rcases Xz (numOk m.t) with ac | ac
 refine Xd Z Z Z ac ?_
 have au := (ar.grown0 ai)
 refine wpo_loadn (vs := [vi m.t.kind, vi m.t.lab.s, vi m.t.lab.v, vi m.t.ve, vi m.t.num, .slice m.sa m.t.slots.length m.sc, .slice m.qa m.t.queue.length m.qc, vi m.t.to]) X0 Z Z (au.rangeL 0 8 Z) Z (Xd Z Z Z ac (Xi Xep (Xb Z Xg) Z (Ob m _ (SlAt.low hs al) (SlAt.low hq al) (by first | omega | exact Nat.le_of_ble_eq_true rfl | (simp only [List.length_nil, List.length_cons, List.length_append, List.length_replicate]; omega)) (by first | omega | exact Nat.le_of_ble_eq_true rfl | (simp only [List.length_nil, List.length_cons, List.length_append, List.length_replicate]; omega))) ?_))
 rintro _ bj ⟨rfl, aj⟩
 have ao := low0 al aj
 refine wpo_pickt (v := vb (slotsOk m.t)) Z ac Z Z (wpo_move (v := vb (slotsOk m.t)) Z Z ?_)
 rcases Xz (slotsOk m.t) with af | af
 refine Xd Z Z Z af ?_
 have av := (au.grown0 aj)
 refine wpo_loadn (vs := [vi m.t.kind, vi m.t.lab.s, vi m.t.lab.v, vi m.t.ve, vi m.t.num, .slice m.sa m.t.slots.length m.sc, .slice m.qa m.t.queue.length m.qc, vi m.t.to]) X0 Z Z (av.rangeL 0 8 Z) Z (Xd Z Z Z af (Xi Xeq (Xb Z Xg) Z (I0 m _ (SlAt.low hs ao) (SlAt.low hq ao) (by first | omega | exact Nat.le_of_ble_eq_true rfl | (simp only [List.length_nil, List.length_cons, List.length_append, List.length_replicate]; omega)) (by first | omega | exact Nat.le_of_ble_eq_true rfl | (simp only [List.length_nil, List.length_cons, List.length_append, List.length_replicate]; omega))) ?_))
 rintro _ bk ⟨rfl, am⟩
 refine wpo_pickt (v := vb (queueOk m.t)) Z af Z Z (wpo_move (v := vb (queueOk m.t)) Z Z ?_)
 rcases Xz (queueOk m.t) with ah | ah
 refine Xd Z Z Z ah (wpo_loadn (vs := [vi m.t.kind, vi m.t.lab.s, vi m.t.lab.v, vi m.t.ve, vi m.t.num, .slice m.sa m.t.slots.length m.sc, .slice m.qa m.t.queue.length m.qc, vi m.t.to]) X0 Z Z ((av.grown0 am).rangeL 0 8 Z) Z (Xd Z Z Z ah (Xi Xer (Xb Z Xg) Z (T4 m _) ?_)))
 rintro _ bl ⟨rfl, aw⟩
 exact wpo_pickt (v := vb (targetOk m.t)) Z ah Z Z (wpo_assign (v := vb (targetOk m.t)) Z Z (wpo_nil ⟨(cB (by simp [E, O, ab, ac, af, ah])), (Xh (Xh (Xh (Xh (Xh (Xh V ae) ag) ai) aj) am) aw)⟩))
 exact Xe Z Z Z ah Z (Xe Z Z Z ah Z (wpo_pickf (v := vb false) Z ah Z Z (wpo_assign (v := vb false) Z Z (wpo_nil ⟨(cB (by simp [E, O, ab, ac, af, ah])), (Xh (Xh (Xh (Xh (Xh V ae) ag) ai) aj) am)⟩))))
 exact Xe Z Z Z af Z (Xe Z Z Z af Z (wpo_pickf (v := vb false) Z af Z Z (wpo_move (v := vb false) Z Z (Xe Z Z Z Z Z (Xe Z Z Z Z Z (wpo_pickf (v := vb false) Z Z Z Z (wpo_assign (v := vb false) Z Z (wpo_nil ⟨(cB (by simp [E, O, ab, ac, af])), (Xh (Xh (Xh (Xh V ae) ag) ai) aj)⟩))))))))
 exact Xe Z Z Z ac Z (Xe Z Z Z ac Z (wpo_pickf (v := vb false) Z ac Z Z (wpo_move (v := vb false) Z Z (Xe Z Z Z Z Z (Xe Z Z Z Z Z (wpo_pickf (v := vb false) Z Z Z Z (wpo_move (v := vb false) Z Z (Xe Z Z Z Z Z (Xe Z Z Z Z Z (wpo_pickf (v := vb false) Z Z Z Z (wpo_assign (v := vb false) Z Z (wpo_nil ⟨(cB (by simp [E, O, ab, ac])), (Xh (Xh (Xh V ae) ag) ai)⟩))))))))))))
 refine Xe Z Z Z ab Z (Xe Z Z Z ab Z (wpo_pickf (v := vb false) Z ab Z Z (wpo_move (v := vb false) Z Z (Xe Z Z Z Z Z (Xe Z Z Z Z Z (wpo_pickf (v := vb false) Z Z Z Z (wpo_move (v := vb false) Z Z (Xe Z Z Z Z Z (Xe Z Z Z Z Z (wpo_pickf (v := vb false) Z Z Z Z (wpo_move (v := vb false) Z Z (Xe Z Z Z Z Z ?_))))))))))))
 exact Xe Z Z Z Z Z (wpo_pickf (v := vb false) Z Z Z Z (wpo_assign (v := vb false) Z Z (wpo_nil ⟨(cB (by simp [E, O, ab])), (Xh (Xh V ae) ag)⟩)))
 refine Xe Z Z Z O Z (Xe Z Z Z O Z (wpo_pickf (v := vb false) Z O Z Z (wpo_move (v := vb false) Z Z (Xe Z Z Z Z Z (Xe Z Z Z Z Z (wpo_pickf (v := vb false) Z Z Z Z (wpo_move (v := vb false) Z Z (Xe Z Z Z Z Z (Xe Z Z Z Z Z (wpo_pickf (v := vb false) Z Z Z Z (wpo_move (v := vb false) Z Z (Xe Z Z Z Z Z ?_))))))))))))
 exact Xe Z Z Z Z Z (wpo_pickf (v := vb false) Z Z Z Z (wpo_move (v := vb false) Z Z (Xe Z Z Z Z Z (Xe Z Z Z Z Z (wpo_pickf (v := vb false) Z Z Z Z (wpo_assign (v := vb false) Z Z (wpo_nil ⟨(cB (by simp [E, O])), (Xh V ae)⟩)))))))
 iterate 3 refine Xe rfl rfl rfl E rfl ?_
 refine wpo_pickf (v := vb false) Z E Z Z (wpo_move (v := vb false) Z Z (Xe Z Z Z Z Z (Xe Z Z Z Z Z (wpo_pickf (v := vb false) Z Z Z Z (wpo_move (v := vb false) Z Z (Xe Z Z Z Z Z (Xe Z Z Z Z Z (wpo_pickf (v := vb false) Z Z Z Z (wpo_move (v := vb false) Z Z (Xe Z Z Z Z Z (Xe Z Z Z Z Z (wpo_pickf (v := vb false) Z Z Z Z ?_))))))))))))
 exact wpo_move (v := vb false) Z Z (Xe Z Z Z Z Z (Xe Z Z Z Z Z (wpo_pickf (v := vb false) Z Z Z Z (wpo_move (v := vb false) Z Z (Xe Z Z Z Z Z (Xe Z Z Z Z Z (wpo_pickf (v := vb false) Z Z Z Z (wpo_assign (v := vb false) Z Z (wpo_nil ⟨(cB (by simp [E])), V⟩)))))))))
 rintro be bm ⟨a8, az⟩
 refine Xm (⟨vb ((((((inR m.t.kind 1 5 && labelOk m.t.lab) && versOk m.t) && numOk m.t) && slotsOk m.t) && queueOk m.t) && targetOk m.t), res1 Z a8, ?_, (low0 an az)⟩)
 rfl
theorem Kj [Comp] (n : Int) (w : World) : CallsR Try.prog 95 #[vi n] w (fun v w' => v = vb (decide (n = 2) || decide (n = 3)) ∧ w.grownBy w' none) := by
 refine Xq (n := 9) Try.func95 Z Try.ntmps95 Z (Xa (wpo_assign (v := vb false) Z Z (wpo_nil (Xu (fun f' w' => (f' 2 = vb ((decide (n = 2)) || (decide (n = 3)))) ∧ w = w') ?_ ?_))))
 refine wpo_move (v := vi n) Z Z (wpo_eql (q := decide (n = 2)) Z Z Z Z (wpo_move (v := vb (decide (n = 2))) Z Z ?_))
 rcases Xz (decide (n = 2)) with E | E
 have ab := of_decide_eq_true E
 exact Xe Z Z Z E Z (Xe Z Z Z E Z (wpo_pickt (v := vb true) Z E Z Z (wpo_assign (v := vb true) Z Z (wpo_nil ⟨(cB (by simp [E])), Z⟩))))
 have ac := of_decide_eq_false E
 exact Xd Z Z Z E (wpo_move (v := vi n) Z Z (Xd Z Z Z E (wpo_eql (q := decide (n = 3)) Z Z Z Z (wpo_pickf (v := vb (decide (n = 3))) Z E Z Z (wpo_assign (v := vb (decide (n = 3))) Z Z (wpo_nil ⟨(cB (by simp [E])), Z⟩))))))
 rintro V ae ⟨O, rfl⟩
 refine Xm (⟨vb ((decide (n = 2)) || (decide (n = 3))), res1 Z O, ?_, (World.grownBy.refl w none)⟩)
 rfl
theorem Va [Comp] (m : MTh) (w : World) (hs : SlAt w m.sa 5 (m.t.slots.map Rt.cells)) (hq : SlAt w m.qa 1 (m.t.queue.map icell)) (hsl : m.t.slots.length ≤ 9223372036854775806) (hql : m.t.queue.length ≤ 9223372036854775806) : CallsR Try.prog 45 #[.agg #[vi m.t.kind, vi m.t.lab.s, vi m.t.lab.v, vi m.t.ve, vi m.t.num, .slice m.sa m.t.slots.length m.sc, .slice m.qa m.t.queue.length m.qc, vi m.t.to]] w (fun v w' => v = vb (thingOk m.t) ∧ w.grownBy w' none) := by
 refine Xq (n := 144) Try.func45 Z Try.ntmps45 Z ?_
 have gg := World.grownBy.refl w none
 refine Xa (wpo_box (v := .agg #[vi m.t.kind, vi m.t.lab.s, vi m.t.lab.v, vi m.t.ve, vi m.t.num, .slice m.sa m.t.slots.length m.sc, .slice m.qa m.t.queue.length m.qc, vi m.t.to]) (cs := #[vi m.t.kind, vi m.t.lab.s, vi m.t.lab.v, vi m.t.ve, vi m.t.num, .slice m.sa m.t.slots.length m.sc, .slice m.qa m.t.queue.length m.qc, vi m.t.to]) Z Z Z ?_)
 intro ce gh cj
 have gl := Xy cj gg
 refine wpo_assign (v := vb false) Z Z (wpo_nil (Xk (Xu (fun f' w' => (f' 1 = pt ce 0 ∧ f' 2 = vb false ∧ f' 27 = vb ((((!inR m.t.kind 1 5) || (!labelOk m.t.lab)) || (!inR m.t.ve 0 5)) || (decide (3 < (m.t.queue.length : Int))))) ∧ gh.grownBy w' none) ?_ ?_)))
 refine wpo_fieldAddr (o' := 0) X7 Z Z Z (wpo_load1 (v := vi m.t.kind) X1 Z (cj.blk.cell Z) Z (Xi Ue (Xb Z (Xb Z (Xb Z Xg))) Z (K4 m.t.kind 1 5 _) ?_))
 rintro _ jc ⟨rfl, ck⟩
 refine wpo_not (b' := !inR m.t.kind 1 5) Z Z Z (wpo_move (v := vb (!inR m.t.kind 1 5)) Z Z ?_)
 rcases Xz (!inR m.t.kind 1 5) with bh | bh
 have ez := Je bh
 iterate 4 refine Xe rfl rfl rfl bh rfl ?_
 refine wpo_pickt (v := vb true) Z bh Z Z (wpo_move (v := vb true) Z Z ?_)
 iterate 4 refine Xe rfl rfl rfl rfl rfl ?_
 refine wpo_pickt (v := vb true) Z Z Z Z (wpo_move (v := vb true) Z Z ?_)
 iterate 4 refine Xe rfl rfl rfl rfl rfl ?_
 exact wpo_pickt (v := vb true) Z Z Z Z (wpo_nil ⟨⟨Z, Z, (congrArg Value.bool (by first | (simp only [bh, ez, b0, b1, b2, b3, b4, b5, b6, b7, b8, b9]; done) | simp [bh, ez]))⟩, ck⟩)
 have cw := Qx bh
 refine Xd Z Z Z bh (wpo_fieldAddr (o' := 1) Ke Z Z Z (Xd Z Z Z bh ?_))
 have fe := (cj.blk.grown0 ck)
 refine wpo_loadn (vs := [vi m.t.lab.s, vi m.t.lab.v]) Yd Z Z (fe.rangeL 1 2 Z) Z (Xd Z Z Z bh (Xi L2 (Xb Z Xg) Z (Kk m.t.lab _) ?_))
 rintro _ jd ⟨rfl, cx⟩
 refine Xd Z Z Z bh (wpo_not (b' := !labelOk m.t.lab) Z Z Z (wpo_pickf (v := vb (!labelOk m.t.lab)) Z bh Z Z (wpo_move (v := vb (!labelOk m.t.lab)) Z Z ?_)))
 rcases Xz (!labelOk m.t.lab) with bj | bj
 have fa := Je bj
 iterate 4 refine Xe rfl rfl rfl bj rfl ?_
 refine wpo_pickt (v := vb true) Z bj Z Z (wpo_move (v := vb true) Z Z ?_)
 iterate 4 refine Xe rfl rfl rfl rfl rfl ?_
 exact wpo_pickt (v := vb true) Z Z Z Z (wpo_nil ⟨⟨Z, Z, (congrArg Value.bool (by first | (simp only [bh, cw, bj, fa, b0, b1, b2, b3, b4, b5, b6, b7, b8, b9]; done) | simp [bh, cw, bj, fa]))⟩, (Xh ck cx)⟩)
 have dn := Qx bj
 refine Xd Z Z Z bj (wpo_fieldAddr (o' := 3) Q5 Z Z Z (Xd Z Z Z bj ?_))
 have ff := (fe.grown0 cx)
 refine wpo_load1 (v := vi m.t.ve) X1 Z (ff.cell Z) Z (Xd Z Z Z bj (Xi Ue (Xb Z (Xb Z (Xb Z Xg))) Z (K4 m.t.ve 0 5 _) ?_))
 rintro _ je ⟨rfl, de⟩
 refine Xd Z Z Z bj (wpo_not (b' := !inR m.t.ve 0 5) Z Z Z (wpo_pickf (v := vb (!inR m.t.ve 0 5)) Z bj Z Z (wpo_move (v := vb (!inR m.t.ve 0 5)) Z Z ?_)))
 rcases Xz (!inR m.t.ve 0 5) with bl | bl
 have fb := Je bl
 iterate 4 refine Xe rfl rfl rfl bl rfl ?_
 exact wpo_pickt (v := vb true) Z bl Z Z (wpo_nil ⟨⟨Z, Z, (congrArg Value.bool (by first | (simp only [bh, cw, bj, dn, bl, fb, b0, b1, b2, b3, b4, b5, b6, b7, b8, b9]; done) | simp [bh, cw, bj, dn, bl, fb]))⟩, (Xh (Xh ck cx) de)⟩)
 have fc := Qx bl
 exact Xd Z Z Z bl (wpo_fieldAddr (o' := 6) Q2 Z Z Z (Xd Z Z Z bl (wpo_load1 (v := .slice m.qa m.t.queue.length m.qc) Kc Z ((ff.grown0 de).cell Z) Z (Xd Z Z Z bl (wpo_len (by kernel_rfl) Z Z (Xd Z Z Z bl (wpo_gtr (q := decide (3 < (m.t.queue.length : Int))) Z Z Z Z (wpo_pickf (v := vb (decide (3 < (m.t.queue.length : Int)))) Z bl Z Z (wpo_nil ⟨⟨Z, Z, (congrArg Value.bool (by first | (simp only [bh, cw, bj, dn, bl, fc, b0, b1, b2, b3, b4, b5, b6, b7, b8, b9]; done) | simp [bh, cw, bj, dn, bl, fc]))⟩, (Xh (Xh ck cx) de)⟩)))))))))
 rintro gu fi ⟨⟨dr, ey, fw⟩, ef⟩
 have d8 := low0 (low0 gg cj.grw) ef
 refine Xt fw (fun E => ?_) (fun E => ?_)
 refine Xa (wpo_assign (v := vb false) Z Z (wpo_nil (Xm (Ya (⟨vb false, res1 Z Z, ?_, d8⟩)))))
 exact congrArg Value.bool (Xfk E)
 have O := K5 E
 have V := K5 O
 have ab := K5 V
 have ag := Qx ab
 have ac := K6 V
 have ah := Qx ac
 have ae := K6 O
 have ai := Qx ae
 have af := K6 E
 have g7 := of_decide_eq_false af
 refine Xn (Xo (Xa (wpo_assign (v := vi 0) Z Z (wpo_nil (Xk (Xa (wpo_fieldAddr (o' := 0) X7 dr Z Z ?_)))))))
 have dp := (cj.blk.grown0 ef)
 refine wpo_load1 (v := vi m.t.kind) X1 Z (dp.cell Z) Z (wpo_eql (q := decide (m.t.kind = 3)) Z Z Z Z (wpo_nil (Pv (fun f' w' => (f' 1 = pt ce 0 ∧ f' 2 = vb false ∧ f' 3 = vi (if m.t.kind = 3 then (-4) else 0)) ∧ fi = w') ?_ ?_)))
 refine Xt Z (fun cy => ?_) (fun cy => ?_)
 have g8 := of_decide_eq_true cy
 exact Xr (wpo_assign (v := vi (-4)) Z Z (wpo_nil (Xo (⟨⟨dr, ey, (congrArg (Value.int .i64) (if_pos (of_decide_eq_true cy)).symm)⟩, Z⟩))))
 have g9 := of_decide_eq_false cy
 exact Xn (Xo (⟨⟨dr, ey, (congrArg (Value.int .i64) (if_neg (of_decide_eq_false cy)).symm)⟩, Z⟩))
 rintro gv _ ⟨⟨be, cc, fx⟩, rfl⟩
 refine Xo (Xk (Xu (fun f' w' => (f' 1 = pt ce 0 ∧ f' 2 = vb false ∧ f' 65 = vb (((!inR m.t.num (if m.t.kind = 3 then (-4) else 0) 99) || ((!(decide (m.t.num = 0))) && ((decide (m.t.kind = 2)) || (decide (m.t.kind = 4))))) || ((!(decide (m.t.ve = 0))) && ((decide (m.t.kind = 3)) || (decide (m.t.kind = 5)))))) ∧ fi.grownBy w' none) ?_ ?_))
 refine wpo_fieldAddr (o' := 4) Q9 be Z Z (wpo_load1 (v := vi m.t.num) X1 Z (dp.cell Z) Z (wpo_move (v := vi (if m.t.kind = 3 then (-4) else 0)) fx Z (Xi Ue (Xb Z (Xb Z (Xb Z Xg))) Z (K4 m.t.num (if m.t.kind = 3 then (-4) else 0) 99 _) ?_)))
 rintro _ jf ⟨rfl, br⟩
 refine wpo_not (b' := !inR m.t.num (if m.t.kind = 3 then (-4) else 0) 99) Z Z Z (wpo_move (v := vb (!inR m.t.num (if m.t.kind = 3 then (-4) else 0) 99)) Z Z ?_)
 rcases Xz (!inR m.t.num (if m.t.kind = 3 then (-4) else 0) 99) with aj | aj
 have fd := Je aj
 iterate 4 refine Xe rfl rfl rfl aj rfl ?_
 iterate 8 refine X2 rfl rfl rfl rfl ?_
 refine Xe Z Z Z aj Z (wpo_pickt (v := vb true) Z aj Z Z (wpo_move (v := vb true) Z Z ?_))
 iterate 4 refine Xe rfl rfl rfl rfl rfl ?_
 iterate 8 refine X2 rfl rfl rfl rfl ?_
 exact Xe Z Z Z Z Z (wpo_pickt (v := vb true) Z Z Z Z (wpo_nil ⟨⟨be, cc, (congrArg Value.bool (by first | (simp only [E, O, V, ab, ag, ac, ah, ae, ai, af, aj, fd, b0, b1, b2, b3, b4, b5, b6, b7, b8, b9]; done) | simp [E, O, V, ab, ag, ac, ah, ae, ai, af, aj, fd]))⟩, br⟩))
 have bk := Qx aj
 refine Xd Z Z Z aj (wpo_fieldAddr (o' := 4) Q9 be Z Z (Xd Z Z Z aj ?_))
 have cd := (dp.grown0 br)
 refine wpo_load1 (v := vi m.t.num) X1 Z (cd.cell Z) Z (Xd Z Z Z aj (wpo_neq (q := !(decide (m.t.num = 0))) Z Z Z Z (Xd Z Z Z aj (wpo_move (v := vb (!(decide (m.t.num = 0)))) Z Z ?_))))
 rcases Xz (!(decide (m.t.num = 0))) with ak | ak
 have ca := Je ak
 have ia := of_decide_eq_false ca
 refine Xd Z Z Z ak (wpo_fieldAddr (o' := 0) X7 be Z Z (Xd Z Z Z ak (wpo_load1 (v := vi m.t.kind) X1 Z (cd.cell Z) Z (Xd Z Z Z ak (wpo_eql (q := decide (m.t.kind = 2)) Z Z Z Z (Xd Z Z Z ak (wpo_move (v := vb (decide (m.t.kind = 2))) Z Z ?_)))))))
 rcases Xz (decide (m.t.kind = 2)) with bf | bf
 have ib := of_decide_eq_true bf
 iterate 3 refine Xe rfl rfl rfl bf rfl ?_
 refine Xd Z Z Z ak (wpo_pickt (v := vb true) Z bf Z Z (Xd Z Z Z aj (wpo_pickt (v := vb true) Z ak Z Z (wpo_pickf (v := vb true) Z aj Z Z (wpo_move (v := vb true) Z Z ?_)))))
 iterate 4 refine Xe rfl rfl rfl rfl rfl ?_
 iterate 8 refine X2 rfl rfl rfl rfl ?_
 exact Xe Z Z Z Z Z (wpo_pickt (v := vb true) Z Z Z Z (wpo_nil ⟨⟨be, cc, (congrArg Value.bool (by first | (simp only [E, O, V, ab, ag, ac, ah, ae, ai, af, aj, bk, ak, ca, bf, b0, b1, b2, b3, b4, b5, b6, b7, b8, b9]; done) | simp [E, O, V, ab, ag, ac, ah, ae, ai, af, aj, bk, ak, ca, bf]))⟩, br⟩))
 have ic := of_decide_eq_false bf
 refine Xd Z Z Z bf (wpo_fieldAddr (o' := 0) X7 be Z Z (Xd Z Z Z bf (wpo_load1 (v := vi m.t.kind) X1 Z (cd.cell Z) Z (Xd Z Z Z bf (wpo_eql (q := decide (m.t.kind = 4)) Z Z Z Z (Xd Z Z Z ak (wpo_pickf (v := vb (decide (m.t.kind = 4))) Z bf Z Z (Xd Z Z Z aj (wpo_pickt (v := vb (decide (m.t.kind = 4))) Z ak Z Z (wpo_pickf (v := vb (decide (m.t.kind = 4))) Z aj Z Z (wpo_move (v := vb (decide (m.t.kind = 4))) Z Z ?_)))))))))))
 rcases Xz (decide (m.t.kind = 4)) with an | an
 have ie := of_decide_eq_true an
 iterate 4 refine Xe rfl rfl rfl an rfl ?_
 iterate 8 refine X2 rfl rfl rfl rfl ?_
 exact Xe Z Z Z an Z (wpo_pickt (v := vb true) Z an Z Z (wpo_nil ⟨⟨be, cc, (congrArg Value.bool (by first | (simp only [E, O, V, ab, ag, ac, ah, ae, ai, af, aj, bk, ak, ca, bf, an, b0, b1, b2, b3, b4, b5, b6, b7, b8, b9]; done) | simp [E, O, V, ab, ag, ac, ah, ae, ai, af, aj, bk, ak, ca, bf, an]))⟩, br⟩))
 have ig := of_decide_eq_false an
 refine Xd Z Z Z an (wpo_fieldAddr (o' := 3) Q5 be Z Z (Xd Z Z Z an (wpo_load1 (v := vi m.t.ve) X1 Z (cd.cell Z) Z (Xd Z Z Z an (wpo_neq (q := !(decide (m.t.ve = 0))) Z Z Z Z (Xd Z Z Z an (wpo_move (v := vb (!(decide (m.t.ve = 0)))) Z Z ?_)))))))
 rcases Xz (!(decide (m.t.ve = 0))) with a8 | a8
 have cz := Je a8
 have ii := of_decide_eq_false cz
 refine Xd Z Z Z a8 (wpo_fieldAddr (o' := 0) X7 be Z Z (Xd Z Z Z a8 (wpo_load1 (v := vi m.t.kind) X1 Z (cd.cell Z) Z (Xd Z Z Z a8 (wpo_eql (q := decide (m.t.kind = 3)) Z Z Z Z (Xd Z Z Z a8 (wpo_move (v := vb (decide (m.t.kind = 3))) Z Z ?_)))))))
 rcases Xz (decide (m.t.kind = 3)) with bt | bt
 have ij := of_decide_eq_true bt
 iterate 3 refine Xe rfl rfl rfl bt rfl ?_
 exact Xd Z Z Z a8 (wpo_pickt (v := vb true) Z bt Z Z (Xd Z Z Z an (wpo_pickt (v := vb true) Z a8 Z Z (wpo_pickf (v := vb true) Z an Z Z (wpo_nil ⟨⟨be, cc, (congrArg Value.bool (by first | (simp only [E, O, V, ab, ag, ac, ah, ae, ai, af, aj, bk, ak, ca, bf, an, a8, cz, bt, b0, b1, b2, b3, b4, b5, b6, b7, b8, b9]; done) | simp [E, O, V, ab, ag, ac, ah, ae, ai, af, aj, bk, ak, ca, bf, an, a8, cz, bt]))⟩, br⟩)))))
 have ik := of_decide_eq_false bt
 exact Xd Z Z Z bt (wpo_fieldAddr (o' := 0) X7 be Z Z (Xd Z Z Z bt (wpo_load1 (v := vi m.t.kind) X1 Z (cd.cell Z) Z (Xd Z Z Z bt (wpo_eql (q := decide (m.t.kind = 5)) Z Z Z Z (Xd Z Z Z a8 (wpo_pickf (v := vb (decide (m.t.kind = 5))) Z bt Z Z (Xd Z Z Z an (wpo_pickt (v := vb (decide (m.t.kind = 5))) Z a8 Z Z (wpo_pickf (v := vb (decide (m.t.kind = 5))) Z an Z Z (wpo_nil ⟨⟨be, cc, (congrArg Value.bool (by first | (simp only [E, O, V, ab, ag, ac, ah, ae, ai, af, aj, bk, ak, ca, bf, an, a8, cz, bt, b0, b1, b2, b3, b4, b5, b6, b7, b8, b9]; done) | simp [E, O, V, ab, ag, ac, ah, ae, ai, af, aj, bk, ak, ca, bf, an, a8, cz, bt]))⟩, br⟩)))))))))))
 have dv := Qx a8
 have il := of_decide_eq_true dv
 iterate 4 refine Xe rfl rfl rfl a8 rfl ?_
 iterate 3 refine X2 rfl rfl rfl rfl ?_
 exact Xe Z Z Z a8 Z (Xd Z Z Z an (wpo_pickf (v := vb false) Z a8 Z Z (wpo_pickf (v := vb false) Z an Z Z (wpo_nil ⟨⟨be, cc, (congrArg Value.bool (by first | (simp only [E, O, V, ab, ag, ac, ah, ae, ai, af, aj, bk, ak, ca, bf, an, a8, dv, b0, b1, b2, b3, b4, b5, b6, b7, b8, b9]; done) | simp [E, O, V, ab, ag, ac, ah, ae, ai, af, aj, bk, ak, ca, bf, an, a8, dv]))⟩, br⟩))))
 have cg := Qx ak
 have im := of_decide_eq_true cg
 iterate 4 refine Xe rfl rfl rfl ak rfl ?_
 iterate 3 refine X2 rfl rfl rfl rfl ?_
 refine Xe Z Z Z ak Z (Xd Z Z Z aj (wpo_pickf (v := vb false) Z ak Z Z (wpo_pickf (v := vb false) Z aj Z Z (wpo_move (v := vb false) Z Z (Xd Z Z Z Z (wpo_fieldAddr (o' := 3) Q5 be Z Z (Xd Z Z Z Z (wpo_load1 (v := vi m.t.ve) X1 Z (cd.cell Z) Z (Xd Z Z Z Z (wpo_neq (q := !(decide (m.t.ve = 0))) Z Z Z Z (Xd Z Z Z Z (wpo_move (v := vb (!(decide (m.t.ve = 0)))) Z Z ?_))))))))))))
 rcases Xz (!(decide (m.t.ve = 0))) with a9 | a9
 have da := Je a9
 have io := of_decide_eq_false da
 refine Xd Z Z Z a9 (wpo_fieldAddr (o' := 0) X7 be Z Z (Xd Z Z Z a9 (wpo_load1 (v := vi m.t.kind) X1 Z (cd.cell Z) Z (Xd Z Z Z a9 (wpo_eql (q := decide (m.t.kind = 3)) Z Z Z Z (Xd Z Z Z a9 (wpo_move (v := vb (decide (m.t.kind = 3))) Z Z ?_)))))))
 rcases Xz (decide (m.t.kind = 3)) with bu | bu
 have ip := of_decide_eq_true bu
 iterate 3 refine Xe rfl rfl rfl bu rfl ?_
 exact Xd Z Z Z a9 (wpo_pickt (v := vb true) Z bu Z Z (Xd Z Z Z Z (wpo_pickt (v := vb true) Z a9 Z Z (wpo_pickf (v := vb true) Z Z Z Z (wpo_nil ⟨⟨be, cc, (congrArg Value.bool (by first | (simp only [E, O, V, ab, ag, ac, ah, ae, ai, af, aj, bk, ak, cg, a9, da, bu, b0, b1, b2, b3, b4, b5, b6, b7, b8, b9]; done) | simp [E, O, V, ab, ag, ac, ah, ae, ai, af, aj, bk, ak, cg, a9, da, bu]))⟩, br⟩)))))
 have iq := of_decide_eq_false bu
 exact Xd Z Z Z bu (wpo_fieldAddr (o' := 0) X7 be Z Z (Xd Z Z Z bu (wpo_load1 (v := vi m.t.kind) X1 Z (cd.cell Z) Z (Xd Z Z Z bu (wpo_eql (q := decide (m.t.kind = 5)) Z Z Z Z (Xd Z Z Z a9 (wpo_pickf (v := vb (decide (m.t.kind = 5))) Z bu Z Z (Xd Z Z Z Z (wpo_pickt (v := vb (decide (m.t.kind = 5))) Z a9 Z Z (wpo_pickf (v := vb (decide (m.t.kind = 5))) Z Z Z Z (wpo_nil ⟨⟨be, cc, (congrArg Value.bool (by first | (simp only [E, O, V, ab, ag, ac, ah, ae, ai, af, aj, bk, ak, cg, a9, da, bu, b0, b1, b2, b3, b4, b5, b6, b7, b8, b9]; done) | simp [E, O, V, ab, ag, ac, ah, ae, ai, af, aj, bk, ak, cg, a9, da, bu]))⟩, br⟩)))))))))))
 have dw := Qx a9
 have ir := of_decide_eq_true dw
 iterate 4 refine Xe rfl rfl rfl a9 rfl ?_
 iterate 3 refine X2 rfl rfl rfl rfl ?_
 exact Xe Z Z Z a9 Z (Xd Z Z Z Z (wpo_pickf (v := vb false) Z a9 Z Z (wpo_pickf (v := vb false) Z Z Z Z (wpo_nil ⟨⟨be, cc, (congrArg Value.bool (by first | (simp only [E, O, V, ab, ag, ac, ah, ae, ai, af, aj, bk, ak, cg, a9, dw, b0, b1, b2, b3, b4, b5, b6, b7, b8, b9]; done) | simp [E, O, V, ab, ag, ac, ah, ae, ai, af, aj, bk, ak, cg, a9, dw]))⟩, br⟩))))
 rintro gw jg ⟨⟨fy, gt, fz⟩, eh⟩
 have d9 := low0 d8 eh
 refine Xt fz (fun am => ?_) (fun am => ?_)
 refine Xa (wpo_assign (v := vb false) Z Z (wpo_nil (Xm (Ya (⟨vb false, res1 Z Z, ?_, d9⟩)))))
 exact congrArg Value.bool (Xfl am)
 have au := K5 am
 have av := K5 au
 have ba := Qx av
 have bc := K6 au
 have bd := K6 am
 refine Xn (Xo (Xk (Xa (wpo_assign (v := vi 0) Z Z (wpo_nil (Xv (Yg (fun mm f' w' => ∃ (k : Nat), mm = m.t.queue.length - k ∧ k ≤ m.t.queue.length ∧ ((m.t.queue.take k).all numQ) = true ∧ f' 4 = vi (k : Int) ∧ f' 1 = pt ce 0 ∧ w.grownBy w' none ∧ Blk w' ce 35 #[vi m.t.kind, vi m.t.lab.s, vi m.t.lab.v, vi m.t.ve, vi m.t.num, .slice m.sa m.t.slots.length m.sc, .slice m.qa m.t.queue.length m.qc, vi m.t.to]) (m.t.queue.length - 0) ⟨0, Z, (Nat.zero_le _), Z, Z, fy, d9, (dp.grown0 eh)⟩ ?_)))))))
 rintro mm gx jh ⟨k, gm, hk, ha, dt, dm, db, dq⟩
 refine Xk (Xa (wpo_move (v := vi (k : Int)) dt Z (wpo_fieldAddr (o' := 6) Q2 dm Z Z (wpo_load1 (v := .slice m.qa m.t.queue.length m.qc) Kc Z (dq.cell Z) Z (wpo_len (by kernel_rfl) Z Z (wpo_lss (q := decide ((k : Int) < (m.t.queue.length : Int))) Z Z Z Z (wpo_nil (Xt Z (fun ap => ?_) (fun ap => ?_)))))))))
 have is := of_decide_eq_true ap
 refine Xn (Xo (Xk (Xv (Xa (wpo_fieldAddr (o' := 6) Q2 dm Z Z (wpo_load1 (v := .slice m.qa m.t.queue.length m.qc) Kc Z (dq.cell Z) Z (wpo_move (v := vi (k : Int)) dt Z ?_)))))))
 obtain ⟨ex, dk⟩ := Qo (l := m.t.queue) (i := k) (by omega)
 obtain ⟨gq, ja, i8, fj, fq, fu⟩ := SlAt.at hq (Yw dk)
 refine X6 K0 Z Z fj fq (by omega) (by omega) Z (wpo_load1 (v := vi ex) X1 Z ((Y8 fu db) 0 _ Z) Z (Xi Ue (Xb Z (Xb Z (Xb Z Xg))) Z (K4 ex 0 99 _) ?_))
 rintro _ ji ⟨rfl, ei⟩
 have ea := low0 db ei
 refine wpo_not (b' := !inR ex 0 99) Z Z Z (wpo_nil (Xt Z (fun dx => ?_) (fun dx => ?_)))
 have f9 := Je dx
 refine Xa (wpo_assign (v := vb false) Z Z (wpo_nil (Xm (Qv (Ya (Ya (Qv (Ya (⟨vb false, res1 Z Z, ?_, ea⟩)))))))))
 exact congrArg Value.bool (Xfo dk f9)
 have gb := Qx dx
 exact Xn (Y3 (Xo (Xr (wpo_move (v := vi (k : Int)) dt Z (wpo_add (c := (k : Int) + 1) Z Z (by omega) (by omega) (by omega) Z (wpo_assign (v := vi ((k : Int) + 1)) Z Z (wpo_nil (Xo (⟨m.t.queue.length - (k + 1), by omega, (k + 1), rfl, (by omega), (Ji (p := numQ) ha dk gb), rfl, dm, ea, (dq.grown0 ei)⟩)))))))))
 have it := of_decide_eq_false ap
 refine Yo (Yx (Yx (Jm (Xo (Xk (Xa (wpo_assign (v := vi 0) Z Z (wpo_nil (Xv (Yg (fun mm f' w' => ∃ (j : Nat), mm = m.t.slots.length - j ∧ j ≤ m.t.slots.length ∧ ((m.t.slots.take j).all rightOk) = true ∧ f' 5 = vi (j : Int) ∧ f' 1 = pt ce 0 ∧ w.grownBy w' none ∧ Blk w' ce 35 #[vi m.t.kind, vi m.t.lab.s, vi m.t.lab.v, vi m.t.ve, vi m.t.num, .slice m.sa m.t.slots.length m.sc, .slice m.qa m.t.queue.length m.qc, vi m.t.to]) (m.t.slots.length - 0) ⟨0, Z, (Nat.zero_le _), Z, Z, dm, db, dq⟩ ?_))))))))))
 rintro mm gy gi ⟨j, gp, hj, hb, du, bz, dc, cn⟩
 refine Xk (Xa (wpo_move (v := vi (j : Int)) du Z (wpo_fieldAddr (o' := 5) Qe bz Z Z (wpo_load1 (v := .slice m.sa m.t.slots.length m.sc) Jt Z (cn.cell Z) Z (wpo_len (by kernel_rfl) Z Z (wpo_lss (q := decide ((j : Int) < (m.t.slots.length : Int))) Z Z Z Z (wpo_nil (Xt Z (fun aq => ?_) (fun aq => ?_)))))))))
 have iu := of_decide_eq_true aq
 refine Xn (Xo (Xk (Xv (Xa (wpo_fieldAddr (o' := 5) Qe bz Z Z (wpo_load1 (v := .slice m.sa m.t.slots.length m.sc) Jt Z (cn.cell Z) Z (wpo_move (v := vi (j : Int)) du Z ?_)))))))
 obtain ⟨co, dl⟩ := Qo (l := m.t.slots) (i := j) (by omega)
 obtain ⟨gr, jb, i9, fk, ft, fv⟩ := SlAt.at hs (Yw dl)
 refine X6 G2 Z Z fk ft (by omega) (by omega) Z (wpo_loadn (vs := [vi co.th, vi co.ve, vb co.rd, vb co.wr, vb co.wk]) Y9 Z Z (Qh (Y8 fv dc) 0 5 Z) Z (Xi Zb (Xb Z Xg) Z (Wh co _) ?_))
 rintro _ jj ⟨rfl, ej⟩
 have ed := low0 dc ej
 refine wpo_not (b' := !rightOk co) Z Z Z (wpo_nil (Xt Z (fun dz => ?_) (fun dz => ?_)))
 have gc := Je dz
 refine Xa (wpo_assign (v := vb false) Z Z (wpo_nil (Xm (Qv (Ya (Ya (Qv (Ya (⟨vb false, res1 Z Z, ?_, ed⟩)))))))))
 exact congrArg Value.bool (Xfp dl gc)
 have gf := Qx dz
 exact Xn (Y3 (Xo (Xr (wpo_move (v := vi (j : Int)) du Z (wpo_add (c := (j : Int) + 1) Z Z (by omega) (by omega) (by omega) Z (wpo_assign (v := vi ((j : Int) + 1)) Z Z (wpo_nil (Xo (⟨m.t.slots.length - (j + 1), by omega, (j + 1), rfl, (by omega), (Ji (p := rightOk) hb dl gf), rfl, bz, ed, (cn.grown0 ej)⟩)))))))))
 have iv := of_decide_eq_false aq
 refine Yo (Yx (Yx (Jm (Xo (Xk (Xu (fun f' w' => (f' 1 = pt ce 0 ∧ f' 114 = vb ((((decide (m.t.kind = 2)) || (decide (m.t.kind = 3))) && (!(decide ((m.t.slots.length : Int) = 4)))) || ((!((decide (m.t.kind = 2)) || (decide (m.t.kind = 3)))) && (!(decide ((m.t.slots.length : Int) = 0)))))) ∧ gi.grownBy w' none) ?_ ?_))))))
 refine wpo_fieldAddr (o' := 0) X7 bz Z Z (wpo_load1 (v := vi m.t.kind) X1 Z (cn.cell Z) Z (Xi H9 (Xb Z Xg) Z (Kj m.t.kind _) ?_))
 rintro _ jk ⟨rfl, cm⟩
 refine wpo_move (v := vb ((decide (m.t.kind = 2)) || (decide (m.t.kind = 3)))) Z Z ?_
 rcases Xz ((decide (m.t.kind = 2)) || (decide (m.t.kind = 3))) with ar | ar
 refine Xd Z Z Z ar (wpo_fieldAddr (o' := 5) Qe bz Z Z (Xd Z Z Z ar ?_))
 have fg := (cn.grown0 cm)
 refine wpo_load1 (v := .slice m.sa m.t.slots.length m.sc) Jt Z (fg.cell Z) Z (Xd Z Z Z ar (wpo_len (by kernel_rfl) Z Z (Xd Z Z Z ar (wpo_neq (q := !(decide ((m.t.slots.length : Int) = 4))) Z Z Z Z (wpo_pickt (v := vb (!(decide ((m.t.slots.length : Int) = 4)))) Z ar Z Z (wpo_move (v := vb (!(decide ((m.t.slots.length : Int) = 4)))) Z Z ?_))))))
 rcases Xz (!(decide ((m.t.slots.length : Int) = 4))) with bi | bi
 have d0 := Je bi
 have iw := of_decide_eq_false d0
 iterate 5 refine Xe rfl rfl rfl bi rfl ?_
 iterate 4 refine X2 rfl rfl rfl rfl ?_
 exact Xe Z Z Z bi Z (wpo_pickt (v := vb true) Z bi Z Z (wpo_nil ⟨⟨bz, (congrArg Value.bool (by first | (simp only [E, O, V, ab, ag, ac, ah, ae, ai, af, am, au, av, ba, bc, bd, ap, aq, ar, bi, d0, b0, b1, b2, b3, b4, b5, b6, b7, b8, b9]; done) | simp [E, O, V, ab, ag, ac, ah, ae, ai, af, am, au, av, ba, bc, bd, ap, aq, ar, bi, d0]))⟩, cm⟩))
 have d5 := Qx bi
 have ix := of_decide_eq_true d5
 refine Xd Z Z Z bi (wpo_fieldAddr (o' := 0) X7 bz Z Z (Xd Z Z Z bi (wpo_load1 (v := vi m.t.kind) X1 Z (fg.cell Z) Z (Xd Z Z Z bi (Xi H9 (Xb Z Xg) Z (Kj m.t.kind _) ?_)))))
 rintro _ jl ⟨rfl, fm⟩
 refine Xd Z Z Z bi (wpo_not (b' := !((decide (m.t.kind = 2)) || (decide (m.t.kind = 3)))) Z Z Z (Xd Z Z Z bi (wpo_move (v := vb (!((decide (m.t.kind = 2)) || (decide (m.t.kind = 3))))) Z Z ?_)))
 iterate 4 refine Xe rfl rfl rfl (J3 ar) rfl ?_
 exact Xd Z Z Z bi (wpo_pickf (v := vb false) Z (J3 ar) Z Z (wpo_pickf (v := vb false) Z bi Z Z (wpo_nil ⟨⟨bz, (congrArg Value.bool (by first | (simp only [E, O, V, ab, ag, ac, ah, ae, ai, af, am, au, av, ba, bc, bd, ap, aq, ar, bi, d5, b0, b1, b2, b3, b4, b5, b6, b7, b8, b9]; done) | simp [E, O, V, ab, ag, ac, ah, ae, ai, af, am, au, av, ba, bc, bd, ap, aq, ar, bi, d5]))⟩, (Xh cm fm)⟩)))
 have d6 := K5 ar
 have iy := of_decide_eq_false d6
 have d7 := K6 ar
 have iz := of_decide_eq_false d7
 iterate 4 refine Xe rfl rfl rfl ar rfl ?_
 refine wpo_pickf (v := vb false) Z ar Z Z (wpo_move (v := vb false) Z Z (Xd Z Z Z Z (wpo_fieldAddr (o' := 0) X7 bz Z Z (Xd Z Z Z Z ?_))))
 have fh := (cn.grown0 cm)
 refine wpo_load1 (v := vi m.t.kind) X1 Z (fh.cell Z) Z (Xd Z Z Z Z (Xi H9 (Xb Z Xg) Z (Kj m.t.kind _) ?_))
 rintro _ jm ⟨rfl, eu⟩
 refine Xd Z Z Z Z (wpo_not (b' := !((decide (m.t.kind = 2)) || (decide (m.t.kind = 3)))) Z Z Z (Xd Z Z Z Z (wpo_move (v := vb (!((decide (m.t.kind = 2)) || (decide (m.t.kind = 3))))) Z Z (Xd Z Z Z (Qw ar) (wpo_fieldAddr (o' := 5) Qe bz Z Z (Xd Z Z Z (Qw ar) (wpo_load1 (v := .slice m.sa m.t.slots.length m.sc) Jt Z ((fh.grown0 eu).cell Z) Z (Xd Z Z Z (Qw ar) (wpo_len (by kernel_rfl) Z Z (Xd Z Z Z (Qw ar) (wpo_neq (q := !(decide ((m.t.slots.length : Int) = 0))) Z Z Z Z (Xd Z Z Z Z ?_))))))))))))
 exact wpo_pickt (v := vb (!(decide ((m.t.slots.length : Int) = 0)))) Z (Qw ar) Z Z (wpo_pickf (v := vb (!(decide ((m.t.slots.length : Int) = 0)))) Z Z Z Z (wpo_nil ⟨⟨bz, (congrArg Value.bool (by first | (simp only [E, O, V, ab, ag, ac, ah, ae, ai, af, am, au, av, ba, bc, bd, ap, aq, ar, d6, d7, b0, b1, b2, b3, b4, b5, b6, b7, b8, b9]; done) | simp [E, O, V, ab, ag, ac, ah, ae, ai, af, am, au, av, ba, bc, bd, ap, aq, ar, d6, d7]))⟩, (Xh cm eu)⟩))
 rintro gz gj ⟨⟨bv, f7⟩, ew⟩
 have ee := low0 dc ew
 refine Xt f7 (fun bg => ?_) (fun bg => ?_)
 refine Xa (wpo_assign (v := vb false) Z Z (wpo_nil (Xm (Ya (⟨vb false, res1 Z Z, ?_, ee⟩)))))
 exact congrArg Value.bool (Xfm bg)
 have bm := K5 bg
 have bn := K6 bg
 refine Xn (Xo (Xu (fun f' w' => (f' 2 = vb (((decide (m.t.kind = 4)) || (decide ((m.t.queue.length : Int) = 0))) && (((decide (m.t.kind = 5)) && inR m.t.to 1 8) || ((!(decide (m.t.kind = 5))) && (decide (m.t.to = 0)))))) ∧ gj.grownBy w' none) ?_ ?_))
 refine wpo_fieldAddr (o' := 0) X7 bv Z Z ?_
 have bw := (cn.grown0 ew)
 refine wpo_load1 (v := vi m.t.kind) X1 Z (bw.cell Z) Z (wpo_eql (q := decide (m.t.kind = 4)) Z Z Z Z (wpo_move (v := vb (decide (m.t.kind = 4))) Z Z ?_))
 rcases Xz (decide (m.t.kind = 4)) with ao | ao
 have i0 := of_decide_eq_true ao
 iterate 4 refine Xe rfl rfl rfl ao rfl ?_
 refine wpo_pickt (v := vb true) Z ao Z Z (wpo_move (v := vb true) Z Z (Xd Z Z Z Z (wpo_fieldAddr (o' := 0) X7 bv Z Z (Xd Z Z Z Z (wpo_load1 (v := vi m.t.kind) X1 Z (bw.cell Z) Z (Xd Z Z Z Z (wpo_eql (q := decide (m.t.kind = 5)) Z Z Z Z (Xd Z Z Z Z (wpo_move (v := vb (decide (m.t.kind = 5))) Z Z ?_)))))))))
 rcases Xz (decide (m.t.kind = 5)) with aw | aw
 have i1 := of_decide_eq_true aw
 refine Xd Z Z Z aw (wpo_fieldAddr (o' := 7) Jv bv Z Z (Xd Z Z Z aw (wpo_load1 (v := vi m.t.to) X1 Z (bw.cell Z) Z (Xd Z Z Z aw (Xi Ue (Xb Z (Xb Z (Xb Z Xg))) Z (K4 m.t.to 1 8 _) ?_)))))
 rintro _ jo ⟨rfl, dh⟩
 refine Xd Z Z Z Z (wpo_pickt (v := vb (inR m.t.to 1 8)) Z aw Z Z (Xd Z Z Z Z (wpo_move (v := vb (inR m.t.to 1 8)) Z Z ?_)))
 rcases Xz (inR m.t.to 1 8) with bp | bp
 iterate 4 refine Xe rfl rfl rfl bp rfl ?_
 iterate 3 refine X2 rfl rfl rfl rfl ?_
 exact Xe Z Z Z bp Z (Xd Z Z Z Z (wpo_pickt (v := vb true) Z bp Z Z (wpo_pickt (v := vb true) Z Z Z Z (wpo_assign (v := vb true) Z Z (wpo_nil ⟨(congrArg Value.bool (by first | (simp only [E, O, V, ab, ag, ac, ah, ae, ai, af, am, au, av, ba, bc, bd, ap, aq, bg, bm, bn, ao, aw, bp, b0, b1, b2, b3, b4, b5, b6, b7, b8, b9]; done) | simp [E, O, V, ab, ag, ac, ah, ae, ai, af, am, au, av, ba, bc, bd, ap, aq, bg, bm, bn, ao, aw, bp])), dh⟩)))))
 refine Xd Z Z Z bp (wpo_fieldAddr (o' := 0) X7 bv Z Z (Xd Z Z Z bp (wpo_load1 (v := vi m.t.kind) X1 Z ((bw.grown0 dh).cell Z) Z (Xd Z Z Z bp (wpo_neq (q := !(decide (m.t.kind = 5))) Z Z Z Z (Xd Z Z Z bp (wpo_move (v := vb (!(decide (m.t.kind = 5)))) Z Z ?_)))))))
 iterate 3 refine Xe rfl rfl rfl (J3 aw) rfl ?_
 exact Xd Z Z Z bp (wpo_pickf (v := vb false) Z (J3 aw) Z Z (Xd Z Z Z Z (wpo_pickf (v := vb false) Z bp Z Z (wpo_pickt (v := vb false) Z Z Z Z (wpo_assign (v := vb false) Z Z (wpo_nil ⟨(congrArg Value.bool (by first | (simp only [E, O, V, ab, ag, ac, ah, ae, ai, af, am, au, av, ba, bc, bd, ap, aq, bg, bm, bn, ao, aw, bp, b0, b1, b2, b3, b4, b5, b6, b7, b8, b9]; done) | simp [E, O, V, ab, ag, ac, ah, ae, ai, af, am, au, av, ba, bc, bd, ap, aq, bg, bm, bn, ao, aw, bp])), dh⟩))))))
 have i2 := of_decide_eq_false aw
 iterate 3 refine Xe rfl rfl rfl aw rfl ?_
 refine Xd Z Z Z Z (wpo_pickf (v := vb false) Z aw Z Z (Xd Z Z Z Z (wpo_move (v := vb false) Z Z (Xd Z Z Z Z (wpo_fieldAddr (o' := 0) X7 bv Z Z (Xd Z Z Z Z (wpo_load1 (v := vi m.t.kind) X1 Z (bw.cell Z) Z (Xd Z Z Z Z (wpo_neq (q := !(decide (m.t.kind = 5))) Z Z Z Z (Xd Z Z Z Z (wpo_move (v := vb (!(decide (m.t.kind = 5)))) Z Z (Xd Z Z Z (Qw aw) ?_))))))))))))
 exact wpo_fieldAddr (o' := 7) Jv bv Z Z (Xd Z Z Z (Qw aw) (wpo_load1 (v := vi m.t.to) X1 Z (bw.cell Z) Z (Xd Z Z Z (Qw aw) (wpo_eql (q := decide (m.t.to = 0)) Z Z Z Z (Xd Z Z Z Z (wpo_pickt (v := vb (decide (m.t.to = 0))) Z (Qw aw) Z Z (Xd Z Z Z Z (wpo_pickf (v := vb (decide (m.t.to = 0))) Z Z Z Z (wpo_pickt (v := vb (decide (m.t.to = 0))) Z Z Z Z (wpo_assign (v := vb (decide (m.t.to = 0))) Z Z (wpo_nil ⟨(congrArg Value.bool (by first | (simp only [E, O, V, ab, ag, ac, ah, ae, ai, af, am, au, av, ba, bc, bd, ap, aq, bg, bm, bn, ao, aw, b0, b1, b2, b3, b4, b5, b6, b7, b8, b9]; done) | simp [E, O, V, ab, ag, ac, ah, ae, ai, af, am, au, av, ba, bc, bd, ap, aq, bg, bm, bn, ao, aw])), (World.grownBy.refl _ _)⟩)))))))))))
 have i3 := of_decide_eq_false ao
 refine Xd Z Z Z ao (wpo_fieldAddr (o' := 6) Q2 bv Z Z (Xd Z Z Z ao (wpo_load1 (v := .slice m.qa m.t.queue.length m.qc) Kc Z (bw.cell Z) Z (Xd Z Z Z ao (wpo_len (by kernel_rfl) Z Z (Xd Z Z Z ao (wpo_eql (q := decide ((m.t.queue.length : Int) = 0)) Z Z Z Z (wpo_pickf (v := vb (decide ((m.t.queue.length : Int) = 0))) Z ao Z Z (wpo_move (v := vb (decide ((m.t.queue.length : Int) = 0))) Z Z ?_)))))))))
 rcases Xz (decide ((m.t.queue.length : Int) = 0)) with al | al
 have i4 := of_decide_eq_true al
 refine Xd Z Z Z al (wpo_fieldAddr (o' := 0) X7 bv Z Z (Xd Z Z Z al (wpo_load1 (v := vi m.t.kind) X1 Z (bw.cell Z) Z (Xd Z Z Z al (wpo_eql (q := decide (m.t.kind = 5)) Z Z Z Z (Xd Z Z Z al (wpo_move (v := vb (decide (m.t.kind = 5))) Z Z ?_)))))))
 rcases Xz (decide (m.t.kind = 5)) with az | az
 have i5 := of_decide_eq_true az
 refine Xd Z Z Z az (wpo_fieldAddr (o' := 7) Jv bv Z Z (Xd Z Z Z az (wpo_load1 (v := vi m.t.to) X1 Z (bw.cell Z) Z (Xd Z Z Z az (Xi Ue (Xb Z (Xb Z (Xb Z Xg))) Z (K4 m.t.to 1 8 _) ?_)))))
 rintro _ jp ⟨rfl, di⟩
 refine Xd Z Z Z al (wpo_pickt (v := vb (inR m.t.to 1 8)) Z az Z Z (Xd Z Z Z al (wpo_move (v := vb (inR m.t.to 1 8)) Z Z ?_)))
 rcases Xz (inR m.t.to 1 8) with bq | bq
 iterate 4 refine Xe rfl rfl rfl bq rfl ?_
 iterate 3 refine X2 rfl rfl rfl rfl ?_
 exact Xe Z Z Z bq Z (Xd Z Z Z al (wpo_pickt (v := vb true) Z bq Z Z (wpo_pickt (v := vb true) Z al Z Z (wpo_assign (v := vb true) Z Z (wpo_nil ⟨(congrArg Value.bool (by first | (simp only [E, O, V, ab, ag, ac, ah, ae, ai, af, am, au, av, ba, bc, bd, ap, aq, bg, bm, bn, ao, al, az, bq, b0, b1, b2, b3, b4, b5, b6, b7, b8, b9]; done) | simp [E, O, V, ab, ag, ac, ah, ae, ai, af, am, au, av, ba, bc, bd, ap, aq, bg, bm, bn, ao, al, az, bq])), di⟩)))))
 refine Xd Z Z Z bq (wpo_fieldAddr (o' := 0) X7 bv Z Z (Xd Z Z Z bq (wpo_load1 (v := vi m.t.kind) X1 Z ((bw.grown0 di).cell Z) Z (Xd Z Z Z bq (wpo_neq (q := !(decide (m.t.kind = 5))) Z Z Z Z (Xd Z Z Z bq (wpo_move (v := vb (!(decide (m.t.kind = 5)))) Z Z ?_)))))))
 iterate 3 refine Xe rfl rfl rfl (J3 az) rfl ?_
 exact Xd Z Z Z bq (wpo_pickf (v := vb false) Z (J3 az) Z Z (Xd Z Z Z al (wpo_pickf (v := vb false) Z bq Z Z (wpo_pickt (v := vb false) Z al Z Z (wpo_assign (v := vb false) Z Z (wpo_nil ⟨(congrArg Value.bool (by first | (simp only [E, O, V, ab, ag, ac, ah, ae, ai, af, am, au, av, ba, bc, bd, ap, aq, bg, bm, bn, ao, al, az, bq, b0, b1, b2, b3, b4, b5, b6, b7, b8, b9]; done) | simp [E, O, V, ab, ag, ac, ah, ae, ai, af, am, au, av, ba, bc, bd, ap, aq, bg, bm, bn, ao, al, az, bq])), di⟩))))))
 have i6 := of_decide_eq_false az
 iterate 3 refine Xe rfl rfl rfl az rfl ?_
 refine Xd Z Z Z al (wpo_pickf (v := vb false) Z az Z Z (Xd Z Z Z al (wpo_move (v := vb false) Z Z (Xd Z Z Z Z (wpo_fieldAddr (o' := 0) X7 bv Z Z (Xd Z Z Z Z (wpo_load1 (v := vi m.t.kind) X1 Z (bw.cell Z) Z (Xd Z Z Z Z (wpo_neq (q := !(decide (m.t.kind = 5))) Z Z Z Z (Xd Z Z Z Z (wpo_move (v := vb (!(decide (m.t.kind = 5)))) Z Z (Xd Z Z Z (Qw az) ?_))))))))))))
 exact wpo_fieldAddr (o' := 7) Jv bv Z Z (Xd Z Z Z (Qw az) (wpo_load1 (v := vi m.t.to) X1 Z (bw.cell Z) Z (Xd Z Z Z (Qw az) (wpo_eql (q := decide (m.t.to = 0)) Z Z Z Z (Xd Z Z Z Z (wpo_pickt (v := vb (decide (m.t.to = 0))) Z (Qw az) Z Z (Xd Z Z Z al (wpo_pickf (v := vb (decide (m.t.to = 0))) Z Z Z Z (wpo_pickt (v := vb (decide (m.t.to = 0))) Z al Z Z (wpo_assign (v := vb (decide (m.t.to = 0))) Z Z (wpo_nil ⟨(congrArg Value.bool (by first | (simp only [E, O, V, ab, ag, ac, ah, ae, ai, af, am, au, av, ba, bc, bd, ap, aq, bg, bm, bn, ao, al, az, b0, b1, b2, b3, b4, b5, b6, b7, b8, b9]; done) | simp [E, O, V, ab, ag, ac, ah, ae, ai, af, am, au, av, ba, bc, bd, ap, aq, bg, bm, bn, ao, al, az])), (World.grownBy.refl _ _)⟩)))))))))))
 have i7 := of_decide_eq_false al
 iterate 4 refine Xe rfl rfl rfl al rfl ?_
 iterate 3 refine X2 rfl rfl rfl rfl ?_
 refine Xe Z Z Z al Z (Xe Z Z Z al Z ?_)
 iterate 8 refine X2 rfl rfl rfl rfl ?_
 exact Xe Z Z Z al Z (wpo_pickf (v := vb false) Z al Z Z (wpo_assign (v := vb false) Z Z (wpo_nil ⟨(congrArg Value.bool (by first | (simp only [E, O, V, ab, ag, ac, ah, ae, ai, af, am, au, av, ba, bc, bd, ap, aq, bg, bm, bn, ao, al, b0, b1, b2, b3, b4, b5, b6, b7, b8, b9]; done) | simp [E, O, V, ab, ag, ac, ah, ae, ai, af, am, au, av, ba, bc, bd, ap, aq, bg, bm, bn, ao, al])), (World.grownBy.refl _ _)⟩)))
 rintro g4 jq ⟨f8, fp⟩
 refine Xm (⟨vb (((decide (m.t.kind = 4)) || (decide ((m.t.queue.length : Int) = 0))) && (((decide (m.t.kind = 5)) && inR m.t.to 1 8) || ((!(decide (m.t.kind = 5))) && (decide (m.t.to = 0))))), res1 Z f8, ?_, (low0 ee fp)⟩)
 exact congrArg Value.bool (Xfn E am (Jy (p := numQ) ha (by omega)) (Jy (p := rightOk) hb (by omega)) bg)
end Go.Dw.J
end
section
namespace Go.Dw.J
open Go.RowKit Go.Dw Go.Proofs
set_option linter.unusedSectionVars false
set_option maxRecDepth 100000
set_option maxHeartbeats 4000000
set_option linter.unusedSimpArgs false
set_option linter.unusedVariables false
theorem Rg : goFn Try.prog 20 = true := by kernel_rfl
theorem Rh : goFn Try.prog 45 = true := by kernel_rfl
theorem Xck : goFn Try.prog 47 = true := by kernel_rfl
theorem Xcp : goFn Try.prog 96 = true := by kernel_rfl
theorem Hc : zeroTy Try.prog 25 = some (.agg #[.int .i64 0, .int .i64 0]) := by kernel_rfl
theorem Jb : zeroTy Try.prog 35 = some (.agg #[.int .i64 0, .int .i64 0, .int .i64 0, .int .i64 0, .int .i64 0, .slice none 0 0, .slice none 0 0, .int .i64 0]) := by kernel_rfl
theorem Mc [Comp] (w : World) (xs : List Rt) (a : Option Addr) (c : Nat) (hs : SlAt w a 5 (xs.map Rt.cells)) (hc : a = none → c = 0) (hn : xs.length ≤ 1048576) : CallsR Try.prog 96 #[.slice a xs.length c] w (fun v w' => ∃ (a' : Option Addr) (cap' : Nat), v = .slice a' xs.length cap' ∧ OwnN w.heap.size w' a' 74 5 cap' xs.length (xs.flatMap Rt.cells) ∧ w.grownBy w' none) := by
 refine Xq (n := 5) Try.func96 Z Try.ntmps96 Z ?_
 have ab := World.grownBy.refl w none
 refine Xa (wpo_assign (v := .slice none 0 0) Z Z (wpo_nil (Xa (wpo_move (v := .slice a xs.length c) Z Z (wpo_appendN (g := Rt.cells) (ys := []) (zs := xs) (lo := w.heap.size) Mm Z Qd (by omega) N2 Z Z OwnN.nil (SlAt.low hs ab) hc (by first | omega | exact Nat.le_of_ble_eq_true rfl | (simp only [List.length_nil, List.length_cons, List.length_append, List.length_replicate]; omega)) (by omega) ab.size Z ?_)))))
 intro O E af V ac ae
 refine wpo_assign (v := .slice O xs.length E) Z Z (wpo_nil (Xm ?_))
 refine ⟨.slice O xs.length E, res1 Z Z, O, E, Z, V, (low0 ab ac)⟩
theorem Mi [Comp] (w : World) : CallsR Try.prog 47 #[.agg #[vi 0, vi 0, vb false, vb false, vb false, vi 0, vi 0, vb false, vb false, vb false, vi 0, vi 0, vb false, vb false, vb false, vi 0, vi 0, vb false, vb false, vb false]] w (fun v w' => ∃ (B cap : Nat), v = .slice (pa B) 4 cap ∧ w.heap.size ≤ B ∧ Dw.Own w' B 74 5 cap 4 (zeros4.flatMap Rt.cells) ∧ w.grownBy w' none) := by
 refine Xq (n := 5) Try.func47 Z Try.ntmps47 Z ?_
 have al := World.grownBy.refl w none
 refine Xa (wpo_box (v := .agg #[vi 0, vi 0, vb false, vb false, vb false, vi 0, vi 0, vb false, vb false, vb false, vi 0, vi 0, vb false, vb false, vb false, vi 0, vi 0, vb false, vb false, vb false]) (cs := #[vi 0, vi 0, vb false, vb false, vb false, vi 0, vi 0, vb false, vb false, vb false, vi 0, vi 0, vb false, vb false, vb false, vi 0, vi 0, vb false, vb false, vb false]) Z Z Z ?_)
 intro ag an O
 have ao := Xy O al
 have V := low0 al O.grw
 refine wpo_assign (v := .slice none 0 0) Z Z (wpo_nil (Xa ?_))
 have am : Blk an ag 77 (zeros4.flatMap Rt.cells).toArray := O.blk
 refine wpo_sliceArr Ou Z (by omega) Z (Xi Xcp (Xb Z Xg) Z (Mc _ zeros4 _ _ (Jl Qd am) (fun h => by cases h) (by first | omega | exact Nat.le_of_ble_eq_true rfl | (simp only [List.length_nil, List.length_cons, List.length_append, List.length_replicate]; omega))) ?_)
 rintro _ ap ⟨ab, E, rfl, ac, af⟩
 have ae := OwnN.mono ac V.size
 refine wpo_assign (v := .slice ab 4 E) Z Z (wpo_nil (Xm ?_))
 obtain ⟨ah, ai, aj, ak⟩ := OwnN.some_ ae (by decide)
 refine ⟨.slice ab 4 E, res1 Z Z, ah, E, by rw [ai], aj, ak, (low0 V af)⟩
theorem P1 [Comp] (k to : Int) (l : Lab) (hk : ((decide (k = 2)) || (decide (k = 3))) = true) (hok : newOk k l to = true) (w : World) : CallsR Try.prog 17 #[vi k, .agg #[vi l.s, vi l.v], vi to] w (fun v w' => ∃ (S sc : Nat), v = .tuple #[.agg #[vi k, vi l.s, vi l.v, vi 0, vi 0, .slice (pa S) 4 sc, .slice none 0 0, vi to], vb true] ∧ w.heap.size ≤ S ∧ Dw.Own w' S 74 5 sc 4 (zeros4.flatMap Rt.cells) ∧ w.grownBy w' none) := by
 refine Xq (n := 27) Try.func17 Z Try.ntmps17 Z ?_
 have bh := World.grownBy.refl w none
 have hlit : thingOk (⟨k, l, 0, 0, zeros4, [], to⟩ : Th) = true := (Vj hk).symm.trans hok
 refine Xa (wpo_box (v := .agg #[vi l.s, vi l.v]) (cs := #[vi l.s, vi l.v]) Z Z Z ?_)
 intro bm bt ah
 have bj := Xy ah bh
 have am := low0 bh ah.grw
 refine wpo_alloc (cs := #[vi 0, vi 0, vi 0, vi 0, vi 0, .slice none 0 0, .slice none 0 0, vi 0]) Jb Z Z ?_
 intro be bu ac
 have bk := Xy ac am
 have aq := Xs ac (ah.blk).lt
 have an := low0 am ac.grw
 refine wpo_assign (v := vb false) Z Z (wpo_nil (Xa (wpo_move (v := vi k) Z Z ?_)))
 have ap := (ah.blk.grown0 ac.grw)
 refine wpo_loadn (vs := [vi l.s, vi l.v]) Yd Z Z (ap.rangeL 0 2 Z) Z (wpo_move (v := vi to) Z Z (wpo_build (ps := [(0, vi k), (1, .agg #[vi l.s, vi l.v]), (6, vi to)]) (v := .agg #[vi k, vi l.s, vi l.v, vi 0, vi 0, .slice none 0 0, .slice none 0 0, vi to]) (Xp Z (Xp Z (Xp Z Xw))) (fun _ => by kernel_rfl) Z (wpo_alloc (cs := #[vi 0, vi 0, vi 0, vi 0, vi 0, .slice none 0 0, .slice none 0 0, vi 0]) Jb Z Z ?_)))
 intro bf bv ab
 have bl := Xy ab an
 have ar := Xs ab (ap).lt
 have av := Xs ab (ac.blk).lt
 refine wpo_storen (vs := [vi k, vi l.s, vi l.v, vi 0, vi 0, .slice none 0 0, .slice none 0 0, vi to]) (cs' := #[vi k, vi l.s, vi l.v, vi 0, vi 0, .slice none 0 0, .slice none 0 0, vi to]) X0 Z Z Z (by simp [Value.oneCell']) ab.blk (Nat.le_of_ble_eq_true Z) Z ?_
 intro bi af
 have ao := low1 (low0 an ab.grw) af.grw (by omega)
 refine wpo_nil (Xk (Xu (fun f' w' => (f' 6 = pt be 0 ∧ f' 7 = vb false ∧ f' 8 = pt bf 0 ∧ f' 18 = vb ((decide (k = 2)) || (decide (k = 3)))) ∧ bi = w') ?_ ?_))
 refine wpo_move (v := vi k) Z Z (wpo_eql (q := decide (k = 2)) Z Z Z Z (wpo_move (v := vb (decide (k = 2))) Z Z ?_))
 rcases Xz (decide (k = 2)) with O | O
 have bq := of_decide_eq_true O
 exact Xe Z Z Z O Z (Xe Z Z Z O Z (wpo_pickt (v := vb true) Z O Z Z (wpo_nil ⟨⟨Z, Z, Z, (cB (by simp [O, hk, hlit]))⟩, Z⟩)))
 have br := of_decide_eq_false O
 exact Xd Z Z Z O (wpo_move (v := vi k) Z Z (Xd Z Z Z O (wpo_eql (q := decide (k = 3)) Z Z Z Z (wpo_pickf (v := vb (decide (k = 3))) Z O Z Z (wpo_nil ⟨⟨Z, Z, Z, (cB (by simp [O, hk, hlit]))⟩, Z⟩)))))
 rintro bp bw ⟨⟨a9, bn, al, bg⟩, rfl⟩
 refine X8 bg hk (Xr (wpo_build (ps := []) (v := .agg #[vi 0, vi 0, vb false, vb false, vb false, vi 0, vi 0, vb false, vb false, vb false, vi 0, vi 0, vb false, vb false, vb false, vi 0, vi 0, vb false, vb false, vb false]) Xw (fun _ => by kernel_rfl) Z ?_))
 have ba := ((ac.blk.grown0 ab.grw).gn af.grw)
 refine Xi Xck (Xb Z Xg) Z (Mi _) ?_
 rintro _ bz ⟨V, E, rfl, ae, bd, ak⟩
 have a8 := nt ao.size ae
 have au := nl (((ap.grown0 ab.grw).gn af.grw)).lt ae
 have aw := nl (ba).lt ae
 have az := nl (af.blk).lt ae
 refine wpo_fieldAddr (o' := 5) Qe al Z Z (wpo_store1 (v := .slice (pa V) 4 E) (cs' := #[vi k, vi l.s, vi l.v, vi 0, vi 0, .slice (pa V) 4 E, .slice none 0 0, vi to]) Jt Z Z Z (af.blk.grown0 ak) (Nat.le_of_ble_eq_true Z) Z ?_)
 intro ca ag
 refine wpo_nil (Xo (Xk (Xa (wpo_loadn (vs := [vi k, vi l.s, vi l.v, vi 0, vi 0, .slice (pa V) 4 E, .slice none 0 0, vi to]) X0 al Z (ag.blk.rangeL 0 8 Z) Z ?_))))
 have bc := (bd.gn ag.grw)
 refine Xi Rg (Xb Z Xg) Z (Vo (⟨⟨k, l, 0, 0, zeros4, [], to⟩, some ⟨V, 0, none⟩, E, none, 0⟩ : MTh) _ (Own.sl Qd bc) SlAt.nil (by first | omega | exact Nat.le_of_ble_eq_true rfl | (simp only [List.length_nil, List.length_cons, List.length_append, List.length_replicate]; omega)) (by first | omega | exact Nat.le_of_ble_eq_true rfl | (simp only [List.length_nil, List.length_cons, List.length_append, List.length_replicate]; omega))) ?_
 rintro _ cc ⟨rfl, ai⟩
 refine wpo_not (b' := !thingOk (⟨k, l, 0, 0, zeros4, [], to⟩ : Th)) Z Z Z (wpo_nil (X5 Z (J3 hlit) (Xn (Xo (Xa (wpo_loadn (vs := [vi k, vi l.s, vi l.v, vi 0, vi 0, .slice (pa V) 4 E, .slice none 0 0, vi to]) X0 al Z ((ag.blk.grown0 ai).rangeL 0 8 Z) Z (wpo_storen (vs := [vi k, vi l.s, vi l.v, vi 0, vi 0, .slice (pa V) 4 E, .slice none 0 0, vi to]) (cs' := #[vi k, vi l.s, vi l.v, vi 0, vi 0, .slice (pa V) 4 E, .slice none 0 0, vi to]) X0 a9 Z Z (by simp [Value.oneCell']) (((ba.grown0 ak).gn ag.grw).grown0 ai) (Nat.le_of_ble_eq_true Z) Z ?_)))))))
 intro cd aj
 refine wpo_assign (v := vb true) Z Z (wpo_nil (Xm ?_))
 refine ⟨.tuple #[.agg #[vi k, vi l.s, vi l.v, vi 0, vi 0, .slice (pa V) 4 E, .slice none 0 0, vi to], vb true], resCT Z (resCell_mk (vs := [vi k, vi l.s, vi l.v, vi 0, vi 0, .slice (pa V) 4 E, .slice none 0 0, vi to]) X0 a9 Z (aj.blk.rangeL 0 8 Z)) Z, V, E, Z, a8, ((bc.grown0 ai).gn aj.grw), (low1 (low0 (low1 (low0 ao ak) ag.grw (by omega)) ai) aj.grw (by omega))⟩
theorem P0 [Comp] (k to : Int) (l : Lab) (hk : ((decide (k = 2)) || (decide (k = 3))) = true) (hok : newOk k l to = false) (w : World) : CallsR Try.prog 17 #[vi k, .agg #[vi l.s, vi l.v], vi to] w (fun v w' => v = .tuple #[.agg #[vi 0, vi 0, vi 0, vi 0, vi 0, .slice none 0 0, .slice none 0 0, vi 0], vb false] ∧ w.grownBy w' none) := by
 refine Xq (n := 27) Try.func17 Z Try.ntmps17 Z ?_
 have bf := World.grownBy.refl w none
 have hlit : thingOk (⟨k, l, 0, 0, zeros4, [], to⟩ : Th) = false := (Vj hk).symm.trans hok
 refine Xa (wpo_box (v := .agg #[vi l.s, vi l.v]) (cs := #[vi l.s, vi l.v]) Z Z Z ?_)
 intro bl br af
 have bh := Xy af bf
 have ak := low0 bf af.grw
 refine wpo_alloc (cs := #[vi 0, vi 0, vi 0, vi 0, vi 0, .slice none 0 0, .slice none 0 0, vi 0]) Jb Z Z ?_
 intro bc bt V
 have bi := Xy V ak
 have ap := Xs V (af.blk).lt
 have al := low0 ak V.grw
 refine wpo_assign (v := vb false) Z Z (wpo_nil (Xa (wpo_move (v := vi k) Z Z ?_)))
 have ao := (af.blk.grown0 V.grw)
 refine wpo_loadn (vs := [vi l.s, vi l.v]) Yd Z Z (ao.rangeL 0 2 Z) Z (wpo_move (v := vi to) Z Z (wpo_build (ps := [(0, vi k), (1, .agg #[vi l.s, vi l.v]), (6, vi to)]) (v := .agg #[vi k, vi l.s, vi l.v, vi 0, vi 0, .slice none 0 0, .slice none 0 0, vi to]) (Xp Z (Xp Z (Xp Z Xw))) (fun _ => by kernel_rfl) Z (wpo_alloc (cs := #[vi 0, vi 0, vi 0, vi 0, vi 0, .slice none 0 0, .slice none 0 0, vi 0]) Jb Z Z ?_)))
 intro bd bu O
 have bj := Xy O al
 have aq := Xs O (ao).lt
 have au := Xs O (V.blk).lt
 refine wpo_storen (vs := [vi k, vi l.s, vi l.v, vi 0, vi 0, .slice none 0 0, .slice none 0 0, vi to]) (cs' := #[vi k, vi l.s, vi l.v, vi 0, vi 0, .slice none 0 0, .slice none 0 0, vi to]) X0 Z Z Z (by simp [Value.oneCell']) O.blk (Nat.le_of_ble_eq_true Z) Z ?_
 intro bg ae
 have am := low1 (low0 al O.grw) ae.grw (by omega)
 refine wpo_nil (Xk (Xu (fun f' w' => (f' 6 = pt bc 0 ∧ f' 7 = vb false ∧ f' 8 = pt bd 0 ∧ f' 18 = vb ((decide (k = 2)) || (decide (k = 3)))) ∧ bg = w') ?_ ?_))
 refine wpo_move (v := vi k) Z Z (wpo_eql (q := decide (k = 2)) Z Z Z Z (wpo_move (v := vb (decide (k = 2))) Z Z ?_))
 rcases Xz (decide (k = 2)) with E | E
 have bp := of_decide_eq_true E
 exact Xe Z Z Z E Z (Xe Z Z Z E Z (wpo_pickt (v := vb true) Z E Z Z (wpo_nil ⟨⟨Z, Z, Z, (cB (by simp [E, hk, hlit]))⟩, Z⟩)))
 have bq := of_decide_eq_false E
 exact Xd Z Z Z E (wpo_move (v := vi k) Z Z (Xd Z Z Z E (wpo_eql (q := decide (k = 3)) Z Z Z Z (wpo_pickf (v := vb (decide (k = 3))) Z E Z Z (wpo_nil ⟨⟨Z, Z, Z, (cB (by simp [E, hk, hlit]))⟩, Z⟩)))))
 rintro bn bv ⟨⟨az, bm, a8, be⟩, rfl⟩
 refine X8 be hk (Xr (wpo_build (ps := []) (v := .agg #[vi 0, vi 0, vb false, vb false, vb false, vi 0, vi 0, vb false, vb false, vb false, vi 0, vi 0, vb false, vb false, vb false, vi 0, vi 0, vb false, vb false, vb false]) Xw (fun _ => by kernel_rfl) Z ?_))
 have a9 := ((V.blk.grown0 O.grw).gn ae.grw)
 refine Xi Xck (Xb Z Xg) Z (Mi _) ?_
 rintro _ bw ⟨ai, ab, rfl, ac, ba, ah⟩
 have bk := nt am.size ac
 have ar := nl (((ao.grown0 O.grw).gn ae.grw)).lt ac
 have av := nl (a9).lt ac
 have aw := nl (ae.blk).lt ac
 refine wpo_fieldAddr (o' := 5) Qe a8 Z Z (wpo_store1 (v := .slice (pa ai) 4 ab) (cs' := #[vi k, vi l.s, vi l.v, vi 0, vi 0, .slice (pa ai) 4 ab, .slice none 0 0, vi to]) Jt Z Z Z (ae.blk.grown0 ah) (Nat.le_of_ble_eq_true Z) Z ?_)
 intro bz ag
 refine wpo_nil (Xo (Xk (Xa (wpo_loadn (vs := [vi k, vi l.s, vi l.v, vi 0, vi 0, .slice (pa ai) 4 ab, .slice none 0 0, vi to]) X0 a8 Z (ag.blk.rangeL 0 8 Z) Z (Xi Rg (Xb Z Xg) Z (Vo (⟨⟨k, l, 0, 0, zeros4, [], to⟩, some ⟨ai, 0, none⟩, ab, none, 0⟩ : MTh) _ (Own.sl Qd (ba.gn ag.grw)) SlAt.nil (by first | omega | exact Nat.le_of_ble_eq_true rfl | (simp only [List.length_nil, List.length_cons, List.length_append, List.length_replicate]; omega)) (by first | omega | exact Nat.le_of_ble_eq_true rfl | (simp only [List.length_nil, List.length_cons, List.length_append, List.length_replicate]; omega))) ?_)))))
 rintro _ ca ⟨rfl, an⟩
 refine wpo_not (b' := !thingOk (⟨k, l, 0, 0, zeros4, [], to⟩ : Th)) Z Z Z (wpo_nil (X8 Z (Qw hlit) (Xa (wpo_build (ps := []) (v := .agg #[vi 0, vi 0, vi 0, vi 0, vi 0, .slice none 0 0, .slice none 0 0, vi 0]) Xw (fun _ => by kernel_rfl) Z (wpo_storen (vs := [vi 0, vi 0, vi 0, vi 0, vi 0, .slice none 0 0, .slice none 0 0, vi 0]) (cs' := #[vi 0, vi 0, vi 0, vi 0, vi 0, .slice none 0 0, .slice none 0 0, vi 0]) X0 az Z Z (by simp [Value.oneCell']) (((a9.grown0 ah).gn ag.grw).grown0 an) (Nat.le_of_ble_eq_true Z) Z ?_)))))
 intro cc aj
 refine wpo_assign (v := vb false) Z Z (wpo_nil (Xm (Ya ?_)))
 refine ⟨.tuple #[.agg #[vi 0, vi 0, vi 0, vi 0, vi 0, .slice none 0 0, .slice none 0 0, vi 0], vb false], resCT Z (resCell_mk (vs := [vi 0, vi 0, vi 0, vi 0, vi 0, .slice none 0 0, .slice none 0 0, vi 0]) X0 az Z (aj.blk.rangeL 0 8 Z)) Z, Z, (low1 (low0 (low1 (low0 am ah) ag.grw (by omega)) an) aj.grw (by omega))⟩
theorem Pz [Comp] (k to : Int) (l : Lab) (hk : ((decide (k = 2)) || (decide (k = 3))) = false) (hok : newOk k l to = true) (w : World) : CallsR Try.prog 17 #[vi k, .agg #[vi l.s, vi l.v], vi to] w (fun v w' => v = .tuple #[.agg #[vi k, vi l.s, vi l.v, vi 0, vi 0, .slice none 0 0, .slice none 0 0, vi to], vb true] ∧ w.grownBy w' none) := by
 refine Xq (n := 27) Try.func17 Z Try.ntmps17 Z ?_
 have an := World.grownBy.refl w none
 have hlit : thingOk (⟨k, l, 0, 0, [], [], to⟩ : Th) = true := (J5 hk).symm.trans hok
 have ae : decide (k = 2) = false := K5 hk
 have am : decide (k = 3) = false := K6 hk
 refine Xa (wpo_box (v := .agg #[vi l.s, vi l.v]) (cs := #[vi l.s, vi l.v]) Z Z Z ?_)
 intro ar aw V
 have ao := Xy V an
 have ag := low0 an V.grw
 refine wpo_alloc (cs := #[vi 0, vi 0, vi 0, vi 0, vi 0, .slice none 0 0, .slice none 0 0, vi 0]) Jb Z Z ?_
 intro au az E
 have ap := Xy E ag
 have ai := Xs E (V.blk).lt
 have ah := low0 ag E.grw
 refine wpo_assign (v := vb false) Z Z (wpo_nil (Xa (wpo_move (v := vi k) Z Z ?_)))
 have al := (V.blk.grown0 E.grw)
 refine wpo_loadn (vs := [vi l.s, vi l.v]) Yd Z Z (al.rangeL 0 2 Z) Z (wpo_move (v := vi to) Z Z (wpo_build (ps := [(0, vi k), (1, .agg #[vi l.s, vi l.v]), (6, vi to)]) (v := .agg #[vi k, vi l.s, vi l.v, vi 0, vi 0, .slice none 0 0, .slice none 0 0, vi to]) (Xp Z (Xp Z (Xp Z Xw))) (fun _ => by kernel_rfl) Z (wpo_alloc (cs := #[vi 0, vi 0, vi 0, vi 0, vi 0, .slice none 0 0, .slice none 0 0, vi 0]) Jb Z Z ?_)))
 intro av a8 O
 have aq := Xy O ah
 have aj := Xs O (al).lt
 have ak := Xs O (E.blk).lt
 refine wpo_storen (vs := [vi k, vi l.s, vi l.v, vi 0, vi 0, .slice none 0 0, .slice none 0 0, vi to]) (cs' := #[vi k, vi l.s, vi l.v, vi 0, vi 0, .slice none 0 0, .slice none 0 0, vi to]) X0 Z Z Z (by simp [Value.oneCell']) O.blk (Nat.le_of_ble_eq_true Z) Z ?_
 intro a9 ab
 refine wpo_nil (Xk (Xa (wpo_move (v := vi k) Z Z (wpo_eql (q := decide (k = 2)) Z Z Z Z (wpo_move (v := vb (decide (k = 2))) Z Z (Xd Z Z Z ae (wpo_move (v := vi k) Z Z (Xd Z Z Z ae (wpo_eql (q := decide (k = 3)) Z Z Z Z (wpo_pickf (v := vb (decide (k = 3))) Z ae Z Z (wpo_nil (X5 Z am ?_))))))))))))
 refine Xn (Xo (Xk (Xa (wpo_loadn (vs := [vi k, vi l.s, vi l.v, vi 0, vi 0, .slice none 0 0, .slice none 0 0, vi to]) X0 Z Z (ab.blk.rangeL 0 8 Z) Z (Xi Rg (Xb Z Xg) Z (Vo (⟨⟨k, l, 0, 0, [], [], to⟩, none, 0, none, 0⟩ : MTh) _ SlAt.nil SlAt.nil (by first | omega | exact Nat.le_of_ble_eq_true rfl | (simp only [List.length_nil, List.length_cons, List.length_append, List.length_replicate]; omega)) (by first | omega | exact Nat.le_of_ble_eq_true rfl | (simp only [List.length_nil, List.length_cons, List.length_append, List.length_replicate]; omega))) ?_)))))
 rintro _ ba ⟨rfl, ac⟩
 refine wpo_not (b' := !thingOk (⟨k, l, 0, 0, [], [], to⟩ : Th)) Z Z Z (wpo_nil (X5 Z (J3 hlit) (Xn (Xo (Xa (wpo_loadn (vs := [vi k, vi l.s, vi l.v, vi 0, vi 0, .slice none 0 0, .slice none 0 0, vi to]) X0 Z Z ((ab.blk.grown0 ac).rangeL 0 8 Z) Z (wpo_storen (vs := [vi k, vi l.s, vi l.v, vi 0, vi 0, .slice none 0 0, .slice none 0 0, vi to]) (cs' := #[vi k, vi l.s, vi l.v, vi 0, vi 0, .slice none 0 0, .slice none 0 0, vi to]) X0 Z Z Z (by simp [Value.oneCell']) (((E.blk.grown0 O.grw).gn ab.grw).grown0 ac) (Nat.le_of_ble_eq_true Z) Z ?_)))))))
 intro bc af
 refine wpo_assign (v := vb true) Z Z (wpo_nil (Xm ?_))
 refine ⟨.tuple #[.agg #[vi k, vi l.s, vi l.v, vi 0, vi 0, .slice none 0 0, .slice none 0 0, vi to], vb true], resCT Z (resCell_mk (vs := [vi k, vi l.s, vi l.v, vi 0, vi 0, .slice none 0 0, .slice none 0 0, vi to]) X0 Z Z (af.blk.rangeL 0 8 Z)) Z, Z, (low1 (low0 (low1 (low0 ah O.grw) ab.grw (by omega)) ac) af.grw (by omega))⟩
theorem Py [Comp] (k to : Int) (l : Lab) (hk : ((decide (k = 2)) || (decide (k = 3))) = false) (hok : newOk k l to = false) (w : World) : CallsR Try.prog 17 #[vi k, .agg #[vi l.s, vi l.v], vi to] w (fun v w' => v = .tuple #[.agg #[vi 0, vi 0, vi 0, vi 0, vi 0, .slice none 0 0, .slice none 0 0, vi 0], vb false] ∧ w.grownBy w' none) := by
 refine Xq (n := 27) Try.func17 Z Try.ntmps17 Z ?_
 have an := World.grownBy.refl w none
 have hlit : thingOk (⟨k, l, 0, 0, [], [], to⟩ : Th) = false := (J5 hk).symm.trans hok
 have ac : decide (k = 2) = false := K5 hk
 have am : decide (k = 3) = false := K6 hk
 refine Xa (wpo_box (v := .agg #[vi l.s, vi l.v]) (cs := #[vi l.s, vi l.v]) Z Z Z ?_)
 intro ar aw V
 have ao := Xy V an
 have af := low0 an V.grw
 refine wpo_alloc (cs := #[vi 0, vi 0, vi 0, vi 0, vi 0, .slice none 0 0, .slice none 0 0, vi 0]) Jb Z Z ?_
 intro au az E
 have ap := Xy E af
 have ai := Xs E (V.blk).lt
 have ag := low0 af E.grw
 refine wpo_assign (v := vb false) Z Z (wpo_nil (Xa (wpo_move (v := vi k) Z Z ?_)))
 have al := (V.blk.grown0 E.grw)
 refine wpo_loadn (vs := [vi l.s, vi l.v]) Yd Z Z (al.rangeL 0 2 Z) Z (wpo_move (v := vi to) Z Z (wpo_build (ps := [(0, vi k), (1, .agg #[vi l.s, vi l.v]), (6, vi to)]) (v := .agg #[vi k, vi l.s, vi l.v, vi 0, vi 0, .slice none 0 0, .slice none 0 0, vi to]) (Xp Z (Xp Z (Xp Z Xw))) (fun _ => by kernel_rfl) Z (wpo_alloc (cs := #[vi 0, vi 0, vi 0, vi 0, vi 0, .slice none 0 0, .slice none 0 0, vi 0]) Jb Z Z ?_)))
 intro av a8 O
 have aq := Xy O ag
 have aj := Xs O (al).lt
 have ak := Xs O (E.blk).lt
 refine wpo_storen (vs := [vi k, vi l.s, vi l.v, vi 0, vi 0, .slice none 0 0, .slice none 0 0, vi to]) (cs' := #[vi k, vi l.s, vi l.v, vi 0, vi 0, .slice none 0 0, .slice none 0 0, vi to]) X0 Z Z Z (by simp [Value.oneCell']) O.blk (Nat.le_of_ble_eq_true Z) Z ?_
 intro a9 ab
 refine wpo_nil (Xk (Xa (wpo_move (v := vi k) Z Z (wpo_eql (q := decide (k = 2)) Z Z Z Z (wpo_move (v := vb (decide (k = 2))) Z Z (Xd Z Z Z ac (wpo_move (v := vi k) Z Z (Xd Z Z Z ac (wpo_eql (q := decide (k = 3)) Z Z Z Z (wpo_pickf (v := vb (decide (k = 3))) Z ac Z Z (wpo_nil (X5 Z am ?_))))))))))))
 refine Xn (Xo (Xk (Xa (wpo_loadn (vs := [vi k, vi l.s, vi l.v, vi 0, vi 0, .slice none 0 0, .slice none 0 0, vi to]) X0 Z Z (ab.blk.rangeL 0 8 Z) Z (Xi Rg (Xb Z Xg) Z (Vo (⟨⟨k, l, 0, 0, [], [], to⟩, none, 0, none, 0⟩ : MTh) _ SlAt.nil SlAt.nil (by first | omega | exact Nat.le_of_ble_eq_true rfl | (simp only [List.length_nil, List.length_cons, List.length_append, List.length_replicate]; omega)) (by first | omega | exact Nat.le_of_ble_eq_true rfl | (simp only [List.length_nil, List.length_cons, List.length_append, List.length_replicate]; omega))) ?_)))))
 rintro _ ba ⟨rfl, ah⟩
 refine wpo_not (b' := !thingOk (⟨k, l, 0, 0, [], [], to⟩ : Th)) Z Z Z (wpo_nil (X8 Z (Qw hlit) (Xa (wpo_build (ps := []) (v := .agg #[vi 0, vi 0, vi 0, vi 0, vi 0, .slice none 0 0, .slice none 0 0, vi 0]) Xw (fun _ => by kernel_rfl) Z (wpo_storen (vs := [vi 0, vi 0, vi 0, vi 0, vi 0, .slice none 0 0, .slice none 0 0, vi 0]) (cs' := #[vi 0, vi 0, vi 0, vi 0, vi 0, .slice none 0 0, .slice none 0 0, vi 0]) X0 Z Z Z (by simp [Value.oneCell']) (((E.blk.grown0 O.grw).gn ab.grw).grown0 ah) (Nat.le_of_ble_eq_true Z) Z ?_)))))
 intro bc ae
 refine wpo_assign (v := vb false) Z Z (wpo_nil (Xm (Ya ?_)))
 refine ⟨.tuple #[.agg #[vi 0, vi 0, vi 0, vi 0, vi 0, .slice none 0 0, .slice none 0 0, vi 0], vb false], resCT Z (resCell_mk (vs := [vi 0, vi 0, vi 0, vi 0, vi 0, .slice none 0 0, .slice none 0 0, vi 0]) X0 Z Z (ae.blk.rangeL 0 8 Z)) Z, Z, (low1 (low0 (low1 (low0 ag O.grw) ab.grw (by omega)) ah) ae.grw (by omega))⟩
theorem Gf [Comp] (k to : Int) (l : Lab) (hk : ((decide (k = 2)) || (decide (k = 3))) = true) (hok : newOk k l to = true) (w : World) : CallsR Try.prog 93 #[vi k, .agg #[vi l.s, vi l.v], vi to] w (fun v w' => ∃ (S sc Q qc : Nat), v = .tuple #[.agg #[vi k, vi l.s, vi l.v, vi 0, vi 0, .slice (pa S) 4 sc, .slice (pa Q) 0 qc, vi to], vb true] ∧ w.heap.size ≤ S ∧ Dw.Own w' S 74 5 sc 4 (zeros4.flatMap Rt.cells) ∧ w.heap.size ≤ Q ∧ Dw.Own w' Q 3 1 qc 0 (([] : List Int).flatMap icell) ∧ S ≠ Q ∧ w.grownBy w' none) := by
 refine Xq (n := 24) Try.func93 Z Try.ntmps93 Z ?_
 have cc := World.grownBy.refl w none
 have hlit : thingOk (⟨k, l, 0, 0, zeros4, [], to⟩ : Th) = true := (Vj hk).symm.trans hok
 refine Xa (wpo_box (v := .agg #[vi l.s, vi l.v]) (cs := #[vi l.s, vi l.v]) Z Z Z ?_)
 intro ck co al
 have cd := Xy al cc
 have ao := low0 cc al.grw
 refine wpo_alloc (cs := #[vi 0, vi 0, vi 0, vi 0, vi 0, .slice none 0 0, .slice none 0 0, vi 0]) Jb Z Z ?_
 intro cm cw af
 have ce := Xy af ao
 have aw := Xs af (al.blk).lt
 have ap := low0 ao af.grw
 refine wpo_assign (v := vb false) Z Z (wpo_nil (Xa (wpo_move (v := vi k) Z Z ?_)))
 have av := (al.blk.grown0 af.grw)
 refine wpo_loadn (vs := [vi l.s, vi l.v]) Yd Z Z (av.rangeL 0 2 Z) Z (wpo_buildSlice (ps := []) (e := 74) (cs := (([] : List Rt).flatMap Rt.cells).toArray) Xw (fun _ => by kernel_rfl) Z ?_)
 intro an cx ac
 have cg := Xy ac ap
 have az := Xs ac (av).lt
 have bc := Xs ac (af.blk).lt
 have aq := low0 ap ac.grw
 refine wpo_buildSlice (ps := []) (e := 3) (cs := (([] : List Int).flatMap icell).toArray) Xw (fun _ => by kernel_rfl) Z ?_
 intro ab cy V
 have bl := Xy V aq
 have bn := (av.grown0 ac.grw)
 have a8 := Xs V (bn).lt
 have bp := (af.blk.grown0 ac.grw)
 have bd := Xs V (bp).lt
 have bg := Xs V (ac.blk).lt
 have ar := low0 aq V.grw
 refine wpo_move (v := vi to) Z Z (wpo_build (ps := [(0, vi k), (1, .agg #[vi l.s, vi l.v]), (4, .slice (pa an) 0 0), (5, .slice (pa ab) 0 0), (6, vi to)]) (v := .agg #[vi k, vi l.s, vi l.v, vi 0, vi 0, .slice (pa an) 0 0, .slice (pa ab) 0 0, vi to]) (Xp Z (Xp Z (Xp Z (Xp Z (Xp Z Xw))))) (fun _ => by kernel_rfl) Z (wpo_alloc (cs := #[vi 0, vi 0, vi 0, vi 0, vi 0, .slice none 0 0, .slice none 0 0, vi 0]) Jb Z Z ?_))
 intro cn cz E
 have cj := Xy E ar
 have bq := (bn.grown0 V.grw)
 have a9 := Xs E (bq).lt
 have br := (bp.grown0 V.grw)
 have be := Xs E (br).lt
 have bt := (ac.blk.grown0 V.grw)
 have bh := Xs E (bt).lt
 have bj := Xs E (V.blk).lt
 refine wpo_storen (vs := [vi k, vi l.s, vi l.v, vi 0, vi 0, .slice (pa an) 0 0, .slice (pa ab) 0 0, vi to]) (cs' := #[vi k, vi l.s, vi l.v, vi 0, vi 0, .slice (pa an) 0 0, .slice (pa ab) 0 0, vi to]) X0 Z Z Z (by simp [Value.oneCell']) E.blk (Nat.le_of_ble_eq_true Z) Z ?_
 intro da ag
 refine wpo_nil (Xk (Xa (wpo_move (v := vi k) Z Z (Xi H9 (Xb Z Xg) Z (Kj k _) ?_))))
 rintro _ db ⟨rfl, ai⟩
 have au := low0 (low1 (low0 ar E.grw) ag.grw (by omega)) ai
 refine wpo_nil (X8 Z hk (Xr (wpo_make (g := Rt.cells) (z := Rt.zero) (c := 4) Mm Z Qd (by omega) Z Z (by omega) (by omega) Z ?_)))
 intro ae dc O
 have bm := Xy O au
 have ba := Xs O ((((bq.grown0 E.grw).gn ag.grw).grown0 ai)).lt
 have bu := (((br.grown0 E.grw).gn ag.grw).grown0 ai)
 have bf := Xs O (bu).lt
 have bi := Xs O ((((bt.grown0 E.grw).gn ag.grw).grown0 ai)).lt
 have bv := (((V.blk.grown0 E.grw).gn ag.grw).grown0 ai)
 have ak := Xs O (bv).lt
 have bw := (ag.blk.grown0 ai)
 have bk := Xs O (bw).lt
 refine wpo_fieldAddr (o' := 5) Qe Z Z Z (wpo_store1 (v := .slice (pa ae) 4 4) (cs' := #[vi k, vi l.s, vi l.v, vi 0, vi 0, .slice (pa ae) 4 4, .slice (pa ab) 0 0, vi to]) Jt Z Z Z (bw.grown0 O.grw) (Nat.le_of_ble_eq_true Z) Z ?_)
 intro de ah
 refine wpo_nil (Xo (Xk (Xa (wpo_loadn (vs := [vi k, vi l.s, vi l.v, vi 0, vi 0, .slice (pa ae) 4 4, .slice (pa ab) 0 0, vi to]) X0 Z Z (ah.blk.rangeL 0 8 Z) Z ?_))))
 have bz := (O.blk.gn ah.grw)
 have ca := ((bv.grown0 O.grw).gn ah.grw)
 refine Xi Rh (Xb Z Xg) Z (Va (⟨⟨k, l, 0, 0, zeros4, [], to⟩, some ⟨ae, 0, none⟩, 4, some ⟨ab, 0, none⟩, 0⟩ : MTh) _ (Jl Qd bz) (Jl Ye ca) (by first | omega | exact Nat.le_of_ble_eq_true rfl | (simp only [List.length_nil, List.length_cons, List.length_append, List.length_replicate]; omega)) (by first | omega | exact Nat.le_of_ble_eq_true rfl | (simp only [List.length_nil, List.length_cons, List.length_append, List.length_replicate]; omega))) ?_
 rintro _ dh ⟨rfl, aj⟩
 refine wpo_not (b' := !thingOk (⟨k, l, 0, 0, zeros4, [], to⟩ : Th)) Z Z Z (wpo_nil (X5 Z (J3 hlit) (Xn (Xo (Xa (wpo_loadn (vs := [vi k, vi l.s, vi l.v, vi 0, vi 0, .slice (pa ae) 4 4, .slice (pa ab) 0 0, vi to]) X0 Z Z ((ah.blk.grown0 aj).rangeL 0 8 Z) Z (wpo_storen (vs := [vi k, vi l.s, vi l.v, vi 0, vi 0, .slice (pa ae) 4 4, .slice (pa ab) 0 0, vi to]) (cs' := #[vi k, vi l.s, vi l.v, vi 0, vi 0, .slice (pa ae) 4 4, .slice (pa ab) 0 0, vi to]) X0 Z Z Z (by simp [Value.oneCell']) (((bu.grown0 O.grw).gn ah.grw).grown0 aj) (Nat.le_of_ble_eq_true Z) Z ?_)))))))
 intro di am
 refine wpo_assign (v := vb true) Z Z (wpo_nil (Xm ?_))
 refine ⟨.tuple #[.agg #[vi k, vi l.s, vi l.v, vi 0, vi 0, .slice (pa ae) 4 4, .slice (pa ab) 0 0, vi to], vb true], resCT Z (resCell_mk (vs := [vi k, vi l.s, vi l.v, vi 0, vi 0, .slice (pa ae) 4 4, .slice (pa ab) 0 0, vi to]) X0 Z Z (am.blk.rangeL 0 8 Z)) Z, ae, 4, ab, 0, Z, bm, (Own.rows Qd ((bz.grown0 aj).gn am.grw) (by decide)), bl, (Own.rows Ye ((ca.grown0 aj).gn am.grw) (by decide)), (Nat.ne_of_gt ak), (low1 (low0 (low1 (low0 au O.grw) ah.grw (by omega)) aj) am.grw (by omega))⟩
theorem Gd [Comp] (k to : Int) (l : Lab) (hk : ((decide (k = 2)) || (decide (k = 3))) = true) (hok : newOk k l to = false) (w : World) : CallsR Try.prog 93 #[vi k, .agg #[vi l.s, vi l.v], vi to] w (fun v w' => v = .tuple #[.agg #[vi 0, vi 0, vi 0, vi 0, vi 0, .slice none 0 0, .slice none 0 0, vi 0], vb false] ∧ w.grownBy w' none) := by
 refine Xq (n := 24) Try.func93 Z Try.ntmps93 Z ?_
 have bv := World.grownBy.refl w none
 have hlit : thingOk (⟨k, l, 0, 0, zeros4, [], to⟩ : Th) = false := (Vj hk).symm.trans hok
 refine Xa (wpo_box (v := .agg #[vi l.s, vi l.v]) (cs := #[vi l.s, vi l.v]) Z Z Z ?_)
 intro cg cm ai
 have bw := Xy ai bv
 have am := low0 bv ai.grw
 refine wpo_alloc (cs := #[vi 0, vi 0, vi 0, vi 0, vi 0, .slice none 0 0, .slice none 0 0, vi 0]) Jb Z Z ?_
 intro cj cn ac
 have bz := Xy ac am
 have av := Xs ac (ai.blk).lt
 have an := low0 am ac.grw
 refine wpo_assign (v := vb false) Z Z (wpo_nil (Xa (wpo_move (v := vi k) Z Z ?_)))
 have au := (ai.blk.grown0 ac.grw)
 refine wpo_loadn (vs := [vi l.s, vi l.v]) Yd Z Z (au.rangeL 0 2 Z) Z (wpo_buildSlice (ps := []) (e := 74) (cs := (([] : List Rt).flatMap Rt.cells).toArray) Xw (fun _ => by kernel_rfl) Z ?_)
 intro aj co ab
 have ca := Xy ab an
 have aw := Xs ab (au).lt
 have ba := Xs ab (ac.blk).lt
 have ao := low0 an ab.grw
 refine wpo_buildSlice (ps := []) (e := 3) (cs := (([] : List Int).flatMap icell).toArray) Xw (fun _ => by kernel_rfl) Z ?_
 intro ag cw V
 have cc := Xy V ao
 have bl := (au.grown0 ab.grw)
 have az := Xs V (bl).lt
 have bm := (ac.blk.grown0 ab.grw)
 have bc := Xs V (bm).lt
 have bf := Xs V (ab.blk).lt
 have ap := low0 ao V.grw
 refine wpo_move (v := vi to) Z Z (wpo_build (ps := [(0, vi k), (1, .agg #[vi l.s, vi l.v]), (4, .slice (pa aj) 0 0), (5, .slice (pa ag) 0 0), (6, vi to)]) (v := .agg #[vi k, vi l.s, vi l.v, vi 0, vi 0, .slice (pa aj) 0 0, .slice (pa ag) 0 0, vi to]) (Xp Z (Xp Z (Xp Z (Xp Z (Xp Z Xw))))) (fun _ => by kernel_rfl) Z (wpo_alloc (cs := #[vi 0, vi 0, vi 0, vi 0, vi 0, .slice none 0 0, .slice none 0 0, vi 0]) Jb Z Z ?_))
 intro ck cx E
 have cd := Xy E ap
 have bn := (bl.grown0 V.grw)
 have a8 := Xs E (bn).lt
 have bp := (bm.grown0 V.grw)
 have bd := Xs E (bp).lt
 have bq := (ab.blk.grown0 V.grw)
 have bg := Xs E (bq).lt
 have bi := Xs E (V.blk).lt
 refine wpo_storen (vs := [vi k, vi l.s, vi l.v, vi 0, vi 0, .slice (pa aj) 0 0, .slice (pa ag) 0 0, vi to]) (cs' := #[vi k, vi l.s, vi l.v, vi 0, vi 0, .slice (pa aj) 0 0, .slice (pa ag) 0 0, vi to]) X0 Z Z Z (by simp [Value.oneCell']) E.blk (Nat.le_of_ble_eq_true Z) Z ?_
 intro cy ae
 refine wpo_nil (Xk (Xa (wpo_move (v := vi k) Z Z (Xi H9 (Xb Z Xg) Z (Kj k _) ?_))))
 rintro _ cz ⟨rfl, af⟩
 have aq := low0 (low1 (low0 ap E.grw) ae.grw (by omega)) af
 refine wpo_nil (X8 Z hk (Xr (wpo_make (g := Rt.cells) (z := Rt.zero) (c := 4) Mm Z Qd (by omega) Z Z (by omega) (by omega) Z ?_)))
 intro ak da O
 have ce := Xy O aq
 have a9 := Xs O ((((bn.grown0 E.grw).gn ae.grw).grown0 af)).lt
 have br := (((bp.grown0 E.grw).gn ae.grw).grown0 af)
 have be := Xs O (br).lt
 have bh := Xs O ((((bq.grown0 E.grw).gn ae.grw).grown0 af)).lt
 have bt := (((V.blk.grown0 E.grw).gn ae.grw).grown0 af)
 have bj := Xs O (bt).lt
 have bu := (ae.blk.grown0 af)
 have bk := Xs O (bu).lt
 refine wpo_fieldAddr (o' := 5) Qe Z Z Z (wpo_store1 (v := .slice (pa ak) 4 4) (cs' := #[vi k, vi l.s, vi l.v, vi 0, vi 0, .slice (pa ak) 4 4, .slice (pa ag) 0 0, vi to]) Jt Z Z Z (bu.grown0 O.grw) (Nat.le_of_ble_eq_true Z) Z ?_)
 intro db ah
 refine wpo_nil (Xo (Xk (Xa (wpo_loadn (vs := [vi k, vi l.s, vi l.v, vi 0, vi 0, .slice (pa ak) 4 4, .slice (pa ag) 0 0, vi to]) X0 Z Z (ah.blk.rangeL 0 8 Z) Z (Xi Rh (Xb Z Xg) Z (Va (⟨⟨k, l, 0, 0, zeros4, [], to⟩, some ⟨ak, 0, none⟩, 4, some ⟨ag, 0, none⟩, 0⟩ : MTh) _ (Jl Qd (O.blk.gn ah.grw)) (Jl Ye ((bt.grown0 O.grw).gn ah.grw)) (by first | omega | exact Nat.le_of_ble_eq_true rfl | (simp only [List.length_nil, List.length_cons, List.length_append, List.length_replicate]; omega)) (by first | omega | exact Nat.le_of_ble_eq_true rfl | (simp only [List.length_nil, List.length_cons, List.length_append, List.length_replicate]; omega))) ?_)))))
 rintro _ dc ⟨rfl, ar⟩
 refine wpo_not (b' := !thingOk (⟨k, l, 0, 0, zeros4, [], to⟩ : Th)) Z Z Z (wpo_nil (X8 Z (Qw hlit) (Xa (wpo_build (ps := []) (v := .agg #[vi 0, vi 0, vi 0, vi 0, vi 0, .slice none 0 0, .slice none 0 0, vi 0]) Xw (fun _ => by kernel_rfl) Z (wpo_storen (vs := [vi 0, vi 0, vi 0, vi 0, vi 0, .slice none 0 0, .slice none 0 0, vi 0]) (cs' := #[vi 0, vi 0, vi 0, vi 0, vi 0, .slice none 0 0, .slice none 0 0, vi 0]) X0 Z Z Z (by simp [Value.oneCell']) (((br.grown0 O.grw).gn ah.grw).grown0 ar) (Nat.le_of_ble_eq_true Z) Z ?_)))))
 intro de al
 refine wpo_assign (v := vb false) Z Z (wpo_nil (Xm (Ya ?_)))
 refine ⟨.tuple #[.agg #[vi 0, vi 0, vi 0, vi 0, vi 0, .slice none 0 0, .slice none 0 0, vi 0], vb false], resCT Z (resCell_mk (vs := [vi 0, vi 0, vi 0, vi 0, vi 0, .slice none 0 0, .slice none 0 0, vi 0]) X0 Z Z (al.blk.rangeL 0 8 Z)) Z, Z, (low1 (low0 (low1 (low0 aq O.grw) ah.grw (by omega)) ar) al.grw (by omega))⟩
theorem J1 [Comp] (k to : Int) (l : Lab) (hk : ((decide (k = 2)) || (decide (k = 3))) = false) (hok : newOk k l to = true) (w : World) : CallsR Try.prog 93 #[vi k, .agg #[vi l.s, vi l.v], vi to] w (fun v w' => ∃ (S sc Q qc : Nat), v = .tuple #[.agg #[vi k, vi l.s, vi l.v, vi 0, vi 0, .slice (pa S) 0 sc, .slice (pa Q) 0 qc, vi to], vb true] ∧ w.heap.size ≤ S ∧ Dw.Own w' S 74 5 sc 0 (([] : List Rt).flatMap Rt.cells) ∧ w.heap.size ≤ Q ∧ Dw.Own w' Q 3 1 qc 0 (([] : List Int).flatMap icell) ∧ S ≠ Q ∧ w.grownBy w' none) := by
 refine Xq (n := 24) Try.func93 Z Try.ntmps93 Z ?_
 have bl := World.grownBy.refl w none
 have hlit : thingOk (⟨k, l, 0, 0, [], [], to⟩ : Th) = true := (J5 hk).symm.trans hok
 have bu : decide (k = 2) = false := K5 hk
 have bv : decide (k = 3) = false := K6 hk
 refine Xa (wpo_box (v := .agg #[vi l.s, vi l.v]) (cs := #[vi l.s, vi l.v]) Z Z Z ?_)
 intro bq bw aj
 have bm := Xy aj bl
 have al := low0 bl aj.grw
 refine wpo_alloc (cs := #[vi 0, vi 0, vi 0, vi 0, vi 0, .slice none 0 0, .slice none 0 0, vi 0]) Jb Z Z ?_
 intro br bz ae
 have bn := Xy ae al
 have aq := Xs ae (aj.blk).lt
 have am := low0 al ae.grw
 refine wpo_assign (v := vb false) Z Z (wpo_nil (Xa (wpo_move (v := vi k) Z Z ?_)))
 have ap := (aj.blk.grown0 ae.grw)
 refine wpo_loadn (vs := [vi l.s, vi l.v]) Yd Z Z (ap.rangeL 0 2 Z) Z (wpo_buildSlice (ps := []) (e := 74) (cs := (([] : List Rt).flatMap Rt.cells).toArray) Xw (fun _ => by kernel_rfl) Z ?_)
 intro V ca ac
 have bc := Xy ac am
 have ar := Xs ac (ap).lt
 have aw := Xs ac (ae.blk).lt
 have an := low0 am ac.grw
 refine wpo_buildSlice (ps := []) (e := 3) (cs := (([] : List Int).flatMap icell).toArray) Xw (fun _ => by kernel_rfl) Z ?_
 intro ab cc E
 have bd := Xy E an
 have be := (ap.grown0 ac.grw)
 have au := Xs E (be).lt
 have bf := (ae.blk.grown0 ac.grw)
 have az := Xs E (bf).lt
 have ai := Xs E (ac.blk).lt
 have ao := low0 an E.grw
 refine wpo_move (v := vi to) Z Z (wpo_build (ps := [(0, vi k), (1, .agg #[vi l.s, vi l.v]), (4, .slice (pa V) 0 0), (5, .slice (pa ab) 0 0), (6, vi to)]) (v := .agg #[vi k, vi l.s, vi l.v, vi 0, vi 0, .slice (pa V) 0 0, .slice (pa ab) 0 0, vi to]) (Xp Z (Xp Z (Xp Z (Xp Z (Xp Z Xw))))) (fun _ => by kernel_rfl) Z (wpo_alloc (cs := #[vi 0, vi 0, vi 0, vi 0, vi 0, .slice none 0 0, .slice none 0 0, vi 0]) Jb Z Z ?_))
 intro bt cd O
 have bp := Xy O ao
 have av := Xs O ((be.grown0 E.grw)).lt
 have bg := (bf.grown0 E.grw)
 have a8 := Xs O (bg).lt
 have bh := (ac.blk.grown0 E.grw)
 have a9 := Xs O (bh).lt
 have ba := Xs O (E.blk).lt
 refine wpo_storen (vs := [vi k, vi l.s, vi l.v, vi 0, vi 0, .slice (pa V) 0 0, .slice (pa ab) 0 0, vi to]) (cs' := #[vi k, vi l.s, vi l.v, vi 0, vi 0, .slice (pa V) 0 0, .slice (pa ab) 0 0, vi to]) X0 Z Z Z (by simp [Value.oneCell']) O.blk (Nat.le_of_ble_eq_true Z) Z ?_
 intro ce af
 refine wpo_nil (Xk (Xa (wpo_move (v := vi k) Z Z (Xi H9 (Xb Z Xg) Z (Kj k _) ?_))))
 rintro _ cg ⟨rfl, ag⟩
 refine wpo_nil (X5 Z hk (Xn (Xo (Xk (Xa ?_)))))
 have bi := (af.blk.grown0 ag)
 refine wpo_loadn (vs := [vi k, vi l.s, vi l.v, vi 0, vi 0, .slice (pa V) 0 0, .slice (pa ab) 0 0, vi to]) X0 Z Z (bi.rangeL 0 8 Z) Z ?_
 have bj := (((bh.grown0 O.grw).gn af.grw).grown0 ag)
 have bk := (((E.blk.grown0 O.grw).gn af.grw).grown0 ag)
 refine Xi Rh (Xb Z Xg) Z (Va (⟨⟨k, l, 0, 0, [], [], to⟩, some ⟨V, 0, none⟩, 0, some ⟨ab, 0, none⟩, 0⟩ : MTh) _ (Jl Qd bj) (Jl Ye bk) (by first | omega | exact Nat.le_of_ble_eq_true rfl | (simp only [List.length_nil, List.length_cons, List.length_append, List.length_replicate]; omega)) (by first | omega | exact Nat.le_of_ble_eq_true rfl | (simp only [List.length_nil, List.length_cons, List.length_append, List.length_replicate]; omega))) ?_
 rintro _ cj ⟨rfl, ah⟩
 refine wpo_not (b' := !thingOk (⟨k, l, 0, 0, [], [], to⟩ : Th)) Z Z Z (wpo_nil (X5 Z (J3 hlit) (Xn (Xo (Xa (wpo_loadn (vs := [vi k, vi l.s, vi l.v, vi 0, vi 0, .slice (pa V) 0 0, .slice (pa ab) 0 0, vi to]) X0 Z Z ((bi.grown0 ah).rangeL 0 8 Z) Z (wpo_storen (vs := [vi k, vi l.s, vi l.v, vi 0, vi 0, .slice (pa V) 0 0, .slice (pa ab) 0 0, vi to]) (cs' := #[vi k, vi l.s, vi l.v, vi 0, vi 0, .slice (pa V) 0 0, .slice (pa ab) 0 0, vi to]) X0 Z Z Z (by simp [Value.oneCell']) ((((bg.grown0 O.grw).gn af.grw).grown0 ag).grown0 ah) (Nat.le_of_ble_eq_true Z) Z ?_)))))))
 intro ck ak
 refine wpo_assign (v := vb true) Z Z (wpo_nil (Xm ?_))
 refine ⟨.tuple #[.agg #[vi k, vi l.s, vi l.v, vi 0, vi 0, .slice (pa V) 0 0, .slice (pa ab) 0 0, vi to], vb true], resCT Z (resCell_mk (vs := [vi k, vi l.s, vi l.v, vi 0, vi 0, .slice (pa V) 0 0, .slice (pa ab) 0 0, vi to]) X0 Z Z (ak.blk.rangeL 0 8 Z)) Z, V, 0, ab, 0, Z, bc, (Own.rows Qd ((bj.grown0 ah).gn ak.grw) (by decide)), bd, (Own.rows Ye ((bk.grown0 ah).gn ak.grw) (by decide)), (Nat.ne_of_lt ai), (low1 (low0 (low0 (low1 (low0 ao O.grw) af.grw (by omega)) ag) ah) ak.grw (by omega))⟩
theorem Gc [Comp] (k to : Int) (l : Lab) (hk : ((decide (k = 2)) || (decide (k = 3))) = false) (hok : newOk k l to = false) (w : World) : CallsR Try.prog 93 #[vi k, .agg #[vi l.s, vi l.v], vi to] w (fun v w' => v = .tuple #[.agg #[vi 0, vi 0, vi 0, vi 0, vi 0, .slice none 0 0, .slice none 0 0, vi 0], vb false] ∧ w.grownBy w' none) := by
 refine Xq (n := 24) Try.func93 Z Try.ntmps93 Z ?_
 have bg := World.grownBy.refl w none
 have hlit : thingOk (⟨k, l, 0, 0, [], [], to⟩ : Th) = false := (J5 hk).symm.trans hok
 have bq : decide (k = 2) = false := K5 hk
 have br : decide (k = 3) = false := K6 hk
 refine Xa (wpo_box (v := .agg #[vi l.s, vi l.v]) (cs := #[vi l.s, vi l.v]) Z Z Z ?_)
 intro bm bt ah
 have bh := Xy ah bg
 have aj := low0 bg ah.grw
 refine wpo_alloc (cs := #[vi 0, vi 0, vi 0, vi 0, vi 0, .slice none 0 0, .slice none 0 0, vi 0]) Jb Z Z ?_
 intro bn bu ab
 have bi := Xy ab aj
 have ap := Xs ab (ah.blk).lt
 have ak := low0 aj ab.grw
 refine wpo_assign (v := vb false) Z Z (wpo_nil (Xa (wpo_move (v := vi k) Z Z ?_)))
 have ao := (ah.blk.grown0 ab.grw)
 refine wpo_loadn (vs := [vi l.s, vi l.v]) Yd Z Z (ao.rangeL 0 2 Z) Z (wpo_buildSlice (ps := []) (e := 74) (cs := (([] : List Rt).flatMap Rt.cells).toArray) Xw (fun _ => by kernel_rfl) Z ?_)
 intro af bv V
 have bj := Xy V ak
 have aq := Xs V (ao).lt
 have av := Xs V (ab.blk).lt
 have al := low0 ak V.grw
 refine wpo_buildSlice (ps := []) (e := 3) (cs := (([] : List Int).flatMap icell).toArray) Xw (fun _ => by kernel_rfl) Z ?_
 intro ag bw E
 have bk := Xy E al
 have bc := (ao.grown0 V.grw)
 have ar := Xs E (bc).lt
 have bd := (ab.blk.grown0 V.grw)
 have aw := Xs E (bd).lt
 have a8 := Xs E (V.blk).lt
 have am := low0 al E.grw
 refine wpo_move (v := vi to) Z Z (wpo_build (ps := [(0, vi k), (1, .agg #[vi l.s, vi l.v]), (4, .slice (pa af) 0 0), (5, .slice (pa ag) 0 0), (6, vi to)]) (v := .agg #[vi k, vi l.s, vi l.v, vi 0, vi 0, .slice (pa af) 0 0, .slice (pa ag) 0 0, vi to]) (Xp Z (Xp Z (Xp Z (Xp Z (Xp Z Xw))))) (fun _ => by kernel_rfl) Z (wpo_alloc (cs := #[vi 0, vi 0, vi 0, vi 0, vi 0, .slice none 0 0, .slice none 0 0, vi 0]) Jb Z Z ?_))
 intro bp bz O
 have bl := Xy O am
 have au := Xs O ((bc.grown0 E.grw)).lt
 have be := (bd.grown0 E.grw)
 have az := Xs O (be).lt
 have bf := (V.blk.grown0 E.grw)
 have a9 := Xs O (bf).lt
 have ba := Xs O (E.blk).lt
 refine wpo_storen (vs := [vi k, vi l.s, vi l.v, vi 0, vi 0, .slice (pa af) 0 0, .slice (pa ag) 0 0, vi to]) (cs' := #[vi k, vi l.s, vi l.v, vi 0, vi 0, .slice (pa af) 0 0, .slice (pa ag) 0 0, vi to]) X0 Z Z Z (by simp [Value.oneCell']) O.blk (Nat.le_of_ble_eq_true Z) Z ?_
 intro ca ac
 refine wpo_nil (Xk (Xa (wpo_move (v := vi k) Z Z (Xi H9 (Xb Z Xg) Z (Kj k _) ?_))))
 rintro _ cc ⟨rfl, ae⟩
 refine wpo_nil (X5 Z hk (Xn (Xo (Xk (Xa (wpo_loadn (vs := [vi k, vi l.s, vi l.v, vi 0, vi 0, .slice (pa af) 0 0, .slice (pa ag) 0 0, vi to]) X0 Z Z ((ac.blk.grown0 ae).rangeL 0 8 Z) Z (Xi Rh (Xb Z Xg) Z (Va (⟨⟨k, l, 0, 0, [], [], to⟩, some ⟨af, 0, none⟩, 0, some ⟨ag, 0, none⟩, 0⟩ : MTh) _ (Jl Qd (((bf.grown0 O.grw).gn ac.grw).grown0 ae)) (Jl Ye (((E.blk.grown0 O.grw).gn ac.grw).grown0 ae)) (by first | omega | exact Nat.le_of_ble_eq_true rfl | (simp only [List.length_nil, List.length_cons, List.length_append, List.length_replicate]; omega)) (by first | omega | exact Nat.le_of_ble_eq_true rfl | (simp only [List.length_nil, List.length_cons, List.length_append, List.length_replicate]; omega))) ?_)))))))
 rintro _ cd ⟨rfl, an⟩
 refine wpo_not (b' := !thingOk (⟨k, l, 0, 0, [], [], to⟩ : Th)) Z Z Z (wpo_nil (X8 Z (Qw hlit) (Xa (wpo_build (ps := []) (v := .agg #[vi 0, vi 0, vi 0, vi 0, vi 0, .slice none 0 0, .slice none 0 0, vi 0]) Xw (fun _ => by kernel_rfl) Z (wpo_storen (vs := [vi 0, vi 0, vi 0, vi 0, vi 0, .slice none 0 0, .slice none 0 0, vi 0]) (cs' := #[vi 0, vi 0, vi 0, vi 0, vi 0, .slice none 0 0, .slice none 0 0, vi 0]) X0 Z Z Z (by simp [Value.oneCell']) ((((be.grown0 O.grw).gn ac.grw).grown0 ae).grown0 an) (Nat.le_of_ble_eq_true Z) Z ?_)))))
 intro ce ai
 refine wpo_assign (v := vb false) Z Z (wpo_nil (Xm (Ya ?_)))
 refine ⟨.tuple #[.agg #[vi 0, vi 0, vi 0, vi 0, vi 0, .slice none 0 0, .slice none 0 0, vi 0], vb false], resCT Z (resCell_mk (vs := [vi 0, vi 0, vi 0, vi 0, vi 0, .slice none 0 0, .slice none 0 0, vi 0]) X0 Z Z (ai.blk.rangeL 0 8 Z)) Z, Z, (low1 (low0 (low0 (low1 (low0 am O.grw) ac.grw (by omega)) ae) an) ai.grw (by omega))⟩
end Go.Dw.J
end
section
namespace Go.Dw.J
open Go.RowKit Go.Dw Go.Proofs
set_option linter.unusedSectionVars false
set_option maxRecDepth 100000
set_option maxHeartbeats 4000000
set_option linter.unusedSimpArgs false
set_option linter.unusedVariables false
end Go.Dw.J
end
