/- Laws and walks: my templates, and what a program of mine (gen.py) printed out of the functions; only what the row reaches. -/
import Derived.Test.YtldnkinaedgnpaaVX4
section
namespace Go.Dw.J
open Go.RowKit Go.Dw Go.Proofs
open Go.ConcR (Payload mk)
open Go.ConcR.Gen
set_option linter.unusedSectionVars false
set_option linter.unusedSimpArgs false
set_option linter.unusedVariables false
set_option maxRecDepth 100000
set_option maxHeartbeats 4000000
section
variable [Payload] {ph : Ph} {A : World}
theorem wait_c (hP : ph.P = Try.prog) (h : g0 A = 4) (h1 : g1 A = ph.n) (hW : ¬ Seen A ph.Wg) (hn : ph.n < 2147483648) : @CallsR (compP ph) Try.prog 43 #[.pointer (some ⟨ph.Wg, 0, none⟩)] A (fun v B => v = .tuple #[] ∧ ∃ w, Fin ph B w) := by
  letI := compP ph
  refine calls_of_wpf (n := 84) Try.func43 rfl Try.ntmps43 rfl ?_
  refine wpf_seq (wpf_condt rfl rfl (wpf_region ?_))
  refine wpo_entry (vs := []) args_nil rfl (e_disable2 h h1) ?_
  rintro _ _ ⟨rfl, rfl⟩
  refine wpo_nil ?_
  refine wpf_block ?_
  refine wpf_loopN (fun m F B => m ≤ ph.n ∧ F 0 = .pointer (some ⟨ph.Wg, 0, none⟩) ∧ B = setT A 5 m) ph.n ⟨Nat.le_refl _, rfl, rfl⟩ fun m F B ⟨hm, e0, eB⟩ => ?_
  rw [eB]
  refine wpf_block ?_
  refine wpf_seq_region ?_
  refine wpo_move (v := .pointer (some ⟨ph.Wg, 0, none⟩)) e0 rfl ?_
  refine wpo_nilCheck rfl rfl ?_
  refine wpo_fieldAddr (o' := 0) vfo_70_1 rfl rfl rfl ?_
  refine wpo_call (vs := [.pointer (some ⟨ph.Wg, 0, none⟩)]) vgf_82 (args_cons rfl args_nil) rfl (uLoad_c (ph := ph) (A := setT A 5 m) rfl) ?_
  rintro _ B1 ⟨k, hk, rfl, hB1⟩
  have hkm : k ≤ m := hk
  have hk31 : k < 2147483648 := by omega
  refine wpo_assign (v := .int .u64 ((k : Int) * 4294967296)) rfl rfl (wpo_nil ?_)
  refine wpf_seq_region ?_
  refine wpo_move (v := .int .u64 ((k : Int) * 4294967296)) rfl rfl ?_
  refine wpo_bin (v := .int .u64 (k : Int)) rfl rfl rfl rfl b_shr (fun _ _ => rfl) rfl ?_
  refine wpo_conv (c := (k : Int)) rfl viu_65 vun_21 (w_i32 hk31) rfl ?_
  refine wpo_assign (v := .int .i32 (k : Int)) rfl rfl (wpo_nil ?_)
  refine wpf_seq_region ?_
  refine wpo_move (v := .int .u64 ((k : Int) * 4294967296)) rfl rfl ?_
  refine wpo_bin (v := .int .u64 0) rfl rfl rfl rfl (b_wait hk31) (fun _ _ => rfl) rfl ?_
  refine wpo_conv (c := 0) rfl viu_65 vun_68 (by rw [IntKind.wrap_u32]; rfl) rfl ?_
  refine wpo_assign (v := .int .u32 0) rfl rfl (wpo_nil ?_)
  refine wpf_seq (wpf_seq_region ?_)
  refine wpo_move (v := .int .i32 (k : Int)) rfl rfl ?_
  rcases hB1 with ⟨hk0, rfl⟩ | ⟨hk1, rfl⟩
  · refine wpo_eql (q := true) rfl rfl (by simp [hk0]) rfl ?_
    refine wpo_nil (wpf_condt rfl rfl ?_)
    refine wpf_seq (wpf_condt rfl rfl (wpf_seq_region ?_))
    refine wpo_entry (vs := []) args_nil rfl (e_enable2 (ph := ph) (A := setT A 8 0) rfl) ?_
    rintro _ _ ⟨rfl, rfl⟩
    refine wpo_nil (wpf_region ?_)
    refine wpo_move (v := .pointer (some ⟨ph.Wg, 0, none⟩)) e0 rfl ?_
    refine wpo_unsafe (ph := ph) vun_102 vun_104 vrm_70 rfl (.inl rfl) (by show (9 : Nat) ≠ 0; omega) rfl ?_
    refine wpo_entry (vs := [.pointer (some ⟨ph.Wg, 0, none⟩)]) (args_cons rfl args_nil) rfl (e_acquire (ph := ph) (A := setT A 9 0) rfl) ?_
    rintro _ B2 ⟨rfl, hF⟩
    refine wpo_nil ?_
    refine wpf_seq (wpf_seq_region ?_)
    refine wpo_move (v := .int .u32 0) rfl rfl ?_
    refine wpo_eql (q := true) rfl rfl rfl rfl ?_
    refine wpo_move (v := .bool true) rfl rfl ?_
    refine wpo_run rfl rfl rfl rfl ?_
    refine wpo_move (v := .int .u64 ((k : Int) * 4294967296)) rfl rfl ?_
    refine wpo_run rfl rfl rfl rfl ?_
    refine wpo_bin (v := .int .u64 0) rfl rfl rfl rfl (b_flag hk31) (fun _ _ => rfl) rfl ?_
    refine wpo_run rfl rfl rfl rfl ?_
    refine wpo_neq (q := false) rfl rfl rfl rfl ?_
    refine wpo_pickt (v := .bool false) rfl rfl rfl rfl ?_
    refine wpo_move (v := .bool false) rfl rfl ?_
    refine wpo_pass rfl rfl rfl rfl rfl ?_
    refine wpo_pass rfl rfl rfl rfl rfl ?_
    refine wpo_pickf (v := .bool false) rfl rfl rfl rfl (wpo_nil (wpf_condf rfl rfl (wpf_skip (wpf_ret ?_))))
    exact ⟨_, res0 rfl, rfl, hF⟩
  · refine wpo_eql (q := false) rfl rfl (by simp; omega) rfl ?_
    refine wpo_nil (wpf_condf rfl rfl (wpf_skip ?_))
    refine wpf_seq_region ?_
    refine wpo_move (v := .pointer (some ⟨ph.Wg, 0, none⟩)) e0 rfl ?_
    refine wpo_nilCheck rfl rfl ?_
    refine wpo_fieldAddr (o' := 0) vfo_70_1 rfl rfl rfl ?_
    refine wpo_move (v := .int .u64 ((k : Int) * 4294967296)) rfl rfl ?_
    refine wpo_move (v := .int .u64 ((k : Int) * 4294967296)) rfl rfl ?_
    refine wpo_bin (v := .int .u64 ((k : Int) * 4294967296 + 1)) rfl rfl rfl rfl (b_add1 hk31) (fun _ _ => rfl) rfl ?_
    refine wpo_call (vs := [.pointer (some ⟨ph.Wg, 0, none⟩), .int .u64 ((k : Int) * 4294967296), .int .u64 ((k : Int) * 4294967296 + 1)]) vgf_89 (args_cons rfl (args_cons rfl (args_cons rfl args_nil))) rfl (uCas_c (ph := ph) (A := setT A 5 k) rfl rfl hk1 hW) ?_
    rintro _ B2 (⟨rfl, rfl⟩ | ⟨rfl, j, hj, rfl⟩)
    · refine wpo_nil (wpf_condt rfl rfl ?_)
      refine wpf_seq (wpf_seq_region ?_)
      refine wpo_move (v := .bool true) rfl rfl ?_
      refine wpo_run rfl rfl rfl rfl ?_
      refine wpo_move (v := .int .u32 0) rfl rfl ?_
      refine wpo_run rfl rfl rfl rfl ?_
      refine wpo_eql (q := true) rfl rfl rfl rfl ?_
      refine wpo_pickt (v := .bool true) rfl rfl rfl rfl (wpo_nil (wpf_condt rfl rfl (wpf_region ?_)))
      refine wpo_move (v := .pointer (some ⟨ph.Wg, 0, none⟩)) e0 rfl ?_
      refine wpo_nilCheck rfl rfl ?_
      refine wpo_fieldAddr (o' := 1) vfo_70_2 rfl rfl rfl ?_
      refine wpo_unsafe (ph := ph) vun_110 vun_104 vrm_68 rfl (.inr rfl) (by show (6 : Nat) ≠ 0; omega) rfl ?_
      refine wpo_entry (vs := [.pointer (some ⟨ph.Wg, 1, none⟩)]) (args_cons rfl args_nil) rfl (e_write (ph := ph) (A := setT A 6 0) rfl) ?_
      rintro _ _ ⟨rfl, rfl⟩
      refine wpo_nil ?_
      refine wpf_seq_region (wpo_assign (v := .bool false) rfl rfl (wpo_nil ?_))
      refine wpf_seq (wpf_seq_region ?_)
      refine wpo_move (v := .int .u64 ((k : Int) * 4294967296)) rfl rfl ?_
      refine wpo_bin (v := .int .u64 0) rfl rfl rfl rfl (b_flag hk31) (fun _ _ => rfl) rfl ?_
      refine wpo_neq (q := false) rfl rfl rfl rfl ?_
      refine wpo_move (v := .bool false) rfl rfl ?_
      refine wpo_pass rfl rfl rfl rfl rfl ?_
      refine wpo_pickf (v := .bool false) rfl rfl rfl rfl (wpo_nil (wpf_condf rfl rfl (wpf_skip ?_)))
      refine wpf_seq_region ?_
      refine wpo_move (v := .pointer (some ⟨ph.Wg, 0, none⟩)) e0 rfl ?_
      refine wpo_nilCheck rfl rfl ?_
      refine wpo_fieldAddr (o' := 1) vfo_70_2 rfl rfl rfl ?_
      refine wpo_move (v := .bool false) rfl rfl ?_
      refine wpo_entry (vs := [.pointer (some ⟨ph.Wg, 1, none⟩), .bool false]) (args_cons rfl (args_cons rfl args_nil)) rfl (e_sema (ph := ph) (A := setT A 6 0) hP rfl) ?_
      rintro _ _ ⟨rfl, rfl⟩
      refine wpo_nil (wpf_seq_region ?_)
      refine wpo_move (v := .pointer (some ⟨ph.Wg, 0, none⟩)) e0 rfl ?_
      refine wpo_nilCheck rfl rfl ?_
      refine wpo_fieldAddr (o' := 0) vfo_70_1 rfl rfl rfl ?_
      refine wpo_call (vs := [.pointer (some ⟨ph.Wg, 0, none⟩)]) vgf_82 (args_cons rfl args_nil) rfl (uLoad2_c (ph := ph) (A := setT A 8 0) rfl) ?_
      rintro _ _ ⟨rfl, rfl⟩
      refine wpo_neq (q := false) rfl rfl rfl rfl ?_
      refine wpo_assign (v := .bool false) rfl rfl (wpo_nil ?_)
      refine wpf_seq (wpf_condt rfl rfl (wpf_seq_region ?_))
      refine wpo_entry (vs := []) args_nil rfl (e_enable2 (ph := ph) (A := setT A 8 0) rfl) ?_
      rintro _ _ ⟨rfl, rfl⟩
      refine wpo_nil (wpf_region ?_)
      refine wpo_move (v := .pointer (some ⟨ph.Wg, 0, none⟩)) e0 rfl ?_
      refine wpo_unsafe (ph := ph) vun_102 vun_104 vrm_70 rfl (.inl rfl) (by show (9 : Nat) ≠ 0; omega) rfl ?_
      refine wpo_entry (vs := [.pointer (some ⟨ph.Wg, 0, none⟩)]) (args_cons rfl args_nil) rfl (e_acquire (ph := ph) (A := setT A 9 0) rfl) ?_
      rintro _ B3 ⟨rfl, hF⟩
      refine wpo_nil ?_
      refine wpf_seq (wpf_seq_region ?_)
      refine wpo_move (v := .bool false) rfl rfl (wpo_nil (wpf_condf rfl rfl (wpf_skip (wpf_ret ?_))))
      exact ⟨_, res0 rfl, rfl, hF⟩
    · refine wpo_nil (wpf_condf rfl rfl (wpf_skip ?_))
      exact ⟨j, by omega, by omega, e0, rfl⟩
end
end Go.Dw.J
end
section
namespace Go.Dw.J
open Go.Conc (QuitsD Goes G)
open Go.Conc.Lib (WgLink WgLib)
open Go.ConcR (Payload WgAt KK stA smA rd wr mk DC0)
open Go.ConcN (RW DWs AtR0 AtK1 WgLive Has EvW)
open Go.ConcN.Gen (kn_rely doneN)
set_option linter.unusedVariables false
set_option linter.unusedSimpArgs false
set_option linter.unusedSectionVars false
section
variable [Payload] {P : Program} {ty : TypeId} {Wg C n Low k : Nat} {val : Value}
def AtDis (P : Program) (g : Goroutine) (w : World) : Prop := ∃ g', stepG P false g w = .go g' w #[mk .disable]
def AtRel (P : Program) (ty : TypeId) (Wg C n Low k : Nat) (g : Goroutine) (w : World) : Prop := ∃ g', stepG P false g w = .go g' w #[mk (.releaseMerge (stA Wg))] ∧ ∃ m, Goes P false (RW ty Wg C n Low (k - 1)) DC0 (AtDis P) m g' w
theorem goes_first {P : Program} {main : Bool} {R : World → World → Prop} {D' : World → World → Array Event → Prop} {S S' : Goroutine → World → Prop} (hR : ∀ w, R w w) {m m' : Nat} {g : Goroutine} {w : World}
    (hD : ∀ g w, S g w → S' g w → False) (hno : ∀ (g : Goroutine) (w : World) (g' : Goroutine) (es : Array Event), S g w → stepG P main g w = .go g' w es → ¬ D' w w es) : Goes P main R DC0 S m g w → (∀ g w, S' g w → ∃ g' es, es ≠ #[] ∧ stepG P main g w = .go g' w es) → (∀ g w, S g w → ∃ g' es, es ≠ #[] ∧ stepG P main g w = .go g' w es) → ¬ Goes P main R D' S' m' g w := by
  intro h hS' hS h'
  induction m generalizing m' g w with
  | zero =>
    rcases Goes.cases h' with h2 | ⟨m2, rfl, h2⟩
    · exact hD g w (h w (hR w)) (h2 w (hR w))
    · obtain ⟨g', w', es, h3, h4, _⟩ := h2 w (hR w)
      obtain ⟨g'', es', _, h5⟩ := hS g w (h w (hR w))
      rw [h3] at h5
      cases h5
      exact hno g w g' es (h w (hR w)) h3 h4
  | succ m ih =>
    rcases Goes.cases h with h1 | ⟨m1, e1, h1⟩
    · rcases Goes.cases h' with h2 | ⟨m2, rfl, h2⟩
      · exact hD g w (h1 w (hR w)) (h2 w (hR w))
      · obtain ⟨g', w', es, h3, h4, _⟩ := h2 w (hR w)
        obtain ⟨g'', es', _, h5⟩ := hS g w (h1 w (hR w))
        rw [h3] at h5
        cases h5
        exact hno g w g' es (h1 w (hR w)) h3 h4
    · cases e1
      obtain ⟨g', w', es, h3, ⟨rfl, rfl⟩, h4⟩ := h1 w (hR w)
      rcases Goes.cases h' with h2 | ⟨m2, rfl, h2⟩
      · obtain ⟨g'', es', h5, h6⟩ := hS' g _ (h2 _ (hR _))
        rw [h3] at h6
        cases h6
        exact h5 rfl
      · obtain ⟨g'', w'', es', h5, h6, h7⟩ := h2 _ (hR _)
        rw [h3] at h5
        cases h5
        exact ih h4 h7
theorem done_quiet {Own Rd : Nat → Loc → Prop} {m m' : Nat} {g : Goroutine} {w : World} (h : Goes P false (RW ty Wg C n Low (k - 1)) DC0 (AtRel P ty Wg C n Low k) m g w) (h' : Goes P false (RW ty Wg C n Low (k - 1)) (DWs Wg Own Rd C n k) (AtR0 P ty Wg C n Low k val) m' g w) :
    Goes P false (RW ty Wg C n Low (k - 1)) DC0 (AtR0 P ty Wg C n Low k val) m g w := by
  have hS' : ∀ g w, AtR0 P ty Wg C n Low k val g w → ∃ g' es, es ≠ #[] ∧ stepG P false g w = .go g' w es := fun g w ⟨_, _, g', h1, _⟩ => ⟨g', _, by simp, h1⟩
  have hstop : ∀ (g : Goroutine) (w : World) (m' : Nat), (∀ w₁, RW ty Wg C n Low (k - 1) w w₁ → AtRel P ty Wg C n Low k g w₁) → Goes P false (RW ty Wg C n Low (k - 1)) (DWs Wg Own Rd C n k) (AtR0 P ty Wg C n Low k val) m' g w → ∀ w₁, RW ty Wg C n Low (k - 1) w w₁ → AtR0 P ty Wg C n Low k val g w₁ := fun g w m' h h' w₁ h₁ => by
    rcases Goes.cases h' with h2 | ⟨m2, rfl, h2⟩
    · exact h2 w₁ h₁
    · obtain ⟨g', w', es, h3, h4, h5⟩ := h2 w₁ h₁
      obtain ⟨g'', h6, mm, h7⟩ := h w₁ h₁
      rw [h3] at h6
      cases h6
      refine absurd h5 (goes_first RW.refl (fun g w ⟨g', ha⟩ ⟨_, _, g'', hb, _⟩ => ?_) (fun g w g' es ⟨g'', ha⟩ hb hc => ?_) h7 hS' fun g w ⟨g', ha⟩ => ⟨g', _, by simp, ha⟩)
      · rw [ha] at hb
        simp [mk] at hb
      · rw [ha] at hb
        cases hb
        exact (hc.2 (mk .disable) (by simp)).2.1 rfl
  induction m generalizing m' g w with
  | zero => exact hstop g w m' h h'
  | succ m ih =>
    rcases Goes.cases h with h1 | ⟨m1, e1, h1⟩
    · exact .inl (hstop g w m' h1 h')
    · cases e1
      rcases Goes.cases h' with h2 | ⟨m2, rfl, h2⟩
      · exact .inl h2
      · refine Goes.step ?_ fun w₁ h₁ => ?_
        · rcases h with h | h
          · rcases h' with h' | h'
            · exact (h' w (RW.refl w)).1
            · exact h'.1
          · exact h.1
        · obtain ⟨g', w', es, h3, ⟨rfl, rfl⟩, h4⟩ := h1 w₁ h₁
          obtain ⟨g'', w'', es', h5, h6, h7⟩ := h2 _ h₁
          rw [h3] at h5
          cases h5
          rw [h3]
          exact ⟨⟨rfl, rfl⟩, ih h4 h7⟩
end
end Go.Dw.J
end
section
namespace Go.DwD
open Go.Dw.J (AtRel done_quiet)
open Go.Conc Go.ConcN Go.RowKit Go.Conc.Lib Go.ConcR.Gen Go.ConcN.Gen
open Go.ConcR (KK wgBlock WgAt stA smA rd wr mk Payload Aside2 DC0)
set_option linter.unusedVariables false
set_option linter.unusedSimpArgs false
set_option linter.unusedSectionVars false
section
variable [Payload] {L : WgLink}
set_option maxRecDepth 100000 in
set_option maxHeartbeats 4000000 in
theorem doneHead {P : Program} (H : WgLib P L) {Wg C n Low k : Nat} {val : Value} {c : Frame} {cs : List Frame} (w : World) (hK : WgLive L.tWg Wg w ∧ Has C (k - 1) val w) :
    Goes P false (RW L.tWg Wg C n Low (k - 1)) DC0 (AtRel P L.tWg Wg C n Low k) 23 (G ((baseD L.done).at ⟨#[.pointer (some ⟨Wg, 0, none⟩), undef, undef, undef], []⟩ [.code (body_done L)]) (c :: cs)) w := by
  lib_facts
  simp only [body_done, body_add, doneFn, addFn, Option.getD_some]
  u_reg kn_rely hK
  u_op kn_rely hK
  u_in kn_rely hK
  refine goes_call rfl rfl (by k_ne) rfl H.f_add (nm_add L) rfl ⟨by u_nil, ?_⟩
  walk_nrmf addFn
  u_c stepG_seq kn_rely hK
  u_cond true kn_rely hK
  u_c stepG_seq kn_rely hK
  u_c stepG_seq kn_rely hK
  u_reg kn_rely hK
  u_op kn_rely hK
  u_op kn_rely hK
  u_c stepG_region_end kn_rely hK
  u_cond true kn_rely hK
  u_reg kn_rely hK
  u_op kn_rely hK
  u_conv H.underlying_tWgP H.room_tWg (WgLive.cell0 hK.1).choose_spec kn_rely hK
  refine Goes.stop (fun w₁ h₁ => ?_)
  replace hK := kn_rely hK h₁
  clear h₁
  refine ⟨_, stepG_markAt .releaseMerge (by simp) rfl rfl (by k_ne) rfl H.f_relMerge (x_relMerge_n L) (x_relMerge_b L) (x_relMerge_x L) (x_relMerge_f L) (by simp [Act.eval, stA]), 10, ?_⟩
  walk_nrm
  u_c stepG_region_end kn_rely hK
  u_c stepG_seq kn_rely hK
  u_reg kn_rely hK
  refine Goes.stop (fun w₁ h₁ => ?_)
  exact ⟨_, stepG_mark0 .disable (by simp) rfl rfl (by k_ne) rfl H.f_disable (x_disable_n L) (x_disable_b L) (x_disable_x L) (x_disable_f L)⟩
theorem done_stop {P : Program} (H : WgLib P L) {Wg C : Nat} {val : Value} {c : Frame} {cs : List Frame} {qt : Nat} (hcm : c.mode = .returning) (hT : QuitsD P qt 0 (G c cs)) (w : World) (hK : WgLive L.tWg Wg w ∧ Has C 0 val w) :
    Goes P false (RW L.tWg Wg C 1 0 0) DC0 (AtR0 P L.tWg Wg C 1 0 1 val) 23 (G ((baseD L.done).at ⟨#[.pointer (some ⟨Wg, 0, none⟩), undef, undef, undef], []⟩ [.code (body_done L)]) (c :: cs)) w :=
  done_quiet (k := 1) (doneHead H (k := 1) w hK) (doneN H (Own := fun _ _ => False) (Rd := fun _ _ => False) (n := 1) (Low := 0) (k := 1) hcm hT w hK)
end
end Go.DwD
end
section
namespace Go.Dw.J
open Go.RowKit Go.Dw Go.Proofs
open Go.ConcR (Payload)
set_option linter.unusedSectionVars false
set_option maxRecDepth 100000
set_option maxHeartbeats 4000000
set_option linter.unusedSimpArgs false
set_option linter.unusedVariables false
def OwnZ (lo : Nat) (w : World) (a : Option Addr) (T : TypeId) (sz cap n : Nat) (vs : List Value) : Prop := 0 < n → ∃ B, a = some ⟨B, 0, none⟩ ∧ lo ≤ B ∧ Dw.Own w B T sz cap n vs
structure RowZ (lo : Nat) (w : World) (m : MTh) : Prop where
  s : OwnZ lo w m.sa 74 5 m.sc m.t.slots.length (m.t.slots.flatMap Rt.cells)
  q : OwnZ lo w m.qa 3 1 m.qc m.t.queue.length (m.t.queue.flatMap icell)
theorem own_move {w w' : World} {B sz cap n : Nat} {T : TypeId} {vs : List Value} (h : Dw.Own w B T sz cap n vs) (hm : ∀ c : Array Value, c.size = cap * sz → w.heap[B]? = some (.cells c T (0, 0)) → w'.heap[B]? = some (.cells c T (0, 0))) : Dw.Own w' B T sz cap n vs := by
  obtain ⟨h1, cur, hb, h2, h3, h4, h5⟩ := h.blk
  exact Own.ofBlk h1 (hm cur h4 hb) h2 h3 h4 h5
theorem OwnZ.move {lo : Nat} {w w' : World} {a : Option Addr} {T : TypeId} {sz cap n : Nat} {vs : List Value} (h0 : 0 < sz) (h : OwnZ lo w a T sz cap n vs) (hm : ∀ (b : Nat) (T : TypeId) (c : Array Value), lo ≤ b → 0 < c.size → w.heap[b]? = some (.cells c T (0, 0)) → w'.heap[b]? = some (.cells c T (0, 0))) : OwnZ lo w' a T sz cap n vs := fun hn => by
  obtain ⟨B, e, h1, h2⟩ := h hn
  refine ⟨B, e, h1, own_move h2 fun c hc => hm B T c h1 ?_⟩
  obtain ⟨_, _, _, h3, _⟩ := h2.blk
  rw [hc]
  exact Nat.mul_pos (by omega) h0
theorem RowZ.move {lo : Nat} {w w' : World} {m : MTh} (h : RowZ lo w m) (hm : ∀ (b : Nat) (T : TypeId) (c : Array Value), lo ≤ b → 0 < c.size → w.heap[b]? = some (.cells c T (0, 0)) → w'.heap[b]? = some (.cells c T (0, 0))) : RowZ lo w' m := ⟨h.s.move (by omega) hm, h.q.move (by omega) hm⟩
theorem ownZ_hide {lo lo' bx sz cap n : Nat} {w : World} {a : Option Addr} {T : TypeId} {vs : List Value} (h : OwnN lo w a T sz cap n vs) (hb : bx < lo) (hl : lo' ≤ lo) : OwnZ lo' (hideB w bx) a T sz cap n vs := fun hn => by
  obtain ⟨B, e, h1, h2⟩ := h.some_ hn
  exact ⟨B, e, by omega, own_move h2 fun c _ hc => by rw [hideB_get (by omega)]; exact hc⟩
def OutV (lo : Nat) (ms : List MTh) (l : Lab) (i : Nat) (vs : List Value) (W : World) : Prop := ∃ q m : MTh, ms[i]? = some q ∧ vs = m.cells ∧ m.t = viewTh q.t l ∧ ThAt W m ∧ RowZ lo W m
def CMo (B B' : World) : Prop := ∀ b T c, 0 < c.size → RBlk B b T c → RBlk B' b T c
theorem cmo_of {B B' : World} (h : ∀ b T c, Seen B b → RBlk B b T c → RBlk B' b T c) : CMo B B' := fun b T c h0 hr => h b T c (by
  obtain ⟨fr, e⟩ := hr
  refine ⟨(Array.getElem?_eq_some_iff.1 e).1, fun e2 => ?_⟩
  rw [e] at e2
  simp [pz] at e2
  rw [e2.1] at h0; simp at h0) hr
theorem CMo.trans {B C D : World} (h : CMo B C) (k : CMo C D) : CMo B D := fun b T c h0 hr => k b T c h0 (h b T c h0 hr)
theorem cell_mono {B B' : World} (h : CMo B B') {a : Addr} {v : Value} (hv : B.cell? a = some v) : B'.cell? a = some v := by
  obtain ⟨c, T, fr, h1, h2, h3⟩ := cell_obj hv
  obtain ⟨fr', h4⟩ := h a.block T c (by have := (Array.getElem?_eq_some_iff.1 h3).1; omega) ⟨fr, h1⟩
  exact cell_of h4 h2 h3
theorem slAt_mono {B B' : World} (h : CMo B B') {a : Option Addr} {sz : Nat} {xs : List (List Value)} (hs : SlAt B a sz xs) : SlAt B' a sz xs := fun k x hk => by
  obtain ⟨b, o, ha, hr⟩ := hs k x hk
  exact ⟨b, o, ha, fun j v hj => cell_mono h (hr j v hj)⟩
theorem thAt_mono {B B' : World} (h : CMo B B') {m : MTh} (hm : ThAt B m) : ThAt B' m := ⟨slAt_mono h hm.1, slAt_mono h hm.2.1, hm.2.2⟩
theorem tabAt_mono {B B' : World} (h : CMo B B') {a : Option Addr} {ms : List MTh} (hm : TabAt B a ms) : TabAt B' a ms := ⟨slAt_mono h hm.1, fun m hi => thAt_mono h (hm.2 m hi)⟩
theorem own_hide {α : Type} {g : α → List Value} {lo bx sz cap n : Nat} {w : World} {a : Option Addr} {T : TypeId} {ys : List α} (hg : Wide g sz) (h0 : 0 < sz) (h : OwnN lo w a T sz cap n (ys.flatMap g)) (hb : bx < lo) : SlAt (hideB w bx) a sz (ys.map g) := fun k x hk => by
  obtain ⟨b, o, ha, hr⟩ := h.sl hg h0 k x hk
  refine ⟨b, o, ha, fun j v hj => ?_⟩
  rcases h.form with ⟨h1, _⟩ | ⟨B, h1, h2, _⟩
  · rw [h1] at ha; cases ha
  · rw [h1] at ha
    simp only [Option.some.injEq, Addr.mk.injEq, and_true] at ha
    have e : b ≠ bx := by omega
    have := hr j v hj
    unfold World.cell? at this ⊢
    rw [hideB_get e]; exact this
theorem own_none {α : Type} {g : α → List Value} {lo sz cap n : Nat} {w : World} {a : Option Addr} {T : TypeId} {ys : List α} (h : OwnN lo w a T sz cap n (ys.flatMap g)) : a = none → cap = 0 := fun e => by
  rcases h.form with ⟨_, _, h2, _⟩ | ⟨B, h1, _⟩
  · exact h2
  · rw [h1] at e; cases e
noncomputable def c40 : Code := match Try.f40.body with
  | some (.seq _ y) => y
  | _ => .skip
noncomputable def r40 : Code := match Try.f40.body with
  | some (.seq x _) => x
  | _ => .skip
theorem w_region {lo C n n' i bT bL bV bx : Nat} {l : Lab} {ms : List MTh} {q : MTh} {a : Option Addr} {c : Nat} {TT : TypeId} {f : Fr} {w : World} (hlo : lo ≤ bx) (hg : g0 w = 0) (hi : ms[i]? = some q) (hin : i < n) (hT : RBlk w bT 23 #[.slice a ms.length c]) (hI : w.heap[bx]? = some (.cells #[.int .i64 i] 3 (0, 0))) (hL : RBlk w bL 25 #[.int .i64 l.s, .int .i64 l.v]) (hV : RBlk w bV 23 #[.slice (some ⟨C, 0, none⟩) n n']) (hM : SlAt w a 8 (ms.map MTh.cells)) (hq : ThAt w q) (hn : q.t.slots.length ≤ 1048576 ∧ q.t.queue.length ≤ 1048576)
    (h1 : f 1 = .pointer (some ⟨bT, 0, none⟩)) (h2 : f 2 = .pointer (some ⟨bx, 0, none⟩)) (h3 : f 3 = .pointer (some ⟨bL, 0, none⟩)) (h4 : f 4 = .pointer (some ⟨bV, 0, none⟩)) :
    @Wpf (compW C n 8 i TT (OutV lo ms l i) bx (.int .i64 i) 3) Try.prog 14 (fun e F W => e = .normal ∧ g0 W = 1) c40 f w := by
  letI := compW C n 8 i TT (OutV lo ms l i) bx (.int .i64 i) 3
  obtain ⟨b, q0, o, ha, ho, hr⟩ := SlAt.at hM (map_get hi)
  have hlt : i < ms.length := (List.getElem?_eq_some_iff.1 hi).1
  have hIr : RBlk w bx 3 #[.int .i64 i] := ⟨_, hI⟩
  have hbx := hIr.lt
  subst ha
  refine wpf_drawI (m := 9) [[], [], [], [], [2, 3], [2, 3, 4], [], [2, 3, 4, 5, 6], [0, 1], [0, 1, 2, 3, 4, 5, 6, 7, 8]] (fun S F w' => ∃ (sa : Option Addr) (sc : Nat) (qa : Option Addr) (qc : Nat), w.grownBy w' none ∧ F 1 = .pointer (some ⟨bT, 0, none⟩) ∧ F 2 = .pointer (some ⟨bx, 0, none⟩) ∧ F 3 = .pointer (some ⟨bL, 0, none⟩) ∧ F 4 = .pointer (some ⟨bV, 0, none⟩) ∧ Vals S F [(0, 5, .slice (some ⟨C, 0, none⟩) n n'), (1, 6, .int .i64 i), (2, 7, .slice (some ⟨b, q0, none⟩) ms.length c), (3, 8, .int .i64 i), (4, 9, .pointer (some ⟨b, o, none⟩)), (5, 10, .agg #[.int .i64 q.t.kind, .int .i64 q.t.lab.s, .int .i64 q.t.lab.v, .int .i64 q.t.ve, .int .i64 q.t.num, .slice q.sa q.t.slots.length q.sc, .slice q.qa q.t.queue.length q.qc, .int .i64 q.t.to]), (6, 11, .agg #[.int .i64 l.s, .int .i64 l.v]), (8, 13, .pointer (some ⟨C, i * 8, none⟩))] ∧ (S 7 = true → F 12 = .agg (⟨viewTh q.t l, sa, sc, qa, qc⟩ : MTh).cells.toArray ∧ OwnN w.heap.size w' sa 74 5 sc (viewTh q.t l).slots.length ((viewTh q.t l).slots.flatMap Rt.cells) ∧ OwnN w.heap.size w' qa 3 1 qc (viewTh q.t l).queue.length ((viewTh q.t l).queue.flatMap icell))) mixed_ (by kernel_rfl) ⟨none, 0, none, 0, grown_drew _, h1, h2, h3, h4, vals_0 _, not_begun⟩ ?_ ?_
  ·
    refine preL_cons (fun S F w1 hS hbef hcl hI' => ?_) ?_
    · obtain ⟨sa, sc, qa, qc, hw, e1, e2, e3, e4, hv, c7⟩ := hI'
      refine wpo_load1 (v := .slice (some ⟨C, 0, none⟩) n n') ot_23 e4 ((hV.grown0 hw).cell rfl) rfl ?_
      exact wpo_nil ⟨sa, sc, qa, qc, hw, e1, e2, e3, e4, hv.up 0 rfl rfl rfl, c7⟩
    refine preL_cons (fun S F w1 hS hbef hcl hI' => ?_) ?_
    · obtain ⟨sa, sc, qa, qc, hw, e1, e2, e3, e4, hv, c7⟩ := hI'
      refine wpo_load1 (v := .int .i64 i) ot_3 e2 ((hIr.grown0 hw).cell rfl) rfl ?_
      exact wpo_nil ⟨sa, sc, qa, qc, hw, e1, e2, e3, e4, hv.up 1 rfl rfl rfl, c7⟩
    refine preL_cons (fun S F w1 hS hbef hcl hI' => ?_) ?_
    · obtain ⟨sa, sc, qa, qc, hw, e1, e2, e3, e4, hv, c7⟩ := hI'
      refine wpo_load1 (v := .slice (some ⟨b, q0, none⟩) ms.length c) ot_23 e1 ((hT.grown0 hw).cell rfl) rfl ?_
      exact wpo_nil ⟨sa, sc, qa, qc, hw, e1, e2, e3, e4, hv.up 2 rfl rfl rfl, fun h => undone 7 hS hcl rfl h⟩
    refine preL_cons (fun S F w1 hS hbef hcl hI' => ?_) ?_
    · obtain ⟨sa, sc, qa, qc, hw, e1, e2, e3, e4, hv, c7⟩ := hI'
      refine wpo_load1 (v := .int .i64 i) ot_3 e2 ((hIr.grown0 hw).cell rfl) rfl ?_
      exact wpo_nil ⟨sa, sc, qa, qc, hw, e1, e2, e3, e4, hv.up 3 rfl rfl rfl, fun h => undone 7 hS hcl rfl h⟩
    refine preL_cons (fun S F w1 hS hbef hcl hI' => ?_) ?_
    · obtain ⟨sa, sc, qa, qc, hw, e1, e2, e3, e4, hv, c7⟩ := hI'
      have t2 := hv.at 2 rfl (ready_of 2 hbef rfl)
      have t3 := hv.at 3 rfl (ready_of 3 hbef rfl)
      refine wpo_indexE es_23 t2 t3 rfl ho (by omega) (by omega) rfl ?_
      exact wpo_nil ⟨sa, sc, qa, qc, hw, e1, e2, e3, e4, hv.up 4 rfl rfl rfl, fun h => undone 7 hS hcl rfl h⟩
    refine preL_cons (fun S F w1 hS hbef hcl hI' => ?_) ?_
    · obtain ⟨sa, sc, qa, qc, hw, e1, e2, e3, e4, hv, c7⟩ := hI'
      have t4 := hv.at 4 rfl (ready_of 4 hbef rfl)
      refine wpo_loadn (vs := q.cells) rt_35 t4 rfl (range_low hr hw) rfl ?_
      exact wpo_nil ⟨sa, sc, qa, qc, hw, e1, e2, e3, e4, hv.up 5 rfl rfl rfl, fun h => undone 7 hS hcl rfl h⟩
    refine preL_cons (fun S F w1 hS hbef hcl hI' => ?_) ?_
    · obtain ⟨sa, sc, qa, qc, hw, e1, e2, e3, e4, hv, c7⟩ := hI'
      refine wpo_loadn (vs := [.int .i64 l.s, .int .i64 l.v]) rt_25 e3 rfl ((hL.grown0 hw).rangeL 0 2 rfl) rfl ?_
      exact wpo_nil ⟨sa, sc, qa, qc, hw, e1, e2, e3, e4, hv.up 6 rfl rfl rfl, fun h => undone 7 hS hcl rfl h⟩
    refine preL_cons (fun S F w1 hS hbef hcl hI' => ?_) ?_
    · obtain ⟨sa, sc, qa, qc, hw, e1, e2, e3, e4, hv, c7⟩ := hI'
      have t5 := hv.at 5 rfl (ready_of 5 hbef rfl)
      have t6 := hv.at 6 rfl (ready_of 6 hbef rfl)
      have gf42 : goFn Try.prog 42 = true := by kernel_rfl
      refine wpo_call (vs := [.agg #[.int .i64 q.t.kind, .int .i64 q.t.lab.s, .int .i64 q.t.lab.v, .int .i64 q.t.ve, .int .i64 q.t.num, .slice q.sa q.t.slots.length q.sc, .slice q.qa q.t.queue.length q.qc, .int .i64 q.t.to], .agg #[.int .i64 l.s, .int .i64 l.v]]) gf42 (args_cons t5 (args_cons t6 args_nil)) rfl (viewThing_c l _ q (hq.low hw) hn) ?_
      rintro _ w2 ⟨sa, sc, qa, qc, rfl, hO1, hO2, hg2⟩
      exact wpo_nil ⟨sa, sc, qa, qc, grown_trans hw hg2, e1, e2, e3, e4, hv.keep rfl, fun _ => ⟨rfl, OwnN.mono hO1 hw.size, OwnN.mono hO2 hw.size⟩⟩
    refine preL_cons (fun S F w1 hS hbef hcl hI' => ?_) preL_nil
    obtain ⟨sa, sc, qa, qc, hw, e1, e2, e3, e4, hv, c7⟩ := hI'
    have t0 := hv.at 0 rfl (ready_of 0 hbef rfl)
    have t1 := hv.at 1 rfl (ready_of 1 hbef rfl)
    refine wpo_indexAddr (o' := i * 8) es_23 t0 t1 (by omega) (by omega) (by simp) rfl ?_
    exact wpo_nil ⟨sa, sc, qa, qc, hw, e1, e2, e3, e4, hv.up 7 rfl rfl rfl, c7⟩
  · intro S F w2 hall hI'
    obtain ⟨sa, sc, qa, qc, hw2, e1, e2, e3, e4, hv, c7⟩ := hI'
    obtain ⟨e12, hO1, hO2⟩ := c7 (hall 7 (by omega))
    have t8 := hv.at 7 rfl (hall 8 (by omega))
    refine wpo_row (vs := (⟨viewTh q.t l, sa, sc, qa, qc⟩ : MTh).cells) rt_35 t8 e12 rfl (onec_mth _) hin ?_ ?_ ?_ (wpo_nil ⟨rfl, rfl⟩)
    · unfold g0; rw [hw2.tape]; exact hg
    · rw [hw2.block bx hbx (by simp)]; exact hI
    · exact ⟨q, _, hi, rfl, rfl, ⟨own_hide wide_rt (by omega) hO1 hbx, own_hide wide_int (by omega) hO2 hbx, own_none hO1, own_none hO2⟩, ownZ_hide hO1 hbx (by omega), ownZ_hide hO2 hbx (by omega)⟩
end Go.Dw.J
end
section
namespace Go.Dw.J
open Go.RowKit Go.Dw Go.Proofs
open Go.Conc (G Goes QuitsD baseD born dcall)
open Go.ConcR (Payload DC0)
open Go.ConcN (RW AtR0 WgLive Has)
set_option linter.unusedSectionVars false
set_option maxRecDepth 100000
set_option maxHeartbeats 4000000
set_option linter.unusedSimpArgs false
set_option linter.unusedVariables false
instance payV : Payload := ⟨3⟩
noncomputable def bot : Frame := { (default : Frame) with fn := Try.prog.funcs.size, defers := [], mode := .panicking [goexitEntry] }
noncomputable def body40 : Code := Try.f40.body.getD .skip
def b40 : Frame := baseD 40
def call40 (Wg bT bx bL bV : Nat) : Deferred := { target := .fn (.func 40) #[.pointer (some ⟨Wg, 0, none⟩), .pointer (some ⟨bT, 0, none⟩), .pointer (some ⟨bx, 0, none⟩), .pointer (some ⟨bL, 0, none⟩), .pointer (some ⟨bV, 0, none⟩)], args := #[] }
def tm40 (Wg bT bx bL bV : Nat) : Array Value := #[.pointer (some ⟨Wg, 0, none⟩), .pointer (some ⟨bT, 0, none⟩), .pointer (some ⟨bx, 0, none⟩), .pointer (some ⟨bL, 0, none⟩), .pointer (some ⟨bV, 0, none⟩), undef, undef, undef, undef, undef, undef, undef, undef, undef]
theorem born_step (Wg bT bx bL bV : Nat) (w : World) : stepG Try.prog false (born Try.prog (call40 Wg bT bx bL bV)) w = .go (G (b40.at ⟨tm40 Wg bT bx bL bV, []⟩ [.code body40]) [bot]) w #[] := by
  simp [born, call40, tm40, stepG, unwind, callDeferred, invoke, callFunc, Try.func40, Try.f40, seen, GStep.after, G, Frame.enter, Frame.at, b40, baseD, bot, body40]
theorem quitsTail (a : Act) (ha : a.defers = []) : QuitsD Try.prog 2 0 (G { b40.at a [] with mode := .returning } [bot]) := by
  refine QuitsD.ctl (g' := G bot []) rfl (fun w => ?_) ?_
  · simp [G, stepG, unwind, doReturn, results, Frame.at, b40, baseD, bot, Try.func40, Try.f40, seen, GStep.after, goexitEntry, ha]
  refine QuitsD.ctl (g' := { G bot [] with status := .finished }) rfl (fun w => ?_) ⟨rfl, rfl⟩
  simp [G, stepG, unwind, bot, goexitEntry, Frame.catches]
  rfl
theorem fr40 (Wg bT bx bL bV : Nat) : ∃ f : Fr, FEq 14 ⟨tm40 Wg bT bx bL bV, []⟩ f ∧ f 1 = .pointer (some ⟨bT, 0, none⟩) ∧ f 2 = .pointer (some ⟨bx, 0, none⟩) ∧ f 3 = .pointer (some ⟨bL, 0, none⟩) ∧ f 4 = .pointer (some ⟨bV, 0, none⟩) :=
  ⟨fun i => (tm40 Wg bT bx bL bV).getD i undef, ⟨rfl, rfl, fun i => rfl⟩, rfl, rfl, rfl, rfl⟩
theorem kid_works {ph : Ph} {lo n' i bT bL bV bx : Nat} {l : Lab} {ms : List MTh} {q : MTh} {a : Option Addr} {c : Nat} {w : World} (hP : ph.P = Try.prog) (hty : ph.ty = 70) (hsz : ph.sz = 8) (hO : ph.Out = OutV lo ms l) (hlo : lo ≤ bx) (hg : g0 w = 0) (hi : ms[i]? = some q) (hin : i < ph.n) (hT : RBlk w bT 23 #[.slice a ms.length c]) (hI : w.heap[bx]? = some (.cells #[.int .i64 i] 3 (0, 0))) (hL : RBlk w bL 25 #[.int .i64 l.s, .int .i64 l.v]) (hV : RBlk w bV 23 #[.slice (some ⟨ph.C, 0, none⟩) ph.n n']) (hM : SlAt w a 8 (ms.map MTh.cells)) (hq : ThAt w q) (hn : q.t.slots.length ≤ 1048576 ∧ q.t.queue.length ≤ 1048576) :
    Kid ph (born Try.prog (call40 ph.Wg bT bx bL bV)) bx (.int .i64 i) i w := by
  obtain ⟨P, Post, ty, n, C, sz, TT, Out, Wg, s0, Shun, A0, W0⟩ := ph
  simp only at hP hty hsz hO hin hV
  subst hP hty hsz hO
  unfold Kid
  letI := compW C n 8 i TT (OutV lo ms l i) bx (.int .i64 i) 3
  have hJ : Closed Try.prog (GoJ Try.prog (StopW ⟨Try.prog, Post, 70, n, C, 8, TT, OutV lo ms l, Wg, s0, Shun, A0, W0⟩ bx (.int .i64 i))) := goJ_closed trivial
  show GoJ Try.prog (StopW ⟨Try.prog, Post, 70, n, C, 8, TT, OutV lo ms l, Wg, s0, Shun, A0, W0⟩ bx (.int .i64 i)) _ w
  refine hJ.move rfl (fun w => born_step Wg bT bx bL bV w) ?_
  have e1 : body40 = .seq r40 c40 := rfl
  rw [e1]
  refine hJ.move rfl (fun w => Go.Conc.stepG_seq) ?_
  refine hJ.move rfl (fun w => Go.Conc.stepG_region (id := 0)) ?_
  refine hJ.move rfl (fun w => Go.Conc.stepG_defer (b := b40) (i := 0) (f := 41) rfl rfl (by simp [b40, baseD]) rfl) ?_
  refine hJ.move rfl (fun w => Go.Conc.stepG_region_end (b := b40)) ?_
  have e2 : Array.map (Act.eval ⟨tm40 Wg bT bx bL bV, []⟩) #[Operand.tmp 0] = #[.pointer (some ⟨Wg, 0, none⟩)] := by simp [Act.eval, tm40]
  rw [e2]
  obtain ⟨f, hf, h1, h2, h3, h4⟩ := fr40 Wg bT bx bL bV
  refine w_region (n' := n') (TT := TT) hlo hg hi hin hT hI hL hV hM hq hn h1 h2 h3 h4 _ hJ { b40 with defers := [dcall 41 #[.pointer (some ⟨Wg, 0, none⟩)]] } (by simp [b40, baseD]) [] [bot] ⟨tm40 Wg bT bx bL bV, []⟩ hf fun e a' f' A' hf' ⟨he, hg1⟩ => ?_
  subst he
  have hd := hf'.defers
  obtain ⟨tmps, ds⟩ := a'
  simp only at hd
  subst hd
  refine hJ.move rfl (fun w => stepG_end rfl) ?_
  refine hJ.move rfl (fun w => Go.Conc.stepG_unwind_enter (b := b40) (a := ⟨tmps, [dcall 41 #[.pointer (some ⟨Wg, 0, none⟩)]]⟩) (ds := []) (f := 41) rfl Try.func41 (by kernel_rfl) rfl) ?_
  refine goJ_stop ⟨hg1, rfl, fun w hw => ⟨23, ?_⟩⟩
  exact Go.DwD.done_stop wgLib rfl (quitsTail ⟨tmps, []⟩ rfl) w hw
end Go.Dw.J
end
section
namespace Go.Dw.J
open Go.RowKit Go.Dw Go.Proofs
open Go.Conc (G born)
open Go.ConcR (Payload mk)
set_option linter.unusedSectionVars false
set_option linter.unusedSimpArgs false
set_option linter.unusedVariables false
set_option maxRecDepth 100000
set_option maxHeartbeats 4000000
theorem stepG_go {P : Program} {main : Bool} {b : Frame} {a : Act} {k : List Item} {cs : List Frame} {w w' : World} {ops : Array Oper} {i : Nat} {rest : List Nat} {o : Oper} {d : Deferred} {f : Fn} {c : Array Value} (ho : ops[i]? = some o) (hw : Region.wanted o (yielded ops a.tmps) = true) (hk : b.kind ≠ .early)
    (hr : (execOp a.eval o).run P w = .ok (.spawn d) w') (hd : d.target = .fn f c) :
    stepG P main (G (ato b a (.inRegion ops (i :: rest) :: k)) cs) w = .spawn (G (ato b (a.put o.dst undef) (.inRegion ops rest :: k)) cs) (born P d) w' (Go.Conc.listed P b.fn a o w) := by
  have hfin : (ato b a (.inRegion ops (i :: rest) :: k)).finish undef = ato b (a.put o.dst undef) (.inRegion ops rest :: k) := by rw [finish_ato, ho]; rfl
  have hk' : (b.kind == CallKind.early) = false := by simpa using hk
  rw [stepG_oper ho hw (not_defer hr (by simp)), ← hfin]
  simp [stepG.apply, hr, G, ato, hk', GStep.after, Go.Conc.listed, born, hd]
section
variable {ph : Ph} {A : World}
theorem wpo_go {n : Nat} {ops : Array Oper} {K : Fr → World → Prop} {l : List Oper} {f : Fr} {ty : TypeId} {pos : String} {aft : Array Edge} {x : Operand} {bT bx bL bV : Nat} {val : Value} (hP : ph.P = Try.prog) (h4 : g0 A = 4) (hv : g1 A < ph.n) (hbx : A.heap[bx]? = some (.cells #[val] Payload.ety (0, 0))) (hN : ph.N0 ≤ bx)
    (hx : ev f x = .func (.func 40) #[] #[.pointer (some ⟨ph.Wg, 0, none⟩), .pointer (some ⟨bT, 0, none⟩), .pointer (some ⟨bx, 0, none⟩), .pointer (some ⟨bL, 0, none⟩), .pointer (some ⟨bV, 0, none⟩)]) (hkid : Kid ph (born Try.prog (call40 ph.Wg bT bx bL bV)) bx val (g1 A) (kidW ph.N0 bx A))
    (h : @WpO (compP ph) Try.prog n ops K l f (handW A bx (g1 A + 1))) : @WpO (compP ph) Try.prog n ops K (⟨none, .go ⟨.value x, #[], #[]⟩, ty, pos, aft, none⟩ :: l) f A := by
  letI := compP ph
  intro a ha
  refine Or.inl ⟨by simp [Region.wanted], Or.inr ⟨fun v A' => A' = handW A bx (g1 A + 1), ?_, fun v A' e => ⟨f, ha, by rw [e]; exact h⟩⟩⟩
  intro J hJ b hb i rest kk cs a2 o' ho hd hw hs hk'
  have e1 : execOp a.eval ⟨none, .go ⟨.value x, #[], #[]⟩, ty, pos, aft, none⟩ = (pure (.spawn (call40 ph.Wg bT bx bL bV)) : Sem Next) := by
    rw [ha.eval]
    unfold execOp
    simp [resolve, hx, Deferred.ofValue, call40]
  have hr : ∀ w, (execOp a2.eval o').run Try.prog w = .ok (.spawn (call40 ph.Wg bT bx bL bV)) w := fun w => by rw [hs, e1]; rfl
  have hev : ∀ w, Go.Conc.listed Try.prog b.fn a2 o' w = #[] := fun w => by
    unfold Go.Conc.listed
    rw [hs, e1]
    simp [Go.Conc.seen_none]
  refine (hJ.extra : OkP ph J).go _ (G (ato b (a2.put o'.dst undef) (.inRegion ops rest :: kk)) cs) _ A bx val rfl h4 hv hbx hN (fun w => ?_) hkid (by rw [hd]; exact hk' undef _ rfl)
  rw [hP, stepG_go ho hw hb (hr w) rfl, hev]
end
end Go.Dw.J
end
section
namespace Go.Dw.J
open Go.RowKit Go.Dw Go.Proofs
open Go.Conc (G born)
open Go.ConcR (Payload mk)
set_option linter.unusedSectionVars false
set_option linter.unusedSimpArgs false
set_option linter.unusedVariables false
set_option maxRecDepth 100000
set_option maxHeartbeats 4000000
theorem vzt_3 : zeroTy Try.prog 3 = some (.int .i64 0) := by kernel_rfl
theorem vun_23 : (match Try.prog.underlying 23 with | some (.slice _) => true | _ => false) = true := by kernel_rfl
theorem vgf_39 : goFn Try.prog 39 = true := by kernel_rfl
theorem vgf_43 : goFn Try.prog 43 = true := by kernel_rfl
structure VFact (ms : List MTh) (l : Lab) (a : Option Addr) (c C bT bL bV : Nat) (B : World) : Prop where
  hT : RBlk B bT 23 #[.slice a ms.length c]
  hL : RBlk B bL 25 #[.int .i64 l.s, .int .i64 l.v]
  hV : RBlk B bV 23 #[.slice (some ⟨C, 0, none⟩) ms.length ms.length]
  hM : TabAt B a ms
theorem VFact.mono {ms : List MTh} {l : Lab} {a : Option Addr} {c C bT bL bV : Nat} {B B' : World} (h : VFact ms l a c C bT bL bV B) (hm : CMo B B') : VFact ms l a c C bT bL bV B' :=
  ⟨hm _ _ _ (by simp) h.hT, hm _ _ _ (by simp) h.hL, hm _ _ _ (by simp) h.hV, tabAt_mono hm h.hM⟩
theorem cmo_low {B B' : World} {N : Nat} (hs : B.heap.size ≤ N) (h : ∀ b, b < N → B'.heap[b]? = B.heap[b]?) : CMo B B' := fun b T c _ ⟨fr, e⟩ => ⟨fr, (h b (Nat.lt_of_lt_of_le (Array.getElem?_eq_some_iff.1 e).1 hs)).trans e⟩
noncomputable def body12 : Code := Try.f12.body.getD .skip
noncomputable def rest12 : Code := match body12 with
  | .seq _ (.seq _ (.seq _ (.seq _ x))) => x
  | _ => .skip
theorem view_rest {ph : Ph} {lo : Nat} {ms : List MTh} {l : Lab} {a : Option Addr} {c bT bL bV : Nat} {f : Fr} (hP : ph.P = Try.prog) (hty : ph.ty = 70) (hsz : ph.sz = 8) (hO : ph.Out = OutV lo ms l) (hlo : lo ≤ ph.Wg) (hn : ph.n = ms.length) (hn2 : ms.length ≤ 1048576) (hlen : TabLen ms) (hF : VFact ms l a c ph.C bT bL bV (startW ph.A0 ph.C)) (hs0 : ph.A0.heap.size = ph.Wg)
    (h2 : f 2 = .pointer (some ⟨bT, 0, none⟩)) (h3 : f 3 = .pointer (some ⟨bL, 0, none⟩)) (h5 : f 5 = .pointer (some ⟨bV, 0, none⟩)) (h6 : f 6 = .pointer (some ⟨ph.Wg, 0, none⟩)) (hVA : ∀ B w, Fin ph B w → RBlk B bV 23 #[.slice (some ⟨ph.C, 0, none⟩) ms.length ms.length]) :
    @Wpf (compP ph) Try.prog 31 (fun e F B => e = .ret ∧ F 4 = .slice (some ⟨ph.C, 0, none⟩) ms.length ms.length ∧ ∃ w, Fin ph B w) rest12 f (startW ph.A0 ph.C) := by
  letI := compP ph
  have hN31 : ph.n < 2147483648 := by omega
  have hN0 : (startW ph.A0 ph.C).heap.size = ph.N0 := by rw [start_size, hs0]; rfl
  have hWpz : (startW ph.A0 ph.C).heap[ph.Wg]? = some pz := by rw [← hs0]; exact start_last
  have hWn : ¬ Seen (startW ph.A0 ph.C) ph.Wg := fun h => h.2 hWpz
  have hni : (ph.n : Int) = (ms.length : Int) := by rw [hn]
  refine wpf_seq_region ?_
  refine wpo_load1 (v := .slice a ms.length c) ot_23 h2 (hF.hT.cell rfl) rfl ?_
  refine wpo_len vun_23 rfl rfl ?_
  refine wpo_call (vs := [.pointer (some ⟨ph.Wg, 0, none⟩), .int .i64 (ph.n : Int)]) vgf_39 (args_cons h6 (args_cons (by rw [hni]; rfl) args_nil)) rfl (add_c (ph := ph) rfl hWn hN31) ?_
  rintro _ _ ⟨rfl, rfl⟩
  refine wpo_nil ?_
  refine wpf_seq (wpf_seq_region ?_)
  refine wpo_load1 (v := .slice a ms.length c) ot_23 h2 (hF.hT.cell rfl) rfl ?_
  refine wpo_len vun_23 rfl rfl ?_
  refine wpo_move (v := .int .i64 ((0 : Nat) : Int)) rfl rfl (wpo_nil ?_)
  refine wpf_block ?_
  refine wpf_loopN (fun m F B => ∃ j : Nat, j + m = ms.length ∧ g0 B = 4 ∧ g1 B = j ∧ ph.N0 ≤ B.heap.size ∧ (∀ b, b < ph.N0 → B.heap[b]? = (startW ph.A0 ph.C).heap[b]?) ∧ F 2 = .pointer (some ⟨bT, 0, none⟩) ∧ F 3 = .pointer (some ⟨bL, 0, none⟩) ∧ F 5 = .pointer (some ⟨bV, 0, none⟩) ∧ F 6 = .pointer (some ⟨ph.Wg, 0, none⟩) ∧ F 23 = .int .i64 (ms.length : Int) ∧ F 24 = .int .i64 (j : Int)) ms.length
    ⟨0, by omega, rfl, rfl, Nat.le_of_eq hN0.symm, fun b _ => rfl, h2, h3, h5, h6, rfl, rfl⟩ fun m F B ⟨j, hjm, hg0, hg1, hsz2, hlow, e2, e3, e5, e6, e23, e24⟩ => ?_
  have hFB : VFact ms l a c ph.C bT bL bV B := hF.mono (cmo_low (Nat.le_of_eq hN0) hlow)
  refine wpf_seq_region ?_
  by_cases hj : j < ms.length
  · refine wpo_lss (q := true) e24 e23 (by simp; omega) rfl (wpo_nil ?_)
    refine wpf_seq (wpf_condt rfl rfl (wpf_skip ?_))
    refine wpf_seq (wpf_block (wpf_seq_region ?_))
    refine wpo_move (v := .int .i64 (j : Int)) e24 rfl ?_
    refine wpo_alloc (cs := #[.int .i64 0]) vzt_3 rfl rfl ?_
    intro bx B1 hN
    refine wpo_store1 (v := .int .i64 (j : Int)) (cs' := #[.int .i64 (j : Int)]) ot_3 rfl rfl rfl hN.blk (Nat.le_of_ble_eq_true rfl) rfl ?_
    intro B2 hS
    have hbxN : ph.N0 ≤ bx := Nat.le_trans hsz2 hN.ge
    have hlow2 : ∀ b, b < ph.N0 → B2.heap[b]? = (startW ph.A0 ph.C).heap[b]? := fun b hb => by
      rw [hS.grw.block b (Nat.lt_of_lt_of_le hb (Nat.le_trans hsz2 hN.grw.size)) (by simp; omega), hN.grw.block b (Nat.lt_of_lt_of_le hb hsz2) (by simp), hlow b hb]
    have ht2 : B2.tape = B.tape := hS.grw.tape.trans hN.grw.tape
    have hg02 : g0 B2 = 4 := by unfold g0; rw [ht2]; exact hg0
    have hg12 : g1 B2 = j := by unfold g1; rw [ht2]; exact hg1
    have hsB2 : ph.N0 ≤ B2.heap.size := Nat.le_trans hsz2 (Nat.le_trans hN.grw.size hS.grw.size)
    have hbx : B2.heap[bx]? = some (.cells #[.int .i64 (j : Int)] Payload.ety (0, 0)) := hS.blk
    refine wpo_nil (wpf_region ?_)
    refine wpo_makeFunc (vs := [.pointer (some ⟨ph.Wg, 0, none⟩), .pointer (some ⟨bT, 0, none⟩), .pointer (some ⟨bx, 0, none⟩), .pointer (some ⟨bL, 0, none⟩), .pointer (some ⟨bV, 0, none⟩)]) (args_cons e6 (args_cons e2 (args_cons rfl (args_cons e3 (args_cons e5 args_nil))))) rfl ?_
    have hFk : VFact ms l a c ph.C bT bL bV (kidW ph.N0 bx B2) := hF.mono (cmo_low (Nat.le_of_eq hN0) fun b hb => (kidW_at (.inl hb)).trans (hlow2 b hb))
    obtain ⟨q, hq⟩ := get_lt hj
    refine wpo_go (ph := ph) (bT := bT) (bx := bx) (bL := bL) (bV := bV) (val := .int .i64 (j : Int)) hP hg02 (by omega) hbx hbxN rfl ?_ ?_
    · rw [hg12]
      exact kid_works (q := q) (n' := ms.length) hP hty hsz hO (by unfold Ph.N0 at hbxN; omega) rfl hq (by omega) hFk.hT ((kidW_at (.inr rfl)).trans hbx) hFk.hL (by rw [hn]; exact hFk.hV) hFk.hM.1 (hFk.hM.th hq) (hlen.at hq)
    · refine wpo_nil (wpf_region ?_)
      refine wpo_add (c := ((j + 1 : Nat) : Int)) e24 rfl (by omega) (by omega) (by omega) rfl ?_
      refine wpo_move (v := .int .i64 ((j + 1 : Nat) : Int)) rfl rfl (wpo_nil ?_)
      refine ⟨m - 1, by omega, j + 1, by omega, rfl, by rw [hg12]; rfl, by show _ ≤ (B2.heap.setIfInBounds bx pz).size; simpa using hsB2, fun b hb => ?_, e2, e3, e5, e6, e23, rfl⟩
      exact (hideB_get (by omega)).trans (hlow2 b hb)
  · refine wpo_lss (q := false) e24 e23 (by simp; omega) rfl (wpo_nil ?_)
    refine wpf_seq (wpf_condf rfl rfl (wpf_exit ?_))
    have hjn : j = ms.length := by omega
    have hWB : ¬ Seen B ph.Wg := fun h => h.2 ((hlow ph.Wg (by unfold Ph.N0; omega)).trans hWpz)
    simp only [thn, blk, ↓reduceIte]
    refine wpf_seq_region ?_
    refine wpo_call (vs := [.pointer (some ⟨ph.Wg, 0, none⟩)]) vgf_43 (args_cons e6 args_nil) rfl (wait_c (ph := ph) hP hg0 (by rw [hg1, hjn, hn]) hWB hN31) ?_
    rintro _ B' ⟨rfl, w, hFin⟩
    refine wpo_nil (wpf_seq_region ?_)
    refine wpo_load1 (v := .slice (some ⟨ph.C, 0, none⟩) ms.length ms.length) ot_23 e5 ((hVA B' w hFin).cell rfl) rfl ?_
    refine wpo_assign (v := .slice (some ⟨ph.C, 0, none⟩) ms.length ms.length) rfl rfl (wpo_nil (wpf_ret ?_))
    exact ⟨rfl, rfl, w, hFin⟩
end Go.Dw.J
end
section
namespace Go.Dw.J
open Go.RowKit Go.Dw Go.Proofs
open Go.Conc (G born)
open Go.ConcR (Payload wgBlock mk)
set_option linter.unusedSectionVars false
set_option linter.unusedSimpArgs false
set_option linter.unusedVariables false
set_option maxRecDepth 100000
set_option maxHeartbeats 4000000
def viewTab (ts : List Th) (l : Lab) : List Th := if (tableOk ts && labelOk l) = true then ts.map (viewTh · l) else []
def ApZ (us : List MTh) : Prop := ∀ (i j : Nat) (x y : MTh), us[i]? = some x → us[j]? = some y → i ≠ j → (0 < x.t.slots.length → 0 < y.t.slots.length → x.sa ≠ y.sa) ∧ (0 < x.t.queue.length → 0 < y.t.queue.length → x.qa ≠ y.qa)
structure TabZ (lo : Nat) (w : World) (a : Option Addr) (us : List MTh) : Prop where
  tab : 0 < us.length → ∃ C, a = some ⟨C, 0, none⟩ ∧ lo ≤ C ∧ Blk w C 35 (us.flatMap MTh.cells).toArray
  row : ∀ m ∈ us, RowZ lo w m
  ap : ApZ us
theorem TabZ.mono {lo lo' : Nat} {w : World} {a : Option Addr} {us : List MTh} (h : TabZ lo w a us) (hl : lo' ≤ lo) : TabZ lo' w a us :=
  ⟨fun hn => let ⟨C, e, h1, h2⟩ := h.tab hn; ⟨C, e, Nat.le_trans hl h1, h2⟩, fun m hm => ⟨fun hn => let ⟨B, e, h1, h2⟩ := (h.row m hm).s hn; ⟨B, e, Nat.le_trans hl h1, h2⟩, fun hn => let ⟨B, e, h1, h2⟩ := (h.row m hm).q hn; ⟨B, e, Nat.le_trans hl h1, h2⟩⟩, h.ap⟩
def ViewR (ms : List MTh) (l : Lab) (w : World) (v : Value) (B : World) : Prop := ∃ (us : List MTh) (a' : Option Addr) (c' : Nat), v = .slice a' us.length c' ∧ tabT us = viewTab (tabT ms) l ∧ TabAt B a' us ∧ (a' = none → c' = 0) ∧ TabZ w.heap.size B a' us ∧ w.grownBy B none
theorem rows_pick {P : Nat → List Value → MTh → Prop} : ∀ (vss : List (List Value)) (o : Nat), (∀ i vs, vss[i]? = some vs → ∃ m, P (o + i) vs m) → ∃ us : List MTh, us.length = vss.length ∧ ∀ i u, us[i]? = some u → ∃ vs, vss[i]? = some vs ∧ P (o + i) vs u
  | [], _, _ => ⟨[], rfl, fun i u h => by simp at h⟩
  | vs :: vss, o, h => by
    obtain ⟨m, hm⟩ := h 0 vs rfl
    obtain ⟨us, h1, h2⟩ := rows_pick vss (o + 1) fun i v hv => by
      obtain ⟨m, hm⟩ := h (i + 1) v hv
      exact ⟨m, by rw [show o + 1 + i = o + (i + 1) by omega]; exact hm⟩
    refine ⟨m :: us, by simp [h1], fun i u hu => ?_⟩
    cases i with
    | zero => simp at hu; subst hu; exact ⟨vs, rfl, hm⟩
    | succ i =>
      obtain ⟨v, h3, h4⟩ := h2 i u (by simpa using hu)
      exact ⟨v, by simpa using h3, by rw [show o + (i + 1) = o + 1 + i by omega]; exact h4⟩
theorem own_seen {w : World} {B sz cap n : Nat} {T : TypeId} {vs : List Value} (h : Dw.Own w B T sz cap n vs) (hn : 0 < n) (h0 : 0 < sz) : Seen w B := by
  obtain ⟨_, cur, hb, h3, _, h4, _⟩ := h.blk
  have hs : 0 < cur.size := by rw [h4]; exact Nat.mul_pos (by omega) h0
  refine ⟨h.lt, fun e => ?_⟩
  have e2 := (show w.heap[B]? = some (.cells cur T (0, 0)) from hb).symm.trans e
  simp [pz] at e2
  rw [e2.1] at hs; simp at hs
theorem view_rows {lo : Nat} {ms : List MTh} {l : Lab} {C : Nat} {B : World} {vss : List (List Value)} {R : Nat → World} (hl : vss.length = ms.length) (h : ∀ i vs, vss[i]? = some vs → vs.length = 8 ∧ OutV lo ms l i vs (R i) ∧ (∀ b T c, Seen (R i) b → RBlk (R i) b T c → RBlk B b T c) ∧ (∀ (b : Nat) (T : TypeId) (c : Array Value), lo ≤ b → 0 < c.size → (R i).heap[b]? = some (.cells c T (0, 0)) → B.heap[b]? = some (.cells c T (0, 0)))) (hap : ∀ i j b, i < ms.length → j < ms.length → i ≠ j → Seen (R i) b → Seen (R j) b → b < lo) (hC : ms.length ≠ 0 → B.heap[C]? = some (.cells vss.flatten.toArray 35 (0, 0))) :
    ∃ us : List MTh, us.length = ms.length ∧ tabT us = (tabT ms).map (viewTh · l) ∧ TabAt B (some ⟨C, 0, none⟩) us ∧ ∀ lo', lo' ≤ C → lo' ≤ lo → TabZ lo' B (some ⟨C, 0, none⟩) us := by
  obtain ⟨us, h1, h2⟩ := rows_pick (P := fun i vs m => ∃ q, ms[i]? = some q ∧ vs = m.cells ∧ m.t = viewTh q.t l ∧ ThAt B m ∧ RowZ lo B m ∧ (0 < m.t.slots.length → ∃ b, m.sa = some ⟨b, 0, none⟩ ∧ lo ≤ b ∧ Seen (R i) b) ∧ (0 < m.t.queue.length → ∃ b, m.qa = some ⟨b, 0, none⟩ ∧ lo ≤ b ∧ Seen (R i) b)) vss 0 fun i vs hv => by
    obtain ⟨_, ⟨q, m, h3, h4, h5, h6, h7⟩, h8, h9⟩ := h i vs hv
    refine ⟨m, q, by simpa using h3, h4, h5, thAt_mono (cmo_of h8) h6, h7.move h9, fun hn => ?_, fun hn => ?_⟩
    · obtain ⟨b, k1, k2, k3⟩ := h7.s hn
      exact ⟨b, k1, k2, by rw [Nat.zero_add]; exact own_seen k3 hn (by omega)⟩
    · obtain ⟨b, k1, k2, k3⟩ := h7.q hn
      exact ⟨b, k1, k2, by rw [Nat.zero_add]; exact own_seen k3 hn (by omega)⟩
  have hlen : us.length = ms.length := h1.trans hl
  have hvs : vss = us.map MTh.cells := by
    apply List.ext_getElem?
    intro i
    rw [List.getElem?_map]
    cases hu : us[i]? with
    | none =>
      have := List.getElem?_eq_none_iff.1 hu
      rw [List.getElem?_eq_none (by omega)]; rfl
    | some u =>
      obtain ⟨vs, h3, q, _, h4, _⟩ := h2 i u hu
      rw [h3, h4]; rfl
  have hcell : ms.length ≠ 0 → B.heap[C]? = some (.cells (us.flatMap MTh.cells).toArray 35 (0, 0)) := fun h0 => by
    have := hC h0
    rw [hvs, ← List.flatMap_def] at this
    exact this
  have hz : TabZ (min lo C) B (some ⟨C, 0, none⟩) us := by
    refine ⟨fun h0 => ⟨C, rfl, Nat.min_le_right _ _, hcell (by omega)⟩, fun m hm => ?_, fun i j x y hx hy hne => ?_⟩
    · obtain ⟨i, hi⟩ := List.mem_iff_getElem?.1 hm
      obtain ⟨vs, _, q, _, _, _, _, h4, _⟩ := h2 i m hi
      exact ⟨fun hn => let ⟨b, e, k1, k2⟩ := h4.s hn; ⟨b, e, Nat.le_trans (Nat.min_le_left _ _) k1, k2⟩, fun hn => let ⟨b, e, k1, k2⟩ := h4.q hn; ⟨b, e, Nat.le_trans (Nat.min_le_left _ _) k1, k2⟩⟩
    · have hi : i < ms.length := by have := (List.getElem?_eq_some_iff.1 hx).1; omega
      have hj : j < ms.length := by have := (List.getElem?_eq_some_iff.1 hy).1; omega
      obtain ⟨_, _, q, _, _, _, _, _, hs, hq⟩ := h2 i x hx
      obtain ⟨_, _, q', _, _, _, _, _, hs', hq'⟩ := h2 j y hy
      refine ⟨fun n1 n2 e => ?_, fun n1 n2 e => ?_⟩
      · obtain ⟨b, e1, k1, k2⟩ := hs n1
        obtain ⟨b', e2, _, k3⟩ := hs' n2
        rw [e1, e2] at e
        cases e
        rw [Nat.zero_add] at k2 k3
        have := hap i j b hi hj hne k2 k3
        omega
      · obtain ⟨b, e1, k1, k2⟩ := hq n1
        obtain ⟨b', e2, _, k3⟩ := hq' n2
        rw [e1, e2] at e
        cases e
        rw [Nat.zero_add] at k2 k3
        have := hap i j b hi hj hne k2 k3
        omega
  refine ⟨us, hlen, ?_, ⟨?_, fun m hm => ?_⟩, fun lo' hl1 hl2 => hz.mono (by omega)⟩
  · apply List.ext_getElem?
    intro i
    unfold tabT
    rw [List.getElem?_map, List.getElem?_map, List.getElem?_map]
    cases hu : us[i]? with
    | none =>
      have := List.getElem?_eq_none_iff.1 hu
      rw [List.getElem?_eq_none (l := ms) (by omega)]; rfl
    | some u =>
      obtain ⟨vs, _, q, h3, _, h4, _⟩ := h2 i u hu
      rw [Nat.zero_add] at h3
      rw [h3]
      simp [h4]
  · rcases Nat.eq_zero_or_pos ms.length with h0 | h0
    · have : us = [] := List.eq_nil_of_length_eq_zero (by omega)
      subst this
      intro k x hk; simp at hk
    · refine rows_sl (g := MTh.cells) (T := 35) wide_mth ?_
      exact hcell (by omega)
  · obtain ⟨i, hi⟩ := List.mem_iff_getElem?.1 hm
    obtain ⟨vs, _, q, _, _, _, h4, _⟩ := h2 i m hi
    exact h4
structure VPre (w : World) (ms : List MTh) (l : Lab) (a : Option Addr) (c C bT bL bV : Nat) (B : World) : Prop where
  hM : TabAt w a ms
  grw : w.grownBy B none
  geC : w.heap.size ≤ C
  blk : Blk B C 35 ((List.replicate ms.length MTh.zero).flatMap MTh.cells).toArray
  hT : RBlk B bT 23 #[.slice a ms.length c]
  hL : RBlk B bL 25 #[.int .i64 l.s, .int .i64 l.v]
  hV : RBlk B bV 23 #[.slice (some ⟨C, 0, none⟩) ms.length ms.length]
  neT : bT ≠ C
  neL : bL ≠ C
  neV : bV ≠ C
theorem start_rblk {A0 : World} {C b : Nat} {T : TypeId} {c : Array Value} (h : RBlk A0 b T c) (h0 : 0 < c.size) (hne : b ≠ C) : RBlk (startW A0 C) b T c := by
  obtain ⟨fr, e⟩ := h
  refine ⟨(0, c.size), ?_⟩
  rw [start_get e, if_neg hne]
  simp [roO, ro, show c.size ≠ 0 by omega]
theorem pad_rblk {A : World} {N b : Nat} {T : TypeId} {c : Array Value} (h : RBlk A b T c) : RBlk (padW A N) b T c := by
  obtain ⟨fr, e⟩ := h
  exact ⟨fr, by rw [(padW_ext A N).get (Array.getElem?_eq_some_iff.1 e).1]; exact e⟩
theorem VPre.fact {w : World} {ms : List MTh} {l : Lab} {a : Option Addr} {c C bT bL bV N : Nat} {B : World} (h : VPre w ms l a c C bT bL bV B) : VFact ms l a c C bT bL bV (startW (padW B N) C) := by
  refine ⟨start_rblk (pad_rblk h.hT) (by simp) h.neT, start_rblk (pad_rblk h.hL) (by simp) h.neL, start_rblk (pad_rblk h.hV) (by simp) h.neV, tabAt_mono (fun b T c h0 hr => ?_) h.hM⟩
  exact start_rblk (pad_rblk (hr.grown0 h.grw)) h0 (by have := hr.lt; have := h.geC; omega)
theorem vz_70 : zeroTy Try.prog 70 = some (.agg #[.int .u64 0, .int .u32 0]) := by kernel_rfl
theorem alloc_run (ρ : Operand → Value) (w : World) (ty : TypeId) (pos : String) (aft : Array Edge) : (execOp ρ ⟨some 6, .alloc 70, ty, pos, aft, none⟩).run Try.prog w = .ok (.value (.pointer (some ⟨w.heap.size, 0, none⟩))) (w.alloc (.cells #[.int .u64 0, .int .u32 0] 70)) := by
  simp [execOp, Instr.alloc, run_zero vz_70, newVar, newRow, newObj, Value.cells]; rfl
theorem alloc_events (ρ : Operand → Value) (w : World) (ty : TypeId) (pos : String) (aft : Array Edge) : (execOp ρ ⟨some 6, .alloc 70, ty, pos, aft, none⟩).events Try.prog w #[] = #[] := by
  simp [execOp, Instr.alloc, run_zero vz_70, newVar, newRow, newObj, Value.cells]; rfl
noncomputable def r12 : Code := match body12 with
  | .seq _ (.seq _ (.seq _ (.seq x _))) => x
  | _ => .skip
def OKB [KeepD] (w : World) (ms : List MTh) (l : Lab) (J : Goroutine → World → Prop) : Prop :=
  ∀ (b : Frame) (k : List Item) (cs : List Frame) (a : Act) (f : Fr) (B : World) (ad : Option Addr) (c C bT bL bV : Nat), b.kind ≠ .early → FEq 31 a f → VPre w ms l ad c C bT bL bV B → KeepD.B0 ≤ w.heap.size → w.tape = mkT [] → TabLen ms → ms.length ≤ 1048576 → f 2 = .pointer (some ⟨bT, 0, none⟩) → f 3 = .pointer (some ⟨bL, 0, none⟩) → f 5 = .pointer (some ⟨bV, 0, none⟩) →
    (∀ (a' : Act) (f' : Fr) (B' : World), FEq 31 a' f' → (∃ us : List MTh, f' 4 = .slice (some ⟨C, 0, none⟩) us.length us.length ∧ tabT us = (tabT ms).map (viewTh · l) ∧ TabAt B' (some ⟨C, 0, none⟩) us ∧ TabZ w.heap.size B' (some ⟨C, 0, none⟩) us ∧ w.grownBy B' none) → contJ J b k cs .ret a' B') →
    J (G (ato b a (.code (.seq r12 rest12) :: k)) cs) B
theorem okb [KeepD] {Post : Value → World → Prop} {w : World} {ms : List MTh} {l : Lab} : OKB w ms l (Bes Try.prog Post) := by
  intro b k cs a f B ad c C bT bL bV hb hf hV hB0 ht hlen hn2 h2 h3 h5 hc
  have hJB := bes_closed (P := Try.prog) (Post := Post) (fun _ => True) trivial
  refine @Closed.move (comp0 fun _ => True) _ _ _ hJB _ _ rfl (fun w => stepG_seq) ?_
  have er : ∃ o : Oper, r12 = .region 4 #[o] false ∧ o = ⟨some 6, .alloc 70, o.type, o.pos, o.after, none⟩ := ⟨_, rfl, rfl⟩
  obtain ⟨o, er, eo⟩ := er
  rw [er]
  refine @Closed.move (comp0 fun _ => True) _ _ _ hJB _ _ rfl (fun w => stepG_region) ?_
  have hCb := hV.blk
  have hsC : ((List.replicate ms.length MTh.zero).flatMap MTh.cells).toArray.size = ms.length * 8 := by
    rw [List.size_toArray, rows_len wide_mth, List.length_replicate]
  have hseen : Seen B C := ⟨hCb.lt, fun e => by
    have e2 : B.heap[C]? = some (.cells ((List.replicate ms.length MTh.zero).flatMap MTh.cells).toArray 35 (0, 0)) := hCb
    rw [e2] at e
    simp [pz] at e⟩
  have hBt : B.tape = mkT [] := hV.grw.tape.trans ht
  refine bes_phase (P := Try.prog) (Post := Post) (A := B) rfl (ty := 70) (n := ms.length) (C := C) (sz := 8) (TT := 35) (Out := OutV B.heap.size ms l) (fun Wg => G (ato b (a.put (some 6) (.pointer (some ⟨Wg, 0, none⟩))) (.inRegion #[o] [] :: .code rest12 :: k)) cs) (fun w1 => ?_) hseen (Nat.le_trans hB0 hV.geC) (fun hn0 => ⟨_, hCb, hsC, by rw [hsC]; omega⟩) (fun Wg s0 Shun W0 hWg hG hK => ?_)
  · have hr : (execOp a.eval o).run Try.prog w1 = .ok (.value (.pointer (some ⟨w1.heap.size, 0, none⟩))) (w1.alloc (.cells #[.int .u64 0, .int .u32 0] 70)) := by rw [eo]; exact alloc_run _ _ _ _ _
    have he : Go.Conc.listed Try.prog b.fn a o w1 = #[] := by
      unfold Go.Conc.listed
      rw [eo, alloc_events]
      exact Go.Conc.seen_none _ _
    have := stepG_value (P := Try.prog) (main := true) (b := b) (a := a) (k := .code rest12 :: k) (cs := cs) (ops := #[o]) (i := 0) (rest := []) (o := o) rfl (by rw [eo]; simp [Region.wanted]) hb hr
    rw [he] at this
    rw [show o.dst = some 6 by rw [eo]] at this
    exact this
  · generalize hph : (⟨Try.prog, Post, 70, ms.length, C, 8, 35, OutV B.heap.size ms l, Wg, s0, Shun, padW B Wg, W0⟩ : Ph) = ph at hG hK ⊢
    have eP : ph.P = Try.prog := by rw [← hph]
    have ePo : ph.Post = Post := by rw [← hph]
    have en : ph.n = ms.length := by rw [← hph]
    have eC : ph.C = C := by rw [← hph]
    have eW : ph.Wg = Wg := by rw [← hph]
    have eA : ph.A0 = padW B Wg := by rw [← hph]
    have esz : ph.sz = 8 := by rw [← hph]
    have eTT : ph.TT = 35 := by rw [← hph]
    have eO : ph.Out = OutV B.heap.size ms l := by rw [← hph]
    have hJ : @Closed (compP ph) Try.prog (JP ph) := by
      have := jp_closed hG hK (by rw [en]; omega)
      rwa [eP] at this
    have hlow : ∀ B' w1, Fin ph B' w1 → ∀ b', b' < B.heap.size → b' ≠ C → B'.heap[b']? = B.heap[b']? := fun B' w1 hF b' hb' hne => by
      rw [hF.low b' (by rw [eW]; omega) (by rw [eC]; exact hne), eA, (padW_ext B Wg).get hb']
    refine @Closed.move (compP ph) _ _ _ hJ _ _ rfl (fun w => stepG_region_end) ?_
    have hF := hV.fact (N := Wg)
    rw [← eA, ← eC] at hF
    have := view_rest (ph := ph) (f := up f 6 (.pointer (some ⟨Wg, 0, none⟩))) eP (by rw [← hph]) esz eO (by rw [eW]; exact hWg) en hn2 hlen hF (by rw [eA, eW]; exact padW_size hWg) h2 h3 h5 (by rw [eW]; rfl) (fun B' w1 hFn => ?_) (JP ph) hJ b hb k cs _ (hf.put (d := 6) rfl (.pointer (some ⟨Wg, 0, none⟩))) fun e a' f' B' hf' ⟨he, e4, w1, hFn⟩ => ?_
    · rw [eA, eC] at this
      exact this
    · obtain ⟨fr, e⟩ := hV.hV
      rw [eC]
      exact ⟨fr, (hlow B' w1 hFn bV (Array.getElem?_eq_some_iff.1 e).1 hV.neV).trans e⟩
    · subst he
      obtain ⟨vss, R, hv1, hv2, hv4, hv3⟩ := hFn.rows
      rw [eC, eTT, en] at hv3
      rw [esz, eO] at hv2
      rw [en] at hv4
      have hA0 : ∀ b, Seen ph.A0 b → b < B.heap.size := fun b hs => by
        rw [eA] at hs
        exact ((Seen.ext (padW_ext B Wg)).1 hs).1
      obtain ⟨us, hu1, hu2, hu3, hu4⟩ := view_rows (lo := B.heap.size) (R := R) (hv1.trans en) (fun i vs hv => ⟨(hv2 i vs hv).1, (hv2 i vs hv).2.1, (hv2 i vs hv).2.2.1, fun b T c hb h0 hR => (hv2 i vs hv).2.2.2 b T c (fun hs => by have := hA0 b hs; omega) h0 hR⟩) (fun i j b hi hj hne h1 h2 => hA0 b (hv4 i j b hi hj hne h1 h2)) hv3
      have hext := padW_ext B Wg
      have hgr : w.grownBy B' none := by
        refine ⟨?_, hFn.tape.trans ht.symm, ?_, ?_, fun b' hb' _ => ?_⟩
        · rw [hFn.os, eA]; exact hV.grw.os
        · rw [hFn.output, eA]; exact hV.grw.output
        · have h1 := hFn.size
          have h2 := hV.grw.size
          rw [eW] at h1
          omega
        · have h1 := hV.grw.size
          have h2 := hV.geC
          rw [hlow B' w1 hFn b' (by omega) (by omega)]
          exact hV.grw.block b' hb' (by simp)
      intro k2
      refine ⟨fun _ => ?_, fun h => absurd (show g0 B' = 0 by unfold g0; rw [hFn.tape]; rfl) h⟩
      rw [eP, ePo]
      exact hc a' f' B' hf' ⟨us, by rw [e4, hu1, eC], hu2, hu3, hu4 _ hV.geC hV.grw.size, hgr⟩ k2
end Go.Dw.J
end
section
namespace Go.Dw.J
open Go.RowKit Go.Dw Go.Proofs
open Go.Conc (G born)
set_option linter.unusedSectionVars false
set_option linter.unusedSimpArgs false
set_option linter.unusedVariables false
set_option maxRecDepth 100000
set_option maxHeartbeats 4000000
theorem vgf_37 : goFn Try.prog 37 = true := by kernel_rfl
theorem vgf_38 : goFn Try.prog 38 = true := by kernel_rfl
theorem vzt_23 : zeroTy Try.prog 23 = some (.slice none 0 0) := by kernel_rfl
theorem view_none {ms : List MTh} {l : Lab} {w B : World} (h : (tableOk (tabT ms) && labelOk l) = false) (hg : w.grownBy B none) : ViewR ms l w (.slice none 0 0) B :=
  ⟨[], none, 0, rfl, by unfold viewTab; rw [h]; rfl, ⟨fun k x hk => by simp at hk, fun m hm => by simp at hm⟩, fun _ => rfl, ⟨fun h => absurd h (by simp), fun m hm => by simp at hm, fun i j x y hx => by simp at hx⟩, hg⟩
theorem view_c [KeepD] {w : World} {ms : List MTh} {a : Option Addr} {c : Nat} {l : Lab} (ht : w.tape = mkT []) (hB0 : KeepD.B0 ≤ w.heap.size) (hM : TabAt w a ms) (hlen : TabLen ms) (hn : ms.length ≤ 1048576) : @CallsR (comp0 (OKB w ms l)) Try.prog 12 #[.slice a ms.length c, .agg #[.int .i64 l.s, .int .i64 l.v]] w (ViewR ms l w) := by
  letI := comp0 (OKB w ms l)
  refine calls_of_wpf (n := 31) Try.func12 rfl Try.ntmps12 rfl ?_
  refine wpf_seq_region ?_
  refine wpo_box (v := .slice a ms.length c) (cs := #[.slice a ms.length c]) rfl rfl rfl ?_
  intro bT w1 hN1
  refine wpo_box (v := .agg #[.int .i64 l.s, .int .i64 l.v]) (cs := #[.int .i64 l.s, .int .i64 l.v]) rfl rfl rfl ?_
  intro bL w2 hN2
  refine wpo_assign (v := .slice none 0 0) rfl rfl (wpo_nil ?_)
  have hg2 := grown_trans hN1.grw hN2.grw
  have hT2 := hN1.blk.grown0 hN2.grw
  refine wpf_seq (wpf_seq_region ?_)
  refine wpo_load1 (v := .slice a ms.length c) ot_23 rfl (hT2.cell rfl) rfl ?_
  refine wpo_call (vs := [.slice a ms.length c]) vgf_37 (args_cons rfl args_nil) rfl (TableOk_c _ ms a c (hM.low hg2) hlen hn) ?_
  rintro _ w3 ⟨rfl, hg3⟩
  have hT3 := hT2.grown0 hg3
  have hL3 := hN2.blk.grown0 hg3
  have hgw3 := grown_trans hg2 hg3
  refine wpo_not (b' := !tableOk (tabT ms)) rfl rfl rfl ?_
  refine wpo_move (v := .bool (!tableOk (tabT ms))) rfl rfl ?_
  cases h1 : tableOk (tabT ms) with
  | false =>
    refine wpo_pass rfl rfl rfl rfl rfl ?_
    refine wpo_pass rfl rfl rfl rfl rfl ?_
    refine wpo_pass rfl rfl rfl rfl rfl ?_
    refine wpo_pickt (v := .bool true) rfl rfl rfl rfl (wpo_nil (wpf_condt rfl rfl ?_))
    refine wpf_seq_region (wpo_assign (v := .slice none 0 0) rfl rfl (wpo_nil (wpf_ret ?_)))
    exact ⟨_, res1 rfl rfl, view_none (by rw [h1]; rfl) hgw3⟩
  | true =>
    refine wpo_run rfl rfl rfl rfl ?_
    refine wpo_loadn (vs := [.int .i64 l.s, .int .i64 l.v]) rt_25 rfl rfl (hL3.rangeL 0 2 rfl) rfl ?_
    refine wpo_run rfl rfl rfl rfl ?_
    refine wpo_call (vs := [.agg #[.int .i64 l.s, .int .i64 l.v]]) vgf_38 (args_cons rfl args_nil) rfl (LabelOk_c l _) ?_
    rintro _ w4 ⟨rfl, hg4⟩
    have hT4 := hT3.grown0 hg4
    have hL4 := hL3.grown0 hg4
    have hgw4 := grown_trans hgw3 hg4
    refine wpo_run rfl rfl rfl rfl ?_
    refine wpo_not (b' := !labelOk l) rfl rfl rfl ?_
    refine wpo_pickf (v := .bool (!labelOk l)) rfl rfl rfl rfl (wpo_nil ?_)
    cases h2 : labelOk l with
    | false =>
      refine wpf_condt rfl rfl ?_
      refine wpf_seq_region (wpo_assign (v := .slice none 0 0) rfl rfl (wpo_nil (wpf_ret ?_)))
      exact ⟨_, res1 rfl rfl, view_none (by rw [h1, h2]; rfl) hgw4⟩
    | true =>
      refine wpf_condf rfl rfl (wpf_skip ?_)
      refine wpf_seq_region ?_
      refine wpo_load1 (v := .slice a ms.length c) ot_23 rfl (hT4.cell rfl) rfl ?_
      refine wpo_len vun_23 rfl rfl ?_
      refine wpo_make (g := MTh.cells) (z := MTh.zero) (c := ms.length) mk_23 rfl wide_mth (by omega) rfl rfl (by omega) (by omega) rfl ?_
      intro C w5 hN5
      refine wpo_alloc (cs := #[.slice none 0 0]) vzt_23 rfl rfl ?_
      intro bV w6 hN6
      refine wpo_store1 (v := .slice (some ⟨C, 0, none⟩) ms.length ms.length) (cs' := #[.slice (some ⟨C, 0, none⟩) ms.length ms.length]) ot_23 rfl rfl rfl hN6.blk (Nat.le_of_ble_eq_true rfl) rfl ?_
      intro w7 hS7
      refine wpo_nil ?_
      have hbTl := hT4.lt
      have hbLl := hL4.lt
      have hCl := hN5.blk.lt
      have hV6 := hN6.ge
      have hC5 := hN5.ge
      have hs5 := hN5.grw.size
      have hs4 := hgw4.size
      have h56 := hN6.grw
      have hg45 := hN5.grw
      have pre : VPre w ms l a c C bT bL bV w7 := by
        refine ⟨hM, ?_, by omega, (hN5.blk.grown0 h56).grown hS7.grw (by simp; omega), ⟨(0, 0), ((hT4.grown0 hg45).grown0 h56).grown hS7.grw (by simp; omega)⟩, ⟨(0, 0), ((hL4.grown0 hg45).grown0 h56).grown hS7.grw (by simp; omega)⟩, ⟨(0, 0), hS7.blk⟩, by omega, by omega, by omega⟩
        have hg6 := grown_trans (grown_trans hgw4 hg45) h56
        exact ⟨hS7.grw.os.trans hg6.os, hS7.grw.tape.trans hg6.tape, hS7.grw.output.trans hg6.output, Nat.le_trans hg6.size hS7.grw.size, fun b hb _ => (hS7.grw.block b (Nat.lt_of_lt_of_le hb hg6.size) (by simp; omega)).trans (hg6.block b hb (by simp))⟩
      intro J hJ b hb k cs a' ha hcont
      refine (hJ.extra : OKB w ms l J) b k cs a' _ w7 a c C bT bL bV hb ha pre hB0 ht hlen hn rfl rfl rfl fun a'' f' B' hf' ⟨us, e4, hu2, hu3, hu4, hgB⟩ => ?_
      exact hcont .ret a'' f' B' hf' ⟨_, res1 rfl e4, us, some ⟨C, 0, none⟩, us.length, rfl, by rw [hu2]; unfold viewTab; rw [h1, h2]; rfl, hu3, (fun h => by cases h), hu4, hgB⟩
def OKV [KeepD] (J : Goroutine → World → Prop) : Prop :=
  ∀ (w : World) (ms : List MTh) (a : Option Addr) (c : Nat) (l : Lab), KeepD.B0 ≤ w.heap.size → TabAt w a ms → TabLen ms → ms.length ≤ 1048576 → ∀ (cf : Frame) (cs : List Frame), (∀ v B, ViewR ms l w v B → J (G (cf.finish v) cs) B) →
    J (G (Frame.enter Try.prog 12 #[.slice a ms.length c, .agg #[.int .i64 l.s, .int .i64 l.v]] .normal) (cf :: cs)) w
theorem okv [KeepD] {Post : Value → World → Prop} : OKV (Bes Try.prog Post) := by
  intro w ms a c l hB0 hM hlen hn cf cs hk
  by_cases ht : w.tape = mkT []
  · exact view_c ht hB0 hM hlen hn _ (bes_closed (OKB w ms l) okb) cf cs hk
  · exact fun gs w' sl t q Shun I => absurd I.tape ht
class ViewRule [Comp] where
  base : Nat
  rule : ∀ (w : World) (ms : List MTh) (a : Option Addr) (c : Nat) (l : Lab), base ≤ w.heap.size → TabAt w a ms → TabLen ms → ms.length ≤ 1048576 → CallsR Try.prog 12 #[.slice a ms.length c, .agg #[.int .i64 l.s, .int .i64 l.v]] w (ViewR ms l w)
@[instance_reducible] def viewRule [KeepD] : @ViewRule (comp0 OKV) :=
  @ViewRule.mk (comp0 OKV) KeepD.B0 fun w ms a c l hB0 hM hlen hn J hJ cf cs hk => (@Closed.extra (comp0 OKV) _ _ hJ : OKV J) w ms a c l hB0 hM hlen hn cf cs hk
end Go.Dw.J
end
section
namespace Go.Dw.J
open Go.RowKit Go.Dw Go.Proofs
set_option linter.unusedSectionVars false
set_option maxRecDepth 100000
set_option maxHeartbeats 4000000
set_option linter.unusedSimpArgs false
set_option linter.unusedVariables false
theorem vgf_93 : goFn Try.prog 93 = true := by kernel_rfl
theorem vgf_92 : goFn Try.prog 92 = true := by kernel_rfl
theorem vgf_59 : goFn Try.prog 59 = true := by kernel_rfl
theorem vgf_44 : goFn Try.prog 44 = true := by kernel_rfl
theorem vgf_15 : goFn Try.prog 15 = true := by kernel_rfl
theorem vgf_16 : goFn Try.prog 16 = true := by kernel_rfl
def ViewRS (ms : List MTh) (l : Lab) (w : World) (v : Value) (B : World) : Prop := ∃ (us : List MTh) (a' : Option Addr) (c' : Nat), v = .slice a' us.length c' ∧ tabT us = viewTab (tabT ms) l ∧ TabAt B a' us ∧ (a' = none → c' = 0) ∧ w.grownBy B none
def RT (lo : Nat) (w : World) (ys : List MTh) : Prop := ∀ m ∈ ys, RowO 74 3 lo w m
section
variable {lo : Nat} {w w' : World} {ys : List MTh}
theorem RT.low (h : RT lo w ys) (hg : w.grownBy w' none) : RT lo w' ys := fun m hm => (h m hm).low hg
theorem RT.typ {B sz cap n : Nat} {us : List Value} (h : RT lo w ys) (hg : w.grownBy w' (some B)) (k : Own w B 35 sz cap n us) : RT lo w' ys := fun m hm => (h m hm).typ hg k (by decide) (by decide)
theorem RT.set {k : Nat} {z : MTh} (h : RT lo w ys) (hz : RowO 74 3 lo w z) : RT lo w (ys.set k z) := fun m hm => by
  rcases List.mem_or_eq_of_mem_set hm with h1 | h1
  · exact h m h1
  · rw [h1]; exact hz
theorem own_row {B cap k : Nat} {y : MTh} (h : Own w B 35 8 cap ys.length (ys.flatMap MTh.cells)) (hy : ys[k]? = some y) : w.rangeAt B (k * 8) y.cells := by
  obtain ⟨b, o, ha, hr⟩ := Own.sl wide_mth h k _ (map_get hy)
  simp only [Option.some.injEq, Addr.mk.injEq, and_true] at ha
  obtain ⟨rfl, rfl⟩ := ha
  simpa using hr
end
theorem _root_.Go.World.grownBy.gn0 {w w' w'' : World} {r : Option Nat} (h : w.grownBy w' r) (hg : w'.grownBy w'' none) : w.grownBy w'' r :=
  ⟨hg.os.trans h.os, hg.tape.trans h.tape, hg.output.trans h.output, Nat.le_trans h.size hg.size, fun b hb hn => (hg.block b (Nat.lt_of_lt_of_le hb h.size) (by simp)).trans (h.block b hb hn)⟩
section
variable [Comp]
theorem sThingNew_u (k to : Int) (l : Lab) (w : World) : CallsR Try.prog 93 #[.int .i64 k, .agg #[.int .i64 l.s, .int .i64 l.v], .int .i64 to] w (fun v w' => ∃ (sa : Option Addr) (sc : Nat) (qa : Option Addr) (qc : Nat) (bb : Bool), v = .tuple #[.agg (⟨thingNew k l to, sa, sc, qa, qc⟩ : MTh).cells.toArray, .bool bb] ∧ RowO 74 3 w.heap.size w' ⟨thingNew k l to, sa, sc, qa, qc⟩ ∧ w.grownBy w' none) := by
  have hz : ∀ w', RowO 74 3 w.heap.size w' ⟨Th.zero, none, 0, none, 0⟩ := fun w' => ⟨OwnN.nil, OwnN.nil⟩
  cases hk : (decide (k = 2) || decide (k = 3)) with
  | true =>
    cases hok : newOk k l to with
    | true =>
      have e : thingNew k l to = ⟨k, l, 0, 0, zeros4, [], to⟩ := by unfold thingNew newTh; rw [if_pos hok, if_pos (by unfold has4; exact hk)]
      rw [e]
      refine (sThingNew_yt k to l hk hok w).mono fun v w' ⟨S, sc, Q, qc, hv, hS, hO, hQ, hO2, _, hg⟩ => ?_
      exact ⟨_, sc, _, qc, true, hv, ⟨OwnN.of hO hS, OwnN.of hO2 hQ⟩, hg⟩
    | false =>
      have e : thingNew k l to = Th.zero := by unfold thingNew; rw [if_neg (by rw [hok]; simp)]
      rw [e]
      exact (sThingNew_yf k to l hk hok w).mono fun v w' ⟨hv, hg⟩ => ⟨none, 0, none, 0, false, hv, hz w', hg⟩
  | false =>
    cases hok : newOk k l to with
    | true =>
      have e : thingNew k l to = ⟨k, l, 0, 0, [], [], to⟩ := by unfold thingNew newTh; rw [if_pos hok, if_neg (by unfold has4; rw [hk]; simp)]
      rw [e]
      refine (sThingNew_nt k to l hk hok w).mono fun v w' ⟨S, sc, Q, qc, hv, hS, hO, hQ, hO2, _, hg⟩ => ?_
      exact ⟨_, sc, _, qc, true, hv, ⟨OwnN.of hO hS, OwnN.of hO2 hQ⟩, hg⟩
    | false =>
      have e : thingNew k l to = Th.zero := by unfold thingNew; rw [if_neg (by rw [hok]; simp)]
      rw [e]
      exact (sThingNew_nf k to l hk hok w).mono fun v w' ⟨hv, hg⟩ => ⟨none, 0, none, 0, false, hv, hz w', hg⟩
theorem l13_new {lo B0 cap k bL : Nat} {ms ys : List MTh} {y : MTh} {f : Fr} {W : World} {Q : Exit → Fr → World → Prop} {c : Code} (hc : c = (match Try.f44.body with | some (.seq _ (.seq _ (.seq (.seq _ (.block _ (.loop (.seq _ (.seq (.block _ (.seq _ (.cond _ c _))) _))))) _))) => c | _ => .skip)) (hlo : lo ≤ W.heap.size) (hy : ys[k]? = some y) (hkm : k < ms.length) (hk : k < ys.length) (hO : Own W B0 35 8 cap ys.length (ys.flatMap MTh.cells)) (hR : RT lo W ys)
    (e5 : f 5 = .slice (some ⟨B0, 0, none⟩) ms.length cap) (e6 : f 6 = .int .i64 (k : Int)) (e3 : f 3 = .pointer (some ⟨bL, 0, none⟩)) (hQ : ∀ F w' z, z.t = thingNew y.t.kind y.t.lab y.t.to → W.grownBy w' (some B0) → F 5 = .slice (some ⟨B0, 0, none⟩) ms.length cap → F 6 = .int .i64 (k : Int) → F 3 = .pointer (some ⟨bL, 0, none⟩) → RT lo w' (ys.set k z) → Own w' B0 35 8 cap ys.length ((ys.set k z).flatMap MTh.cells) → Q .normal F w') : Wpf Try.prog 46 Q c f W := by
  subst hc
  refine wpf_drawI (m := 23) [[], [], [], [], [2, 3], [2, 3, 4], [2, 3, 4, 5], [], [], [7, 8], [7, 8, 9], [7, 8, 9, 10], [], [], [12, 13], [12, 13, 14], [12, 13, 14, 15], [2, 3, 4, 5, 6, 7, 8, 9, 10, 11, 12, 13, 14, 15, 16], [2, 3, 4, 5, 6, 7, 8, 9, 10, 11, 12, 13, 14, 15, 16, 17], [2, 3, 4, 5, 6, 7, 8, 9, 10, 11, 12, 13, 14, 15, 16, 17, 18], [2, 3, 4, 5, 6, 7, 8, 9, 10, 11, 12, 13, 14, 15, 16, 17, 18], [0, 1], [0, 1, 2, 3, 4, 5, 6, 7, 8, 9, 10, 11, 12, 13, 14, 15, 16, 17, 18, 19, 21]] (fun S F w' => ∃ (sa : Option Addr) (sc : Nat) (qa : Option Addr) (qc : Nat) (bb : Bool), W.grownBy w' (some B0) ∧ F 5 = .slice (some ⟨B0, 0, none⟩) ms.length cap ∧ F 6 = .int .i64 (k : Int) ∧ F 3 = .pointer (some ⟨bL, 0, none⟩) ∧ Vals S F [(0, 24, .slice (some ⟨B0, 0, none⟩) ms.length cap), (1, 25, .int .i64 (k : Int)), (2, 26, .slice (some ⟨B0, 0, none⟩) ms.length cap), (3, 27, .int .i64 (k : Int)), (4, 28, .pointer (some ⟨B0, k * 8, none⟩)), (5, 29, .pointer (some ⟨B0, k * 8, none⟩)), (6, 30, .int .i64 y.t.kind), (7, 31, .slice (some ⟨B0, 0, none⟩) ms.length cap), (8, 32, .int .i64 (k : Int)), (9, 33, .pointer (some ⟨B0, k * 8, none⟩)), (10, 34, .pointer (some ⟨B0, k * 8 + 1, none⟩)), (11, 35, .agg #[.int .i64 y.t.lab.s, .int .i64 y.t.lab.v]), (12, 36, .slice (some ⟨B0, 0, none⟩) ms.length cap), (13, 37, .int .i64 (k : Int)), (14, 38, .pointer (some ⟨B0, k * 8, none⟩)), (15, 39, .pointer (some ⟨B0, k * 8 + 7, none⟩)), (16, 40, .int .i64 y.t.to), (21, 44, .pointer (some ⟨B0, k * 8, none⟩))] ∧ (S 17 = true → F 41 = .tuple #[.agg (⟨thingNew y.t.kind y.t.lab y.t.to, sa, sc, qa, qc⟩ : MTh).cells.toArray, .bool bb] ∧ RowO 74 3 lo w' (⟨thingNew y.t.kind y.t.lab y.t.to, sa, sc, qa, qc⟩ : MTh)) ∧ (S 18 = true → F 23 = .tuple #[.agg (⟨thingNew y.t.kind y.t.lab y.t.to, sa, sc, qa, qc⟩ : MTh).cells.toArray, .bool bb]) ∧ (S 19 = true → F 42 = .agg (⟨thingNew y.t.kind y.t.lab y.t.to, sa, sc, qa, qc⟩ : MTh).cells.toArray) ∧ (S 22 = false → Own w' B0 35 8 cap ys.length (ys.flatMap MTh.cells)) ∧ RT lo w' ys ∧ (S 22 = true → Own w' B0 35 8 cap ys.length ((ys.set k (⟨thingNew y.t.kind y.t.lab y.t.to, sa, sc, qa, qc⟩ : MTh)).flatMap MTh.cells))) mixed_ (by kernel_rfl) ⟨none, 0, none, 0, false, grown_drew _, e5, e6, e3, vals_0 _, not_begun, not_begun, not_begun, fun _ => hO.grown0 (grown_drew _), hR.low (grown_drew _), not_begun⟩ ?_ ?_
  ·
    refine preL_cons (fun S F w1 hS hbef hcl hI' => ?_) ?_
    · obtain ⟨sa, sc, qa, qc, bb, hw, e5, e6, e3, hv, c17, c18, c19, c22, hRT, d22⟩ := hI'
      refine wpo_move (v := .slice (some ⟨B0, 0, none⟩) ms.length cap) e5 rfl ?_
      exact wpo_nil ⟨sa, sc, qa, qc, bb, hw, e5, e6, e3, hv.up 0 rfl rfl rfl, c17, c18, c19, c22, hRT, fun h => undone 22 hS hcl rfl h⟩
    refine preL_cons (fun S F w1 hS hbef hcl hI' => ?_) ?_
    · obtain ⟨sa, sc, qa, qc, bb, hw, e5, e6, e3, hv, c17, c18, c19, c22, hRT, d22⟩ := hI'
      refine wpo_move (v := .int .i64 (k : Int)) e6 rfl ?_
      exact wpo_nil ⟨sa, sc, qa, qc, bb, hw, e5, e6, e3, hv.up 1 rfl rfl rfl, c17, c18, c19, c22, hRT, fun h => undone 22 hS hcl rfl h⟩
    refine preL_cons (fun S F w1 hS hbef hcl hI' => ?_) ?_
    · obtain ⟨sa, sc, qa, qc, bb, hw, e5, e6, e3, hv, c17, c18, c19, c22, hRT, d22⟩ := hI'
      refine wpo_move (v := .slice (some ⟨B0, 0, none⟩) ms.length cap) e5 rfl ?_
      exact wpo_nil ⟨sa, sc, qa, qc, bb, hw, e5, e6, e3, hv.up 2 rfl rfl rfl, fun h => undone 17 hS hcl rfl h, fun h => undone 18 hS hcl rfl h, fun h => undone 19 hS hcl rfl h, c22, hRT, fun h => undone 22 hS hcl rfl h⟩
    refine preL_cons (fun S F w1 hS hbef hcl hI' => ?_) ?_
    · obtain ⟨sa, sc, qa, qc, bb, hw, e5, e6, e3, hv, c17, c18, c19, c22, hRT, d22⟩ := hI'
      refine wpo_move (v := .int .i64 (k : Int)) e6 rfl ?_
      exact wpo_nil ⟨sa, sc, qa, qc, bb, hw, e5, e6, e3, hv.up 3 rfl rfl rfl, fun h => undone 17 hS hcl rfl h, fun h => undone 18 hS hcl rfl h, fun h => undone 19 hS hcl rfl h, c22, hRT, fun h => undone 22 hS hcl rfl h⟩
    refine preL_cons (fun S F w1 hS hbef hcl hI' => ?_) ?_
    · obtain ⟨sa, sc, qa, qc, bb, hw, e5, e6, e3, hv, c17, c18, c19, c22, hRT, d22⟩ := hI'
      have t2 := hv.at 2 rfl (ready_of 2 hbef rfl)
      have t3 := hv.at 3 rfl (ready_of 3 hbef rfl)
      refine wpo_indexAddr (o' := k * 8) es_23 t2 t3 (by omega) (by omega) (by simp) rfl ?_
      exact wpo_nil ⟨sa, sc, qa, qc, bb, hw, e5, e6, e3, hv.up 4 rfl rfl rfl, fun h => undone 17 hS hcl rfl h, fun h => undone 18 hS hcl rfl h, fun h => undone 19 hS hcl rfl h, c22, hRT, fun h => undone 22 hS hcl rfl h⟩
    refine preL_cons (fun S F w1 hS hbef hcl hI' => ?_) ?_
    · obtain ⟨sa, sc, qa, qc, bb, hw, e5, e6, e3, hv, c17, c18, c19, c22, hRT, d22⟩ := hI'
      have t4 := hv.at 4 rfl (ready_of 4 hbef rfl)
      refine wpo_fieldAddr (o' := k * 8) fo_35_0 t4 rfl rfl ?_
      exact wpo_nil ⟨sa, sc, qa, qc, bb, hw, e5, e6, e3, hv.up 5 rfl rfl rfl, fun h => undone 17 hS hcl rfl h, fun h => undone 18 hS hcl rfl h, fun h => undone 19 hS hcl rfl h, c22, hRT, fun h => undone 22 hS hcl rfl h⟩
    refine preL_cons (fun S F w1 hS hbef hcl hI' => ?_) ?_
    · obtain ⟨sa, sc, qa, qc, bb, hw, e5, e6, e3, hv, c17, c18, c19, c22, hRT, d22⟩ := hI'
      have t5 := hv.at 5 rfl (ready_of 5 hbef rfl)
      have h22 : S 22 = false := by
        cases h : S 22 with
        | false => rfl
        | true => exact undone 22 hS hcl rfl h
      have hr := own_row (c22 h22) hy
      refine wpo_load1 (v := .int .i64 y.t.kind) ot_3 t5 (hr 0 _ rfl) rfl ?_
      exact wpo_nil ⟨sa, sc, qa, qc, bb, hw, e5, e6, e3, hv.up 6 rfl rfl rfl, fun h => undone 17 hS hcl rfl h, fun h => undone 18 hS hcl rfl h, fun h => undone 19 hS hcl rfl h, c22, hRT, fun h => undone 22 hS hcl rfl h⟩
    refine preL_cons (fun S F w1 hS hbef hcl hI' => ?_) ?_
    · obtain ⟨sa, sc, qa, qc, bb, hw, e5, e6, e3, hv, c17, c18, c19, c22, hRT, d22⟩ := hI'
      refine wpo_move (v := .slice (some ⟨B0, 0, none⟩) ms.length cap) e5 rfl ?_
      exact wpo_nil ⟨sa, sc, qa, qc, bb, hw, e5, e6, e3, hv.up 7 rfl rfl rfl, fun h => undone 17 hS hcl rfl h, fun h => undone 18 hS hcl rfl h, fun h => undone 19 hS hcl rfl h, c22, hRT, fun h => undone 22 hS hcl rfl h⟩
    refine preL_cons (fun S F w1 hS hbef hcl hI' => ?_) ?_
    · obtain ⟨sa, sc, qa, qc, bb, hw, e5, e6, e3, hv, c17, c18, c19, c22, hRT, d22⟩ := hI'
      refine wpo_move (v := .int .i64 (k : Int)) e6 rfl ?_
      exact wpo_nil ⟨sa, sc, qa, qc, bb, hw, e5, e6, e3, hv.up 8 rfl rfl rfl, fun h => undone 17 hS hcl rfl h, fun h => undone 18 hS hcl rfl h, fun h => undone 19 hS hcl rfl h, c22, hRT, fun h => undone 22 hS hcl rfl h⟩
    refine preL_cons (fun S F w1 hS hbef hcl hI' => ?_) ?_
    · obtain ⟨sa, sc, qa, qc, bb, hw, e5, e6, e3, hv, c17, c18, c19, c22, hRT, d22⟩ := hI'
      have t7 := hv.at 7 rfl (ready_of 7 hbef rfl)
      have t8 := hv.at 8 rfl (ready_of 8 hbef rfl)
      refine wpo_indexAddr (o' := k * 8) es_23 t7 t8 (by omega) (by omega) (by simp) rfl ?_
      exact wpo_nil ⟨sa, sc, qa, qc, bb, hw, e5, e6, e3, hv.up 9 rfl rfl rfl, fun h => undone 17 hS hcl rfl h, fun h => undone 18 hS hcl rfl h, fun h => undone 19 hS hcl rfl h, c22, hRT, fun h => undone 22 hS hcl rfl h⟩
    refine preL_cons (fun S F w1 hS hbef hcl hI' => ?_) ?_
    · obtain ⟨sa, sc, qa, qc, bb, hw, e5, e6, e3, hv, c17, c18, c19, c22, hRT, d22⟩ := hI'
      have t9 := hv.at 9 rfl (ready_of 9 hbef rfl)
      refine wpo_fieldAddr (o' := k * 8 + 1) fo_35_1 t9 rfl rfl ?_
      exact wpo_nil ⟨sa, sc, qa, qc, bb, hw, e5, e6, e3, hv.up 10 rfl rfl rfl, fun h => undone 17 hS hcl rfl h, fun h => undone 18 hS hcl rfl h, fun h => undone 19 hS hcl rfl h, c22, hRT, fun h => undone 22 hS hcl rfl h⟩
    refine preL_cons (fun S F w1 hS hbef hcl hI' => ?_) ?_
    · obtain ⟨sa, sc, qa, qc, bb, hw, e5, e6, e3, hv, c17, c18, c19, c22, hRT, d22⟩ := hI'
      have t10 := hv.at 10 rfl (ready_of 10 hbef rfl)
      have h22 : S 22 = false := by
        cases h : S 22 with
        | false => rfl
        | true => exact undone 22 hS hcl rfl h
      have hr := own_row (c22 h22) hy
      refine wpo_loadn (vs := [.int .i64 y.t.lab.s, .int .i64 y.t.lab.v]) rt_25 t10 rfl (range_sub hr 1 2 rfl) rfl ?_
      exact wpo_nil ⟨sa, sc, qa, qc, bb, hw, e5, e6, e3, hv.up 11 rfl rfl rfl, fun h => undone 17 hS hcl rfl h, fun h => undone 18 hS hcl rfl h, fun h => undone 19 hS hcl rfl h, c22, hRT, fun h => undone 22 hS hcl rfl h⟩
    refine preL_cons (fun S F w1 hS hbef hcl hI' => ?_) ?_
    · obtain ⟨sa, sc, qa, qc, bb, hw, e5, e6, e3, hv, c17, c18, c19, c22, hRT, d22⟩ := hI'
      refine wpo_move (v := .slice (some ⟨B0, 0, none⟩) ms.length cap) e5 rfl ?_
      exact wpo_nil ⟨sa, sc, qa, qc, bb, hw, e5, e6, e3, hv.up 12 rfl rfl rfl, fun h => undone 17 hS hcl rfl h, fun h => undone 18 hS hcl rfl h, fun h => undone 19 hS hcl rfl h, c22, hRT, fun h => undone 22 hS hcl rfl h⟩
    refine preL_cons (fun S F w1 hS hbef hcl hI' => ?_) ?_
    · obtain ⟨sa, sc, qa, qc, bb, hw, e5, e6, e3, hv, c17, c18, c19, c22, hRT, d22⟩ := hI'
      refine wpo_move (v := .int .i64 (k : Int)) e6 rfl ?_
      exact wpo_nil ⟨sa, sc, qa, qc, bb, hw, e5, e6, e3, hv.up 13 rfl rfl rfl, fun h => undone 17 hS hcl rfl h, fun h => undone 18 hS hcl rfl h, fun h => undone 19 hS hcl rfl h, c22, hRT, fun h => undone 22 hS hcl rfl h⟩
    refine preL_cons (fun S F w1 hS hbef hcl hI' => ?_) ?_
    · obtain ⟨sa, sc, qa, qc, bb, hw, e5, e6, e3, hv, c17, c18, c19, c22, hRT, d22⟩ := hI'
      have t12 := hv.at 12 rfl (ready_of 12 hbef rfl)
      have t13 := hv.at 13 rfl (ready_of 13 hbef rfl)
      refine wpo_indexAddr (o' := k * 8) es_23 t12 t13 (by omega) (by omega) (by simp) rfl ?_
      exact wpo_nil ⟨sa, sc, qa, qc, bb, hw, e5, e6, e3, hv.up 14 rfl rfl rfl, fun h => undone 17 hS hcl rfl h, fun h => undone 18 hS hcl rfl h, fun h => undone 19 hS hcl rfl h, c22, hRT, fun h => undone 22 hS hcl rfl h⟩
    refine preL_cons (fun S F w1 hS hbef hcl hI' => ?_) ?_
    · obtain ⟨sa, sc, qa, qc, bb, hw, e5, e6, e3, hv, c17, c18, c19, c22, hRT, d22⟩ := hI'
      have t14 := hv.at 14 rfl (ready_of 14 hbef rfl)
      refine wpo_fieldAddr (o' := k * 8 + 7) fo_35_6 t14 rfl rfl ?_
      exact wpo_nil ⟨sa, sc, qa, qc, bb, hw, e5, e6, e3, hv.up 15 rfl rfl rfl, fun h => undone 17 hS hcl rfl h, fun h => undone 18 hS hcl rfl h, fun h => undone 19 hS hcl rfl h, c22, hRT, fun h => undone 22 hS hcl rfl h⟩
    refine preL_cons (fun S F w1 hS hbef hcl hI' => ?_) ?_
    · obtain ⟨sa, sc, qa, qc, bb, hw, e5, e6, e3, hv, c17, c18, c19, c22, hRT, d22⟩ := hI'
      have t15 := hv.at 15 rfl (ready_of 15 hbef rfl)
      have h22 : S 22 = false := by
        cases h : S 22 with
        | false => rfl
        | true => exact undone 22 hS hcl rfl h
      have hr := own_row (c22 h22) hy
      refine wpo_load1 (v := .int .i64 y.t.to) ot_3 t15 (hr 7 _ rfl) rfl ?_
      exact wpo_nil ⟨sa, sc, qa, qc, bb, hw, e5, e6, e3, hv.up 16 rfl rfl rfl, fun h => undone 17 hS hcl rfl h, fun h => undone 18 hS hcl rfl h, fun h => undone 19 hS hcl rfl h, c22, hRT, fun h => undone 22 hS hcl rfl h⟩
    refine preL_cons (fun S F w1 hS hbef hcl hI' => ?_) ?_
    · obtain ⟨sa, sc, qa, qc, bb, hw, e5, e6, e3, hv, c17, c18, c19, c22, hRT, d22⟩ := hI'
      have t6 := hv.at 6 rfl (ready_of 6 hbef rfl)
      have t11 := hv.at 11 rfl (ready_of 11 hbef rfl)
      have t16 := hv.at 16 rfl (ready_of 16 hbef rfl)
      have h22 : S 22 = false := by
        cases h : S 22 with
        | false => rfl
        | true => exact undone 22 hS hcl rfl h
      refine wpo_call (vs := [.int .i64 y.t.kind, .agg #[.int .i64 y.t.lab.s, .int .i64 y.t.lab.v], .int .i64 y.t.to]) vgf_93 (args_cons t6 (args_cons t11 (args_cons t16 args_nil))) rfl (sThingNew_u _ _ _ _) ?_
      rintro _ w2 ⟨sa, sc, qa, qc, bb, rfl, hR, hg⟩
      exact wpo_nil ⟨sa, sc, qa, qc, bb, hw.gn0 hg, e5, e6, e3, hv.keep rfl, fun _ => ⟨rfl, RowO.mono hR (Nat.le_trans hlo hw.size)⟩, fun h => undone 18 hS hcl rfl h, fun h => undone 19 hS hcl rfl h, fun h => (c22 h).grown0 hg, hRT.low hg, fun h => undone 22 hS hcl rfl h⟩
    refine preL_cons (fun S F w1 hS hbef hcl hI' => ?_) ?_
    · obtain ⟨sa, sc, qa, qc, bb, hw, e5, e6, e3, hv, c17, c18, c19, c22, hRT, d22⟩ := hI'
      obtain ⟨t17, hR⟩ := c17 (ready_of 17 hbef rfl)
      refine wpo_move (v := .tuple #[.agg (⟨thingNew y.t.kind y.t.lab y.t.to, sa, sc, qa, qc⟩ : MTh).cells.toArray, .bool bb]) t17 rfl ?_
      exact wpo_nil ⟨sa, sc, qa, qc, bb, hw, e5, e6, e3, hv.keep rfl, c17, fun _ => rfl, fun h => undone 19 hS hcl rfl h, c22, hRT, fun h => undone 22 hS hcl rfl h⟩
    refine preL_cons (fun S F w1 hS hbef hcl hI' => ?_) ?_
    · obtain ⟨sa, sc, qa, qc, bb, hw, e5, e6, e3, hv, c17, c18, c19, c22, hRT, d22⟩ := hI'
      have t18 := c18 (ready_of 18 hbef rfl)
      refine wpo_extract (v := .agg (⟨thingNew y.t.kind y.t.lab y.t.to, sa, sc, qa, qc⟩ : MTh).cells.toArray) t18 rfl rfl ?_
      exact wpo_nil ⟨sa, sc, qa, qc, bb, hw, e5, e6, e3, hv.keep rfl, c17, c18, fun _ => rfl, c22, hRT, fun h => undone 22 hS hcl rfl h⟩
    refine preL_cons (fun S F w1 hS hbef hcl hI' => ?_) ?_
    · obtain ⟨sa, sc, qa, qc, bb, hw, e5, e6, e3, hv, c17, c18, c19, c22, hRT, d22⟩ := hI'
      have t18 := c18 (ready_of 18 hbef rfl)
      refine wpo_extract (v := .bool bb) t18 rfl rfl ?_
      exact wpo_nil ⟨sa, sc, qa, qc, bb, hw, e5, e6, e3, hv.keep rfl, c17, c18, c19, c22, hRT, d22⟩
    refine preL_cons (fun S F w1 hS hbef hcl hI' => ?_) ?_
    · obtain ⟨sa, sc, qa, qc, bb, hw, e5, e6, e3, hv, c17, c18, c19, c22, hRT, d22⟩ := hI'
      have t0 := hv.at 0 rfl (ready_of 0 hbef rfl)
      have t1 := hv.at 1 rfl (ready_of 1 hbef rfl)
      refine wpo_indexAddr (o' := k * 8) es_23 t0 t1 (by omega) (by omega) (by simp) rfl ?_
      exact wpo_nil ⟨sa, sc, qa, qc, bb, hw, e5, e6, e3, hv.up 17 rfl rfl rfl, c17, c18, c19, c22, hRT, fun h => undone 22 hS hcl rfl h⟩
    refine preL_cons (fun S F w1 hS hbef hcl hI' => ?_) preL_nil
    · obtain ⟨sa, sc, qa, qc, bb, hw, e5, e6, e3, hv, c17, c18, c19, c22, hRT, d22⟩ := hI'
      have t21 := hv.at 17 rfl (ready_of 21 hbef rfl)
      have t19 := c19 (ready_of 19 hbef rfl)
      obtain ⟨_, hR⟩ := c17 (ready_of 17 hbef rfl)
      have hO := c22 hS
      refine wpo_storenO (g := MTh.cells) (z' := (⟨thingNew y.t.kind y.t.lab y.t.to, sa, sc, qa, qc⟩ : MTh)) rt_35 t21 t19 (onec_mth _) wide_mth hO hk rfl ?_
      intro w2 hO2 hg
      rw [List.length_set] at hO2
      exact wpo_nil ⟨sa, sc, qa, qc, bb, grown_trans hw hg, e5, e6, e3, hv.keep0 rfl, fun _ => ⟨(c17 (ready_of 17 hbef rfl)).1, hR.typ hg hO (by decide) (by decide)⟩, c18, c19, (fun h => by cases h), hRT.typ hg hO, fun _ => hO2⟩
  · intro S F w2 hall hI'
    obtain ⟨sa, sc, qa, qc, bb, hw, e5, e6, e3, hv, c17, c18, c19, c22, hRT, d22⟩ := hI'
    obtain ⟨_, hZ⟩ := c17 (hall 17 (by omega))
    exact wpo_nil (hQ _ _ _ rfl hw e5 e6 e3 (RT.set hRT hZ) (d22 (hall 22 (by omega))))
theorem view_step {ts : List Th} {ys : List MTh} {y z : MTh} {l : Lab} {k : Nat} (h : tabT ys = (ts.take k).map (viewTh · l) ++ ts.drop k) (hk : k < ts.length) (hy : ys[k]? = some y) (hz : z.t = viewTh y.t l) : tabT (ys.set k z) = (ts.take (k + 1)).map (viewTh · l) ++ ts.drop (k + 1) := by
  have hl : ((ts.take k).map (viewTh · l)).length = k := by rw [List.length_map, List.length_take]; omega
  have ht : ts[k]? = some y.t := by
    have h1 : (tabT ys)[k]? = some y.t := by unfold tabT; rw [List.getElem?_map, hy]; rfl
    rw [h, List.getElem?_append_right (by omega), hl, Nat.sub_self, List.getElem?_drop, Nat.add_zero] at h1
    exact h1
  have e1 : tabT (ys.set k z) = (tabT ys).set k z.t := by unfold tabT; rw [List.map_set]
  rw [e1, h, List.set_append_right _ _ (by omega), hl, Nat.sub_self, drop_split ht, List.set_cons_zero, List.take_add_one, ht, Option.toList_some, List.map_append, List.append_assoc]
  rw [hz]; rfl
theorem l13Of_c (l : Lab) (w : World) (ms : List MTh) (a : Option Addr) (c : Nat) (hM : TabAt w a ms) (hlen : TabLen ms) (hn : ms.length ≤ 1048576) (hT : tableOk (tabT ms) = true) (hl : labelOk l = true) : CallsR Try.prog 44 #[.slice a ms.length c, .agg #[.int .i64 l.s, .int .i64 l.v]] w (fun v B => ∃ (us : List MTh) (a' : Option Addr) (c' : Nat), v = .slice a' us.length c' ∧ tabT us = (tabT ms).map (viewTh · l) ∧ TabAt B a' us ∧ (a' = none → c' = 0) ∧ w.grownBy B none) := by
  refine calls_of_wpf (n := 46) Try.func44 rfl Try.ntmps44 rfl ?_
  refine wpf_seq_region ?_
  refine wpo_box (v := .agg #[.int .i64 l.s, .int .i64 l.v]) (cs := #[.int .i64 l.s, .int .i64 l.v]) rfl rfl rfl ?_
  intro bL w1 hN1
  refine wpo_assign (v := .slice none 0 0) rfl rfl (wpo_nil ?_)
  refine wpf_seq_region ?_
  refine wpo_move (v := .slice a ms.length c) rfl rfl ?_
  refine wpo_call (R := fun v w' => ∃ (B cap : Nat) (ys : List MTh), v = .slice (some ⟨B, 0, none⟩) ms.length cap ∧ ys.length = ms.length ∧ tabT ys = tabT ms ∧ w1.heap.size ≤ B ∧ Own w' B 35 8 cap ys.length (ys.flatMap MTh.cells) ∧ RowsO 74 3 w1.heap.size w' ys ∧ w1.grownBy w' none) (vs := [.slice a ms.length c]) vgf_59 (args_cons rfl args_nil) rfl ((l3Copy_c _ ms a c (hM.low hN1.grw) hlen hn).mono fun v w' ⟨B, cap, ys, h1, h2, h3⟩ => ⟨B, cap, ys, by rw [h1, tabT_length h2], tabT_length h2, h2, h3⟩) ?_
  rintro _ w2 ⟨B0, cap, ys0, rfl, hl0, hy0, hge, hO0, hR0, hg2⟩
  refine wpo_assign (v := .slice (some ⟨B0, 0, none⟩) ms.length cap) rfl rfl (wpo_nil ?_)
  have hw1 := hN1.grw.size
  have hbL := hN1.blk.lt
  have hgw2 := grown_trans hN1.grw hg2
  have toN : ∀ {W W' : World}, w.grownBy W none → W.grownBy W' (some B0) → w.grownBy W' none := fun h1 h2 =>
    ⟨h2.os.trans h1.os, h2.tape.trans h1.tape, h2.output.trans h1.output, Nat.le_trans h1.size h2.size, fun b hb _ => (h2.block b (Nat.lt_of_lt_of_le hb h1.size) (by simp; omega)).trans (h1.block b hb (by simp))⟩
  refine wpf_seq (wpf_seq_region (wpo_assign (v := .int .i64 ((0 : Nat) : Int)) rfl rfl (wpo_nil ?_)))
  refine wpf_block ?_
  refine wpf_loopN (fun m F B => ∃ (k : Nat) (ys : List MTh), k + m = ms.length ∧ ys.length = ms.length ∧ tabT ys = ((tabT ms).take k).map (viewTh · l) ++ (tabT ms).drop k ∧ F 6 = .int .i64 (k : Int) ∧ F 5 = .slice (some ⟨B0, 0, none⟩) ms.length cap ∧ F 3 = .pointer (some ⟨bL, 0, none⟩) ∧ Own B B0 35 8 cap ys.length (ys.flatMap MTh.cells) ∧ RT w.heap.size B ys ∧ w.grownBy B none ∧ Blk B bL 25 #[.int .i64 l.s, .int .i64 l.v]) ms.length
    ⟨0, ys0, by omega, hl0, by simpa using hy0, rfl, rfl, rfl, hO0, fun m hm => RowO.mono (hR0.row m hm) hw1, hgw2, hN1.blk.grown0 hg2⟩ fun m F B ⟨k, ys, hkm, hyl, hyt, e6, e5, e3, hO, hR, hgw, hBL⟩ => ?_
  refine wpf_seq (wpf_seq_region ?_)
  refine wpo_move (v := .int .i64 (k : Int)) e6 rfl ?_
  refine wpo_move (v := .slice (some ⟨B0, 0, none⟩) ms.length cap) e5 rfl ?_
  refine wpo_len vun_23 rfl rfl ?_
  by_cases hk : k < ms.length
  · refine wpo_lss (q := true) rfl rfl (by simp; omega) rfl (wpo_nil (wpf_condt rfl rfl (wpf_skip ?_)))
    obtain ⟨y, hy⟩ := get_lt (show k < ys.length by omega)
    have hkt : k < (tabT ms).length := by rw [tabT_len]; exact hk
    have hyT : (tabT ms)[k]? = some y.t := by
      have h1 : (tabT ys)[k]? = some y.t := by unfold tabT; rw [List.getElem?_map, hy]; rfl
      have hl1 : (((tabT ms).take k).map (viewTh · l)).length = k := by rw [List.length_map, List.length_take]; omega
      rw [hyt, List.getElem?_append_right (by omega), hl1, Nat.sub_self, List.getElem?_drop, Nat.add_zero] at h1
      exact h1
    have hym : y.t = (mAt ms k).t := by
      have h2 : (tabT ms)[k]? = some (mAt ms k).t := by unfold tabT; rw [List.getElem?_map, mAt_get hk]; rfl
      rw [hyT] at h2
      exact Option.some.inj h2
    have hla : labelOk y.t.lab = true := by rw [hym]; exact (thingOk_parts (tab_thing hT hk)).2.1
    have hlf : labelFlow y.t.lab l = flow y.t.lab l := by unfold labelFlow; rw [hla, hl]; rfl
    have hr := own_row hO hy
    have hBLl := hBL.lt
    have neL : bL ≠ B0 := by omega
    refine wpf_seq (wpf_block (wpf_seq ?_))
    refine wpf_draw (m := 6) (vals := [(15, .slice (some ⟨B0, 0, none⟩) ms.length cap), (16, .int .i64 (k : Int)), (17, .pointer (some ⟨B0, k * 8, none⟩)), (18, .pointer (some ⟨B0, k * 8 + 1, none⟩)), (19, .agg #[.int .i64 y.t.lab.s, .int .i64 y.t.lab.v]), (20, .agg #[.int .i64 l.s, .int .i64 l.v])]) (fun w' => B.grownBy w' none) mixed_ (by kernel_rfl) (grown_drew _) ?_ ?_
    · refine yll_cons rfl (fun w3 hi => wpo_move (v := .slice (some ⟨B0, 0, none⟩) ms.length cap) e5 rfl (wpo_nil ⟨rfl, hi⟩)) ?_
      refine yll_cons rfl (fun w3 hi => wpo_move (v := .int .i64 (k : Int)) e6 rfl (wpo_nil ⟨rfl, hi⟩)) ?_
      refine yll_cons rfl (fun w3 hi => wpo_indexAddr (o' := k * 8) es_23 rfl rfl (by omega) (by omega) (by simp) rfl (wpo_nil ⟨rfl, hi⟩)) ?_
      refine yll_cons rfl (fun w3 hi => wpo_fieldAddr (o' := k * 8 + 1) fo_35_1 rfl rfl rfl (wpo_nil ⟨rfl, hi⟩)) ?_
      refine yll_cons rfl (fun w3 hi => wpo_loadn (vs := [.int .i64 y.t.lab.s, .int .i64 y.t.lab.v]) rt_25 rfl rfl (range_sub (range_low hr hi) 1 2 rfl) rfl (wpo_nil ⟨rfl, hi⟩)) ?_
      refine yll_cons rfl (fun w3 hi => wpo_loadn (vs := [.int .i64 l.s, .int .i64 l.v]) rt_25 e3 rfl ((hBL.grown0 hi).rangeL 0 2 rfl) rfl (wpo_nil ⟨rfl, hi⟩)) yll_nil
    · intro w3 hi
      refine wpo_call (vs := [.agg #[.int .i64 y.t.lab.s, .int .i64 y.t.lab.v], .agg #[.int .i64 l.s, .int .i64 l.v]]) vgf_92 (args_cons rfl (args_cons rfl args_nil)) rfl (l1Flow_c y.t.lab l hla hl _) ?_
      rintro _ w4 ⟨rfl, hg4⟩
      have hi4 := grown_trans hi hg4
      refine wpo_not (b' := !flow y.t.lab l) rfl rfl rfl (wpo_nil ?_)
      have next : ∀ (QQ : Exit → Fr → World → Prop) (F : Fr) (w' : World) (zs : List MTh), zs.length = ms.length → tabT zs = ((tabT ms).take (k + 1)).map (viewTh · l) ++ (tabT ms).drop (k + 1) → F 5 = .slice (some ⟨B0, 0, none⟩) ms.length cap → F 6 = .int .i64 (k : Int) → F 3 = .pointer (some ⟨bL, 0, none⟩) → Own w' B0 35 8 cap zs.length (zs.flatMap MTh.cells) → RT w.heap.size w' zs → w.grownBy w' none → Blk w' bL 25 #[.int .i64 l.s, .int .i64 l.v] →
          Wpf Try.prog 46 (thn (fun f' A' => ∃ m' < m, ∃ (k : Nat) (ys : List MTh), k + m' = ms.length ∧ ys.length = ms.length ∧ tabT ys = ((tabT ms).take k).map (viewTh · l) ++ (tabT ms).drop k ∧ f' 6 = .int .i64 (k : Int) ∧ f' 5 = .slice (some ⟨B0, 0, none⟩) ms.length cap ∧ f' 3 = .pointer (some ⟨bL, 0, none⟩) ∧ Own A' B0 35 8 cap ys.length (ys.flatMap MTh.cells) ∧ RT w.heap.size A' ys ∧ w.grownBy A' none ∧ Blk A' bL 25 #[.int .i64 l.s, .int .i64 l.v]) QQ) (match Try.f44.body with | some (.seq _ (.seq _ (.seq (.seq _ (.block _ (.loop (.seq _ (.seq _ c))))) _))) => c | _ => .skip) F w' := by
        intro QQ F w' zs hzl hzt g5 g6 g3 hO' hR' hg' hb'
        refine wpf_region ?_
        refine wpo_move (v := .int .i64 (k : Int)) g6 rfl ?_
        refine wpo_add (c := ((k + 1 : Nat) : Int)) rfl rfl (by omega) (by omega) (by omega) rfl ?_
        refine wpo_assign (v := .int .i64 ((k + 1 : Nat) : Int)) rfl rfl (wpo_nil ?_)
        exact ⟨m - 1, by omega, k + 1, zs, by omega, hzl, hzt, rfl, g5, g3, hO', hR', hg', hb'⟩
      cases hf : flow y.t.lab l with
      | true =>
        refine wpf_condf rfl rfl (wpf_skip ?_)
        have e := view_step (z := y) hyt hkt hy (viewTh_y (hlf.trans hf)).symm
        have es : ys.set k y = ys := by
          obtain ⟨h1, h2⟩ := List.getElem?_eq_some_iff.1 hy
          rw [← h2, List.set_getElem_self]
        rw [es] at e
        exact next _ _ _ ys hyl e e5 e6 e3 (hO.grown0 hi4) (hR.low hi4) (grown_trans hgw hi4) (hBL.grown0 hi4)
      | false =>
        refine wpf_condt rfl rfl ?_
        refine l13_new (ms := ms) (cap := cap) (bL := bL) rfl (Nat.le_trans hgw.size hi4.size) hy hk (by omega) (hO.grown0 hi4) (hR.low hi4) e5 e6 e3 fun F' w' z hz hg g5 g6 g3 hR' hO' => ?_
        have e := view_step (z := z) hyt hkt hy (by rw [hz]; unfold viewTh; rw [if_neg (by rw [hlf, hf]; simp)])
        exact next _ F' w' _ (by rw [List.length_set]; exact hyl) e g5 g6 g3 (by rw [List.length_set]; exact hO') hR' (toN (grown_trans hgw hi4) hg) ((hBL.grown0 hi4).grown hg (by simp; omega))
  · refine wpo_lss (q := false) rfl rfl (by simp; omega) rfl (wpo_nil (wpf_condf rfl rfl (wpf_exit ?_)))
    have hkn : k = ms.length := by omega
    simp only [thn, blk, ↓reduceIte]
    refine wpf_seq_region ?_
    refine wpo_move (v := .slice (some ⟨B0, 0, none⟩) ms.length cap) e5 rfl ?_
    refine wpo_assign (v := .slice (some ⟨B0, 0, none⟩) ms.length cap) rfl rfl (wpo_nil (wpf_ret ?_))
    refine ⟨.slice (some ⟨B0, 0, none⟩) ms.length cap, res1 rfl rfl, ys, some ⟨B0, 0, none⟩, cap, by rw [hyl], ?_, ⟨Own.sl wide_mth hO, fun m hm => (hR m hm).th⟩, (fun h => by cases h), hgw⟩
    rw [hyt, hkn, List.take_of_length_le (by rw [tabT_len]; omega), List.drop_eq_nil_of_le (by rw [tabT_len]; omega), List.append_nil]
theorem sViewOf_c (l : Lab) (w : World) (ms : List MTh) (a : Option Addr) (c : Nat) (hM : TabAt w a ms) (hlen : TabLen ms) (hn : ms.length ≤ 1048576) : CallsR Try.prog 14 #[.slice a ms.length c, .agg #[.int .i64 l.s, .int .i64 l.v]] w (ViewRS ms l w) := by
  refine calls_of_wpf (n := 17) Try.func14 rfl Try.ntmps14 rfl ?_
  refine wpf_seq_region ?_
  refine wpo_box (v := .agg #[.int .i64 l.s, .int .i64 l.v]) (cs := #[.int .i64 l.s, .int .i64 l.v]) rfl rfl rfl ?_
  intro bL w1 hN1
  refine wpo_assign (v := .slice none 0 0) rfl rfl (wpo_nil ?_)
  refine wpf_seq (wpf_seq_region ?_)
  refine wpo_move (v := .slice a ms.length c) rfl rfl ?_
  refine wpo_call (vs := [.slice a ms.length c]) vgf_15 (args_cons rfl args_nil) rfl (sTableOk_c _ ms a c (hM.low hN1.grw) hlen hn) ?_
  rintro _ w2 ⟨rfl, hg2⟩
  have hgw2 := grown_trans hN1.grw hg2
  have hL2 := hN1.blk.grown0 hg2
  refine wpo_not (b' := !tableOk (tabT ms)) rfl rfl rfl ?_
  refine wpo_move (v := .bool (!tableOk (tabT ms))) rfl rfl ?_
  have none_ : ∀ (F : Fr) (W B : World) (b : Nat), (tableOk (tabT ms) && labelOk l) = false → w.grownBy W none → NewB W B b 35 (([] : List MTh).flatMap MTh.cells).toArray → F 4 = .slice (some ⟨b, 0, none⟩) 0 0 → ∃ v, resV Try.prog Try.f14 F B v ∧ ViewRS ms l w v B := fun F W B b h hg hN h4 =>
    ⟨_, res1 rfl h4, [], some ⟨b, 0, none⟩, 0, rfl, by unfold viewTab; rw [h]; rfl, ⟨fun k x hk => by simp at hk, fun m hm => by simp at hm⟩, (fun _ => rfl), grown_trans hg hN.grw⟩
  cases h1 : tableOk (tabT ms) with
  | false =>
    iterate 3 refine wpo_pass rfl rfl rfl rfl rfl ?_
    refine wpo_pickt (v := .bool true) rfl rfl rfl rfl (wpo_nil (wpf_condt rfl rfl ?_))
    refine wpf_seq_region ?_
    refine wpo_buildSlice (ps := []) (e := 35) (cs := (([] : List MTh).flatMap MTh.cells).toArray) parts_nil (fun _ => by kernel_rfl) rfl ?_
    intro b w3 hN
    refine wpo_assign (v := .slice (some ⟨b, 0, none⟩) 0 0) rfl rfl (wpo_nil (wpf_ret ?_))
    exact none_ _ _ _ b (by rw [h1]; rfl) hgw2 hN rfl
  | true =>
    refine wpo_run rfl rfl rfl rfl ?_
    refine wpo_loadn (vs := [.int .i64 l.s, .int .i64 l.v]) rt_25 rfl rfl (hL2.rangeL 0 2 rfl) rfl ?_
    refine wpo_run rfl rfl rfl rfl ?_
    refine wpo_call (vs := [.agg #[.int .i64 l.s, .int .i64 l.v]]) vgf_16 (args_cons rfl args_nil) rfl (sLabelOk_c l _) ?_
    rintro _ w4 ⟨rfl, hg4⟩
    have hL4 := hL2.grown0 hg4
    have hgw4 := grown_trans hgw2 hg4
    refine wpo_run rfl rfl rfl rfl ?_
    refine wpo_not (b' := !labelOk l) rfl rfl rfl ?_
    refine wpo_pickf (v := .bool (!labelOk l)) rfl rfl rfl rfl (wpo_nil ?_)
    cases h2 : labelOk l with
    | false =>
      refine wpf_condt rfl rfl ?_
      refine wpf_seq_region ?_
      refine wpo_buildSlice (ps := []) (e := 35) (cs := (([] : List MTh).flatMap MTh.cells).toArray) parts_nil (fun _ => by kernel_rfl) rfl ?_
      intro b w3 hN
      refine wpo_assign (v := .slice (some ⟨b, 0, none⟩) 0 0) rfl rfl (wpo_nil (wpf_ret ?_))
      exact none_ _ _ _ b (by rw [h1, h2]; rfl) hgw4 hN rfl
    | true =>
      refine wpf_condf rfl rfl (wpf_skip ?_)
      refine wpf_seq_region ?_
      refine wpo_move (v := .slice a ms.length c) rfl rfl ?_
      refine wpo_loadn (vs := [.int .i64 l.s, .int .i64 l.v]) rt_25 rfl rfl (hL4.rangeL 0 2 rfl) rfl ?_
      refine wpo_call (vs := [.slice a ms.length c, .agg #[.int .i64 l.s, .int .i64 l.v]]) vgf_44 (args_cons rfl (args_cons rfl args_nil)) rfl (l13Of_c l _ ms a c (hM.low hgw4) hlen hn h1 h2) ?_
      rintro _ w5 ⟨us, a', c', rfl, h3, h4, h5, h6⟩
      refine wpo_assign (v := .slice a' us.length c') rfl rfl (wpo_nil (wpf_ret ?_))
      exact ⟨_, res1 rfl rfl, us, a', c', rfl, by rw [h3]; unfold viewTab; rw [h1, h2]; rfl, h4, h5, grown_trans hgw4 h6⟩
end
end Go.Dw.J
end
section
namespace Go.Dw.J
open Go.RowKit Go.Dw Go.Proofs
set_option linter.unusedSectionVars false
set_option linter.unusedSimpArgs false
set_option linter.unusedVariables false
theorem tabLen_set {ys : List MTh} {i : Nat} {x : MTh} (h : TabLen ys) (hi : i < ys.length) (h1 : x.t.slots = (mAt ys i).t.slots) (h2 : x.t.queue = (mAt ys i).t.queue ∨ x.t.queue.length ≤ 1048576) : TabLen (ys.set i x) := fun m hm => by
  have h0 := h.at (mAt_get hi)
  rcases List.mem_or_eq_of_mem_set hm with h3 | rfl
  · exact h m h3
  · rw [h1]
    refine ⟨h0.1, ?_⟩
    rcases h2 with h2 | h2
    · rw [h2]; exact h0.2
    · exact h2
section
variable {ms us : List MTh} {l : Lab}
theorem viewTab_le (he : tabT us = viewTab (tabT ms) l) : us.length ≤ ms.length := by
  have := congrArg List.length he
  rw [tabT_len] at this
  unfold viewTab at this
  split at this
  · rw [List.length_map, tabT_len] at this; omega
  · have h0 : us.length = 0 := this
    omega
theorem viewTh_len {t : Th} (h : t.slots.length ≤ 1048576 ∧ t.queue.length ≤ 1048576) : (viewTh t l).slots.length ≤ 1048576 ∧ (viewTh t l).queue.length ≤ 1048576 := by
  unfold viewTh
  split
  · exact h
  · unfold thingNew
    split
    · unfold newTh
      refine ⟨?_, by simp⟩
      show (if has4 t.kind = true then zeros4 else []).length ≤ _
      split <;> decide
    · decide
theorem viewTab_lens (he : tabT us = viewTab (tabT ms) l) (hl : TabLen ms) : TabLen us := fun m hm => by
  have h1 : m.t ∈ tabT us := List.mem_map.2 ⟨m, hm, rfl⟩
  rw [he] at h1
  unfold viewTab at h1
  split at h1
  · obtain ⟨t, ht, e⟩ := List.mem_map.1 h1
    obtain ⟨q, hq, rfl⟩ := List.mem_map.1 ht
    rw [← e]
    exact viewTh_len (hl q hq)
  · cases h1
end
theorem RowO.typB {TR TI lo B : Nat} {w w' : World} {m : MTh} {U : TypeId} {cs : Array Value} (h : RowO TR TI lo w m) (hg : w.grownBy w' (some B)) (k : Blk w B U cs) (h1 : TR ≠ U) (h2 : TI ≠ U) : RowO TR TI lo w' m := ⟨h.s.typB hg k h1, h.q.typB hg k h2⟩
section
variable [Comp]
end
end Go.Dw.J
end
section
namespace Go.Dw.J
open Go.RowKit Go.Dw Go.Proofs
set_option linter.unusedSectionVars false
set_option maxRecDepth 100000
set_option maxHeartbeats 4000000
set_option linter.unusedSimpArgs false
set_option linter.unusedVariables false
def MemZ (lo hi : Nat) (w : World) (a : Option Addr) (T : TypeId) (sz cap n : Nat) (vs : List Value) : Prop := 0 < n → ∃ B, a = some ⟨B, 0, none⟩ ∧ lo ≤ B ∧ B < hi ∧ Dw.Own w B T sz cap n vs
def MemS (lo hi : Nat) (w : World) (m : MTh) (xs : List Rt) : Prop := xs.length = m.t.slots.length ∧ MemZ lo hi w m.sa 74 5 m.sc m.t.slots.length (xs.flatMap Rt.cells)
def MemQ (lo hi : Nat) (w : World) (m : MTh) (ys : List Int) : Prop := ys.length = m.t.queue.length ∧ MemZ lo hi w m.qa 3 1 m.qc m.t.queue.length (ys.flatMap icell)
def RowA (lo hi : Nat) (w : World) (m : MTh) : Prop := (∃ xs, MemS lo hi w m xs) ∧ ∃ ys, MemQ lo hi w m ys
def marksR (x : Int) (n : Nat) : List Rt := (List.range n).map fun i : Nat => mkRt (x + 5 * (i : Int))
def marksQ (x : Int) (n : Nat) : List Int := (List.range n).map fun i : Nat => x + (i : Int)
theorem marksR_len {x : Int} {n : Nat} : (marksR x n).length = n := by simp [marksR]
theorem marksQ_len {x : Int} {n : Nat} : (marksQ x n).length = n := by simp [marksQ]
abbrev rowK (m : MTh) (x : Int) : MTh := ⟨⟨x, ⟨x + 1, x + 1 + 1⟩, x + 1 + 1 + 1, x + 1 + 1 + 1 + 1, m.t.slots, m.t.queue, x + 1 + 1 + 1 + 1 + 1 + 5 * (m.t.slots.length : Int) + (m.t.queue.length : Int)⟩, m.sa, m.sc, m.qa, m.qc⟩
abbrev nxt (m : MTh) (x : Int) : Int := x + 1 + 1 + 1 + 1 + 1 + 5 * (m.t.slots.length : Int) + (m.t.queue.length : Int) + 1
structure RowM (lo hi : Nat) (w : World) (m : MTh) (x : Int) : Prop where
  eq : m = rowK m x
  s : MemS lo hi w m (marksR (x + 1 + 1 + 1 + 1 + 1) m.t.slots.length)
  q : MemQ lo hi w m (marksQ (x + 1 + 1 + 1 + 1 + 1 + 5 * (m.t.slots.length : Int)) m.t.queue.length)
structure MarkI (lo hi : Nat) (n : Int) (w : World) (ps : List MTh) (k : Nat) (m : Int) : Prop where
  st : ∃ s : Nat → Int, s 0 = n ∧ s k = m ∧ ∀ j, j < k → RowM lo hi w (mAt ps j) (s j) ∧ s (j + 1) = nxt (mAt ps j) (s j)
  todo : ∀ j, k ≤ j → j < ps.length → RowA lo hi w (mAt ps j)
  ap : ApZ ps
structure MarkW (lo hi : Nat) (n : Int) (w : World) (ps : List MTh) (k : Nat) (m : Int) (xs : List Rt) (ys : List Int) : Prop where
  st : ∃ s : Nat → Int, s 0 = n ∧ s k = m ∧ ∀ j, j < k → RowM lo hi w (mAt ps j) (s j) ∧ s (j + 1) = nxt (mAt ps j) (s j)
  lt : k < ps.length
  todo : ∀ j, k < j → j < ps.length → RowA lo hi w (mAt ps j)
  s : MemS lo hi w (mAt ps k) xs
  q : MemQ lo hi w (mAt ps k) ys
  ap : ApZ ps
section
variable {lo hi : Nat} {n m : Int} {w w' : World} {ps : List MTh} {k : Nat} {xs : List Rt} {ys : List Int}
def Mv (w w' : World) (b : Nat) : Prop := ∀ (T : TypeId) (c : Array Value), T ≠ 35 → w.heap[b]? = some (.cells c T (0, 0)) → w'.heap[b]? = some (.cells c T (0, 0))
theorem MemZ.move {a : Option Addr} {T : TypeId} {sz cap n : Nat} {vs : List Value} (h : MemZ lo hi w a T sz cap n vs) (hT : T ≠ 35) (hm : ∀ b, 0 < n → a = some ⟨b, 0, none⟩ → Mv w w' b) : MemZ lo hi w' a T sz cap n vs := fun hn =>
  let ⟨B, e, h1, h2, h3⟩ := h hn; ⟨B, e, h1, h2, own_move h3 fun c _ hc => hm B hn e T c hT hc⟩
theorem MemS.move {m : MTh} (h : MemS lo hi w m xs) (hm : ∀ b, 0 < m.t.slots.length → m.sa = some ⟨b, 0, none⟩ → Mv w w' b) : MemS lo hi w' m xs := ⟨h.1, h.2.move (by decide) hm⟩
theorem MemQ.move {m : MTh} (h : MemQ lo hi w m ys) (hm : ∀ b, 0 < m.t.queue.length → m.qa = some ⟨b, 0, none⟩ → Mv w w' b) : MemQ lo hi w' m ys := ⟨h.1, h.2.move (by decide) hm⟩
theorem RowA.move {m : MTh} (h : RowA lo hi w m) (h1 : ∀ b, 0 < m.t.slots.length → m.sa = some ⟨b, 0, none⟩ → Mv w w' b) (h2 : ∀ b, 0 < m.t.queue.length → m.qa = some ⟨b, 0, none⟩ → Mv w w' b) : RowA lo hi w' m :=
  let ⟨⟨xs, k1⟩, ys, k2⟩ := h; ⟨⟨xs, k1.move h1⟩, ys, k2.move h2⟩
theorem RowM.move {m : MTh} {x : Int} (h : RowM lo hi w m x) (h1 : ∀ b, 0 < m.t.slots.length → m.sa = some ⟨b, 0, none⟩ → Mv w w' b) (h2 : ∀ b, 0 < m.t.queue.length → m.qa = some ⟨b, 0, none⟩ → Mv w w' b) : RowM lo hi w' m x := ⟨h.eq, h.s.move h1, h.q.move h2⟩
theorem MarkI.move (h : MarkI lo hi n w ps k m) (hm : ∀ b, Mv w w' b) : MarkI lo hi n w' ps k m :=
  let ⟨s, h1, h2, h3⟩ := h.st; ⟨⟨s, h1, h2, fun j hj => ⟨(h3 j hj).1.move (fun b _ _ => hm b) (fun b _ _ => hm b), (h3 j hj).2⟩⟩, fun j h4 h5 => (h.todo j h4 h5).move (fun b _ _ => hm b) (fun b _ _ => hm b), h.ap⟩
theorem MarkW.move (h : MarkW lo hi n w ps k m xs ys) (hm : ∀ b, Mv w w' b) : MarkW lo hi n w' ps k m xs ys :=
  let ⟨s, h1, h2, h3⟩ := h.st; ⟨⟨s, h1, h2, fun j hj => ⟨(h3 j hj).1.move (fun b _ _ => hm b) (fun b _ _ => hm b), (h3 j hj).2⟩⟩, h.lt, fun j h4 h5 => (h.todo j h4 h5).move (fun b _ _ => hm b) (fun b _ _ => hm b), h.s.move fun b _ _ => hm b, h.q.move fun b _ _ => hm b, h.ap⟩
theorem mv_none (hg : w.grownBy w' none) (b : Nat) : Mv w w' b := fun T c _ e => (hg.block b (Array.getElem?_eq_some_iff.1 e).1 (by simp)).trans e
theorem mv_own {B sz cap n : Nat} {vs : List Value} (hg : w.grownBy w' (some B)) (ho : Dw.Own w B 35 sz cap n vs) (b : Nat) : Mv w w' b := fun T c hT e => (hg.block b (Array.getElem?_eq_some_iff.1 e).1 (by
  intro e2
  have e2 : b = B := by simpa using e2
  subst e2
  obtain ⟨_, _, hb, _⟩ := ho.blk
  have e3 := e.symm.trans hb
  simp only [Option.some.injEq, Obj.cells.injEq] at e3
  exact hT e3.2.1)).trans e
theorem mv_ne {S b : Nat} (hg : w.grownBy w' (some S)) (hne : b ≠ S) : Mv w w' b := fun T c _ e => (hg.block b (Array.getElem?_eq_some_iff.1 e).1 (by simpa using hne)).trans e
theorem MarkI.low (h : MarkI lo hi n w ps k m) (hg : w.grownBy w' none) : MarkI lo hi n w' ps k m := h.move (mv_none hg)
theorem MarkW.low (h : MarkW lo hi n w ps k m xs ys) (hg : w.grownBy w' none) : MarkW lo hi n w' ps k m xs ys := h.move (mv_none hg)
theorem MarkI.own {B sz cap q : Nat} {vs : List Value} (h : MarkI lo hi n w ps k m) (hg : w.grownBy w' (some B)) (ho : Dw.Own w B 35 sz cap q vs) : MarkI lo hi n w' ps k m := h.move (mv_own hg ho)
theorem MarkW.own {B sz cap q : Nat} {vs : List Value} (h : MarkW lo hi n w ps k m xs ys) (hg : w.grownBy w' (some B)) (ho : Dw.Own w B 35 sz cap q vs) : MarkW lo hi n w' ps k m xs ys := h.move (mv_own hg ho)
theorem MarkI.split (h : MarkI lo hi n w ps k m) (hk : k < ps.length) : ∃ xs ys, MarkW lo hi n w ps k m xs ys :=
  let ⟨⟨xs, h1⟩, ys, h2⟩ := h.todo k (Nat.le_refl _) hk; ⟨xs, ys, h.st, hk, fun j h3 h4 => h.todo j (by omega) h4, h1, h2, h.ap⟩
theorem MarkW.slots {S : Nat} {xs' : List Rt} (h : MarkW lo hi n w ps k m xs ys) (hn : 0 < (mAt ps k).t.slots.length) (hS : (mAt ps k).sa = some ⟨S, 0, none⟩) (hl : lo ≤ S) (hh : S < hi) (ho : Dw.Own w S 74 5 (mAt ps k).sc (mAt ps k).t.slots.length (xs.flatMap Rt.cells)) (hg : w.grownBy w' (some S)) (hx : xs'.length = (mAt ps k).t.slots.length) (hO : Dw.Own w' S 74 5 (mAt ps k).sc (mAt ps k).t.slots.length (xs'.flatMap Rt.cells)) : MarkW lo hi n w' ps k m xs' ys := by
  have hs : ∀ j, j < ps.length → j ≠ k → ∀ b, 0 < (mAt ps j).t.slots.length → (mAt ps j).sa = some ⟨b, 0, none⟩ → Mv w w' b := fun j hj hne b hn2 hb => mv_ne hg fun e => by
    subst e
    exact (h.ap j k _ _ (mAt_get hj) (mAt_get h.lt) hne).1 hn2 hn (hb.trans hS.symm)
  have hq : ∀ (m : MTh) (zs : List Int), MemQ lo hi w m zs → MemQ lo hi w' m zs := fun m zs hz => ⟨hz.1, fun hn2 => by
    obtain ⟨B, e, h1, h2, h3⟩ := hz.2 hn2
    obtain ⟨_, _, hb, _⟩ := ho.blk
    exact ⟨B, e, h1, h2, h3.grown hg (some_ne (own_blk_ne h3 hb (by decide)))⟩⟩
  obtain ⟨s, h1, h2, h3⟩ := h.st
  refine ⟨⟨s, h1, h2, fun j hj => ⟨⟨(h3 j hj).1.eq, (h3 j hj).1.s.move (hs j (by have := h.lt; omega) (by omega)), hq _ _ (h3 j hj).1.q⟩, (h3 j hj).2⟩⟩, h.lt, fun j h4 h5 => ?_, ⟨hx, fun _ => ⟨S, hS, hl, hh, hO⟩⟩, hq _ _ h.q, h.ap⟩
  obtain ⟨⟨zs, k1⟩, us, k2⟩ := h.todo j h4 h5
  exact ⟨⟨zs, k1.move (hs j h5 (by omega))⟩, us, hq _ _ k2⟩
theorem MarkW.queue {S : Nat} {ys' : List Int} (h : MarkW lo hi n w ps k m xs ys) (hn : 0 < (mAt ps k).t.queue.length) (hS : (mAt ps k).qa = some ⟨S, 0, none⟩) (hl : lo ≤ S) (hh : S < hi) (ho : Dw.Own w S 3 1 (mAt ps k).qc (mAt ps k).t.queue.length (ys.flatMap icell)) (hg : w.grownBy w' (some S)) (hx : ys'.length = (mAt ps k).t.queue.length) (hO : Dw.Own w' S 3 1 (mAt ps k).qc (mAt ps k).t.queue.length (ys'.flatMap icell)) : MarkW lo hi n w' ps k m xs ys' := by
  have hs : ∀ j, j < ps.length → j ≠ k → ∀ b, 0 < (mAt ps j).t.queue.length → (mAt ps j).qa = some ⟨b, 0, none⟩ → Mv w w' b := fun j hj hne b hn2 hb => mv_ne hg fun e => by
    subst e
    exact (h.ap j k _ _ (mAt_get hj) (mAt_get h.lt) hne).2 hn2 hn (hb.trans hS.symm)
  have hq : ∀ (m : MTh) (zs : List Rt), MemS lo hi w m zs → MemS lo hi w' m zs := fun m zs hz => ⟨hz.1, fun hn2 => by
    obtain ⟨B, e, h1, h2, h3⟩ := hz.2 hn2
    obtain ⟨_, _, hb, _⟩ := ho.blk
    exact ⟨B, e, h1, h2, h3.grown hg (some_ne (own_blk_ne h3 hb (by decide)))⟩⟩
  obtain ⟨s, h1, h2, h3⟩ := h.st
  refine ⟨⟨s, h1, h2, fun j hj => ⟨⟨(h3 j hj).1.eq, hq _ _ (h3 j hj).1.s, (h3 j hj).1.q.move (hs j (by have := h.lt; omega) (by omega))⟩, (h3 j hj).2⟩⟩, h.lt, fun j h4 h5 => ?_, hq _ _ h.s, ⟨hx, fun _ => ⟨S, hS, hl, hh, hO⟩⟩, h.ap⟩
  obtain ⟨⟨zs, k1⟩, us, k2⟩ := h.todo j h4 h5
  exact ⟨⟨zs, hq _ _ k1⟩, us, k2.move (hs j h5 (by omega))⟩
theorem mAt_set2 {i j : Nat} {x : MTh} (hi : i < ps.length) : mAt (ps.set i x) j = if j = i then x else mAt ps j := mAt_set hi
theorem MarkW.next (h : MarkW lo hi n w ps k m (marksR (m + 1 + 1 + 1 + 1 + 1) (mAt ps k).t.slots.length) (marksQ (m + 1 + 1 + 1 + 1 + 1 + 5 * ((mAt ps k).t.slots.length : Int)) (mAt ps k).t.queue.length)) : MarkI lo hi n w (ps.set k (rowK (mAt ps k) m)) (k + 1) (nxt (mAt ps k) m) := by
  obtain ⟨s, h1, h2, h3⟩ := h.st
  have hlt := h.lt
  obtain ⟨S, hS1, hS2⟩ : ∃ S : Nat → Int, (∀ j, j ≤ k → S j = s j) ∧ S (k + 1) = nxt (mAt ps k) m := ⟨fun j => if j ≤ k then s j else nxt (mAt ps k) m, fun j hj => if_pos hj, if_neg (by omega)⟩
  refine ⟨⟨S, (hS1 0 (Nat.zero_le _)).trans h1, hS2, fun j hj => ?_⟩, fun j h4 h5 => ?_, fun i j x y hx hy hne => ?_⟩
  · rw [mAt_set2 hlt]
    by_cases e : j = k
    · subst e
      rw [if_pos rfl, hS1 _ (Nat.le_refl _), hS2, h2]
      exact ⟨⟨rfl, h.s, h.q⟩, rfl⟩
    · rw [if_neg e, hS1 j (by omega), hS1 (j + 1) (by omega)]
      exact h3 j (by omega)
  · rw [List.length_set] at h5
    rw [mAt_set2 hlt, if_neg (by omega)]
    exact h.todo j (by omega) h5
  · have key : ∀ (i : Nat) (x : MTh), (ps.set k (rowK (mAt ps k) m))[i]? = some x → ∃ x', ps[i]? = some x' ∧ x.sa = x'.sa ∧ x.qa = x'.qa ∧ x.t.slots = x'.t.slots ∧ x.t.queue = x'.t.queue := fun i x hx => by
      rw [List.getElem?_set] at hx
      by_cases e : k = i
      · subst e
        rw [if_pos rfl, if_pos hlt] at hx
        cases hx
        exact ⟨_, mAt_get hlt, rfl, rfl, rfl, rfl⟩
      · rw [if_neg e] at hx
        exact ⟨x, hx, rfl, rfl, rfl, rfl⟩
    obtain ⟨x', e1, e2, e3, e4, e5⟩ := key i x hx
    obtain ⟨y', f1, f2, f3, f4, f5⟩ := key j y hy
    rw [e2, e3, e4, e5, f2, f3, f4, f5]
    exact h.ap i j x' y' e1 f1 hne
end
def TabI (lo hi : Nat) (n : Int) (w : World) (a : Option Addr) (us : List MTh) (k : Nat) (m : Int) : Prop := (0 < us.length → ∃ C, a = some ⟨C, 0, none⟩ ∧ lo ≤ C ∧ C < hi ∧ Blk w C 35 (us.flatMap MTh.cells).toArray) ∧ MarkI lo hi n w us k m
theorem TabI.low {lo hi k : Nat} {n m : Int} {w w' : World} {a : Option Addr} {us : List MTh} (h : TabI lo hi n w a us k m) (hg : w.grownBy w' none) : TabI lo hi n w' a us k m := ⟨fun hn => let ⟨C, e, h1, h2, h3⟩ := h.1 hn; ⟨C, e, h1, h2, h3.grown0 hg⟩, h.2.low hg⟩
theorem ownZ_mem {lo hi sz cap n : Nat} {w : World} {a : Option Addr} {T : TypeId} {vs : List Value} (h : OwnZ lo w a T sz cap n vs) (hs : w.heap.size ≤ hi) : MemZ lo hi w a T sz cap n vs := fun hn => let ⟨B, e, h1, h2⟩ := h hn; ⟨B, e, h1, Nat.lt_of_lt_of_le h2.lt hs, h2⟩
theorem TabZ.start {lo hi : Nat} {n : Int} {w : World} {a : Option Addr} {us : List MTh} (h : TabZ lo w a us) (hs : w.heap.size ≤ hi) : TabI lo hi n w a us 0 n :=
  ⟨fun hn => let ⟨C, e, h1, h2⟩ := h.tab hn; ⟨C, e, h1, Nat.lt_of_lt_of_le h2.lt hs, h2⟩, ⟨fun _ => n, rfl, rfl, fun j hj => absurd hj (Nat.not_lt_zero _)⟩, fun j _ hj => ⟨⟨_, rfl, ownZ_mem (h.row _ (List.mem_of_getElem? (mAt_get hj))).s hs⟩, _, rfl, ownZ_mem (h.row _ (List.mem_of_getElem? (mAt_get hj))).q hs⟩, h.ap⟩
theorem TabZ.keepsI {lo lo' hi' : Nat} {K : List TypeId} {w w' : World} {a : Option Addr} {us : List MTh} (h : TabZ lo w a us) (hk : KeepsI lo' hi' K w w') (hl : hi' ≤ lo) : TabZ lo w' a us :=
  ⟨fun hn => let ⟨C, e, h1, h2⟩ := h.tab hn; ⟨C, e, h1, h2.keepsI hk (.inr (.inl (by omega)))⟩, fun m hm => ⟨fun hn => let ⟨B, e, h1, h2⟩ := (h.row m hm).s hn; ⟨B, e, h1, h2.keepsI hk (.inr (.inl (by omega)))⟩, fun hn => let ⟨B, e, h1, h2⟩ := (h.row m hm).q hn; ⟨B, e, h1, h2.keepsI hk (.inr (.inl (by omega)))⟩⟩, h.ap⟩
theorem TabZ.low {lo : Nat} {w w' : World} {a : Option Addr} {us : List MTh} (h : TabZ lo w a us) (hg : w.grownBy w' none) : TabZ lo w' a us := h.keepsI (hi' := lo) (K := []) (lo' := 0) (KeepsI.of0 hg) (Nat.le_refl _)
theorem ownZ_sl {α : Type} {g : α → List Value} {lo sz cap : Nat} {w : World} {a : Option Addr} {T : TypeId} {xs : List α} (hg : Wide g sz) (h : OwnZ lo w a T sz cap xs.length (xs.flatMap g)) : SlAt w a sz (xs.map g) := by
  rcases Nat.eq_zero_or_pos xs.length with h0 | h0
  · rw [List.eq_nil_of_length_eq_zero h0]
    exact fun k x hk => by simp at hk
  · obtain ⟨B, rfl, _, h2⟩ := h h0
    exact Own.sl hg h2
theorem TabZ.at {lo : Nat} {w w' : World} {a : Option Addr} {us : List MTh} (h : TabZ lo w' a us) (ht : TabAt w a us) : TabAt w' a us := by
  refine ⟨?_, fun m hm => ⟨ownZ_sl wide_rt (h.row m hm).s, ownZ_sl wide_int (h.row m hm).q, (ht.2 m hm).2.2⟩⟩
  rcases Nat.eq_zero_or_pos us.length with h0 | h0
  · rw [List.eq_nil_of_length_eq_zero h0]
    exact fun k x hk => by simp at hk
  · obtain ⟨C, rfl, _, h2⟩ := h.tab h0
    exact rows_sl wide_mth h2
theorem ApZ.nil : ApZ [] := fun i j x y hx => by simp at hx
theorem ApZ.snoc {lo lo' : Nat} {w w' : World} {ys : List MTh} {m : MTh} (h : ApZ ys) (hr : RowsS 74 3 lo w ys) (hm : RowS 74 3 lo' w' m) (hl : w.heap.size ≤ lo') : ApZ (ys ++ [m]) := by
  obtain ⟨⟨S, _, e1, e2, _⟩, ⟨Q, _, e3, e4, _⟩, _, _⟩ := hm
  have hS : ∀ x ∈ ys, x.sa ≠ m.sa ∧ x.qa ≠ m.qa := fun x hx => by
    obtain ⟨⟨S', _, k1, _, _, _, k2⟩, ⟨Q', _, k3, _, _, _, k4⟩, _, _⟩ := hr x hx
    have h1 := k2.lt
    have h2 := k4.lt
    rw [k1, k3, e1, e3]
    exact ⟨fun e => by cases e; omega, fun e => by cases e; omega⟩
  have key : ∀ (i : Nat) (x : MTh), (ys ++ [m])[i]? = some x → (i < ys.length ∧ ys[i]? = some x) ∨ (i = ys.length ∧ x = m) := fun i x hx => by
    rcases Nat.lt_or_ge i ys.length with h1 | h1
    · rw [List.getElem?_append_left h1] at hx; exact .inl ⟨h1, hx⟩
    · have h2 := (List.getElem?_eq_some_iff.1 hx).1
      rw [List.length_append, List.length_singleton] at h2
      have h3 : i = ys.length := by omega
      subst h3
      rw [List.getElem?_append_right (Nat.le_refl _), Nat.sub_self] at hx
      exact .inr ⟨rfl, by simpa using hx.symm⟩
  intro i j x y hx hy hne
  rcases key i x hx with ⟨h1, h2⟩ | ⟨h1, rfl⟩
  · rcases key j y hy with ⟨h3, h4⟩ | ⟨h3, rfl⟩
    · exact h i j x y h2 h4 hne
    · exact ⟨fun _ _ => (hS x (List.mem_of_getElem? h2)).1, fun _ _ => (hS x (List.mem_of_getElem? h2)).2⟩
  · rcases key j y hy with ⟨h3, h4⟩ | ⟨h3, rfl⟩
    · exact ⟨fun _ _ => (hS y (List.mem_of_getElem? h4)).1.symm, fun _ _ => (hS y (List.mem_of_getElem? h4)).2.symm⟩
    · omega
theorem tabI_copy {w0 w1 w : World} {B : Nat} {ys : List MTh} {n : Int} (hge : w0.heap.size ≤ B) (hb : Blk w1 B 35 (ys.flatMap MTh.cells).toArray) (hr : RowsS 74 3 w0.heap.size w1 ys) (ha : ApZ ys) (hg : w1.grownBy w none) : TabI w0.heap.size w1.heap.size n w (some ⟨B, 0, none⟩) ys 0 n := by
  refine TabI.low ⟨fun _ => ⟨B, rfl, hge, hb.lt, hb⟩, ⟨fun _ => n, rfl, rfl, fun j hj => absurd hj (Nat.not_lt_zero _)⟩, fun j _ hj => ?_, ha⟩ hg
  obtain ⟨⟨S, xs, e1, e2, e3, e4, e5⟩, ⟨Q, zs, f1, f2, f3, f4, f5⟩, h3, h4⟩ := hr _ (List.mem_of_getElem? (mAt_get hj))
  refine ⟨⟨xs, e4, fun _ => ⟨S, e1, e2, e5.lt, ?_⟩⟩, zs, f4, fun _ => ⟨Q, f1, f2, f5.lt, ?_⟩⟩
  · rw [e3, ← e4]; exact Own.rows wide_rt e5 (by omega)
  · rw [f3, ← f4]; exact Own.rows wide_int f5 (by omega)
theorem rowM_get {lo hi : Nat} {w : World} {ps : List MTh} {k : Nat} {x : Int} (h : RowM lo hi w (mAt ps k) x) (hk : k < ps.length) : ps[k]? = some (rowK (mAt ps k) x) := by
  rw [mAt_get hk, ← h.eq]
section
variable [Comp] {lo hi : Nat} {n m : Int} {w : World} {ps : List MTh} {k : Nat} {xs : List Rt} {ys : List Int}
def StepZ (lo hi : Nat) (w w' : World) : Prop := ∃ S : Nat, (∀ (B cap q : Nat) (vs : List Value), Dw.Own w B 35 8 cap q vs → B ≠ S) ∧ w.grownBy w' (some S) ∧ KeepsI lo hi [35, 74, 3] w w'
theorem stepZ_none {w' : World} (hg : w.grownBy w' none) : StepZ lo hi w w' := ⟨w.heap.size, fun B cap q vs h => Nat.ne_of_lt h.lt, ⟨hg.os, hg.tape, hg.output, hg.size, fun b hb _ => hg.block b hb (by simp)⟩, KeepsI.of0 hg⟩
theorem stepZ_own {w' : World} {S sz cap q : Nat} {T : TypeId} {vs : List Value} (ho : Dw.Own w S T sz cap q vs) (hg : w.grownBy w' (some S)) (hT : T = 74 ∨ T = 3) (hl : lo ≤ S) (hh : S < hi) : StepZ lo hi w w' := by
  refine ⟨S, fun B cap q vs h => ?_, hg, KeepsI.own (KeepsI.refl w) hg ho (by rcases hT with rfl | rfl <;> decide) hl hh⟩
  obtain ⟨_, _, hb, _⟩ := ho.blk
  exact own_blk_ne h hb (by rcases hT with rfl | rfl <;> decide)
theorem markR_z (x : Int) (hx : 0 ≤ x ∧ x ≤ 1125899906842624) (h : MarkW lo hi n w ps k m xs ys) (hl : (mAt ps k).t.slots.length ≤ 1048576) : CallsR Try.prog 66 #[.slice (mAt ps k).sa (mAt ps k).t.slots.length (mAt ps k).sc, .int .i64 x] w (fun v w' => v = .int .i64 (x + 5 * ((mAt ps k).t.slots.length : Int)) ∧ MarkW lo hi n w' ps k m (marksR x (mAt ps k).t.slots.length) ys ∧ StepZ lo hi w w') := by
  obtain ⟨e, hs⟩ := h.s
  rcases Nat.eq_zero_or_pos (mAt ps k).t.slots.length with h0 | h0
  · have hx0 : marksR x (mAt ps k).t.slots.length = xs := by rw [h0, List.eq_nil_of_length_eq_zero (e.trans h0)]; rfl
    rw [hx0, h0]
    refine CallsR.mono (markRightS_0 x _ _ w) ?_
    rintro _ w' ⟨rfl, hg⟩
    exact ⟨congrArg (Value.int .i64) (by simp), h.low hg, stepZ_none hg⟩
  · obtain ⟨S, e1, h1, h2, h3⟩ := hs h0
    have h3' := h3
    rw [← e] at h3'
    have := markRightS_c x hx S (mAt ps k).sc xs w h3' (by omega)
    rw [e] at this
    rw [e1]
    refine CallsR.mono this ?_
    rintro _ w' ⟨rfl, hO, hg⟩
    rw [List.length_map, List.length_range] at hO
    refine ⟨rfl, h.slots h0 e1 h1 h2 h3 hg marksR_len hO, stepZ_own h3 hg (.inl rfl) h1 h2⟩
theorem markQ_z (x : Int) (hx : 0 ≤ x ∧ x ≤ 1125899906842624) (h : MarkW lo hi n w ps k m xs ys) (hl : (mAt ps k).t.queue.length ≤ 1048576) : CallsR Try.prog 67 #[.slice (mAt ps k).qa (mAt ps k).t.queue.length (mAt ps k).qc, .int .i64 x] w (fun v w' => v = .int .i64 (x + ((mAt ps k).t.queue.length : Int)) ∧ MarkW lo hi n w' ps k m xs (marksQ x (mAt ps k).t.queue.length) ∧ StepZ lo hi w w') := by
  obtain ⟨e, hs⟩ := h.q
  rcases Nat.eq_zero_or_pos (mAt ps k).t.queue.length with h0 | h0
  · have hx0 : marksQ x (mAt ps k).t.queue.length = ys := by rw [h0, List.eq_nil_of_length_eq_zero (e.trans h0)]; rfl
    rw [hx0, h0]
    refine CallsR.mono (markIntS_0 x _ _ w) ?_
    rintro _ w' ⟨rfl, hg⟩
    exact ⟨congrArg (Value.int .i64) (by simp), h.low hg, stepZ_none hg⟩
  · obtain ⟨S, e1, h1, h2, h3⟩ := hs h0
    have h3' := h3
    rw [← e] at h3'
    have := markIntS_c x hx S (mAt ps k).qc ys w h3' (by omega)
    rw [e] at this
    rw [e1]
    refine CallsR.mono this ?_
    rintro _ w' ⟨rfl, hO, hg⟩
    rw [List.length_map, List.length_range] at hO
    refine ⟨rfl, h.queue h0 e1 h1 h2 h3 hg marksQ_len hO, stepZ_own h3 hg (.inr rfl) h1 h2⟩
theorem heldR_z {q : MTh} (x : Int) (hx : 0 ≤ x ∧ x ≤ 1125899906842624) (h : MemS lo hi w q (marksR x q.t.slots.length)) (hl : q.t.slots.length ≤ 1048576) : CallsR Try.prog 68 #[.slice q.sa q.t.slots.length q.sc, .int .i64 x] w (fun v w' => v = .int .i64 (x + 5 * (q.t.slots.length : Int)) ∧ w.grownBy w' none) := by
  rcases Nat.eq_zero_or_pos q.t.slots.length with h0 | h0
  · rw [h0]
    refine CallsR.mono (heldRightS_0 x _ _ w) ?_
    rintro _ w' ⟨rfl, hg⟩
    exact ⟨congrArg (Value.int .i64) (by simp), hg⟩
  · obtain ⟨S, e1, h1, h2, h3⟩ := h.2 h0
    have := heldRightS_c x hx S q.sc (marksR x q.t.slots.length) w (by rw [marksR_len]; exact h3) (by rw [marksR_len]; exact hl) fun k hk => marks_get (by rwa [marksR_len] at hk)
    rw [marksR_len] at this
    rw [e1]
    exact this
theorem heldQ_z {q : MTh} (x : Int) (hx : 0 ≤ x ∧ x ≤ 1125899906842624) (h : MemQ lo hi w q (marksQ x q.t.queue.length)) (hl : q.t.queue.length ≤ 1048576) : CallsR Try.prog 69 #[.slice q.qa q.t.queue.length q.qc, .int .i64 x] w (fun v w' => v = .int .i64 (x + (q.t.queue.length : Int)) ∧ w.grownBy w' none) := by
  rcases Nat.eq_zero_or_pos q.t.queue.length with h0 | h0
  · rw [h0]
    refine CallsR.mono (heldIntS_0 x _ _ w) ?_
    rintro _ w' ⟨rfl, hg⟩
    exact ⟨congrArg (Value.int .i64) (by simp), hg⟩
  · obtain ⟨S, e1, h1, h2, h3⟩ := h.2 h0
    have := heldIntS_c x hx S q.qc (marksQ x q.t.queue.length) w (by rw [marksQ_len]; exact h3) (by rw [marksQ_len]; exact hl) fun k hk => marksI_get (by rwa [marksQ_len] at hk)
    rw [marksQ_len] at this
    rw [e1]
    exact this
end
end Go.Dw.J
end
section
namespace Go.Dw.J
open Go.RowKit Go.Dw Go.Proofs
set_option linter.unusedSectionVars false
set_option maxRecDepth 100000
set_option maxHeartbeats 4000000
set_option linter.unusedSimpArgs false
set_option linter.unusedVariables false
theorem gf_66 : goFn Try.prog 66 = true := by kernel_rfl
theorem gf_67 : goFn Try.prog 67 = true := by kernel_rfl
theorem gf_68 : goFn Try.prog 68 = true := by kernel_rfl
theorem gf_69 : goFn Try.prog 69 = true := by kernel_rfl
theorem markThingS_0 [Comp] (n : Int) (a : Option Addr) (c : Nat) (w : World) : CallsR Try.prog 32 #[.slice a 0 c, .int .i64 n] w (fun v w' => v = .int .i64 n ∧ w.grownBy w' none) := by
 refine calls_of_wpf (n := 71) Try.func32 rfl Try.ntmps32 rfl ?_
 have hb0 := World.grownBy.refl w none
 refine wpf_seq_region ?_
 refine wpo_assign (v := .int .i64 0) rfl rfl ?_
 refine wpo_nil ?_
 refine wpf_seq ?_
 refine wpf_seq_region ?_
 refine wpo_assign (v := .int .i64 0) rfl rfl ?_
 refine wpo_nil ?_
 refine wpf_block ?_
 refine wpf_loopN (fun mm f' w' => mm = 0 ∧ f' 1 = .int .i64 n ∧ f' 5 = .int .i64 0 ∧ f' 0 = .slice a 0 c ∧ f' 4 = .int .i64 0 ∧ w.grownBy w' none) (0) ⟨rfl, rfl, rfl, rfl, rfl, hb0⟩ ?_
 rintro mm f101 w102 ⟨hm104, e105, e106, e107, e108, hb103⟩
 refine wpf_seq ?_
 refine wpf_seq_region ?_
 refine wpo_move (v := .int .i64 0) e106 rfl ?_
 refine wpo_move (v := .slice a 0 c) e107 rfl ?_
 refine wpo_len (by kernel_rfl) rfl rfl ?_
 refine wpo_lss (q := false) rfl rfl (by decide) rfl ?_
 refine wpo_nil ?_
 refine wpf_condf rfl rfl ?_
 refine wpf_exit ?_
 refine thn_e ?_
 refine thn_e ?_
 refine blk_e ?_
 refine thn_n ?_
 refine wpf_seq_region ?_
 refine wpo_move (v := .int .i64 n) e105 rfl ?_
 refine wpo_assign (v := .int .i64 n) rfl rfl ?_
 refine wpo_nil ?_
 refine wpf_ret ?_
 refine ⟨.int .i64 n, res1 rfl rfl, rfl, hb103⟩
theorem heldThingS_0 [Comp] (n : Int) (a : Option Addr) (c : Nat) (w : World) : CallsR Try.prog 33 #[.slice a 0 c, .int .i64 n] w (fun v w' => v = .int .i64 n ∧ w.grownBy w' none) := by
 refine calls_of_wpf (n := 87) Try.func33 rfl Try.ntmps33 rfl ?_
 have hb0 := World.grownBy.refl w none
 refine wpf_seq_region ?_
 refine wpo_assign (v := .int .i64 0) rfl rfl ?_
 refine wpo_nil ?_
 refine wpf_seq ?_
 refine wpf_seq_region ?_
 refine wpo_assign (v := .int .i64 0) rfl rfl ?_
 refine wpo_nil ?_
 refine wpf_block ?_
 refine wpf_loopN (fun mm f' w' => mm = 0 ∧ f' 1 = .int .i64 n ∧ f' 5 = .int .i64 0 ∧ f' 0 = .slice a 0 c ∧ w.grownBy w' none) (0) ⟨rfl, rfl, rfl, rfl, hb0⟩ ?_
 rintro mm f101 w102 ⟨hm104, e105, e106, e107, hb103⟩
 refine wpf_seq ?_
 refine wpf_seq_region ?_
 refine wpo_move (v := .int .i64 0) e106 rfl ?_
 refine wpo_move (v := .slice a 0 c) e107 rfl ?_
 refine wpo_len (by kernel_rfl) rfl rfl ?_
 refine wpo_lss (q := false) rfl rfl (by decide) rfl ?_
 refine wpo_nil ?_
 refine wpf_condf rfl rfl ?_
 refine wpf_exit ?_
 refine thn_e ?_
 refine thn_e ?_
 refine blk_e ?_
 refine thn_n ?_
 refine wpf_seq_region ?_
 refine wpo_move (v := .int .i64 n) e105 rfl ?_
 refine wpo_assign (v := .int .i64 n) rfl rfl ?_
 refine wpo_nil ?_
 refine wpf_ret ?_
 refine ⟨.int .i64 n, res1 rfl rfl, rfl, hb103⟩
theorem toThing_d [Comp] (w : World) (q : MTh) (hq : ThAt w q) (hn : q.t.slots.length ≤ 1048576 ∧ q.t.queue.length ≤ 1048576) : CallsR Try.prog 64 #[.agg #[.int .i64 q.t.kind, .int .i64 q.t.lab.s, .int .i64 q.t.lab.v, .int .i64 q.t.ve, .int .i64 q.t.num, .slice q.sa q.t.slots.length q.sc, .slice q.qa q.t.queue.length q.qc, .int .i64 q.t.to]] w (fun v w' => ∃ m : MTh, v = .agg #[.int .i64 m.t.kind, .int .i64 m.t.lab.s, .int .i64 m.t.lab.v, .int .i64 m.t.ve, .int .i64 m.t.num, .slice m.sa m.t.slots.length m.sc, .slice m.qa m.t.queue.length m.qc, .int .i64 m.t.to] ∧ m.t = q.t ∧ (∀ b, b < w.heap.size → ThX (some b) w' m) ∧ RowS 74 3 w.heap.size w' m ∧ w.grownBy w' none) := by
 refine calls_of_wpf (n := 29) Try.func64 rfl Try.ntmps64 rfl ?_
 have hb0 := World.grownBy.refl w none
 refine wpf_seq_region ?_
 refine wpo_box (v := .agg #[.int .i64 q.t.kind, .int .i64 q.t.lab.s, .int .i64 q.t.lab.v, .int .i64 q.t.ve, .int .i64 q.t.num, .slice q.sa q.t.slots.length q.sc, .slice q.qa q.t.queue.length q.qc, .int .i64 q.t.to]) (cs := #[.int .i64 q.t.kind, .int .i64 q.t.lab.s, .int .i64 q.t.lab.v, .int .i64 q.t.ve, .int .i64 q.t.num, .slice q.sa q.t.slots.length q.sc, .slice q.qa q.t.queue.length q.qc, .int .i64 q.t.to]) rfl rfl rfl ?_
 intro B101 w102 hN103
 have hlB101 := hN_ge hN103 hb0
 have hb104 := low0 hb0 hN103.grw
 refine wpo_alloc (cs := #[.int .i64 0, .int .i64 0, .int .i64 0, .int .i64 0, .int .i64 0, .slice none 0 0, .slice none 0 0, .int .i64 0]) zt_35 rfl rfl ?_
 intro B105 w106 hN107
 have hlB105 := hN_ge hN107 hb104
 have lt_B101_B105 := hN_gtl hN107 (hN103.blk).lt
 have hb108 := low0 hb104 hN107.grw
 refine wpo_nil ?_
 refine wpf_seq_region ?_
 refine wpo_alloc (cs := #[.int .i64 0, .int .i64 0, .int .i64 0, .int .i64 0, .int .i64 0, .slice none 0 0, .slice none 0 0, .int .i64 0]) zt_35 rfl rfl ?_
 intro B109 w110 hN111
 have hlB109 := hN_ge hN111 hb108
 have k112 := (hN103.blk.grown0 hN107.grw)
 have lt_B101_B109 := hN_gtl hN111 (k112).lt
 have lt_B105_B109 := hN_gtl hN111 (hN107.blk).lt
 have hb113 := low0 hb108 hN111.grw
 refine wpo_nil ?_
 refine wpf_seq_region ?_
 refine wpo_fieldAddr (o' := 0) fo_92_0 rfl rfl rfl ?_
 have k114 := (k112.grown0 hN111.grw)
 refine wpo_load1 (v := .int .i64 q.t.kind) ot_3 rfl (k114.cell rfl) rfl ?_
 refine wpo_fieldAddr (o' := 0) fo_35_0 rfl rfl rfl ?_
 refine wpo_store1 (v := .int .i64 q.t.kind) (cs' := #[.int .i64 q.t.kind, .int .i64 0, .int .i64 0, .int .i64 0, .int .i64 0, .slice none 0 0, .slice none 0 0, .int .i64 0]) ot_3 rfl rfl rfl hN111.blk (Nat.le_of_ble_eq_true rfl) rfl ?_
 intro w115 hS116
 have hb117 := low1 hb113 hS116.grw (by omega)
 refine wpo_nil ?_
 refine wpf_seq_region ?_
 refine wpo_fieldAddr (o' := 1) fo_92_1 rfl rfl rfl ?_
 have k118 := (k114.gn hS116.grw)
 refine wpo_loadn (vs := [.int .i64 q.t.lab.s, .int .i64 q.t.lab.v]) rt_50 rfl rfl (k118.rangeL 1 2 rfl) rfl ?_
 refine wpo_call (vs := [.agg #[.int .i64 q.t.lab.s, .int .i64 q.t.lab.v]]) gf_30 (args_cons rfl args_nil) rfl (toLabel_c q.t.lab _) ?_
 rintro _ w119 ⟨rfl, hg120⟩
 have hb121 := low0 hb117 hg120
 refine wpo_fieldAddr (o' := 1) fo_35_1 rfl rfl rfl ?_
 have k122 := (hS116.blk.grown0 hg120)
 refine wpo_storen (vs := [.int .i64 q.t.lab.s, .int .i64 q.t.lab.v]) (cs' := #[.int .i64 q.t.kind, .int .i64 q.t.lab.s, .int .i64 q.t.lab.v, .int .i64 0, .int .i64 0, .slice none 0 0, .slice none 0 0, .int .i64 0]) rt_25 rfl rfl rfl (by simp [Value.oneCell']) k122 (Nat.le_of_ble_eq_true rfl) rfl ?_
 intro w123 hS124
 have hb125 := low1 hb121 hS124.grw (by omega)
 refine wpo_nil ?_
 refine wpf_seq_region ?_
 refine wpo_fieldAddr (o' := 3) fo_92_2 rfl rfl rfl ?_
 have k126 := ((k118.grown0 hg120).gn hS124.grw)
 refine wpo_load1 (v := .int .i64 q.t.ve) ot_3 rfl (k126.cell rfl) rfl ?_
 refine wpo_fieldAddr (o' := 3) fo_35_2 rfl rfl rfl ?_
 refine wpo_store1 (v := .int .i64 q.t.ve) (cs' := #[.int .i64 q.t.kind, .int .i64 q.t.lab.s, .int .i64 q.t.lab.v, .int .i64 q.t.ve, .int .i64 0, .slice none 0 0, .slice none 0 0, .int .i64 0]) ot_3 rfl rfl rfl hS124.blk (Nat.le_of_ble_eq_true rfl) rfl ?_
 intro w127 hS128
 have hb129 := low1 hb125 hS128.grw (by omega)
 refine wpo_nil ?_
 refine wpf_seq_region ?_
 refine wpo_fieldAddr (o' := 4) fo_92_3 rfl rfl rfl ?_
 have k130 := (k126.gn hS128.grw)
 refine wpo_load1 (v := .int .i64 q.t.num) ot_3 rfl (k130.cell rfl) rfl ?_
 refine wpo_fieldAddr (o' := 4) fo_35_3 rfl rfl rfl ?_
 refine wpo_store1 (v := .int .i64 q.t.num) (cs' := #[.int .i64 q.t.kind, .int .i64 q.t.lab.s, .int .i64 q.t.lab.v, .int .i64 q.t.ve, .int .i64 q.t.num, .slice none 0 0, .slice none 0 0, .int .i64 0]) ot_3 rfl rfl rfl hS128.blk (Nat.le_of_ble_eq_true rfl) rfl ?_
 intro w131 hS132
 have hb133 := low1 hb129 hS132.grw (by omega)
 refine wpo_nil ?_
 refine wpf_seq_region ?_
 refine wpo_fieldAddr (o' := 5) fo_92_4 rfl rfl rfl ?_
 have k134 := (k130.gn hS132.grw)
 refine wpo_load1 (v := .slice q.sa q.t.slots.length q.sc) ot_90 rfl (k134.cell rfl) rfl ?_
 have k135 := ((((((hN107.blk.grown0 hN111.grw).gn hS116.grw).grown0 hg120).gn hS124.grw).gn hS128.grw).gn hS132.grw)
 refine wpo_call (vs := [.slice q.sa q.t.slots.length q.sc]) gf_104 (args_cons rfl args_nil) rfl (toRightS_c _ q.t.slots _ _ (ThAt.low hq hb133).1 (by omega)) ?_
 rintro _ w140 ⟨B136, rfl, hge137, k138, hg139⟩
 have hb141 := low0 hb133 hg139
 have hlB136 := Nat.le_trans hb133.size hge137
 have lt_B101_B136 := Nat.lt_of_lt_of_le (k134).lt hge137
 have lt_B105_B136 := Nat.lt_of_lt_of_le (k135).lt hge137
 have lt_B109_B136 := Nat.lt_of_lt_of_le (hS132.blk).lt hge137
 refine wpo_fieldAddr (o' := 5) fo_35_4 rfl rfl rfl ?_
 have k142 := (hS132.blk.grown0 hg139)
 refine wpo_store1 (v := .slice (some ⟨B136, 0, none⟩) q.t.slots.length q.t.slots.length) (cs' := #[.int .i64 q.t.kind, .int .i64 q.t.lab.s, .int .i64 q.t.lab.v, .int .i64 q.t.ve, .int .i64 q.t.num, .slice (some ⟨B136, 0, none⟩) q.t.slots.length q.t.slots.length, .slice none 0 0, .int .i64 0]) ot_32 rfl rfl rfl k142 (Nat.le_of_ble_eq_true rfl) rfl ?_
 intro w143 hS144
 have hb145 := low1 hb141 hS144.grw (by omega)
 refine wpo_nil ?_
 refine wpf_seq_region ?_
 refine wpo_fieldAddr (o' := 6) fo_92_5 rfl rfl rfl ?_
 have k146 := ((k134.grown0 hg139).gn hS144.grw)
 refine wpo_load1 (v := .slice q.qa q.t.queue.length q.qc) ot_33 rfl (k146.cell rfl) rfl ?_
 have k147 := ((k135.grown0 hg139).gn hS144.grw)
 have k148 := (k138.gn hS144.grw)
 refine wpo_call (vs := [.slice q.qa q.t.queue.length q.qc]) gf_105 (args_cons rfl args_nil) rfl (toIntS_c _ q.t.queue _ _ (ThAt.low hq hb145).2.1 (by omega)) ?_
 rintro _ w153 ⟨B149, rfl, hge150, k151, hg152⟩
 have hb154 := low0 hb145 hg152
 have hlB149 := Nat.le_trans hb145.size hge150
 have lt_B101_B149 := Nat.lt_of_lt_of_le (k146).lt hge150
 have lt_B105_B149 := Nat.lt_of_lt_of_le (k147).lt hge150
 have lt_B109_B149 := Nat.lt_of_lt_of_le (hS144.blk).lt hge150
 have lt_B136_B149 := Nat.lt_of_lt_of_le (k148).lt hge150
 refine wpo_fieldAddr (o' := 6) fo_35_5 rfl rfl rfl ?_
 have k155 := (hS144.blk.grown0 hg152)
 refine wpo_store1 (v := .slice (some ⟨B149, 0, none⟩) q.t.queue.length q.t.queue.length) (cs' := #[.int .i64 q.t.kind, .int .i64 q.t.lab.s, .int .i64 q.t.lab.v, .int .i64 q.t.ve, .int .i64 q.t.num, .slice (some ⟨B136, 0, none⟩) q.t.slots.length q.t.slots.length, .slice (some ⟨B149, 0, none⟩) q.t.queue.length q.t.queue.length, .int .i64 0]) ot_33 rfl rfl rfl k155 (Nat.le_of_ble_eq_true rfl) rfl ?_
 intro w156 hS157
 have hb158 := low1 hb154 hS157.grw (by omega)
 refine wpo_nil ?_
 refine wpf_seq_region ?_
 refine wpo_fieldAddr (o' := 7) fo_92_6 rfl rfl rfl ?_
 have k159 := ((k146.grown0 hg152).gn hS157.grw)
 refine wpo_load1 (v := .int .i64 q.t.to) ot_3 rfl (k159.cell rfl) rfl ?_
 refine wpo_fieldAddr (o' := 7) fo_35_6 rfl rfl rfl ?_
 refine wpo_store1 (v := .int .i64 q.t.to) (cs' := #[.int .i64 q.t.kind, .int .i64 q.t.lab.s, .int .i64 q.t.lab.v, .int .i64 q.t.ve, .int .i64 q.t.num, .slice (some ⟨B136, 0, none⟩) q.t.slots.length q.t.slots.length, .slice (some ⟨B149, 0, none⟩) q.t.queue.length q.t.queue.length, .int .i64 q.t.to]) ot_3 rfl rfl rfl hS157.blk (Nat.le_of_ble_eq_true rfl) rfl ?_
 intro w160 hS161
 have hb162 := low1 hb158 hS161.grw (by omega)
 refine wpo_nil ?_
 refine wpf_seq_region ?_
 refine wpo_loadn (vs := [.int .i64 q.t.kind, .int .i64 q.t.lab.s, .int .i64 q.t.lab.v, .int .i64 q.t.ve, .int .i64 q.t.num, .slice (some ⟨B136, 0, none⟩) q.t.slots.length q.t.slots.length, .slice (some ⟨B149, 0, none⟩) q.t.queue.length q.t.queue.length, .int .i64 q.t.to]) rt_35 rfl rfl (hS161.blk.rangeL 0 8 rfl) rfl ?_
 have k163 := (((k147.grown0 hg152).gn hS157.grw).gn hS161.grw)
 refine wpo_storen (vs := [.int .i64 q.t.kind, .int .i64 q.t.lab.s, .int .i64 q.t.lab.v, .int .i64 q.t.ve, .int .i64 q.t.num, .slice (some ⟨B136, 0, none⟩) q.t.slots.length q.t.slots.length, .slice (some ⟨B149, 0, none⟩) q.t.queue.length q.t.queue.length, .int .i64 q.t.to]) (cs' := #[.int .i64 q.t.kind, .int .i64 q.t.lab.s, .int .i64 q.t.lab.v, .int .i64 q.t.ve, .int .i64 q.t.num, .slice (some ⟨B136, 0, none⟩) q.t.slots.length q.t.slots.length, .slice (some ⟨B149, 0, none⟩) q.t.queue.length q.t.queue.length, .int .i64 q.t.to]) rt_35 rfl rfl rfl (by simp [Value.oneCell']) k163 (Nat.le_of_ble_eq_true rfl) rfl ?_
 intro w164 hS165
 have hb166 := low1 hb162 hS165.grw (by omega)
 refine wpo_nil ?_
 refine wpf_ret ?_
 have k167 := ((((k148.grown0 hg152).gn hS157.grw).gn hS161.grw).gn hS165.grw)
 have k168 := (((k151.gn hS157.grw).gn hS161.grw).gn hS165.grw)
 refine ⟨.agg #[.int .i64 q.t.kind, .int .i64 q.t.lab.s, .int .i64 q.t.lab.v, .int .i64 q.t.ve, .int .i64 q.t.num, .slice (some ⟨B136, 0, none⟩) q.t.slots.length q.t.slots.length, .slice (some ⟨B149, 0, none⟩) q.t.queue.length q.t.queue.length, .int .i64 q.t.to], resC rfl (resCell_mk (vs := [.int .i64 q.t.kind, .int .i64 q.t.lab.s, .int .i64 q.t.lab.v, .int .i64 q.t.ve, .int .i64 q.t.num, .slice (some ⟨B136, 0, none⟩) q.t.slots.length q.t.slots.length, .slice (some ⟨B149, 0, none⟩) q.t.queue.length q.t.queue.length, .int .i64 q.t.to]) rt_35 rfl rfl (hS165.blk.rangeL 0 8 rfl)), ⟨q.t, some ⟨B136, 0, none⟩, q.t.slots.length, some ⟨B149, 0, none⟩, q.t.queue.length⟩, rfl, rfl, fun b hb => ⟨SlX.rows wide_rt k167 (some_ne (by omega)), SlX.rows wide_int k168 (some_ne (by omega)), (fun h => by cases h), (fun h => by cases h)⟩, ⟨⟨B136, _, rfl, hlB136, rfl, rfl, k167⟩, ⟨B149, _, rfl, hlB149, rfl, rfl, k168⟩, hn.1, hn.2⟩, hb166⟩
theorem toThingS_d [Comp] (w : World) (ms : List MTh) (a : Option Addr) (c : Nat) (ht : TabAt w a ms) (hlen : TabLen ms) (hn : ms.length ≤ 1048576) : CallsR Try.prog 29 #[.slice a ms.length c] w (fun v w' => ∃ (B : Nat) (ys : List MTh), v = .slice (some ⟨B, 0, none⟩) ys.length ys.length ∧ tabT ys = tabT ms ∧ w.heap.size ≤ B ∧ Blk w' B 35 (ys.flatMap MTh.cells).toArray ∧ (∀ m ∈ ys, ThX (some B) w' m) ∧ RowsS 74 3 w.heap.size w' ys ∧ ApZ ys ∧ w.grownBy w' none) := by
 refine calls_of_wpf (n := 23) Try.func29 rfl Try.ntmps29 rfl ?_
 have hb0 := World.grownBy.refl w none
 refine wpf_seq_region ?_
 refine wpo_assign (v := .slice none 0 0) rfl rfl ?_
 refine wpo_nil ?_
 refine wpf_seq_region ?_
 refine wpo_move (v := .slice a ms.length c) rfl rfl ?_
 refine wpo_len (by kernel_rfl) rfl rfl ?_
 refine wpo_make (g := MTh.cells) (z := MTh.zero) (c := ms.length) mk_23 rfl wide_mth (by omega) rfl rfl (by omega) (by omega) rfl ?_
 intro B101 w102 hN103
 have hlB101 := hN_ge hN103 hb0
 have hb104 := low0 hb0 hN103.grw
 refine wpo_assign (v := .slice (some ⟨B101, 0, none⟩) ms.length ms.length) rfl rfl ?_
 refine wpo_nil ?_
 refine wpf_seq ?_
 refine wpf_seq_region ?_
 refine wpo_assign (v := .int .i64 0) rfl rfl ?_
 refine wpo_nil ?_
 refine wpf_block ?_
 refine wpf_loopN (fun mm f' w' => ∃ (k : Nat) (ys : List MTh), mm = ms.length - k ∧ k ≤ ms.length ∧ ys.length = k ∧ tabT ys = (tabT ms).take k ∧ (∀ x ∈ ys, ThX (some B101) w' x) ∧ (∀ x ∈ ys, RowS 74 3 w.heap.size w' x) ∧ ApZ ys ∧ f' 4 = .int .i64 (k : Int) ∧ f' 0 = .slice a ms.length c ∧ f' 2 = .slice none 0 0 ∧ f' 3 = .slice (some ⟨B101, 0, none⟩) ms.length ms.length ∧ w.grownBy w' none ∧ Blk w' B101 35 ((padM ms.length ys).flatMap MTh.cells).toArray) (ms.length - 0) ⟨0, ([] : List MTh), rfl, (Nat.zero_le _), rfl, rfl, (fun x hx => by simp at hx), (fun x hx => by simp at hx), ApZ.nil, rfl, rfl, rfl, rfl, hb104, (by rw [padM_zero]; exact hN103.blk)⟩ ?_
 rintro mm f105 w106 ⟨k, ys, hm108, hk, hyk, hyt, hya, hyr, hap, e109, e110, e111, e112, hb107, k113⟩
 refine wpf_seq ?_
 refine wpf_seq_region ?_
 refine wpo_move (v := .int .i64 (k : Int)) e109 rfl ?_
 refine wpo_move (v := .slice a ms.length c) e110 rfl ?_
 refine wpo_len (by kernel_rfl) rfl rfl ?_
 refine wpo_lss (q := decide ((k : Int) < (ms.length : Int))) rfl rfl rfl rfl ?_
 refine wpo_nil ?_
 refine wpf_cond rfl (fun h114 => ?_) (fun h114 => ?_)
 ·
  have h115 := of_decide_eq_true h114
  refine wpf_skip ?_
  refine thn_n ?_
  refine wpf_seq ?_
  refine wpf_block ?_
  refine wpf_region ?_
  refine wpo_move (v := .slice (some ⟨B101, 0, none⟩) ms.length ms.length) e112 rfl ?_
  refine wpo_move (v := .int .i64 (k : Int)) e109 rfl ?_
  refine wpo_move (v := .slice a ms.length c) e110 rfl ?_
  refine wpo_move (v := .int .i64 (k : Int)) e109 rfl ?_
  obtain ⟨b118, q119, o120, ha121, ho122, hr123⟩ := SlAt.at (TabAt.low ht hb107).1 (map_get (mAt_get (show k < ms.length by omega)))
  have hle124 := TabLen.at hlen (mAt_get (show k < ms.length by omega))
  refine wpo_indexE es_49 rfl rfl ha121 ho122 (by omega) (by omega) rfl ?_
  refine wpo_loadn (vs := [.int .i64 ((mAt ms k).t.kind), .int .i64 ((mAt ms k).t.lab.s), .int .i64 ((mAt ms k).t.lab.v), .int .i64 ((mAt ms k).t.ve), .int .i64 ((mAt ms k).t.num), .slice ((mAt ms k).sa) ((mAt ms k).t.slots.length) ((mAt ms k).sc), .slice ((mAt ms k).qa) ((mAt ms k).t.queue.length) ((mAt ms k).qc), .int .i64 ((mAt ms k).t.to)]) rt_92 rfl rfl (range_sub hr123 0 8 rfl) rfl ?_
  have hR0125 : RowsS 74 3 w.heap.size w106 ys := fun x h => (hyr x h)
  refine wpo_call (vs := [.agg #[.int .i64 ((mAt ms k).t.kind), .int .i64 ((mAt ms k).t.lab.s), .int .i64 ((mAt ms k).t.lab.v), .int .i64 ((mAt ms k).t.ve), .int .i64 ((mAt ms k).t.num), .slice ((mAt ms k).sa) ((mAt ms k).t.slots.length) ((mAt ms k).sc), .slice ((mAt ms k).qa) ((mAt ms k).t.queue.length) ((mAt ms k).qc), .int .i64 ((mAt ms k).t.to)]]) gf_64 (args_cons rfl args_nil) rfl (toThing_d _ (mAt ms k) (TabAt.th (TabAt.low ht hb107) (mAt_get (show k < ms.length by omega))) (by omega)) ?_
  rintro _ w131 ⟨m126, rfl, he127, hX128, hRS129, hg130⟩
  have hA132 := ApZ.snoc hap hR0125 hRS129 (Nat.le_refl _)
  have hb133 := low0 hb107 hg130
  refine wpo_indexAddr (o' := k * 8) es_23 rfl rfl (by omega) (by omega) (by omega) rfl ?_
  have k134 := (k113.grown0 hg130)
  refine wpo_storen (vs := [.int .i64 m126.t.kind, .int .i64 m126.t.lab.s, .int .i64 m126.t.lab.v, .int .i64 m126.t.ve, .int .i64 m126.t.num, .slice m126.sa m126.t.slots.length m126.sc, .slice m126.qa m126.t.queue.length m126.qc, .int .i64 m126.t.to]) (cs' := (((padM ms.length ys).set k m126).flatMap MTh.cells).toArray) rt_35 rfl rfl rfl (by simp [Value.oneCell']) k134 (rows_le wide_mth (by rw [padM_len (by omega)]; omega)) (rows_setA wide_mth (by rw [padM_len (by omega)]; omega) m126) ?_
  intro w135 hS136
  have hb137 := low1 hb133 hS136.grw (by omega)
  refine wpo_nil ?_
  refine blk_n ?_
  refine thn_n ?_
  refine wpf_region ?_
  refine wpo_move (v := .int .i64 (k : Int)) e109 rfl ?_
  refine wpo_add (c := (k : Int) + 1) rfl rfl (by omega) (by omega) (by omega) rfl ?_
  refine wpo_assign (v := .int .i64 ((k : Int) + 1)) rfl rfl ?_
  refine wpo_nil ?_
  refine thn_n ?_
  exact ⟨ms.length - (k + 1), by omega, (k + 1), (ys ++ [m126]), rfl, (by omega), (by rw [List.length_append, hyk]; rfl), (tabT_snoc hyt (mAt_get (show k < ms.length by omega)) he127), (fun x hx => by rcases List.mem_append.1 hx with h | h; exact (((hya x h).low hg130).grown hS136.grw); (have e := List.mem_singleton.1 h; subst e; exact ((hX128 B101 (k113).lt).grown hS136.grw))), (fun x hx => by rcases List.mem_append.1 hx with h | h; exact (((hyr x h).low hg130).step hS136.grw k134 (by decide) (by decide)); (have e := List.mem_singleton.1 h; subst e; exact ((RowS.mono hRS129 hb107.size).step hS136.grw k134 (by decide) (by decide)))), hA132, rfl, e110, e111, e112, hb137, (by have kk := hS136.blk; rw [padM_set hyk (by omega)] at kk; exact kk)⟩
 ·
  have h138 := of_decide_eq_false h114
  refine wpf_exit ?_
  refine thn_e ?_
  refine thn_e ?_
  refine blk_e ?_
  refine thn_n ?_
  refine wpf_seq_region ?_
  refine wpo_move (v := .slice (some ⟨B101, 0, none⟩) ms.length ms.length) e112 rfl ?_
  refine wpo_assign (v := .slice (some ⟨B101, 0, none⟩) ms.length ms.length) rfl rfl ?_
  refine wpo_nil ?_
  refine wpf_ret ?_
  have hyl : ys.length = ms.length := by omega
  have kk := k113
  rw [padM_all hyl] at kk
  refine ⟨.slice (some ⟨B101, 0, none⟩) ms.length ms.length, res1 rfl rfl, B101, ys, by rw [hyl], tabT_all hyt (by omega), hlB101, kk, hya, hyr, hap, hb107⟩
theorem markThingS_z [Comp] (lo hi : Nat) (n : Int) (hn0 : 0 ≤ n ∧ n ≤ 1048576) (B c : Nat) (ms : List MTh) (w : World) (hB : Blk w B 35 (ms.flatMap MTh.cells).toArray) (hlo : lo ≤ B) (hhi : B < hi) (hI : MarkI lo hi n w ms 0 n) (hlen : TabLen ms) (hn : ms.length ≤ 1048576) : CallsR Try.prog 32 #[.slice (some ⟨B, 0, none⟩) ms.length c, .int .i64 n] w (fun v w' => ∃ (m : Int) (ps : List MTh), v = .int .i64 m ∧ n ≤ m ∧ m ≤ n + 6291462 * (ms.length : Int) ∧ ps.length = ms.length ∧ TabLen ps ∧ Blk w' B 35 (ps.flatMap MTh.cells).toArray ∧ MarkI lo hi n w' ps ps.length m ∧ KeepsI lo hi [35, 74, 3] w w') := by
 refine calls_of_wpf (n := 71) Try.func32 rfl Try.ntmps32 rfl ?_
 have hb0 : KeepsI lo hi [35, 74, 3] w w := KeepsI.refl w
 refine wpf_seq_region ?_
 refine wpo_assign (v := .int .i64 0) rfl rfl ?_
 refine wpo_nil ?_
 refine wpf_seq ?_
 refine wpf_seq_region ?_
 refine wpo_assign (v := .int .i64 0) rfl rfl ?_
 refine wpo_nil ?_
 refine wpf_block ?_
 refine wpf_loopN (fun mm f' w' => ∃ (k : Nat) (m : Int) (ps : List MTh), mm = ms.length - k ∧ k ≤ ms.length ∧ ps.length = ms.length ∧ (n ≤ m ∧ m ≤ n + 6291462 * (k : Int)) ∧ TabLen ps ∧ MarkI lo hi n w' ps k m ∧ f' 1 = .int .i64 m ∧ f' 5 = .int .i64 (k : Int) ∧ f' 0 = .slice (some ⟨B, 0, none⟩) ms.length c ∧ f' 4 = .int .i64 0 ∧ KeepsI lo hi [35, 74, 3] w w' ∧ Dw.Own w' B 35 8 ms.length ps.length (ps.flatMap MTh.cells)) (ms.length - 0) ⟨0, n, ms, rfl, (Nat.zero_le _), rfl, (by omega), hlen, hI, rfl, rfl, rfl, rfl, hb0, (Own.rows wide_mth hB (by omega))⟩ ?_
 rintro mm f101 w102 ⟨k, m, ps, hm104, hk, hpl, hmb, hlp, hrs, e105, e106, e107, e108, hb103, k109⟩
 refine wpf_seq ?_
 refine wpf_seq_region ?_
 refine wpo_move (v := .int .i64 (k : Int)) e106 rfl ?_
 refine wpo_move (v := .slice (some ⟨B, 0, none⟩) ms.length c) e107 rfl ?_
 refine wpo_len (by kernel_rfl) rfl rfl ?_
 refine wpo_lss (q := decide ((k : Int) < (ms.length : Int))) rfl rfl rfl rfl ?_
 refine wpo_nil ?_
 refine wpf_cond rfl (fun h110 => ?_) (fun h110 => ?_)
 ·
  have h111 := of_decide_eq_true h110
  refine wpf_skip ?_
  refine thn_n ?_
  refine wpf_seq ?_
  refine wpf_block ?_
  refine wpf_seq_region ?_
  refine wpo_move (v := .slice (some ⟨B, 0, none⟩) ms.length c) e107 rfl ?_
  refine wpo_move (v := .int .i64 (k : Int)) e106 rfl ?_
  refine wpo_move (v := .int .i64 m) e105 rfl ?_
  refine wpo_indexAddr (o' := k * 8) es_23 rfl rfl (by omega) (by omega) (by omega) rfl ?_
  refine wpo_fieldAddr (o' := k * 8) fo_35_0 rfl rfl rfl ?_
  refine wpo_store1O (g := MTh.cells) (j := 0) (z := (mAt ps k)) (z' := (⟨⟨m, ((mAt ps k).t.lab), (mAt ps k).t.ve, (mAt ps k).t.num, (mAt ps k).t.slots, (mAt ps k).t.queue, (mAt ps k).t.to⟩, (mAt ps k).sa, (mAt ps k).sc, (mAt ps k).qa, (mAt ps k).qc⟩ : MTh)) (v := .int .i64 m) ot_3 rfl rfl rfl wide_mth k109 (mAt_get (show k < ps.length by omega)) (by omega) rfl rfl ?_
  intro w112 hO113 hg114
  have hb115 := KeepsI.own hb103 hg114 k109 (by decide) (by omega) (by omega)
  refine wpo_nil ?_
  refine wpf_seq_region ?_
  refine wpo_move (v := .int .i64 m) e105 rfl ?_
  refine wpo_add (c := m + 1) rfl rfl (by omega) (by omega) (by omega) rfl ?_
  refine wpo_assign (v := .int .i64 (m + 1)) rfl rfl ?_
  refine wpo_nil ?_
  refine wpf_seq_region ?_
  refine wpo_move (v := .slice (some ⟨B, 0, none⟩) ms.length c) e107 rfl ?_
  refine wpo_move (v := .int .i64 (k : Int)) e106 rfl ?_
  refine wpo_move (v := .int .i64 (m + 1)) rfl rfl ?_
  refine wpo_indexAddr (o' := k * 8) es_23 rfl rfl (by omega) (by omega) (by omega) rfl ?_
  refine wpo_fieldAddr (o' := k * 8 + 1) fo_35_1 rfl rfl rfl ?_
  refine wpo_fieldAddr (o' := k * 8 + 1) fo_25_0 rfl rfl rfl ?_
  refine wpo_store1O (g := MTh.cells) (j := 1) (z := (⟨⟨m, ((mAt ps k).t.lab), (mAt ps k).t.ve, (mAt ps k).t.num, (mAt ps k).t.slots, (mAt ps k).t.queue, (mAt ps k).t.to⟩, (mAt ps k).sa, (mAt ps k).sc, (mAt ps k).qa, (mAt ps k).qc⟩ : MTh)) (z' := (⟨⟨m, ⟨m + 1, (mAt ps k).t.lab.v⟩, (mAt ps k).t.ve, (mAt ps k).t.num, (mAt ps k).t.slots, (mAt ps k).t.queue, (mAt ps k).t.to⟩, (mAt ps k).sa, (mAt ps k).sc, (mAt ps k).qa, (mAt ps k).qc⟩ : MTh)) (v := .int .i64 (m + 1)) ot_3 rfl rfl rfl wide_mth hO113 (get_set (mAt_get (show k < ps.length by omega))) (by omega) rfl rfl ?_
  intro w116 hO117 hg118
  have hb119 := KeepsI.own hb115 hg118 hO113 (by decide) (by omega) (by omega)
  refine wpo_nil ?_
  refine wpf_seq_region ?_
  refine wpo_move (v := .int .i64 (m + 1)) rfl rfl ?_
  refine wpo_add (c := m + 1 + 1) rfl rfl (by omega) (by omega) (by omega) rfl ?_
  refine wpo_assign (v := .int .i64 (m + 1 + 1)) rfl rfl ?_
  refine wpo_nil ?_
  refine wpf_seq_region ?_
  refine wpo_move (v := .slice (some ⟨B, 0, none⟩) ms.length c) e107 rfl ?_
  refine wpo_move (v := .int .i64 (k : Int)) e106 rfl ?_
  refine wpo_move (v := .int .i64 (m + 1 + 1)) rfl rfl ?_
  refine wpo_indexAddr (o' := k * 8) es_23 rfl rfl (by omega) (by omega) (by omega) rfl ?_
  refine wpo_fieldAddr (o' := k * 8 + 1) fo_35_1 rfl rfl rfl ?_
  refine wpo_fieldAddr (o' := k * 8 + 2) fo_25_1 rfl rfl rfl ?_
  refine wpo_store1O (g := MTh.cells) (j := 2) (z := (⟨⟨m, ⟨m + 1, (mAt ps k).t.lab.v⟩, (mAt ps k).t.ve, (mAt ps k).t.num, (mAt ps k).t.slots, (mAt ps k).t.queue, (mAt ps k).t.to⟩, (mAt ps k).sa, (mAt ps k).sc, (mAt ps k).qa, (mAt ps k).qc⟩ : MTh)) (z' := (⟨⟨m, ⟨m + 1, m + 1 + 1⟩, (mAt ps k).t.ve, (mAt ps k).t.num, (mAt ps k).t.slots, (mAt ps k).t.queue, (mAt ps k).t.to⟩, (mAt ps k).sa, (mAt ps k).sc, (mAt ps k).qa, (mAt ps k).qc⟩ : MTh)) (v := .int .i64 (m + 1 + 1)) ot_3 rfl rfl rfl wide_mth (Own.set2 hO117) (get_set (mAt_get (show k < ps.length by omega))) (by omega) rfl rfl ?_
  intro w120 hO121 hg122
  have hb123 := KeepsI.own hb119 hg122 (Own.set2 hO117) (by decide) (by omega) (by omega)
  refine wpo_nil ?_
  refine wpf_seq_region ?_
  refine wpo_move (v := .int .i64 (m + 1 + 1)) rfl rfl ?_
  refine wpo_add (c := m + 1 + 1 + 1) rfl rfl (by omega) (by omega) (by omega) rfl ?_
  refine wpo_assign (v := .int .i64 (m + 1 + 1 + 1)) rfl rfl ?_
  refine wpo_nil ?_
  refine wpf_seq_region ?_
  refine wpo_move (v := .slice (some ⟨B, 0, none⟩) ms.length c) e107 rfl ?_
  refine wpo_move (v := .int .i64 (k : Int)) e106 rfl ?_
  refine wpo_move (v := .int .i64 (m + 1 + 1 + 1)) rfl rfl ?_
  refine wpo_indexAddr (o' := k * 8) es_23 rfl rfl (by omega) (by omega) (by omega) rfl ?_
  refine wpo_fieldAddr (o' := k * 8 + 3) fo_35_2 rfl rfl rfl ?_
  refine wpo_store1O (g := MTh.cells) (j := 3) (z := (⟨⟨m, ⟨m + 1, m + 1 + 1⟩, (mAt ps k).t.ve, (mAt ps k).t.num, (mAt ps k).t.slots, (mAt ps k).t.queue, (mAt ps k).t.to⟩, (mAt ps k).sa, (mAt ps k).sc, (mAt ps k).qa, (mAt ps k).qc⟩ : MTh)) (z' := (⟨⟨m, ⟨m + 1, m + 1 + 1⟩, m + 1 + 1 + 1, (mAt ps k).t.num, (mAt ps k).t.slots, (mAt ps k).t.queue, (mAt ps k).t.to⟩, (mAt ps k).sa, (mAt ps k).sc, (mAt ps k).qa, (mAt ps k).qc⟩ : MTh)) (v := .int .i64 (m + 1 + 1 + 1)) ot_3 rfl rfl rfl wide_mth (Own.set2 hO121) (get_set (mAt_get (show k < ps.length by omega))) (by omega) rfl rfl ?_
  intro w124 hO125 hg126
  have hb127 := KeepsI.own hb123 hg126 (Own.set2 hO121) (by decide) (by omega) (by omega)
  refine wpo_nil ?_
  refine wpf_seq_region ?_
  refine wpo_move (v := .int .i64 (m + 1 + 1 + 1)) rfl rfl ?_
  refine wpo_add (c := m + 1 + 1 + 1 + 1) rfl rfl (by omega) (by omega) (by omega) rfl ?_
  refine wpo_assign (v := .int .i64 (m + 1 + 1 + 1 + 1)) rfl rfl ?_
  refine wpo_nil ?_
  refine wpf_seq_region ?_
  refine wpo_move (v := .slice (some ⟨B, 0, none⟩) ms.length c) e107 rfl ?_
  refine wpo_move (v := .int .i64 (k : Int)) e106 rfl ?_
  refine wpo_move (v := .int .i64 (m + 1 + 1 + 1 + 1)) rfl rfl ?_
  refine wpo_indexAddr (o' := k * 8) es_23 rfl rfl (by omega) (by omega) (by omega) rfl ?_
  refine wpo_fieldAddr (o' := k * 8 + 4) fo_35_3 rfl rfl rfl ?_
  refine wpo_store1O (g := MTh.cells) (j := 4) (z := (⟨⟨m, ⟨m + 1, m + 1 + 1⟩, m + 1 + 1 + 1, (mAt ps k).t.num, (mAt ps k).t.slots, (mAt ps k).t.queue, (mAt ps k).t.to⟩, (mAt ps k).sa, (mAt ps k).sc, (mAt ps k).qa, (mAt ps k).qc⟩ : MTh)) (z' := (⟨⟨m, ⟨m + 1, m + 1 + 1⟩, m + 1 + 1 + 1, m + 1 + 1 + 1 + 1, (mAt ps k).t.slots, (mAt ps k).t.queue, (mAt ps k).t.to⟩, (mAt ps k).sa, (mAt ps k).sc, (mAt ps k).qa, (mAt ps k).qc⟩ : MTh)) (v := .int .i64 (m + 1 + 1 + 1 + 1)) ot_3 rfl rfl rfl wide_mth (Own.set2 hO125) (get_set (mAt_get (show k < ps.length by omega))) (by omega) rfl rfl ?_
  intro w128 hO129 hg130
  have hb131 := KeepsI.own hb127 hg130 (Own.set2 hO125) (by decide) (by omega) (by omega)
  refine wpo_nil ?_
  refine wpf_seq_region ?_
  refine wpo_move (v := .int .i64 (m + 1 + 1 + 1 + 1)) rfl rfl ?_
  refine wpo_add (c := m + 1 + 1 + 1 + 1 + 1) rfl rfl (by omega) (by omega) (by omega) rfl ?_
  refine wpo_assign (v := .int .i64 (m + 1 + 1 + 1 + 1 + 1)) rfl rfl ?_
  refine wpo_nil ?_
  refine wpf_seq_region ?_
  refine wpo_move (v := .slice (some ⟨B, 0, none⟩) ms.length c) e107 rfl ?_
  refine wpo_move (v := .int .i64 (k : Int)) e106 rfl ?_
  refine wpo_indexAddr (o' := k * 8) es_23 rfl rfl (by omega) (by omega) (by omega) rfl ?_
  refine wpo_fieldAddr (o' := k * 8 + 5) fo_35_4 rfl rfl rfl ?_
  refine wpo_load1 (v := .slice ((mAt ps k).sa) ((mAt ps k).t.slots.length) ((mAt ps k).sc)) ot_32 rfl ((Own.range wide_mth (Own.set2 hO129) (get_set (mAt_get (show k < ps.length by omega)))) 5 _ rfl) rfl ?_
  refine wpo_move (v := .int .i64 (m + 1 + 1 + 1 + 1 + 1)) rfl rfl ?_
  obtain ⟨_, _, hMk132⟩ := MarkI.split (MarkI.own (MarkI.own (MarkI.own (MarkI.own (MarkI.own hrs hg114 k109) hg118 hO113) hg122 (Own.set2 hO117)) hg126 (Own.set2 hO121)) hg130 (Own.set2 hO125)) (show k < ps.length by omega)
  have hle133 := TabLen.at hlp (mAt_get (show k < ps.length by omega))
  refine wpo_call (vs := [.slice ((mAt ps k).sa) ((mAt ps k).t.slots.length) ((mAt ps k).sc), .int .i64 (m + 1 + 1 + 1 + 1 + 1)]) gf_66 (args_cons rfl (args_cons rfl args_nil)) rfl (markR_z (m + 1 + 1 + 1 + 1 + 1) (by omega) hMk132 hle133.1) ?_
  rintro _ w134 ⟨rfl, hMk139, S135, hne136, hg137, hK138⟩
  have ne_B_S135 := hne136 _ _ _ _ (Own.set2 hO129)
  have hb140 := KeepsI.trans hb131 hK138
  refine wpo_assign (v := .int .i64 (m + 1 + 1 + 1 + 1 + 1 + 5 * ((mAt ps k).t.slots.length : Int))) rfl rfl ?_
  refine wpo_nil ?_
  refine wpf_seq_region ?_
  refine wpo_move (v := .slice (some ⟨B, 0, none⟩) ms.length c) e107 rfl ?_
  refine wpo_move (v := .int .i64 (k : Int)) e106 rfl ?_
  refine wpo_indexAddr (o' := k * 8) es_23 rfl rfl (by omega) (by omega) (by omega) rfl ?_
  refine wpo_fieldAddr (o' := k * 8 + 6) fo_35_5 rfl rfl rfl ?_
  have k141 := ((Own.set2 hO129).gn hg137)
  refine wpo_load1 (v := .slice ((mAt ps k).qa) ((mAt ps k).t.queue.length) ((mAt ps k).qc)) ot_33 rfl ((Own.range wide_mth k141 (get_set (mAt_get (show k < ps.length by omega)))) 6 _ rfl) rfl ?_
  refine wpo_move (v := .int .i64 (m + 1 + 1 + 1 + 1 + 1 + 5 * ((mAt ps k).t.slots.length : Int))) rfl rfl ?_
  have hMk142 := hMk139
  have hle143 := TabLen.at hlp (mAt_get (show k < ps.length by omega))
  refine wpo_call (vs := [.slice ((mAt ps k).qa) ((mAt ps k).t.queue.length) ((mAt ps k).qc), .int .i64 (m + 1 + 1 + 1 + 1 + 1 + 5 * ((mAt ps k).t.slots.length : Int))]) gf_67 (args_cons rfl (args_cons rfl args_nil)) rfl (markQ_z (m + 1 + 1 + 1 + 1 + 1 + 5 * ((mAt ps k).t.slots.length : Int)) (by omega) hMk142 hle143.2) ?_
  rintro _ w144 ⟨rfl, hMk149, S145, hne146, hg147, hK148⟩
  have ne_B_S145 := hne146 _ _ _ _ k141
  have hb150 := KeepsI.trans hb140 hK148
  refine wpo_assign (v := .int .i64 (m + 1 + 1 + 1 + 1 + 1 + 5 * ((mAt ps k).t.slots.length : Int) + ((mAt ps k).t.queue.length : Int))) rfl rfl ?_
  refine wpo_nil ?_
  refine wpf_seq_region ?_
  refine wpo_move (v := .slice (some ⟨B, 0, none⟩) ms.length c) e107 rfl ?_
  refine wpo_move (v := .int .i64 (k : Int)) e106 rfl ?_
  refine wpo_move (v := .int .i64 (m + 1 + 1 + 1 + 1 + 1 + 5 * ((mAt ps k).t.slots.length : Int) + ((mAt ps k).t.queue.length : Int))) rfl rfl ?_
  refine wpo_indexAddr (o' := k * 8) es_23 rfl rfl (by omega) (by omega) (by omega) rfl ?_
  refine wpo_fieldAddr (o' := k * 8 + 7) fo_35_6 rfl rfl rfl ?_
  have k151 := (k141.gn hg147)
  refine wpo_store1O (g := MTh.cells) (j := 7) (z := (⟨⟨m, ⟨m + 1, m + 1 + 1⟩, m + 1 + 1 + 1, m + 1 + 1 + 1 + 1, (mAt ps k).t.slots, (mAt ps k).t.queue, (mAt ps k).t.to⟩, (mAt ps k).sa, (mAt ps k).sc, (mAt ps k).qa, (mAt ps k).qc⟩ : MTh)) (z' := (⟨⟨m, ⟨m + 1, m + 1 + 1⟩, m + 1 + 1 + 1, m + 1 + 1 + 1 + 1, (mAt ps k).t.slots, (mAt ps k).t.queue, m + 1 + 1 + 1 + 1 + 1 + 5 * ((mAt ps k).t.slots.length : Int) + ((mAt ps k).t.queue.length : Int)⟩, (mAt ps k).sa, (mAt ps k).sc, (mAt ps k).qa, (mAt ps k).qc⟩ : MTh)) (v := .int .i64 (m + 1 + 1 + 1 + 1 + 1 + 5 * ((mAt ps k).t.slots.length : Int) + ((mAt ps k).t.queue.length : Int))) ot_3 rfl rfl rfl wide_mth k151 (get_set (mAt_get (show k < ps.length by omega))) (by omega) rfl rfl ?_
  intro w152 hO153 hg154
  have hb155 := KeepsI.own hb150 hg154 k151 (by decide) (by omega) (by omega)
  refine wpo_nil ?_
  refine wpf_region ?_
  refine wpo_move (v := .int .i64 (m + 1 + 1 + 1 + 1 + 1 + 5 * ((mAt ps k).t.slots.length : Int) + ((mAt ps k).t.queue.length : Int))) rfl rfl ?_
  refine wpo_add (c := m + 1 + 1 + 1 + 1 + 1 + 5 * ((mAt ps k).t.slots.length : Int) + ((mAt ps k).t.queue.length : Int) + 1) rfl rfl (by omega) (by omega) (by omega) rfl ?_
  refine wpo_assign (v := .int .i64 (m + 1 + 1 + 1 + 1 + 1 + 5 * ((mAt ps k).t.slots.length : Int) + ((mAt ps k).t.queue.length : Int) + 1)) rfl rfl ?_
  refine wpo_nil ?_
  refine blk_n ?_
  refine thn_n ?_
  refine wpf_region ?_
  refine wpo_move (v := .int .i64 (k : Int)) e106 rfl ?_
  refine wpo_add (c := (k : Int) + 1) rfl rfl (by omega) (by omega) (by omega) rfl ?_
  refine wpo_assign (v := .int .i64 ((k : Int) + 1)) rfl rfl ?_
  refine wpo_nil ?_
  refine thn_n ?_
  exact ⟨ms.length - (k + 1), by omega, (k + 1), (m + 1 + 1 + 1 + 1 + 1 + 5 * ((mAt ps k).t.slots.length : Int) + ((mAt ps k).t.queue.length : Int) + 1), (ps.set k (⟨⟨m, ⟨m + 1, m + 1 + 1⟩, m + 1 + 1 + 1, m + 1 + 1 + 1 + 1, (mAt ps k).t.slots, (mAt ps k).t.queue, m + 1 + 1 + 1 + 1 + 1 + 5 * ((mAt ps k).t.slots.length : Int) + ((mAt ps k).t.queue.length : Int)⟩, (mAt ps k).sa, (mAt ps k).sc, (mAt ps k).qa, (mAt ps k).qc⟩ : MTh)), rfl, (by omega), (by rw [List.length_set]; omega), (by omega), (tabLen_set hlp (show k < ps.length by omega) rfl (Or.inl rfl)), (MarkW.next (MarkW.own hMk149 hg154 k151)), rfl, rfl, e107, e108, hb155, (Own.set2 hO153)⟩
 ·
  have h156 := of_decide_eq_false h110
  refine wpf_exit ?_
  refine thn_e ?_
  refine thn_e ?_
  refine blk_e ?_
  refine thn_n ?_
  refine wpf_seq_region ?_
  refine wpo_move (v := .int .i64 m) e105 rfl ?_
  refine wpo_assign (v := .int .i64 m) rfl rfl ?_
  refine wpo_nil ?_
  refine wpf_ret ?_
  have hke : k = ps.length := by omega
  have kk := hrs
  rw [hke] at kk
  have ko := k109
  rw [← hpl] at ko
  refine ⟨.int .i64 m, res1 rfl rfl, m, ps, rfl, by omega, by omega, hpl, hlp, Own.full ko, kk, hb103⟩
theorem heldThingS_z [Comp] (lo hi : Nat) (n : Int) (hn0 : 0 ≤ n ∧ n ≤ 1048576) (B c : Nat) (m : Int) (ps : List MTh) (w : World) (hB : Blk w B 35 (ps.flatMap MTh.cells).toArray) (hI : MarkI lo hi n w ps ps.length m) (hlen : TabLen ps) (hn : ps.length ≤ 1048576) : CallsR Try.prog 33 #[.slice (some ⟨B, 0, none⟩) ps.length c, .int .i64 n] w (fun v w' => v = .int .i64 m ∧ w.grownBy w' none) := by
 refine calls_of_wpf (n := 87) Try.func33 rfl Try.ntmps33 rfl ?_
 have hb0 := World.grownBy.refl w none
 obtain ⟨s, hs0, hse, hsj⟩ := hI.st
 refine wpf_seq_region ?_
 refine wpo_assign (v := .int .i64 0) rfl rfl ?_
 refine wpo_nil ?_
 refine wpf_seq ?_
 refine wpf_seq_region ?_
 refine wpo_assign (v := .int .i64 0) rfl rfl ?_
 refine wpo_nil ?_
 refine wpf_block ?_
 refine wpf_loopN (fun mm f' w' => ∃ (k : Nat), mm = ps.length - k ∧ k ≤ ps.length ∧ (0 ≤ s k ∧ s k ≤ n + 6291462 * (k : Int)) ∧ f' 1 = .int .i64 (s k) ∧ f' 5 = .int .i64 (k : Int) ∧ f' 0 = .slice (some ⟨B, 0, none⟩) ps.length c ∧ w.grownBy w' none ∧ Dw.Own w' B 35 8 ps.length ps.length (ps.flatMap MTh.cells)) (ps.length - 0) ⟨0, rfl, (Nat.zero_le _), (by omega), (congrArg (Value.int .i64) (by omega)), rfl, rfl, hb0, (Own.rows wide_mth hB (by omega))⟩ ?_
 rintro mm f101 w102 ⟨k, hm104, hk, hsb, e105, e106, e107, hb103, k108⟩
 refine wpf_seq ?_
 refine wpf_seq_region ?_
 refine wpo_move (v := .int .i64 (k : Int)) e106 rfl ?_
 refine wpo_move (v := .slice (some ⟨B, 0, none⟩) ps.length c) e107 rfl ?_
 refine wpo_len (by kernel_rfl) rfl rfl ?_
 refine wpo_lss (q := decide ((k : Int) < (ps.length : Int))) rfl rfl rfl rfl ?_
 refine wpo_nil ?_
 refine wpf_cond rfl (fun h109 => ?_) (fun h109 => ?_)
 ·
  have h110 := of_decide_eq_true h109
  refine wpf_skip ?_
  refine thn_n ?_
  refine wpf_seq ?_
  refine wpf_block ?_
  refine wpf_seq ?_
  refine wpf_seq_region ?_
  refine wpo_move (v := .slice (some ⟨B, 0, none⟩) ps.length c) e107 rfl ?_
  refine wpo_move (v := .int .i64 (k : Int)) e106 rfl ?_
  refine wpo_indexAddr (o' := k * 8) es_23 rfl rfl (by omega) (by omega) (by omega) rfl ?_
  refine wpo_fieldAddr (o' := k * 8) fo_35_0 rfl rfl rfl ?_
  have hsk := hsj k (show k < ps.length by omega)
  have hle := TabLen.at hlen (mAt_get (show k < ps.length by omega))
  have hnx : s (k + 1) = s k + 1 + 1 + 1 + 1 + 1 + 5 * ((mAt ps k).t.slots.length : Int) + ((mAt ps k).t.queue.length : Int) + 1 := hsk.2
  refine wpo_load1 (v := .int .i64 (s k)) ot_3 rfl ((Own.range wide_mth k108 (rowM_get hsk.1 (show k < ps.length by omega))) 0 _ rfl) rfl ?_
  refine wpo_move (v := .int .i64 (s k)) e105 rfl ?_
  refine wpo_neq (q := false) rfl rfl (by simp) rfl ?_
  refine wpo_nil ?_
  refine wpf_condf rfl rfl ?_
  refine wpf_skip ?_
  refine thn_n ?_
  refine wpf_seq_region ?_
  refine wpo_move (v := .int .i64 (s k)) e105 rfl ?_
  refine wpo_add (c := s k + 1) rfl rfl (by omega) (by omega) (by omega) rfl ?_
  refine wpo_assign (v := .int .i64 (s k + 1)) rfl rfl ?_
  refine wpo_nil ?_
  refine wpf_seq ?_
  refine wpf_seq_region ?_
  refine wpo_move (v := .slice (some ⟨B, 0, none⟩) ps.length c) e107 rfl ?_
  refine wpo_move (v := .int .i64 (k : Int)) e106 rfl ?_
  refine wpo_indexAddr (o' := k * 8) es_23 rfl rfl (by omega) (by omega) (by omega) rfl ?_
  refine wpo_fieldAddr (o' := k * 8 + 1) fo_35_1 rfl rfl rfl ?_
  refine wpo_fieldAddr (o' := k * 8 + 1) fo_25_0 rfl rfl rfl ?_
  refine wpo_load1 (v := .int .i64 (s k + 1)) ot_3 rfl ((Own.range wide_mth k108 (rowM_get hsk.1 (show k < ps.length by omega))) 1 _ rfl) rfl ?_
  refine wpo_move (v := .int .i64 (s k + 1)) rfl rfl ?_
  refine wpo_neq (q := false) rfl rfl (by simp) rfl ?_
  refine wpo_nil ?_
  refine wpf_condf rfl rfl ?_
  refine wpf_skip ?_
  refine thn_n ?_
  refine wpf_seq_region ?_
  refine wpo_move (v := .int .i64 (s k + 1)) rfl rfl ?_
  refine wpo_add (c := s k + 1 + 1) rfl rfl (by omega) (by omega) (by omega) rfl ?_
  refine wpo_assign (v := .int .i64 (s k + 1 + 1)) rfl rfl ?_
  refine wpo_nil ?_
  refine wpf_seq ?_
  refine wpf_seq_region ?_
  refine wpo_move (v := .slice (some ⟨B, 0, none⟩) ps.length c) e107 rfl ?_
  refine wpo_move (v := .int .i64 (k : Int)) e106 rfl ?_
  refine wpo_indexAddr (o' := k * 8) es_23 rfl rfl (by omega) (by omega) (by omega) rfl ?_
  refine wpo_fieldAddr (o' := k * 8 + 1) fo_35_1 rfl rfl rfl ?_
  refine wpo_fieldAddr (o' := k * 8 + 2) fo_25_1 rfl rfl rfl ?_
  refine wpo_load1 (v := .int .i64 (s k + 1 + 1)) ot_3 rfl ((Own.range wide_mth k108 (rowM_get hsk.1 (show k < ps.length by omega))) 2 _ rfl) rfl ?_
  refine wpo_move (v := .int .i64 (s k + 1 + 1)) rfl rfl ?_
  refine wpo_neq (q := false) rfl rfl (by simp) rfl ?_
  refine wpo_nil ?_
  refine wpf_condf rfl rfl ?_
  refine wpf_skip ?_
  refine thn_n ?_
  refine wpf_seq_region ?_
  refine wpo_move (v := .int .i64 (s k + 1 + 1)) rfl rfl ?_
  refine wpo_add (c := s k + 1 + 1 + 1) rfl rfl (by omega) (by omega) (by omega) rfl ?_
  refine wpo_assign (v := .int .i64 (s k + 1 + 1 + 1)) rfl rfl ?_
  refine wpo_nil ?_
  refine wpf_seq ?_
  refine wpf_seq_region ?_
  refine wpo_move (v := .slice (some ⟨B, 0, none⟩) ps.length c) e107 rfl ?_
  refine wpo_move (v := .int .i64 (k : Int)) e106 rfl ?_
  refine wpo_indexAddr (o' := k * 8) es_23 rfl rfl (by omega) (by omega) (by omega) rfl ?_
  refine wpo_fieldAddr (o' := k * 8 + 3) fo_35_2 rfl rfl rfl ?_
  refine wpo_load1 (v := .int .i64 (s k + 1 + 1 + 1)) ot_3 rfl ((Own.range wide_mth k108 (rowM_get hsk.1 (show k < ps.length by omega))) 3 _ rfl) rfl ?_
  refine wpo_move (v := .int .i64 (s k + 1 + 1 + 1)) rfl rfl ?_
  refine wpo_neq (q := false) rfl rfl (by simp) rfl ?_
  refine wpo_nil ?_
  refine wpf_condf rfl rfl ?_
  refine wpf_skip ?_
  refine thn_n ?_
  refine wpf_seq_region ?_
  refine wpo_move (v := .int .i64 (s k + 1 + 1 + 1)) rfl rfl ?_
  refine wpo_add (c := s k + 1 + 1 + 1 + 1) rfl rfl (by omega) (by omega) (by omega) rfl ?_
  refine wpo_assign (v := .int .i64 (s k + 1 + 1 + 1 + 1)) rfl rfl ?_
  refine wpo_nil ?_
  refine wpf_seq ?_
  refine wpf_seq_region ?_
  refine wpo_move (v := .slice (some ⟨B, 0, none⟩) ps.length c) e107 rfl ?_
  refine wpo_move (v := .int .i64 (k : Int)) e106 rfl ?_
  refine wpo_indexAddr (o' := k * 8) es_23 rfl rfl (by omega) (by omega) (by omega) rfl ?_
  refine wpo_fieldAddr (o' := k * 8 + 4) fo_35_3 rfl rfl rfl ?_
  refine wpo_load1 (v := .int .i64 (s k + 1 + 1 + 1 + 1)) ot_3 rfl ((Own.range wide_mth k108 (rowM_get hsk.1 (show k < ps.length by omega))) 4 _ rfl) rfl ?_
  refine wpo_move (v := .int .i64 (s k + 1 + 1 + 1 + 1)) rfl rfl ?_
  refine wpo_neq (q := false) rfl rfl (by simp) rfl ?_
  refine wpo_nil ?_
  refine wpf_condf rfl rfl ?_
  refine wpf_skip ?_
  refine thn_n ?_
  refine wpf_seq_region ?_
  refine wpo_move (v := .int .i64 (s k + 1 + 1 + 1 + 1)) rfl rfl ?_
  refine wpo_add (c := s k + 1 + 1 + 1 + 1 + 1) rfl rfl (by omega) (by omega) (by omega) rfl ?_
  refine wpo_assign (v := .int .i64 (s k + 1 + 1 + 1 + 1 + 1)) rfl rfl ?_
  refine wpo_nil ?_
  refine wpf_seq_region ?_
  refine wpo_move (v := .slice (some ⟨B, 0, none⟩) ps.length c) e107 rfl ?_
  refine wpo_move (v := .int .i64 (k : Int)) e106 rfl ?_
  refine wpo_indexAddr (o' := k * 8) es_23 rfl rfl (by omega) (by omega) (by omega) rfl ?_
  refine wpo_fieldAddr (o' := k * 8 + 5) fo_35_4 rfl rfl rfl ?_
  refine wpo_load1 (v := .slice ((mAt ps k).sa) ((mAt ps k).t.slots.length) ((mAt ps k).sc)) ot_32 rfl ((Own.range wide_mth k108 (rowM_get hsk.1 (show k < ps.length by omega))) 5 _ rfl) rfl ?_
  refine wpo_move (v := .int .i64 (s k + 1 + 1 + 1 + 1 + 1)) rfl rfl ?_
  refine wpo_call (vs := [.slice ((mAt ps k).sa) ((mAt ps k).t.slots.length) ((mAt ps k).sc), .int .i64 (s k + 1 + 1 + 1 + 1 + 1)]) gf_68 (args_cons rfl (args_cons rfl args_nil)) rfl (heldR_z (s k + 1 + 1 + 1 + 1 + 1) (by omega) (hsk.1.s.move fun b _ _ => mv_none hb103 b) hle.1) ?_
  rintro _ w111 ⟨rfl, hg112⟩
  have hb113 := low0 hb103 hg112
  refine wpo_assign (v := .int .i64 (s k + 1 + 1 + 1 + 1 + 1 + 5 * ((mAt ps k).t.slots.length : Int))) rfl rfl ?_
  refine wpo_nil ?_
  refine wpf_seq ?_
  refine wpf_seq_region ?_
  refine wpo_move (v := .int .i64 (s k + 1 + 1 + 1 + 1 + 1 + 5 * ((mAt ps k).t.slots.length : Int))) rfl rfl ?_
  refine wpo_lss (q := decide (s k + 1 + 1 + 1 + 1 + 1 + 5 * ((mAt ps k).t.slots.length : Int) < 0)) rfl rfl rfl rfl ?_
  refine wpo_nil ?_
  have h114 : decide (s k + 1 + 1 + 1 + 1 + 1 + 5 * ((mAt ps k).t.slots.length : Int) < 0) = false := decide_eq_false (by omega)
  have h115 := of_decide_eq_false h114
  refine wpf_condf rfl h114 ?_
  refine wpf_skip ?_
  refine thn_n ?_
  refine wpf_seq_region ?_
  refine wpo_move (v := .slice (some ⟨B, 0, none⟩) ps.length c) e107 rfl ?_
  refine wpo_move (v := .int .i64 (k : Int)) e106 rfl ?_
  refine wpo_indexAddr (o' := k * 8) es_23 rfl rfl (by omega) (by omega) (by omega) rfl ?_
  refine wpo_fieldAddr (o' := k * 8 + 6) fo_35_5 rfl rfl rfl ?_
  have k116 := (k108.grown0 hg112)
  refine wpo_load1 (v := .slice ((mAt ps k).qa) ((mAt ps k).t.queue.length) ((mAt ps k).qc)) ot_33 rfl ((Own.range wide_mth k116 (rowM_get hsk.1 (show k < ps.length by omega))) 6 _ rfl) rfl ?_
  refine wpo_move (v := .int .i64 (s k + 1 + 1 + 1 + 1 + 1 + 5 * ((mAt ps k).t.slots.length : Int))) rfl rfl ?_
  refine wpo_call (vs := [.slice ((mAt ps k).qa) ((mAt ps k).t.queue.length) ((mAt ps k).qc), .int .i64 (s k + 1 + 1 + 1 + 1 + 1 + 5 * ((mAt ps k).t.slots.length : Int))]) gf_69 (args_cons rfl (args_cons rfl args_nil)) rfl (heldQ_z (s k + 1 + 1 + 1 + 1 + 1 + 5 * ((mAt ps k).t.slots.length : Int)) (by omega) (hsk.1.q.move fun b _ _ => mv_none hb113 b) hle.2) ?_
  rintro _ w117 ⟨rfl, hg118⟩
  have hb119 := low0 hb113 hg118
  refine wpo_assign (v := .int .i64 (s k + 1 + 1 + 1 + 1 + 1 + 5 * ((mAt ps k).t.slots.length : Int) + ((mAt ps k).t.queue.length : Int))) rfl rfl ?_
  refine wpo_nil ?_
  refine wpf_seq ?_
  refine wpf_seq_region ?_
  refine wpo_move (v := .int .i64 (s k + 1 + 1 + 1 + 1 + 1 + 5 * ((mAt ps k).t.slots.length : Int) + ((mAt ps k).t.queue.length : Int))) rfl rfl ?_
  refine wpo_lss (q := decide (s k + 1 + 1 + 1 + 1 + 1 + 5 * ((mAt ps k).t.slots.length : Int) + ((mAt ps k).t.queue.length : Int) < 0)) rfl rfl rfl rfl ?_
  refine wpo_nil ?_
  have h120 : decide (s k + 1 + 1 + 1 + 1 + 1 + 5 * ((mAt ps k).t.slots.length : Int) + ((mAt ps k).t.queue.length : Int) < 0) = false := decide_eq_false (by omega)
  have h121 := of_decide_eq_false h120
  refine wpf_condf rfl h120 ?_
  refine wpf_skip ?_
  refine thn_n ?_
  refine wpf_seq ?_
  refine wpf_seq_region ?_
  refine wpo_move (v := .slice (some ⟨B, 0, none⟩) ps.length c) e107 rfl ?_
  refine wpo_move (v := .int .i64 (k : Int)) e106 rfl ?_
  refine wpo_indexAddr (o' := k * 8) es_23 rfl rfl (by omega) (by omega) (by omega) rfl ?_
  refine wpo_fieldAddr (o' := k * 8 + 7) fo_35_6 rfl rfl rfl ?_
  have k122 := (k116.grown0 hg118)
  refine wpo_load1 (v := .int .i64 (s k + 1 + 1 + 1 + 1 + 1 + 5 * ((mAt ps k).t.slots.length : Int) + ((mAt ps k).t.queue.length : Int))) ot_3 rfl ((Own.range wide_mth k122 (rowM_get hsk.1 (show k < ps.length by omega))) 7 _ rfl) rfl ?_
  refine wpo_move (v := .int .i64 (s k + 1 + 1 + 1 + 1 + 1 + 5 * ((mAt ps k).t.slots.length : Int) + ((mAt ps k).t.queue.length : Int))) rfl rfl ?_
  refine wpo_neq (q := false) rfl rfl (by simp) rfl ?_
  refine wpo_nil ?_
  refine wpf_condf rfl rfl ?_
  refine wpf_skip ?_
  refine thn_n ?_
  refine wpf_region ?_
  refine wpo_move (v := .int .i64 (s k + 1 + 1 + 1 + 1 + 1 + 5 * ((mAt ps k).t.slots.length : Int) + ((mAt ps k).t.queue.length : Int))) rfl rfl ?_
  refine wpo_add (c := s k + 1 + 1 + 1 + 1 + 1 + 5 * ((mAt ps k).t.slots.length : Int) + ((mAt ps k).t.queue.length : Int) + 1) rfl rfl (by omega) (by omega) (by omega) rfl ?_
  refine wpo_assign (v := .int .i64 (s k + 1 + 1 + 1 + 1 + 1 + 5 * ((mAt ps k).t.slots.length : Int) + ((mAt ps k).t.queue.length : Int) + 1)) rfl rfl ?_
  refine wpo_nil ?_
  refine blk_n ?_
  refine thn_n ?_
  refine wpf_region ?_
  refine wpo_move (v := .int .i64 (k : Int)) e106 rfl ?_
  refine wpo_add (c := (k : Int) + 1) rfl rfl (by omega) (by omega) (by omega) rfl ?_
  refine wpo_assign (v := .int .i64 ((k : Int) + 1)) rfl rfl ?_
  refine wpo_nil ?_
  refine thn_n ?_
  exact ⟨ps.length - (k + 1), by omega, (k + 1), rfl, (by omega), (by omega), (congrArg (Value.int .i64) (by omega)), rfl, e107, hb119, k122⟩
 ·
  have h123 := of_decide_eq_false h109
  refine wpf_exit ?_
  refine thn_e ?_
  refine thn_e ?_
  refine blk_e ?_
  refine thn_n ?_
  refine wpf_seq_region ?_
  refine wpo_move (v := .int .i64 (s k)) e105 rfl ?_
  refine wpo_assign (v := .int .i64 (s k)) rfl rfl ?_
  refine wpo_nil ?_
  refine wpf_ret ?_
  refine ⟨.int .i64 (s k), res1 rfl rfl, congrArg (Value.int .i64) (by have hke : k = ps.length := (by omega); rw [hke]; exact hse), hb103⟩
theorem markT_z [Comp] (lo hi : Nat) (n : Int) (hn0 : 0 ≤ n ∧ n ≤ 1048576) (a : Option Addr) (c : Nat) (us : List MTh) (w : World) (hI : TabI lo hi n w a us 0 n) (hlen : TabLen us) (hn : us.length ≤ 1048576) : CallsR Try.prog 32 #[.slice a us.length c, .int .i64 n] w (fun v w' => ∃ (m : Int) (ps : List MTh), v = .int .i64 m ∧ n ≤ m ∧ m ≤ n + 6291462 * (us.length : Int) ∧ ps.length = us.length ∧ TabLen ps ∧ TabI lo hi n w' a ps ps.length m ∧ KeepsI lo hi [35, 74, 3] w w') := by
  rcases Nat.eq_zero_or_pos us.length with h0 | h0
  · rw [h0]
    refine CallsR.mono (markThingS_0 n a c w) ?_
    rintro _ w' ⟨rfl, hg⟩
    have e := List.eq_nil_of_length_eq_zero h0
    subst e
    exact ⟨n, [], rfl, Int.le_refl _, by simp, rfl, hlen, hI.low hg, KeepsI.of0 hg⟩
  · obtain ⟨C, rfl, h1, h2, h3⟩ := hI.1 h0
    refine CallsR.mono (markThingS_z lo hi n hn0 C c us w h3 h1 h2 hI.2 hlen hn) ?_
    rintro _ w' ⟨m, ps, rfl, k1, k2, k3, k4, k5, k6, k7⟩
    exact ⟨m, ps, rfl, k1, k2, k3, k4, ⟨fun _ => ⟨C, rfl, h1, h2, k5⟩, k6⟩, k7⟩
theorem heldT_z [Comp] (lo hi : Nat) (n : Int) (hn0 : 0 ≤ n ∧ n ≤ 1048576) (a : Option Addr) (c L : Nat) (m : Int) (ps : List MTh) (w : World) (hL : ps.length = L) (hI : TabI lo hi n w a ps ps.length m) (hlen : TabLen ps) (hn : L ≤ 1048576) : CallsR Try.prog 33 #[.slice a L c, .int .i64 n] w (fun v w' => v = .int .i64 m ∧ w.grownBy w' none) := by
  subst hL
  rcases Nat.eq_zero_or_pos ps.length with h0 | h0
  · obtain ⟨s, hs0, hse, _⟩ := hI.2.st
    rw [h0] at hse ⊢
    have e : n = m := hs0.symm.trans hse
    subst e
    exact heldThingS_0 n a c w
  · obtain ⟨C, rfl, h1, h2, h3⟩ := hI.1 h0
    exact heldThingS_z lo hi n hn0 C c m ps w h3 hI.2 hlen hn
end Go.Dw.J
end
section
namespace Go.Dw.J
open Go.RowKit Go.Dw Go.Proofs
set_option linter.unusedSectionVars false
set_option maxRecDepth 100000
set_option maxHeartbeats 4000000
set_option linter.unusedSimpArgs false
set_option linter.unusedVariables false
theorem gf_12 : goFn Try.prog 12 = true := by kernel_rfl
theorem gf_14 : goFn Try.prog 14 = true := by kernel_rfl
theorem gf_28 : goFn Try.prog 28 = true := by kernel_rfl
theorem gf_29 : goFn Try.prog 29 = true := by kernel_rfl
theorem gf_31 : goFn Try.prog 31 = true := by kernel_rfl
theorem gf_32 : goFn Try.prog 32 = true := by kernel_rfl
theorem gf_33 : goFn Try.prog 33 = true := by kernel_rfl
theorem law_FnExactViewOf [Comp] [ViewRule] (l : Lab) (w : World) (ms : List MTh) (a : Option Addr) (c : Nat) (ht : TabAt w a ms) (hbig : TabBig ms) (hn : ms.length ≤ 9223372036854775807) (hKB : ViewRule.base ≤ w.heap.size) : Wpf Try.prog 77 (endQ Try.prog Try.f10 (fun v w' => v = .bool true ∧ w.grownBy w' none)) (Try.f10.body.getD .skip) (f0 #[.slice a ms.length c, .agg #[.int .i64 l.s, .int .i64 l.v]]) w := by
 have hb0 := World.grownBy.refl w none
 refine wpf_seq_region ?_
 refine wpo_box (v := .agg #[.int .i64 l.s, .int .i64 l.v]) (cs := #[.int .i64 l.s, .int .i64 l.v]) rfl rfl rfl ?_
 intro B101 w102 hN103
 have hlB101 := hN_ge hN103 hb0
 have hb104 := low0 hb0 hN103.grw
 refine wpo_assign (v := .bool false) rfl rfl ?_
 refine wpo_nil ?_
 refine wpf_seq_region ?_
 refine wpo_assign (v := .int .i64 1048576) rfl rfl ?_
 refine wpo_nil ?_
 refine wpf_seq_region ?_
 refine wpo_move (v := .slice a ms.length c) rfl rfl ?_
 refine wpo_move (v := .int .i64 1048576) rfl rfl ?_
 refine wpo_call (vs := [.slice a ms.length c, .int .i64 1048576]) gf_28 (args_cons rfl (args_cons rfl args_nil)) rfl (szThingS_c 1048576 _ ms _ _ (TabAt.low ht hb104) hbig (by omega) (by omega)) ?_
 rintro _ w105 ⟨n107, rfl, hn108, hn109, hn110, hg106⟩
 have hb111 := low0 hb104 hg106
 refine wpo_assign (v := .int .i64 n107) rfl rfl ?_
 refine wpo_nil ?_
 refine wpf_seq ?_
 refine wpf_seq_region ?_
 refine wpo_move (v := .int .i64 n107) rfl rfl ?_
 refine wpo_lss (q := decide (n107 < 0)) rfl rfl rfl rfl ?_
 refine wpo_nil ?_
 refine wpf_cond rfl (fun h112 => ?_) (fun h112 => ?_)
 ·
  have h113 := of_decide_eq_true h112
  refine wpf_seq_region ?_
  refine wpo_assign (v := .bool true) rfl rfl ?_
  refine wpo_nil ?_
  refine wpf_ret ?_
  refine thn_r ?_
  refine ⟨.bool true, res1 rfl rfl, ?_, hb111⟩
  rfl
 ·
  obtain ⟨hlen114, hn115⟩ := hn108 (by have hq := of_decide_eq_false h112; omega)
  have h116 := of_decide_eq_false h112
  refine wpf_skip ?_
  refine thn_n ?_
  refine wpf_seq ?_
  refine wpf_drawI (m := 3) [[], [0], [], [0, 1, 2], [0, 1, 2, 3], [0, 1, 2, 3, 4]] (fun S F w' => ∃ (B201 : Nat) (ys202 : List MTh), w105.grownBy w' none ∧ F 0 = .slice a ms.length c ∧ F 3 = .pointer (some ⟨B101, 0, none⟩) ∧ F 4 = .bool false ∧ (S 0 = true → F 18 = .slice a ms.length c) ∧ (S 1 = true → F 19 = .slice (some ⟨B201, 0, none⟩) ys202.length ys202.length ∧ tabT ys202 = tabT ms ∧ TabLen ys202 ∧ ys202.length = ms.length ∧ TabAt w' (some ⟨B201, 0, none⟩) ys202) ∧ (S 2 = true → F 20 = .agg #[.int .i64 l.s, .int .i64 l.v])) mixed_ (by kernel_rfl) ⟨0, [], grown_drew _, rfl, rfl, rfl, not_begun, not_begun, not_begun⟩ ?_ ?_
  ·
   refine preL_cons (fun S F w214 hS hbef hcl hI => ?_) ?_
   ·
    obtain ⟨B201, ys202, hi215, e216, e217, e218, c_0, c_1, c_2⟩ := hI
    have hb219 := low0 hb111 hi215
    refine wpo_move (v := .slice a ms.length c) e216 rfl ?_
    exact wpo_nil ⟨B201, ys202, hi215, e216, e217, e218, fun _ => rfl, fun h => undone 1 hS hcl rfl h, c_2⟩
   refine preL_cons (fun S F w220 hS hbef hcl hI => ?_) ?_
   ·
    obtain ⟨B201, ys202, hi221, e222, e223, e224, c_0, c_1, c_2⟩ := hI
    have hb225 := low0 hb111 hi221
    obtain e226 := c_0 (ready_of 0 hbef rfl)
    refine wpo_call (vs := [.slice a ms.length c]) gf_29 (args_cons e226 args_nil) rfl (toThingS_c _ ms _ _ (TabAt.low ht hb225) hlen114 (by omega)) ?_
    rintro _ w234 ⟨B227, ys228, rfl, he229, hge230, k231, hX232, hg233⟩
    have hb238 := low0 hb225 hg233
    have hT235 : TabAt w234 (some ⟨B227, 0, none⟩) ys228 := ⟨rows_sl wide_mth k231, fun m hm => (hX232 m hm).at⟩
    have hTl236 := TabLen.of he229 hlen114
    have hll237 := tabT_length he229
    exact wpo_nil ⟨B227, ys228, (low0 hi221 hg233), e222, e223, e224, c_0, fun _ => ⟨rfl, he229, hTl236, hll237, hT235⟩, c_2⟩
   refine preL_cons (fun S F w239 hS hbef hcl hI => ?_) ?_
   ·
    obtain ⟨B201, ys202, hi240, e241, e242, e243, c_0, c_1, c_2⟩ := hI
    have hb244 := low0 hb111 hi240
    have k245 := ((hN103.blk.grown0 hg106).grown0 hi240)
    refine wpo_loadn (vs := [.int .i64 l.s, .int .i64 l.v]) rt_50 e242 rfl (k245.rangeL 0 2 rfl) rfl ?_
    exact wpo_nil ⟨B201, ys202, hi240, e241, e242, e243, c_0, c_1, fun _ => rfl⟩
   exact preL_nil
  ·
   intro S F w246 hall hI
   obtain ⟨B201, ys202, hi247, e248, e249, e250, c_0, c_1, c_2⟩ := hI
   have hb251 := low0 hb111 hi247
   obtain e252 := c_0 (hall 0 (by decide))
   obtain ⟨e253, he203, hTl210, hll211, hT209⟩ := c_1 (hall 1 (by decide))
   obtain e254 := c_2 (hall 2 (by decide))
   refine wpo_call (vs := [.agg #[.int .i64 l.s, .int .i64 l.v]]) gf_30 (args_cons e254 args_nil) rfl (toLabel_c l _) ?_
   rintro _ w255 ⟨rfl, hg256⟩
   have hb257 := low0 hb251 hg256
   refine wpo_call (vs := [.slice (some ⟨B201, 0, none⟩) ys202.length ys202.length, .agg #[.int .i64 l.s, .int .i64 l.v]]) gf_14 (args_cons e253 (args_cons rfl args_nil)) rfl (sViewOf_c l _ ys202 _ _ (TabAt.low hT209 hg256) hTl210 (by omega)) ?_
   rintro _ w265 ⟨us258, a259, cap260, rfl, he261, hT262, hnc263, hg264⟩
   have hb268 := low0 hb257 hg264
   have hTl266 := viewTab_lens he261 hTl210
   have hll267 := viewTab_le he261
   have hc269 : tabT us258 = viewTab (tabT ms) l := by rw [← he203]; exact he261
   refine wpo_assign (v := .slice a259 us258.length cap260) rfl rfl ?_
   refine wpo_nil ?_
   refine thn_n ?_
   refine wpf_seq_region ?_
   refine wpo_move (v := .slice a ms.length c) e248 rfl ?_
   refine wpo_call (vs := [.slice a ms.length c]) gf_29 (args_cons rfl args_nil) rfl (toThingS_d _ ms _ _ (TabAt.low ht hb268) hlen114 (by omega)) ?_
   rintro _ w279 ⟨B270, ys271, rfl, he272, hge273, k274, hX275, hRS276, hA277, hg278⟩
   have hb283 := low0 hb268 hg278
   have hT280 : TabAt w279 (some ⟨B270, 0, none⟩) ys271 := ⟨rows_sl wide_mth k274, fun m hm => (hX275 m hm).at⟩
   have hTl281 := TabLen.of he272 hlen114
   have hll282 := tabT_length he272
   refine wpo_assign (v := .slice (some ⟨B270, 0, none⟩) ys271.length ys271.length) rfl rfl ?_
   refine wpo_nil ?_
   refine wpf_seq_region ?_
   refine wpo_move (v := .slice (some ⟨B270, 0, none⟩) ys271.length ys271.length) rfl rfl ?_
   have k284 := (((((hN103.blk.grown0 hg106).grown0 hi247).grown0 hg256).grown0 hg264).grown0 hg278)
   refine wpo_loadn (vs := [.int .i64 l.s, .int .i64 l.v]) rt_50 e249 rfl (k284.rangeL 0 2 rfl) rfl ?_
   refine wpo_call (vs := [.agg #[.int .i64 l.s, .int .i64 l.v]]) gf_30 (args_cons rfl args_nil) rfl (toLabel_c l _) ?_
   rintro _ w285 ⟨rfl, hg286⟩
   have hb287 := low0 hb283 hg286
   refine wpo_call (vs := [.slice (some ⟨B270, 0, none⟩) ys271.length ys271.length, .agg #[.int .i64 l.s, .int .i64 l.v]]) gf_12 (args_cons rfl (args_cons rfl args_nil)) rfl (ViewRule.rule _ ys271 _ _ l (Nat.le_trans hKB hb287.size) (TabAt.low hT280 hg286) hTl281 (by omega)) ?_
   rintro _ w296 ⟨us288, a289, cap290, rfl, he291, hT292, hnc293, hZ294, hg295⟩
   have hb299 := low0 hb287 hg295
   have hTl297 := viewTab_lens he291 hTl281
   have hll298 := viewTab_le he291
   have hc300 : tabT us288 = viewTab (tabT ms) l := by rw [← he272]; exact he291
   refine wpo_assign (v := .slice a289 us288.length cap290) rfl rfl ?_
   refine wpo_nil ?_
   refine wpf_seq ?_
   refine wpf_seq_region ?_
   refine wpo_move (v := .slice a289 us288.length cap290) rfl rfl ?_
   refine wpo_move (v := .slice a259 us258.length cap260) rfl rfl ?_
   refine wpo_call (vs := [.slice a289 us288.length cap290, .slice a259 us258.length cap260]) gf_31 (args_cons rfl (args_cons rfl args_nil)) rfl (eqThingS_c _ us288 us258 _ _ _ _ hT292 (TabAt.low hT262 (grown_trans (grown_trans hg278 hg286) hg295)) hTl297 hTl266 (by omega) (by omega)) ?_
   rintro _ w301 ⟨rfl, hg302⟩
   have hb303 := low0 hb299 hg302
   refine wpo_not (b' := false) (congrArg Value.bool (decide_eq_true (hc300.trans hc269.symm))) rfl rfl ?_
   refine wpo_nil ?_
   refine wpf_condf rfl rfl ?_
   refine wpf_skip ?_
   refine thn_n ?_
   refine wpf_seq ?_
   refine wpf_seq_region ?_
   refine wpo_move (v := .slice (some ⟨B270, 0, none⟩) ys271.length ys271.length) rfl rfl ?_
   refine wpo_move (v := .slice a ms.length c) e248 rfl ?_
   refine wpo_call (vs := [.slice a ms.length c]) gf_29 (args_cons rfl args_nil) rfl (toThingS_c _ ms _ _ (TabAt.low ht hb303) hlen114 (by omega)) ?_
   rintro _ w311 ⟨B304, ys305, rfl, he306, hge307, k308, hX309, hg310⟩
   have hb315 := low0 hb303 hg310
   have hT312 : TabAt w311 (some ⟨B304, 0, none⟩) ys305 := ⟨rows_sl wide_mth k308, fun m hm => (hX309 m hm).at⟩
   have hTl313 := TabLen.of he306 hlen114
   have hll314 := tabT_length he306
   refine wpo_call (vs := [.slice (some ⟨B270, 0, none⟩) ys271.length ys271.length, .slice (some ⟨B304, 0, none⟩) ys305.length ys305.length]) gf_31 (args_cons rfl (args_cons rfl args_nil)) rfl (eqThingS_c _ ys271 ys305 _ _ _ _ (TabAt.low hT280 (grown_trans (grown_trans (grown_trans hg286 hg295) hg302) hg310)) hT312 hTl281 hTl313 (by omega) (by omega)) ?_
   rintro _ w316 ⟨rfl, hg317⟩
   have hb318 := low0 hb315 hg317
   refine wpo_not (b' := false) (congrArg Value.bool (decide_eq_true (he272.trans he306.symm))) rfl rfl ?_
   refine wpo_nil ?_
   refine wpf_condf rfl rfl ?_
   refine wpf_skip ?_
   refine thn_n ?_
   refine wpf_seq_region ?_
   refine wpo_assign (v := .int .i64 1) rfl rfl ?_
   refine wpo_nil ?_
   refine wpf_seq_region ?_
   refine wpo_move (v := .slice (some ⟨B270, 0, none⟩) ys271.length ys271.length) rfl rfl ?_
   refine wpo_move (v := .int .i64 1) rfl rfl ?_
   have hI319 := tabI_copy (n := 1) hge273 k274 hRS276 hA277 (grown_trans (grown_trans (grown_trans (grown_trans hg286 hg295) hg302) hg310) hg317)
   have hlo320 : w.heap.size ≤ w265.heap.size := hb268.size
   have hs321 : w265.heap.size ≤ w265.heap.size := ((World.grownBy.refl _ none)).size
   have hG322 := (grown_trans (grown_trans (grown_trans (grown_trans (grown_trans hg278 hg286) hg295) hg302) hg310) hg317)
   have hZ323 := TabZ.low hZ294 (grown_trans (grown_trans hg302 hg310) hg317)
   have hT324 := (TabAt.low hT292 (grown_trans (grown_trans hg302 hg310) hg317))
   have hlz325 : w279.heap.size ≤ w285.heap.size := (hg286).size
   refine wpo_call (vs := [.slice (some ⟨B270, 0, none⟩) ys271.length ys271.length, .int .i64 1]) gf_32 (args_cons rfl (args_cons rfl args_nil)) rfl (markT_z _ _ 1 (by omega) _ _ ys271 _ hI319 hTl281 (by omega)) ?_
   rintro _ w334 ⟨m326, ps327, rfl, hm328, hm329, hpl330, hTl331, hI332, hK333⟩
   have hb335 := KeepsI.grown hb318 hK333 (by omega)
   have hG336 := KeepsI.grown hG322 hK333 hs321
   have hT337 := TabAt.low hT262 hG336
   have hZ338 := TabZ.keepsI hZ323 hK333 hlz325
   have hT339 := TabZ.at hZ338 hT324
   refine wpo_assign (v := .int .i64 m326) rfl rfl ?_
   refine wpo_nil ?_
   refine wpf_seq ?_
   refine wpf_seq_region_mid (fun f' w' => (f' 0 = .slice a ms.length c ∧ f' 3 = .pointer (some ⟨B101, 0, none⟩) ∧ f' 4 = .bool false ∧ f' 6 = .slice a259 us258.length cap260 ∧ f' 8 = .slice a289 us288.length cap290 ∧ f' 48 = .bool (decide (m326 < 0))) ∧ w334.grownBy w' none) ?_ ?_
   ·
    refine wpo_move (v := .int .i64 m326) rfl rfl ?_
    refine wpo_lss (q := decide (m326 < 0)) rfl rfl rfl rfl ?_
    refine wpo_move (v := .bool (decide (m326 < 0))) rfl rfl ?_
    rcases bcases (decide (m326 < 0)) with h343 | h343
    ·
     have h344 := of_decide_eq_true h343
     iterate 4 refine wpo_pass rfl rfl rfl h343 rfl ?_
     refine wpo_pickt (v := .bool true) rfl h343 rfl rfl ?_
     exact wpo_nil ⟨⟨e248, e249, e250, rfl, rfl, (congrArg Value.bool (by first | (simp only [h112, h343, b0, b1, b2, b3, b4, b5, b6, b7, b8, b9]; done) | simp [h112, h343]))⟩, (World.grownBy.refl _ _)⟩
    ·
     have h345 := of_decide_eq_false h343
     refine wpo_run rfl rfl rfl h343 ?_
     refine wpo_move (v := .slice a289 us288.length cap290) rfl rfl ?_
     refine wpo_run rfl rfl rfl h343 ?_
     refine wpo_move (v := .slice a259 us258.length cap260) rfl rfl ?_
     refine wpo_run rfl rfl rfl h343 ?_
     refine wpo_call (vs := [.slice a289 us288.length cap290, .slice a259 us258.length cap260]) gf_31 (args_cons rfl (args_cons rfl args_nil)) rfl (eqThingS_c _ us288 us258 _ _ _ _ hT339 hT337 hTl297 hTl266 (by omega) (by omega)) ?_
     rintro _ w346 ⟨rfl, hg347⟩
     have hb348 := low0 hb335 hg347
     refine wpo_run rfl rfl rfl h343 ?_
     refine wpo_not (b' := false) (congrArg Value.bool (decide_eq_true (hc300.trans hc269.symm))) rfl rfl ?_
     refine wpo_pickf (v := .bool false) rfl h343 rfl rfl ?_
     exact wpo_nil ⟨⟨e248, e249, e250, rfl, rfl, (congrArg Value.bool (by first | (simp only [h112, h343, b0, b1, b2, b3, b4, b5, b6, b7, b8, b9]; done) | simp [h112, h343]))⟩, hg347⟩
   ·
    rintro f349 w350 ⟨⟨e351, e352, e353, e354, e355, e356⟩, hg357⟩
    have hb358 := low0 hb335 hg357
    have h359 : decide (m326 < 0) = false := decide_eq_false (by omega)
    have h360 := of_decide_eq_false h359
    refine wpf_condf e356 h359 ?_
    refine wpf_skip ?_
    refine thn_n ?_
    refine wpf_seq_region ?_
    refine wpo_assign (v := .int .i64 1) rfl rfl ?_
    refine wpo_nil ?_
    refine wpf_seq_region ?_
    refine wpo_move (v := .slice a289 us288.length cap290) e355 rfl ?_
    refine wpo_move (v := .int .i64 1) rfl rfl ?_
    have hI361 := TabZ.start (n := 1) (TabZ.low hZ338 hg357) (Nat.le_refl _)
    have hlo362 : w.heap.size ≤ w285.heap.size := hb287.size
    have hs363 : w265.heap.size ≤ w285.heap.size := ((grown_trans hg278 hg286)).size
    have hG364 := (grown_trans hG336 hg357)
    refine wpo_call (vs := [.slice a289 us288.length cap290, .int .i64 1]) gf_32 (args_cons rfl (args_cons rfl args_nil)) rfl (markT_z _ _ 1 (by omega) _ _ us288 _ hI361 hTl297 (by omega)) ?_
    rintro _ w373 ⟨m365, ps366, rfl, hm367, hm368, hpl369, hTl370, hI371, hK372⟩
    have hb374 := KeepsI.grown hb358 hK372 (by omega)
    have hG375 := KeepsI.grown hG364 hK372 hs363
    have hT376 := TabAt.low hT262 hG375
    refine wpo_assign (v := .int .i64 m365) rfl rfl ?_
    refine wpo_nil ?_
    refine wpf_seq_region ?_
    refine wpo_assign (v := .int .i64 1) rfl rfl ?_
    refine wpo_nil ?_
    refine wpf_seq_region ?_
    refine wpo_move (v := .slice a289 us288.length cap290) e355 rfl ?_
    refine wpo_move (v := .int .i64 1) rfl rfl ?_
    refine wpo_call (vs := [.slice a289 us288.length cap290, .int .i64 1]) gf_33 (args_cons rfl (args_cons rfl args_nil)) rfl (heldT_z _ _ 1 (by omega) _ _ _ _ ps366 _ hpl369 (TabI.low hI371 (World.grownBy.refl _ none)) hTl370 (by omega)) ?_
    rintro _ w377 ⟨rfl, hg378⟩
    have hb379 := low0 hb374 hg378
    refine wpo_assign (v := .int .i64 m365) rfl rfl ?_
    refine wpo_nil ?_
    refine wpf_seq ?_
    refine wpf_seq_region ?_
    refine wpo_move (v := .int .i64 m365) rfl rfl ?_
    refine wpo_lss (q := decide (m365 < 0)) rfl rfl rfl rfl ?_
    refine wpo_nil ?_
    have h380 : decide (m365 < 0) = false := decide_eq_false (by omega)
    have h381 := of_decide_eq_false h380
    refine wpf_condf rfl h380 ?_
    refine wpf_skip ?_
    refine thn_n ?_
    refine wpf_seq ?_
    refine wpf_seq_region ?_
    refine wpo_move (v := .int .i64 m365) rfl rfl ?_
    refine wpo_move (v := .int .i64 m365) rfl rfl ?_
    refine wpo_neq (q := false) rfl rfl (by simp) rfl ?_
    refine wpo_nil ?_
    refine wpf_condf rfl rfl ?_
    refine wpf_skip ?_
    refine thn_n ?_
    refine wpf_seq ?_
    refine wpf_drawI (m := 3) [[], [0], [], [0, 1, 2], [0, 1, 2, 3], [0, 1, 2, 3, 4]] (fun S F w' => ∃ (B466 : Nat) (ys467 : List MTh), w377.grownBy w' none ∧ F 0 = .slice a ms.length c ∧ F 3 = .pointer (some ⟨B101, 0, none⟩) ∧ F 4 = .bool false ∧ F 6 = .slice a259 us258.length cap260 ∧ F 8 = .slice a289 us288.length cap290 ∧ F 10 = .int .i64 m365 ∧ F 11 = .int .i64 m365 ∧ (S 0 = true → F 60 = .slice a ms.length c) ∧ (S 1 = true → F 61 = .slice (some ⟨B466, 0, none⟩) ys467.length ys467.length ∧ tabT ys467 = tabT ms ∧ TabLen ys467 ∧ ys467.length = ms.length ∧ TabAt w' (some ⟨B466, 0, none⟩) ys467) ∧ (S 2 = true → F 62 = .agg #[.int .i64 l.s, .int .i64 l.v])) mixed_ (by kernel_rfl) ⟨0, [], grown_drew _, e351, e352, e353, e354, e355, rfl, rfl, not_begun, not_begun, not_begun⟩ ?_ ?_
    ·
     refine preL_cons (fun S F w479 hS hbef hcl hI => ?_) ?_
     ·
      obtain ⟨B466, ys467, hi480, e481, e482, e483, e484, e485, e486, e487, c_0, c_1, c_2⟩ := hI
      have hb488 := low0 hb379 hi480
      refine wpo_move (v := .slice a ms.length c) e481 rfl ?_
      exact wpo_nil ⟨B466, ys467, hi480, e481, e482, e483, e484, e485, e486, e487, fun _ => rfl, fun h => undone 1 hS hcl rfl h, c_2⟩
     refine preL_cons (fun S F w489 hS hbef hcl hI => ?_) ?_
     ·
      obtain ⟨B466, ys467, hi490, e491, e492, e493, e494, e495, e496, e497, c_0, c_1, c_2⟩ := hI
      have hb498 := low0 hb379 hi490
      obtain e499 := c_0 (ready_of 0 hbef rfl)
      refine wpo_call (vs := [.slice a ms.length c]) gf_29 (args_cons e499 args_nil) rfl (toThingS_c _ ms _ _ (TabAt.low ht hb498) hlen114 (by omega)) ?_
      rintro _ w507 ⟨B500, ys501, rfl, he502, hge503, k504, hX505, hg506⟩
      have hb511 := low0 hb498 hg506
      have hT508 : TabAt w507 (some ⟨B500, 0, none⟩) ys501 := ⟨rows_sl wide_mth k504, fun m hm => (hX505 m hm).at⟩
      have hTl509 := TabLen.of he502 hlen114
      have hll510 := tabT_length he502
      exact wpo_nil ⟨B500, ys501, (low0 hi490 hg506), e491, e492, e493, e494, e495, e496, e497, c_0, fun _ => ⟨rfl, he502, hTl509, hll510, hT508⟩, c_2⟩
     refine preL_cons (fun S F w512 hS hbef hcl hI => ?_) ?_
     ·
      obtain ⟨B466, ys467, hi513, e514, e515, e516, e517, e518, e519, e520, c_0, c_1, c_2⟩ := hI
      have hb521 := low0 hb379 hi513
      have k522 := (((Blk.keepsI ((Blk.keepsI (((((k284.grown0 hg286).grown0 hg295).grown0 hg302).grown0 hg310).grown0 hg317) hK333 (Or.inr (Or.inr (by decide)))).grown0 hg357) hK372 (Or.inr (Or.inr (by decide)))).grown0 hg378).grown0 hi513)
      refine wpo_loadn (vs := [.int .i64 l.s, .int .i64 l.v]) rt_50 e515 rfl (k522.rangeL 0 2 rfl) rfl ?_
      exact wpo_nil ⟨B466, ys467, hi513, e514, e515, e516, e517, e518, e519, e520, c_0, c_1, fun _ => rfl⟩
     exact preL_nil
    ·
     intro S F w523 hall hI
     obtain ⟨B466, ys467, hi524, e525, e526, e527, e528, e529, e530, e531, c_0, c_1, c_2⟩ := hI
     have hb532 := low0 hb379 hi524
     obtain e533 := c_0 (hall 0 (by decide))
     obtain ⟨e534, he468, hTl475, hll476, hT474⟩ := c_1 (hall 1 (by decide))
     obtain e535 := c_2 (hall 2 (by decide))
     refine wpo_call (vs := [.agg #[.int .i64 l.s, .int .i64 l.v]]) gf_30 (args_cons e535 args_nil) rfl (toLabel_c l _) ?_
     rintro _ w536 ⟨rfl, hg537⟩
     have hb538 := low0 hb532 hg537
     refine wpo_call (vs := [.slice (some ⟨B466, 0, none⟩) ys467.length ys467.length, .agg #[.int .i64 l.s, .int .i64 l.v]]) gf_12 (args_cons e534 (args_cons rfl args_nil)) rfl (ViewRule.rule _ ys467 _ _ l (Nat.le_trans hKB hb538.size) (TabAt.low hT474 hg537) hTl475 (by omega)) ?_
     rintro _ w546 ⟨us539, a540, cap541, rfl, he542, hT543, hnc544, _, hg545⟩
     have hb549 := low0 hb538 hg545
     have hTl547 := viewTab_lens he542 hTl475
     have hll548 := viewTab_le he542
     have hc550 : tabT us539 = viewTab (tabT ms) l := by rw [← he468]; exact he542
     refine wpo_assign (v := .slice a540 us539.length cap541) rfl rfl ?_
     refine wpo_nil ?_
     refine thn_n ?_
     refine wpf_seq ?_
     refine wpf_seq_region ?_
     refine wpo_move (v := .slice a540 us539.length cap541) rfl rfl ?_
     refine wpo_move (v := .slice a259 us258.length cap260) e528 rfl ?_
     refine wpo_call (vs := [.slice a540 us539.length cap541, .slice a259 us258.length cap260]) gf_31 (args_cons rfl (args_cons rfl args_nil)) rfl (eqThingS_c _ us539 us258 _ _ _ _ hT543 (TabAt.low hT376 (grown_trans (grown_trans (grown_trans hg378 hi524) hg537) hg545)) hTl547 hTl266 (by omega) (by omega)) ?_
     rintro _ w551 ⟨rfl, hg552⟩
     have hb553 := low0 hb549 hg552
     refine wpo_not (b' := false) (congrArg Value.bool (decide_eq_true (hc550.trans hc269.symm))) rfl rfl ?_
     refine wpo_nil ?_
     refine wpf_condf rfl rfl ?_
     refine wpf_skip ?_
     refine thn_n ?_
     refine wpf_seq_region ?_
     refine wpo_assign (v := .int .i64 1) rfl rfl ?_
     refine wpo_nil ?_
     refine wpf_seq_region ?_
     refine wpo_move (v := .slice a289 us288.length cap290) e529 rfl ?_
     refine wpo_move (v := .int .i64 1) rfl rfl ?_
     refine wpo_call (vs := [.slice a289 us288.length cap290, .int .i64 1]) gf_33 (args_cons rfl (args_cons rfl args_nil)) rfl (heldT_z _ _ 1 (by omega) _ _ _ _ ps366 _ hpl369 (TabI.low hI371 (grown_trans (grown_trans (grown_trans (grown_trans hg378 hi524) hg537) hg545) hg552)) hTl370 (by omega)) ?_
     rintro _ w554 ⟨rfl, hg555⟩
     have hb556 := low0 hb553 hg555
     refine wpo_assign (v := .int .i64 m365) rfl rfl ?_
     refine wpo_nil ?_
     refine wpf_seq ?_
     refine wpf_seq_region ?_
     refine wpo_move (v := .int .i64 m365) rfl rfl ?_
     refine wpo_lss (q := decide (m365 < 0)) rfl rfl rfl rfl ?_
     refine wpo_nil ?_
     refine wpf_condf rfl h380 ?_
     refine wpf_skip ?_
     refine thn_n ?_
     refine wpf_seq ?_
     refine wpf_seq_region ?_
     refine wpo_move (v := .int .i64 m365) rfl rfl ?_
     refine wpo_move (v := .int .i64 m365) e530 rfl ?_
     refine wpo_neq (q := false) rfl rfl (by simp) rfl ?_
     refine wpo_nil ?_
     refine wpf_condf rfl rfl ?_
     refine wpf_skip ?_
     refine thn_n ?_
     refine wpf_seq_region ?_
     refine wpo_assign (v := .bool true) rfl rfl ?_
     refine wpo_nil ?_
     refine wpf_ret ?_
     refine ⟨.bool true, res1 rfl rfl, ?_, hb556⟩
     rfl
end Go.Dw.J
end
section
namespace Go.Dw
open Go.ChangeShapes Go.WideShapes Go.ChangeAt Go.RowKit Go.Deep
def fieldIs (P : Program) (t k off ty : Nat) : Bool :=
  match P.underlying t with
  | some (.struct fs) => match fs[k]? with
    | some fl => fl.offset == off && fl.type == ty
    | none => false
  | _ => false
section
variable {H : Type} {enc : TypeId × Value → H} {P : Program} {w : World} {base : Nat} {spare : Nat → Bool} {held : Bool} {fuel : Nat} {cs : List Value} {x : DataW H × List MemPlace}
theorem trod_field {t k off ty : Nat} (hf : fieldIs P t k off ty = true) (h : DataW.trod enc P w base spare held fuel t cs = some x) :
    cs.length = P.cellsOf t ∧ ∃ n y, DataW.trod enc P w base spare held n ty ((cs.drop off).take (P.cellsOf ty)) = some y := by
  unfold fieldIs at hf
  split at hf
  · rename_i fs hu
    split at hf
    · rename_i fl hfl
      simp only [Bool.and_eq_true, beq_iff_eq] at hf
      obtain ⟨rfl, rfl⟩ := hf
      obtain ⟨xs, n, _, _, hl, hxl, hat⟩ := DataW.trod_struct hu h
      have hk := (Array.getElem?_eq_some_iff.1 hfl).1
      refine ⟨hl, n, xs[k]'(by omega), ?_⟩
      rw [hat k fl hfl, List.getElem?_eq_getElem (by omega)]
    · cases hf
  · cases hf
theorem cell_of_take {off : Nat} {v : Value} (h : (cs.drop off).take 1 = [v]) : cs[off]? = some v := by
  have := congrArg (fun l : List Value => l[0]?) h
  simpa using this
theorem field_int {t k off ty : Nat} (hf : fieldIs P t k off ty = true) (ht : P.underlying ty = some (.int .i64)) (hc : P.cellsOf ty = 1) (h : DataW.trod enc P w base spare held fuel t cs = some x) : ∃ n : Int, cs[off]? = some (.int .i64 n) ∧ (Lit.int .i64 n).wf = true := by
  obtain ⟨_, n, y, hy⟩ := trod_field hf h
  rw [hc] at hy
  obtain ⟨m, hm, _, hw⟩ := DataW.trod_int ht hy
  exact ⟨m, cell_of_take hm, hw⟩
theorem field_bool {t k off ty : Nat} (hf : fieldIs P t k off ty = true) (ht : P.underlying ty = some .bool) (hc : P.cellsOf ty = 1) (h : DataW.trod enc P w base spare held fuel t cs = some x) : ∃ b : Bool, cs[off]? = some (.bool b) := by
  obtain ⟨_, n, y, hy⟩ := trod_field hf h
  rw [hc] at hy
  obtain ⟨m, hm, _⟩ := DataW.trod_bool ht hy
  exact ⟨m, cell_of_take hm⟩
structure RtTy (P : Program) (t i b : TypeId) : Prop where
  f0 : fieldIs P t 0 0 i = true
  f1 : fieldIs P t 1 1 i = true
  f2 : fieldIs P t 2 2 b = true
  f3 : fieldIs P t 3 3 b = true
  f4 : fieldIs P t 4 4 b = true
  c : P.cellsOf t = 5
  ui : P.underlying i = some (.int .i64)
  ub : P.underlying b = some .bool
  ci : P.cellsOf i = 1
  cb : P.cellsOf b = 1
theorem read_rt {t i b : TypeId} (ht : RtTy P t i b) (h : DataW.trod enc P w base spare held fuel t cs = some x) : ∃ r : Rt, cs = r.cells ∧ (Lit.int .i64 r.th).wf = true ∧ (Lit.int .i64 r.ve).wf = true := by
  obtain ⟨n0, h0, w0⟩ := field_int ht.f0 ht.ui ht.ci h
  obtain ⟨n1, h1, w1⟩ := field_int ht.f1 ht.ui ht.ci h
  obtain ⟨b2, h2⟩ := field_bool ht.f2 ht.ub ht.cb h
  obtain ⟨b3, h3⟩ := field_bool ht.f3 ht.ub ht.cb h
  obtain ⟨b4, h4⟩ := field_bool ht.f4 ht.ub ht.cb h
  have hl := (trod_field ht.f0 h).1
  rw [ht.c] at hl
  refine ⟨⟨n0, n1, b2, b3, b4⟩, ?_, w0, w1⟩
  match cs, hl with
  | [c0, c1, c2, c3, c4], _ =>
    simp at h0 h1 h2 h3 h4
    simp [Rt.cells, h0, h1, h2, h3, h4]
theorem read_slice {α : Type} {g : α → List Value} {ok : α → Prop} {t e : TypeId} {sz : Nat} (ht : P.underlying t = some (.slice e)) (hc : P.cellsOf e = sz) (hz : 0 < sz) (hg : Wide g sz) (hrd : ∀ n cs x, DataW.trod enc P w base spare held n e cs = some x → ∃ a, cs = g a ∧ ok a)
    (h : DataW.trod enc P w base spare held fuel t cs = some x) :
    ∃ (a : Option Addr) (xs : List α) (c : Nat), cs = [.slice a xs.length c] ∧ xs.length ≤ c ∧ c ≤ maxLen ∧ SlAt w a sz (xs.map g) ∧ (∀ y ∈ xs, ok y) ∧ (a = none → c = 0) := by
  rcases open_slice ht h with ⟨rfl, _⟩ | ⟨a, len, cap, m, n, D, Pl, rfl, _, hl, hm, hmm, _, hi⟩
  · exact ⟨none, [], 0, rfl, Nat.le_refl _, Nat.zero_le _, fun k x hk => by simp at hk, fun y hy => by simp at hy, fun _ => rfl⟩
  · have hlm : len ≤ m := by
      rw [hmm]; split <;> omega
    have hex : ∀ i : Fin len, ∃ y : α, ok y ∧ ∀ j, j < sz → w.cell? (a.add (i.val * sz + j)) = (g y)[j]? := fun i => by
      obtain ⟨cs', hcs, htr⟩ := hi i.val (by omega)
      obtain ⟨y, rfl, hy⟩ := hrd _ _ _ htr
      rw [hc] at hcs
      obtain ⟨_, _, hat⟩ := World.cells?_some hcs
      refine ⟨y, hy, fun j hj => ?_⟩
      rw [← hat j hj, add_add]
    refine ⟨some a, List.ofFn fun i : Fin len => Classical.choose (hex i), cap, by simp, by simpa using hl, hm, fun k x hk => ?_, fun y hy => ?_, fun hn => by cases hn⟩
    · rw [List.getElem?_map] at hk
      cases hy : (List.ofFn fun i : Fin len => Classical.choose (hex i))[k]? with
      | none => rw [hy] at hk; simp at hk
      | some y =>
        rw [hy] at hk
        obtain rfl : g y = x := by simpa using hk
        have hkl : k < len := by
          have := (List.getElem?_eq_some_iff.1 hy).1
          simpa using this
        have hye : Classical.choose (hex ⟨k, hkl⟩) = y := by
          rw [List.getElem?_ofFn] at hy
          simpa [hkl] using hy
        have hat := (Classical.choose_spec (hex ⟨k, hkl⟩)).2
        rw [hye] at hat
        obtain ⟨b, o, spot⟩ := a
        have hspot : spot = none := by
          obtain ⟨y0, _, hy0⟩ := hex ⟨0, by omega⟩
          have h0 := hy0 0 hz
          obtain ⟨v, hv⟩ : ∃ v, (g y0)[0]? = some v := ⟨_, List.getElem?_eq_getElem (by rw [hg]; exact hz)⟩
          rw [hv] at h0
          have := World.cell?_spot h0
          simpa [Addr.add] using this
        subst hspot
        refine ⟨b, o, rfl, fun j v hj => ?_⟩
        have hjl : j < sz := by rw [← hg y]; exact (List.getElem?_eq_some_iff.1 hj).1
        rw [← hj, ← hat j hjl]
        simp only [Addr.add]
        split
        · rename_i he
          rw [show o + k * sz + j = o by omega]
        · rw [show o + (k * sz + j) = o + k * sz + j by omega]
    · obtain ⟨i, rfl⟩ := List.mem_ofFn.1 hy
      exact (Classical.choose_spec (hex i)).1
theorem open_st {α : Type} {g : α → List Value} {ok : α → Prop} {r : Reach} {b0 : Nat} {t : TypeId} {v : Value} {d : DataW H} {p : List MemPlace} (hs : (match P.underlying t with | some (.struct _) => true | _ => false) = true)
    (hrd : ∀ n cs x, DataW.trod enc P w base spare held n t cs = some x → ∃ a, cs = g a ∧ ok a) (hv : Value.okWide P w r b0 t v) (h : DataW.Trod enc P w base spare held t v d p) : ∃ q : α, v = .agg (g q).toArray ∧ ok q := by
  cases hu : P.underlying t with
  | none => rw [hu] at hs; cases hs
  | some dd =>
    rw [hu] at hs
    cases dd with
    | struct fs =>
      obtain ⟨cs, rfl, _⟩ := okWide_struct hu hv
      obtain ⟨fuel, hf⟩ := h
      obtain ⟨q, hq, h1⟩ := hrd _ _ _ hf
      refine ⟨q, ?_, h1⟩
      have : cs.toList = g q := by simpa [Value.cells] using hq
      rw [← this]
    | _ => cases hs
theorem open_sl {α : Type} {g : α → List Value} {ok : α → Prop} {r : Reach} {b0 : Nat} {t e sz : Nat} {v : Value} {d : DataW H} {p : List MemPlace} (hs : P.underlying t = some (.slice e)) (hc : P.cellsOf e = sz) (hz : 0 < sz) (hg : Wide g sz)
    (hrd : ∀ n cs x, DataW.trod enc P w base spare held n e cs = some x → ∃ a, cs = g a ∧ ok a) (hv : Value.okWide P w r b0 t v) (h : DataW.Trod enc P w base spare held t v d p) :
    ∃ (a : Option Addr) (xs : List α) (c : Nat), v = .slice a xs.length c ∧ xs.length ≤ 9223372036854775807 ∧ xs.length ≤ c ∧ SlAt w a sz (xs.map g) ∧ ∀ y ∈ xs, ok y := by
  obtain ⟨a, len, cap, rfl⟩ := okWide_slice hs hv
  obtain ⟨fuel, hf⟩ := h
  obtain ⟨a', xs, c, h1, h2, h3, h4, h5, h7⟩ := read_slice hs hc hz hg hrd hf
  have h6 : Value.slice a len cap = .slice a' xs.length c := by simpa [Value.cells] using h1
  refine ⟨a', xs, c, h6, ?_, h2, h4, h5⟩
  have : maxLen = 9223372036854775807 := by decide
  omega
theorem read_i {t : TypeId} (ht : P.underlying t = some (.int .i64)) (h : DataW.trod enc P w base spare held fuel t cs = some x) : ∃ n : Int, cs = icell n ∧ (Lit.int .i64 n).wf = true := by
  obtain ⟨n, hn, _, hw⟩ := DataW.trod_int ht h
  exact ⟨n, hn, hw⟩
structure LabTy (P : Program) (t i : TypeId) : Prop where
  f0 : fieldIs P t 0 0 i = true
  f1 : fieldIs P t 1 1 i = true
  c : P.cellsOf t = 2
  ui : P.underlying i = some (.int .i64)
  ci : P.cellsOf i = 1
def Lab.wf (l : Lab) : Prop := (Lit.int .i64 l.s).wf = true ∧ (Lit.int .i64 l.v).wf = true
theorem read_lab {t i : TypeId} (ht : LabTy P t i) (h : DataW.trod enc P w base spare held fuel t cs = some x) : ∃ l : Lab, cs = l.cells ∧ l.wf := by
  obtain ⟨n0, h0, w0⟩ := field_int ht.f0 ht.ui ht.ci h
  obtain ⟨n1, h1, w1⟩ := field_int ht.f1 ht.ui ht.ci h
  have hl := (trod_field ht.f0 h).1
  rw [ht.c] at hl
  refine ⟨⟨n0, n1⟩, ?_, w0, w1⟩
  match cs, hl with
  | [c0, c1], _ =>
    simp at h0 h1
    simp [Lab.cells, h0, h1]
def Cl.wf (q : Cl) : Prop := (Lit.int .i64 q.kind).wf = true ∧ (Lit.int .i64 q.run).wf = true ∧ (Lit.int .i64 q.a).wf = true ∧ (Lit.int .i64 q.b).wf = true ∧ (Lit.int .i64 q.n).wf = true
structure ThTy (P : Program) (t i lb rs qs re b : TypeId) : Prop where
  f0 : fieldIs P t 0 0 i = true
  f1 : fieldIs P t 1 1 lb = true
  f2 : fieldIs P t 2 3 i = true
  f3 : fieldIs P t 3 4 i = true
  f4 : fieldIs P t 4 5 rs = true
  f5 : fieldIs P t 5 6 qs = true
  f6 : fieldIs P t 6 7 i = true
  c : P.cellsOf t = 8
  ui : P.underlying i = some (.int .i64)
  ci : P.cellsOf i = 1
  cr : P.cellsOf rs = 1
  cq : P.cellsOf qs = 1
  ur : P.underlying rs = some (.slice re)
  uq : P.underlying qs = some (.slice i)
  lab : LabTy P lb i
  rt : RtTy P re i b
def MTh.inn (w : World) (m : MTh) : Prop := ThAt w m ∧ (m.t.slots.length ≤ 9223372036854775807 ∧ m.t.queue.length ≤ 9223372036854775807) ∧ m.t.lab.wf
theorem read_th {t i lb rs qs re b : TypeId} (ht : ThTy P t i lb rs qs re b) (h : DataW.trod enc P w base spare held fuel t cs = some x) : ∃ m : MTh, cs = m.cells ∧ m.inn w := by
  obtain ⟨n0, h0, w0⟩ := field_int ht.f0 ht.ui ht.ci h
  obtain ⟨_, y1, z1, hz1⟩ := trod_field ht.f1 h
  rw [ht.lab.c] at hz1
  obtain ⟨l, hl1, hl2⟩ := read_lab ht.lab hz1
  obtain ⟨n2, h2, w2⟩ := field_int ht.f2 ht.ui ht.ci h
  obtain ⟨n3, h3, w3⟩ := field_int ht.f3 ht.ui ht.ci h
  obtain ⟨_, y4, z4, hz4⟩ := trod_field ht.f4 h
  rw [ht.cr] at hz4
  obtain ⟨sa, ss, sc, hs1, hs2, hs3, hs4, _, hs5⟩ := read_slice (g := Rt.cells) (ok := fun q => (Lit.int .i64 q.th).wf = true ∧ (Lit.int .i64 q.ve).wf = true) ht.ur ht.rt.c (by omega) wide_rt (fun n cs x hx => read_rt ht.rt hx) hz4
  obtain ⟨_, y5, z5, hz5⟩ := trod_field ht.f5 h
  rw [ht.cq] at hz5
  obtain ⟨qa, qs', qc, hq1, hq2, hq3, hq4, _, hq5⟩ := read_slice (g := icell) (ok := fun q => (Lit.int .i64 q).wf = true) ht.uq ht.ci (by omega) wide_int (fun n cs x hx => read_i ht.ui hx) hz5
  obtain ⟨n6, h6, w6⟩ := field_int ht.f6 ht.ui ht.ci h
  have hl := (trod_field ht.f0 h).1
  rw [ht.c] at hl
  have hmx : maxLen = 9223372036854775807 := by decide
  refine ⟨⟨⟨n0, l, n2, n3, ss, qs', n6⟩, sa, sc, qa, qc⟩, ?_, ⟨hs4, hq4, hs5, hq5⟩, ⟨by dsimp only; omega, by dsimp only; omega⟩, hl2⟩
  match cs, hl with
  | [c0, c1, c2, c3, c4, c5, c6, c7], _ =>
    simp at h0 h2 h3 h6 hs1 hq1
    simp [Lab.cells] at hl1
    simp [MTh.cells, h0, h2, h3, h6, hs1, hq1, hl1]
theorem trodAll_below (hl : laidOutB P = true) {W W' : World} (hb : Below W.heap.size W W') : ∀ (ts : List TypeId) (vs : List Value) (ds : List (DataW H)) (ps : List MemPlace), ts.all (fun t => P.readableRec t && decide (t < P.types.size)) = true →
    DataW.TrodAll enc P W 0 (fun _ => true) true ts vs ds ps → (∀ y ∈ ps, y.block < W.heap.size) → DataW.TrodAll enc P W' 0 (fun b => decide (b < W.heap.size)) true ts vs ds ps
  | [], _, _, _, _, h, _ => by
    obtain ⟨rfl, rfl, rfl⟩ := trodAll_nil h
    exact rfl
  | t :: ts, _, _, _, ht, h, hlt => by
    obtain ⟨v, vs, d, ds, p, q, rfl, rfl, rfl, h1, h2⟩ := trodAll_cons h
    simp only [List.all_cons, Bool.and_eq_true, decide_eq_true_eq] at ht
    exact ⟨p, q, Below.trod hl ht.1.1 ht.1.2 h1 hb fun y hy => hlt y (List.mem_append_left _ hy), trodAll_below hl hb ts vs ds q ht.2 h2 fun y hy => hlt y (List.mem_append_right _ hy), rfl⟩
theorem post_true {f : Func} {s : ChangeSpec} {apart handsOn : Bool} {W W' : World} {args : Array Value} {ds gs : List (DataW H)} {before pa : List MemPlace} {tb : TypeId} (hl : laidOutB P = true)
    (hr : f.params.toList.all (fun t => P.readableRec t && decide (t < P.types.size)) = true) (hW : DataW.Whole enc P f.params.toList s.vars apart W args.toList ds gs before)
    (hA : DataW.TrodAll enc P W 0 (fun _ => true) true f.params.toList args.toList ds pa) (hlt : ∀ y ∈ pa, y.block < W.heap.size) (hs : s.fn H (ds ++ gs) = { results := [.lit (.bool true)], args := ds }) (hv : s.vars = [])
    (hres : f.resultTypes = #[tb]) (htb : P.underlying tb = some .bool) (hb : Below W.heap.size W W') : s.post enc P f apart true handsOn false W args (.bool true) W' := by
  refine ⟨ds, gs, before, [], pa, [], hW, ?_, ?_, ?_, hb.frame _, fun h => by cases h⟩
  · rw [hs, hres]
    exact trodAll_mk1 (shut_bool htb _)
  · rw [hs]
    exact trodAll_below hl hb _ _ _ _ hr hA hlt
  · rw [hs, hv]
    rfl
end
end Go.Dw
end
section
namespace Go.Dw.J
open Go.RowKit Go.Dw Go.Proofs
open Go.Conc (G solo)
set_option linter.unusedSectionVars false
set_option linter.unusedSimpArgs false
set_option linter.unusedVariables false
theorem seeO_not {o : Obj} (h : seeO o ≠ pz) : seeO o = o := by cases o <;> first | rfl | exact absurd rfl h
theorem seeAll_keep {W : World} : @Keep ⟨W.heap.size, W⟩ (seeAll W) W := by
  refine ⟨Nat.le_refl _, fun b hb => ?_⟩
  have hb' : b < W.heap.size := hb
  have e : W.heap[b]? = some W.heap[b] := Array.getElem?_eq_getElem hb'
  by_cases h : seeO W.heap[b] = pz
  · refine .inr ⟨fun hs => hs.2 ?_, rfl⟩
    rw [seeAll_get, e, Option.map_some, h]
  · refine .inl ⟨⟨by simpa [seeAll] using hb', fun e2 => h ?_⟩, ?_⟩
    · rw [seeAll_get, e, Option.map_some] at e2
      exact Option.some.inj e2
    · rw [seeAll_get, e, Option.map_some, seeO_not h]
theorem seeAll_sl {W : World} {a : Option Addr} {sz : Nat} {xs : List (List Value)} (h : SlAt W a sz xs) : SlAt (seeAll W) a sz xs := fun k x hk => by
  obtain ⟨b, o, ha, hr⟩ := h k x hk
  exact ⟨b, o, ha, fun j v hj => seeAll_cell (hr j v hj)⟩
theorem seeAll_th {W : World} {m : MTh} (h : ThAt W m) : ThAt (seeAll W) m := ⟨seeAll_sl h.1, seeAll_sl h.2.1, h.2.2⟩
theorem seeAll_tab {W : World} {a : Option Addr} {ms : List MTh} (h : TabAt W a ms) : TabAt (seeAll W) a ms := ⟨seeAll_sl h.1, fun m hm => seeAll_th (h.2 m hm)⟩
theorem law_good {k : FuncId} {fn : Func} {c : Code} {n : Nat} {args : Array Value} {W : World} (hf : Try.prog.funcs[k]? = some fn) (hb : fn.body = some c) (hn : fn.ntmps = n) (hs : Nat.ble args.size n = true) (hin : Try.prog.inits.idxOf? k = none)
    (law : ∀ [Comp] [ViewRule], ViewRule.base ≤ (seeAll W).heap.size → Wpf Try.prog n (endQ Try.prog fn (fun v w' => v = .bool true ∧ (seeAll W).grownBy w' none)) c (f0 args) (seeAll W)) :
    Runs Try.prog (fun v W' => v = .bool true ∧ Below W.heap.size W { W' with tape := W.tape }) (solo (G (Frame.enter Try.prog k args .normal) []) W) #[] := by
  letI : KeepD := ⟨W.heap.size, W⟩
  have hsz : (seeAll W).heap.size = W.heap.size := by simp [seeAll]
  refine runs_start seeAll_keep (bes_top OKV okv hf hb hn hs hin (R := fun v w' => v = .bool true ∧ (seeAll W).grownBy w' none) (fun v A' w ⟨hv, hg⟩ hsee hk => ⟨hv, ?_⟩) (@law (comp0 OKV) viewRule (Nat.le_of_eq hsz.symm)))
  refine ⟨hsee.os.symm.trans hg.os, rfl, hsee.output.symm.trans hg.output, hk.1, fun b hb' => ?_⟩
  show w.heap[b]? = W.heap[b]?
  have e : W.heap[b]? = some W.heap[b] := Array.getElem?_eq_getElem hb'
  rcases hk.2 b hb' with ⟨h1, h2⟩ | ⟨_, h2⟩
  · have h3 := hg.block b (by rw [hsz]; exact hb') (by simp)
    rw [seeAll_get, e, Option.map_some] at h3
    have h4 : seeO W.heap[b] ≠ pz := fun h => h1.2 (by rw [h3, h])
    rw [← h2, h3, seeO_not h4, e]
  · exact h2
end Go.Dw.J
namespace Go.Dw
theorem post_tape {H : Type} {enc : TypeId × Value → H} {P : Program} {f : Func} {s : ChangeSpec} {apart fresh handsOn : Bool} {W W' : World} {args : Array Value} {v : Value} {tp : Tape} (h : s.post enc P f apart fresh handsOn false W args v { W' with tape := tp }) : s.post enc P f apart fresh handsOn false W args v W' := by
  obtain ⟨ds, gs, before, pr, pa, pv, h1, h2, h3, h4, h5, h6⟩ := h
  exact ⟨ds, gs, before, pr, pa, pv, h1, DataW.TrodAll.of_heap (w' := W') (by rfl) h2, DataW.TrodAll.of_heap (w' := W') (by rfl) h3, DataW.TrodVars.of_heap (w' := W') (by rfl) h4, h5, fun h => by cases h⟩
end Go.Dw
end
